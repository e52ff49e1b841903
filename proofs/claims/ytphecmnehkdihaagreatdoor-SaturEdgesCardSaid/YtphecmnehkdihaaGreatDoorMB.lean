/- copy, clear. -/
import Derived.Test.YtphecmnehkdihaaGreatDoorMA
import Derived.Laws.IdiomStrings
import Derived.OrdersIn
import Derived.TacticsIn
import Derived.LoopNIn
import Derived.RangeFuncRecord
import Derived.Sort.Grow
set_option maxRecDepth 100000
set_option maxHeartbeats 8000000
namespace Go.Pv
open Go
section
variable {P:Program}{E:Env}{w0 w:World}{I0:IMap}{nt:Nat}{γ:Nat→Option Place}{I:IMap}{st:St}{a:Act}{o:Oper}{ub:Nat}{δ:Delta}
theorem jfp {ob:ZO}{hp:Array Obj}{k:Kd}{arr:Array Value}{e:TypeId}{cs vs:List V}{vals:List Value}{off:Nat}(n:arr.size=k.size) (l:cs.length≤k.size)
 (i:∀ (j:Nat) (x:Value) (v:V),arr[j]? = some x→cs[j]? = some v→v.leaf=true∧Rep γ I x v) (p:vals.length=vs.length) (f:off+vs.length≤cs.length)
 (m:∀ (j:Nat) (x:Value) (v:V),vals[j]? = some x→vs[j]? = some v→v.leaf=true∧Rep γ I x v) :
 ObjOk γ I ob hp k (some (.cells (arr.toList.take off++vals++arr.toList.drop (off+vals.length)).toArray e (0,0))) (.cells (j2 cs off vs)):=by
 refine⟨_,e,rfl,?_,by rw[WG _ _ _ zO];exact l,?_⟩
 ·simp only[List.size_toArray,List.length_append,List.length_take,List.length_drop,Array.length_toList]
  omega
 ·intro j x v c b
  rw[jbi _ _ _ zO]at b
  simp only[List.getElem?_toArray]at c
  by_cases g:off≤j∧j<off+vs.length
  ·rw[if_pos g]at b
   rw[List.getElem?_append_left (by simp only[List.length_append,List.length_take,Array.length_toList];omega),List.getElem?_append_right (by simp only[List.length_take,Array.length_toList];omega)]at c
   have d:j - (List.take off arr.toList).length=j - off:=by simp only[List.length_take,Array.length_toList];omega
   rw[d]at c
   exact m (j - off) x v c b
  ·rw[if_neg g]at b
   refine i j x v ?_ b
   by_cases h:j<off
   ·rw[List.append_assoc,List.getElem?_append_left (by simp only[List.length_take,Array.length_toList];omega),List.getElem?_take_of_lt h]at c
    simpa using c
   ·rw[List.getElem?_append_right (by simp only[List.length_append,List.length_take,Array.length_toList];omega),List.getElem?_drop]at c
    have d:off+vals.length+(j - (List.take off arr.toList++vals).length)=j:=by
     simp only[List.length_append,List.length_take,Array.length_toList]
     omega
    rw[d]at c
    simpa using c
theorem jk1 {l u off n sz:Nat}{cs vs:List V}{vals:List Value}{b:Nat}{J:Kd}{M:Addr}{cap:Nat}(U:R E w0 I0 nt γ I st a w) (D:st.ob l=some ⟨u,.cells cs⟩) (F:γ u=some (.obj b J))
 (s:0<cap→M=⟨b,off,none⟩∧off+cap*sz≤J.size) (hc:n≤cap) (q:vals.length=vs.length) (d:off+vs.length≤cs.length) (T:vs.length≤n*sz)
 (r:∀ (j:Nat) (x:Value) (v:V),vals[j]? = some x→vs[j]? = some v→v.leaf=true∧Rep γ I x v) :
 ∃f,(storeCells M vals).run P w=.ok () f∧∀i k,γ u=some (.obj i k)→i<w.heap.size→(f.os=w.os∧f.tape=w.tape∧f.output=w.output∧f.heap.size=w.heap.size∧(∀k,k≠i→f.heap[k]? = w.heap[k]?) ∧
  ObjOk γ I st.ob w.heap k f.heap[i]? (.cells (j2 cs off vs))):=by
 obtain⟨arr,e,B,H,K,L⟩:=Wm U D F
 cases g:vals with
 | nil=>
  rw[g]at q r
  have y:vs=[]:=List.eq_nil_of_length_eq_zero q.symm
  subst y
  refine⟨w,rfl,fun i k c z=>?_⟩
  rw[F]at c
  cases c
  refine⟨rfl,rfl,rfl,rfl,fun _ _=>rfl,?_⟩
  have:=jfp (ob:=st.ob) (hp:=w.heap) (e:=e) (vs:=[]) (vals:=[]) H K L rfl d r
  simp only[List.append_nil,List.length_nil,Nat.add_zero,List.take_append_drop,Array.toArray_toList]at this
  rw[B]
  exact this
 | cons v0 vr=>
  rw[← g]
  have G:0<vs.length:=by rw[← q,g];simp
  have Q:0<n:=by
   rcases Nat.eq_zero_or_pos n with h|h
   ·subst h;simp only[Nat.zero_mul]at T;omega
   ·exact h
  obtain⟨rfl,_⟩:=s zO
  have p:∀v∈vals,v.oneCell'=true:=by
   intro v t
   obtain⟨j,X,rfl⟩:=List.mem_iff_getElem.1 t
   have S:vs[j]? = some (vs[j]' zO):=List.getElem?_eq_getElem _
   obtain⟨N,Z⟩:=r j _ _ (List.getElem?_eq_getElem X) S
   exact Z.oneCell N
  have m:=run_storeCells_at P b off e vals 0 arr w B (by simp only[Nat.add_zero];omega) p
  simp only[Nat.add_zero]at m
  refine⟨_,m,fun i k c z=>?_⟩
  rw[F]at c
  cases c
  refine⟨rfl,rfl,rfl,zS,fun k O=>setRow_other w b k _ O,?_⟩
  rw[setRow_heap w b arr _ e _ B]
  exact jfp H K L q d r
theorem j1x (F:R E w0 I0 nt γ I st a w) (hd:∀d,o.dst=some d→d<nt) {t e:TypeId}{s x:Operand}{s' x':A}{sz:Nat}{J:Array TypeId}(ho:o.op=.call { callee:=.builtin .copy,args:=#[s,x],argTypes:=J })
 (ht:J[0]? = some t) (hs:opd s=some s') (hx:opd x=some x') (hu:P.underlying t=some (.slice e)) (hi:Wa P e=some sz)
 (q:((slCells st.ob sz (eval E st.tm x')).bind fun H=>match eval E st.tm s' with
  | .osl l u off n f=>if Nat.ble st.ro u=true∧f=sz∧0<sz∧H.all V.leaf=true then (objCells st.ob l u).bind fun cs=>
   if off+n*sz≤cs.length then some { v:=V.int .i64 (Nat.min (H.length / sz) n:Nat),obs:=[(l,⟨u,.cells (j2 cs off (H.take (Nat.min (H.length / sz) n*sz)))⟩)] } else none else none
  | .sl _ _ 0 []=>one (.int .i64 0)
  | _=>none)=some δ):XB P E w0 I0 nt γ I st a w o ub δ:=by
 have z:=j9 F hs
 have g:=j9 F hx
 have k:∀ (v:Value) (O:World),(Builtin.copy_ J o.type #[a.eval s,a.eval x]).run P w=.ok v O→(execOp a.eval o).run P w=.ok (.value v) O:=by
  intro v O h
  simp only[execOp,ho,resolve,Sem.run_bind,Sem.run_pure,Result.andThen_ok,invoke,builtin,List.map_toArray,List.map_cons,List.map_nil,h]
 obtain⟨H,i,q⟩:=bind_some q
 split at q
 ·rename_i l u off n f he
  rw[he]at z
  split at q
  case isFalse=>cases q
  rename_i N
  obtain⟨U,c3,b5,hp⟩:=N
  subst c3
  obtain⟨cs,b9,q⟩:=bind_some q
  split at q
  case isFalse=>cases q
  rename_i c5
  obtain⟨b,kb,y,D,b6,Q,T,hc,d1⟩:=Xf z
  have B:=jX b9
  rcases jg5 F g i hp b5 with⟨X,a0⟩|⟨S,m,c,r,X,c8,b7,c6,K,c0,c7⟩
  ·subst a0
   obtain⟨O,L,M⟩:=jk1 (P:=P) (n:=n) (vs:=[]) (vals:=[]) F B b6 T hc rfl (by simp only[List.length_nil];omega) (Nat.zero_le _) (fun j x v h=>by simp at h)
   have h0:Nat.min ([]:List V).length n=0:=zS
   have hz:Nat.min (([]:List V).length / f) n=0:=zS
   refine Yx F hd B U (body':=.cells _) (x:=.int .i64 (Nat.min (([]:List V).length / f) n:Nat)) (.inl (k _ O ?_)) (.pure _ _ (.int _ _)) (fun v es h=>by cases h) ?_ q
   ·rw[Q,X,hz]
    have Z:Nat.min 0 n=0:=zS
    simp only[Builtin.copy_,ht,List.getElem?_toArray,List.getElem?_cons_zero,List.getElem?_cons_succ,Sem.run_bind,run_underlying hu,Result.andThen_ok,Builtin.lenOf,Sem.run_pure,je hi,run_firstCells_none,Z,L,goInt]
   ·rw[List.take_nil];exact M
  ·have Z:H.length / f=m:=by rw[b7];exact Nat.mul_div_cancel _ b5
   rw[Z]at q
   have c1:Nat.min m n≤m:=Nat.min_le_left _ _
   have b0:Nat.min m n≤n:=Nat.min_le_right _ _
   have c9:Nat.min m n*f≤m*f:=Nat.mul_le_mul_right _ c1
   have c4:Nat.min m n*f≤n*f:=Nat.mul_le_mul_right _ b0
   have d0:(H.take (Nat.min m n*f)).length=Nat.min m n*f:=by rw[List.length_take];omega
   have c2:(r.take (Nat.min m n*f)).length=Nat.min m n*f:=by rw[List.length_take];omega
   obtain⟨O,L,M⟩:=jk1 (P:=P) (n:=n) (vs:=H.take (Nat.min m n*f)) (vals:=r.take (Nat.min m n*f)) F B b6 T hc zO zO zO (fun j x v hx G=>by
    have hj:j<Nat.min m n*f:=by have:=(List.getElem?_eq_some_iff.1 G).1;omega
    rw[List.getElem?_take_of_lt hj]at hx G
    exact⟨List.all_eq_true.1 hp v (List.mem_of_getElem? G),c0 j x v hx G⟩)
   refine Yx F hd B U (body':=.cells _) (x:=.int .i64 (Nat.min m n:Nat)) (.inl (k _ O ?_)) (.pure _ _ (.int _ _)) (fun v es h=>by cases h) M q
   rw[Q,X]
   have hf:=run_firstCells_some (P:=P) w f (Nat.min m n) S m c (r.take (Nat.min m n*f)) c2 (fun j v G=>by
    have hj:j<Nat.min m n*f:=by have:=(List.getElem?_eq_some_iff.1 G).1;omega
    rw[List.getElem?_take_of_lt hj]at G
    exact K j v G)
   simp only[Builtin.copy_,ht,List.getElem?_toArray,List.getElem?_cons_zero,List.getElem?_cons_succ,Sem.run_bind,run_underlying hu,Result.andThen_ok,Builtin.lenOf,Sem.run_pure,je hi,hf,L,goInt]
 ·rename_i t0 nl he
  rw[he]at z
  have X:∃m,(Builtin.lenOf (a.eval x)).run P w=.ok m w:=by
   unfold slCells at i
   split at i
   ·rename_i p
    rw[p]at g
    rcases Xt g with⟨h,_⟩|⟨_,_,_,h,_⟩ <;> rw[h] <;> exact⟨_,rfl⟩
   ·rename_i p
    rw[p]at g
    obtain⟨_,_,_,_,_,h,_⟩:=Xf g
    rw[h]
    exact⟨_,rfl⟩
   ·cases i
  obtain⟨m,Z⟩:=X
  have b8:(∃n c,a.eval x=.slice none n c)∨∃S n c,a.eval x=.slice (some S) n c:=by
   unfold slCells at i
   split at i
   ·rename_i p
    rw[p]at g
    rcases Xt g with⟨h,_⟩|⟨_,_,_,h,_⟩
    ·exact .inl ⟨_,_,h⟩
    ·exact .inr ⟨_,_,_,h⟩
   ·rename_i p
    rw[p]at g
    obtain⟨_,_,_,_,_,h,_⟩:=Xf g
    exact .inr ⟨_,_,_,h⟩
   ·cases i
  have Q:∃y D,a.eval s=.slice y 0 D:=by
   rcases Xt z with⟨h,_⟩|⟨S,D,_,h,_⟩
   ·exact⟨_,_,h⟩
   ·exact⟨_,_,h⟩
  obtain⟨y,D,Q⟩:=Q
  have hf:(Builtin.firstCells sz 0 (a.eval x)).run P w=.ok #[] w:=by
   rcases b8 with⟨n,c,h⟩|⟨S,n,c,h⟩
   ·rw[h];exact run_firstCells_none w sz 0 n c
   ·rw[h];exact run_firstCells_some w sz 0 S n c [] zS (fun j v h=>by simp at h)
  refine jS F hd (x:=.int .i64 0) (k _ _ ?_) (.pure _ _ (.int _ _)) q
  have hz:Nat.min m 0=0:=zS
  have hg:((0:Nat):Int)=0:=rfl
  cases y <;> simp only[Builtin.copy_,ht,Q,List.getElem?_toArray,List.getElem?_cons_zero,List.getElem?_cons_succ,Sem.run_bind,run_underlying hu,Result.andThen_ok,Z,Sem.run_pure,je hi,hz,hf,goInt,storeCells,hg]
 ·cases q
theorem jww (G:R E w0 I0 nt γ I st a w) (hd:∀d,o.dst=some d→d<nt) {t e:TypeId}{s:Operand}{s':A}{sz:Nat}{zs:List V}{r:Array TypeId}(ho:o.op=.call { callee:=.builtin .clear,args:=#[s],argTypes:=r })
 (ht:r[0]? = some t) (hs:opd s=some s') (hu:P.underlying t=some (.slice e)) (hz:Yv P e=some zs)
 (g:(match eval E st.tm s' with
  | .osl l u off n F=>if Nat.ble st.ro u=true∧F=sz∧zs.length=sz then (objCells st.ob l u).bind fun cs=>
   if off+n*sz≤cs.length then some { v:=jq,obs:=[(l,⟨u,.cells (j2 cs off (QX n zs))⟩)] } else none else none
  | .sl _ _ 0 []=>one jq
  | _=>none)=some δ):XB P E w0 I0 nt γ I st a w o ub δ:=by
 have k:=j9 G hs
 have c:∀ (v:Value) (y:World),(Builtin.clear_ r o.type #[a.eval s]).run P w=.ok v y→(execOp a.eval o).run P w=.ok (.value v) y:=by
  intro v y h
  simp only[execOp,ho,resolve,Sem.run_bind,Sem.run_pure,Result.andThen_ok,invoke,builtin,List.map_toArray,List.map_cons,List.map_nil,h]
 obtain⟨i,z,hi,L,f,p⟩:=YA (I:=I) hz
 split at g
 ·rename_i l u off n F N
  rw[N]at k
  split at g
  case isFalse=>cases g
  rename_i q
  obtain⟨K,S,M⟩:=q
  subst S
  subst M
  obtain⟨cs,O,g⟩:=bind_some g
  split at g
  case isFalse=>cases g
  rename_i a0
  obtain⟨b,kb,b0,T,Q,hS,J,hc,b5⟩:=Xf k
  have D:=jX O
  have X:(QX n zs).length=n*zs.length:=by simp[QX]
  obtain⟨y,m,H⟩:=jk1 (P:=P) (n:=n) (vs:=QX n zs) (vals:=(Builtin.zeroCells z.cells n).toList) G D Q J hc (by simp[Builtin.zeroCells,X,f]) zO zO (fun j x v Z hv=>by
   have B:n*zs.length=0∨0<zs.length:=by
    rcases Nat.eq_zero_or_pos zs.length with h|h
    ·exact .inl (by rw[h,Nat.mul_zero])
    ·exact .inr h
   have:=(jc2 (γ:=γ) (I:=I) f p n B).2 j x v (by rw[f];rw[Array.getElem?_toList]at Z;exact Z) hv
   exact this)
  refine Yx G hd D K (body':=.cells _) (x:=.tuple #[]) (.inl (c _ y ?_)) (.tup _ _ rfl zS) (fun v es h=>by cases h) H g
  rw[hS]
  simp only[Builtin.clear_,ht,List.getElem?_toArray,List.getElem?_cons_zero,Sem.run_bind,run_underlying hu,Result.andThen_ok]
  cases n with
  | zero=>
   have:y=w:=by
    have U:(Builtin.zeroCells z.cells 0).toList=[]:=by simp[Builtin.zeroCells]
    rw[U]at m
    simp only[storeCells,Sem.run_pure,Result.ok.injEq,true_and]at m
    exact m.symm
   rw[this]
   rfl
  | succ n=>simp only[Sem.run_bind,J0 hi L,Result.andThen_ok,m,Sem.run_pure]
 ·rename_i t0 nl N
  rw[N]at k
  refine jS G hd (x:=.tuple #[]) (c _ _ ?_) (.tup _ _ rfl zS) g
  rcases Xt k with⟨h,_⟩|⟨ad,T,_,h,_⟩ <;>
   simp only[Builtin.clear_,ht,h,List.getElem?_toArray,List.getElem?_cons_zero,Sem.run_bind,run_underlying hu,Result.andThen_ok,Sem.run_pure]
 ·cases g
end
section
variable {P:Program}{E:Env}{w0 w:World}{I0:IMap}{nt:Nat}{γ:Nat→Option Place}{I:IMap}{st:St}{a:Act}{o:Oper}{ub:Nat}{δ:Delta}
def extFn:ExtK→Array Value→Sem Value
  | .count=>Extern.BytealgCount.count
  | .indexByte=>Extern.BytealgIndexByte.indexByte
theorem jt5       {f:FuncId} {k:ExtK} (h:jyo   P f=some k):∃ fn,P.funcs[f]? = some fn∧fn.body.isNone=true∧(fn.name == "runtime.NumGoroutine")=false ∧
    Extern.findNext fn=none∧Extern.find fn=some (extFn k):=by
  unfold jyo at h
  obtain⟨fn,hfn,h⟩:=bind_some h
  split at h
  · cases h
  · rename_i hb
    have hb1:fn.body.isNone=true:=by
      cases hbb:fn.body with
      | none=>rfl
      | some c=>exact absurd (.inl (by rw[hbb];rfl)) hb
    have ho:fn.origin = "" :=Classical.byContradiction fun e=>hb (.inr e)
    split at h
    · rename_i hn
      cases h
      exact⟨fn,hfn,hb1,by rw[hn];rfl,jn5 ho (.inl ⟨hn,rfl⟩)⟩
    · split at h
      · rename_i hn
        cases h
        exact⟨fn,hfn,hb1,by rw[hn];rfl,jn5 ho (.inr ⟨hn,rfl⟩)⟩
      · cases h
theorem ok_ext (y :R E w0 I0 nt γ I st a w) (D :∀ d,o.dst=some d→d<nt) {f:FuncId} {k:ExtK} {c:Call} {l:List A} (H :o.op = .call c) (n   :c.callee = .value (.func f)) (L :opds c.args=some l) (K :jyo   P f=some k)
    (m:j3g k (l.map (eval E st.tm))=some δ):XB P E w0 I0 nt γ I st a w o ub δ:=by
  obtain⟨T,u,Q,S,G,N⟩:=jt5 K
  obtain⟨F,q⟩:=WO y L
  have two:∀ s e ,l.map (eval E st.tm)=[.str s,.int .u8 e ]→∃ g :ByteArray, g.data.toList=s∧∀ x:Value,
      (extFn k #[.string g,.int .u8 e]).run P w=.ok x w→(execOp a.eval o).run P w=.ok (.value x) w:=by
    intro s e M
    rw[M]at F q
    have t:(c.args.map a.eval).size=2:=F
    obtain⟨g,r,v⟩:=X8 (q 0 _ _ (Array.getElem?_eq_getElem zO) rfl)
    have z:=jw (q 1 _ _ (Array.getElem?_eq_getElem zO) rfl)
    refine⟨g,v,fun x b=>?_⟩
    have i    :c.args.map a.eval = #[.string g ,.int .u8 e ]:=by
      apply Array.ext
      · simpa using t
      · intro j O B
        match j with
        | 0=>exact r
        | 1=>exact z
        | j+2=>exact absurd B zS
    have p:=run_callFunc_extern (P:=P) u S Q G N (c.args.map a.eval) w
    simp only[execOp,H,resolve,n,Act.eval,Deferred.ofValue,Sem.run_bind,Sem.run_pure,Result.andThen_ok,invoke,Array.empty_append,Array.append_empty]
    rw[p,i,b]
    rfl
  generalize J:l.map (eval E st.tm)=vs at m two
  unfold j3g at m
  split at m
  · rename_i s e
    obtain⟨g,h,b⟩:=two s e rfl
    refine jS y D (x:=.int .i64 (s.count e.toNat.toUInt8:Nat)) (b _ ?_) (.pure _ _ (.int _ _)) m
    rw[← h]
    exact Lib.run_countString g e w
  · rename_i s e
    obtain⟨g,h,b⟩:=two s e rfl
    refine jS y D (x:=.int .i64 (jby s e.toNat.toUInt8)) (b _ ?_) (.pure _ _ (.int _ _)) m
    rw[← h,jgl]
    exact Lib.run_indexByteString g e w
  · cases m
theorem jb9 (s:ByteArray):∀ (b i:Nat) (c  :Array Value),Conv.runesFrom s b i c  =c  ++((XK s.data.toList b i).map fun r=>Value.int .i32 (Int.ofNat r)).toArray
  | 0,i,c=>by simp[Conv.runesFrom,XK]
  | b+1,i,c  =>by
    unfold Conv.runesFrom XK
    have d:s.data.toList.length=s.size:=zS
    rw[d]
    split
    · have e:(⟨s.data.toList.toArray⟩:ByteArray)=s:=rfl
      rw[e]
      generalize Utf8.decode s i=p
      obtain⟨r,wd⟩:=p
      simp only[jb9]
      simp
    · simp
theorem jwo      (D :R E w0 I0 nt γ I st a w) (O :∀ d,o.dst=some d→d<nt) (N :γ ub=none) {s t e:TypeId} {x:Operand} {J :A} (L :o.op = .convert s t x) (M :opd x=some J ) (U :P.underlying s=some .string) (X :P.underlying t=some (.slice e)) (S :P.underlying e=some (.int .i32))
    (h :(match eval E st.tm J  with
      | .str s=>let f :=XK s s.length 0
        if f.length≤70368744177664 then some { v:=V.sl (some (ub,1)) false f.length (f.map fun r=>.int .i32 (r:Nat)),add:=[ub] } else none
      | _=>none)=some δ):XB P E w0 I0 nt γ I st a w o ub δ:=by
  have H:=j9 D M
  split at h
  · rename_i bs z
    rw[z]at H
    obtain⟨c,G,rfl⟩:=X8 H
    have p:c.data.toList.length=c.size:=zS
    rw[p]at h
    simp only at h
    generalize u:XK c.data.toList c.size 0=f at h
    have m:Conv.runesFrom c c.size 0 #[]=(f.map fun r=>Value.int .i32 (Int.ofNat r)).toArray:=by rw[jb9,u];simp
    have g:(Conv.runesFrom c c.size 0 #[]).size=f.length:=by rw[m];simp
    split at h
    · rename_i q
      have i:=run_runes_of_string (P:=P) w s t e c U X S (by rw[g];exact q)
      rw[g]at i
      have B:=grownCap_ge w f.length 0 e
      have F:=grownCap_le_maxLen w f.length 0 e (by simp only[maxLen];omega)
      refine jmn D  O  N  (b:=w.heap.size) (n:= f.length) (cap:=grownCap w  f.length 0 e) (sz:=1) (cs:= f.map fun r=>V.int .i32 (r:Nat)) (w':=w.drew.alloc _) (del:=none)
        (arr:=Conv.runesFrom c c.size 0 #[]++Array.replicate (grownCap w f.length 0 e - f.length) (.int .i32 0)) (e:=e) ?_ (.inl ⟨rfl,zS⟩) ⟨rfl,rfl,rfl⟩
        (fun k Q _=>heap_alloc_old w.drew _ k Q) (heap_alloc_new w.drew _) (by simp only[Array.size_append,g,Array.size_replicate,Nat.mul_one];omega) B F (fun j y T=>?_) zS (fun j v K=>?_) h
      · simp only[execOp,L,G,Sem.run_bind,i,Result.andThen_ok,Sem.run_pure]
      · exact absurd (World.block_lt_of_cell? _ _ (D.imm _ _ _ T)) (Nat.lt_irrefl _)
      · simp only[List.getElem?_map,Option.map_eq_some_iff]at K
        obtain⟨r,l,rfl⟩:=K
        refine⟨rfl,.int .i32 r,?_,.int _ _⟩
        have Z:j<f.length:=(List.getElem?_eq_some_iff.1 l).1
        rw[Array.getElem?_append_left (by rw[g];exact Z),m]
        simp[l]
    · cases h
  · cases h
end
section
variable {P:Program}{E:Env}{w0 w:World}{I0:IMap}{nt:Nat}{γ:Nat→Option Place}{I:IMap}{st:St}{a:Act}{o:Oper}{ub:Nat}{δ:Delta}
theorem jlk         (y :R E w0 I0 nt γ I st a w) (H :∀ d,o.dst=some d→d<nt) (G :γ ub=none) {t T  e:TypeId} {x:Operand} {L :A} {d:Nat} (F :o.op = .range t x) (Q :opd x=some L ) (N :P.underlying t=some (.map T  e))
    (i :(match eval E st.tm L  with
      | .nilmap=>Jg d ub .nomap (.iter d ub)
      | .map l u=>(jg st.ob l u).bind fun K=>Jg d ub (.miter l u (jk st.ob l) K none) (.iter d ub)
      | _=>none)=some δ):XB P E w0 I0 nt γ I st a w o ub δ:=by
  have s:=j9 y Q
  split at i
  · rename_i p
    rw[p]at s
    have g:=XO s
    refine Yj y H G (x:=.pointer (some ⟨w.heap.size,0,none⟩)) (obj:=.mapIter none 0 #[] 0) (body:=.nomap) (k:=.n 0) ?_ rfl (fun z h=>.iter _ _ _ _ h) ⟨_,_,_,rfl⟩ i
    simp[execOp,F,g,Instr.range,run_underlying N]
  · rename_i l u p
    rw[p]at s
    obtain⟨b,U,r,g⟩:=WQ s
    obtain⟨K,B,i⟩:=bind_some i
    have q:=X2 B
    obtain⟨M,c,D,X,h3,Z,m⟩:=jln y q r
    refine Yj y H G (x:=.pointer (some ⟨w.heap.size,0,none⟩)) (obj:=.mapIter (some b) c #[] c) (k:=.n 0) ?_ rfl (fun z h=>.iter _ _ _ _ h) ?_ i
    · simp[execOp,F,g,Instr.range,run_underlying N,JH D]
    · refine⟨b,U,c,#[],c,rfl,r,fun J O f=>?_⟩
      rw[q]at f
      simp only[Option.some.injEq,Obj'.mk.injEq,OBody.mp.injEq,true_and]at f
      obtain⟨rfl,rfl⟩:=f
      refine⟨zR,fun _=>⟨M,D,m,zR,?_,fun k v h=>by cases h⟩⟩
      have:(M.toList.filter fun e=>!(#[]:Array Nat).contains e.born)=M.toList:=List.filter_eq_self.2 (fun e _=>by simp)
      rw[this]
      exact⟨by simpa using X,fun j e k v p S=>h3 j e k v (by simpa using p) S⟩
  · cases i
theorem jdv (n:Nat):(choose (.mapNext n)).run P w=if n≤1 then .ok 0 w else .ok (w.tape w.drawn (.mapNext n) % n) w.drew:=by
  by_cases h:n≤1 <;> simp[choose,Sem.run,Question.forced,Question.cut,h]
theorem jwz {m:List MapEntry}(c  :(m.map (·.born)).Nodup) {e b :MapEntry}(d :e∈m) (g :b ∈m) (h:e.born= b.born):e=b :=by
  obtain⟨i,k,rfl⟩:=List.mem_iff_getElem.1 d
  obtain⟨j,f,rfl⟩:=List.mem_iff_getElem.1 g
  have:i=j:=(List.getElem_inj (xs:=m.map (·.born)) (h₀:=by simpa using k) (h₁:=by simpa using f) c).1 (by simpa using h)
  subst this
  rfl
theorem jl7         (m:List MapEntry) (g  :(m.map (·.born)).Nodup) (seen:Array Nat) (j:Nat) (e:MapEntry) (c :(m.filter fun e=>!seen.contains e.born)[j]? = some e) :
    (m.filter fun f=>!(seen.push e.born).contains f.born)=(m.filter fun e=>!seen.contains e.born).eraseIdx j:=by
  have d:e∈m:=(List.mem_filter.1 (List.mem_of_getElem? c)).1
  have k :(m.filter fun f =>!(seen.push e.born).contains  f.born)=(m.filter fun e=>!seen.contains e.born).filter fun f =>!( f.born == e.born):=by
    rw[List.filter_filter]
    refine List.filter_congr fun x _=>?_
    have:(seen.push e.born).contains x.born=(seen.contains x.born || (x.born == e.born)):=by
      rw[Array.contains_push]
    rw[this,Bool.not_or,Bool.and_comm]
  rw[k]
  have b:((m.filter fun e=>!seen.contains e.born).map (·.born)).Nodup:=(List.filter_sublist.map _).nodup g
  generalize m.filter (fun e=>!seen.contains e.born)=L at c b
  clear k d g
  induction L generalizing j with
  | nil=>simp at c
  | cons x L l =>
    simp only[List.map_cons,List.nodup_cons]at b
    cases j with
    | zero=>
      simp only[List.getElem?_cons_zero,Option.some.injEq]at c
      subst c
      simp only[List.filter_cons,beq_self_eq_true,Bool.not_true,Bool.false_eq_true,if_false,List.eraseIdx_cons_zero]
      refine List.filter_eq_self.2 fun y n=>?_
      have:y.born≠x.born:=fun e=>b.1 (List.mem_map.2 ⟨y,n,e⟩)
      simpa using this
    | succ j=>
      simp only[List.getElem?_cons_succ]at c
      have i:x.born≠e.born:=fun h=>b.1 (List.mem_map.2 ⟨e,List.mem_of_getElem? c,h.symm⟩)
      have:(x.born == e.born)=false:=by simpa using i
      simp only[List.filter_cons,this,Bool.not_false,if_true,List.eraseIdx_cons_succ,l j c b.2]
theorem jjs       (l u l' u' ver:Nat):∀ (r b  :List (V × V)) (j:Nat) (k v:V),r[j]? = some (k,v) →
    ({ v:=.tup [.bool true,k,v],obs:=[(l,⟨u,.miter l' u' ver (b++r.eraseIdx j) (some (k,v))⟩)] }:Delta)∈jjb l u l' u' ver b r
  | [],b,j,k,v,h=>by simp at h
  | (k0,v0)::r,b  ,0,k,v,h=>by
    simp only[List.getElem?_cons_zero,Option.some.injEq,Prod.mk.injEq]at h
    obtain⟨rfl,rfl⟩:=h
    exact List.mem_cons_self ..
  | (k0,v0)::r,b  ,j+1,k,v,h=>by
    simp only[List.getElem?_cons_succ]at h
    have:=jjs l u l' u' ver r (b++[(k0,v0)]) j k v h
    rw[List.append_assoc]at this
    exact List.mem_cons_of_mem _ this
theorem EntsOk.erase {L:List MapEntry}{es:List (V × V)}(h:EntsOk γ I L es) (j:Nat):EntsOk γ I (L.eraseIdx j) (es.eraseIdx j):=by
  refine⟨?_,fun i e k v c b=>?_⟩
  · rw[List.length_eraseIdx,List.length_eraseIdx,h.1]
  · rw[Wx]at c b
    split at c
    · rename_i d
      rw[if_pos d]at b
      exact h.2 i e k v c b
    · rename_i d
      rw[if_neg d]at b
      exact h.2 (i+1) e k v c b
theorem jpf        (hR:R E w0 I0 nt γ I st a w) (hd:∀ d,o.dst=some d→d<nt) {x:Operand} {x':A} {l:List Delta} (ho:o.op = .next x false) (hx:opd x=some x')
    (ha:jlp st.ob st.ro (eval E st.tm x')=some l):∃δ∈l,XB P E w0 I0 nt γ I st a w o ub δ:=by
  have hr:=j9 hR hx
  unfold jlp at ha
  split at ha
  case h_2=>cases ha
  rename_i lb u he
  rw[he]at hr
  obtain⟨b,kb,hγ,hx'⟩:=jc5 hr
  have hover:Rep γ I (.tuple #[.bool false]) (.tup [.bool false]):=by
    refine .tup _ _ rfl (fun j y v hy hv=>?_)
    match j with
    | 0=>simp at hy hv;subst hy;subst hv;exact .pure _ _ (.bool _)
    | j+1=>simp at hv
  obtain⟨Ω,hown⟩:=hR.own
  split at ha
  case h_3=>cases ha
  case h_2=>
    rename_i u0 hob
    split at ha
    case isFalse=>cases ha
    rename_i huu
    subst huu
    cases ha
    obtain⟨b',kb',k1,k2,k3,⟨since,seen,stepped,hbs⟩,k5⟩:=hown.ob lb _ hob
    rw[hγ]at k1
    cases k1
    have hg:(getObj b).run P w=.ok (.mapIter none since seen stepped) w:=by simp[getObj,Sem.run,hbs]
    refine⟨_,List.mem_singleton.2 rfl,jS hR hd (x:=.tuple #[.bool false]) ?_ hover rfl⟩
    simp only[execOp,ho,hx',Instr.next,Sem.run_bind,hg,Result.andThen_ok,Sem.run_pure]
  rename_i u0 l' u' ver left last hob
  split at ha
  case isFalse=>cases ha
  rename_i hcond
  obtain⟨hro,huu,hsome,hver⟩:=hcond
  subst huu
  obtain⟨b',kb',k1,k2,k3,⟨mb,mk,since,seen,stepped,hbs,hγm,hall⟩,k5⟩:=hown.ob lb _ hob
  rw[hγ]at k1
  cases k1
  obtain⟨es',hes'⟩:=Option.isSome_iff_exists.1 hsome
  have hob':=X2 hes'
  rw[hver]at hob'
  obtain⟨_,himp⟩:=hall _ _ hob'
  obtain⟨m,hm,hborn,hle,hents,hlast⟩:=himp rfl
  obtain⟨M,clock,g1,g2,g3,hnd,hltc⟩:=jln hR hob' hγm
  rw[hm]at g1
  simp only[Option.some.injEq,Obj.map.injEq]at g1
  obtain⟨rfl,rfl⟩:=g1
  have hg:(getObj b).run P w=.ok (.mapIter (some mb) since seen stepped) w:=by simp[getObj,Sem.run,hbs]
  have hgm:(getObj mb).run P w=.ok (.map m stepped) w:=JH hm
  have hlt:=hown.lt _ _ k2
  have hset:∀ (W:World) (y:Obj),W.heap=w.heap→(setObj b y).run P W=.ok () { W with heap:=W.heap.setIfInBounds b y }:=by
    intro W y hW
    have:W.heap[b]? = some (.mapIter (some mb) since seen stepped):=by rw[hW];exact hbs
    simp[setObj,Sem.run,this]
  -- what may come next
  have hcnd:(!seen.isEmpty && !m.isEmpty && m.all (fun e=>decide (e.born ≥ stepped)))=false:=by
    cases hme:m.isEmpty with
    | true=>simp
    | false=>
      have hne:0<m.size:=by
        rcases Nat.eq_zero_or_pos m.size with h|h
        · rw[Array.isEmpty_iff_size_eq_zero.2 h]at hme;cases hme
        · exact h
      have:m.all (fun e=>decide (e.born ≥ stepped))=false:=by
        rw[Bool.eq_false_iff]
        intro hall
        rw[Array.all_eq_true_iff_forall_mem]at hall
        have h1:=hall m[0] (Array.getElem_mem hne)
        have h2:=hborn m[0] (Array.getElem_mem hne)
        simp only[decide_eq_true_eq]at h1
        omega
      rw[this];simp
  generalize hL:(m.filter fun e=>!seen.contains e.born)=L
  have hLl:(m.toList.filter fun e=>!seen.contains e.born)=L.toList:=by rw[← hL,Array.toList_filter]
  rw[hLl]at hents
  have hold:(L.filter fun e=>decide (e.born<since))=L:=by
    refine Array.filter_eq_self.2 fun e he=>?_
    rw[← hL]at he
    simpa using hborn e (Array.mem_filter.1 he).1
  have hnew:(L.filter fun e=>decide (e.born ≥ since)) = #[]:=by
    refine Array.filter_eq_empty_iff.2 fun e he=>?_
    rw[← hL]at he
    have:=hborn e (Array.mem_filter.1 he).1
    simp only[decide_eq_true_eq]
    omega
  have hrun0:∀ r,((do match ((if L.isEmpty then #[none] else #[])++(L++#[]).map some:Array (Option MapEntry))[← choose (.mapNext ((if L.isEmpty then #[none] else #[])++(L++#[]).map some:Array (Option MapEntry)).size)]? with
      | some (some e)=>
        setObj b (.mapIter (some mb) since (seen.push e.born) stepped)
        pure (.tuple #[.bool true,e.key,e.val])
      | some none=>pure (.tuple #[.bool false])
      | none=>stuck "Next: no such candidate"):Sem Value).run P w=r→(Instr.next (.pointer (some ⟨b,0,none⟩)) false o.type).run P w=r:=by
    intro r h
    rw[← h]
    simp only[Instr.next,Sem.run_bind,hg,hgm,Result.andThen_ok,hcnd,Bool.false_eq_true,if_false,hL,hold,hnew]
    rfl
  split at ha
  · cases ha
    have hl0:L.toList=[]:=List.eq_nil_of_length_eq_zero (by rw[hents.1];rfl)
    have hL0:L = #[]:=by rw[← Array.toArray_toList (xs:=L),hl0]
    refine⟨_,List.mem_singleton.2 rfl,jS hR hd (x:=.tuple #[.bool false]) ?_ hover rfl⟩
    have:=hrun0 (.ok (.tuple #[.bool false]) w) (by
      subst hL0
      simp only[List.isEmpty_toArray,List.isEmpty_nil,if_true,Array.append_empty,List.map_toArray,List.map_nil,List.size_toArray,List.length_cons,List.length_nil,Nat.zero_add,Sem.run_bind,jdv,Nat.le_refl,Result.andThen_ok,List.getElem?_toArray,List.getElem?_cons_zero,Sem.run_pure])
    simp only[execOp,ho,hx',Sem.run_bind,this,Result.andThen_ok,Sem.run_pure]
  · rename_i es hne
    cases ha
    have hpos:0<left.length:=List.length_pos_iff.2 hne
    have hsz:L.size=left.length:=by rw[← hents.1,Array.length_toList]
    have hie:L.isEmpty=false:=by
      rw[Bool.eq_false_iff]
      intro h
      have:=Array.isEmpty_iff_size_eq_zero.1 h
      omega
    have hch:∃j W,(choose (.mapNext L.size)).run P w=.ok j W∧j<L.size∧(W=w∨W=w.drew):=by
      rw[jdv]
      split
      · exact⟨0,w,rfl,zO,.inl rfl⟩
      · exact⟨_,_,rfl,Nat.mod_lt _ zO,.inr rfl⟩
    obtain⟨j,W,hc,hj,hW⟩:=hch
    have hWh:W.heap=w.heap:=by rcases hW with rfl|rfl <;> rfl
    have hWo:W.os=w.os∧W.tape=w.tape∧W.output=w.output:=by rcases hW with rfl|rfl <;> exact⟨rfl,rfl,rfl⟩
    have hej:L.toList[j]? = some L[j]:=by rw[Array.getElem?_toList,Array.getElem?_eq_getElem hj]
    have hlj:left[j]? = some (left[j]' zO):=List.getElem?_eq_getElem _
    generalize hkv:left[j]' zO=kv at hlj
    obtain⟨k,v⟩:=kv
    generalize hE:L[j]=en at hej
    have hkr:=hents.2 j en k v hej hlj
    have hrun:=hrun0 (.ok (.tuple #[.bool true,en.key,en.val]) { W with heap:=W.heap.setIfInBounds b (.mapIter (some mb) since (seen.push en.born) stepped) }) (by
      have hsz2:(Array.map some L).size=L.size:=Array.size_map
      have hget:(Array.map some L)[j]? = some (some en):=by rw[Array.getElem?_map,Array.getElem?_eq_getElem hj,hE];rfl
      simp only[hie,Bool.false_eq_true,if_false,Array.append_empty,Array.empty_append,hsz2,Sem.run_bind,hc,Result.andThen_ok,hget,hset W _ hWh,Sem.run_pure])
    refine⟨_,jjs lb u0 l' u' ver left [] j k v hlj,Yx hR hd hob hro (body':=.miter l' u' ver ([]++left.eraseIdx j) (some (k,v))) (x:=.tuple #[.bool true,en.key,en.val]) (w':={ W with heap:=W.heap.setIfInBounds b (.mapIter (some mb) since (seen.push en.born) stepped) }) (.inl ?_) ?_ (fun v es h=>by cases h) ?_ rfl⟩
    · simp only[execOp,ho,hx',Sem.run_bind,hrun,Result.andThen_ok,Sem.run_pure]
    · refine .tup _ _ rfl (fun i y q hy hq=>?_)
      match i with
      | 0=>simp at hy hq;subst hy;subst hq;exact .pure _ _ (.bool _)
      | 1=>simp at hy hq;subst hy;subst hq;exact .pure _ _ hkr.1
      | 2=>simp at hy hq;subst hy;subst hq;exact hkr.2
      | i+3=>simp at hq
    · intro b2 k2' hb2 hlt2
      rw[hγ]at hb2
      cases hb2
      refine⟨hWo.1,hWo.2.1,hWo.2.2,by simp[hWh],fun q hq=>by show(W.heap.setIfInBounds b _)[q]? = _;rw[hWh];exact Jh w b q _ hq,?_⟩
      have hblk:({ W with heap:=W.heap.setIfInBounds b (.mapIter (some mb) since (seen.push en.born) stepped) }:World).heap[b]? = some (.mapIter (some mb) since (seen.push en.born) stepped):=by
        show(W.heap.setIfInBounds b _)[b]? = _
        rw[hWh]
        exact J5 w b _ hlt
      rw[hblk]
      refine⟨mb,mk,since,_,stepped,rfl,hγm,fun ver' es2 he2=>?_⟩
      rw[hob']at he2
      simp only[Option.some.injEq,Obj'.mk.injEq,OBody.mp.injEq,true_and]at he2
      obtain⟨rfl,rfl⟩:=he2
      refine⟨zR,fun _=>⟨m,hm,hborn,hle,?_,fun k2 v2 hlast2=>?_⟩⟩
      · rw[List.nil_append,jl7 m.toList hnd seen j en (by rw[hLl];exact hej),hLl]
        exact hents.erase j
      · simp only[Option.some.injEq,Prod.mk.injEq]at hlast2
        obtain⟨rfl,rfl⟩:=hlast2
        have hmem:en∈m.toList:=by
          have:=List.mem_of_getElem? hej
          rw[← hLl]at this
          exact(List.mem_filter.1 this).1
        refine⟨en.born,en,zS,?_,hkr.1,hkr.2⟩
        cases hfd:m.find? (fun e=>e.born == en.born) with
        | none=>
          have:=Array.find?_eq_none.1 hfd en (by simpa using hmem)
          simp at this
        | some e2=>
          have h1:=Array.mem_of_find?_eq_some hfd
          have h2:=Array.find?_some hfd
          have he2:e2=en:=jwz hnd (by simpa using h1) hmem (by simpa using h2)
          rw[he2]
theorem jwu      (T :R E w0 I0 nt γ I st a w) (hd:∀ d,o.dst=some d→d<nt) {x:Operand} {x':A} (ho:o.op = .entry x) (hx:opd x=some x')
    (g :(match eval E st.tm x' with
      | .iter l u=>match st.ob l with
        | some ⟨u',.miter U u2 G _ (some (k,v))⟩=>if u'=u∧(jg st.ob U u2).isSome=true∧jk st.ob U=G then one (.tup [k,v]) else none
        | _=>none
      | _=>none)=some δ):XB P E w0 I0 nt γ I st a w o ub δ:=by
  have hr:=j9 T hx
  split at g
  case h_2=>cases g
  rename_i lb u he
  rw[he]at hr
  obtain⟨b,kb,L,X⟩:=jc5 hr
  obtain⟨Ω,F⟩:=T.own
  split at g
  case h_2=>cases g
  rename_i u0 U u' G left k v K
  split at g
  case isFalse=>cases g
  rename_i j
  obtain⟨Q,n,D⟩:=j
  subst Q
  obtain⟨b',b6,k1,k2,k3,⟨Z,mk,p,r,c,M,a0,B⟩,k5⟩:=F.ob lb _ K
  rw[L]at k1
  cases k1
  obtain⟨b5,s⟩:=Option.isSome_iff_exists.1 n
  have f:=X2 s
  rw[D]at f
  obtain⟨_,t⟩:=B _ _ f
  obtain⟨m,hm,O,b0,S,h⟩:=t rfl
  obtain⟨J,e,h1,h2,h3,h4⟩:=h k v rfl
  have hg:(getObj b).run P w=.ok (.mapIter (some Z) p r c) w:=by simp[getObj,Sem.run,M]
  have N:(getObj Z).run P w=.ok (.map m c) w:=JH hm
  refine jS T hd (x:=.tuple #[e.key,e.val]) ?_ ?_ g
  · have hb:(c != c)=false:=by simp
    simp only[execOp,ho,X,Instr.entry,Sem.run_bind,hg,N,Result.andThen_ok,h1,hb,Bool.false_eq_true,if_false,h2,Sem.run_pure]
  · refine .tup _ _ rfl (fun i y q H z=>?_)
    match i with
    | 0=>simp at H z;subst H;subst z;exact .pure _ _ h3
    | 1=>simp at H z;subst H;subst z;exact h4
    | i+2=>simp at z
end
section
variable {P:Program}{E:Env}{w0 w:World}{I0:IMap}{nt:Nat}{γ:Nat→Option Place}{I:IMap}{st:St}{a:Act}{o:Oper}{ub:Nat}{δ:Delta}
theorem jr9 (hR:R E w0 I0 nt γ I st a w) (hd:∀d,o.dst=some d→d<nt) {t kt e:TypeId}{m k:Operand}{m' k':A}{q:LK}{i:TypeInfo}{z:Value}{zv:V}(ho:o.op=.mapEntry t m k) (hm:opd m=some m') (p:opd k=some k')
 (O:P.underlying t=some (.map kt e)) (hq:jks P kt=some q) (hi:P.info? e=some i) (hz:i.zero=some z) (c8:Yn z=some zv)
 (B:(if ja4 q (eval E st.tm k') then match eval E st.tm m' with
  | .map l u=>if Nat.ble st.ro u && Nat.blt (jk st.ob l) ju0 then (jg st.ob l u).bind fun G=>(findKey q (eval E st.tm k') G).bind fun r=>match r with
   | some (i,v)=>some { v:=.tup [v,.int .i64 i],obs:=[(l,⟨u,.mp (jk st.ob l+1) (G.set i (eval E st.tm k',v))⟩)] }
   | none=>some { v:=.tup [zv,.int .i64 G.length],obs:=[(l,⟨u,.mp (jk st.ob l+1) (G++[(eval E st.tm k',zv)])⟩)] }
   else none
  | _=>none else none)=some δ):XB P E w0 I0 nt γ I st a w o ub δ:=by
 obtain⟨d,K,X⟩:=jc4 hq
 have b7:=j9 hR hm
 have a0:=j9 hR p
 have b8:Rep γ I z zv:=.pure _ _ (Qn c8)
 have L:∀ (x:Value) (v:V) (n:Nat),Rep γ I x v→Rep γ I (.tuple #[x,goInt n]) (.tup [v,.int .i64 n]):=by
  intro x v n h
  refine .tup _ _ rfl (fun j y u S O=>?_)
  match j with
  | 0=>simp at S O;subst S;subst O;exact h
  | 1=>simp at S O;subst S;subst O;exact .pure _ _ (.int _ _)
  | j+2=>simp at O
 split at B
 ·rename_i c3
  have b9:=js4 a0 c3
  split at B
  ·rename_i l u f
   rw[f]at b7
   obtain⟨b,kb,b0,b6⟩:=WQ b7
   split at B
   case isFalse=>cases B
   rename_i D
   rw[Bool.and_eq_true]at D
   obtain⟨D,Q⟩:=D
   have Q:jk st.ob l<ju0:=by simpa using Q
   obtain⟨G,d2,B⟩:=bind_some B
   obtain⟨r,hr,B⟩:=bind_some B
   have Z:=X2 d2
   obtain⟨M,c,h1,h2,h3,b5,U,d0⟩:=jas hR Z b0
   have hD:=d0 Q
   have d5:b<w.heap.size:=(Array.getElem?_eq_some_iff.1 h1).1
   have c6:=YR X a0 M.toList G 0 r (by simpa using h2) (fun j e k v f p=>h3 j e k v (by simpa using f) p) hr
   rcases c6 with⟨rfl,hf⟩|⟨j,v0,J,rfl,d3,⟨c1,N,c4⟩,hf⟩
   ·refine Yx hR hd Z D (body':=.mp _ _) (x:=.tuple #[z,goInt c]) (v:=.tup [zv,.int .i64 G.length]) (w':={ w with heap:=w.heap.setIfInBounds b (.map (M.push { key:=a.eval k,val:=z,born:=c }) (c+1)) }) (.inl ?_) ?_ (fun v G h=>by cases h;exact⟨_,_,rfl,Nat.lt_succ_self _⟩) ?_ B
    ·simp only[execOp,ho,b6,Instr.mapEntry,Sem.run_bind,run_underlying O,Result.andThen_ok,Sem.run_pure,JH h1,J7 K X,Je K hf,J0 hi hz,XY h1]
    ·have:c=G.length:=hD.1.trans h2
     rw[this]
     exact L _ _ _ b8
    ·intro b' k0 F H
     rw[b0]at F
     cases F
     refine⟨rfl,rfl,rfl,zS,fun k p=>Jh w b k _ p,?_⟩
     rw[J5 w b _ H]
     refine⟨_,_,rfl,Qt (by simp[h2]) (fun j J kk vv f p=>?_),?_,fun e f=>?_,fun _=>jgq hD⟩
     case refine_2=>
      rw[Array.toList_push,List.map_append,List.map_cons,List.map_nil]
      refine List.nodup_append.2 ⟨b5,zS,fun x hx y S=>?_⟩
      simp only[List.mem_singleton]at S
      subst S
      obtain⟨e,f,rfl⟩:=List.mem_map.1 hx
      exact Nat.ne_of_lt (U e (by simpa using f))
     case refine_3=>
      rcases Array.mem_push.1 f with f|rfl
      ·exact Nat.lt_succ_of_lt (U e f)
      ·exact Nat.lt_succ_self _
     rw[Array.getElem?_push]at f
     split at f
     ·rename_i hj
      cases f
      subst hj
      rw[List.getElem?_append_right zO,h2]at p
      simp at p
      obtain⟨rfl,rfl⟩:=p
      exact⟨b9,b8⟩
     ·rename_i hj
      have d4:j<G.length:=by have:=(Array.getElem?_eq_some_iff.1 f).1;omega
      rw[List.getElem?_append_left d4]at p
      exact h3 j J kk vv f p
   ·have g:M[j]? = some J:=by simpa using d3
    have d6:j<M.size:=(Array.getElem?_eq_some_iff.1 g).1
    have c0:=(h3 j J c1 v0 g N).2
    have T:J.born=j:=hD.2 j J g
    refine Yx hR hd Z D (body':=.mp _ _) (x:=.tuple #[J.val,goInt j]) (v:=.tup [v0,.int .i64 j]) (w':={ w with heap:=w.heap.setIfInBounds b (.map (M.modify j fun e=>{ e with key:=a.eval k }) c) }) (.inl ?_) (L _ _ _ c0) (fun v G h=>by cases h;exact⟨_,_,rfl,Nat.lt_succ_self _⟩) ?_ (by simpa using B)
    ·have c7:(Instr.keyThatStays J.key (a.eval k)).run P w=.ok (a.eval k) w:=jnk (γ:=γ) (I:=I) a0 (.pure _ _ (h3 j J c1 v0 g N).1) c4
     simp only[Nat.zero_add]at hf
     simp only[execOp,ho,b6,Instr.mapEntry,Sem.run_bind,run_underlying O,Result.andThen_ok,Sem.run_pure,JH h1,J7 K X,Je K hf,g,Option.map_some,Option.getD_some,c7,XY h1,T]
    ·intro b' k0 F H
     rw[b0]at F
     cases F
     refine⟨rfl,rfl,rfl,zS,fun k p=>Jh w b k _ p,?_⟩
     rw[J5 w b _ H]
     have c2:(M.modify j fun e=>{ e with key:=a.eval k }).toList.map (·.born)=M.toList.map (·.born):=by
      apply List.ext_getElem?
      intro i
      simp only[List.getElem?_map,Array.getElem?_toList,Array.getElem?_modify]
      by_cases s:j=i
      ·subst s;simp[g]
      ·simp[s]
     refine⟨_,_,rfl,Qt (by simp[h2]) (fun i c9 kk vv f p=>?_),by rw[c2];exact b5,fun e f=>?_,fun _=>Q0 (fun _=>rfl) hD⟩
     case refine_2=>
      have:e.born∈(M.modify j fun e=>{ e with key:=a.eval k }).toList.map (·.born):=List.mem_map.2 ⟨e,Array.mem_toList_iff.2 f,rfl⟩
      rw[c2]at this
      obtain⟨e2,c5,d1⟩:=List.mem_map.1 this
      rw[← d1]
      exact U e2 (by simpa using c5)
     rw[Array.getElem?_modify]at f
     by_cases s:j=i
     ·subst s
      simp only[if_true,g,Option.map_some,Option.some.injEq]at f
      subst f
      rw[List.getElem?_set_self zO]at p
      cases p
      exact⟨b9,c0⟩
     ·rw[if_neg s]at f
      rw[List.getElem?_set_ne s]at p
      exact h3 i c9 kk vv f p
  ·cases B
 ·cases B
theorem jwv (L:R E w0 I0 nt γ I st a w) (hd:∀d,o.dst=some d→d<nt) {t:TypeId}{m s x:Operand}{m' s' x':A}(ho:o.op=.entryStore t m s x) (hm:opd m=some m') (hs:opd s=some s') (hx:opd x=some x')
 (g:(match eval E st.tm m',eval E st.tm s' with
  | .map l u,.int .i64 (.ofNat n)=>if Nat.ble st.ro u && Nat.blt (jk st.ob l) ju0 then (jg st.ob l u).bind fun T=>match T[n]? with
   | some (k,_)=>some { v:=jq,obs:=[(l,⟨u,.mp (jk st.ob l+1) (T.set n (k,(eval E st.tm x').strip))⟩)] }
   | none=>none
   else none
  | _,_=>none)=some δ):XB P E w0 I0 nt γ I st a w o ub δ:=by
 have S:=j9 L hm
 have F:=j9 L hs
 have b7:=(j9 L hx).strip
 split at g
 ·rename_i l u n q z
  rw[q]at S
  rw[z]at F
  obtain⟨b,kb,J,b6⟩:=WQ S
  have b8:=jw F
  split at g
  case isFalse=>cases g
  rename_i p
  rw[Bool.and_eq_true]at p
  obtain⟨p,y⟩:=p
  have y:jk st.ob l<ju0:=by simpa using y
  obtain⟨T,z,g⟩:=bind_some g
  have H:=X2 z
  obtain⟨M,B,h1,h2,h3,Z,U,X⟩:=jas L H J
  have hD:=X y
  split at g
  case h_2=>cases g
  rename_i k0 v0 G
  have f:n<M.size:=by rw[h2];exact(List.getElem?_eq_some_iff.1 G).1
  have r:M[n]? = some M[n]:=Array.getElem?_eq_getElem f
  have b5:M.findIdx? (fun e=>(e.born:Int) == (n:Int))=some n:=by
   rw[Array.findIdx?_eq_some_iff_getElem]
   refine⟨f,by rw[hD.2 n _ r];simp,fun j hj=>?_⟩
   have:=hD.2 j _ (Array.getElem?_eq_getElem (Nat.lt_trans hj f))
   simp only[this,Bool.not_eq_true,beq_eq_false_iff_ne,ne_eq]
   omega
  have Q:M.findIdx? (fun e=>(e.born:Int) == (Int.ofNat n))=some n:=b5
  refine Yx L hd H p (body':=.mp _ _) (x:=undef) (v:=jq) (w':={ w with heap:=w.heap.setIfInBounds b (.map (M.modify n fun e=>{ e with val:=a.eval x }) B) }) (.inr ⟨?_,rfl⟩) (.tup _ _ rfl zS) (fun v T h=>by cases h;exact⟨_,_,rfl,Nat.lt_succ_self _⟩) ?_ g
  ·simp only[execOp,ho,b6,b8,Instr.entryStore,asInt,asIntOf,Sem.run_bind,Result.andThen_ok,Sem.run_pure,JH h1,Q,XY h1]
  ·intro b' k1 O N
   rw[J]at O
   cases O
   refine⟨rfl,rfl,rfl,zS,fun k D=>Jh w b k _ D,?_⟩
   rw[J5 w b _ N]
   have K:(M.modify n fun e=>{ e with val:=a.eval x }).toList.map (·.born)=M.toList.map (·.born):=by
    apply List.ext_getElem?
    intro i
    simp only[List.getElem?_map,Array.getElem?_toList,Array.getElem?_modify]
    by_cases c:n=i
    ·subst c;simp[r]
    ·simp[c]
   refine⟨_,_,rfl,Qt (by simp[h2]) (fun i b9 kk vv q D=>?_),by rw[K];exact Z,fun e q=>?_,fun _=>Q0 (fun _=>rfl) hD⟩
   case refine_2=>
    have:e.born∈(M.modify n fun e=>{ e with val:=a.eval x }).toList.map (·.born):=List.mem_map.2 ⟨e,Array.mem_toList_iff.2 q,rfl⟩
    rw[K]at this
    obtain⟨e2,a0,b0⟩:=List.mem_map.1 this
    rw[← b0]
    exact U e2 (by simpa using a0)
   rw[Array.getElem?_modify]at q
   by_cases c:n=i
   ·subst c
    simp only[if_true,r,Option.map_some,Option.some.injEq]at q
    subst q
    rw[List.getElem?_set_self zO]at D
    cases D
    exact⟨(h3 n _ _ _ r G).1,b7⟩
   ·rw[if_neg c]at q
    rw[List.getElem?_set_ne c]at D
    exact h3 i b9 kk vv q D
 ·cases g
end
section
variable {P:Program}{E:Env}{w0 w:World}{I0:IMap}{nt:Nat}{γ:Nat→Option Place}{I:IMap}{st:St}{a:Act}{o:Oper}{ub:Nat}{δ:Delta}
theorem jc3 {xs:Array Operand}{y:A}(h:opds xs=some [y]):∃x,xs = #[x]∧opd x=some y:=by
 obtain⟨c,b⟩:=js h
 obtain⟨l⟩:=xs
 match l,c,b with
 | [x],_,b=>exact⟨x,rfl,b 0 x y rfl rfl⟩
theorem jhi {xs:Array Operand}{y z:A}(h:opds xs=some [y,z]):∃x b,xs = #[x,b]∧opd x=some y∧opd b=some z:=by
 obtain⟨d,c⟩:=js h
 obtain⟨l⟩:=xs
 match l,d,c with
 | [x,b],_,c=>exact⟨x,b,rfl,c 0 x y rfl rfl,c 1 b z rfl rfl⟩
theorem jjk (G:R E w0 I0 nt γ I st a w) (B:∀d,o.dst=some d→d<nt) (y:γ ub=none) {t e:TypeId}{s x:Operand}{s' L:A}{i:TypeInfo}{z:Value}{d:Nat}{m:Bool}(r:o.op=.call { callee:=.builtin .append,args:=#[s,x],argTypes:=#[t,t] })
 (D:opd s=some s') (v:opd x=some L) (F:P.underlying t=some (.slice e)) (hi:P.info? e=some i) (q:i.zero=some z) (j:0<i.size) (p:z.cells.size=i.size) {O:FuncId→List V→Option V}
 (g:aop O (eval E st.tm) st.ob st.tk st.ro d ub (.append m i.size i.bytes s' L)=some δ):XB P E w0 I0 nt γ I st a w o ub δ:=by
 simp only[aop]at g
 split at g
 ·rename_i N Q n cs f
  obtain⟨M,c,h⟩:=bind_some g
  clear g
  by_cases b:M=[]
  ·rw[if_pos b]at h
   exact jjl G B y r D v F hi q j p (by rw[f];simp only[c,Option.bind_some];rw[if_pos b];exact h)
  ·rw[if_neg b]at h
   by_cases k:(m && Q)=true
   ·rw[if_pos k]at h
    simp only[Bool.and_eq_true]at k
    obtain⟨rfl,rfl⟩:=k
    simp only[Option.ite_none_right_eq_some]at h
    obtain⟨K,h⟩:=h
    exact jf7 G B y r D v F hi q j p c (.inl ⟨N,n,cs,f,b,K.2.1,K.2.2.1,K.2.2.2,h⟩)
   ·rw[if_neg k]at h
    exact jjl G B y r D v F hi q j p (by rw[f];simp only[c,Option.bind_some];rw[if_neg b];exact h)
 ·rename_i l u off n J f
  obtain⟨M,c,g⟩:=bind_some g
  obtain⟨cs,H,g⟩:=bind_some g
  exact jf7 G B y r D v F hi q j p c (.inr ⟨l,u,off,n,J,cs,f,H,g⟩)
 ·cases g
theorem op_ok {m:Bool}{ao:AOp}{cd:FuncId→List V→Option V}{d:Nat}(u:R E w0 I0 nt γ I st a w) (r:∀d,o.dst=some d→d<nt) (T:γ ub=none) (h:Ja P m o=some ao) (hn:ao.isCall=false)
 (p:aop cd (eval E st.tm) st.ob st.tk st.ro d ub ao=some δ):XB P E w0 I0 nt γ I st a w o ub δ:=by
 unfold Ja at h
 split at h
 ·rename_i c S
  obtain⟨c2,c1,b7⟩:=c
  unfold QL at h
  split at h
  ·obtain⟨l,v,rfl⟩:=map_some h
   split at hn
   ·rename_i k K
    exact ok_ext u r S (by assumption) v K (by simp only[K]at p;exact p)
   ·cases hn
  ·obtain⟨_,_,h⟩:=bind_some h
   obtain⟨_,_,rfl⟩:=map_some h
   cases hn
  ·cases h
  rename_i b a0
  simp only at a0
  subst a0
  have h:=(Option.filter_eq_some_iff.1 h).1
  simp only at h
  unfold je0 at h
  split at h
  ·obtain⟨l,v,h⟩:=bind_some h
   split at h
   ·rename_i F
    cases h
    obtain⟨x,rfl,j⟩:=jc3 v
    obtain⟨t,O,L⟩:=bind_some F
    exact jsc u r S j O L p
   ·rename_i F
    cases h
    obtain⟨x,rfl,j⟩:=jc3 v
    obtain⟨t,O,L⟩:=bind_some F
    exact jwq u r S j O L p
   ·rename_i F
    cases h
    obtain⟨x,rfl,j⟩:=jc3 v
    obtain⟨t,O,L⟩:=bind_some F
    exact jsd u r S j O L p
   ·cases h
  ·obtain⟨l,v,h⟩:=bind_some h
   split at h
   ·rename_i Z
    split at h
    ·rename_i c0
     subst c0
     split at h
     ·rename_i L
      obtain⟨i,M,h⟩:=bind_some h
      obtain⟨z,H,h⟩:=bind_some h
      split at h
      ·rename_i Q
       cases h
       obtain⟨x,y,rfl,j,G⟩:=jhi v
       obtain⟨l2⟩:=b7
       simp only at Z
       subst Z
       exact jjk u r T S j G L M H Q.1 Q.2 p
      ·cases h
     ·cases h
    ·cases h
   ·cases h
  ·obtain⟨l,v,rfl⟩:=map_some h
   exact jjh (isMax:=false) u r S v p
  ·obtain⟨l,v,rfl⟩:=map_some h
   exact jjh (isMax:=true) u r S v p
  ·obtain⟨l,v,h⟩:=bind_some h
   split at h
   ·rename_i F
    obtain⟨sz,Q,rfl⟩:=map_some h
    obtain⟨x,y,rfl,j,G⟩:=jhi v
    obtain⟨t,O,L⟩:=bind_some F
    exact j1x u r S O j G L Q p
   ·cases h
  ·obtain⟨l,v,h⟩:=bind_some h
   split at h
   ·rename_i F
    obtain⟨sz,Q,h⟩:=bind_some h
    obtain⟨z,H,rfl⟩:=map_some h
    obtain⟨x,rfl,j⟩:=jc3 v
    obtain⟨t,O,L⟩:=bind_some F
    exact jww u r S O j L H p
   ·cases h
  ·obtain⟨l,v,h⟩:=bind_some h
   split at h
   ·rename_i F
    obtain⟨q,X,rfl⟩:=map_some h
    obtain⟨x,y,rfl,j,G⟩:=jhi v
    obtain⟨t,O,L⟩:=bind_some F
    exact jsa u r S O j G L X p
   ·cases h
  ·cases h
 ·obtain⟨D,j,rfl⟩:=map_some h
  cases p
 ·have h:=(Option.filter_eq_some_iff.1 h).1
  unfold jma at h
  split at h
  ·obtain⟨y,G,rfl⟩:=map_some h
   exact jr8 u r (.inl (by assumption)) G p
  ·obtain⟨y,G,rfl⟩:=map_some h
   exact jr8 u r (.inr (by assumption)) G p
  ·obtain⟨c',h1,h⟩:=bind_some h
   obtain⟨D,h2,h⟩:=bind_some h
   obtain⟨y',h3,rfl⟩:=map_some h
   exact j1t u r (by assumption) h1 h2 h3 p
  ·obtain⟨z,H,rfl⟩:=map_some h
   exact jwx u r T (by assumption) H p
  ·obtain⟨n,h1,h⟩:=bind_some h
   obtain⟨D,h2,rfl⟩:=map_some h
   exact ok_box u r T (by assumption) h2 p
  ·obtain⟨z,H,h⟩:=bind_some h
   split at h
   ·obtain⟨b6,hp,h⟩:=bind_some h
    obtain⟨l,v,rfl⟩:=map_some h
    exact jne u r (by assumption) H (.inl ⟨_,_,by assumption,hp,rfl⟩) v p
   ·obtain⟨s,J,h⟩:=bind_some h
    obtain⟨l,v,rfl⟩:=map_some h
    exact jne u r (by assumption) H (.inr ⟨_,_,_,by assumption,J,rfl⟩) v p
   ·cases h
  ·split at h
   ·obtain⟨s,J,h⟩:=bind_some h
    obtain⟨z,H,h⟩:=bind_some h
    split at h
    ·rename_i B
     obtain⟨l,v,rfl⟩:=map_some h
     cases m with
     | false=>exact jph u r T (by assumption) (by assumption) J H B.1 B.2.1 B.2.2 v p
     | true=>exact jlm u r T (by assumption) (by assumption) J H B.1 B.2.1 B.2.2 v p
    ·cases h
   ·cases h
  ·obtain⟨g,hg,h⟩:=bind_some h
   obtain⟨D,j,rfl⟩:=map_some h
   exact j1w u r (by assumption) j hg p
  ·obtain⟨s,J,h⟩:=bind_some h
   obtain⟨D,j,h⟩:=bind_some h
   obtain⟨y',G,rfl⟩:=map_some h
   exact jwl u r (by assumption) j G J p
  ·obtain⟨D,j,rfl⟩:=map_some h
   exact jll u r (by assumption) j p
  ·obtain⟨D,j,h⟩:=bind_some h
   obtain⟨y',G,h⟩:=bind_some h
   split at h
   ·split at h
    ·cases h
     exact jsi u r (by assumption) j G p
    ·obtain⟨k,K,rfl⟩:=map_some h
     simp only[aop]at p
     split at p
     ·exact jnd u r (neg:=false) (by assumption) j G K (by assumption) (by assumption) p
     ·exact ok_eq u r (neg:=false) (by assumption) j G K p
   ·split at h
    ·cases h
     exact jsi u r (by assumption) j G p
    ·obtain⟨k,K,rfl⟩:=map_some h
     simp only[aop]at p
     split at p
     ·exact jnd u r (neg:=true) (by assumption) j G K (by assumption) (by assumption) p
     ·exact ok_eq u r (neg:=true) (by assumption) j G K p
   ·cases h
    exact jsi u r (by assumption) j G p
  ·obtain⟨D,j,rfl⟩:=map_some h
   exact ok_un u r (by assumption) j p
  ·split at h
   ·obtain⟨D,j,rfl⟩:=map_some h
    exact j1y u r (by assumption) j (by assumption) (by assumption) p
   ·obtain⟨D,j,rfl⟩:=map_some h
    exact jsh u r (by assumption) j (by assumption) (by assumption) p
   ·split at h
    ·obtain⟨D,j,rfl⟩:=map_some h
     exact jwo u r T (by assumption) j (by assumption) (by assumption) (by assumption) p
    ·cases h
   ·cases h
  ·split at h
   ·cases h
   ·rename_i L b5
    obtain⟨D,j,rfl⟩:=map_some h
    exact jwr u r (by assumption) j (by assumption) (fun ms e=>by subst e;simp_all) p
   ·cases h
  ·obtain⟨xs,j,h⟩:=bind_some h
   obtain⟨ys,G,rfl⟩:=map_some h
   exact j1v u r (by assumption) j G p
  ·cases h
   exact jwp u r T (by assumption) p
  ·split at h
   ·obtain⟨i,M,h⟩:=bind_some h
    obtain⟨z,H,h⟩:=bind_some h
    obtain⟨l',v,h⟩:=bind_some h
    obtain⟨c',b9,rfl⟩:=map_some h
    exact j1u u r T (by assumption) v b9 (by assumption) M H p
   ·cases h
  ·split at h
   ·cases h
   ·rename_i b5 L
    obtain⟨i,M,h⟩:=bind_some h
    obtain⟨z,H,h⟩:=bind_some h
    obtain⟨zv,N,h⟩:=bind_some h
    obtain⟨D,j,rfl⟩:=map_some h
    exact jsj u r (by assumption) j L (fun ms e=>b5 ms e) M H N p
   ·cases h
  ·obtain⟨D,j,h⟩:=bind_some h
   obtain⟨c4,v,h⟩:=bind_some h
   obtain⟨c3,hh,h⟩:=bind_some h
   split at h
   ·cases h
    exact jwm u r (by assumption) j v hh (by assumption) p
   ·obtain⟨s,J,rfl⟩:=map_some h
    exact j1s u r (by assumption) j v hh (by assumption) J p
   ·split at h
    ·obtain⟨s,J,rfl⟩:=map_some h
     exact jwn u r (by assumption) j v hh (by assumption) (by assumption) J p
    ·cases h
   ·cases h
  ·obtain⟨f,b0,h⟩:=bind_some h
   obtain⟨n,b8,h⟩:=bind_some h
   split at h
   ·cases h
   ·obtain⟨D,j,rfl⟩:=map_some h
    exact jjj u r (by assumption) j b0 b8 (by assumption) p
  ·obtain⟨f,b0,h⟩:=bind_some h
   obtain⟨g,hg,h⟩:=bind_some h
   obtain⟨D,j,rfl⟩:=map_some h
   exact jwt u r (by assumption) j b0 hg p
  ·obtain⟨D,j,h⟩:=bind_some h
   obtain⟨i',M,h⟩:=bind_some h
   split at h
   ·obtain⟨s,J,h⟩:=bind_some h
    split at h
    ·cases h
    ·cases h
     exact jws u r (by assumption) j M (by assumption) J (by assumption) p
   ·obtain⟨s,J,rfl⟩:=map_some h
    exact jsg u r (by assumption) j M (by assumption) J p
   ·cases h
  ·obtain⟨D,j,h⟩:=bind_some h
   obtain⟨i',M,h⟩:=bind_some h
   split at h
   ·cases h
    exact jsf u r (by assumption) j M (by assumption) p
   ·obtain⟨s,J,h⟩:=bind_some h
    obtain⟨g,hg,rfl⟩:=map_some h
    exact jse u r (by assumption) j M (by assumption) J hg p
   ·cases h
  ·split at h
   ·obtain⟨q,X,h⟩:=bind_some h
    obtain⟨i,M,h⟩:=bind_some h
    obtain⟨z,H,h⟩:=bind_some h
    obtain⟨zv,N,h⟩:=bind_some h
    obtain⟨m',U,h⟩:=bind_some h
    obtain⟨k',K,rfl⟩:=map_some h
    exact jsb u r (by assumption) U K (by assumption) X M H N p
   ·cases h
  ·split at h
   ·obtain⟨q,X,h⟩:=bind_some h
    obtain⟨m',U,h⟩:=bind_some h
    obtain⟨k',K,h⟩:=bind_some h
    obtain⟨v',hv,rfl⟩:=map_some h
    exact jji u r (.inl (by assumption)) U K hv (by assumption) X p
   ·cases h
  ·split at h
   ·obtain⟨q,X,h⟩:=bind_some h
    obtain⟨m',U,h⟩:=bind_some h
    obtain⟨k',K,h⟩:=bind_some h
    obtain⟨v',hv,rfl⟩:=map_some h
    exact jji u r (.inr (by assumption)) U K hv (by assumption) X p
   ·cases h
  ·split at h
   ·obtain⟨q,X,h⟩:=bind_some h
    obtain⟨i,M,h⟩:=bind_some h
    obtain⟨z,H,h⟩:=bind_some h
    obtain⟨zv,N,h⟩:=bind_some h
    obtain⟨m',U,h⟩:=bind_some h
    obtain⟨k',K,rfl⟩:=map_some h
    exact jr9 u r (by assumption) U K (by assumption) X M H N p
   ·cases h
  ·obtain⟨m',U,h⟩:=bind_some h
   obtain⟨s',J,h⟩:=bind_some h
   obtain⟨D,j,rfl⟩:=map_some h
   exact jwv u r (by assumption) U J j p
  ·split at h
   ·obtain⟨D,j,rfl⟩:=map_some h
    exact jlj u r T (by assumption) j (by assumption) p
   ·obtain⟨D,j,rfl⟩:=map_some h
    exact jlk u r T (by assumption) j (by assumption) p
   ·cases h
  ·obtain⟨D,j,rfl⟩:=map_some h
   exact jpe u r (by assumption) j p
  ·obtain⟨D,j,rfl⟩:=map_some h
   exact jwu u r (by assumption) j p
  ·obtain⟨D,j,rfl⟩:=map_some h
   exact jpg u r (by assumption) j p
  ·cases h
end
def C.dstOk (n:Nat):C→Bool
  | .region ops|.draw ops _=>ops.all fun o=>match o.dst with|some d=>Nat.blt d n|none=>true
  | .pin o fs=>(o::fs).all fun o=>match o.dst with|some d=>Nat.blt d n|none=>true
  | .seq a b|.cond _ a b=>a.dstOk n && b.dstOk n
  | .block _ a|.loop a=>a.dstOk n
  | .rangeFunc _ ps a b=>(ps.all fun p=>Nat.blt p n) && a.dstOk n && b.dstOk n
  | _=>true
def jI (P:Program) (r:Bool) (f:FuncId) (af:AF):Prop:=∃m fn c,P.funcs[f]? = some fn∧fn.body=some c∧comp P m r c=some af.body∧fn.results.toList.mapM (YV P)=some af.res ∧
  (fn.name == "runtime.NumGoroutine")=false∧af.body.dstOk fn.ntmps=true
def jg1 (m:Option FuncId) (x:Value):Array Value:=match m with
  | none=>#[x]
  | some g=>#[x,.func (.func g) #[] #[]]
def jh7 (P:Program) (f:FuncId) (m:Option FuncId):Prop :=
  (∃ fn c,P.funcs[f]? = some fn∧fn.body=some c∧(fn.name == "runtime.NumGoroutine")=false) ∧
  (∀ (p:Option Addr) (cap:Nat) (w:World),Calls P f (jg1 m (.slice p 0 cap)) w fun e w'=>e=.returned (.tuple #[])∧w'=w) ∧
  ∀ (blk off cap n:Nat) (zs:List Int) (w:World),zs.length=n*jfd m→jmv m zs=true→Go.Sort.Holds (Value.int .i64) w blk off zs.toArray→blk<w.heap.size→n<4611686018427387904 →
    Calls P f (jg1 m (.slice (some ⟨blk,off,none⟩) n cap)) w fun e w'=>e=.returned (.tuple #[])∧∃n os,w'=Go.Sort.grow (Go.Sort.putRow (Value.int .i64) (Go.Sort.ahead w n) blk off (Wb m zs).toArray) os
def j4f (P:Program) (f:FuncId) (cs:List V):Prop :=
  (∃ fn c,P.funcs[f]? = some fn∧fn.body=some c∧(fn.name == "runtime.NumGoroutine")=false) ∧
  ∀ (p:Option Addr) (cap:Nat) (w:World),Calls P f #[.slice p 0 cap] w fun e w'=>e=.returned (.pointer (some ⟨w.heap.size,0,none⟩))∧∃xs t,w'=w.alloc (.cells xs t)∧xs.size=cs.length∧∀ (j:Nat) (x:Value) (v:V),xs[j]? = some x→cs[j]? = some v→v.leaf=true∧∀I,RepP I x v
structure EnvOk (P:Program) (E:Env):Prop where
  fc:∀f af,E.fc f=some af→jI P false f af
  fs:∀f af,E.fs f=some af→jI P true f af
  srt:∀f m,E.srt f=some m→jh7 P f m
  nw:∀f cs,E.nw f=some cs→j4f P f cs
def jkq (I:IMap) (w:World):Prop:=∀b o x,I b o=some x→w.cell? ⟨b,o,none⟩=some x
def GlOk (E:Env) (I:IMap):Prop:=∀g cs,E.gl g=some cs→RepP I (.pointer (some ⟨g,0,none⟩)) (.eptr cs 0)
def jko (B:Nat) (τ:Nat→Option Place) (I:IMap) (w:World) (r:V):Prop :=
  ∀i∈toksRes r,∃b n cap sz,τ i=some (.tok b n cap sz)∧B≤b∧b<w.heap.size∧j4a w.heap[b]? n cap sz∧(∀j,n*sz≤j→I b j=none)∧∀i'∈toksRes r,∀n' c' s',τ i'=some (.tok b n' c' s')→i'=i
def juv (τ:Nat→Option Place) (I:IMap) (x:Value) (v:V):Prop :=
  match v with
  | .sl (some _) _ _ _=>Rep τ I x v
  | v=>RepP I x v
def jqd (τ:Nat→Option Place) (I:IMap) (x:Value) (v:V):Prop :=
  match v with
  | .agg cs=>∃xs:Array Value,x=.agg xs∧xs.size=cs.length∧(∀ (j:Nat) (u:V),cs[j]? = some u→u.leaf=true)∧∀ (j:Nat) (y:Value) (u:V),xs[j]? = some y→cs[j]? = some u→juv τ I y u
  | v=>juv τ I x v
def jut (τ:Nat→Option Place) (I:IMap) (x:Value) (r:V):Prop :=
  match r with
  | .tup vs=>∃xs:Array Value,x=.tuple xs∧xs.size=vs.length∧∀ (j:Nat) (y:Value) (u:V),xs[j]? = some y→vs[j]? = some u→jqd τ I y u
  | v=>jqd τ I x v
def jkp (P:Program) (E:Env) (f:FuncId) (args:List V) (r:V):Prop :=
  ∀ (w:World) (I:IMap) (xs:Array Value),jkq I w→GlOk E I→xs.size=args.length→(∀ (j:Nat) (x:Value) (v:V),xs[j]? = some x→args[j]? = some v→RepP I x v) →
    Calls P f xs w fun e w'=>∃x τ I',e=.returned x∧w.grownBy w' none∧(∀b o x,I b o=some x→I' b o=some x)∧jkq I' w'∧(∀b o,b<w.heap.size→I' b o=I b o)∧jut τ I' x r∧jko w.heap.size τ I' w' r
def SubG (γ γ':Nat→Option Place):Prop:=∀u p,γ u=some p→γ' u=some p
def SubI (I I':IMap):Prop:=∀b o x,I b o=some x→I' b o=some x
theorem SubG.refl (γ:Nat→Option Place):SubG γ γ:=fun _ _ h=>h
theorem SubI.refl (I:IMap):SubI I I:=fun _ _ _ h=>h
theorem SubG.trans {a b c:Nat→Option Place}(h:SubG a b) (k:SubG b c):SubG a c:=fun u p x=>k u p (h u p x)
theorem SubI.trans {a b c:IMap}(h:SubI a b) (k:SubI b c):SubI a c:=fun u o p x=>k u o p (h u o p x)
def ObsOk (P:Program) (E:Env) (f:FuncId) (args:List V) (ob:ZO) (ub:Nat) (r:V):Prop :=
  ∀ (w0 w:World) (I0 I:IMap) (γ:Nat→Option Place) (xs:Array Value) (st:St),(∀l x,ob l=some x→st.ob l=some x)→Sh E w0 I0 γ I st w→(∀u,ub≤u→γ u=none)→xs.size=args.length →
    (∀ (j:Nat) (x:Value) (v:V),xs[j]? = some x→args[j]? = some v→Rep γ I x v) →
    Calls P f xs w fun e w'=>∃x τ I',e=.returned x∧w.grownBy w' none∧(∀b o x,I b o=some x→I' b o=some x)∧jkq I' w'∧(∀b o,b<w.heap.size→I' b o=I b o)∧jut τ I' x r∧jko w.heap.size τ I' w' r
def W9 (E:Env) (w0:World) (I0:IMap) (γ:Nat→Option Place) (I:IMap) (ro:Nat) (r:V) (ob':ZO) (tk':Nat→Bool) (ub':Nat) (e:Ending) (w':World):Prop :=
  ∃x γ' I',e=.returned x∧(∀st':St,st'.ob=ob'→st'.tk=tk'→st'.ro=ro→Sh E w0 I0 γ' I' st' w')∧Rep γ' I' x r∧SubG γ γ'∧SubI I I'∧(∀u,ub'≤u→γ' u=none)
def jh8 (P:Program) (E:Env) (γ0:Nat→Option Place) (Iy:IMap) (f:FuncId) (args:List V) (ob:ZO) (tk:Nat→Bool) (ro ub:Nat) (l:List (V × (ZO) × (Nat→Bool) × Nat)):Prop :=
  ∀ (w0 w:World) (I0 I:IMap) (γ:Nat→Option Place) (xs:Array Value) (st:St),SubG γ0 γ→SubI Iy I→st.ob=ob→st.tk=tk→st.ro=ro→Sh E w0 I0 γ I st w→(∀u,ub≤u→γ u=none)→xs.size=args.length →
    (∀ (j:Nat) (x:Value) (v:V),xs[j]? = some x→args[j]? = some v→Rep γ I x v) →
    Calls P f xs w fun e w'=>∃r∈l,W9 E w0 I0 γ I ro r.1 r.2.1 r.2.2.1 r.2.2.2 e w'
def FW (r:Option Nat):Fence:={ Fence.wide with round:=r }
theorem juk {P:Program}{f:FuncId}{args:Array Value}{w:World}{R:Ending→World→Prop}{r:Option Nat}{n:Nat}(h:Calls P f args w R):CallsIn (FW r) n P f args w R:=callsIn_wide.2 h
theorem je2 {P:Program}{f:FuncId}{args:Array Value}{w:World}{R:Ending→World→Prop}{n:Nat}(h:CallsIn (FW none) n P f args w R):Calls P f args w R:=callsIn_wide.1 h
def j38 (P:Program) (E:Env) (γ0:Nat→Option Place) (Iy:IMap) (u:Nat) (args:List V) (ob:ZO) (tk:Nat→Bool) (ro ub:Nat) (r:V) (ob':ZO) (tk':Nat→Bool) (ub':Nat):Prop :=
  ∀ (w0 w:World) (I0 I:IMap) (γ:Nat→Option Place) (xs:Array Value) (st:St) (b:Nat) (k:Kd),SubG γ0 γ→SubI Iy I→st.ob=ob→st.tk=tk→st.ro=ro→Sh E w0 I0 γ I st w→(∀u,ub≤u→γ u=none)→xs.size=args.length →
    (∀ (j:Nat) (x:Value) (v:V),xs[j]? = some x→args[j]? = some v→Rep γ I x v)→γ u=some (.obj b k) →
    ∃fn tmps asg bd,(Instr.yield b xs).run P w=.ok (.round b fn tmps asg bd) w∧RoundIn (FW none) 0 P b fn tmps asg bd w (W9 E w0 I0 γ I ro r ob' tk' ub')
def YOk (P:Program) (E:Env) (γ0:Nat→Option Place) (Iy:IMap) (y:Y):Prop :=
  ∀l u args ob tk ro ub r ob' tk' ub',y l u args ob tk ro ub=some (r,ob',tk',ub')→j38 P E γ0 Iy u args ob tk ro ub r ob' tk' ub'
def FnOk (P:Program) (f:FuncId):Prop:=∃ fn c,P.funcs[f]? = some fn∧fn.body=some c∧(fn.name == "runtime.NumGoroutine")=false
structure COk (P:Program) (E:Env) (γ0:Nat→Option Place) (Iy:IMap) (call:Callers):Prop where
  d:∀f args r,call.d f args=some r→FnOk P f∧jkp P E f args r
  o:∀f args ob tk base ub r,call.o f args ob tk base ub=some r→FnOk P f∧ObsOk P E f args ob ub r
  s:∀f args ob tk ro base ub l,call.s f args ob tk ro base ub=some l→FnOk P f∧jh8 P E γ0 Iy f args ob tk ro ub l
  y:YOk P E γ0 Iy call.y
  k:∀f cs,E.nw f=some cs→j4f P f cs
def jkr (P:Program) (E:Env) (call:Y→Callers):Prop:=∀γ0 Iy y,YOk P E γ0 Iy y→COk P E γ0 Iy (call y)
theorem YOk.mono {P:Program}{E:Env}{γ γ':Nat→Option Place}{I g :IMap}{y:Y}(h:YOk P E γ I y) (n :SubG γ γ') (t :SubI I g ):YOk P E γ' g  y :=
  fun l u c ob q m ub r f e d s w0 w I0 J δ j st b k i p=>h l u c ob q m ub r f e d s w0 w I0 J δ j st b k (n.trans i) (t.trans p)
theorem jjo {P:Program}{E:Env}{γ:Nat→Option Place}{I:IMap}:YOk P E γ I noY:=fun _ _ _ _ _ _ _ _ _ _ _ h=>by cases h
section
variable {P:Program}{E:Env}{w0 w:World}{I0:IMap}{nt:Nat}{γ:Nat→Option Place}{I:IMap}{st:St}{a:Act}{o:Oper}{ub:Nat}{δ:Delta}
theorem jcc {f:FuncId} {fn:Func} {c:Code} (hf:P.funcs[f]? = some fn) (hb:fn.body=some c) (hn:(fn.name == "runtime.NumGoroutine")=false) (args:Array Value):(callFunc f args).run P w = .ok (.enter f args) w:=by
  unfold callFunc
  simp only[Sem.run_bind,run_program,Result.andThen_ok,hf,hn,Bool.false_eq_true,if_false,hb,Option.isNone_some]
  rfl
theorem jfm {x:Value}{v:V}(h:Rep γ I x v) (hp:v.strip.pureTop=true):RepP I x v.strip:=by
  have b    :∀ (g :Array Value) (cs:List V), g.size=cs.length→(∀ (j:Nat) (v:V),cs[j]? = some v→v.leaf=true)→(∀ (j:Nat) (y:Value) (v:V), g[j]? = some y→cs[j]? = some v→Rep γ I y v)→(cs.map V.strip1).all V.pureLeaf=true →
      RepP I (.agg g) (.agg (cs.map V.strip1)):=by
    intro g cs i m k q
    refine .agg _ _ (by simpa using i) (fun j v d=>?_) (fun j x v p d=>?_)
    · simp only[List.getElem?_map,Option.map_eq_some_iff]at d
      obtain⟨u,e,rfl⟩:=d
      rw[jdl]
      exact m j u e
    · simp only[List.getElem?_map,Option.map_eq_some_iff]at d
      obtain⟨u,e,rfl⟩:=d
      exact Ym (k j x u p e) (List.all_eq_true.1 q _ (List.mem_map.2 ⟨u,List.mem_of_getElem? e,rfl⟩))
  cases v with
  | sl t s n cs=>exact Ym h (by simp[V.strip1,V.pureLeaf])
  | agg cs=>
    obtain⟨g,rfl,i,m,k⟩:=Y2 h
    exact b g cs i m k hp
  | fn f r   D =>
    obtain⟨g,B,rfl,i,m,k,q⟩:=jch h
    simp only[V.strip,V.pureTop,List.all_eq_true,List.mem_append]at hp
    have one:∀ (x:Value) (v:V),Rep γ I x v→(match (match v with|.agg cs=>V.agg (cs.map V.strip1)|c=>c.strip1) with|.agg cs=>cs.all V.pureLeaf|c=>c.pureLeaf)=true→RepP I x (match v with|.agg cs=>V.agg (cs.map V.strip1)|c=>c.strip1):=by
      intro x v h hp
      cases v with
      | agg cs=>
        obtain⟨g,rfl,i,m,k⟩:=Y2 h
        exact b g cs i m k hp
      | sl t s n cs=>exact Ym h (by simp[V.strip1,V.pureLeaf])
      | _=>exact Ym h hp
    refine .fn _ _ _ _ _ (by simpa using i) (by simpa using m) (fun j x v p d=>?_) (fun j x v p d=>?_)
    · simp only[List.getElem?_map,Option.map_eq_some_iff]at d
      obtain⟨u,e,rfl⟩:=d
      exact one x u (k j x u p e) (hp _ (.inl (List.mem_map.2 ⟨u,List.mem_of_getElem? e,rfl⟩)))
    · simp only[List.getElem?_map,Option.map_eq_some_iff]at d
      obtain⟨u,e,rfl⟩:=d
      exact one x u (q j x u p e) (hp _ (.inr (List.mem_map.2 ⟨u,List.mem_of_getElem? e,rfl⟩)))
  | undef=>simp[V.strip,V.pureTop,V.pureLeaf]at hp
  | tup F=>simp[V.strip,V.pureTop,V.pureLeaf]at hp
  | ptr l u off=>simp[V.strip,V.pureTop,V.pureLeaf]at hp
  | osl l u off n z=>simp[V.strip,V.pureTop,V.pureLeaf]at hp
  | map l u=>simp[V.strip,V.pureTop,V.pureLeaf]at hp
  | iter l u=>simp[V.strip,V.pureTop,V.pureLeaf]at hp
  | yld l u=>simp[V.strip,V.pureTop,V.pureLeaf]at hp
  | _=>exact Ym h hp
theorem jy1      {xs:Array Value} {vs:List V} (d :xs.size=vs.length) (h:∀ (j:Nat) (x:Value) (v:V),xs[j]? = some x→vs[j]? = some v→Rep γ I x v) (hp:(vs.map V.strip).all V.pureTop=true) :
    xs.size=(vs.map V.strip).length∧∀ (j:Nat) (x:Value) (v:V),xs[j]? = some x→(vs.map V.strip)[j]? = some v→RepP I x v:=by
  refine⟨by simpa using d,fun j x v e b=>?_⟩
  simp only[List.getElem?_map,Option.map_eq_some_iff]at b
  obtain⟨u,c,rfl⟩:=b
  exact jfm (h j x u e c) (List.all_eq_true.1 hp _ (List.mem_map.2 ⟨u,List.mem_of_getElem? c,rfl⟩))
theorem QN         {xs ys:Array Value} {us vs:List V} (d :xs.size=us.length) (g :ys.size=vs.length) (e :∀ (j:Nat) (x:Value) (v:V),xs[j]? = some x→us[j]? = some v→Rep γ I x v)
    (h:∀ (j:Nat) (x:Value) (v:V),ys[j]? = some x→vs[j]? = some v→Rep γ I x v) :
    (xs++ys).size=(us++vs).length∧∀ (j:Nat) (x:Value) (v:V),(xs++ys)[j]? = some x→(us++vs)[j]? = some v→Rep γ I x v:=by
  refine⟨by simp[d,g],fun j x v c b=>?_⟩
  by_cases f:j<xs.size
  · rw[Array.getElem?_append_left f]at c
    rw[List.getElem?_append_left zO]at b
    exact e j x v c b
  · rw[Array.getElem?_append_right zO]at c
    rw[List.getElem?_append_right zO,← d]at b
    exact h _ x v c b
theorem jgj {m:Bool}{ao:AOp}(b :Ja P m o=some ao) (d :ao.isCall=true):∃c ,o.op=.call c ∧QL P m c =some ao:=by
  unfold Ja at b
  split at b
  · exact⟨_,by assumption,b⟩
  · obtain⟨_,_,rfl⟩:=map_some b
    cases d
  · have:=(Option.filter_eq_some_iff.1 b).2
    rw[d]at this
    cases this
theorem Yh {m:Bool}{ao:AOp}(b :Ja P m o=some ao):∀c,o.op≠.defer c:=by
  intro c h
  unfold Ja at b
  rw[h]at b
  simp[jma]at b
theorem jcn          {m:Bool} {d :Call} {ao:AOp} (c :QL       P m d =some ao) (g :ao.isCall=true) :
    (∃f b,d.callee=.value (.func f)∧opds d.args=some b∧ao=.call f b)∨∃x q b,d.callee=.value x∧(∀f,x≠.func f)∧opd x=some q∧opds d.args=some b∧ao=.callV q b:=by
  unfold QL at c
  split at c
  · obtain⟨b,h,rfl⟩:=map_some c
    split at g
    · cases g
    · rename_i l
      exact .inl ⟨_,b,by assumption,h,by simp only⟩
  · rename_i x i j
    obtain⟨q,k,c⟩:=bind_some c
    obtain⟨b,h,rfl⟩:=map_some c
    exact .inr ⟨_,q,b,by assumption,fun f e=>by subst e;exact i f rfl,k,h,rfl⟩
  · cases c
  · have:=(Option.filter_eq_some_iff.1 c).2
    rw[g]at this
    cases this
theorem jpy {m:Bool}{d :A}(b :Ja P m o=some (.nextMap d )):∃x,o.op=.next x false∧opd x=some d :=by
  unfold Ja at b
  split at b
  · unfold QL at b
    split at b
    · obtain⟨_,_,c⟩:=map_some b
      split at c <;> cases c
    · obtain⟨_,_,b⟩:=bind_some b
      obtain⟨_,_,c⟩:=map_some b
      cases c
    · cases b
    · have:=(Option.filter_eq_some_iff.1 b).2
      cases this
  · obtain⟨_,e,c⟩:=map_some b
    cases c
    exact⟨_,by assumption,e⟩
  · have:=(Option.filter_eq_some_iff.1 b).2
    cases this
theorem jba      (B :R E w0 I0 nt γ I st a w) {m:Bool} {ao:AOp} (hc:Ja     P m o=some ao) {f:FuncId} {vs:List V}
    (r:(∃h,ao=.call f h∧vs=h.map (eval E st.tm))∨∃q h first b,ao=.callV q h∧eval E st.tm q=.fn (.func f) first b∧vs=first++h.map (eval E st.tm)++b)
    (u:FnOk P f) :
    ∃d:Array Value,(execOp a.eval o).run P w=.ok (.enter f d) w∧d.size=vs.length∧∀ (j:Nat) (x:Value) (v:V),d[j]? = some x→vs[j]? = some v→Rep γ I x v:=by
  obtain⟨fn,c,J,S,X⟩:=u
  have H:ao.isCall=true:=by rcases r with⟨_,rfl,_⟩|⟨_,_,_,_,rfl,_⟩ <;> rfl
  obtain⟨G,F,s⟩:=jgj hc H
  have k:=jcc (P:=P) (w:=w) J S X
  rcases jcn s H with⟨g,h,e,p,rfl⟩|⟨x,q,h,e,a0,T,p,rfl⟩
  · rcases r with⟨Z,i,rfl⟩|⟨_,_,_,_,i,_⟩
    · cases i
      obtain⟨y,D⟩:=WO B p
      refine⟨G.args.map a.eval,?_,y,D⟩
      simp only[execOp,F,resolve,e,Act.eval,Deferred.ofValue,Sem.run_bind,Sem.run_pure,Result.andThen_ok,invoke,Array.empty_append,Array.append_empty]
      exact k _
    · cases i
  · rcases r with⟨_,i,_⟩|⟨q',Z,first,b,i,t,rfl⟩
    · cases i
    · cases i
      obtain⟨y,D⟩:=WO B p
      have l:=j9 B T
      rw[t]at l
      obtain⟨z,N,n,U,s2,K,Q⟩:=jch l
      obtain⟨t1,O⟩:=QN U y K D
      obtain⟨M,L⟩:=QN t1 s2 O Q
      refine⟨z++G.args.map a.eval++N,?_,M,L⟩
      simp only[execOp,F,resolve,e,n,Deferred.ofValue,Sem.run_bind,Sem.run_pure,Result.andThen_ok,invoke]
      exact k _
theorem jqi       (s :R E w0 I0 nt γ I st a w) {m:Bool} {ao:AOp} (D :Ja     P m o=some ao) {l u:Nat} {vs:List V} (d :jf        (eval E st.tm) ao=some (l,u,vs)) :
    ∃ (b:Nat) (k:Kd) (args:Array Value),γ u=some (.obj b k)∧(execOp a.eval o).run P w=(Instr.yield b args).run P w∧args.size=vs.length∧∀ (j:Nat) (x:Value) (v:V),args[j]? = some x→vs[j]? = some v→Rep γ I x v:=by
  unfold jf at d
  split at d
  case h_2=>cases d
  rename_i q J
  split at d
  case h_2=>cases d
  rename_i K L p
  cases d
  obtain⟨F,y,i⟩:=jgj D rfl
  rcases jcn i rfl with⟨g,f,c,r,n⟩|⟨x,M,f,c,B,H,r,n⟩
  · cases n
  · cases n
    obtain⟨t,G⟩:=WO s r
    have e:=j9 s H
    rw[p]at e
    obtain⟨b,k,z,h⟩:=jtv e
    refine⟨b,k,F.args.map a.eval,z,?_,t,G⟩
    simp only[execOp,y,resolve,c,h,Deferred.ofValue,Sem.run_bind,Sem.run_pure,Result.andThen_ok,invoke,Array.empty_append]
end
section
variable {P:Program}{E:Env}{w0 w:World}{I0:IMap}{nt:Nat}{γ:Nat→Option Place}{I:IMap}{st:St}{a:Act}{o:Oper}{ub:Nat}{δ:Delta}
theorem jl3 (v:V):(Y6 ub v).leaf=v.leaf:=by
 unfold Y6
 split <;> rfl
theorem jsy {τ γ':Nat→Option Place}{x:Value}{v:V}(h:juv τ I x v) (q:∀i∈v.tok,γ' (ub+i)=τ i):Rep γ' I x (Y6 ub v):=by
 cases v with
 | sl t s n cs=>
  cases t with
  | none=>exact .pure _ _ h
  | some p=>
   obtain⟨i,z⟩:=p
   cases h with
   | tsl u b n d r cs e k c l j f m g=>exact .tsl _ b _ d _ _ e (by rw[q i (by simp[V.tok])];exact k) c l j f m g
   | pure _ _ h=>cases h
 | _=>exact .pure _ _ h
theorem jqx {τ:Nat→Option Place}{x:Value}{v:V}(b:∀cs,v≠.agg cs) (h:jqd τ I x v):juv τ I x v∧jbw ub v=Y6 ub v∧v.toks=v.tok:=by
 cases v <;> first|exact absurd rfl (b _)|exact⟨h,rfl,rfl⟩
theorem jv5 {τ:Nat→Option Place}{x:Value}{v:V}(b:∀cs,v≠.tup cs) (h:jut τ I x v):jqd τ I x v∧jbx ub v=jbw ub v∧toksRes v=v.toks:=by
 cases v <;> first|exact absurd rfl (b _)|exact⟨h,rfl,rfl⟩
theorem jqy {τ γ':Nat→Option Place}{x:Value}{v:V}(h:jqd τ I x v) (g:∀i∈v.toks,γ' (ub+i)=τ i):Rep γ' I x (jbw ub v):=by
 by_cases l:∃cs,v=.agg cs
 ·obtain⟨cs,rfl⟩:=l
  obtain⟨p,rfl,d,k,f⟩:=h
  refine .agg _ _ (by simpa using d) (fun j u b=>?_) (fun j y u n b=>?_)
  ·simp only[List.getElem?_map,Option.map_eq_some_iff]at b
   obtain⟨q,c,rfl⟩:=b
   rw[jl3]
   exact k j q c
  ·simp only[List.getElem?_map,Option.map_eq_some_iff]at b
   obtain⟨q,c,rfl⟩:=b
   exact jsy (f j y q n c) (fun i m=>g i (List.mem_flatMap.2 ⟨q,List.mem_of_getElem? c,m⟩))
 ·obtain⟨d,k,f⟩:=jqx (ub:=ub) (fun cs e=>l ⟨cs,e⟩) h
  rw[k]
  rw[f]at g
  exact jsy d g
theorem j1i {τ γ':Nat→Option Place}{x:Value}{v:V}(h:jut τ I x v) (d:∀i∈toksRes v,γ' (ub+i)=τ i):Rep γ' I x (jbx ub v):=by
 by_cases g:∃cs,v=.tup cs
 ·obtain⟨r,rfl⟩:=g
  obtain⟨p,rfl,b,c⟩:=h
  refine .tup _ _ (by simpa using b) (fun j y u n f=>?_)
  simp only[List.getElem?_map,Option.map_eq_some_iff]at f
  obtain⟨q,k,rfl⟩:=f
  exact jqy (c j y q n k) (fun i l=>d i (List.mem_flatMap.2 ⟨q,List.mem_of_getElem? k,l⟩))
 ·obtain⟨b,m,c⟩:=jv5 (ub:=ub) (fun cs e=>g ⟨cs,e⟩) h
  rw[m]
  rw[c]at d
  exact jqy b d
theorem ji8 (G:R E w0 I0 nt γ I st a w) {dst:Option Tmp}(hd:∀d,dst=some d→d<nt) (hf:∀u,ub≤u→u<ub+64→γ u=none) {x:Value}{τ:Nat→Option Place}{I':IMap}{w':World}{r:V}
 (hg:w.grownBy w' none) (hI:∀b o x,I b o=some x→I' b o=some x) (b9:jkq I' w') (F:∀b o,b<w.heap.size→I' b o=I b o) (hx:jut τ I' x r) (ht:jko w.heap.size τ I' w' r) (b8:(toksRes r).all (fun i=>Nat.blt i 64)=true) :
 ∃e,R E w0 I0 nt e I' (st.app dst { v:=jbx ub r,add:=(toksRes r).map (ub + ·) }) (a.put dst x) w'∧(∀u,¬(ub≤u∧u<ub+64)→e u=γ u)∧(∀u p,γ u=some p→e u=some p):=by
 have O:∀i∈toksRes r,i<64:=fun i y=>by
  have:=List.all_eq_true.1 b8 i y
  simpa[Nat.blt_eq] using this
 let e:Nat→Option Place:=fun u=>if ub≤u∧u<ub+64 then τ (u - ub) else γ u
 have D:∀u p,γ u=some p→e u=some p:=by
  intro u p J
  have:¬ (ub≤u∧u<ub+64):=fun h=>by rw[hf u h.1 h.2]at J;cases J
  simp only[e,this,if_false,J]
 have M:∀i∈toksRes r,e (ub+i)=τ i:=by
  intro i y
  have:=O i y
  have h2:ub≤ub+i∧ub+i<ub+64:=⟨zO,zO⟩
  simp only[e,h2,and_self,if_true,Nat.add_sub_cancel_left]
 obtain⟨Ω,ho⟩:=G.own
 have q:∀b,b<w.heap.size→w'.heap[b]? = w.heap[b]?:=fun b N=>hg.block b N zS
 classical
 let Q:Nat→Nat→Prop:=fun b i=>i∈toksRes r∧∃n c s,τ i=some (.tok b n c s)
 let B:Nat→Option Owner:=fun b=>if h:∃i,Q b i then some (.tk (ub+h.choose)) else Ω b
 have L:∀b i,Q b i→w.heap.size≤b∧b<w'.heap.size:=by
  intro b i hq
  obtain⟨y,n,c,s,X⟩:=hq
  obtain⟨b',n',c',s',K,h2,h3,_⟩:=ht i y
  rw[X]at K
  cases K
  exact⟨h2,h3⟩
 have z:∀b,b<w.heap.size→B b=Ω b:=by
  intro b N
  have:¬ ∃i,Q b i:=fun⟨i,y⟩=>by have:=(L b i y).1;omega
  simp only[B,this,dif_neg,not_false_eq_true]
 have H:∀b i,Q b i→B b=some (.tk (ub+i)):=by
  intro b i hq
  have U:∃i,Q b i:=⟨i,hq⟩
  have b7:=U.choose_spec
  have:U.choose=i:=by
   obtain⟨y,n,c,s,X⟩:=hq
   obtain⟨b',n',c',s',K,_,_,_,_,S⟩:=ht i y
   rw[X]at K
   cases K
   obtain⟨c1,n2,c2,s2,b6⟩:=b7
   exact S _ c1 _ _ _ b6
  simp only[B,U,dif_pos,this]
 refine⟨e,⟨(Ye _ _ _).trans G.sz,jcm G D _ _,?_,⟨b9,fun g cs h=>(G.gl g cs h).mono hI,⟨B,⟨?_,?_,?_⟩⟩,?_,?_⟩⟩,?_,D⟩
 ·exact Wj (by rw[G.sz];exact hd) (fun t=>(G.tm t).mono D hI) (j1i hx M)
 ·intro l ob hl
  have b5:(st.app dst { v:=jbx ub r,add:=(toksRes r).map (ub + ·) }).ob=st.ob:=by simp[St.app,JK]
  rw[b5]at hl ⊢
  obtain⟨b,k,k1,k2,k3,k4,k5⟩:=ho.ob l ob hl
  have f:=ho.lt _ _ k2
  have Z:Xm γ st.ob st.ob w.heap w'.heap:=fun l2 u2 c3 c4 mb mk _ c0=>.inl ⟨c0,fun m c a0=>by
   rw[q mb (Array.getElem?_eq_some_iff.1 a0).1]
   exact a0⟩
  exact⟨b,k,D _ _ k1,by rw[z b f];exact k2,k3,by rw[q b f];exact(k4.keep Z).mono D hI,fun j=>by rw[F b j f];exact k5 j⟩
 ·intro u J
  simp only[St.app,Qj,Option.toList_none,List.not_mem_nil,if_false]at J
  split at J
  ·rename_i b0
   obtain⟨i,y,rfl⟩:=List.mem_map.1 b0
   obtain⟨b,n,c,s,K,h2,h3,h4,h5,_⟩:=ht i y
   exact⟨b,n,c,s,by rw[M i y];exact K,H b i ⟨y,n,c,s,K⟩,Nat.le_trans G.fr.size h2,h4,h5⟩
  ·obtain⟨b,n,c,s,k1,k2,k3,k4,k5⟩:=ho.tk u J
   have f:=ho.lt _ _ k2
   exact⟨b,n,c,s,D _ _ k1,by rw[z b f];exact k2,k3,by rw[q b f];exact k4,fun j hj=>by rw[F b j f];exact k5 j hj⟩
 ·intro b ow N
  by_cases f:b<w.heap.size
  ·exact Nat.lt_of_lt_of_le f hg.size
  ·by_cases hq:∃i,Q b i
   ·obtain⟨i,y⟩:=hq;exact(L b i y).2
   ·simp only[B,hq,dif_neg,not_false_eq_true]at N
    exact absurd (ho.lt _ _ N) f
 ·exact Grow.frame G.fr (T:=fun _=>False) ⟨hg.os,hg.tape,hg.output,hg.size,fun k hk _=>q k hk,fun k hk=>hk.elim⟩
 ·intro b j N
  rw[F b j (Nat.lt_of_lt_of_le N G.fr.size)]
  exact G.old b j N
 ·intro u J
  simp only[e,J,if_false]
end
section
variable {P:Program}{E:Env}{w0 w:World}{I0:IMap}{nt:Nat}{γ τ:Nat→Option Place}{I I' I1:IMap}{st:St}{a:Act}{B:Nat}{Ω:Nat→Option Owner}
def jcr (γ:Nat→Option Place) (B:Nat) (st:St) (w:World) (I I':IMap):Prop :=
 (∀b o x,I b o=some x→I' b o=some x)∧(∀b k o x l u cs,B≤b→st.ob l=some ⟨u,.cells cs⟩→γ u=some (.obj b k)→o<cs.length→w.cell? ⟨b,o,none⟩=some x→I' b o=some x)
theorem jf2 {v:V}(h:v.pureLeaf=true):v.strip1=v:=Xj h
theorem jwg {x:Value}{v:V}(h:Rep γ I x v) (hp:v.pureLeaf=true):RepP I x v:=by
 have:=Ym h (by rw[jf2 hp];exact hp)
 rwa [jf2 hp]at this
theorem jaf (M:Own γ I B st w Ω) (F:jcr γ B st w I I'):∀ (k:Nat) (x:Value) (v m:V),Rep γ I x v→JC st k v=some m→RepP I' x m∧m.pureLeaf=true
 | 0,_,_,_,_,h=>by cases h
 | k+1,x,v,m,hx,c=>by
  have d:(if v.pureLeaf then some v else none)=some m→RepP I' x m∧m.pureLeaf=true:=by
   intro h
   simp only[Option.ite_none_right_eq_some,Option.some.injEq]at h
   obtain⟨T,rfl⟩:=h
   exact⟨(jwg hx T).mono F.1,T⟩
  cases v with
  | sl t nl n cs=>
   cases t with
   | none=>exact d c
   | some q=>
    simp only[JC,Option.some.injEq]at c
    subst c
    exact⟨(Ym hx (by simp[V.strip1,V.pureLeaf])).mono F.1,rfl⟩
  | osl l u off n i=>
   simp only[JC]at c
   obtain⟨cs,o,c⟩:=bind_some c
   simp only[Option.ite_none_right_eq_some]at c
   obtain⟨⟨H,X⟩,c⟩:=c
   obtain⟨y,D,rfl⟩:=map_some c
   refine⟨?_,rfl⟩
   obtain⟨b,kb,ad,K,U,rfl,L,hc,Z⟩:=Xf hx
   have r:=jX o
   obtain⟨b',a0,O,k2,k3,⟨arr,e,m1,m2,m4,m3⟩,k5⟩:=M.ob l _ r
   rw[U]at O
   cases O
   have hB:B≤b:=k3 (by simpa[Nat.ble_eq] using H)
   obtain⟨J,p⟩:=js D
   have S:((cs.drop off).take (n*i)).length=n*i:=by simp only[List.length_take,List.length_drop];omega
   have g:∀j,j<cs.length→arr[j]? = some (arr.getD j undef):=by
    intro j G
    have:j<arr.size:=zO
    simp[this]
   have s:0<n*i→0<n:=fun h=>Nat.pos_of_ne_zero fun h0=>by subst h0;simp at h
   have f:∀ (j:Nat) (q:V),y[j]? = some q→j<n*i∧RepP I' (arr.getD (off+j) undef) q∧q.pureLeaf=true:=by
    intro j q Q
    have G:j<n*i:=by have:=(List.getElem?_eq_some_iff.1 Q).1;omega
    have c:((cs.drop off).take (n*i))[j]? = some (((cs.drop off).take (n*i))[j]' zO):=List.getElem?_eq_getElem _
    have z:=p j _ _ c Q
    rw[List.getElem?_take_of_lt G,List.getElem?_drop]at c
    obtain⟨q1,q2⟩:=m3 _ _ _ (g (off+j) (List.getElem?_eq_some_iff.1 c).1) c
    exact⟨G,jaf M F k _ _ _ q2 z⟩
   refine .sl ad n K _ (fun j=>arr.getD (off+j) undef) (fun o=>?_) hc Z (fun j G=>?_) (fun j v c=>(f j v c).2.2) (fun j v c=>(f j v c).2.1)
   ·have N:0<y.length:=List.length_pos_iff.2 o
    rw[(L (by have:=s zO;omega)).1]
   ·have b0:j<n*i:=zO
    rw[(L (by have:=s zO;omega)).1]
    refine F.2 b kb (off+j) _ l u cs hB r U zO ?_
    simp only[World.cell?,m1,Option.isSome_none,Bool.false_eq_true,if_false]
    exact g (off+j) zO
  | _=>exact d c
theorem jai {x:Value}{v:V}(h:RepP I x v) (b:v.scal=true):RepP I' x v:=by
 cases h <;> first|(simp[V.scal]at b;done)|constructor
theorem j28 {γ:Nat→Option Place}{w:World}{Ω:Nat→Option Owner}{ob:ZO}(l:Own γ I 0 (Jm [] ob (fun _=>false) 0 0 0) w Ω) (m:jcr γ 0 (Jm [] ob (fun _=>false) 0 0 0) w I I')
 {x:Value}{v p:V}(n:Rep γ I x v) (e:W6 ob v=some p):RepP I' x p:=by
 cases v with
 | agg cs=>
  obtain⟨g,rfl,t,D,q⟩:=Y2 n
  simp only[W6]at e
  obtain⟨d,i,rfl⟩:=map_some e
  obtain⟨F,s⟩:=js i
  have c:∀ (j:Nat) (y:Value) (u:V),g[j]? = some y→d[j]? = some u→RepP I' y u∧u.pureLeaf=true:=by
   intro j y u k b
   have h:j<cs.length:=by have:=(List.getElem?_eq_some_iff.1 b).1;omega
   have o:cs[j]? = some (cs[j]):=List.getElem?_eq_getElem h
   exact jaf l m 6 _ _ _ (q j y _ k o) (s j _ _ o b)
  refine .agg g d zO (fun j u b=>?_) (fun j y u k b=>(c j y u k b).1)
  have h:j<g.size:=by have:=(List.getElem?_eq_some_iff.1 b).1;omega
  exact jam (c j _ u (Array.getElem?_eq_getElem h) b).2
 | fn f r z=>cases e
 | _=>exact(jaf l m 6 _ _ _ n e).1
theorem jnw {γ:Nat→Option Place}{st:St}{w w0:World}{I0:IMap}{ob:ZO}{args d:List V}{xs:Array Value}(f:∀l x,ob l=some x→st.ob l=some x) (i:Sh E w0 I0 γ I st w) (z:args.mapM (W6 ob)=some d)
 (e:∀ (j:Nat) (x:Value) (v:V),xs[j]? = some x→args[j]? = some v→Rep γ I x v):d.length=args.length∧∀ (j:Nat) (x:Value) (v:V),xs[j]? = some x→d[j]? = some v→RepP (fun b o=>w.cell? ⟨b,o,none⟩) x v:=by
 obtain⟨Ω,s⟩:=i.own
 have r:Own γ I 0 (Jm [] ob (fun _=>false) 0 0 0) w Ω:=by
  refine⟨fun l o K=>?_,fun u h=>(by cases h),s.lt⟩
  obtain⟨b,k,D,L,T,O,M⟩:=s.ob l o (f l o K)
  exact⟨b,k,D,L,fun _=>Nat.zero_le _,O.keep (fun U S t G Q mk _ q=>.inl ⟨f _ _ q,fun m c J=>J⟩),M⟩
 have F:jcr γ 0 (Jm [] ob (fun _=>false) 0 0 0) w I (fun b o=>w.cell? ⟨b,o,none⟩):=⟨i.imm,fun b k o x l u cs _ _ _ _ p=>p⟩
 obtain⟨n,g⟩:=js z
 refine⟨n,fun j x v H y=>?_⟩
 have N:j<args.length:=by have:=(List.getElem?_eq_some_iff.1 y).1;omega
 have p:args[j]? = some (args[j]):=List.getElem?_eq_getElem N
 exact j28 r F (e j x _ H p) (g j _ _ p y)
theorem jmo {f:FuncId}{args N:List V}{ob0:ZO}{d ub:Nat}{v:V}{δ:Delta}(c3:∀l x,ob0 l=some x→st.ob l=some x) (hp:jkp P E f N v) (ha:args.mapM (W6 ob0)=some N) (H:QO d ub v=some δ)
 {xs:Array Value}(D:Sh E w0 I0 γ I st w) (c8:γ ub=none) (d2:xs.size=args.length) (b9:∀ (j:Nat) (x:Value) (v:V),xs[j]? = some x→args[j]? = some v→Rep γ I x v) :
 Calls P f xs w fun e w'=>∃x G,e=.returned x∧(∀p:St,p.ob=JK st.ob δ.obs→p.tk=st.tk→p.ro=st.ro→Sh E w0 I0 G I p w')∧Rep G I x δ.v∧SubG γ G∧(∀u,u≠ub→G u=γ u):=by
 obtain⟨c0,c4⟩:=jnw c3 D ha b9
 refine(hp w (fun b o=>w.cell? ⟨b,o,none⟩) xs (fun _ _ _ h=>h) (fun g cs Z=>(D.gl g cs Z).mono D.imm) (d2.trans c0.symm) c4).mono fun e w' he=>?_
 obtain⟨x,τ,I1,rfl,Z,hI,c1,d6,hx,ht⟩:=he
 have r:∀b,b<w.heap.size→w'.heap[b]? = w.heap[b]?:=fun b hb=>Z.block b hb zS
 have b0:∀b o y,I b o=some y→w'.cell? ⟨b,o,none⟩=some y:=fun b o y hy=>c1 b o y (hI b o y (D.imm b o y hy))
 have b5:w0.grownBy w' none:=Grow.frame D.fr (T:=fun _=>False) ⟨Z.os,Z.tape,Z.output,Z.size,fun k hk _=>r k hk,fun k hk=>hk.elim⟩
 obtain⟨Ω,Q⟩:=D.own
 have plain:v.scal=true→QO d ub v=some { v:=v }→∃x' G,Ending.returned x=.returned x'∧(∀p:St,p.ob=JK st.ob δ.obs→p.tk=st.tk→p.ro=st.ro→Sh E w0 I0 G I p w')∧Rep G I x' δ.v∧SubG γ G∧(∀u,u≠ub→G u=γ u):=by
  intro hs he
  rw[he]at H
  cases H
  refine⟨x,γ,rfl,fun p S h2 h3=>?_,.pure _ _ ?_,fun _ _ h=>h,fun _ _=>rfl⟩
  ·replace S:p.ob=st.ob:=S
   refine⟨b0,D.gl,⟨Ω,⟨fun l o X=>?_,fun u U=>?_,fun b o hb=>Nat.lt_of_lt_of_le (Q.lt b o hb) Z.size⟩⟩,b5,D.old⟩
   ·rw[S]at X
    obtain⟨b,k,k1,k2,k3,k4,k5⟩:=Q.ob l o X
    have M:=Q.lt _ _ k2
    have J:Xm γ st.ob p.ob w.heap w'.heap:=fun l2 u2 b8 d1 mb mk _ L=>.inl ⟨by rw[← S];exact L,fun m c O=>by
     rw[r mb (Array.getElem?_eq_some_iff.1 O).1]
     exact O⟩
    exact⟨b,k,k1,k2,by rw[h3];exact k3,by rw[r b M];exact k4.keep J,k5⟩
   ·rw[h2]at U
    obtain⟨b,n,c,s,k1,k2,k3,k4,k5⟩:=Q.tk u U
    exact⟨b,n,c,s,k1,k2,k3,by rw[r b (Q.lt _ _ k2)];exact k4,k5⟩
  ·have:RepP I1 x v:=by
    cases v with
    | tup|agg=>cases hs
    | sl t nl n cs=>cases t with
     | none=>exact hx
     | some q=>cases hs
    | _=>exact hx
   exact jai this hs
 cases v with
 | sl t nl n cs=>
  cases t with
  | none=>
   cases hs:(V.sl none nl n cs).scal with
   | true=>exact plain hs (by cases nl <;> simp[QO,hs])
   | false=>cases nl <;> simp[QO,hs]at H
  | some q=>
   obtain⟨i,z⟩:=q
   cases nl with
   | true=>simp[QO,V.scal]at H
   | false=>
    simp only[QO,Option.ite_none_right_eq_some,Option.some.injEq]at H
    obtain⟨c6,rfl⟩:=H
    have d0:Rep τ I1 x (.sl (some (i,z)) false n cs):=hx
    cases d0 with
    | pure _ _ h=>cases h
    | tsl _ b _ d3 _ _ d7 U b6 hc hm hi X d4=>
     obtain⟨b',n',d5,d9,k1,k2,k3,k4,k5,k6⟩:=ht i (by simp[toksRes,V.toks,V.tok])
     rw[U]at k1
     cases k1
     obtain⟨arr,e,m1,m2,m3,m4⟩:=k4
     have F:=WD (f:=γ) (k:=ub) (v:=Place.obj b (.n arr.size)) c8
     have c9:∀j,I b j=none:=by
      intro j
      cases hj:I b j with
      | none=>rfl
      | some y=>exact absurd (World.block_lt_of_cell? _ _ (D.imm _ _ _ hj)) (by simpa using k2)
     have c5:cs.length≤arr.size:=by rw[b6];exact Nat.le_trans (Nat.mul_le_mul_right _ hc) m2
     refine⟨_,upd γ ub (some (.obj b (.n arr.size))),rfl,fun p S h2 h3=>?_,?_,F,fun u U=>J9 _ _ U⟩
     ·replace S:p.ob=upd st.ob d (some ⟨ub,.cells cs⟩):=S
      refine⟨b0,D.gl,⟨upd Ω b (some (.ob d)),⟨fun l o X=>?_,fun u U=>?_,fun c o b7=>?_⟩⟩,b5,D.old⟩
      ·have J:Xm γ st.ob p.ob w.heap w'.heap:=by
        intro l2 u2 b8 d1 mb mk d8 L
        rw[S,j3]at L
        split at L
        ·simp at L
        ·exact .inl ⟨L,fun m c O=>by rw[r mb (Array.getElem?_eq_some_iff.1 O).1];exact O⟩
       rw[S,j3]at X
       split at X
       ·rename_i c7
        subst c7
        cases X
        refine⟨b,.n arr.size,zS,zS,fun _=>Nat.le_trans D.fr.size k2,⟨arr,e,m1,rfl,c5,fun j y u hy a0=>?_⟩,c9⟩
        have hj:=(List.getElem?_eq_some_iff.1 a0).1
        have K:=c1 b j _ (hi j hj)
        simp only[World.cell?,m1,Option.isSome_none,Bool.false_eq_true,if_false]at K
        rw[hy]at K
        cases K
        exact⟨jam (X j u a0),.pure _ _ (jai (d4 j u a0) (List.all_eq_true.1 c6 u (List.mem_of_getElem? a0)))⟩
       ·obtain⟨b2,k,q1,q2,q3,q4,q5⟩:=Q.ob l o X
        have M:=Q.lt _ _ q2
        exact⟨b2,k,F _ _ q1,by rw[J9 _ _ zO];exact q2,by rw[h3];exact q3,by rw[r b2 M];exact(q4.keep J).mono F (fun _ _ _ h=>h),q5⟩
      ·rw[h2]at U
       obtain⟨b2,n2,c2,s2,q1,q2,q3,q4,q5⟩:=Q.tk u U
       have M:=Q.lt _ _ q2
       exact⟨b2,n2,c2,s2,F _ _ q1,by rw[J9 _ _ zO];exact q2,q3,by rw[r b2 M];exact q4,q5⟩
      ·rw[j3]at b7
       split at b7
       ·rename_i e';omega
       ·exact Nat.lt_of_lt_of_le (Q.lt c o b7) Z.size
     ·refine Rep.osl _ ub 0 n z d3 b (.n arr.size) ⟨b,0,none⟩ zS (fun _=>⟨rfl,?_⟩) hc hm
      simpa[Kd.size] using m2
 | agg|tup|undef|eptr|ptr|osl|map|iter|fn|iface|yld=>simp[QO,V.scal]at H
 | _=>exact plain rfl rfl
theorem j0z {ob ob':ZO}{tk b:Nat→Bool}{ub c:Nat}{v r:V}(h:jvm ob tk ub v=some (r,ob',b,c)):∃e,QO (2*ub+1) ub v=some e∧r=e.v∧ob'=JK ob e.obs∧b=tk∧c=ub+64:=by
 unfold jvm at h
 unfold QO
 split at h
 ·rename_i n cs z
  simp only[Option.ite_none_right_eq_some,Option.some.injEq,Prod.mk.injEq]at h
  obtain⟨d,rfl,rfl,rfl,rfl⟩:=h
  exact⟨_,if_pos d,rfl,rfl,rfl,rfl⟩
 ·rename_i f
  simp only[Option.ite_none_right_eq_some,Option.some.injEq,Prod.mk.injEq]at h
  obtain⟨d,rfl,rfl,rfl,rfl⟩:=h
  exact⟨{ v:=v },if_pos d,rfl,rfl,rfl,rfl⟩
theorem jmp {d ub:Nat}{v:V}{δ:Delta}(h:QO d ub v=some δ):δ.wt=[]∧δ.kill=[]:=by
 unfold QO at h
 split at h
 ·simp only[Option.ite_none_right_eq_some,Option.some.injEq]at h
  obtain⟨_,rfl⟩:=h
  exact⟨rfl,rfl⟩
 ·simp only[Option.ite_none_right_eq_some,Option.some.injEq]at h
  obtain⟨_,rfl⟩:=h
  exact⟨rfl,rfl⟩
theorem j0y {γ0:Nat→Option Place}{Iy:IMap}{f:FuncId}{args b:List V}{ob ob':ZO}{tk i:Nat→Bool}{ro ub c:Nat}{v r:V}(hp:jkp P E f b v) (s:args.mapM (W6 ob)=some b) (y:jvm ob tk ub v=some (r,ob',i,c)) :
 jh8 P E γ0 Iy f args ob tk ro ub [(r,ob',i,c)]:=by
 intro w0 w I0 I γ K st H z m l k n g o d
 subst m l k
 obtain⟨L,j,rfl,rfl,rfl,rfl⟩:=j0z y
 refine(jmo (fun _ _ h=>h) hp s j n (g ub zR) o d).mono fun e M D=>?_
 obtain⟨x,p,rfl,t,F,G,J⟩:=D
 exact⟨_,List.mem_singleton.2 rfl,x,p,I,rfl,t,F,G,fun _ _ _ h=>h,fun u q=>by have q:ub+64≤u:=q;rw[J u zO];exact g u zO⟩
end
section
variable {P:Program}{E:Env}{w0 w:World}{I0:IMap}{nt:Nat}{γ:Nat→Option Place}{I:IMap}{st:St}{a:Act}{o:Oper}{ub:Nat}{δ:Delta}
def Nice (E:Env) (w0:World) (I0:IMap) (nt:Nat) (γ:Nat→Option Place) (I:IMap) (st:St) (ub:Nat) (K:Act→World→Prop):Prop :=
 ∀γ' I' a' w',R E w0 I0 nt γ' I' st a' w'→(∀u,ub≤u→γ' u=none)→(∀u p,γ u=some p→γ' u=some p)→(∀b o x,I b o=some x→I' b o=some x)→K a' w'
theorem ji3 {γ:Nat→Option Place}{I:IMap}:Rep γ I undef jq:=.tup _ _ rfl zS
theorem jrr (b:R E w0 I0 nt γ I st a w) {dst:Option Tmp}(c:∀d,dst=some d→d<nt):R E w0 I0 nt γ I { st with tm:=put st.tm dst jq } (a.put dst undef) w:=b.put c ji3
theorem XJ {m:Bool}{ops:Array Oper}{ao:AOpr}(b:JU P m ops o=some ao):ao.dst=o.dst∧(Ja P m o=some ao.op∨ao.op=.stuck):=by
 have c:Ja P m o=some ((Ja P m o).getD .stuck)∨(Ja P m o).getD .stuck=.stuck:=by
  cases Ja P m o with
  | none=>exact .inr rfl
  | some x=>exact .inl rfl
 unfold JU at b
 split at b
 ·cases b;exact⟨rfl,c⟩
 ·obtain⟨t,d,rfl⟩:=map_some b;exact⟨rfl,c⟩
theorem Xn (r:R E w0 I0 nt γ I st a w) {m:Bool}{ops:Array Oper}{ao:AOpr}{b:Bool}(i:JU P m ops o=some ao) (d:wanted ao st.tm=some b):Region.wanted o (yielded ops a.tmps)=b:=by
 unfold JU at i
 unfold Region.wanted
 cases q:o.guard with
 | none=>
  simp only[q,Option.some.injEq]at i
  subst i
  simp only[wanted,Option.some.injEq]at d
  exact d
 | some g=>
  obtain⟨j,k⟩:=g
  simp only[q]at i
  obtain⟨t,s,rfl⟩:=map_some i
  simp only[wanted]at d
  have c:=r.tm t
  have u:yielded ops a.tmps j=match a.tmps[t]? with|some (.bool b)=>some b|_=>none:=by
   unfold yielded
   rw[s]
   rfl
  simp only[u]
  split at d
  ·rename_i p f
   cases d
   rw[f]at c
   have n:a.tmps.getD t undef=.bool p:=by
    generalize a.tmps.getD t undef=x at c
    cases c with
    | pure _ _ h=>cases h;rfl
   have l:t<a.tmps.size:=by
    rcases Nat.lt_or_ge t a.tmps.size with h|h
    ·exact h
    ·simp[Array.getElem?_eq_none h,undef]at n
   have:a.tmps[t]? = some (.bool p):=by
    rw[Array.getElem?_eq_getElem l]
    simpa[l] using n
   simp only[this]
   cases p <;> cases k <;> rfl
  ·rename_i f
   cases d
   rw[f]at c
   have n:∀b,a.tmps.getD t undef≠.bool b:=by
    intro b e
    rw[e]at c
    cases c with
    | pure _ _ h=>cases h
   have:∀b,a.tmps[t]?≠some (.bool b):=by
    intro b e
    exact n b (by simp[e])
   split
   ·rename_i b f;exact absurd f (this b)
   ·rfl
  ·cases d
theorem Wc {r:Option Nat}{K:Act→World→Prop}{Q:Exit→Act→World→Prop}(b:∀c,o.op≠.defer c) (h:o.uponIn (FW r) 0 P a K Q ((execOp a.eval o).run P w)):o.wpIn (FW r) 0 P a w K Q :=
 ⟨fun _ _=>trivial,by rw[Oper.semAt_eq _ _ _ b];exact h⟩
theorem Yw {r:Option Nat}{K:Act→World→Prop}{Q:Exit→Act→World→Prop}{f:FuncId}{args:Array Value}{R':Ending→World→Prop}(h:Calls P f args w R') (g:∀e b,R' e b→∃v,e=.returned v∧K (a.put o.dst v) b) :
 o.uponIn (FW r) 0 P a K Q (.ok (.enter f args) w):=by
 rw[Oper.uponIn_enter]
 refine⟨(fun h=>by cases h),juk (Calls.mono h fun e b c=>?_)⟩
 obtain⟨v,rfl,d⟩:=g e b c
 exact d
theorem joq {r:Option Nat}{K:Act→World→Prop}{Q:Exit→Act→World→Prop}{l:Nat}{f:FuncId}{tmps:Array Value}{asg bd:Code}{R':Ending→World→Prop}(h:RoundIn (FW none) 0 P l f tmps asg bd w R') (g:∀e b,R' e b→∃v,e=.returned v∧K (a.put o.dst v) b) :
 o.uponIn (FW r) 0 P a K Q (.ok (.round l f tmps asg bd) w):=by
 rw[Oper.uponIn_round]
 refine⟨(fun h=>by cases h),?_⟩
 have:=RoundIn.mono h (R':=fun
  | .returned v,w''=>K (a.put o.dst v) w''
  | .panicked chain,w''=>Q (.panic chain) a w''
  | .outgrown,_=>LetsOut Q) (fun e b c=>by
  obtain⟨v,rfl,d⟩:=g e b c
  exact d)
 exact this
variable {γ0:Nat→Option Place}{Iy:IMap}
theorem jh5 {m:Bool}{U:Callers}{r:Option Nat}{ao:AOp}{K:Act→World→Prop}{Q:Exit→Act→World→Prop}(T:COk P E γ0 Iy U)
 (G:R E w0 I0 nt γ I st a w) (hf:∀u,ub≤u→u<ub+64→γ u=none) (t:Ja P m o=some ao) (hd:∀d,o.dst=some d→d<nt) {d:Nat}
 (k:aop U.d (eval E st.tm) st.ob st.tk st.ro d ub ao=some δ)
 (hK:∀j v a' O,R E w0 I0 nt j v (st.app o.dst δ) a' O→(∀u,¬(ub≤u∧u<ub+64)→j u=γ u)→(∀u p,γ u=some p→j u=some p)→(∀b o x,I b o=some x→v b o=some x)→K a' O) :
 o.wpIn (FW r) 0 P a w K Q:=by
 by_cases hn:ao.isCall=false
 ·obtain⟨x,O,j,v,h,l,F,i,H⟩:=op_ok G hd (hf ub zR zO) t hn k
  refine Wc (Yh t) ?_
  rcases h with h|⟨h,rfl⟩
  ·rw[h]
   exact hK j v _ _ l F i H
  ·rw[h]
   exact hK j v _ _ l F i H
 ·have c:∃f N,((∃n,ao=.call f n∧N=n.map (eval E st.tm))∨∃q n first g,ao=.callV q n∧eval E st.tm q=.fn (.func f) first g∧N=first++n.map (eval E st.tm)++g) ∧
   jb4 U.d ub f (N.map V.strip)=some δ:=by
   cases ao <;> simp only[AOp.isCall,not_true_eq_false,Bool.true_eq_false,not_false_eq_true]at hn
   case call f n=>exact⟨f,_,.inl ⟨n,rfl,rfl⟩,by rw[List.map_map];exact k⟩
   case callV q n=>
    simp only[aop]at k
    split at k
    ·rename_i f first g Z
     exact⟨f,_,.inr ⟨q,n,first,g,rfl,Z,rfl⟩,k⟩
    ·cases k
  obtain⟨f,N,M,c⟩:=c
  unfold jb4 at c
  split at c
  case isFalse=>cases c
  rename_i y
  obtain⟨r,hr,c⟩:=bind_some c
  unfold Xa at c
  split at c
  case isFalse=>cases c
  rename_i b5
  cases c
  obtain⟨b0,D⟩:=T.d _ _ _ hr
  obtain⟨J,h,a0,z⟩:=jba G t M b0
  obtain⟨B,s⟩:=jy1 a0 z y
  have:=D w I J G.imm G.gl B s
  refine Wc (Yh t) ?_
  rw[h]
  refine Yw this fun e O he=>?_
  obtain⟨x,τ,v,rfl,hg,H,S,L,hx,ht⟩:=he
  obtain⟨j,l,X,i⟩:=ji8 G hd hf hg H S L hx ht b5
  exact⟨x,rfl,hK j v _ _ l X i H⟩
theorem Jj {ao:AOp}{nm:Bool}{d:A→V}{f:FuncId}{vs:List V}(h:jA E nm d ao=some (f,vs)):(∃c,ao=.call f c∧vs=c.map d)∨∃q c first b,ao=.callV q c∧d q=.fn (.func f) first b∧vs=first++c.map d++b:=by
 unfold jA at h
 split at h
 ·rename_i g c
  split at h
  ·cases h
  ·cases h
   exact .inl ⟨c,rfl,rfl⟩
 ·rename_i q c
  split at h
  ·rename_i g first b e
   split at h
   ·cases h
   ·cases h
    exact .inr ⟨q,c,first,b,rfl,e,rfl⟩
  ·cases h
 ·cases h
theorem jzq {m nm:Bool}{S:Callers}{r:Option Nat}{ao:AOp}{K:Act→World→Prop}{Q:Exit→Act→World→Prop}(D:COk P E γ0 Iy S)
 (N:R E w0 I0 nt γ I st a w) (Z:∀u,ub≤u→u<ub+64→γ u=none) (j:Ja P m o=some ao) (hd:∀d,o.dst=some d→d<nt) {f:FuncId}{vs:List V}{ob:ZO}{tk:Nat→Bool}{base uo:Nat}
 (M:jA E nm (eval E st.tm) ao=some (f,vs)) (G:∀l x,ob l=some x→st.ob l=some x) (B:∀u,uo≤u→γ u=none) (z:(S.o f vs ob tk base uo).bind (Xa ub)=some δ)
 (hK:∀g t T L,R E w0 I0 nt g t (st.app o.dst δ) T L→(∀u,¬(ub≤u∧u<ub+64)→g u=γ u)→(∀u p,γ u=some p→g u=some p)→(∀b o x,I b o=some x→t b o=some x)→K T L) :
 o.wpIn (FW r) 0 P a w K Q:=by
 obtain⟨rv,hr,c⟩:=bind_some z
 unfold Xa at c
 split at c
 case isFalse=>cases c
 rename_i O
 cases c
 obtain⟨J,k⟩:=D.o _ _ _ _ _ _ _ hr
 obtain⟨n,q,H,i⟩:=jba N j (Jj M) J
 have:=k w0 w I0 I γ n st G N.sh B H i
 refine Wc (Yh j) ?_
 rw[q]
 refine Yw this fun e L he=>?_
 obtain⟨x,τ,t,rfl,hg,U,y,s,X,ht⟩:=he
 obtain⟨g,v,F,h⟩:=ji8 N hd Z hg U y s X ht O
 exact⟨x,rfl,hK g t _ _ v F h U⟩
theorem j5z {m nm:Bool}{X:Callers}{r:Option Nat}{ao:AOp}{K:Act→World→Prop}{Q:Exit→Act→World→Prop}(G:COk P E γ0 Iy X)
 (k:R E w0 I0 nt γ I st a w) (hf:∀u,ub≤u→u<ub+64→γ u=none) (y:Ja P m o=some ao) (hd:∀d,o.dst=some d→d<nt) {f:FuncId}{vs B:List V}{v:V}{ob:ZO}{dn:Nat}
 (S:jA E nm (eval E st.tm) ao=some (f,vs)) (L:∀l x,ob l=some x→st.ob l=some x) (ha:vs.mapM (W6 ob)=some B) (hv:X.d f B=some v) (n:QO dn ub v=some δ)
 (hK:∀c U Z O,R E w0 I0 nt c U (st.app o.dst δ) Z O→(∀u,¬(ub≤u∧u<ub+64)→c u=γ u)→(∀u p,γ u=some p→c u=some p)→(∀b o x,I b o=some x→U b o=some x)→K Z O) :
 o.wpIn (FW r) 0 P a w K Q:=by
 obtain⟨N,i⟩:=G.d _ _ _ hv
 obtain⟨a0,D,M,j⟩:=jba k y (Jj S) N
 refine Wc (Yh y) ?_
 rw[D]
 refine Yw (jmo L i ha n k.sh (hf ub zR zO) M j) fun e O he=>?_
 obtain⟨x,c,rfl,z,q,H,J⟩:=he
 obtain⟨g,T⟩:=jmp n
 unfold Delta.wt at g
 have s:δ.del.toList=[]:=(List.append_eq_nil_iff.1 g).1
 have F:δ.add=[]:=(List.append_eq_nil_iff.1 g).2
 refine⟨x,rfl,hK c I _ _ ⟨(Ye _ _ _).trans k.sz,jcm k H _ _,?_,z _ (by simp[St.app,T]) (by simp[St.app,s,F,XQ]) rfl⟩ (fun u hu=>J u (fun e=>hu ⟨zO,zO⟩)) H (fun _ _ _ h=>h)⟩
 exact Wj (by rw[k.sz];exact hd) (fun t=>(k.tm t).mono H (fun _ _ _ h=>h)) q
theorem mk_ok {m nm:Bool}{cd:Callers}{r:Option Nat}{ao:AOp}{K:Act→World→Prop}{Q:Exit→Act→World→Prop}(H:COk P E γ0 Iy cd)
 (X:R E w0 I0 nt γ I st a w) (hf:∀u,ub≤u→u<ub+64→γ u=none) (B:Ja P m o=some ao) (hd:∀d,o.dst=some d→d<nt) {f:FuncId}{vs:List V}{J:Nat}
 (N:jA E nm (eval E st.tm) ao=some (f,vs)) (g:mkD E f vs J ub=some δ)
 (hK:∀c F U M,R E w0 I0 nt c F (st.app o.dst δ) U M→(∀u,¬(ub≤u∧u<ub+64)→c u=γ u)→(∀u p,γ u=some p→c u=some p)→(∀b o x,I b o=some x→F b o=some x)→K U M) :
 o.wpIn (FW r) 0 P a w K Q:=by
 unfold mkD at g
 split at g
 case h_2=>cases g
 rename_i cs hn
 obtain⟨L,y⟩:=H.k _ _ hn
 obtain⟨l,D,z,s⟩:=jba X B (Jj N) L
 obtain⟨x,rfl⟩:∃x,l = #[x]:=⟨l[0]'(by simp at z;omega),by
  apply Array.ext
  ·simpa using z
  ·intro i O G
   have:i=0:=by simp at G;omega
   subst this
   rfl⟩
 obtain⟨p,q,rfl⟩:∃p q,x=.slice p 0 q:=by
  cases s 0 x _ rfl rfl with
  | pure _ _ h=>cases h <;> exact⟨_,_,rfl⟩
 refine Wc (Yh B) ?_
 rw[D]
 refine Yw (y p q w) fun e M he=>?_
 obtain⟨rfl,S,t,rfl,O,G⟩:=he
 obtain⟨c,F,h3,h4,h5,h6⟩:=jus (body:=.cells cs) (v:=.ptr J ub 0) (d:=J) (k:=.n S.size) X hd (hf ub zR zO) rfl (x:=.pointer (some ⟨w.heap.size,0,none⟩)) (fun c h=>.ptr _ _ _ _ _ h)
  ⟨S,t,rfl,rfl,Nat.le_of_eq O.symm,fun j x v T Z=>⟨(G j x v T Z).1,.pure _ _ ((G j x v T Z).2 _)⟩⟩ g
 exact⟨_,rfl,hK c F _ _ h3 h4 h5 h6⟩
theorem jg0 {m:Bool}{ops:Array Oper}{U:Callers}{rn:Option Nat}{ao:AOpr}{l:List (St × Nat)}{K:Act→World→Prop}{Q:Exit→Act→World→Prop}(L:COk P E γ0 Iy U) (X:SubG γ0 γ) (b5:SubI Iy I)
 (B:R E w0 I0 nt γ I st a w) (N:∀u,ub≤u→γ u=none) (hc:JU P m ops o=some ao) (hd:∀d,o.dst=some d→d<nt)
 (n:jb8 E U ao st ub=some l) (hK:∀x∈l,Nice E w0 I0 nt γ I x.1 x.2 K) :
 if Region.wanted o (yielded ops a.tmps) then o.wpIn (FW rn) 0 P a w K Q else (∀f,o.about P w a.eval=some f→(FW rn).fn f)∧K (a.put o.dst undef) w:=by
 obtain⟨j,i⟩:=XJ hc
 unfold jb8 at n
 cases hw:wanted ao st.tm with
 | none=>simp[hw]at n
 | some b=>
  rw[Xn B hc hw]
  cases b with
  | false=>
   simp only[hw,Option.some.injEq]at n
   subst n
   simp only[Bool.false_eq_true,if_false]
   refine⟨fun _ _=>trivial,?_⟩
   have:=hK _ (List.mem_singleton.2 rfl)
   rw[j]at this
   exact this γ I _ _ (jrr B hd) N (fun _ _ h=>h) (fun _ _ _ h=>h)
  | true=>
   simp only[hw]at n
   simp only[if_true]
   have i:Ja P m o=some ao.op:=i.resolve_right fun h=>by simp[h,jA,jf,aop,AOp.next?]at n
   -- behind what shares
   have b9:∀ {r:V}{ob:ZO}{tk:Nat→Bool}{T:Nat},({ st with tm:=put st.tm ao.dst r,ob:=ob,tk:=tk },T)∈l→∀e O,W9 E w0 I0 γ I st.ro r ob tk T e O→∃v,e=.returned v∧K (a.put o.dst v) O:=by
    intro r ob tk T hl e O he
    obtain⟨x,q,I',rfl,b7,b6,hg,hI,c2⟩:=he
    refine⟨x,rfl,?_⟩
    have:=hK _ hl
    refine this q I' _ _ ⟨(Ye _ _ _).trans B.sz,jcm B hg _ _,?_,b7 _ rfl rfl rfl⟩ c2 hg hI
    rw[j]
    exact Wj (by rw[B.sz];exact hd) (fun t=>(B.tm t).mono hg hI) b6
   cases a0:jf (eval E st.tm) ao.op with
   | some c6=>
    obtain⟨lb,u,vs⟩:=c6
    simp only[a0]at n
    obtain⟨⟨r,ob,tk,T⟩,p,he⟩:=map_some n
    obtain⟨b,k,H,hu,c,b0,z⟩:=jqi B i a0
    obtain⟨fn,tmps,c7,bd,hy,J⟩:=L.y _ _ _ _ _ _ _ _ _ _ _ p w0 w I0 I γ H st b k X b5 rfl rfl rfl B.sh N b0 z hu
    refine Wc (Yh i) ?_
    rw[c,hy]
    exact joq J (b9 (he▸List.mem_singleton.2 rfl))
   | none=>
   simp only[a0]at n
   cases S:jA E ao.nm (eval E st.tm) ao.op with
   | some fx=>
    obtain⟨f,vs⟩:=fx
    simp only[S]at n
    split at n
    ·obtain⟨ls,p,he⟩:=map_some n
     obtain⟨c3,b8⟩:=L.s _ _ _ _ _ _ _ _ p
     obtain⟨H,c,b0,z⟩:=jba B i (Jj S) c3
     have:=b8 w0 w I0 I γ H st X b5 rfl rfl rfl B.sh N b0 z
     refine Wc (Yh i) ?_
     rw[c]
     exact Yw this fun e O ⟨r,hr,h⟩=>b9 (he▸List.mem_map_of_mem (f:=fun x=>({ st with tm:=put st.tm ao.dst x.1,ob:=x.2.1,tk:=x.2.2.1 },x.2.2.2)) hr) e O h
    ·obtain⟨δ,F,rfl⟩:=map_some n
     refine jzq L B (fun u h _=>N u h) i hd S (fun _ _ h=>h) N F (fun q I' a' O D G g hI=>?_)
     have:=hK _ (List.mem_singleton.2 rfl)
     rw[j]at this
     refine this q I' _ _ D (fun u hu=>?_) g hI
     simp only at hu
     rw[G u zO]
     exact N u zO
   | none=>
    simp only[S]at n
    split at n
    ·rename_i x M
     obtain⟨ls,c4,rfl⟩:=map_some n
     have c5:ao.op=.nextMap x:=by
      unfold AOp.next? at M
      split at M
      ·cases M;assumption
      ·cases M
     rw[c5]at i
     obtain⟨xo,ho,c1⟩:=jpy i
     obtain⟨δ,F,c0⟩:=jpf (P:=P) (ub:=ub) B hd ho c1 c4
     obtain⟨x,O,q,I',c,D,G,g,hI⟩:=c0
     have Z:K (a.put o.dst x) O:=by
      have:=hK _ (List.mem_map.2 ⟨δ,F,rfl⟩)
      rw[j]at this
      refine this q I' _ _ D (fun u hu=>?_) g hI
      simp only at hu
      rw[G u zO]
      exact N u zO
     refine Wc (Yh i) ?_
     rcases c with c|⟨c,rfl⟩
     ·rw[c];exact Z
     ·rw[c];exact Z
    ·obtain⟨δ,F,rfl⟩:=map_some n
     refine jh5 L B (fun u h _=>N u h) i hd F (fun q I' a' O D G g hI=>?_)
     have:=hK _ (List.mem_singleton.2 rfl)
     rw[j]at this
     refine this q I' _ _ D (fun u hu=>?_) g hI
     simp only at hu
     rw[G u zO]
     exact N u zO
theorem je6 {e g:Type}{f:e→Option (List g)}:∀ {l:List e}{r:List g},Qe f l=some r→∀x∈l,∃d,f x=some d∧∀y∈d,y∈r
 | [],r,_,x,hx=>by cases hx
 | [x'],r,h,x,hx=>by
  simp only[List.mem_singleton]at hx
  subst hx
  exact⟨r,h,fun y c=>c⟩
 | x'::y'::l,r,h,x,hx=>by
  simp only[Qe]at h
  obtain⟨a,i,h⟩:=bind_some h
  obtain⟨b,k,rfl⟩:=map_some h
  rcases List.mem_cons.1 hx with rfl|hx
  ·exact⟨a,i,fun y c=>List.mem_append_left _ c⟩
  ·obtain⟨d,j,m⟩:=je6 k x hx
   exact⟨d,j,fun y c=>List.mem_append_right _ (m y c)⟩
theorem JV {b c:Type}{m:Option (List b)}{f:b→Option (List c)}{r:List c}(h:bindL m f=some r):∃l,m=some l∧∀x∈l,∃d,f x=some d∧∀y∈d,y∈r:=by
 obtain⟨l,e,h⟩:=bind_some h
 exact⟨l,e,je6 h⟩
theorem R.congr {st st':St}(h:R E w0 I0 nt γ I st a w) (c:st'.tm=st.tm) (b:st'.ob=st.ob) (f:st'.tk=st.tk) (d:st'.ro=st.ro) (e:st'.df=st.df):R E w0 I0 nt γ I st' a w :=
 ⟨h.sz,by rw[e];exact h.df,by rw[c];exact h.tm,⟨h.imm,h.gl,(let ⟨Ω,ho⟩:=h.own;⟨Ω,⟨by rw[b,d];exact ho.ob,by rw[f];exact ho.tk,ho.lt⟩⟩),h.fr,h.old⟩⟩
theorem Nice.weaken {γ γ':Nat→Option Place}{I f:IMap}{st:St}{ub:Nat}{K:Act→World→Prop}(h:Nice E w0 I0 nt γ I st ub K) (m:∀u p,γ u=some p→γ' u=some p)
 (l:∀b o x,I b o=some x→f b o=some x):Nice E w0 I0 nt γ' f st ub K :=
 fun e g a2 k j i d c=>h e g a2 k j i (fun u p h=>d u p (m u p h)) (fun b o x h=>c b o x (l b o x h))
theorem jr3 {m:Bool}{ops:Array Oper}{f:Callers}{rn:Option Nat}{Q:Exit→Act→World→Prop}(j:COk P E γ0 Iy f) :
 ∀ (l:List Oper) (c:List AOpr),l.mapM (JU P m ops)=some c→(∀p∈c,∀d,p.dst=some d→d<nt)→∀ (γ:Nat→Option Place) (I:IMap) (st:St) (a:Act) (w:World) (ub:Nat) (e:List St),
  SubG γ0 γ→SubI Iy I→R E w0 I0 nt γ I st a w→(∀u,ub≤u→γ u=none)→jhh E f c st ub=some e→(∀b∈e,Nice E w0 I0 nt γ I b b.nx (fun a w=>Q .normal a w))→wpListIn (FW rn) 0 P ops Q l a w
 | [],c,hm,hd,γ,I,st,a,w,ub,e,hγ0,hIy,hR,hf,hs,hK=>by
  simp at hm
  subst hm
  simp only[jhh,Option.some.injEq]at hs
  subst hs
  exact hK _ (List.mem_singleton.2 rfl) γ I a w (hR.congr rfl rfl rfl rfl rfl) hf (fun _ _ h=>h) (fun _ _ _ h=>h)
 | o::l,c,hm,hd,γ,I,st,a,w,ub,e,hγ0,hIy,hR,hf,hs,hK=>by
  simp only[List.mapM_cons]at hm
  cases g:JU P m ops o with
  | none=>simp[g]at hm
  | some p=>
   cases r:l.mapM (JU P m ops) with
   | none=>simp[g,r]at hm
   | some n=>
    simp[g,r]at hm
    subst hm
    simp only[jhh]at hs
    obtain⟨ls,B,F⟩:=JV hs
    have v:∀d,o.dst=some d→d<nt:=by
     have i:p.dst=o.dst:=(XJ g).1
     rw[← i]
     exact hd p (List.mem_cons_self ..)
    have:=jg0 (rn:=rn) (K:=wpListIn (FW rn) 0 P ops Q l) (Q:=Q) j hγ0 hIy hR hf g v B (fun x i t D G H q s y z=>by
     obtain⟨L,J,M⟩:=F x i
     exact jr3 j l n r (fun x i=>hd x (List.mem_cons_of_mem _ i)) t D x.1 G H x.2 L (hγ0.trans y) (hIy.trans z) q s J
      (fun b k=>(hK b (M b k)).weaken y z))
    unfold wpListIn
    exact this
end
theorem jp2 {E:Env}{tm a:Nat→V}{x:A}(h:∀t∈x.tmps,tm t=a t):eval E tm x=eval E a x:=by
 cases x with
 | t n=>exact h n (by simp[A.tmps])
 | c v=>rfl
 | g n=>rfl
theorem QY {ob ob':ZO}{l u:Nat}(h:ob l=ob' l):objCells ob l u=objCells ob' l u:=by unfold objCells;rw[h]
theorem jjn {ob ob':ZO}{l u:Nat}(h:ob l=ob' l):jg ob l u=jg ob' l u:=by unfold jg;rw[h]
theorem jjm {ob ob':ZO}{l:Nat}(h:ob l=ob' l):jk ob l=jk ob' l:=by unfold jk;rw[h]
theorem WI {ob ob':ZO}{sz:Nat}{v:V}(h:∀l∈lOf v,ob l=ob' l):slCells ob sz v=slCells ob' sz v:=by
 cases v <;> try rfl
 simp only[slCells]
 rw[QY (h _ (by simp[lOf]))]
theorem X3 {a b:Type}{f g:a→b}{l:List a}(h:∀x∈l,f x=g x):l.map f=l.map g:=List.map_congr_left h
theorem Ww {ρ a:A→V}{ps:List (Nat × Nat × A)}(h:∀x∈ps.map (·.2.2),ρ x=a x):jt ρ ps=jt a ps:=by
 unfold jt
 refine List.map_congr_left fun p b=>?_
 obtain⟨o,s,x⟩:=p
 simp only[h x (List.mem_map.2 ⟨_,b,rfl⟩)]
theorem XM {ρ a:A→V}{x:Option A}(h:∀y∈x.toList,ρ y=a y):x.map ρ=x.map a:=by
 cases x with
 | none=>rfl
 | some y=>simp[h y zS]
theorem je8 {cd:FuncId→List V→Option V}{ρ w:A→V}{ob ob':ZO}{tk G:Nat→Bool}{ro d ub:Nat}(o:AOp) (r:o.far=false)
 (c:∀x∈o.opds,ρ x=w x) (B:∀l∈rdOb ρ o,ob l=ob' l) (J:∀u∈rdTk ρ o,tk u=G u):aop cd ρ ob tk ro d ub o=aop cd w ob' G ro d ub o:=by
 have j:∀l u,l∈rdOb ρ o→objCells ob l u=objCells ob' l u:=fun l u h=>QY (B l h)
 have ov:∀l,l∈rdOb ρ o→jk ob l=jk ob' l:=fun l h=>jjm (B l h)
 have om:∀l u,l∈rdOb ρ o→jg ob l u=jg ob' l u:=fun l u h=>jjn (B l h)
 cases o <;> simp only[AOp.opds,List.mem_cons,List.not_mem_nil,or_false,forall_eq_or_imp,forall_eq]at c
 case alloc=>rfl
 case mkMap=>rfl
 case stuck=>rfl
 case build z ps=>simp only[aop,Ww c]
 case buildSl o s z ps n=>simp only[aop,Ww c]
 case entry x=>cases r
 case nextMap x=>cases r
 case slStr x l h=>
  simp only[aop]
  rw[c.1,XM (fun y i=>c.2 y (List.mem_append_left _ i)),XM (fun y i=>c.2 y (List.mem_append_right _ i))]
 case slSl s x l h=>
  simp only[aop]
  rw[c.1,XM (fun y i=>c.2 y (List.mem_append_left _ i)),XM (fun y i=>c.2 y (List.mem_append_right _ i))]
 case slArr n s x l h=>
  simp only[aop]
  rw[← c.1,XM (fun y i=>c.2 y (List.mem_append_left _ i)),XM (fun y i=>c.2 y (List.mem_append_right _ i))]
  split
  ·rename_i a u off e;rw[j a u (by simp[rdOb,e,lOf])]
  ·rfl
 case ext k xs=>simp only[aop,X3 c]
 case eq neg k x y=>
  simp only[aop]
  rw[← c.1,← c.2]
  split
  ·rename_i l u off K L H e i
   rw[j l u (by simp[rdOb,e,lOf]),j K L (by simp[rdOb,i,lOf])]
  ·rfl
 case copy sz x y=>
  simp only[aop]
  rw[← c.1,← c.2,WI (fun l D=>B l (by simp only[rdOb];exact List.mem_append_right _ D))]
  congr 1
  funext ys
  split
  ·rename_i l u off n F e;rw[j l u (by simp[rdOb,e,lOf])]
  ·rfl
  ·rfl
 case clear sz z x=>
  simp only[aop]
  rw[← c]
  split
  ·rename_i l u off n F e;rw[j l u (by simp[rdOb,e,lOf])]
  ·rfl
  ·rfl
 case mkFn f a b=>
  simp only[aop]
  rw[X3 (fun y i=>c y (List.mem_append_left _ i)),X3 (fun y i=>c y (List.mem_append_right _ i))]
 case minmax b xs=>simp only[aop,X3 c]
 case call f xs=>
  simp only[aop]
  rw[X3 (f:=fun x=>(ρ x).strip) (g:=fun x=>(w x).strip) (fun y i=>by rw[c y i])]
 case callV f xs=>
  simp only[aop]
  rw[c.1,X3 (fun y i=>c.2 y i)]
 case load g x=>
  simp only[aop]
  rw[← c]
  split
  ·rfl
  ·rename_i l u off e;rw[j l u (by simp[rdOb,e,lOf])]
  ·rfl
 case store s x y=>
  simp only[aop]
  rw[← c.1,← c.2]
  split
  ·rename_i l u off e;rw[j l u (by simp[rdOb,e,lOf])]
  ·rfl
 case lenMap x=>
  simp only[aop]
  rw[← c]
  split
  ·rfl
  ·rename_i l u e;rw[om l u (by simp[rdOb,e,lOf])]
  ·rfl
 case lookup q z ok m k=>
  simp only[aop]
  rw[← c.1,← c.2]
  split
  ·split
   ·rfl
   ·rename_i l u e;rw[om l u (by simp[rdOb,e,lOf])]
   ·rfl
  ·rfl
 case mapSet q m k v=>
  simp only[aop]
  rw[← c.1,← c.2.1,← c.2.2]
  split
  ·split
   ·rename_i l u e;rw[om l u (by simp[rdOb,e,lOf]),ov l (by simp[rdOb,e,lOf])]
   ·rfl
  ·rfl
 case mapDel q m k=>
  simp only[aop]
  rw[← c.1,← c.2]
  split
  ·split
   ·rfl
   ·rename_i l u e;rw[om l u (by simp[rdOb,e,lOf]),ov l (by simp[rdOb,e,lOf])]
   ·rfl
  ·rfl
 case mapEnt q z m k=>
  simp only[aop]
  rw[← c.1,← c.2]
  split
  ·split
   ·rename_i l u e;rw[om l u (by simp[rdOb,e,lOf]),ov l (by simp[rdOb,e,lOf])]
   ·rfl
  ·rfl
 case entSt m s x=>
  simp only[aop]
  rw[← c.1,← c.2.1,← c.2.2]
  split
  ·rename_i l u n e _;rw[om l u (by simp[rdOb,e,lOf]),ov l (by simp[rdOb,e,lOf])]
  ·rfl
 case nextStr x=>
  simp only[aop]
  rw[← c]
  split
  ·rename_i l u e;rw[B l (by simp[rdOb,e,lOf])]
  ·rfl
 case append o s b x y=>
  simp only[aop]
  rw[← c.1,← c.2]
  split
  ·rename_i t M n cs e
   rw[WI (fun l D=>B l (by simp only[rdOb];exact List.mem_append_right _ D))]
   cases t with
   | none=>rfl
   | some p=>
    obtain⟨u,z⟩:=p
    have I:=J u (by simp[rdTk,e,uOf])
    simp only[I]
  ·rename_i l u off n F e
   rw[WI (fun l D=>B l (by simp only[rdOb];exact List.mem_append_right _ D)),j l u (by simp[rdOb,e,lOf])]
  ·rfl
 case range b x=>
  cases b
  ·simp only[aop]
   rw[← c]
   split
   ·rfl
   ·rename_i l u e;rw[om l u (by simp[rdOb,e,lOf]),ov l (by simp[rdOb,e,lOf])]
   ·rfl
  ·simp only[aop,c]
 all_goals simp only[aop,c]
theorem rd_eq {ρ a:A→V}(o:AOp) (b:∀x∈o.opds,ρ x=a x):rdOb ρ o=rdOb a o∧rdTk ρ o=rdTk a o:=by
 cases o <;> simp only[AOp.opds,List.mem_cons,List.not_mem_nil,or_false,forall_eq_or_imp,forall_eq]at b <;> simp only[rdOb,rdTk,b,and_self]
theorem Yd {E:Env}{nm:Bool}{ρ a:A→V}(o:AOp) (b:∀x∈o.opds,ρ x=a x):jA E nm ρ o=jA E nm a o:=by
 cases o <;> try rfl
 case call f xs=>
  have:xs.map ρ=xs.map a:=X3 (fun y c=>b y c)
  have e:(xs.all fun x=>(ρ x).strip.pureTop)=xs.all fun x=>(a x).strip.pureTop:=by
   have:∀r:A→V,(xs.all fun x=>(r x).strip.pureTop)=(xs.map r).all fun v=>v.strip.pureTop:=fun r=>by rw[List.all_map];rfl
   rw[this,this]
   congr 1
  simp only[jA,this,e]
 case callV f xs=>
  simp only[AOp.opds,List.mem_cons,forall_eq_or_imp]at b
  simp only[jA]
  rw[b.1,X3 (fun y c=>b.2 y c)]
section
variable {cd:FuncId→List V→Option V}{ρ:A→V}{ob:ZO}{tk:Nat→Bool}{ro d ub:Nat}{δ:Delta}
theorem j5x {o:AOp}(h:o.rO=false):rdOb ρ o=[]:=by cases o <;> first|rfl|cases h
theorem j5w {o:AOp}(h:o.rT=false):rdTk ρ o=[]:=by cases o <;> first|rfl|cases h
def PlO (r:Option Delta):Prop:=∀δ,r=some δ→δ.wo=[]
def PlT (r:Option Delta):Prop:=∀δ,r=some δ→δ.wt=[]
theorem jan:PlO none:=fun _ h=>by cases h
theorem plT_none:PlT none:=fun _ h=>by cases h
theorem jlf (v:V):PlO (one v):=fun _ h=>by cases h;rfl
theorem jle (v:V):PlT (one v):=fun _ h=>by cases h;rfl
theorem jm9 {δ:Delta}(h:δ.wo=[]):PlO (some δ):=fun _ a=>by cases a;exact h
theorem jwh {δ:Delta}(h:δ.wt=[]):PlT (some δ):=fun _ a=>by cases a;exact h
theorem plT_mk {d ub:Nat}{b:OBody}{v:V}:PlT (Jg d ub b v):=fun _ h=>by cases h;rfl
theorem plO_bind {c:Type}{x:Option c}{f:c→Option Delta}(h:∀a,PlO (f a)):PlO (x.bind f):=fun δ b=>by
 obtain⟨a,_,b⟩:=bind_some b
 exact h a δ b
theorem plT_bind {c:Type}{x:Option c}{f:c→Option Delta}(h:∀a,PlT (f a)):PlT (x.bind f):=fun δ b=>by
 obtain⟨a,_,b⟩:=bind_some b
 exact h a δ b
theorem jrx {ub:Nat}{r:V}:PlO (Xa ub r):=by
 unfold Xa
 split
 ·exact jm9 rfl
 ·exact jan
theorem jn9 {f:FuncId}{xs:List V}:PlO (jb4 cd ub f xs):=by
 unfold jb4
 split
 ·exact plO_bind fun r=>jrx
 ·exact jan
theorem j1p (k:ExtK) (vs:List V):PlO (j3g k vs):=by
 unfold j3g
 split
 ·exact jlf _
 ·exact jlf _
 ·exact jan
theorem j1o (k:ExtK) (vs:List V):PlT (j3g k vs):=by
 unfold j3g
 split
 ·exact jle _
 ·exact jle _
 ·exact plT_none
theorem jy8 (o:AOp) (h:o.wO=false):PlO (aop cd ρ ob tk ro d ub o):=by
 cases o <;> simp only[AOp.wO,Bool.true_eq_false]at h <;> simp only[aop]
 case call f xs=>exact jn9
 case callV f xs=>
  split
  ·exact jn9
  ·exact jan
 case ext k xs=>exact j1p _ _
 all_goals repeat' first
  | with_reducible exact jlf _
  | with_reducible exact jan
  | with_reducible exact jm9 rfl
  | (with_reducible refine plO_bind fun _=>?_)
  | split
theorem jy7 (o:AOp) (h:o.wT=false):PlT (aop cd ρ ob tk ro d ub o):=by
 cases o <;> simp only[AOp.wT,Bool.true_eq_false]at h
 case range b x=>cases b <;> simp only[aop] <;> repeat' first|exact plT_none|exact plT_mk|(with_reducible refine plT_bind fun _=>?_)|split
 case ext k xs=>simp only[aop];exact j1o _ _
 all_goals simp only[aop]
 all_goals repeat' first
  | with_reducible exact jle _
  | with_reducible exact plT_none
  | with_reducible exact plT_mk
  | with_reducible exact jwh rfl
  | (with_reducible refine plT_bind fun _=>?_)
  | split
end
abbrev Eff:=Option Nat × Delta
def jL:(Nat→Bool)→List Eff→St→St
 | _,[],st=>st
 | D,e::es,st=>jL (fun i=>D (i+1)) es (if D 0 then st.app e.1 e.2 else st)
theorem jx:∀ (es:List Eff) (D:Nat→Bool) (st:St),(jL D es st).nx=st.nx∧(jL D es st).fb=st.fb∧(jL D es st).ro=st.ro∧(jL D es st).df=st.df
 | [],_,_=>⟨rfl,rfl,rfl,rfl⟩
 | e::es,D,st=>by
  simp only[jL]
  obtain⟨a,d,c,b⟩:=jx es (fun i=>D (i+1)) (if D 0 then st.app e.1 e.2 else st)
  rw[a,d,c,b]
  split <;> exact⟨rfl,rfl,rfl,rfl⟩
section
variable {β:Type}{π:St→β}{wr:Eff→Bool}{g:Eff→β}(hπ:∀ (s:St) (e:Eff),π (s.app e.1 e.2)=if wr e then g e else π s)
include hπ
theorem X9:∀ (es:List Eff) (D c:Nat→Bool) (s s':St),(∀i e,es[i]? = some e→wr e=true→D i=c i)→π s=π s'→π (jL D es s)=π (jL c es s')
 | [],_,_,_,_,_,h=>h
 | e::es,D,c,s,s',h,hs=>by
  simp only[jL]
  refine X9 es _ _ _ _ (fun i f d a=>h (i+1) f (by simpa using d) a) ?_
  cases a:wr e with
  | true=>
   rw[h 0 e rfl a]
   split
   ·rw[hπ,hπ,a];rfl
   ·exact hs
  | false=>
   have:∀ (b:Bool) (s:St),π (if b then s.app e.1 e.2 else s)=π s:=fun b s=>by
    cases b
    ·rfl
    ·simp only[if_true];rw[hπ,a];rfl
   rw[this,this,hs]
theorem jj7:∀ (es:List Eff) (D:Nat→Bool) (s:St),(∀i e,es[i]? = some e→D i=true→wr e=false)→π (jL D es s)=π s
 | [],_,_,_=>rfl
 | e::es,D,s,h=>by
  simp only[jL]
  rw[jj7 es _ _ (fun i c a d=>h (i+1) c (by simpa using a) d)]
  split
  ·rename_i b;rw[hπ,h 0 e rfl b];rfl
  ·rfl
theorem jc6:∀ (es:List Eff) (D c:Nat→Bool) (s:St) (j:Nat) (e:Eff),es[j]? = some e→D j=false→c j=true→(∀i,i≠j→c i=D i) →
 (∀i b,j<i→es[i]? = some b→D i=true→wr e=true→wr b=false)→π (jL c es s)=if wr e then g e else π (jL D es s)
 | [],_,_,_,_,_,h,_,_,_,_=>by simp at h
 | e0::es,D,c,s,0,e,a,h0,h1,hsame,hno=>by
  simp only[List.getElem?_cons_zero,Option.some.injEq]at a
  subst a
  have m:(fun i=>c (i+1))=fun i=>D (i+1):=funext fun i=>hsame (i+1) zO
  simp only[jL,h0,h1,if_true,m,Bool.false_eq_true,if_false]
  cases d:wr e0 with
  | true=>
   rw[jj7 hπ es _ _ (fun i b a k=>hno (i+1) b zO (by simpa using a) k d),hπ,d]
   rfl
  | false=>
   simp only[Bool.false_eq_true,if_false]
   refine X9 hπ es _ _ _ _ (fun _ _ _ _=>rfl) ?_
   rw[hπ,d];rfl
 | e0::es,D,c,s,j+1,e,a,h0,h1,hsame,hno=>by
  simp only[jL]
  rw[hsame 0 zO]
  exact jc6 es _ _ _ j e (by simpa using a) h0 h1 (fun i l=>hsame (i+1) zO) (fun i b l f k d=>hno (i+1) b zO (by simpa using f) k d)
end
def wrT (t:Nat) (e:Eff):Bool:=decide (e.1=some t)
def wrO (l:Nat) (e:Eff):Bool:=e.2.wo.contains l
def wrK (u:Nat) (e:Eff):Bool:=e.2.wt.contains u
theorem jab (t:Nat) (s:St) (e:Eff):(s.app e.1 e.2).tm t=if wrT t e then e.2.v else s.tm t:=by
 obtain⟨d,a⟩:=e
 cases d with
 | none=>simp[wrT,St.app,put]
 | some d=>
  simp only[wrT,St.app,put,j3,Option.some.injEq,decide_eq_true_eq]
  by_cases h:t=d
  ·subst h;simp
  ·rw[if_neg h,if_neg (fun e=>h e.symm)]
theorem Wg (ob:ZO):∀ (l:List (Nat × Obj')) (k:Nat),JK ob l k=if (l.map (·.1)).contains k then JK (fun _=>none) l k else ob k
 | [],k=>by simp[JK]
 | (l,o)::r,k=>by
  simp only[JK,j3,List.map_cons,List.contains_cons]
  by_cases h:k=l
  ·subst h;simp
  ·rw[if_neg h,if_neg h,Wg ob r k]
   have:(k == l)=false:=by simpa using h
   simp only[this,Bool.false_or]
theorem jcf (l:Nat) (s:St) (e:Eff):(s.app e.1 e.2).ob l=if wrO l e then JK (fun _=>none) e.2.obs l else s.ob l:=by
 have a:∀ (q:List Nat),q.any (Nat.beq l)=q.contains l:=fun q=>by
  rw[Bool.eq_iff_iff,any_beq]
  simp
 simp only[St.app,wrO,Delta.wo,List.contains_append]
 rw[Wg]
 cases h:(e.2.obs.map (·.1)).contains l with
 | true=>simp
 | false=>
  simp only[Bool.or_false,Bool.false_eq_true,if_false,a]
  cases b:e.2.kill.contains l with
  | true=>
   simp only[if_true]
   rw[Wg,h]
   rfl
  | false=>simp
theorem jah (tk:Nat→Bool) (b:Bool):∀ (l:List Nat) (k:Nat),XQ tk b l k=if l.contains k then b else tk k
 | [],k=>by simp[XQ]
 | u::r,k=>by
  simp only[XQ,j3,List.contains_cons]
  by_cases h:k=u
  ·subst h;simp
  ·rw[if_neg h,jah tk b r k]
   have:(k == u)=false:=by simpa using h
   simp only[this,Bool.false_or]
theorem jfl (u:Nat) (s:St) (e:Eff):(s.app e.1 e.2).tk u=if wrK u e then e.2.add.contains u else s.tk u:=by
 simp only[St.app,wrK,Delta.wt,jah,List.contains_append]
 cases e.2.add.contains u <;> cases e.2.del.toList.contains u <;> rfl
theorem jgx (b:List Nat) (i:Nat):∀ (es:List Edge) (m:Nat),(es.foldl (fun m e=>if Region.binds .any e then m ||| (1 <<< e.on ||| b.getD e.on 0) else m) m).testBit i=true →
 m.testBit i=true∨∃e∈es,Region.binds .any e=true∧(i=e.on∨(b.getD e.on 0).testBit i=true)
 | [],m,h=>.inl h
 | e::es,m,h=>by
  simp only[List.foldl_cons]at h
  rcases jgx b i es _ h with h|⟨j,c,f⟩
  ·split at h
   ·rename_i a
    rw[Nat.testBit_or,Nat.testBit_or]at h
    simp only[Bool.or_eq_true]at h
    rcases h with h|h|h
    ·exact .inl h
    ·refine .inr ⟨e,List.mem_cons_self ..,a,.inl ?_⟩
     rw[Nat.testBit_shiftLeft]at h
     simp only[ge_iff_le,Bool.and_eq_true,decide_eq_true_eq]at h
     have:i - e.on=0:=by
      rcases Nat.eq_zero_or_pos (i - e.on) with h0|h0
      ·exact h0
      ·have d:=h.2
       have:Nat.testBit 1 (i - e.on)=false:=Nat.testBit_lt_two_pow (Nat.one_lt_two_pow zO)
       rw[this]at d
       cases d
     omega
    ·exact .inr ⟨e,List.mem_cons_self ..,a,.inr h⟩
   ·exact .inl h
  ·exact .inr ⟨j,List.mem_cons_of_mem _ c,f⟩
theorem jfa:∀ (l:List Oper) (a:List Nat),a <+: J8 l a∧∀k o,l[k]? = some o→∃b,b <+: J8 l a∧(J8 l a).getD (a.length+k) 0=ahead o b
 | [],a=>⟨List.prefix_refl _,fun k o h=>by simp at h⟩
 | o::r,a=>by
  simp only[J8]
  obtain⟨c,i⟩:=jfa r (a++[ahead o a])
  refine⟨(List.prefix_append ..).trans c,fun k m d=>?_⟩
  cases k with
  | zero=>
   simp only[List.getElem?_cons_zero,Option.some.injEq]at d
   subst d
   refine⟨a,(List.prefix_append ..).trans c,?_⟩
   obtain⟨t,n⟩:=c
   rw[← n]
   simp
  | succ k=>
   obtain⟨b,j,f⟩:=i k m (by simpa using d)
   refine⟨b,j,?_⟩
   rw[← f]
   simp[Nat.add_assoc,Nat.add_comm 1 k]
theorem jl5 {a b:List Nat}(h:a <+: b) {k i:Nat}(c:(a.getD k 0).testBit i=true):(b.getD k 0).testBit i=true:=by
 obtain⟨t,rfl⟩:=h
 rcases Nat.lt_or_ge k a.length with hk|hk
 ·simpa[List.getD,List.getElem?_append_left hk] using c
 ·simp[List.getD,List.getElem?_eq_none hk]at c
theorem jls {ops:Array Oper}{j i:Nat}{o:Oper}(k:ops[j]? = some o) (c:((J8 ops.toList []).getD j 0).testBit i=true) :
 ∃e∈o.after,Region.binds .any e=true∧(i=e.on∨((J8 ops.toList []).getD e.on 0).testBit i=true):=by
 obtain⟨_,h⟩:=jfa ops.toList []
 obtain⟨a,l,b⟩:=h j o (by rw[Array.getElem?_toList];exact k)
 simp only[List.length_nil,Nat.zero_add]at b
 rw[b,ahead]at c
 rcases jgx a i o.after.toList 0 c with m|⟨e,d,n,f⟩
 ·simp at m
 ·exact⟨e,by simpa using d,n,f.imp id (jl5 l)⟩
structure TrAt (E:Env) (call:Callers) (fb ub ue:Nat) (s:St) (ao:AOpr) (δ:Delta) (fp:FP):Prop where
 wo:fp.wo=δ.wo
 wt:fp.wt=δ.wt
 run:(wanted ao s.tm=some true∧jA E ao.nm (eval E s.tm) ao.op=none∧ao.op.far=false∧aop call.d (eval E s.tm) s.ob s.tk s.ro (ao.name fb ub) ub ao.op=some δ ∧
  fp.ro=rdOb (eval E s.tm) ao.op∧fp.rt=rdTk (eval E s.tm) ao.op∧fp.all=false)∨(wanted ao s.tm=some false∧δ = { v:=jq }∧fp = {}) ∨
  (wanted ao s.tm=some true∧∃f xs base,jA E ao.nm (eval E s.tm) ao.op=some (f,xs)∧(call.o f xs s.ob s.tk base ue).bind (Xa ub)=some δ∧fp = { wt:=δ.wt,all:=true,seen:=fun l=>(s.ob l).isSome }) ∨
  (wanted ao s.tm=some true∧∃f xs a' rv,jA E ao.nm (eval E s.tm) ao.op=some (f,xs)∧xs.mapM (W6 s.ob)=some a'∧call.d f a'=some rv∧QO (ao.name fb ub) ub rv=some δ∧fp = { wo:=δ.wo,all:=true,seen:=fun l=>(s.ob l).isSome,nw:=true }) ∨
  (wanted ao s.tm=some true∧∃f xs,jA E ao.nm (eval E s.tm) ao.op=some (f,xs)∧mkD E f xs (ao.name fb ub) ub=some δ∧fp = { wo:=δ.wo,nw:=true })
theorem mkD_wt {E:Env}{f:FuncId}{xs:List V}{d ub:Nat}{δ:Delta}(h:mkD E f xs d ub=some δ):δ.wt=[]:=by
 unfold mkD at h
 split at h
 ·cases h;rfl
 ·cases h
structure Trace (E:Env) (call:Callers) (st:St) (ub:Nat) (als:List AOpr) (effs:List Eff) (fps:List FP):Prop where
 len:effs.length=als.length
 at':∀i ao,als[i]? = some ao→∃δ fp,effs[i]? = some (ao.dst,δ)∧fps[i]? = some fp∧TrAt E call st.fb (ub+64*i) (ub+64*als.length) (jL (fun k=>decide (k<i)) effs st) ao δ fp
theorem jl6 (i:Nat) (e:Eff) (es:List Eff) (st:St):jL (fun k=>decide (k<i+1)) (e::es) st=jL (fun k=>decide (k<i)) es (st.app e.1 e.2):=by
 simp only[jL,Nat.zero_lt_succ,decide_true,if_true,Nat.add_lt_add_iff_right]
theorem XI {E:Env}{c:Callers}:∀ (q:List AOpr) (st:St) (ub:Nat) (n:List FP) (st':St),Y4 E c q st ub=some (n,st') →
 ∃a,Trace E c st ub q a n∧st' = { jL (fun _=>true) a st with nx:=ub+64*q.length }
 | [],st,ub,n,st',h=>by
  simp only[Y4,Option.some.injEq,Prod.mk.injEq]at h
  obtain⟨rfl,rfl⟩:=h
  exact⟨[],⟨rfl,fun i J h=>by simp at h⟩,rfl⟩
 | o::r,st,ub,n,st',h=>by
  have j:∀ (d:Delta) (z:FP) (fs:List FP),Y4 E c r (st.app o.dst d) (ub+64)=some (fs,st')→TrAt E c st.fb ub (ub+64*(o::r).length) st o d z →
   ∃a,Trace E c st ub (o::r) a (z::fs)∧st' = { jL (fun _=>true) a st with nx:=ub+64*(o::r).length }:=by
   intro d z fs m O
   obtain⟨a,y,F⟩:=XI r _ _ _ _ m
   refine⟨(o.dst,d)::a,⟨by simp[y.len],fun i J I=>?_⟩,?_⟩
   ·cases i with
    | zero=>
     simp only[List.getElem?_cons_zero,Option.some.injEq]at I
     subst I
     refine⟨d,z,rfl,rfl,?_⟩
     have:jL (fun k=>decide (k<0)) ((o.dst,d)::a) st=st:=by
      simp only[Nat.not_lt_zero,decide_false]
      have:∀ (l:List Eff) (s:St),jL (fun _=>false) l s=s:=by
       intro l
       induction l with
       | nil=>intro s;rfl
       | cons e l L=>intro s;simp only[jL,Bool.false_eq_true,if_false];exact L s
      exact this _ _
     rw[this]
     exact O
    | succ i=>
     obtain⟨D,G,P,N,Q⟩:=y.at' i J (by simpa using I)
     refine⟨D,G,by simpa using P,by simpa using N,?_⟩
     rw[jl6]
     have y:ub+64*(i+1)=ub+64+64*i:=zO
     have F:ub+64*(o::r).length=ub+64+64*r.length:=by simp only[List.length_cons];omega
     rw[y,F]
     exact Q
   ·rw[F]
    simp only[jL,if_true,List.length_cons]
    congr 1
    omega
  unfold Y4 at h
  split at h
  ·rename_i t
   split at h
   ·rename_i f B v
    split at h
    ·split at h
     ·obtain⟨d,b,h⟩:=bind_some h
      obtain⟨⟨fs,s⟩,m,g⟩:=map_some h
      simp only[Prod.mk.injEq]at g
      obtain⟨rfl,rfl⟩:=g
      obtain⟨K,p,w⟩:=bind_some b
      obtain⟨M,H,p⟩:=bind_some p
      exact j d _ fs m ⟨rfl,(jmp w).1.symm,.inr (.inr (.inr (.inl ⟨t,f,B,M,K,v,H,p,w,rfl⟩)))⟩
     ·obtain⟨d,b,h⟩:=bind_some h
      obtain⟨⟨fs,s⟩,m,g⟩:=map_some h
      simp only[Prod.mk.injEq]at g
      obtain⟨rfl,rfl⟩:=g
      exact j d _ fs m ⟨rfl,(mkD_wt b).symm,.inr (.inr (.inr (.inr ⟨t,f,B,v,b,rfl⟩)))⟩
    ·obtain⟨d,b,h⟩:=bind_some h
     obtain⟨⟨fs,s⟩,m,g⟩:=map_some h
     simp only[Prod.mk.injEq]at g
     obtain⟨rfl,rfl⟩:=g
     obtain⟨K,_,u⟩:=bind_some b
     exact j d _ fs m ⟨(jrx d u).symm,rfl,.inr (.inr (.inl ⟨t,f,B,_,v,b,rfl⟩))⟩
   ·rename_i v
    split at h
    ·cases h
    ·rename_i x
     obtain⟨d,b,h⟩:=bind_some h
     obtain⟨⟨fs,s⟩,m,g⟩:=map_some h
     simp only[Prod.mk.injEq]at g
     obtain⟨rfl,rfl⟩:=g
     exact j d _ fs m ⟨rfl,rfl,.inl ⟨t,v,by simpa using x,b,rfl,rfl,rfl⟩⟩
  ·rename_i t
   obtain⟨⟨fs,s⟩,m,g⟩:=map_some h
   simp only[Prod.mk.injEq]at g
   obtain⟨rfl,rfl⟩:=g
   exact j _ _ fs m ⟨rfl,rfl,.inr (.inl ⟨t,rfl,rfl⟩)⟩
  ·cases h
structure Ind (f g:FP):Prop where
 oa:∀a∈f.wo,a ∉ g.ro
 ob:∀a∈f.wo,a ∉ g.wo
 oc:∀a∈f.ro,a ∉ g.wo
 ta:∀a∈f.wt,a ∉ g.rt
 tb:∀a∈f.wt,a ∉ g.wt
 tc:∀a∈f.rt,a ∉ g.wt
 al:f.all=true→∀l∈g.wo,f.seen l=false
 ar:g.all=true→f.wo=[]
theorem Xw {x y:List Nat}(h:Qv x y=true):∀a∈x,a ∉ y:=by
 intro a c d
 have:(x.any fun a=>y.any fun b=>Nat.beq a b)=true:=List.any_eq_true.2 ⟨a,c,List.any_eq_true.2 ⟨a,d,Nat.beq_refl a⟩⟩
 simp only[Qv,this,Bool.not_true,Bool.false_eq_true]at h
theorem jpz {f g:FP}(h:QR f g=true):Ind f g:=by
 simp only[QR,Bool.and_eq_true]at h
 obtain⟨⟨⟨⟨⟨⟨⟨b,e⟩,d⟩,i⟩,j⟩,c⟩,k⟩,l⟩:=h
 refine⟨Xw b,Xw e,Xw d,Xw i,Xw j,Xw c,fun a=>?_,fun a=>?_⟩
 ·simpa[a] using k
 ·simpa[a] using l
structure Cls (x:AOp) (f:FP):Prop where
 wo:x.wO=false→f.wo=[]∨f.nw=true
 ro:x.rO=false→f.ro=[]
 wt:x.wT=false→f.wt=[]
 rt:x.rT=false→f.rt=[]
 all:x.rA=false→f.all=false
theorem TrAt.cls {E:Env}{i:Callers}{fb ub ue:Nat}{s:St}{ao:AOpr}{δ:Delta}{n:FP}(h:TrAt E i fb ub ue s ao δ n):Cls ao.op n:=by
 rcases h.run with⟨_,_,_,d,k,m,p⟩|⟨_,_,rfl⟩|⟨_,f,l,o,d,k,rfl⟩|⟨_,f,l,t,r,d,k,m,p,rfl⟩|⟨_,f,l,d,k,rfl⟩
 ·exact⟨fun e=>.inl (by rw[h.wo];exact jy8 _ e δ d),fun c=>by rw[k];exact j5x c,fun e=>by rw[h.wt];exact jy7 _ e δ d,fun c=>by rw[m];exact j5w c,fun _=>p⟩
 ·exact⟨fun _=>.inl rfl,fun _=>rfl,fun _=>rfl,fun _=>rfl,fun _=>rfl⟩
 ·have j:(∃g a,ao.op=.call g a)∨∃q a,ao.op=.callV q a:=by
   rcases Jj d with⟨a,b,_⟩|⟨q,a,_,_,b,_⟩
   ·exact .inl ⟨f,a,b⟩
   ·exact .inr ⟨q,a,b⟩
  refine⟨fun _=>.inl rfl,fun _=>rfl,fun e=>?_,fun _=>rfl,fun c=>?_⟩
  ·rcases j with⟨g,a,b⟩|⟨q,a,b⟩ <;> rw[b]at e <;> cases e
  ·rcases j with⟨g,a,b⟩|⟨q,a,b⟩ <;> rw[b]at c <;> cases c
 ·have j:(∃g a,ao.op=.call g a)∨∃q a,ao.op=.callV q a:=by
   rcases Jj d with⟨a,b,_⟩|⟨q,a,_,_,b,_⟩
   ·exact .inl ⟨f,a,b⟩
   ·exact .inr ⟨q,a,b⟩
  refine⟨fun _=>.inr rfl,fun _=>rfl,fun _=>rfl,fun _=>rfl,fun c=>?_⟩
  rcases j with⟨g,a,b⟩|⟨q,a,b⟩ <;> rw[b]at c <;> cases c
 ·exact⟨fun _=>.inr rfl,fun _=>rfl,fun _=>rfl,fun _=>rfl,fun _=>rfl⟩
def j4e (f g:FP):Prop:=(∀a∈f.wo,a ∉ g.ro)∧(∀a∈f.wo,a ∉ g.wo)∧g.all=false
theorem jgb {fs:List FP}(h:Qo fs=true) {i j:Nat}{f g:FP}(hi:fs[i]? = some f) (l:fs[j]? = some g) (d:i≠j) (m:f.nw=true):j4e f g:=by
 unfold Qo at h
 rw[Bool.or_eq_true]at h
 rcases h with h|h
 ·have:=List.all_eq_true.1 h f (List.mem_of_getElem? hi)
  rw[m]at this
  cases this
 ·have c:=(List.getElem?_eq_some_iff.1 hi).1
  have b:=(List.getElem?_eq_some_iff.1 l).1
  have k:=List.all_eq_true.1 h i (List.mem_range.2 c)
  simp only[List.getD,hi,Option.getD_some,m,Bool.not_true,Bool.false_or]at k
  have a:=List.all_eq_true.1 k j (List.mem_range.2 b)
  have e:Nat.beq i j=false:=by
   cases n:Nat.beq i j with
   | false=>rfl
   | true=>exact absurd (Nat.eq_of_beq_eq_true n) d
  simp only[l,Option.getD_some,e,Bool.false_or,Wp,Bool.and_eq_true,Bool.not_eq_true']at a
  exact⟨Xw a.1.1,Xw a.1.2,a.2⟩
theorem jrs {x y:AOp}{f g:FP}(k:x.quiet y=true) (t:Cls x f) (z:Cls y g) (m:f.nw=true→j4e f g) (j:g.nw=true→j4e g f):Ind f g:=by
 unfold AOp.quiet at k
 simp only[Bool.and_eq_true,Bool.not_eq_true',Bool.and_eq_false_iff,Bool.or_eq_false_iff]at k
 obtain⟨⟨⟨⟨⟨n,F⟩,o⟩,G⟩,I⟩,B⟩:=k
 obtain⟨e,u,p,D,H⟩:=t
 obtain⟨i,w,r,v,s⟩:=z
 refine⟨fun a b c=>?_,fun a b c=>?_,fun a b c=>?_,fun a b c=>?_,fun a b c=>?_,fun a b c=>?_,fun b=>?_,fun b=>?_⟩
 ·rcases n with h|⟨h,_⟩
  ·rcases e h with d|d
   ·rw[d]at b;cases b
   ·exact(m d).1 a b c
  ·rw[w h]at c;cases c
 ·rcases n with h|⟨_,h⟩
  ·rcases e h with d|d
   ·rw[d]at b;cases b
   ·exact(m d).2.1 a b c
  ·rcases i h with d|d
   ·rw[d]at c;cases c
   ·exact(j d).2.1 a c b
 ·rcases F with h|h
  ·rcases i h with d|d
   ·rw[d]at c;cases c
   ·exact(j d).1 a c b
  ·rw[u h]at b;cases b
 ·rcases o with h|⟨h,_⟩
  ·rw[p h]at b;cases b
  ·rw[v h]at c;cases c
 ·rcases o with h|⟨_,h⟩
  ·rw[p h]at b;cases b
  ·rw[r h]at c;cases c
 ·rcases G with h|h
  ·rw[r h]at c;cases c
  ·rw[D h]at b;cases b
 ·rcases I with h|⟨h,d⟩
  ·rw[H h]at b;cases b
  ·intro l q
   rcases i h with h''|h''
   ·rw[h'']at q;cases q
   ·rw[(j h'').2.2]at b;cases b
 ·rcases B with h|⟨h,d⟩
  ·rw[s h]at b;cases b
  ·rcases e h with h''|h''
   ·exact h''
   ·rw[(m h'').2.2]at b;cases b
structure Apart (x y:AOpr):Prop where
 a:∀d,x.dst=some d→d ∉ y.looks
 b:∀d,x.dst=some d→y.dst≠some d
 c:∀d,y.dst=some d→d ∉ x.looks
theorem jme {l:List Nat}{d:Nat}(h:(l.any fun t=>Nat.beq t d)=false):d ∉ l:=by
 intro a
 have:(l.any fun t=>Nat.beq t d)=true:=List.any_eq_true.2 ⟨d,a,Nat.beq_refl d⟩
 rw[h]at this
 cases this
theorem jqc {x y:AOpr}(h:x.apart y=true):Apart x y:=by
 unfold AOpr.apart at h
 simp only[Bool.and_eq_true]at h
 obtain⟨a,c⟩:=h
 refine⟨fun d b=>?_,fun d b e=>?_,fun d b=>?_⟩
 ·simp only[b,Bool.and_eq_true,Bool.not_eq_true']at a
  exact jme a.1
 ·simp only[b,e,Bool.and_eq_true,Bool.not_eq_true']at a
  rw[Nat.beq_refl]at a
  cases a.2
 ·simp only[b,Bool.not_eq_true']at c
  exact jme c
theorem Xl {ops:Array Oper}{a:List AOpr}{c:List (Nat × Nat)}(h:Xv ops a=some c) (d:a.length=ops.size) :
 (∀j o,ops[j]? = some o→∀e∈o.after,Region.binds .any e=true→e.on<j) ∧
 (∀i j x y,i<j→a[i]? = some x→a[j]? = some y→((J8 ops.toList []).getD j 0).testBit i=false→Apart x y∧(x.op.quiet y.op=true∨(i,j)∈c)):=by
 unfold Xv at h
 simp only[Option.ite_none_right_eq_some,Bool.and_eq_true,Option.some.injEq]at h
 obtain⟨⟨p,t⟩,rfl⟩:=h
 refine⟨fun j o m e s q=>?_,fun i j x y f n k r=>?_⟩
 ·have g:j<a.length:=by rw[d];exact(Array.getElem?_eq_some_iff.1 m).1
  have:=List.all_eq_true.1 p j (List.mem_range.2 g)
  simp only[m,Array.all_eq_true_iff_forall_mem]at this
  have:=this e s
  simp only[q,Bool.not_true,Bool.false_or]at this
  simpa[Nat.blt_eq] using this
 ·have g:j<a.length:=(List.getElem?_eq_some_iff.1 k).1
  have b:(i,j)∈(List.range a.length).flatMap fun j=>((List.range j).filter fun i=>!((J8 ops.toList []).getD j 0).testBit i).map fun i=>(i,j) :=
   List.mem_flatMap.2 ⟨j,List.mem_range.2 g,List.mem_map.2 ⟨i,List.mem_filter.2 ⟨List.mem_range.2 f,by rw[r];rfl⟩,rfl⟩⟩
  have l:=List.all_eq_true.1 t _ b
  simp only[n,k]at l
  refine⟨jqc l,?_⟩
  cases u:x.op.quiet y.op with
  | true=>exact .inl rfl
  | false=>exact .inr (List.mem_filter.2 ⟨b,by simp only[n,k,u,Bool.not_false]⟩)
section
variable {P:Program}{E:Env}{w0 w:World}{I0:IMap}{nt:Nat}{γ:Nat→Option Place}{I:IMap}{st:St}{a:Act}{ub:Nat}{call:Callers}{ops:Array Oper}{als:List AOpr}
 {effs:List Eff}{fps:List FP}{free:List (Nat × Nat)}
theorem R.drawn (h:R E w0 I0 nt γ I st a w) (n:Nat):R E w0 I0 nt γ I st a { w with drawn:=n } :=
 ⟨h.sz,h.df,h.tm,⟨h.imm,h.gl,(let ⟨Ω,ho⟩:=h.own;⟨Ω,⟨ho.ob,ho.tk,ho.lt⟩⟩),⟨h.fr.os,h.fr.tape,h.fr.output,h.fr.size,h.fr.block⟩,h.old⟩⟩
def jcs (ops:Array Oper) (D:Nat→Bool):Prop:=∀j o,ops[j]? = some o→D j=true→∀e∈o.after,Region.binds .any e=true→D e.on=true
theorem jgs {D:Nat→Bool}(b:∀j o,ops[j]? = some o→∀e∈o.after,Region.binds .any e=true→e.on<j) (q:jcs ops D) :
 ∀ (n j i:Nat),j≤n→j<ops.size→((J8 ops.toList []).getD j 0).testBit i=true→D j=true→D i=true:=by
 intro n
 induction n with
 | zero=>
  intro j i s d l m
  have f:=Array.getElem?_eq_getElem d
  obtain⟨e,k,c,_⟩:=jls f l
  have:=b j _ f e k c
  omega
 | succ n r=>
  intro j i s d l m
  have f:=Array.getElem?_eq_getElem d
  obtain⟨e,k,c,h⟩:=jls f l
  have p:=b j _ f e k c
  have g:=q j _ f m e k c
  rcases h with rfl|h
  ·exact g
  ·exact r e.on i zO zO h g
theorem YM {D:Nat→Bool}(b:∀j o,ops[j]? = some o→∀e∈o.after,Region.binds .any e=true→e.on<j) (n:jcs ops D) {j i:Nat}{o:Oper}(f:ops[j]? = some o)
 (k:∀e∈o.after,Region.binds .any e=true→D e.on=true) (m:((J8 ops.toList []).getD j 0).testBit i=true):D i=true:=by
 obtain⟨e,d,c,h⟩:=jls f m
 have l:=(Array.getElem?_eq_some_iff.1 f).1
 have g:=b j _ f e d c
 rcases h with rfl|h
 ·exact k e d c
 ·exact jgs b n e.on e.on i zR zO h (k e d c)
theorem Xd {s s':St}{ao:AOpr}(h:∀t∈ao.looks,s.tm t=s'.tm t):∀x∈ao.op.opds,eval E s.tm x=eval E s'.tm x :=
 fun x b=>jp2 fun t c=>h t (List.mem_append_left _ (List.mem_flatMap.2 ⟨x,b,c⟩))
theorem Jr {s s':St}{ao:AOpr}(h:∀t∈ao.looks,s.tm t=s'.tm t):wanted ao s.tm=wanted ao s'.tm:=by
 unfold wanted
 cases c:ao.guard with
 | none=>rfl
 | some g=>
  obtain⟨t,b⟩:=g
  simp only[]
  rw[h t (List.mem_append_right _ (by simp[c]))]
theorem jpk (x:AOpr):Apart jhm x:=⟨fun _ h=>(by cases h),fun _ h=>(by cases h),fun _ _ h=>by simp[jhm,AOpr.looks,AOp.opds,A.tmps]at h⟩
theorem Ind.nil (f:FP):Ind {} f:=⟨fun _ h=>(by cases h),fun _ h=>(by cases h),fun _ h=>(by cases h),fun _ h=>(by cases h),fun _ h=>(by cases h),fun _ h=>(by cases h),fun h=>(by cases h),fun _=>rfl⟩
theorem je9 {al':List AOpr}{sp:Nat→Bool}{bb:Bool}{m:Bool}{rn:Option Nat}{γ0:Nat→Option Place}{Iy:IMap}{Q:Exit→Act→World→Prop}{kk:Nat}(k4:kk≤als.length)
 (f4:al'.length=kk) (i7:∀i D,i<kk→sp i=false→als[i]? = some D→al'[i]? = some D) (g3:∀i,i<kk→sp i=true→effs[i]? = some (none,{ v:=jq }))
 (g6:∀j,kk≤j→j<ops.size→∀i,i<kk→((J8 ops.toList []).getD j 0).testBit i=true)
 (d6:COk P E γ0 Iy call) (f7:ops.toList.mapM (JU P m ops)=some als) (e9:Xv ops als=some free)
 (e2:Trace E call st ub al' effs fps) (h8:Jw free fps=true) (g9:Qo fps=true) (g7:∀D∈als,∀d,D.dst=some d→d<nt)
 (h4:∀i (q:Nat) (n:Array Bool) (B:Nat→Option Place) (I1:IMap) (a:Act) (w:World),sp i=true→i<kk→n.size=ops.size→jcs ops (fun i=>n.getD i false)→(∀j,kk≤j→n.getD j false=false)→(∀j,sp j=true→n.getD j false=bb) →
  n.toList.count false≤q+1→R E w0 I0 nt B I1 (jL (fun i=>n.getD i false) effs st) a w→(∀u,ub+64*kk≤u→B u=none) →
  (∀u p,γ u=some p→B u=some p)→(∀b o x,I b o=some x→I1 b o=some x)→i∈Region.ready .any ops n →
  wpOpIn (FW rn) 0 P ops Q i (wpAnyIn (FW rn) 0 P .any ops Q q (n.setIfInBounds i true)) a w)
 (hK:∀G I' a' w' (q:Nat) (n:Array Bool),n.size=ops.size→(∀i,n.getD i false=decide (i<kk))→(∀j,sp j=true→n.getD j false=bb)→n.toList.count false≤q →
  R E w0 I0 nt G I' (jL (fun _=>true) effs st) a' w'→(∀u,ub+64*kk≤u→G u=none)→(∀u p,γ u=some p→G u=some p) →
  (∀b o x,I b o=some x→I' b o=some x)→wpAnyIn (FW rn) 0 P .any ops Q q n a' w') :
 ∀ (q:Nat) (n:Array Bool) (B:Nat→Option Place) (I1:IMap) (a:Act) (w:World),n.size=ops.size→jcs ops (fun i=>n.getD i false)→(∀j,kk≤j→n.getD j false=false)→(∀j,sp j=true→n.getD j false=bb)→n.toList.count false≤q →
  R E w0 I0 nt B I1 (jL (fun i=>n.getD i false) effs st) a w→(∀u,ub+64*kk≤u→B u=none) →
  (∀j,n.getD j true=false→∀u,ub+64*j≤u→u<ub+64*j+64→B u=none)→(∀u p,γ u=some p→B u=some p)→(∀b o x,I b o=some x→I1 b o=some x) →
  wpAnyIn (FW rn) 0 P .any ops Q q n a w:=by
 obtain⟨d3,f5⟩:=js f7
 have d3:als.length=ops.size:=by rw[d3,Array.length_toList]
 obtain⟨b9,c1⟩:=Xl e9 d3
 have g2:effs.length=kk:=by rw[e2.len,f4]
 have k2:kk≤ops.size:=zO
 have g1:∀ {i D},i<kk→sp i=false→als[i]? = some D→al'[i]? = some D:=fun hi hs h=>i7 _ _ hi hs h
 -- two that no edge orders touch nothing of each other
 have e0:∀i j x y f9 fi g8 fj,i<j→als[i]? = some x→als[j]? = some y→((J8 ops.toList []).getD j 0).testBit i=false →
  fps[i]? = some fi→fps[j]? = some fj→(∃s u v,TrAt E call st.fb u v s x f9 fi)→(∃s u v,TrAt E call st.fb u v s y g8 fj)→Ind fi fj:=by
  intro i j x y f9 fi g8 fj k0 hx hy ht e3 e8 ⟨s1,u1,v1,t1⟩ ⟨s2,u2,v2,t2⟩
  rcases(c1 i j x y k0 hx hy ht).2 with hq|hm
  ·exact jrs hq t1.cls t2.cls (fun h=>jgb g9 e3 e8 zO h) (fun h=>jgb g9 e8 e3 zO h)
  ·have:=List.all_eq_true.1 h8 _ hm
   simp only[List.getD,e3,e8,Option.getD_some]at this
   exact jpz this
 have c3:∀ (n:Array Bool) (i:Nat),i<n.size→n.getD i true=n.getD i false:=by
  intro n i hi
  simp[hi]
 have a0:∀n:Array Bool,n.size=ops.size→(∀i,i<kk→i ∉ Region.ready .any ops n)→∀j,j<kk→n.getD j false=true:=by
  intro n b5 hr j
  induction j using Nat.strongRecOn with
  | _ j ih=>
   intro hj
   cases hd:n.getD j false with
   | true=>rfl
   | false=>
    have:j∈Region.ready .any ops n:=mem_ready.2 ⟨by rw[c3 n j zO];exact hd,ops[j],Array.getElem?_eq_getElem zO,fun e he hb=>by
     have:=b9 j _ (Array.getElem?_eq_getElem zO) e he hb
     exact ih e.on this zO⟩
    exact absurd this (hr j hj)
 have done:∀ (q:Nat) (n:Array Bool) (B:Nat→Option Place) (I1:IMap) (a:Act) (w:World),n.size=ops.size→(∀j,kk≤j→n.getD j false=false)→(∀j,sp j=true→n.getD j false=bb)→n.toList.count false≤q→(∀j,j<kk→n.getD j false=true) →
  R E w0 I0 nt B I1 (jL (fun i=>n.getD i false) effs st) a w→(∀u,ub+64*kk≤u→B u=none)→(∀u p,γ u=some p→B u=some p)→(∀b o x,I b o=some x→I1 b o=some x)→wpAnyIn (FW rn) 0 P .any ops Q q n a w:=by
  intro q n B I1 a w b5 K X b6 F hR c2 hg hI
  have d2:∀ {β:Type}{π:St→β}{wr:Eff→Bool}{g:Eff→β},(∀ (s:St) (e:Eff),π (s.app e.1 e.2)=if wr e then g e else π s) →
   π (jL (fun _=>true) effs st)=π (jL (fun i=>n.getD i false) effs st):=fun d7=>
   X9 d7 effs _ _ _ _ (fun i e he _=>(F i (by rw[← g2];exact(List.getElem?_eq_some_iff.1 he).1)).symm) rfl
  refine hK B I1 a w q n b5 (fun i=>?_) X b6 (hR.congr (funext fun t=>d2 (π:=fun s=>s.tm t) (wr:=wrT t) (g:=fun e=>e.2.v) (jab t)) (funext fun l=>d2 (π:=fun s=>s.ob l) (wr:=wrO l) (g:=fun e=>JK (fun _=>none) e.2.obs l) (jcf l)) (funext fun u=>d2 (π:=fun s=>s.tk u) (wr:=wrK u) (g:=fun e=>e.2.add.contains u) (jfl u)) ((jx effs _ st).2.2.1.trans (jx effs _ st).2.2.1.symm) ((jx effs _ st).2.2.2.trans (jx effs _ st).2.2.2.symm)) c2 hg hI
  by_cases hi:i<kk
  ·rw[F i hi,decide_eq_true hi]
  ·rw[K i zO,decide_eq_false hi]
 intro q
 induction q with
 | zero=>
  intro n B I1 a w b5 d0 c5 X b6 hR c2 b8 hg hI
  refine done 0 n B I1 a w b5 c5 X b6 (a0 n b5 fun i _ hi=>?_) hR c2 hg hI
  obtain⟨h0,o,ho,_⟩:=mem_ready.1 hi
  have c9:i<n.size:=by rw[b5];exact(Array.getElem?_eq_some_iff.1 ho).1
  have f8:false∈n.toList:=by
   have:n[i]? = some false:=by
    simp only[Array.getD_eq_getD_getElem?,Array.getElem?_eq_getElem c9,Option.getD_some]at h0
    rw[Array.getElem?_eq_getElem c9,h0]
   exact Array.mem_toList_iff.2 (Array.mem_of_getElem? this)
  have:=List.count_pos_iff.2 f8
  omega
 | succ q ih=>
  intro n B I1 a w b5 d0 c5 X b6 hR c2 b8 hg hI
  by_cases F:∀j,j<kk→n.getD j false=true
  ·exact done (q+1) n B I1 a w b5 c5 X b6 F hR c2 hg hI
  refine⟨fun hr=>absurd (a0 n b5 fun i _ hi=>by rw[hr]at hi;cases hi) F,fun i hi=>?_⟩
  obtain⟨h0,o,ho,e5⟩:=mem_ready.1 hi
  have i0:i<ops.size:=(Array.getElem?_eq_some_iff.1 ho).1
  have g4:i<kk:=by
   rcases Nat.lt_or_ge i kk with h|h
   ·exact h
   ·exact absurd (fun j hj=>YM b9 d0 ho e5 (g6 i h i0 j hj)) F
  cases e7:sp i with
  | true=>exact h4 i q n B I1 a w e7 g4 b5 d0 c5 X b6 hR c2 hg hI hi
  | false=>
  have c8:i<n.size:=zO
  have c0:n.getD i false=false:=by rw[← c3 n i c8];exact h0
  have i4:i<als.length:=zO
  have c4:=List.getElem?_eq_getElem i4
  generalize als[i]=D at c4
  have N:JU P m ops o=some D:=f5 i o D (by rw[Array.getElem?_toList];exact ho) c4
  obtain⟨δ,fp,he,f0,ht⟩:=e2.at' i D (g1 g4 e7 c4)
  obtain⟨hd1,S⟩:=XJ N
  -- what no edge orders with it
  have H:∀k e,effs[k]? = some e→k≠i→(n.getD k false=decide (k<i))∨(∃y fk,e.1=y.dst∧fk.wo=e.2.wo∧fk.wt=e.2.wt∧((Apart y D∧Ind fk fp)∨(Apart D y∧Ind fp fk))):=by
   intro k e T i3
   have f6:k<kk:=by rw[← g2];exact(List.getElem?_eq_some_iff.1 T).1
   have k1:k<als.length:=zO
   have hy:=List.getElem?_eq_getElem k1
   generalize als[k]=y at hy
   cases h7:sp k with
   | true=>
    have:=g3 k f6 h7
    rw[T]at this
    cases this
    exact .inr ⟨jhm,{},rfl,rfl,rfl,.inl ⟨jpk _,Ind.nil _⟩⟩
   | false=>
   obtain⟨h6,fk,O,g5,b7⟩:=e2.at' k y (g1 f6 h7 hy)
   rw[T]at O
   cases O
   rcases Nat.lt_or_gt_of_ne i3 with c9|hgt
   ·cases c6:((J8 ops.toList []).getD i 0).testBit k with
    | true=>
     refine .inl ?_
     rw[decide_eq_true c9]
     exact YM b9 d0 ho e5 c6
    | false=>exact .inr ⟨y,fk,rfl,b7.wo,b7.wt,.inl ⟨(c1 k i y D c9 hy c4 c6).1,e0 k i y D h6 fk δ fp c9 hy c4 c6 g5 f0 ⟨_,_,_,b7⟩ ⟨_,_,_,ht⟩⟩⟩
   ·cases c6:((J8 ops.toList []).getD k 0).testBit i with
    | true=>
     refine .inl ?_
     rw[decide_eq_false zO]
     cases b0:n.getD k false with
     | false=>rfl
     | true=>
      have:=jgs b9 d0 k k i zR zO c6 b0
      rw[c0]at this
      cases this
    | false=>exact .inr ⟨y,fk,rfl,b7.wo,b7.wt,.inr ⟨(c1 i k D y hgt c4 hy c6).1,e0 i k D y δ fp h6 fk hgt c4 hy c6 f0 g5 ⟨_,_,_,ht⟩ ⟨_,_,_,b7⟩⟩⟩
  have r:∀t∈D.looks,(jL (fun i=>n.getD i false) effs st).tm t=(jL (fun k=>decide (k<i)) effs st).tm t:=by
   intro t f2
   refine X9 (π:=fun s=>s.tm t) (wr:=wrT t) (g:=fun e=>e.2.v) (jab t) effs _ _ _ _ (fun k e T z=>?_) rfl
   by_cases L:k=i
   ·subst L;rw[c0];simp
   ·rcases H k e T L with h|⟨y,fk,Z,_,_,h|h⟩
    ·exact h
    ·simp only[wrT,decide_eq_true_eq]at z
     exact absurd f2 (h.1.a t (Z▸z))
    ·simp only[wrT,decide_eq_true_eq]at z
     exact absurd f2 (h.1.c t (Z▸z))
  have i6:∀l∈fp.ro,(jL (fun i=>n.getD i false) effs st).ob l=(jL (fun k=>decide (k<i)) effs st).ob l:=by
   intro l hl
   refine X9 (π:=fun s=>s.ob l) (wr:=wrO l) (g:=fun e=>JK (fun _=>none) e.2.obs l) (jcf l) effs _ _ _ _ (fun k e T z=>?_) rfl
   by_cases L:k=i
   ·subst L;rw[c0];simp
   ·simp only[wrO,List.contains_iff_mem]at z
    rcases H k e T L with h|⟨y,fk,_,J,_,h|h⟩
    ·exact h
    ·exact absurd hl (h.2.oa l (J▸z))
    ·exact absurd (J▸z) (h.2.oc l hl)
  have i8:∀u∈fp.rt,(jL (fun i=>n.getD i false) effs st).tk u=(jL (fun k=>decide (k<i)) effs st).tk u:=by
   intro u hu
   refine X9 (π:=fun s=>s.tk u) (wr:=wrK u) (g:=fun e=>e.2.add.contains u) (jfl u) effs _ _ _ _ (fun k e T z=>?_) rfl
   by_cases L:k=i
   ·subst L;rw[c0];simp
   ·simp only[wrK,List.contains_iff_mem]at z
    rcases H k e T L with h|⟨y,fk,_,_,J,h|h⟩
    ·exact h
    ·exact absurd hu (h.2.ta u (J▸z))
    ·exact absurd (J▸z) (h.2.tc u hu)
  -- what is there when it has come about too
  have c7:∀k,k≠i→(n.setIfInBounds i true).getD k false=n.getD k false:=fun k T=>getD_set_ne false (Ne.symm T)
  have e6:(n.setIfInBounds i true).getD i false=true:=by simp[c8]
  have K:∀k e,i<k→effs[k]? = some e→n.getD k false=true→∃y fk,e.1=y.dst∧fk.wo=e.2.wo∧fk.wt=e.2.wt∧((Apart y D∧Ind fk fp)∨(Apart D y∧Ind fp fk)):=by
   intro k e T O b0
   rcases H k e O zO with h|h
   ·rw[b0,decide_eq_false zO]at h;cases h
   ·exact h
  have d5:∀ {β:Type}{π:St→β}{wr:Eff→Bool}{g:Eff→β},(∀ (s:St) (e:Eff),π (s.app e.1 e.2)=if wr e then g e else π s) →
   (∀k e,i<k→effs[k]? = some e→n.getD k false=true→wr (D.dst,δ)=true→wr e=false) →
   π (jL (fun k=>(n.setIfInBounds i true).getD k false) effs st)=π ((jL (fun i=>n.getD i false) effs st).app D.dst δ):=by
   intro β π wr g d7 i1
   rw[jc6 d7 effs (fun i=>n.getD i false) _ st i (D.dst,δ) he c0 e6 c7 (fun k e' T O b0 z=>i1 k e' T O b0 z)]
   exact(d7 _ (D.dst,δ)).symm
  have U:∀G I' a' w',R E w0 I0 nt G I' ((jL (fun i=>n.getD i false) effs st).app D.dst δ) a' w'→(∀u,¬(ub+64*i≤u∧u<ub+64*i+64)→G u=B u) →
   (∀u p,B u=some p→G u=some p)→(∀b o x,I1 b o=some x→I' b o=some x)→wpAnyIn (FW rn) 0 P .any ops Q q (n.setIfInBounds i true) a' w':=by
   intro G I' a' w' M d9 hm i2
   refine ih (n.setIfInBounds i true) G I' a' w' (by simpa using b5) ?_ (fun j hj=>by rw[c7 j zO];exact c5 j hj) (fun j hj=>by rw[c7 j (fun e=>by subst e;rw[e7]at hj;cases hj)];exact X j hj) ?_ (M.congr (funext fun t=>d5 (π:=fun s=>s.tm t) (wr:=wrT t) (g:=fun e=>e.2.v) (jab t) ?_) (funext fun l=>d5 (π:=fun s=>s.ob l) (wr:=wrO l) (g:=fun e=>JK (fun _=>none) e.2.obs l) (jcf l) ?_) (funext fun u=>d5 (π:=fun s=>s.tk u) (wr:=wrK u) (g:=fun e=>e.2.add.contains u) (jfl u) ?_) ((jx effs _ st).2.2.1.trans (jx effs _ st).2.2.1.symm) ((jx effs _ st).2.2.2.trans (jx effs _ st).2.2.2.symm)) ?_ ?_
    (fun u p h=>hm u p (hg u p h)) (fun b o x h=>i2 b o x (hI b o x h))
   ·intro j oj e4 h5 e' g0 hb
    by_cases d8:j=i
    ·subst d8
     rw[ho]at e4
     cases e4
     exact getD_set_true (e5 e' g0 hb)
    ·simp only[c7 j d8]at h5
     exact getD_set_true (d0 j oj e4 h5 e' g0 hb)
   ·have hg:n.toList[i]? = some false:=by
     rw[Array.getElem?_toList,Array.getElem?_eq_getElem c8]
     simp only[Array.getD_eq_getD_getElem?,Array.getElem?_eq_getElem c8,Option.getD_some]at c0
     rw[c0]
    have f3:i<n.toList.length:=by simpa using c8
    rw[Array.toList_setIfInBounds,List.count_set f3]
    rw[List.getElem?_eq_getElem f3]at hg
    simp only[Option.some.injEq]at hg
    rw[hg]
    simp only[beq_self_eq_true,if_true]
    have:(true == false)=false:=rfl
    rw[this]
    simp only[Bool.false_eq_true,if_false]
    omega
   ·intro k e T O b0 z
    obtain⟨y,fk,Z,_,_,h|h⟩:=K k e T O b0
    ·simp only[wrT,decide_eq_true_eq]at z
     simp only[wrT,decide_eq_false_iff_not]
     intro e1
     exact h.1.b t (Z▸e1) z
    ·simp only[wrT,decide_eq_true_eq]at z
     simp only[wrT,decide_eq_false_iff_not]
     intro e1
     exact h.1.b t z (Z▸e1)
   ·intro k e T O b0 z
    obtain⟨y,fk,_,J,_,h⟩:=K k e T O b0
    simp only[wrO,List.contains_iff_mem]at z
    have:l ∉ e.2.wo:=by
     rw[← J]
     rcases h with h|h
     ·exact fun hm=>h.2.ob l hm (by rw[ht.wo];exact z)
     ·exact h.2.ob l (by rw[ht.wo];exact z)
    simp only[wrO]
    simpa using this
   ·intro k e T O b0 z
    obtain⟨y,fk,_,_,J,h⟩:=K k e T O b0
    simp only[wrK,List.contains_iff_mem]at z
    have:u ∉ e.2.wt:=by
     rw[← J]
     rcases h with h|h
     ·exact fun hm=>h.2.tb u hm (by rw[ht.wt];exact z)
     ·exact h.2.tb u (by rw[ht.wt];exact z)
    simp only[wrK]
    simpa using this
   ·intro u hu
    rw[d9 u zO]
    exact c2 u hu
   ·intro j hj u Z J
    have d8:j≠i:=by
     intro e
     subst e
     simp[c8]at hj
    rw[getD_set_ne true (Ne.symm d8)]at hj
    rw[d9 u zO]
    exact b8 j hj u Z J
  have d4:∀d,o.dst=some d→d<nt:=by rw[← hd1];exact g7 D (List.mem_of_getElem? c4)
  have i9:=jx effs (fun i=>n.getD i false) st
  have f1:=jx effs (fun k=>decide (k<i)) st
  unfold wpOpIn
  simp only[ho]
  rcases ht.run with⟨r1,r2,i5,r3,r4,r5,r6⟩|⟨r1,r2,r3⟩|⟨r1,f,xs,k3,r2,r3,r4⟩|⟨r1,f,xs,a1,rv,r2,r3,r5,r6,r4⟩|⟨r1,f,xs,r2,r3,r4⟩
  ·have z:wanted D (jL (fun i=>n.getD i false) effs st).tm=some true:=by rw[Jr r];exact r1
   rw[if_pos (Xn hR N z)]
   have S:Ja P m o=some D.op:=S.resolve_right fun h=>by
    rw[h]at r3
    cases r3
   have hr:=rd_eq D.op (Xd (E:=E) r)
   have h9:aop call.d (eval E (jL (fun i=>n.getD i false) effs st).tm) (jL (fun i=>n.getD i false) effs st).ob (jL (fun i=>n.getD i false) effs st).tk (jL (fun i=>n.getD i false) effs st).ro (D.name st.fb (ub+64*i)) (ub+64*i) D.op=some δ:=by
    rw[je8 D.op i5 (Xd (E:=E) r) (fun l hl=>i6 l (by rw[r4,← hr.1];exact hl)) (fun u hu=>i8 u (by rw[r5,← hr.2];exact hu)),i9.2.2.1,← f1.2.2.1]
    exact r3
   refine jh5 d6 hR (fun u Z J=>b8 i h0 u Z J) S d4 h9 (fun G I' a' w' M Z J h3=>?_)
   rw[← hd1]at M
   exact U G I' a' w' M Z J h3
  ·have z:wanted D (jL (fun i=>n.getD i false) effs st).tm=some false:=by rw[Jr r];exact r1
   rw[if_neg (by rw[Xn hR N z];exact Bool.false_ne_true)]
   refine⟨fun _ _=>trivial,?_⟩
   have:=jrr hR d4
   rw[← hd1]
   refine U B I1 _ _ ?_ (fun _ _=>rfl) (fun _ _ h=>h) (fun _ _ _ h=>h)
   rw[r2]
   rw[← hd1]at this
   exact this
  ·have z:wanted D (jL (fun i=>n.getD i false) effs st).tm=some true:=by rw[Jr r];exact r1
   rw[if_pos (Xn hR N z)]
   have S:Ja P m o=some D.op:=S.resolve_right fun h=>by
    rw[h]at r2
    cases r2
   have F:fp.all=true:=by rw[r4]
   have d1:∀l x,(jL (fun k=>decide (k<i)) effs st).ob l=some x→(jL (fun i=>n.getD i false) effs st).ob l=some x:=by
    intro l x hl
    rw[← hl]
    refine(X9 (π:=fun s=>s.ob l) (wr:=wrO l) (g:=fun e=>JK (fun _=>none) e.2.obs l) (jcf l) effs _ _ _ _ (fun k e T z=>?_) rfl)
    by_cases L:k=i
    ·subst L;rw[c0];simp
    ·simp only[wrO,List.contains_iff_mem]at z
     rcases H k e T L with h|⟨y,fk,_,J,_,h|h⟩
     ·exact h
     ·rw[← J,h.2.ar F]at z;cases z
     ·have:=h.2.al F l (by rw[J];exact z)
      rw[r4]at this
      simp only[hl,Option.isSome_some,Bool.true_eq_false]at this
   refine jzq d6 hR (ub:=ub+64*i) (uo:=ub+64*al'.length) (fun u Z J=>b8 i h0 u Z J) S d4 (by rw[Yd D.op (Xd (E:=E) r)];exact r2) d1 (by rw[f4];exact c2) r3 (fun G I' a' w' M Z J h3=>?_)
   rw[← hd1]at M
   exact U G I' a' w' M Z J h3
  ·have z:wanted D (jL (fun i=>n.getD i false) effs st).tm=some true:=by rw[Jr r];exact r1
   rw[if_pos (Xn hR N z)]
   have S:Ja P m o=some D.op:=S.resolve_right fun h=>by
    rw[h]at r2
    cases r2
   have F:fp.all=true:=by rw[r4]
   have d1:∀l x,(jL (fun k=>decide (k<i)) effs st).ob l=some x→(jL (fun i=>n.getD i false) effs st).ob l=some x:=by
    intro l x hl
    rw[← hl]
    refine(X9 (π:=fun s=>s.ob l) (wr:=wrO l) (g:=fun e=>JK (fun _=>none) e.2.obs l) (jcf l) effs _ _ _ _ (fun k e T z=>?_) rfl)
    by_cases L:k=i
    ·subst L;rw[c0];simp
    ·simp only[wrO,List.contains_iff_mem]at z
     rcases H k e T L with h|⟨y,fk,_,J,_,h|h⟩
     ·exact h
     ·rw[← J,h.2.ar F]at z;cases z
     ·have:=h.2.al F l (by rw[J];exact z)
      rw[r4]at this
      simp only[hl,Option.isSome_some,Bool.true_eq_false]at this
   refine j5z d6 hR (ub:=ub+64*i) (fun u Z J=>b8 i h0 u Z J) S d4 (by rw[Yd D.op (Xd (E:=E) r)];exact r2) d1 r3 r5 r6 (fun G I' a' w' M Z J h3=>?_)
   rw[← hd1]at M
   exact U G I' a' w' M Z J h3
  ·have z:wanted D (jL (fun i=>n.getD i false) effs st).tm=some true:=by rw[Jr r];exact r1
   rw[if_pos (Xn hR N z)]
   have S:Ja P m o=some D.op:=S.resolve_right fun h=>by
    rw[h]at r2
    cases r2
   refine mk_ok d6 hR (ub:=ub+64*i) (fun u Z J=>b8 i h0 u Z J) S d4 (by rw[Yd D.op (Xd (E:=E) r)];exact r2) r3 (fun G I' a' w' M Z J h3=>?_)
   rw[← hd1]at M
   exact U G I' a' w' M Z J h3
theorem any_ok {m:Bool}{rn:Option Nat}{γ0:Nat→Option Place}{Iy:IMap}{Q:Exit→Act→World→Prop}(N:COk P E γ0 Iy call) (n:ops.toList.mapM (JU P m ops)=some als) (s:Xv ops als=some free)
 (X:Trace E call st ub als effs fps) (K:Jw free fps=true) (T:Qo fps=true) (v:∀ao∈als,∀d,ao.dst=some d→d<nt)
 (hK:∀k B F G,R E w0 I0 nt k B (jL (fun _=>true) effs st) F G→(∀u,ub+64*als.length≤u→k u=none)→(∀u p,γ u=some p→k u=some p) →
  (∀b o x,I b o=some x→B b o=some x)→Q .normal F G) :
 ∀ (e:Nat) (c:Array Bool) (f:Nat→Option Place) (H:IMap) (a:Act) (w:World),c.size=ops.size→jcs ops (fun i=>c.getD i false)→c.toList.count false≤e →
  R E w0 I0 nt f H (jL (fun i=>c.getD i false) effs st) a w→(∀u,ub+64*als.length≤u→f u=none) →
  (∀j,c.getD j true=false→∀u,ub+64*j≤u→u<ub+64*j+64→f u=none)→(∀u p,γ u=some p→f u=some p)→(∀b o x,I b o=some x→H b o=some x) →
  wpAnyIn (FW rn) 0 P .any ops Q e c a w:=by
 obtain⟨l,Z⟩:=js n
 have l:als.length=ops.size:=by rw[l,Array.length_toList]
 have g:∀ (c:Array Bool) (i:Nat),i<c.size→c.getD i true=c.getD i false:=by
  intro c i t
  simp[t]
 intro e c f H a w z M q hR S y hg hI
 refine je9 (bb:=false) (kk:=als.length) (al':=als) (sp:=fun _=>false) zR rfl (fun _ _ _ _ h=>h) (fun _ _ h=>by cases h) (fun j h1 h2=>by omega) N n s X K T v (fun _ _ _ _ _ _ _ h=>by cases h) (fun k B F G e c z hm _ q J U L O=>?_) e c f H a w z M
  (fun j hj=>by simp[show ¬ j<c.size by omega]) (fun _ h=>by cases h) q hR S y hg hI
 have D:Region.ready .any ops c=[]:=by
  cases D:Region.ready .any ops c with
  | nil=>rfl
  | cons i r=>
   have t:i∈Region.ready .any ops c:=by rw[D];exact List.mem_cons_self ..
   obtain⟨h0,o,ho,_⟩:=mem_ready.1 t
   have a0:i<ops.size:=(Array.getElem?_eq_some_iff.1 ho).1
   rw[g c i zO,hm i,decide_eq_true zO]at h0
   cases h0
 have hQ:=hK k B F G J U L O
 cases e with
 | zero=>exact⟨D,hQ⟩
 | succ e=>exact⟨fun _=>hQ,fun i t=>by rw[D]at t;cases t⟩
theorem jiz {m:Bool}{rn:Option Nat}{γ0:Nat→Option Place}{Iy:IMap}{Q:Exit→Act→World→Prop}{kk:Nat}
 (b8:∀j,kk≤j→j<ops.size→∀i,i<j→((J8 ops.toList []).getD j 0).testBit i=true)
 (c7:COk P E γ0 Iy call) (c2:ops.toList.mapM (JU P m ops)=some als) (L:Xv ops als=some free) (c0:∀ao∈als,∀d,ao.dst=some d→d<nt) :
 ∀ (n j:Nat),kk≤j→j+n=ops.size→∀ (c:Nat) (b:Array Bool) (γ:Nat→Option Place) (I:IMap) (st:St) (a:Act) (w:World) (ub:Nat) (F:List St),b.size=ops.size→(∀i,b.getD i false=decide (i<j)) →
  b.toList.count false≤c→SubG γ0 γ→SubI Iy I→R E w0 I0 nt γ I st a w→(∀u,ub≤u→γ u=none)→jhh E call (als.drop j) st ub=some F →
  (∀s∈F,Nice E w0 I0 nt γ I s s.nx (fun a w=>Q .normal a w))→wpAnyIn (FW rn) 0 P .any ops Q c b a w:=by
 obtain⟨q,b7⟩:=js c2
 have q:als.length=ops.size:=by rw[q,Array.length_toList]
 obtain⟨g,c4⟩:=Xl L q
 have f:∀ (b:Array Bool) (i:Nat),i<b.size→b.getD i true=b.getD i false:=by
  intro b i z
  simp[z]
 intro n
 induction n with
 | zero=>
  intro j hj d3 c b γ I st a w ub F c1 B X H K hR hf G hK
  have k:als.drop j=[]:=List.drop_of_length_le zO
  rw[k]at G
  simp only[jhh,Option.some.injEq]at G
  subst G
  have N:Region.ready .any ops b=[]:=by
   cases N:Region.ready .any ops b with
   | nil=>rfl
   | cons i r=>
    have z:i∈Region.ready .any ops b:=by rw[N];exact List.mem_cons_self ..
    obtain⟨h0,o,y,_⟩:=mem_ready.1 z
    have O:i<ops.size:=(Array.getElem?_eq_some_iff.1 y).1
    rw[f b i zO,B i,decide_eq_true zO]at h0
    cases h0
  have hQ:Q .normal a w:=hK _ (List.mem_singleton.2 rfl) γ I a w (hR.congr rfl rfl rfl rfl rfl) hf (fun _ _ h=>h) (fun _ _ _ h=>h)
  cases c with
  | zero=>exact⟨N,hQ⟩
  | succ c=>exact⟨fun _=>hQ,fun i z=>by rw[N]at z;cases z⟩
 | succ n ih=>
  intro j hj d3 c b γ I st a w ub F c1 B X H K hR hf G hK
  have M:j<ops.size:=zO
  have J:j<als.length:=zO
  have t:j<b.size:=zO
  have c6:jcs ops (fun i=>b.getD i false):=by
   intro i o y hd e he hb
   simp only[B,decide_eq_true_eq]at hd ⊢
   have:=g i o y e he hb
   omega
  have b5:∀i,i∈Region.ready .any ops b→i=j:=by
   intro i z
   obtain⟨h0,o,y,d1⟩:=mem_ready.1 z
   have O:i<ops.size:=(Array.getElem?_eq_some_iff.1 y).1
   rw[f b i zO,B i]at h0
   have h1:j≤i:=by simpa using h0
   rcases Nat.lt_or_eq_of_le h1 with h|h
   ·have:=YM (D:=fun i=>b.getD i false) g c6 y d1 (b8 i zO O j h)
    simp only[B,decide_eq_true_eq]at this
    omega
   ·exact h.symm
  have c8:j∈Region.ready .any ops b:=mem_ready.2 ⟨by rw[f b j t,B j];simp,ops[j],Array.getElem?_eq_getElem M,fun e he hb=>by
   have:=g j _ (Array.getElem?_eq_getElem M) e he hb
   rw[B e.on]
   exact decide_eq_true this⟩
  have k:als.drop j=als[j]::als.drop (j+1):=List.drop_eq_getElem_cons J
  have a0:=List.getElem?_eq_getElem J
  have p:=List.getElem_mem J
  rw[k]at G
  generalize als[j]=ao at G a0 p
  have y:=Array.getElem?_eq_getElem M
  generalize ops[j]=o at y
  have v:JU P m ops o=some ao:=b7 j o ao (by rw[Array.getElem?_toList];exact y) a0
  have b9:b[j]? = some false:=by
   have h1:=B j
   rw[Array.getElem?_eq_getElem t]
   simp only[Array.getD_eq_getD_getElem?,Array.getElem?_eq_getElem t,Option.getD_some]at h1
   rw[h1]
   simp
  cases c with
  | zero=>
   have p:false∈b.toList:=Array.mem_toList_iff.2 (Array.mem_of_getElem? b9)
   have:=List.count_pos_iff.2 p
   omega
  | succ c=>
  refine⟨(fun N=>absurd (N▸c8) List.not_mem_nil),fun i z=>?_⟩
  rw[b5 i z]
  unfold wpOpIn
  simp only[y]
  simp only[jhh]at G
  obtain⟨l,hl,c3⟩:=JV G
  refine jg0 c7 H K hR hf v (by rw[← (XJ v).1];exact c0 ao p) hl (fun x hx=>?_)
  obtain⟨rx,d0,S⟩:=c3 x hx
  intro c9 I' a' w' c5 d2 b0 T
  refine ih (j+1) zO zO c (b.setIfInBounds j true) c9 I' x.1 a' w' x.2 rx (by simpa using c1) (fun i=>?_) ?_ (H.trans b0) (K.trans T) c5 d2 d0 (fun s Z=>(hK s (S s Z)).weaken b0 T)
  ·by_cases b6:i=j
   ·subst b6
    simp[t]
   ·rw[getD_set_ne false (Ne.symm b6),B i]
    exact decide_eq_decide.2 ⟨fun h=>by omega,fun h=>by omega⟩
  ·have hg:b.toList[j]? = some false:=by rw[Array.getElem?_toList];exact b9
   have U:j<b.toList.length:=by simpa using t
   rw[Array.toList_setIfInBounds,List.count_set U]
   rw[List.getElem?_eq_getElem U]at hg
   simp only[Option.some.injEq]at hg
   rw[hg]
   simp only[beq_self_eq_true,if_true]
   have:(true == false)=false:=rfl
   rw[this]
   simp only[Bool.false_eq_true,if_false]
   omega
end
def le {α:Type}(x y:Option α):Prop:=∀a,x=some a→y=some a
theorem le.bind {e j:Type}{x y:Option e}{f g:e→Option j}(h:le x y) (i:∀a,le (f a) (g a)):le (x.bind f) (y.bind g):=by
 intro b c
 cases d:x with
 | none=>simp[d]at c
 | some a=>rw[h a d];rw[d]at c;exact i a b c
theorem le.map {e g:Type}{x y:Option e}{f:e→g}(h:le x y):le (x.map f) (y.map f):=by
 intro b c
 cases d:x with
 | none=>simp[d]at c
 | some a=>rw[h a d];rw[d]at c;exact c
theorem le.rfl' {a:Type}(x:Option a):le x x:=fun _ h=>h
theorem jgv {c b:FuncId→List V→Option V}(h:∀f a,le (c f a) (b f a)) (ub f xs):le (jb4 c ub f xs) (jb4 b ub f xs):=by
 unfold jb4
 split
 ·exact(h f xs).bind fun _=>le.rfl' _
 ·exact le.rfl' _
theorem jbd {call c:FuncId→List V→Option V}(h:∀f a,le (call f a) (c f a)) (ρ ob tk ro d ub) (o:AOp):le (aop call ρ ob tk ro d ub o) (aop c ρ ob tk ro d ub o):=by
 cases o <;> try exact le.rfl' _
 case call f xs=>exact jgv h _ _ _
 case callV f xs=>
  simp only[aop]
  split
  ·exact jgv h _ _ _
  ·exact le.rfl' _
 case range b x=>cases b <;> exact le.rfl' _
def YLe (y y':Y):Prop:=∀l u a ob tk ro ub,le (y l u a ob tk ro ub) (y' l u a ob tk ro ub)
structure CLe (c c':Callers):Prop where
 d:∀f a,le (c.d f a) (c'.d f a)
 o:∀f a ob tk b u,le (c.o f a ob tk b u) (c'.o f a ob tk b u)
 s:∀f a ob tk ro b u,le (c.s f a ob tk ro b u) (c'.s f a ob tk ro b u)
 y:YLe c.y c'.y
def FLe (c c':Y→Callers):Prop:=∀y y',YLe y y'→CLe (c y) (c' y')
theorem jae {E:Env}{b a:Callers}(h:CLe b a) (o st ub):le (jb8 E b o st ub) (jb8 E a o st ub):=by
 unfold jb8
 split
 ·split
  ·exact(h.y _ _ _ _ _ _ _).map
  split
  ·split
   ·exact(h.s _ _ _ _ _ _ _).map
   ·exact((h.o _ _ _ _ _ _).bind fun _=>le.rfl' _).map
  ·split
   ·exact le.rfl' _
   ·exact(jbd h.d _ _ _ _ _ _ _).map
 ·exact le.rfl' _
 ·exact le.rfl' _
theorem Qw {b c:Type}{f g:b→Option (List c)}(h:∀a,le (f a) (g a)):∀l,le (Qe f l) (Qe g l)
 | []=>le.rfl' _
 | [x]=>h x
 | x::y::r=>(h x).bind fun _=>(Qw h (y::r)).map
theorem QM {b d:Type}{x y:Option (List b)}{f g:b→Option (List d)}(c:le x y) (h:∀a,le (f a) (g a)):le (bindL x f) (bindL y g) :=
 c.bind fun l=>Qw h l
theorem jd8 {E:Env}{b a:Callers}(h:CLe b a):∀c e d,le (jhh E b c e d) (jhh E a c e d)
 | [],_,_=>le.rfl' _
 | o::rest,e,d=>QM (jae h o e d) fun x=>jd8 h rest x.1 x.2
theorem JT {E:Env}{b a:Callers}(h:CLe b a):∀c g e,le (Y4 E b c g e) (Y4 E a c g e)
 | [],_,_=>le.rfl' _
 | o::rest,g,e=>by
  unfold Y4
  split
  ·split
   ·split
    ·split
     ·exact(((le.rfl' _).bind fun i=>h.d _ i).bind fun _=>le.rfl' _).bind fun f=>(JT h rest _ _).map
     ·exact(le.rfl' _).bind fun f=>(JT h rest _ _).map
    ·exact((h.o _ _ _ _ _ _).bind fun _=>le.rfl' _).bind fun f=>(JT h rest _ _).map
   ·split
    ·exact le.rfl' _
    ·exact(jbd h.d _ _ _ _ _ _ _).bind fun f=>(JT h rest _ _).map
  ·exact(JT h rest _ _).map
  ·exact le.rfl' _
theorem QG {b d:St→j4c}(h:∀a,le (b a) (d a)):∀n m,n≤m→∀a,le (jay b n a) (jay d m a)
 | 0,_,_,_=>fun _ h=>by simp[jay]at h
 | n+1,0,hm,_=>by omega
 | n+1,m+1,hm,a=>by
  simp only[jay]
  refine QM (h a) fun x=>?_
  obtain⟨e,c⟩:=x
  cases e
  ·exact QG h n m zO c
  ·exact le.rfl' _
  ·exact le.rfl' _
theorem jdx {g fb c b:St→j4c}(i:∀st,le (g st) (c st)) (m:∀st,le (fb st) (b st)) (st:St) (ps:List Nat) (l u:Nat):YLe (QW g fb st ps l u) (QW c b st ps l u):=by
 intro v B h ob F s t r a
 unfold QW at a ⊢
 split at a
 case isFalse=>cases a
 rename_i j
 rw[if_pos j]
 split at a
 case h_2=>cases a
 rename_i w z
 split at a
 case isFalse=>cases a
 rename_i k
 simp only[k,if_true]
 split at a
 case h_2=>cases a
 rename_i q o
 have d:=i _ _ o
 simp only[d]
 split at a
 case h_2=>cases a
 rename_i x D
 split at a
 case isFalse=>cases a
 rename_i n
 simp only[n,if_true]
 split at a
 case h_2=>cases a
 rename_i e y p
 have f:=m _ _ p
 simp only[f]
 exact a
theorem jr6 {b:Type}{x y:Option (List b)}(h:le x y):le (only x) (only y):=by
 intro r a
 cases x with
 | none=>cases a
 | some l=>rw[h l rfl];exact a
theorem jc {E:Env}{k i:Y→Callers}{n m:Nat}(h:FLe k i) (j:n≤m):∀c y d,YLe y d→∀g,le (jW E k y n c g) (jW E i d m c g)
 | .skip,_,_,_,_=>le.rfl' _
 | .region ops,y,d,hy,g=>by simp only[jW];exact(jd8 (h y d hy) ops g g.nx).map
 | .draw ops _,y,d,hy,g=>by simp only[jW];exact(JT (h y d hy) ops g g.nx).bind fun _=>le.rfl' _
 | .pin o fs,y,d,hy,g=>by
  simp only[jW]
  exact QM (jae (h y d hy) o g g.nx) fun x=>(JT (h y d hy) fs x.1 x.2).bind fun _=>le.rfl' _
 | .seq a b,y,d,hy,g=>by
  simp only[jW]
  refine QM (jc h j a y d hy g) fun x=>?_
  obtain⟨e,l⟩:=x
  cases e
  ·exact jc h j b y d hy l
  ·exact le.rfl' _
  ·exact le.rfl' _
 | .cond c a b,y,d,hy,g=>by
  simp only[jW]
  split
  ·exact jc h j a y d hy g
  ·exact jc h j b y d hy g
  ·exact le.rfl' _
 | .block id a,y,d,hy,g=>by simp only[jW];exact(jc h j a y d hy g).map
 | .loop a,y,d,hy,g=>by simp only[jW];exact QG (jc h j a y d hy) n m j g
 | .rangeFunc f ps a b,y,d,hy,g=>by
  simp only[jW]
  split
  ·exact(jr6 ((h _ _ (jdx (jc h j a y d hy) (jc h j b y d hy) _ _ _ _)).s _ _ _ _ _ _ _)).bind fun _=>le.rfl' _
  ·exact le.rfl' _
 | .exit _,_,_,_,_=>le.rfl' _
 | .stuck,_,_,_,_=>le.rfl' _
 | .ret,_,_,_,_=>le.rfl' _
theorem jjg {f:Ex × St→Option V}{x y:Option (List (Ex × St))}(h:le x y):le (jzp f x) (jzp f y):=by
 intro r a
 cases x with
 | none=>cases a
 | some l=>rw[h l rfl];exact a
theorem YLe.refl (y:Y):YLe y y:=fun _ _ _ _ _ _ _=>le.rfl' _
theorem Jb {E:Env}:∀n m,n≤m→FLe (callers E n) (callers E m)
 | 0,0,_=>fun y j c=>⟨fun _ _ _ h=>(by cases h),fun _ _ _ _ _ _ _ h=>(by cases h),fun _ _ _ _ _ _ _ _ h=>(by cases h),c⟩
 | 0,_+1,_=>fun y j c=>⟨fun _ _ _ h=>(by cases h),fun _ _ _ _ _ _ _ h=>(by cases h),fun _ _ _ _ _ _ _ _ h=>(by cases h),c⟩
 | n+1,0,h=>by omega
 | n+1,m+1,h=>by
  intro y j c
  have g:=jc (E:=E) (Jb (E:=E) n m zO) (show n≤m by omega)
  refine⟨fun f a=>?_,fun f a ob o b u=>?_,fun f a ob o q b u=>?_,c⟩
  ·simp only[callers]
   exact(le.rfl' (E.fc f)).bind fun k=>jjg (g _ _ _ (YLe.refl _) _)
  ·simp only[callers]
   by_cases e:E.fz f
   ·simp only[e,if_true]
    refine(le.rfl' _).bind fun i=>?_
    exact((Jb (E:=E) n m zO _ _ (YLe.refl _)).d f i).bind fun r=>le.rfl' _
   ·simp only[e,Bool.false_eq_true,if_false]
    exact(le.rfl' (E.fs f)).bind fun k=>jjg (g _ _ _ (YLe.refl _) _)
  ·simp only[callers]
   by_cases e:E.tw f
   ·simp only[e,if_true]
    refine(le.rfl' _).bind fun i=>?_
    exact((Jb (E:=E) n m zO _ _ (YLe.refl _)).d f i).bind fun r=>le.rfl' _
   simp only[e,Bool.false_eq_true,if_false]
   cases p:E.srt f with
   | some m=>exact le.rfl' _
   | none=>
   exact(le.rfl' (E.fs f)).bind fun k=>(g _ _ _ c _).bind fun l=>le.rfl' _
mutual
theorem Wy:∀a b:V,V.eqb a b=true→a=b:=by
 intro a b h
 cases a <;> cases b <;> simp only[V.eqb,Bool.and_eq_true,decide_eq_true_eq,beq_iff_eq,Bool.false_eq_true]at h
 case sl.sl t nl n cs t' nl' n' cs'=>obtain⟨⟨⟨rfl,rfl⟩,rfl⟩,h⟩:=h;rw[Xh cs cs' h]
 case agg.agg cs cs'=>rw[Xh cs cs' h]
 case tup.tup cs cs'=>rw[Xh cs cs' h]
 case eptr.eptr cs o cs' o'=>obtain⟨h,rfl⟩:=h;rw[Xh cs cs' h]
 case fn.fn f a b f' a' b'=>obtain⟨⟨rfl,h⟩,c⟩:=h;rw[Xh a a' h,Xh b b' c]
 case iface.iface t v t' v'=>obtain⟨rfl,h⟩:=h;rw[Wy v v' h]
 all_goals simp_all
theorem Xh:∀a b:List V,V.eqbs a b=true→a=b:=by
 intro a b h
 cases a <;> cases b <;> simp only[V.eqbs,Bool.and_eq_true,Bool.false_eq_true]at h
 ·rfl
 case cons.cons x l y m=>rw[Wy x y h.1,Xh l m h.2]
end
mutual
theorem jc9:∀a:V,V.eqb a a=true:=by
 intro a
 cases a <;> simp only[V.eqb,Bool.and_eq_true,decide_true,beq_self_eq_true,and_self,true_and,and_true]
 case sl t nl n cs=>exact YS cs
 case agg cs=>exact YS cs
 case tup cs=>exact YS cs
 case eptr cs o=>exact YS cs
 case fn f a b=>exact⟨YS a,YS b⟩
 case iface t v=>exact jc9 v
theorem YS:∀a:List V,V.eqbs a a=true:=by
 intro a
 cases a <;> simp only[V.eqbs,Bool.and_eq_true]
 case cons x l=>exact⟨jc9 x,YS l⟩
end
theorem jjf {f:Ex × St→Option V}{x:Option (List (Ex × St))}{r:V}(h:jzp f x=some r):∃l,x=some l∧∀y∈l,f y=some r:=by
 cases x with
 | none=>cases h
 | some l=>
  cases l with
  | nil=>cases h
  | cons y i=>
   refine⟨_,rfl,?_⟩
   simp only[jzp,Option.bind_eq_some_iff,Option.ite_none_right_eq_some,Option.some.injEq]at h
   obtain⟨e,c,d,rfl⟩:=h
   intro z a
   rcases List.mem_cons.1 a with rfl|a
   ·exact c
   ·have:=List.all_eq_true.1 d z a
    split at this
    ·rename_i g b
     rw[b,Wy _ _ this]
    ·cases this
theorem jhj {f:Ex × St→Option V}{l:List (Ex × St)}{r:V}(a:l≠[]) (h:∀y∈l,f y=some r):jzp f (some l)=some r:=by
 cases l with
 | nil=>exact absurd rfl a
 | cons y c=>
  simp only[jzp,h y (List.mem_cons_self ..),Option.bind_some,Option.ite_none_right_eq_some,List.all_eq_true,and_true]
  intro z b
  rw[h z (List.mem_cons_of_mem _ b)]
  exact jc9 r
def Ev (E:Env) (f:FuncId) (args:List V) (r:V):Prop:=∃n,(callers E n noY).d f args=some r
def W (E:Env) (c:C) (st:St) (Q:Ex→St→Prop):Prop:=∃n l,jW E (callers E n) noY n c st=some l∧l≠[]∧∀x∈l,Q x.1 x.2
theorem Ev_of {E:Env}{f:FuncId}{af:AF}{args:List V}{r:V}(d:E.fc f=some af) (h:W E af.body (QP args) fun e s=>ja8 af.res (e,s)=some r):Ev E f args r:=by
 obtain⟨n,l,a,c,b⟩:=h
 exact⟨n+1,by simp only[callers,d,Option.bind_some,a,jhj c b]⟩
theorem jim {o:AOp}(h:o.still=true):o.wO=false∧o.wT=false∧o.isCall=false∧o.far=false:=by
 cases o <;> first|(cases h;done)|exact⟨rfl,rfl,rfl,rfl⟩
theorem Wf {E:Env}{nm:Bool}{b:A→V}{o:AOp}(h:o.still=true):jA E nm b o=none:=by
 cases o <;> first|(cases h;done)|rfl
theorem jad {E:Env}{call:Callers}{fb ub ue:Nat}{s:St}{ao:AOpr}{δ:Delta}{k:FP}(h:TrAt E call fb ub ue s ao δ k) (e:ao.op.still=true) :
 (wanted ao s.tm=some true∧aop call.d (eval E s.tm) s.ob s.tk s.ro (ao.name fb ub) ub ao.op=some δ∨wanted ao s.tm=some false∧δ = { v:=jq })∧δ.wo=[]∧δ.wt=[]:=by
 obtain⟨j,l,_,_⟩:=jim e
 rcases h.run with⟨c,_,_,g,_⟩|⟨c,rfl,_⟩|⟨_,f,i,b,c,_⟩|⟨_,f,i,n,m,c,_⟩|⟨_,f,i,c,_⟩
 ·exact⟨.inl ⟨c,g⟩,jy8 _ j δ g,jy7 _ l δ g⟩
 ·exact⟨.inr ⟨c,rfl⟩,rfl,rfl⟩
 ·rw[Wf e]at c;cases c
 ·rw[Wf e]at c;cases c
 ·rw[Wf e]at c;cases c
theorem j32 {s:St}{d:Option Nat}{δ:Delta}(b:δ.wo=[]) (c:δ.wt=[]):(s.app d δ).ob=s.ob∧(s.app d δ).tk=s.tk:=by
 obtain⟨v,e,f,add,h⟩:=δ
 unfold Delta.wo at b
 unfold Delta.wt at c
 rw[List.append_eq_nil_iff]at b c
 have j:e=[]:=List.map_eq_nil_iff.1 b.2
 obtain⟨i,-⟩:=b
 obtain⟨k,g⟩:=c
 simp only at i g
 subst j i g
 cases f with
 | none=>exact⟨rfl,rfl⟩
 | some x=>cases k
theorem Xk:∀ (l:List Eff) (s:St),jL (fun _=>false) l s=s
 | [],_=>rfl
 | _::l,s=>by simp only[jL,Bool.false_eq_true,if_false];exact Xk l s
theorem jny {b:List Eff}{st:St}{i d:Nat}{e:Eff}(h:b[i]? = some e) (m:e.1=some d) (c:∀k f,b[k]? = some f→k≠i→f.1≠some d):(jL (fun _=>true) b st).tm d=e.2.v:=by
 rw[jc6 (π:=fun s=>s.tm d) (wr:=wrT d) (g:=fun e=>e.2.v) (jab d) b (fun k=>decide (k≠i)) (fun _=>true) st i e h zS rfl (fun k l=>by simp[l])
  (fun k f l j _ _=>by simp only[wrT,decide_eq_false_iff_not];exact c k f j zO)]
 simp[wrT,m]
theorem jkj {ops:Array Oper}{kk:Nat}(p:kk≤ops.size) (c:∀j o,ops[j]? = some o→∀e∈o.after,Region.binds .any e=true→e.on<j) {b:Array Bool}(n:b.size=ops.size)
 (l:∀i,i<kk→i ∉ Region.ready .any ops b):∀j,j<kk→b.getD j false=true:=by
 intro j
 induction j using Nat.strongRecOn with
 | _ j f=>
  intro h
  cases m:b.getD j false with
  | true=>rfl
  | false=>
   have d:j<b.size:=zO
   have:j∈Region.ready .any ops b:=mem_ready.2 ⟨by simpa[d] using m,ops[j],Array.getElem?_eq_getElem zO,fun e g k=>by
    have:=c j _ (Array.getElem?_eq_getElem zO) e g k
    exact f e.on this zO⟩
   exact absurd this (l j h)
theorem XR {tm:Nat→V}{d:Option Nat}{v:V}{t:Nat}(h:d≠some t):put tm d v t=tm t:=by
 cases d with
 | none=>rfl
 | some d=>exact J9 _ _ (fun e=>h (by rw[e]))
theorem WK {tm:Nat→V}{v:V}{t:Nat}:put tm (some t) v t=v:=Yc _ _ _
theorem count_set {b:Array Bool}{i:Nat}(hi:i<b.size) (h:b.getD i false=false):(b.setIfInBounds i true).toList.count false=b.toList.count false - 1∧0<b.toList.count false:=by
 have e:b.toList[i]? = some false:=by
  rw[Array.getElem?_toList,Array.getElem?_eq_getElem hi]
  simp only[Array.getD_eq_getD_getElem?,Array.getElem?_eq_getElem hi,Option.getD_some]at h
  rw[h]
 have c:i<b.toList.length:=by simpa using hi
 have d:=List.mem_of_getElem? e
 refine⟨?_,List.count_pos_iff.2 d⟩
 rw[Array.toList_setIfInBounds,List.count_set c]
 rw[List.getElem?_eq_getElem c]at e
 simp only[Option.some.injEq]at e
 rw[e]
 simp
theorem jq3 {E:Env}{call:Callers}{s s':St}{ao:AOpr}{ub:Nat}{l:List (St × Nat)}(m:ao.op.isCall=true) (j:∀t∈ao.looks,s'.tm t=s.tm t) (g:s'.ob=s.ob) (o:s'.tk=s.tk) (n:s'.ro=s.ro) (z:s'.fb=s.fb)
 (h:jb8 E call ao s ub=some l) :
 ∃D,jb8 E call ao s' ub=some D∧∀B∈D,∃x∈l,∃v ob tk,B.2=x.2∧x.1 = { s with tm:=put s.tm ao.dst v,ob:=ob,tk:=tk }∧B.1 = { s' with tm:=put s'.tm ao.dst v,ob:=ob,tk:=tk }:=by
 have e:=Xd (E:=E) j
 have G:=Jr j
 have J:ao.op.next? = none:=by cases g:ao.op <;> rw[g]at m <;> first|rfl|cases m
 have k:ao.op.far=false:=by cases g:ao.op <;> rw[g]at m <;> first|rfl|cases m
 have u:jf (eval E s'.tm) ao.op=jf (eval E s.tm) ao.op:=by
  cases g:ao.op <;> try rfl
  rename_i f K
  rw[g]at e
  simp only[AOp.opds,List.mem_cons,forall_eq_or_imp]at e
  simp only[jf]
  rw[e.1,X3 (fun y u=>e.2 y u)]
 have F:∀d ub,aop call.d (eval E s'.tm) s.ob s.tk s.ro d ub ao.op=aop call.d (eval E s.tm) s.ob s.tk s.ro d ub ao.op:=fun d ub=>je8 ao.op k e (fun _ _=>rfl) (fun _ _=>rfl)
 unfold jb8 at h ⊢
 rw[G,u,Yd ao.op e,g,o,n,z]
 simp only[J,F]at h ⊢
 split at h
 ·split at h
  ·obtain⟨r,b,rfl⟩:=map_some h
   rw[b]
   exact⟨_,rfl,fun x c=>by rw[List.mem_singleton]at c;subst c;exact⟨_,List.mem_singleton.2 rfl,r.1,r.2.1,r.2.2.1,rfl,rfl,rfl⟩⟩
  ·split at h
   ·split at h
    ·rename_i i
     obtain⟨r,b,rfl⟩:=map_some h
     rw[if_pos i,b]
     refine⟨_,rfl,fun x c=>?_⟩
     obtain⟨q,H,rfl⟩:=List.mem_map.1 c
     exact⟨_,List.mem_map.2 ⟨q,H,rfl⟩,q.1,q.2.1,q.2.2.1,rfl,rfl,rfl⟩
    ·rename_i i
     obtain⟨p,b,rfl⟩:=map_some h
     rw[if_neg i,b]
     refine⟨_,rfl,fun x c=>?_⟩
     rw[List.mem_singleton]at c;subst c
     refine⟨_,List.mem_singleton.2 rfl,p.v,_,_,rfl,rfl,?_⟩
     simp only[St.app,g,o,n,z]
   ·obtain⟨p,b,rfl⟩:=map_some h
    rw[b]
    refine⟨_,rfl,fun x c=>?_⟩
    rw[List.mem_singleton]at c;subst c
    refine⟨_,List.mem_singleton.2 rfl,p.v,_,_,rfl,rfl,?_⟩
    simp only[St.app,g,o,n,z]
 ·cases h
  exact⟨_,rfl,fun x c=>by rw[List.mem_singleton]at c;subst c;exact⟨_,List.mem_singleton.2 rfl,jq,s.ob,s.tk,rfl,rfl,rfl⟩⟩
 ·cases h
section
variable {P:Program}{E:Env}{w0 w:World}{I0:IMap}{nt:Nat}{γ:Nat→Option Place}{I:IMap}{st:St}{a:Act}{ub:Nat}{call:Callers}{ops:Array Oper}{als:List AOpr}{fps:List FP}{free:List (Nat × Nat)}
theorem j5y {m:Bool}{rn:Option Nat}{γ0:Nat→Option Place}{Iy:IMap}{Q:Exit→Act→World→Prop}{kk c:Nat}{X:AOpr}{S:St}{l:List (St × Nat)}(p2:kk≤als.length)
 (f9:∀j,kk≤j→j<ops.size→∀i,i<j→((J8 ops.toList []).getD j 0).testBit i=true) (f5:jwi ops als kk c=true) (h6:als[c]? = some X)
 (g5:COk P E γ0 Iy call) (m4:SubG γ0 γ) (m7:SubI Iy I) (f1:ops.toList.mapM (JU P m ops)=some als) (c7:Xv ops als=some free) (d3:∀ao∈als,∀d,ao.dst=some d→d<nt)
 (hd:Y4 E call ((als.take kk).set c jhm) st ub=some (fps,S)) (n2:Jw free fps=true) (p6:Qo fps=true) (hl:jb8 E call X S S.nx=some l)
 (hx:∀x∈l,∃p i0,Y4 E call ((als.take kk).drop (c+1)) x.1 x.2=some p∧jcv ((als.take kk).drop (c+1)) S p.2=true∧jhh E call (als.drop kk) p.2 p.2.nx=some i0∧∀g7∈i0,Nice E w0 I0 nt γ I g7 g7.nx (fun a w=>Q .normal a w))
 (hR:R E w0 I0 nt γ I st a w) (hf:∀u,ub≤u→γ u=none):wpAnyIn (FW rn) 0 P .any ops Q ops.size (Array.replicate ops.size false) a w:=by
 obtain⟨f4,i4⟩:=js f1
 have f4:als.length=ops.size:=by rw[f4,Array.length_toList]
 obtain⟨Z,d4⟩:=Xl c7 f4
 unfold jwi at f5
 simp only[Bool.and_eq_true,Nat.blt_eq,h6]at f5
 obtain⟨⟨⟨q7,k3⟩,f8⟩,L⟩:=f5
 have f8:∀i,i<c→((J8 ops.toList []).getD c 0).testBit i=true:=fun i hi=>List.all_eq_true.1 f8 i (List.mem_range.2 hi)
 have hF:∀j o,c<j→j<kk→als[j]? = some o→o.op.still=true∧((J8 ops.toList []).getD j 0).testBit c=false∧∀d,o.dst=some d→∀i x,i<kk→als[i]? = some x→(i≠j→x.dst≠some d)∧(i≤j→d ∉ x.looks):=by
  intro j o y z ho
  have:=List.all_eq_true.1 L j (List.mem_range.2 z)
  have l3:Nat.ble j c=false:=by
   cases h:Nat.ble j c with
   | false=>rfl
   | true=>have:=Nat.le_of_ble_eq_true h;omega
  simp only[l3,Bool.false_or,ho,Bool.and_eq_true,Bool.not_eq_true']at this
  obtain⟨⟨B,J⟩,h5⟩:=this
  refine⟨B,J,fun d hd i x hi o9=>?_⟩
  simp only[hd]at h5
  have:=List.all_eq_true.1 h5 i (List.mem_range.2 hi)
  simp only[o9,Bool.and_eq_true,Bool.or_eq_true,Bool.not_eq_true']at this
  refine⟨fun c4 he=>?_,fun q2=>?_⟩
  ·rcases this.1 with h|h
   ·exact c4 (Nat.eq_of_beq_eq_true h)
   ·simp only[he,Bool.not_eq_true']at h
    rw[Nat.beq_refl]at h
    cases h
  ·rcases this.2 with h|h
   ·rw[Nat.blt_eq]at h
    omega
   ·exact jme h
 obtain⟨q,e4,rfl⟩:=XI _ _ _ _ _ hd
 have k0:((als.take kk).set c jhm).length=kk:=by rw[List.length_set,List.length_take];omega
 have m3:q.length=kk:=e4.len.trans k0
 have h9:∀i ao,i<kk→i≠c→als[i]? = some ao→((als.take kk).set c jhm)[i]? = some ao:=fun i ao y z B=>by
  rw[List.getElem?_set_ne (Ne.symm z),List.getElem?_take,if_pos y];exact B
 have d9:q[c]? = some (none,{ v:=jq }):=by
  obtain⟨δ,fp,y,z,B⟩:=e4.at' c jhm (by rw[List.getElem?_set_self (by rw[List.length_take];omega)])
  have:δ = { v:=jq }:=by
   obtain⟨J,_⟩:=jad B rfl
   rcases J with⟨_,J⟩|⟨J,h5⟩
   ·cases J;rfl
   ·exact h5
  rw[y,this];rfl
 have g9:∀j e,c<j→q[j]? = some e→∃o,als[j]? = some o∧j<kk∧e.1=o.dst∧e.2.wo=[]∧e.2.wt=[]:=by
  intro j e hj he
  have k4:j<kk:=m3▸(List.getElem?_eq_some_iff.1 he).1
  have ho:=List.getElem?_eq_getElem (show j<als.length by omega)
  obtain⟨δ,fp,y,z,B⟩:=e4.at' j _ (h9 j _ k4 zO ho)
  rw[he]at y;cases y
  obtain⟨_,J,h5⟩:=jad B (hF j _ hj k4 ho).1
  exact⟨_,ho,k4,rfl,J,h5⟩
 generalize hT:jL (fun _=>true) q st=T at *
 have d1:∀i d,(Array.replicate ops.size false).getD i d=if i<ops.size then false else d:=by
  intro i d
  by_cases hi:i<ops.size <;> simp[hi]
 have l4:jL (fun i=>(Array.replicate ops.size false).getD i false) q st=st:=by
  have:(fun i=>(Array.replicate ops.size false).getD i false)=fun _=>false:=funext fun i=>by rw[d1];split <;> rfl
  rw[this]
  exact Xk _ _
 refine je9 (bb:=false) (w0:=w0) (I0:=I0) (kk:=kk) (al':=(als.take kk).set c jhm) (sp:=fun i=>Nat.beq i c) p2 k0 (fun i ao y z B=>h9 i ao y (fun e=>by subst e;rw[Nat.beq_refl]at z;cases z) B)
  (fun i _ h=>by rw[Nat.eq_of_beq_eq_true h];exact d9) (fun j y z i B=>f9 j y z i zO) g5 f1 c7 e4 n2 p6 d3 (γ:=γ) (I:=I) ?_ (fun b8 I' a' w' F f c3 hm p8=>?_) ops.size (Array.replicate ops.size false) γ I a w zS
  (fun j o ho hj=>?_) (fun j hj=>by rw[d1];split <;> rfl) (fun j hj=>by rw[d1];split <;> rfl) zS (by rw[l4];exact hR) (fun u hu=>hf u zO) (fun j hj u y z=>hf u zO) (fun _ _ h=>h) (fun _ _ _ h=>h)
 rotate_left
 ·have:=p8 c (Nat.beq_refl c)
  rw[hm c,decide_eq_true zO]at this
  cases this
 ·simp only[d1]at hj
  split at hj <;> cases hj
 intro i F f b5 I1 a1 w1 m8 b0 c3 e0 d5 l9 c8 p0 g6 hg hI hi
 have e:c=i:=(Nat.eq_of_beq_eq_true m8).symm
 subst e
 obtain⟨h0,oc,f2,e7⟩:=mem_ready.1 hi
 have q6:c<ops.size:=(Array.getElem?_eq_some_iff.1 f2).1
 have N:JU P m ops oc=some X:=i4 c oc X (by rw[Array.getElem?_toList];exact f2) h6
 have K:∀j,j<c→f.getD j false=true:=fun j hj=>YM Z e0 f2 e7 (f8 j hj)
 have n6:f.getD c false=false:=l9 c m8
 -- a state in which all ahead of the call have q1 about: asg the whole one,but for what is still
 have g4:∀D:Nat→Bool,(∀j,j<c→D j=true)→(jL D q st).ob=T.ob:=fun D hD=>by
  rw[← hT]
  refine funext fun l=>X9 (π:=fun s=>s.ob l) (wr:=wrO l) (g:=fun e=>JK (fun _=>none) e.2.obs l) (jcf l) q _ _ _ _ (fun k e G M=>?_) rfl
  rcases Nat.lt_trichotomy k c with h|h|h
  ·exact hD k h
  ·subst h;rw[d9]at G;cases G;cases M
  ·obtain⟨o,_,_,_,y,_⟩:=g9 k e h G
   simp[wrO,y]at M
 have i1:∀D:Nat→Bool,(∀j,j<c→D j=true)→(jL D q st).tk=T.tk:=fun D hD=>by
  rw[← hT]
  refine funext fun u=>X9 (π:=fun s=>s.tk u) (wr:=wrK u) (g:=fun e=>e.2.add.contains u) (jfl u) q _ _ _ _ (fun k e G M=>?_) rfl
  rcases Nat.lt_trichotomy k c with h|h|h
  ·exact hD k h
  ·subst h;rw[d9]at G;cases G;cases M
  ·obtain⟨o,_,_,_,_,y⟩:=g9 k e h G
   simp[wrK,y]at M
 have b7:∀ (D:Nat→Bool) (t:Nat),(∀j,j<c→D j=true)→(∀k o,c<k→k<kk→als[k]? = some o→o.dst=some t→D k=true)→(jL D q st).tm t=T.tm t:=fun D t hD q0=>by
  rw[← hT]
  refine X9 (π:=fun s=>s.tm t) (wr:=wrT t) (g:=fun e=>e.2.v) (jab t) q _ _ _ _ (fun k e G M=>?_) rfl
  simp only[wrT,decide_eq_true_eq]at M
  rcases Nat.lt_trichotomy k c with h|h|h
  ·exact hD k h
  ·subst h;rw[d9]at G;cases G;cases M
  ·obtain⟨o,ho,h7,y,_⟩:=g9 k e h G
   exact q0 k o h h7 ho (y▸M)
 have b6:∀k o,c<k→k<kk→als[k]? = some o→Apart X o:=fun k o y z B=>(d4 c k X o y h6 B (hF k o y z B).2.1).1
 have a0:=jx q (fun i=>f.getD i false) st
 have c0:T.nx=st.nx∧T.fb=st.fb∧T.ro=st.ro∧T.df=st.df:=hT▸jx q (fun _=>true) st
 obtain⟨l',p4,n3⟩:=jq3 (s:={ T with nx:=ub+64*((als.take kk).set c jhm).length }) (s':=jL (fun i=>f.getD i false) q st) k3
  (fun t ht=>b7 _ t K fun k o y z B J=>absurd ht ((b6 k o y z B).c t J)) (g4 _ K) (i1 _ K) (a0.2.2.1.trans c0.2.2.1.symm) (a0.2.1.trans c0.2.1.symm) hl
 unfold wpOpIn
 simp only[f2]
 refine jg0 g5 (m4.trans hg) (m7.trans hI) p0 (fun u hu=>g6 u (by rw[← k0];exact hu)) N (by rw[← (XJ N).1];exact d3 X (List.mem_of_getElem? h6)) p4 (fun x' o3=>?_)
 obtain⟨x,p9,v,d8,e5,e1,e2,e3⟩:=n3 x' o3
 obtain⟨p,i0,hp,k7,l0,k2⟩:=hx x p9
 obtain⟨r,f0,e6⟩:=XI _ _ _ p.1 p.2 hp
 intro o2 I2 a2 w2 k8 i9 p3 p1
 rw[e1]at i9
 rw[e3]at k8
 have l6:((als.take kk).drop (c+1)).length=kk - (c+1):=by rw[List.length_drop,List.length_take];omega
 have f6:∀j o,c<j→j<kk→als[j]? = some o→((als.take kk).drop (c+1))[j - (c+1)]? = some o:=fun j o y z B=>by
  rw[List.getElem?_drop,List.getElem?_take,if_pos zO,show c+1+(j - (c+1))=j by omega];exact B
 have d0:∀n e,r[n]? = some e→∃o,als[c+1+n]? = some o∧c+1+n<kk∧e.1=o.dst∧e.2.wo=[]∧e.2.wt=[]:=by
  intro n e he
  have hn:n<kk - (c+1):=by
   have:=(List.getElem?_eq_some_iff.1 he).1
   rw[f0.len,l6]at this
   exact this
  have ho:=List.getElem?_eq_getElem (show c+1+n<als.length by omega)
  obtain⟨δ,fp,y,z,B⟩:=f0.at' n _ (by have:=f6 (c+1+n) _ zO zO ho;rwa [show c+1+n - (c+1)=n by omega]at this)
  rw[he]at y;cases y
  obtain⟨_,J,h5⟩:=jad B (hF _ _ zO zO ho).1
  exact⟨_,ho,zO,rfl,J,h5⟩
 have d2:∀j o d,c<j→j<kk→als[j]? = some o→o.dst=some d→T.tm d=p.2.tm d:=by
  intro j o d y z B J
  have:=List.all_eq_true.1 k7 o (List.mem_of_getElem? (f6 j o y z B))
  simp only[J]at this
  exact Wy _ _ this
 have m6:∀D:Nat→Bool,(jL D r x.1).ob=d8:=fun D=>by
  have:(jL D r x.1).ob=(jL (fun _=>false) r x.1).ob:=funext fun l=>X9 (π:=fun s=>s.ob l) (wr:=wrO l) (g:=fun e=>JK (fun _=>none) e.2.obs l) (jcf l) r _ _ _ _ (fun k e G M=>by
   obtain⟨o,_,_,_,y,_⟩:=d0 k e G
   simp[wrO,y]at M) rfl
  rw[this,Xk,e2]
 have m2:∀D:Nat→Bool,(jL D r x.1).tk=e5:=fun D=>by
  have:(jL D r x.1).tk=(jL (fun _=>false) r x.1).tk:=funext fun u=>X9 (π:=fun s=>s.tk u) (wr:=wrK u) (g:=fun e=>e.2.add.contains u) (jfl u) r _ _ _ _ (fun k e G M=>by
   obtain⟨o,_,_,_,_,y⟩:=d0 k e G
   simp[wrK,y]at M) rfl
  rw[this,Xk,e2]
 have i3:∀t,p.2.tm t=(jL (fun _=>true) r x.1).tm t:=fun t=>by rw[e6]
 have k5:∀n t,(∀k o,n≤k→als[c+1+k]? = some o→c+1+k<kk→o.dst≠some t)→(jL (fun k=>decide (k<n)) r x.1).tm t=p.2.tm t:=fun n t h=>by
  rw[i3]
  refine X9 (π:=fun s=>s.tm t) (wr:=wrT t) (g:=fun e=>e.2.v) (jab t) r _ _ _ _ (fun k e G M=>?_) rfl
  simp only[wrT,decide_eq_true_eq]at M
  obtain⟨o,y,z,B,_⟩:=d0 k e G
  refine decide_eq_true ?_
  rcases Nat.lt_or_ge k n with J|J
  ·exact J
  ·exact absurd (B▸M) (h k o J y z)
 have l8:∀t,X.dst≠some t→p.2.tm t=T.tm t:=fun t ht=>by
  by_cases M:∃k o,c<k∧k<kk∧als[k]? = some o∧o.dst=some t
  ·obtain⟨k,o,y,z,B,J⟩:=M
   exact(d2 k o t y z B J).symm
  ·rw[← k5 0 t (fun k o _ y z B=>M ⟨c+1+k,o,zO,z,y,B⟩)]
   have:(fun k=>decide (k<0))=fun _:Nat=>false:=funext fun k=>by simp
   rw[this,Xk,e2]
   exact XR ht
 have i5:∀k o t,c<k→k<kk→als[k]? = some o→o.dst=some t→X.dst≠some t:=fun k o t y z B J h5=>(b6 k o y z B).b t h5 J
 have l1:x.1.ro=st.ro:=by rw[e2];exact c0.2.2.1
 have o8:x.1.df=st.df:=by rw[e2];exact c0.2.2.2
 have q3:x.1.fb=st.fb:=by rw[e2];exact c0.2.1
 have g8:∀ (F:Nat) (f:Array Bool) (b5:Nat→Option Place) (I1:IMap) (a:Act) (w:World),f.size=ops.size→jcs ops (fun i=>f.getD i false)→(∀j,kk≤j→f.getD j false=false)→(∀j,j≤c→f.getD j false=true)→f.toList.count false≤F →
  R E w0 I0 nt b5 I1 { jL (fun i=>f.getD i false) q st with tm:=put (jL (fun i=>f.getD i false) q st).tm X.dst v,ob:=d8,tk:=e5 } a w →
  (∀u,x.2+64*(kk - (c+1))≤u→b5 u=none)→(∀j,c<j→j<kk→f.getD j false=false→∀u,x.2+64*(j - (c+1))≤u→u<x.2+64*(j - (c+1))+64→b5 u=none)→SubG γ b5→SubI I I1 →
  wpAnyIn (FW rn) 0 P .any ops Q F f a w:=by
  intro F
  induction F with
  | zero=>?_
  | succ F ih=>?_
  all_goals
   intro f b5 I1 a w c3 e0 d5 K c8 hR g6 i6 hg hI
   have a0:=jx q (fun i=>f.getD i false) st
   have p5:∀F,f.toList.count false≤F→(∀j,j<kk→f.getD j false=true)→wpAnyIn (FW rn) 0 P .any ops Q F f a w:=fun F c8 L=>by
    refine jiz f9 g5 f1 c7 d3 (ops.size - kk) kk zR zO F f b5 I1 p.2 a w p.2.nx i0 c3 (fun i=>?_) c8 (m4.trans hg) (m7.trans hI) (hR.congr (funext fun t=>?_) ?_ ?_ ?_ ?_) (fun u hu=>g6 u (by rw[e6]at hu;simpa[l6] using hu)) l0 (fun g7 h=>(k2 g7 h).weaken hg hI)
    ·by_cases h:i<kk
     ·rw[L i h,decide_eq_true h]
     ·rw[d5 i zO,decide_eq_false h]
    ·by_cases h:X.dst=some t
     ·simp only[h,WK]
      rw[← k5 0 t (fun k o _ y z B=>i5 (c+1+k) o t zO z y B h)]
      have:(fun k=>decide (k<0))=fun _:Nat=>false:=funext fun k=>by simp
      rw[this,Xk,e2]
      simp only[h,WK]
     ·simp only[XR h]
      rw[l8 t h,b7 _ t (fun j hj=>K j zO) (fun k o y z _ _=>L k z)]
    ·rw[e6];exact m6 _
    ·rw[e6];exact m2 _
    ·exact(congrArg St.ro e6).trans ((jx r _ x.1).2.2.1.trans (l1.trans a0.2.2.1.symm))
    ·exact(congrArg St.df e6).trans ((jx r _ x.1).2.2.2.trans (o8.trans a0.2.2.2.symm))
   by_cases L:∀j,j<kk→f.getD j false=true
   ·exact p5 _ c8 L
  ·refine absurd (jkj zO Z c3 fun i hi n7=>?_) L
   obtain⟨h0,o,ho,_⟩:=mem_ready.1 n7
   have d7:i<f.size:=by rw[c3];exact(Array.getElem?_eq_some_iff.1 ho).1
   have:=(count_set d7 (by simpa[d7] using h0)).2
   omega
  ·refine⟨fun hr=>absurd (jkj zO Z c3 (fun i _ hi=>by rw[hr]at hi;cases hi)) L,fun i hi=>?_⟩
   obtain⟨h0,o,ho,e7⟩:=mem_ready.1 hi
   have n4:i<ops.size:=(Array.getElem?_eq_some_iff.1 ho).1
   have b0:i<kk:=by
    rcases Nat.lt_or_ge i kk with h|h
    ·exact h
    ·exact absurd (fun j hj=>YM Z e0 ho e7 (f9 i h n4 j zO)) L
   have d7:i<f.size:=zO
   have f7:f.getD i false=false:=by simpa[d7] using h0
   have d6:c<i:=by
    rcases Nat.lt_or_ge c i with h|h
    ·exact h
    ·rw[K i h]at f7;cases f7
   have O:=List.getElem?_eq_getElem (show i<als.length by omega)
   generalize als[i]=ao at O
   have N:JU P m ops o=some ao:=i4 i o ao (by rw[Array.getElem?_toList];exact ho) O
   obtain⟨hd1,k6⟩:=XJ N
   obtain⟨U,l3,e8⟩:=hF i ao d6 b0 O
   have k6:Ja P m o=some ao.op:=k6.resolve_right fun h=>by rw[h]at U;cases U
   obtain⟨g0,q4,m0,_,q5⟩:=e4.at' i ao (h9 i ao b0 zO O)
   obtain⟨h8,q8,n9,_,p7⟩:=f0.at' (i - (c+1)) ao (f6 i ao d6 b0 O)
   obtain⟨l5,o6,o7⟩:=jad p7 U
   have c9:∀t∈ao.looks,put (jL (fun i=>f.getD i false) q st).tm X.dst v t=(jL (fun k=>decide (k<i - (c+1))) r x.1).tm t:=by
    intro t ht
    have c4:X.dst≠some t:=fun h=>(b6 i ao d6 b0 O).a t h ht
    rw[XR c4,k5 _ t (fun k o G y z B=>((hF _ o zO z y).2.2 t B i ao b0 O).2 zO ht),l8 t c4]
    refine b7 _ t (fun j hj=>K j zO) fun k ok y z B J=>?_
    have o4:k<i:=by
     rcases Nat.lt_or_ge k i with h|h
     ·exact h
     ·exact absurd ht (((hF k ok y z B).2.2 t J i ao b0 O).2 h)
    cases l2:((J8 ops.toList []).getD i 0).testBit k with
    | true=>exact YM Z e0 ho e7 l2
    | false=>exact absurd ht ((d4 k i ok ao o4 B O l2).1.a t J)
   have hv:∀d,ao.dst=some d→g0.v=h8.v:=fun d hd=>by
    have y:T.tm d=g0.v:=by
     rw[← hT]
     refine jny m0 hd fun k e' G c4 h=>?_
     by_cases l7:k=c
     ·subst l7;rw[d9]at G;cases G;cases h
     ·have h7:k<kk:=m3▸(List.getElem?_eq_some_iff.1 G).1
      have m5:=List.getElem?_eq_getElem (show k<als.length by omega)
      obtain⟨q9,fk,m1,_⟩:=e4.at' k _ (h9 k _ h7 l7 m5)
      rw[G]at m1;cases m1
      exact(e8 d hd k _ h7 m5).1 c4 h
    have z:p.2.tm d=h8.v:=by
     rw[i3]
     refine jny n9 hd fun k e' G c4 h=>?_
     obtain⟨ok,B,J,h5,_⟩:=d0 k e' G
     exact(e8 d hd _ ok J B).1 zO (h5▸h)
    rw[← y,← z]
    exact d2 i ao d d6 b0 O hd
   have H:∀k,k≠i→(f.setIfInBounds i true).getD k false=f.getD k false:=fun k G=>getD_set_ne false (Ne.symm G)
   have e9:∀b8 I' a' w',R E w0 I0 nt b8 I' (St.app { jL (fun i=>f.getD i false) q st with tm:=put (jL (fun i=>f.getD i false) q st).tm X.dst v,ob:=d8,tk:=e5 } ao.dst h8) a' w'→(∀u,¬(x.2+64*(i - (c+1))≤u∧u<x.2+64*(i - (c+1))+64)→b8 u=b5 u) →
    (∀u p,b5 u=some p→b8 u=some p)→(∀b o x,I1 b o=some x→I' b o=some x)→wpAnyIn (FW rn) 0 P .any ops Q F (f.setIfInBounds i true) a' w':=by
    intro b8 I' a' w' g3 i2 o1 n8
    have g1:(f.setIfInBounds i true).getD i false=true:=by simp[d7]
    have b9:=jx q (fun k=>(f.setIfInBounds i true).getD k false) st
    obtain⟨c1,c2⟩:=count_set d7 f7
    obtain⟨b1,b2⟩:=j32 (s:={ jL (fun i=>f.getD i false) q st with tm:=put (jL (fun i=>f.getD i false) q st).tm X.dst v,ob:=d8,tk:=e5 }) (d:=ao.dst) o6 o7
    refine ih (f.setIfInBounds i true) b8 I' a' w' (by simpa using c3) (fun j oj c6 g2 e' f3 hb=>?_) (fun j hj=>by rw[H j zO];exact d5 j hj) (fun j hj=>by rw[H j zO];exact K j hj) zO (g3.congr (funext fun t=>?_) b1.symm b2.symm (b9.2.2.1.trans a0.2.2.1.symm) (b9.2.2.2.trans a0.2.2.2.symm))
     (fun u hu=>by rw[i2 u zO];exact g6 u hu) (fun j y z B u J h5=>?_) (hg.trans o1) (hI.trans n8)
    ·by_cases c5:j=i
     ·subst c5
      rw[ho]at c6
      cases c6
      exact getD_set_true (e7 e' f3 hb)
     ·simp only[H j c5]at g2
      exact getD_set_true (e0 j oj c6 g2 e' f3 hb)
    ·have n1:(jL (fun k=>(f.setIfInBounds i true).getD k false) q st).tm t=if wrT t (ao.dst,g0) then g0.v else (jL (fun i=>f.getD i false) q st).tm t :=
      jc6 (π:=fun s=>s.tm t) (wr:=wrT t) (g:=fun e=>e.2.v) (jab t) q (fun i=>f.getD i false) _ st i (ao.dst,g0) m0 f7 g1 H (fun k e' G n5 _ M=>by
       simp only[wrT,decide_eq_true_eq]at M
       simp only[wrT,decide_eq_false_iff_not]
       intro h
       obtain⟨ok,B,J,h5,_⟩:=g9 k e' zO n5
       exact(e8 t M k ok J B).1 zO (h5▸h))
     show put (jL (fun k=>(f.setIfInBounds i true).getD k false) q st).tm X.dst v t=put (put (jL (fun i=>f.getD i false) q st).tm X.dst v) ao.dst h8.v t
     by_cases y:X.dst=some t
     ·rw[XR (d:=ao.dst) (fun h=>i5 i ao t d6 b0 O h y),y,WK,WK]
     ·rw[XR y,n1]
      by_cases z:ao.dst=some t
      ·rw[if_pos (by simpa[wrT] using z),z,WK]
       exact hv t z
      ·rw[if_neg (by simpa[wrT] using z),XR z,XR y]
    ·have c5:j≠i:=fun e=>by subst e;rw[g1]at B;cases B
     rw[H j c5]at B
     rw[i2 u zO]
     exact i6 j y z B u J h5
   have n0:∀d,o.dst=some d→d<nt:=by rw[← hd1];exact d3 ao (List.mem_of_getElem? O)
   unfold wpOpIn
   simp only[ho]
   have M:=Jr (s:={ jL (fun i=>f.getD i false) q st with tm:=put (jL (fun i=>f.getD i false) q st).tm X.dst v,ob:=d8,tk:=e5 }) (ao:=ao) c9
   have o5:=Xd (E:=E) (s:={ jL (fun i=>f.getD i false) q st with tm:=put (jL (fun i=>f.getD i false) q st).tm X.dst v,ob:=d8,tk:=e5 }) (ao:=ao) c9
   rcases l5 with⟨r1,r2⟩|⟨r1,r2⟩
   ·rw[if_pos (Xn hR N (M.trans r1))]
    have k9:=jx r (fun k=>decide (k<i - (c+1))) x.1
    rw[m6,m2,k9.2.2.1,l1]at r2
    have i8:=r2
    rw[← je8 ao.op (jim U).2.2.2 o5 (fun _ _=>rfl) (fun _ _=>rfl)]at i8
    rw[← a0.2.2.1]at i8
    refine jh5 g5 hR (fun u y z=>i6 i d6 b0 f7 u y z) k6 n0 i8 (fun b8 I' a' w' g3 y z B=>?_)
    rw[← hd1]at g3
    exact e9 b8 I' a' w' g3 y z B
   ·rw[if_neg (by rw[Xn hR N (M.trans r1)];exact Bool.false_ne_true)]
    refine⟨fun _ _=>trivial,?_⟩
    have:=jrr hR n0
    rw[← hd1]at this ⊢
    refine e9 b5 I1 _ _ ?_ (fun _ _=>rfl) (fun _ _ h=>h) (fun _ _ _ h=>h)
    rw[r2]
    exact this
 have H:∀k,k≠c→(f.setIfInBounds c true).getD k false=f.getD k false:=fun k G=>getD_set_ne false (Ne.symm G)
 have i7:c<f.size:=zO
 have k1:∀ {β:Type}{π:St→β}{wr:Eff→Bool}{g:Eff→β},(∀ (s:St) (e:Eff),π (s.app e.1 e.2)=if wr e then g e else π s)→wr (none,{ v:=jq })=false→π (jL (fun k=>(f.setIfInBounds c true).getD k false) q st)=π (jL (fun i=>f.getD i false) q st):=fun o0 hn=>
  X9 o0 q _ _ _ _ (fun k e G M=>H k (fun h=>by subst h;rw[d9]at G;cases G;rw[hn]at M;cases M)) rfl
 obtain⟨c1,c2⟩:=count_set i7 n6
 have b9:=jx q (fun k=>(f.setIfInBounds c true).getD k false) st
 refine g8 F (f.setIfInBounds c true) o2 I2 a2 w2 (by simpa using c3) (fun j oj c6 g2 e' f3 hb=>?_) (fun j hj=>by rw[H j zO];exact d5 j hj) (fun j hj=>?_) zO
  (k8.congr (funext fun t=>?_) rfl rfl (b9.2.2.1.trans a0.2.2.1.symm) (b9.2.2.2.trans a0.2.2.2.symm)) (fun u hu=>i9 u zO) (fun j _ _ _ u y _=>i9 u zO) (SubG.trans hg p3) (SubI.trans hI p1)
 ·by_cases c5:j=c
  ·subst c5
   rw[f2]at c6
   cases c6
   exact getD_set_true (e7 e' f3 hb)
  ·simp only[H j c5]at g2
   exact getD_set_true (e0 j oj c6 g2 e' f3 hb)
 ·by_cases m9:j=c
  ·subst m9;simp[i7]
  ·rw[H j m9];exact K j zO
 ·show put (jL (fun k=>(f.setIfInBounds c true).getD k false) q st).tm X.dst v t=put (jL (fun i=>f.getD i false) q st).tm X.dst v t
  by_cases y:X.dst=some t
  ·rw[y,WK,WK]
  ·rw[XR y,XR y]
   exact k1 (π:=fun s=>s.tm t) (wr:=wrT t) (g:=fun e=>e.2.v) (jab t) rfl
end
section
variable {P:Program}{E:Env}{w0 w:World}{I0:IMap}{nt:Nat}{γ:Nat→Option Place}{I:IMap}{st:St}{a:Act}
theorem Sh.congr {st st':St}(h:Sh E w0 I0 γ I st w) (d:st'.ob=st.ob) (c:st'.tk=st.tk) (b:st'.ro=st.ro):Sh E w0 I0 γ I st' w :=
 ⟨h.imm,h.gl,(let ⟨Ω,ho⟩:=h.own;⟨Ω,⟨by rw[d,b];exact ho.ob,by rw[c];exact ho.tk,ho.lt⟩⟩),h.fr,h.old⟩
theorem Sh.alloc (h:Sh E w0 I0 γ I st w) {ub d:Nat}(F:γ ub=none) {obj:Obj}{body:OBody}{k:Kd}(J:ObjOk γ I st.ob w.heap k (some obj) body) :
 Sh E w0 I0 (upd γ ub (some (.obj w.heap.size k))) I { st with ob:=upd st.ob d (some ⟨ub,body⟩) } (w.alloc obj):=by
 have r:=WD (f:=γ) (k:=ub) (v:=Place.obj w.heap.size k) F
 obtain⟨G,m⟩:=h.own
 have i:=jgi (w:=w) (ob:=st.ob) (obj:=obj) (d:=d) (body:=body) F
 refine⟨fun b S Q c=>?_,h.gl,⟨upd G w.heap.size (some (.ob d)),⟨fun l ob o=>?_,fun u K=>?_,fun b O c=>?_⟩⟩,?_,h.old⟩
 ·rw[World.cell?_alloc_lt]
  ·exact h.imm _ _ _ c
  ·exact World.block_lt_of_cell? _ _ (h.imm _ _ _ c)
 ·have L:∀j,I w.heap.size j=none:=by
   intro j
   cases M:I w.heap.size j with
   | none=>rfl
   | some y=>exact absurd (World.block_lt_of_cell? _ _ (h.imm _ _ _ M)) (Nat.lt_irrefl _)
  simp only[j3]at o
  split at o
  ·rename_i p
   subst p
   simp only[Option.some.injEq]at o
   subst o
   refine⟨w.heap.size,k,zS,zS,fun _=>h.fr.size,?_,L⟩
   rw[heap_alloc_new]
   exact(J.keep i).mono r (fun _ _ _ h=>h)
  ·rename_i p
   obtain⟨b,N,s,q,B,D,x⟩:=m.ob l ob o
   have g:=m.lt b _ q
   refine⟨b,N,r _ _ s,?_,B,?_,x⟩
   ·rw[J9 _ _ (Nat.ne_of_lt g)];exact q
   ·rw[heap_alloc_old _ _ _ g];exact(D.keep i).mono r (fun _ _ _ h=>h)
 ·obtain⟨b,n,z,H,s,q,B,D,x⟩:=m.tk u K
  have g:=m.lt b _ q
  refine⟨b,n,z,H,r _ _ s,?_,B,?_,x⟩
  ·rw[J9 _ _ (Nat.ne_of_lt g)];exact q
  ·rw[heap_alloc_old _ _ _ g];exact D
 ·rw[j3]at c
  simp only[World.size_alloc]
  split at c
  ·rename_i e;omega
  ·have:=m.lt b _ c;omega
 ·exact Grow.frame h.fr ⟨rfl,rfl,rfl,zS,fun k t _=>heap_alloc_old _ _ _ t,fun k t=>t.elim⟩ (T:=fun _=>False)
theorem Sh.turn (h:Sh E w0 I0 γ I st w) {l u b:Nat}{k:Kd}{body:OBody}(hl:st.ob l=some ⟨u,body⟩) (hu:γ u=some (.obj b k)) (D:Nat.ble st.ro u=true) {ob':ZO}{o':Obj}
 (y:∀j x,ob' j=some x→(j≠l∧st.ob j=some x)∨(j=l∧x.uid=u∧ObjOk γ I st.ob w.heap k (some o') x.body∧∀v es,x.body≠.mp v es)) :
 Sh E w0 I0 γ I { st with ob:=ob' } (w.putObj b o'):=by
 obtain⟨Ω,r⟩:=h.own
 obtain⟨b',k',Q,t,h3,_,h5⟩:=r.ob l _ hl
 rw[hu]at Q
 cases Q
 have H:=r.lt _ _ t
 have f:Xm γ st.ob ob' w.heap (w.putObj b o').heap:=by
  intro j S X a0 mb mk p d
  rcases y _ _ d with⟨g,d⟩|⟨_,_,_,O⟩
  ·refine .inl ⟨d,fun m c hm=>?_⟩
   obtain⟨b2,Z,s,i,_⟩:=r.ob j _ d
   rw[p]at s
   cases s
   rw[World.putObj_heap_other (fun e=>by
    subst e
    rw[t]at i
    cases i
    exact g rfl)]
   exact hm
  ·exact absurd rfl (O _ _)
 refine⟨fun b2 o2 x F=>?_,h.gl,⟨Ω,⟨fun j x d=>?_,fun S p=>?_,fun b2 ow M=>?_⟩⟩,?_,h.old⟩
 ·have g:b2≠b:=fun e=>by rw[e,h5]at F;cases F
  rw[World.cell?_of_block (w:=w) (w':=w.putObj b o') (a:=⟨b2,o2,none⟩) (World.putObj_heap_other g)]
  exact h.imm _ _ _ F
 ·rcases y _ _ d with⟨g,z⟩|⟨rfl,B,q,_⟩
  ·obtain⟨b2,Z,s,i,N,K,J⟩:=r.ob j x z
   have o:b2≠b:=fun e=>by
    subst e
    rw[t]at i
    cases i
    exact g rfl
   exact⟨b2,Z,s,i,N,by rw[World.putObj_heap_other o];exact K.keep f,J⟩
  ·refine⟨b,k,by rw[B];exact hu,t,fun U=>h3 (by rw[B]at U;exact U),?_,h5⟩
   rw[World.putObj_heap_same H]
   exact q.keep f
 ·obtain⟨b2,n,L,sz,s,i,N,K,J⟩:=r.tk S p
  have o:b2≠b:=fun e=>by subst e;rw[t]at i;cases i
  exact⟨b2,n,L,sz,s,i,N,by rw[World.putObj_heap_other o];exact K,J⟩
 ·rw[World.putObj_size]
  exact r.lt _ _ M
 ·exact Grow.frame h.fr (T:=fun k=>k=b) ⟨rfl,rfl,rfl,zS,fun k _ G=>World.putObj_heap_other G,fun k G=>G▸h3 (by simpa[Nat.ble_eq] using D)⟩
theorem jf8 (h:Sh E w0 I0 γ I st w) {l u b:Nat}{k:Kd}{body:OBody}(d:st.ob l=some ⟨u,body⟩) (g:γ u=some (.obj b k)):ObjOk γ I st.ob w.heap k w.heap[b]? body:=by
 obtain⟨n,e⟩:=h.own
 obtain⟨i,o,c,m,j,f,p⟩:=e.ob l _ d
 rw[g]at c
 cases c
 exact f
theorem jiu:∀ (ps:List Nat) (vs:List V) (xs:List Value) (T:Array Value) (tm:Nat→V),xs.length=vs.length→vs.length=ps.length→(∀p∈ps,p<T.size)→(∀t,Rep γ I (T.getD t undef) (tm t)) →
 (∀ (j:Nat) (x:Value) (v:V),xs[j]? = some x→vs[j]? = some v→Rep γ I x v) →
 ((ps.zip xs).foldl (fun tmps (t,a)=>tmps.setIfInBounds t a) T).size=T.size∧∀t,Rep γ I (((ps.zip xs).foldl (fun tmps (t,a)=>tmps.setIfInBounds t a) T).getD t undef) (jdo tm ps vs t)
 | [],[],[],T,tm,_,_,_,hT,_=>⟨rfl,hT⟩
 | p::ps,v::vs,x::xs,T,tm,h1,h2,hp,hT,hx=>by
  simp only[List.zip_cons_cons,List.foldl_cons,jdo]
  have c:=hp p (List.mem_cons_self ..)
  have:=jiu ps vs xs (T.setIfInBounds p x) (upd tm p v) (by simpa using h1) (by simpa using h2) (fun q f=>by rw[Array.size_setIfInBounds];exact hp q (List.mem_cons_of_mem _ f)) (fun t=>?_) (fun j y u g d=>hx (j+1) y u (by simpa using g) (by simpa using d))
  ·rw[Array.size_setIfInBounds]at this
   exact this
  ·by_cases b:t=p
   ·subst b
    simp only[Yc]
    have:(T.setIfInBounds t x).getD t undef=x:=by simp[c]
    rw[this]
    exact hx 0 x v rfl rfl
   ·rw[J9 _ _ b]
    have:(T.setIfInBounds p x).getD t undef=T.getD t undef:=by
     simp[Array.getElem?_setIfInBounds_ne (fun e=>b e.symm)]
    rw[this]
    exact hT t
 | [],_::_,_,_,_,_,h,_,_,_=>by simp at h
 | _::_,[],_,_,_,_,h,_,_,_=>by simp at h
 | [],[],_::_,_,_,h,_,_,_,_=>by simp at h
 | _::_,_::_,[],_,_,h,_,_,_,_=>by simp at h
end
theorem jgw {d e:Type}{f:d→Option (List e)}:∀ {l:List d}{r:List e},Qe f l=some r→∀y∈r,∃x∈l,∃c,f x=some c∧y∈c
 | [],r,h,y,hy=>by cases h;cases hy
 | [x'],r,h,y,hy=>⟨x',List.mem_singleton.2 rfl,r,h,hy⟩
 | x'::y'::l,r,h,y,hy=>by
  simp only[Qe]at h
  obtain⟨a,g,h⟩:=bind_some h
  obtain⟨b,j,rfl⟩:=map_some h
  rcases List.mem_append.1 hy with hy|hy
  ·exact⟨x',List.mem_cons_self ..,a,g,hy⟩
  ·obtain⟨x,m,c,i,k⟩:=jgw j y hy
   exact⟨x,List.mem_cons_of_mem _ m,c,i,k⟩
theorem jbb {a b:Type}{m:Option (List a)}{f:a→Option (List b)}{r:List b}(h:bindL m f=some r):∃l,m=some l∧∀y∈r,∃x∈l,∃c,f x=some c∧y∈c:=by
 obtain⟨l,d,h⟩:=bind_some h
 exact⟨l,d,jgw h⟩
section
variable {E:Env}
theorem jq1 {b:Callers}{o:AOpr}{st:St}{ub:Nat}{l:List (St × Nat)}(h:jb8 E b o st ub=some l):∀x∈l,x.1.ro=st.ro:=by
 intro x a
 unfold jb8 at h
 split at h
 ·split at h
  ·obtain⟨_,_,rfl⟩:=map_some h
   rw[List.mem_singleton]at a;subst a;rfl
  ·split at h
   ·split at h
    ·obtain⟨_,_,rfl⟩:=map_some h
     obtain⟨_,_,rfl⟩:=List.mem_map.1 a
     rfl
    ·obtain⟨_,_,rfl⟩:=map_some h
     rw[List.mem_singleton]at a;subst a;rfl
   ·split at h
    ·obtain⟨_,_,rfl⟩:=map_some h
     obtain⟨_,_,rfl⟩:=List.mem_map.1 a
     rfl
    ·obtain⟨_,_,rfl⟩:=map_some h
     rw[List.mem_singleton]at a;subst a;rfl
 ·cases h
  rw[List.mem_singleton]at a;subst a;rfl
 ·cases h
theorem jr2 {a:Callers}:∀ {ops:List AOpr}{st:St}{ub:Nat}{l:List St},jhh E a ops st ub=some l→∀x∈l,x.ro=st.ro
 | [],st,ub,l,h,x,hx=>by
  cases h
  rw[List.mem_singleton]at hx;subst hx;rfl
 | o::r,st,ub,l,h,x,hx=>by
  simp only[jhh]at h
  obtain⟨i,b,d⟩:=jbb h
  obtain⟨p,e,g,c,f⟩:=d x hx
  rw[jr2 c x f,jq1 b p e]
theorem WS {b:Callers}:∀ {ops:List AOpr}{st:St}{ub:Nat}{p:List FP × St},Y4 E b ops st ub=some p→p.2.ro=st.ro
 | [],st,ub,p,h=>by cases h;rfl
 | o::r,st,ub,p,h=>by
  unfold Y4 at h
  split at h
  ·split at h
   ·split at h
    ·split at h
     ·obtain⟨c,_,h⟩:=bind_some h
      obtain⟨q,a,rfl⟩:=map_some h
      have:=WS a
      exact this
     ·obtain⟨c,_,h⟩:=bind_some h
      obtain⟨q,a,rfl⟩:=map_some h
      have:=WS a
      exact this
    ·obtain⟨c,_,h⟩:=bind_some h
     obtain⟨q,a,rfl⟩:=map_some h
     have:=WS a
     exact this
   ·split at h
    ·cases h
    ·obtain⟨c,_,h⟩:=bind_some h
     obtain⟨q,a,rfl⟩:=map_some h
     have:=WS a
     exact this
  ·obtain⟨q,a,rfl⟩:=map_some h
   have:=WS a
   exact this
  ·cases h
theorem jh1 {u:Y→Callers}{y:Y}{N:Nat}:∀ (c:C) {st:St}{l:List (Ex × St)},jW E u y N c st=some l→∀x∈l,x.2.ro=st.ro:=by
 intro c
 induction c with
 | skip=>intro st l h x d;cases h;rw[List.mem_singleton]at d;subst d;rfl
 | ret=>intro st l h x d;cases h;rw[List.mem_singleton]at d;subst d;rfl
 | exit id=>intro st l h x d;cases h;rw[List.mem_singleton]at d;subst d;rfl
 | stuck=>intro st l h;cases h
 | region H=>
  intro st l h x d
  simp only[jW]at h
  obtain⟨B,j,rfl⟩:=map_some h
  obtain⟨s,m,rfl⟩:=List.mem_map.1 d
  exact jr2 j s m
 | pin o fs=>
  intro st l h x d
  simp only[jW]at h
  obtain⟨B,j,t⟩:=jbb h
  obtain⟨p,v,I,k,g⟩:=t x d
  obtain⟨q,L,J⟩:=bind_some k
  simp only[Option.ite_none_right_eq_some,Option.some.injEq]at J
  obtain⟨_,rfl⟩:=J
  rw[List.mem_singleton]at g;subst g
  exact(WS L).trans (jq1 j p v)
 | draw H K=>
  intro st l h x d
  simp only[jW]at h
  obtain⟨p,j,t⟩:=bind_some h
  simp only[Option.ite_none_right_eq_some,Option.some.injEq]at t
  obtain⟨_,rfl⟩:=t
  rw[List.mem_singleton]at d;subst d
  exact WS j
 | seq a b w z=>
  intro st l h x d
  simp only[jW]at h
  obtain⟨B,j,t⟩:=jbb h
  obtain⟨p,v,I,k,g⟩:=t x d
  obtain⟨e,s⟩:=p
  have m:=w j _ v
  cases e with
  | nrm=>exact(z k x g).trans m
  | exit i=>cases k;rw[List.mem_singleton]at g;subst g;exact m
  | ret=>cases k;rw[List.mem_singleton]at g;subst g;exact m
 | cond q a b w z=>
  intro st l h x d
  simp only[jW]at h
  split at h
  ·exact w h x d
  ·exact z h x d
  ·cases h
 | block id a F=>
  intro st l h x d
  simp only[jW]at h
  obtain⟨B,j,rfl⟩:=map_some h
  obtain⟨p,v,rfl⟩:=List.mem_map.1 d
  have:=F j p v
  obtain⟨e,s⟩:=p
  cases e with
  | nrm=>exact this
  | ret=>exact this
  | exit i=>
   simp only
   split <;> exact this
 | loop a F=>
  intro st l h x d
  simp only[jW]at h
  have D:∀ (n:Nat) (st:St) (l:List (Ex × St)),jay (jW E u y N a) n st=some l→∀x∈l,x.2.ro=st.ro:=by
   intro n
   induction n with
   | zero=>intro st l h;cases h
   | succ n G=>
    intro st l h x d
    simp only[jay]at h
    obtain⟨B,j,t⟩:=jbb h
    obtain⟨p,v,I,k,g⟩:=t x d
    obtain⟨e,s⟩:=p
    have m:=F j _ v
    cases e with
    | nrm=>exact(G s I k x g).trans m
    | exit i=>cases k;rw[List.mem_singleton]at g;subst g;exact m
    | ret=>cases k;rw[List.mem_singleton]at g;subst g;exact m
  exact D N st l h x d
 | rangeFunc f P a b=>
  intro st l h x d
  simp only[jW]at h
  split at h
  case h_2=>cases h
  obtain⟨p,_,h⟩:=bind_some h
  obtain⟨r,ob,O,M⟩:=p
  simp only at h
  split at h
  case h_2=>cases h
  simp only[Option.ite_none_right_eq_some,Option.some.injEq]at h
  obtain⟨_,rfl⟩:=h
  rw[List.mem_singleton]at d;subst d;rfl
end
section
variable {P:Program}{E:Env}{nt:Nat}{γ:Nat→Option Place}{I:IMap}{w0:World}{I0:IMap}{call:Callers}{st:St}{ub:Nat}{a:Act}{w:World}{ops:Array Oper}{als:List AOpr}{free:List (Nat × Nat)}{fps:List FP}
theorem mid_ok {m:Bool}{rn:Option Nat}{γ0:Nat→Option Place}{Iy:IMap}{Q:Exit→Act→World→Prop}{c:Nat}{ac:AOpr}{S:St}{e1:List St}(T:jss ops als c=true) (b0:als[c]? = some ac)
 (c0:COk P E γ0 Iy call) (g5:SubG γ0 γ) (h6:SubI Iy I) (K:ops.toList.mapM (JU P m ops)=some als) (B:Xv ops als=some free) (X:∀ao∈als,∀d,ao.dst=some d→d<nt)
 (hd:Y4 E call (als.take c) st ub=some (fps,S)) (f1:Jw free fps=true) (h9:Qo fps=true) (hl:jhh E call [ac] S S.nx=some e1)
 (hx:∀s1∈e1,∃p,Y4 E call (List.replicate (c+1) jhm++als.drop (c+1)) s1 s1.nx=some p∧Jw free p.1=true∧Qo p.1=true∧Nice E w0 I0 nt γ I p.2 p.2.nx (fun a w=>Q .normal a w))
 (hR:R E w0 I0 nt γ I st a w) (hf:∀u,ub≤u→γ u=none):wpAnyIn (FW rn) 0 P .any ops Q ops.size (Array.replicate ops.size false) a w:=by
 obtain⟨N,d6⟩:=js K
 have N:als.length=ops.size:=by rw[N,Array.length_toList]
 obtain⟨y,e8⟩:=Xl B N
 have i6:c<als.length:=(List.getElem?_eq_some_iff.1 b0).1
 unfold jss at T
 simp only[Bool.and_eq_true,b0]at T
 obtain⟨⟨⟨_,U⟩,e6⟩,_⟩:=T
 have U:∀i,i<c→((J8 ops.toList []).getD c 0).testBit i=true:=fun i z=>List.all_eq_true.1 U i (List.mem_range.2 z)
 have b8:∀j,c<j→j<ops.size→∀i,i≤c→((J8 ops.toList []).getD j 0).testBit i=true:=by
  intro j F h2 i z
  have:=List.all_eq_true.1 e6 j (List.mem_range.2 zO)
  have f4:Nat.ble j c=false:=by
   cases h:Nat.ble j c with
   | false=>rfl
   | true=>have:=Nat.le_of_ble_eq_true h;omega
  rw[f4,Bool.false_or,Bool.and_eq_true]at this
  exact List.all_eq_true.1 this.1 i (List.mem_range.2 zO)
 have M:∀i d,(Array.replicate ops.size false).getD i d=if i<ops.size then false else d:=by
  intro i d
  by_cases z:i<ops.size <;> simp[z]
 have k:∀ (f:Array Bool) (i:Nat),i<f.size→f.getD i true=f.getD i false:=by
  intro f i z
  simp[z]
 obtain⟨b9,g4,rfl⟩:=XI _ _ _ _ _ hd
 have d1:jL (fun i=>(Array.replicate ops.size false).getD i false) b9 st=st:=by
  have:(fun i=>(Array.replicate ops.size false).getD i false)=fun _=>false:=funext fun i=>by rw[M];split <;> rfl
  rw[this]
  exact Xk _ _
 have c9:(als.take c).length=c:=by rw[List.length_take];omega
 refine je9 (bb:=false) (w0:=w0) (I0:=I0) (kk:=c) (al':=als.take c) (sp:=fun _=>false) zO c9 (fun i ao z _ h=>by rw[List.getElem?_take,if_pos z];exact h) (fun _ _ h=>by cases h)
  (fun j F h2 i h3=>?_) c0 K B g4 f1 h9 X (γ:=γ) (I:=I) (fun _ _ _ _ _ _ _ h=>by cases h) (fun i5 I' a' w' n f i0 hm _ i3 f0 h8 e2 c7=>?_) ops.size (Array.replicate ops.size false) γ I a w zS
  (fun j o O G=>?_) (fun j G=>by rw[M];split <;> rfl) (fun _ h=>by cases h) zS (by rw[d1];exact hR) (fun u hu=>hf u zO) (fun j G u F h2=>hf u zO) (fun _ _ h=>h) (fun _ _ _ h=>h)
 ·rcases Nat.lt_or_eq_of_le F with h|h
  ·exact b8 j h h2 i zO
  ·subst h
   exact U i h3
 rotate_left
 ·simp only[M]at G
  split at G <;> cases G
 -- the call
 have c1:c<ops.size:=zO
 have Z:c<f.size:=zO
 have g0:jcs ops (fun i=>f.getD i false):=by
  intro i o O hd e he hb
  simp only[hm,decide_eq_true_eq]at hd ⊢
  have:=y i o O e he hb
  omega
 have d4:∀i,i∈Region.ready .any ops f→i=c:=by
  intro i z
  obtain⟨h0,o,O,h7⟩:=mem_ready.1 z
  have f2:i<ops.size:=(Array.getElem?_eq_some_iff.1 O).1
  rw[k f i zO,hm i]at h0
  have F:c≤i:=by simpa using h0
  rcases Nat.lt_or_eq_of_le F with h|h
  ·have:=YM (D:=fun i=>f.getD i false) y g0 O h7 (b8 i h zO c zR)
   simp only[hm,decide_eq_true_eq]at this
   omega
  ·exact h.symm
 have g2:c∈Region.ready .any ops f:=mem_ready.2 ⟨by rw[k f c Z,hm c];simp,ops[c],Array.getElem?_eq_getElem c1,fun e he hb=>by
  have:=y c _ (Array.getElem?_eq_getElem c1) e he hb
  rw[hm e.on]
  exact decide_eq_true this⟩
 have L:=List.mem_of_getElem? b0
 have O:=Array.getElem?_eq_getElem c1
 generalize ops[c]=o at O
 have a0:JU P m ops o=some ac:=d6 c o ac (by rw[Array.getElem?_toList];exact O) b0
 have d7:f[c]? = some false:=by
  have F:=hm c
  rw[Array.getElem?_eq_getElem Z]
  simp only[Array.getD_eq_getD_getElem?,Array.getElem?_eq_getElem Z,Option.getD_some]at F
  rw[F]
  simp
 cases n with
 | zero=>
  have L:false∈f.toList:=Array.mem_toList_iff.2 (Array.mem_of_getElem? d7)
  have:=List.count_pos_iff.2 L
  omega
 | succ n=>
 refine⟨(fun hr=>absurd (hr▸g2) List.not_mem_nil),fun i z=>?_⟩
 rw[d4 i z]
 unfold wpOpIn
 simp only[O]
 simp only[jhh]at hl
 obtain⟨l,hl,g1⟩:=JV hl
 refine jg0 c0 (g5.trans e2) (h6.trans c7) (f0.congr (st':={ jL (fun _=>true) b9 st with nx:=ub+64*(als.take c).length }) rfl rfl rfl rfl rfl) (fun u hu=>h8 u (by rw[c9]at hu;exact hu)) a0 (by rw[← (XJ a0).1];exact X ac L) hl (fun x i2=>?_)
 obtain⟨rx,d3,c6⟩:=g1 x i2
 simp only[Option.some.injEq]at d3
 subst d3
 obtain⟨p,hp,e7,e0,e3⟩:=hx _ (c6 _ (List.mem_singleton.2 rfl))
 intro d2 I2 a2 w2 e9 d5 g8 g3
 simp only at hp
 obtain⟨i4,S2⟩:=p
 obtain⟨q,J,rfl⟩:=XI _ _ _ _ _ hp
 simp only at e7 e0 e3
 have c2:(f.setIfInBounds c true).toList.count false≤n:=by
  have hg:f.toList[c]? = some false:=by rw[Array.getElem?_toList];exact d7
  have d0:c<f.toList.length:=by simpa using Z
  rw[Array.toList_setIfInBounds,List.count_set d0]
  rw[List.getElem?_eq_getElem d0]at hg
  simp only[Option.some.injEq]at hg
  rw[hg]
  simp only[beq_self_eq_true,if_true]
  have:(true == false)=false:=rfl
  rw[this]
  simp only[Bool.false_eq_true,if_false]
  omega
 have b5:∀i,(f.setIfInBounds c true).getD i false=decide (i≤c):=by
  intro i
  by_cases e4:i=c
  ·subst e4
   simp[Z]
  ·rw[getD_set_ne false (Ne.symm e4),hm i]
   exact decide_eq_decide.2 ⟨fun h=>by omega,fun h=>by omega⟩
 have e5:(f.setIfInBounds c true).size=ops.size:=by simpa using i0
 generalize f.setIfInBounds c true=listed2 at *
 -- what is behind it
 have c3:(List.replicate (c+1) jhm++als.drop (c+1)).length=als.length:=by simp;omega
 have i7:q.length=als.length:=J.len.trans c3
 have d9:∀i,i≤c→q[i]? = some (none,{ v:=jq }):=by
  intro i z
  obtain⟨δ,fp,F,h2,h3⟩:=J.at' i jhm (by rw[List.getElem?_append_left (by simp;omega),List.getElem?_replicate,if_pos zO])
  have:δ = { v:=jq }:=by
   obtain⟨h4,_⟩:=jad h3 rfl
   rcases h4 with⟨_,h4⟩|⟨h4,h5⟩
   ·cases h4;rfl
   ·exact h5
  rw[F,this];rfl
 have H:∀ {β:Type}{π:St→β}{wr:Eff→Bool}{g:Eff→β}(s0:St),(∀ (s:St) (e:Eff),π (s.app e.1 e.2)=if wr e then g e else π s)→wr (none,{ v:=jq })=false →
  π (jL (fun i=>listed2.getD i false) q s0)=π s0:=by
  intro β π wr g s0 f5 hw
  have:=X9 f5 q (fun i=>listed2.getD i false) (fun _=>false) s0 s0 (fun i e he c8=>?_) rfl
  ·rw[this,Xk]
  ·rw[b5]
   by_cases c5:i≤c
   ·rw[d9 i c5]at he
    cases he
    rw[hw]at c8
    cases c8
   ·exact decide_eq_false c5
 have b6:=jx q (fun i=>listed2.getD i false) { x.1 with nx:=x.2 }
 refine je9 (bb:=true) (w0:=w0) (I0:=I0) (kk:=als.length) (al':=List.replicate (c+1) jhm++als.drop (c+1)) (sp:=fun i=>decide (i≤c)) zR c3 (fun i ao z hs h=>?_) (fun i _ h=>d9 i (of_decide_eq_true h))
  (fun j F h2 i h3=>by omega) c0 K B J e7 e0 X (γ:=d2) (I:=I2) (fun i n f d8 I3 a3 w3 i1 _ b7 _ _ c4 _ _ _ _ _ f3=>?_) (fun d8 I3 a3 w3 n f b7 f9 _ _ g9 g6 f7 f8=>?_) n listed2 d2 I2 a2 w2 e5
  (fun j oj g7 G e he hb=>?_) (fun j G=>?_) (fun j G=>?_) c2 ?_ (fun u hu=>d5 u zO) (fun j G u F h2=>d5 u zO) (fun _ _ h=>h) (fun _ _ _ h=>h)
 ·have F:¬ i≤c:=of_decide_eq_false hs
  rw[List.getElem?_append_right (by simp;omega),List.length_replicate,List.getElem?_drop,show c+1+(i - (c+1))=i by omega]
  exact h
 ·obtain⟨h0,o3,f6,_⟩:=mem_ready.1 f3
  have:i<f.size:=by rw[b7];exact(Array.getElem?_eq_some_iff.1 f6).1
  rw[k f i this,c4 i i1]at h0
  cases h0
 ·have hr:Region.ready .any ops f=[]:=by
   cases hr:Region.ready .any ops f with
   | nil=>rfl
   | cons i r=>
    have z:i∈Region.ready .any ops f:=by rw[hr];exact List.mem_cons_self ..
    obtain⟨h0,o,O,_⟩:=mem_ready.1 z
    have f2:i<ops.size:=(Array.getElem?_eq_some_iff.1 O).1
    rw[k f i zO,f9 i,decide_eq_true zO]at h0
    cases h0
  have hQ:=e3 d8 I3 a3 w3 (g9.congr rfl rfl rfl rfl rfl) (fun u hu=>g6 u (by simp only[c3]at hu;exact hu)) (fun u p h=>f7 u p (g8 u p (e2 u p h))) (fun b o x h=>f8 b o x (g3 b o x (c7 b o x h)))
  cases n with
  | zero=>exact⟨hr,hQ⟩
  | succ n=>exact⟨fun _=>hQ,fun i z=>by rw[hr]at z;cases z⟩
 ·simp only[b5,decide_eq_true_eq]at G ⊢
  have:=y j oj g7 e he hb
  omega
 ·rw[b5]
  exact decide_eq_false zO
 ·rw[b5]
  exact G
 ·refine e9.congr (funext fun t=>?_) (funext fun l=>?_) (funext fun u=>?_) ?_ ?_
  ·exact H (π:=fun s=>s.tm t) (wr:=wrT t) (g:=fun e=>e.2.v) _ (jab t) rfl
  ·exact H (π:=fun s=>s.ob l) (wr:=wrO l) (g:=fun e=>JK (fun _=>none) e.2.obs l) _ (jcf l) rfl
  ·exact H (π:=fun s=>s.tk u) (wr:=wrK u) (g:=fun e=>e.2.add.contains u) _ (jfl u) rfl
  ·exact b6.2.2.1
  ·exact b6.2.2.2
end
def exOf:Ex→Exit
 | .nrm=>.normal
 | .exit id=>.exit id
 | .ret=>.ret
section
variable {P:Program}{E:Env}{nt:Nat}{call:Y→Callers}
def juw (P:Program) (E:Env) (nt:Nat) (call:Y→Callers) (y:Y) (N:Nat) (γ0:Nat→Option Place) (Iy:IMap) (c:Code) (ac:C) (rn:Option Nat):Prop :=
 ∀ (w0:World) (I0:IMap) (Q:Exit→Act→World→Prop) (st:St) (l:List (Ex × St)) (γ:Nat→Option Place) (I:IMap) (a:Act) (w:World),SubG γ0 γ→SubI Iy I →
  jW E call y N ac st=some l→R E w0 I0 nt γ I st a w→(∀u,st.nx≤u→γ u=none)→(∀x∈l,Nice E w0 I0 nt γ I x.2 x.2.nx (fun a w=>Q (exOf x.1) a w))→c.wpIn (FW rn) 0 P Q a w
theorem jrh {y:Y}{N:Nat}{γ0 o:Nat→Option Place}{Iy I1:IMap}{asg bd:C}{ca cb:Code}{st:St}{L lb ub:Nat}{rec:Loop}{ps:Array Nat}
 (ha:juw P E nt call y N γ0 Iy ca asg (some L)) (hb:juw P E nt call y N γ0 Iy cb bd (some L)) (hg:SubG γ0 o) (hI:SubI Iy I1) (hu:o ub=some (.obj L (.lp rec)))
 (e6:∀t,Rep o I1 (rec.tmps.getD t undef) (st.tm t)) (c9:rec.tmps.size=nt) (c7:rec.params=ps) (d7:∀p∈ps.toList,p<nt) (e5:rec.assign=ca) (e0:rec.body=cb) :
 YOk P E o I1 (QW (jW E call y N asg) (jW E call y N bd) st ps.toList lb ub):=by
 intro l' u' args f7 f2 f6 d5 r ob' c3 b0 d
 unfold QW at d
 simp only[Option.ite_none_right_eq_some]at d
 obtain⟨⟨f4,e4,B,a0⟩,d⟩:=d
 subst l'
 subst u'
 split at d
 case h_2=>cases d
 rename_i u1 d0
 simp only[Option.ite_none_right_eq_some]at d
 obtain⟨e4,d⟩:=d
 subst u1
 split at d
 case h_2=>cases d
 rename_i s1 c0
 split at d
 case h_2=>cases d
 rename_i u2 G
 simp only[Option.ite_none_right_eq_some]at d
 obtain⟨f3,d⟩:=d
 subst u2
 split at d
 case h_2=>cases d
 rename_i e s2 c1
 split at d
 case h_2=>cases d
 rename_i u3 J
 simp only[Option.ite_none_right_eq_some]at d
 obtain⟨f8,d⟩:=d
 subst u3
 intro w0 w I0 I γ Z sx b k l O b7 b5 b6 c8 d9 d1 U d2
 rw[l _ _ hu]at d2
 cases d2
 subst b7
 subst b5
 subst b6
 have K:=l _ _ hu
 obtain⟨r0,n,Q⟩:=jf8 c8 d0 K
 cases n
 have d3:=run_yield (P:=P) (args:=Z) Q (by show Z.size=rec.params.size;rw[c7,d1,B];simp)
 refine⟨_,_,_,_,d3,?_⟩
 simp only[e5,e0]
 have b8:∀p∈ps.toList,p<rec.tmps.size:=by rw[c9];exact d7
 have H:=jiu (γ:=γ) (I:=I) ps.toList args Z.toList rec.tmps st.tm (by simpa using d1) B b8 (fun t=>(e6 t).mono l O) (fun j x v f hv=>U j x v (by simpa using f) hv)
 have X:(rec.params.zip Z).foldl (fun tmps (t,a)=>tmps.setIfInBounds t a) rec.tmps=(ps.toList.zip Z.toList).foldl (fun tmps (t,a)=>tmps.setIfInBounds t a) rec.tmps:=by
  rw[c7,← Array.foldl_toList,Array.toList_zip]
 refine roundIn_of_wpIn trivial ?_
 show Code.wpIn (FW (some L)) 0 P _ _ _ _
 have e9:R E w0 I0 nt γ I { tm:=jdo st.tm ps.toList args,ob:=sx.ob,tk:=sx.tk,ro:=sx.ro,nx:=d5,fb:=st.fb,df:=[] } { tmps:=(rec.params.zip Z).foldl (fun tmps (t,a)=>tmps.setIfInBounds t a) rec.tmps,defers:=[] } w:=by
  rw[X]
  exact⟨H.1.trans c9,trivial,H.2,c8.congr rfl rfl rfl⟩
 refine ha w0 I0 _ _ _ γ I _ w (hg.trans l) (hI.trans O) c0 e9 d9 (fun x f=>?_)
 rw[List.mem_singleton]at f
 subst f
 intro c5 I2 a2 w2 i e7 S b9
 -- the round begins
 have g:=S _ _ K
 obtain⟨r0,n,u⟩:=jf8 i.sh G g
 cases n
 have d4:=run_beginRound (P:=P) u rfl
 refine⟨_,d4,?_⟩
 show Code.wpIn (FW (some L)) 0 P _ _ _ _
 have z:s1.ro=sx.ro:=jh1 _ c0 _ (List.mem_singleton.2 rfl)
 have c2:=i.sh.turn (ob':=upd s1.ob lb (some ⟨ub,.loop .busy none⟩)) (o':=.loop { rec with state:=.busy,pending:=none }) G g (by rw[z];exact a0) (fun l2 x f=>by
  rw[j3]at f
  split at f
  ·rename_i M;subst M;cases f;exact .inr ⟨rfl,rfl,⟨rec,rfl,rfl⟩,fun _ _ h=>by cases h⟩
  ·rename_i M;exact .inl ⟨M,f⟩)
 have e8:R E w0 I0 nt c5 I2 { s1 with ob:=upd s1.ob lb (some ⟨ub,.loop .busy none⟩) } a2 (w2.putObj L (.loop { rec with state:=.busy,pending:=none })):=⟨i.sz,i.df,i.tm,c2⟩
 refine hb w0 I0 _ _ _ c5 I2 _ _ ((hg.trans l).trans S) ((hI.trans O).trans b9) c1 e8 e7 (fun x f=>?_)
 rw[List.mem_singleton]at f
 subst f
 intro f0 I3 a3 w3 c4 d8 c6 f1
 have m:=c6 _ _ g
 obtain⟨r0,n,q⟩:=jf8 c4.sh J m
 cases n
 have F:s2.ro=sx.ro:=(jh1 _ c1 _ (List.mem_singleton.2 rfl)).trans z
 -- the round ends
 have T:∀ (c:Option Ex) (s:LS),lsOf s=(if (c.map Qb).isNone then .ready else .done)→some (V.bool (c.map Qb).isNone,upd s2.ob lb (some ⟨ub,.loop s c⟩),s2.tk,s2.nx)=some (r,ob',c3,b0) →
  ∃v w',(Instr.endRound L (c.map Qb)).run P w3=.ok v w'∧W9 E w0 I0 γ I sx.ro r ob' c3 b0 (.returned v) w':=by
  intro c s hs he
  cases he
  have d6:=run_endRound (P:=P) (c.map Qb) q
  refine⟨_,_,d6,.bool (c.map Qb).isNone,f0,I3,rfl,fun f5 e1 e2 e3=>?_,.pure _ _ (.bool _),SubG.trans S c6,SubI.trans b9 f1,d8⟩
  have D:=c4.sh.turn (ob':=upd s2.ob lb (some ⟨ub,.loop s c⟩)) (o':=.loop { rec with state:=lsOf s,pending:=c.map Qb }) J m (by rw[F];exact a0) (fun l2 x f=>by
   rw[j3]at f
   split at f
   ·rename_i M;subst M;cases f;exact .inr ⟨rfl,rfl,⟨rec,rfl,rfl⟩,fun _ _ h=>by cases h⟩
   ·rename_i M;exact .inl ⟨M,f⟩)
  rw[hs]at D
  exact D.congr e1 e2 (e3.trans F.symm)
 cases e with
 | nrm=>exact T none .ready rfl d
 | ret=>exact T (some .ret) .done rfl d
 | exit id=>exact T (some (.exit id)) .done rfl d
theorem Qd {l:List AOpr}{n:Nat}(h:(l.all fun o=>match o.dst with|some d=>Nat.blt d n|none=>true)=true):∀a∈l,∀d,a.dst=some d→d<n:=by
 intro a b d c
 have:=List.all_eq_true.1 h a b
 simp only[c]at this
 simpa[Nat.blt_eq] using this
theorem Yk (ops:Array Oper):∀n,jp ops n≤n∧∀j,jp ops n≤j→j<n→∀i,i<j→((J8 ops.toList []).getD j 0).testBit i=true
 | 0=>⟨zR,fun j _ h=>by omega⟩
 | n+1=>by
  obtain⟨g,f⟩:=Yk ops n
  have e:jp ops (n+1)=if (List.range n).all fun i=>((J8 ops.toList []).getD n 0).testBit i then jp ops n else n+1:=by
   unfold jp
   rw[List.range_succ,List.foldl_append]
   rfl
  rw[e]
  split
  ·rename_i a
   refine⟨zO,fun j c b i d=>?_⟩
   rcases Nat.lt_succ_iff_lt_or_eq.1 b with h|rfl
   ·exact f j c h i d
   ·exact List.all_eq_true.1 a i (List.mem_range.2 d)
  ·exact⟨zR,fun j c b=>by omega⟩
theorem jg8 (ops:Array Oper) (n:Nat):jp ops n≤n:=(Yk ops n).1
theorem jdp (ops:Array Oper) (n:Nat):∀j,jp ops n≤j→j<n→∀i,i<j→((J8 ops.toList []).getD j 0).testBit i=true:=(Yk ops n).2
theorem jr5 {b:Type}{x:Option (List b)}{a:b}(h:only x=some a):x=some [a]:=by
 unfold only at h
 split at h
 ·cases h;rfl
 ·cases h
theorem jmb (hm:P.follows .mixedOrders=true) (c8:jkr P E call) (N:Nat) {y:Y}{γ0:Nat→Option Place}{Iy:IMap}(hy:YOk P E γ0 Iy y) :
 ∀ (c:Code) (ac:C) (m r:Bool) (rn:Option Nat),(r=true∨rn=none)→comp P m r c=some ac→ac.dstOk nt=true→juw P E nt call y N γ0 Iy c ac rn:=by
 intro c
 induction c with
 | skip=>
  intro ac m r rn K F T w0 I0 Q b l γ I a w G H D O Z X
  cases F
  cases D
  exact wpIn_skip (X _ (List.mem_singleton.2 rfl) γ I a w O Z (fun _ _ h=>h) (fun _ _ _ h=>h))
 | ret=>
  intro ac m r rn K F T w0 I0 Q b l γ I a w G H D O Z X
  cases F
  cases D
  exact wpIn_ret (X _ (List.mem_singleton.2 rfl) γ I a w O Z (fun _ _ h=>h) (fun _ _ _ h=>h))
 | exit id=>
  intro ac m r rn K F T w0 I0 Q b l γ I a w G H D O Z X
  cases F
  cases D
  exact wpIn_exit (X _ (List.mem_singleton.2 rfl) γ I a w O Z (fun _ _ h=>h) (fun _ _ _ h=>h))
 | region id J drawn=>
  intro ac m r rn K F T w0 I0 Q b l γ I a w G H D O Z X
  cases drawn with
  | false=>
   simp only[comp]at F
   obtain⟨B,a0,rfl⟩:=map_some F
   simp only[jW]at D
   obtain⟨e0,c2,rfl⟩:=map_some D
   exact wpIn_region_list (jr3 (c8 _ _ _ hy) _ B a0 (Qd T) γ I b a w b.nx e0 G H O Z c2 (fun c0 c5=>X _ (List.mem_map.2 ⟨c0,c5,rfl⟩)))
  | true=>
   simp only[comp]at F
   obtain⟨B,a0,F⟩:=map_some F
   split at F
   case h_2=>subst F;cases D
   rename_i o0 b7
   obtain⟨g0,_⟩:=js a0
   have g0:B.length=J.size:=by rw[g0,Array.length_toList]
   have U:∀i d,(Array.replicate J.size false).getD i d=if i<J.size then false else d:=by
    intro i d
    by_cases hi:i<J.size <;> simp[hi]
   split at F
   ·generalize hk:jp J B.length=k at F
    have k4:k≤B.length:=hk▸jg8 J B.length
    have f1:∀j,k≤j→j<J.size→∀i,i<j→((J8 J.toList []).getD j 0).testBit i=true:=fun j h1 h2=>jdp J B.length j (by rw[hk];exact h1) zO
    split at F
    ·rename_i c b9
     obtain⟨_,b9⟩:=Option.filter_eq_some_iff.1 b9
     have o5:c+1<k:=by
      unfold jwi at b9
      simp only[Bool.and_eq_true,Nat.blt_eq]at b9
      exact b9.1.1.1
     have b8:=List.getElem?_eq_getElem (show c<B.length by omega)
     have g8:B.getD c jhm=B[c]' zO:=by rw[List.getD_eq_getElem?_getD,b8];rfl
     subst F
     rw[g8]at D T
     generalize B[c]' zO=d8 at *
     simp only[jW]at D
     obtain⟨l1,h1,h2⟩:=JV D
     obtain⟨⟨f2,S⟩,c2,h1⟩:=bind_some h1
     simp only[Option.ite_none_right_eq_some,Option.some.injEq]at h1
     obtain⟨M,rfl⟩:=h1
     rw[Bool.and_eq_true]at M
     obtain⟨rx,h3,h4⟩:=h2 _ (List.mem_singleton.2 rfl)
     simp only at h3
     obtain⟨l2,h5,h6⟩:=JV h3
     obtain⟨l3,h7,h8⟩:=JV h5
     have d7:∀ao∈B,∀d,ao.dst=some d→d<nt:=by
      simp only[C.dstOk,Bool.and_eq_true]at T
      obtain⟨d1,d2,d3⟩:=T
      intro ao d9
      obtain⟨i,hi,rfl⟩:=List.getElem_of_mem d9
      by_cases n2:i<k
      ·by_cases c7:i=c
       ·subst c7
        have:B[i]=d8:=by rw[List.getElem?_eq_getElem hi]at b8;simpa using b8
        rw[this]
        exact Qd d2 d8 (List.mem_cons_self ..)
       ·refine Qd d1 _ (List.mem_of_getElem? (i:=i) ?_)
        rw[List.getElem?_set_ne (Ne.symm c7),List.getElem?_take,if_pos n2,List.getElem?_eq_getElem hi]
      ·refine Qd d3 _ (List.mem_of_getElem? (i:=i - k) ?_)
       rw[List.getElem?_drop,show k+(i - k)=i by omega,List.getElem?_eq_getElem hi]
     refine wpIn_region_any hm (j5y (w0:=w0) (I0:=I0) k4 f1 b9 b8 (c8 _ _ _ hy) G H a0 b7 d7 c2 M.1 M.2 h7 (fun x hx=>?_) (O.drawn _) Z)
     obtain⟨o4,h9,n6⟩:=h8 x hx
     obtain⟨p,hp,k5⟩:=bind_some h9
     simp only[Option.ite_none_right_eq_some,Option.some.injEq]at k5
     obtain⟨i1,rfl⟩:=k5
     obtain⟨l9,e7,g4⟩:=h6 _ (n6 _ (List.mem_singleton.2 rfl))
     simp only at e7
     obtain⟨e0,c4,rfl⟩:=map_some e7
     exact⟨p,e0,hp,i1,c4,fun c0 c5=>X _ (h4 _ (g4 _ (List.mem_map.2 ⟨c0,c5,rfl⟩)))⟩
    subst F
    simp only[jW]at D
    obtain⟨l1,h1,h2⟩:=JV D
    obtain⟨⟨f2,c0⟩,c2,h1⟩:=bind_some h1
    simp only[Option.ite_none_right_eq_some,Option.some.injEq]at h1
    obtain⟨M,rfl⟩:=h1
    rw[Bool.and_eq_true]at M
    obtain⟨M,g9⟩:=M
    obtain⟨rx,h3,h4⟩:=h2 _ (List.mem_singleton.2 rfl)
    simp only at h3
    obtain⟨e0,c4,rfl⟩:=map_some h3
    obtain⟨d6,g6,rfl⟩:=XI (B.take k) b b.nx f2 c0 c2
    have d7:∀ao∈B,∀d,ao.dst=some d→d<nt:=by
     simp only[C.dstOk,Bool.and_eq_true]at T
     intro ao d9
     rw[← List.take_append_drop k B]at d9
     rcases List.mem_append.1 d9 with h|h
     ·exact Qd T.1 ao h
     ·exact Qd T.2 ao h
    have e6:jL (fun i=>(Array.replicate J.size false).getD i false) d6 b=b:=by
     have:(fun i=>(Array.replicate J.size false).getD i false)=fun _=>false:=funext fun i=>by rw[U];split <;> rfl
     rw[this]
     exact Xk _ _
    have i5:(B.take k).length=k:=by rw[List.length_take];omega
    refine wpIn_region_any hm (je9 (bb:=false) (w0:=w0) (I0:=I0) (kk:=k) (al':=B.take k) (sp:=fun _=>false) k4 i5 (fun i ao hi _ h=>by rw[List.getElem?_take,if_pos hi];exact h) (fun _ _ h=>by cases h) (fun j h1 h2 i h3=>f1 j h1 h2 i zO) (c8 _ _ _ hy) a0 b7 g6 M g9 d7 (γ:=γ) (I:=I) (fun _ _ _ _ _ _ _ h=>by cases h) (fun c1 I' a' w' k8 f3 n5 g3 _ i6 c6 d0 hg hI=>?_) J.size (Array.replicate J.size false) γ I a _ zS ?_ ?_ (fun _ h=>by cases h) ?_ ?_ ?_ ?_ (fun _ _ h=>h) (fun _ _ _ h=>h))
    ·exact jiz f1 (c8 _ _ _ hy) a0 b7 d7 (J.size - k) k zR zO k8 f3 c1 I' { jL (fun _=>true) d6 b with nx:=b.nx+64*(B.take k).length } a' w' (b.nx+64*(B.take k).length) e0 n5 g3 i6 (G.trans hg) (H.trans hI) (c6.congr rfl rfl rfl rfl rfl) (fun u hu=>d0 u (by rw[i5]at hu;exact hu)) c4
      (fun c0 c5=>(X _ (h4 _ (List.mem_map.2 ⟨c0,c5,rfl⟩))).weaken hg hI)
    ·intro j o ho hj
     simp only[U]at hj
     split at hj <;> cases hj
    ·intro j hj
     rw[U];split <;> rfl
    ·simp
    ·rw[e6]
     exact O.drawn _
    ·intro u hu
     exact Z u zO
    ·intro j hj u h1 h2
     exact Z u zO
   split at F
   ·rename_i c b6
    have b6:jss J B c=true:=by
     cases m with
     | false=>cases b6
     | true=>
      obtain⟨_,b6⟩:=Option.filter_eq_some_iff.1 b6
      exact b6
    have k0:∃ac,B[c]? = some ac:=by
     have h:=b6
     unfold jss at h
     cases h0:B[c]? with
     | none=>simp[h0]at h
     | some ac=>exact⟨ac,rfl⟩
    obtain⟨d8,b8⟩:=k0
    have o2:c<B.length:=(List.getElem?_eq_some_iff.1 b8).1
    have g8:B.getD c jhm=d8:=by rw[List.getD_eq_getElem?_getD,b8];rfl
    subst F
    rw[g8]at D T
    simp only[jW]at D
    obtain⟨l1,h1,h2⟩:=JV D
    obtain⟨⟨f2,S⟩,c2,h1⟩:=bind_some h1
    simp only[Option.ite_none_right_eq_some,Option.some.injEq]at h1
    obtain⟨M,rfl⟩:=h1
    rw[Bool.and_eq_true]at M
    obtain⟨rx,h3,h4⟩:=h2 _ (List.mem_singleton.2 rfl)
    simp only at h3
    obtain⟨l2,h5,h6⟩:=JV h3
    obtain⟨e0,c4,rfl⟩:=map_some h5
    have d7:∀ao∈B,∀d,ao.dst=some d→d<nt:=by
     simp only[C.dstOk,Bool.and_eq_true]at T
     obtain⟨d1,d2,d3⟩:=T
     intro ao d9
     obtain⟨i,hi,rfl⟩:=List.getElem_of_mem d9
     rcases Nat.lt_trichotomy i c with c7|c7|c7
     ·refine Qd d1 _ (List.mem_of_getElem? (i:=i) ?_)
      rw[List.getElem?_take,if_pos c7,List.getElem?_eq_getElem hi]
     ·subst c7
      have:B[i]=d8:=by rw[List.getElem?_eq_getElem hi]at b8;simpa using b8
      rw[this]
      exact Qd d2 d8 (List.mem_cons_self ..)
     ·refine Qd d3 _ (List.mem_append_right _ (List.mem_of_getElem? (i:=i - (c+1)) ?_))
      rw[List.getElem?_drop,show c+1+(i - (c+1))=i by omega,List.getElem?_eq_getElem hi]
    refine wpIn_region_any hm (mid_ok (w0:=w0) (I0:=I0) b6 b8 (c8 _ _ _ hy) G H a0 b7 d7 c2 M.1 M.2 c4 (fun s1 m9=>?_) (O.drawn _) Z)
    obtain⟨l9,e7,g4⟩:=h6 _ (List.mem_map.2 ⟨s1,m9,rfl⟩)
    simp only at e7
    obtain⟨⟨i9,S2⟩,i7,k2⟩:=bind_some e7
    simp only[Option.ite_none_right_eq_some,Option.some.injEq]at k2
    obtain⟨f0,rfl⟩:=k2
    rw[Bool.and_eq_true]at f0
    exact⟨(i9,S2),i7,f0.1,f0.2,X _ (h4 _ (g4 _ (List.mem_singleton.2 rfl)))⟩
   subst F
   simp only[jW]at D
   obtain⟨⟨f2,c0⟩,c2,D⟩:=bind_some D
   simp only[Option.ite_none_right_eq_some,Option.some.injEq]at D
   obtain⟨M,rfl⟩:=D
   rw[Bool.and_eq_true]at M
   obtain⟨M,g9⟩:=M
   obtain⟨d6,g6,rfl⟩:=XI B b b.nx f2 c0 c2
   have e6:jL (fun i=>(Array.replicate J.size false).getD i false) d6 b=b:=by
    have:(fun i=>(Array.replicate J.size false).getD i false)=fun _=>false:=funext fun i=>by rw[U];split <;> rfl
    rw[this]
    exact Xk _ _
   refine wpIn_region_any hm (any_ok (w0:=w0) (I0:=I0) (c8 _ _ _ hy) a0 b7 g6 M g9 (Qd T) (γ:=γ) (I:=I) (fun c1 I' a' w' c6 d0 hg hI=>?_) J.size (Array.replicate J.size false) γ I a _ zS ?_ ?_ ?_ ?_ ?_ (fun _ _ h=>h) (fun _ _ _ h=>h))
   ·exact X _ (List.mem_singleton.2 rfl) c1 I' a' w' (c6.congr rfl rfl rfl rfl rfl) d0 hg hI
   ·intro j o ho hj
    simp only[U]at hj
    split at hj <;> cases hj
   ·simp
   ·rw[e6]
    exact O.drawn _
   ·intro u hu
    exact Z u zO
   ·intro j hj u h1 h2
    exact Z u zO
 | seq x z i0 g5=>
  intro ac m r rn K F T w0 I0 Q b l γ I a w G H D O Z X
  simp only[comp]at F
  obtain⟨ax,hx,F⟩:=bind_some F
  obtain⟨az,hz,rfl⟩:=map_some F
  simp only[C.dstOk,Bool.and_eq_true]at T
  simp only[jW]at D
  obtain⟨l1,h1,h2⟩:=JV D
  refine wpIn_seq (i0 ax m r rn K hx T.1 w0 I0 _ b l1 γ I a w G H h1 O Z (fun p hp=>?_))
  obtain⟨e,s⟩:=p
  obtain⟨rx,h3,h4⟩:=h2 _ hp
  cases e with
  | nrm=>
   intro c1 I' a' w' c6 d0 hg hI
   exact g5 az m r rn K hz T.2 w0 I0 Q s rx c1 I' a' w' (G.trans hg) (H.trans hI) h3 c6 d0 (fun p hp=>(X p (h4 p hp)).weaken hg hI)
  | exit i=>
   simp only[Option.some.injEq]at h3
   subst h3
   exact X _ (h4 _ (List.mem_singleton.2 rfl))
  | ret=>
   simp only[Option.some.injEq]at h3
   subst h3
   exact X _ (h4 _ (List.mem_singleton.2 rfl))
 | cond q x z i0 g5=>
  intro ac m r rn K F T w0 I0 Q b l γ I a w G H D O Z X
  simp only[comp]at F
  obtain⟨aq,hq,F⟩:=bind_some F
  obtain⟨ax,hx,F⟩:=bind_some F
  obtain⟨az,hz,rfl⟩:=map_some F
  simp only[C.dstOk,Bool.and_eq_true]at T
  have U:=j9 O hq
  have hv:∀t,eval E b.tm aq=.bool t→a.eval q=.bool t:=by
   intro t ht
   rw[ht]at U
   exact XG U
  simp only[jW]at D
  split at D
  ·rename_i hb
   exact wpIn_cond_true (hv _ hb) (i0 ax m r rn K hx T.1 w0 I0 Q b l γ I a w G H D O Z X)
  ·rename_i hb
   exact wpIn_cond_false (hv _ hb) (g5 az m r rn K hz T.2 w0 I0 Q b l γ I a w G H D O Z X)
  ·cases D
 | block id x ih=>
  intro ac m r rn K F T w0 I0 Q b l γ I a w G H D O Z X
  simp only[comp]at F
  obtain⟨ax,hx,rfl⟩:=map_some F
  simp only[jW]at D
  obtain⟨l1,h1,rfl⟩:=map_some D
  refine wpIn_block (ih ax m r rn K hx T w0 I0 _ b l1 γ I a w G H h1 O Z (fun p hp=>?_))
  have:=X _ (List.mem_map.2 ⟨p,hp,rfl⟩)
  obtain⟨e,s⟩:=p
  cases e with
  | nrm=>exact this
  | ret=>exact this
  | exit i=>
   simp only[exOf,Exit.inBlock]
   by_cases hi:i=id
   ·simp only[hi,if_true]at this ⊢
    exact this
   ·simp only[hi,if_false]at this ⊢
    exact this
 | loop x ih=>
  intro ac m r rn K F T w0 I0 Q b l γ I a w G H D O Z X
  simp only[comp]at F
  obtain⟨ax,hx,rfl⟩:=map_some F
  simp only[jW]at D
  have m2:∀ (n:Nat) (b:St) (l:List (Ex × St)) (γ:Nat→Option Place) (I:IMap) (a:Act) (w:World),SubG γ0 γ→SubI Iy I→jay (jW E call y N ax) n b=some l→R E w0 I0 nt γ I b a w→(∀u,b.nx≤u→γ u=none) →
   (∀x∈l,Nice E w0 I0 nt γ I x.2 x.2.nx (fun a w=>Q (exOf x.1) a w))→Code.roundsIn (FW rn) 0 P x Q n a w:=by
   intro n
   induction n with
   | zero=>intro b l γ I a w _ _ D;cases D
   | succ n m1=>
    intro b l γ I a w G H D O Z X
    simp only[jay]at D
    obtain⟨l1,h1,h2⟩:=JV D
    rw[roundsIn_succ]
    refine ih ax m r rn K hx T w0 I0 _ b l1 γ I a w G H h1 O Z (fun p hp=>?_)
    obtain⟨e,s⟩:=p
    obtain⟨rx,h3,h4⟩:=h2 _ hp
    cases e with
    | nrm=>
     intro c1 I' a' w' c6 d0 hg hI
     exact m1 s rx c1 I' a' w' (G.trans hg) (H.trans hI) h3 c6 d0 (fun p hp=>(X p (h4 p hp)).weaken hg hI)
    | exit i=>
     simp only[Option.some.injEq]at h3
     subst h3
     exact X _ (h4 _ (List.mem_singleton.2 rfl))
    | ret=>
     simp only[Option.some.injEq]at h3
     subst h3
     exact X _ (h4 _ (List.mem_singleton.2 rfl))
  exact wpIn_loop_rounds N (m2 N b l γ I a w G H D O Z X)
 | rangeFunc f ps ca cb n0 n9=>
  intro ac m r rn K F T w0 I0 Q b l γ I a w G H D O Z X
  cases r with
  | true=>cases F;cases D
  | false=>
  have K:rn=none:=K.resolve_left zS
  subst K
  simp only[comp,cond_false]at F
  obtain⟨af,l5,F⟩:=bind_some F
  obtain⟨k1,n3,F⟩:=bind_some F
  obtain⟨bd,n1,rfl⟩:=map_some F
  simp only[C.dstOk,Bool.and_eq_true]at T
  obtain⟨⟨l7,n8⟩,l6⟩:=T
  simp only[jW]at D
  split at D
  case h_2=>cases D
  rename_i g first i2 m0
  obtain⟨⟨rv,ob,tk,ub⟩,c9,D⟩:=bind_some D
  have c9:=jr5 c9
  have k9:=j9 O l5
  rw[m0]at k9
  obtain⟨fx,cx,m6,s1,s2,s3,s4⟩:=jch k9
  -- the two blocks
  refine wpIn_rangeFunc (fun fn _=>?_)
  have f7:γ (b.nx+1)=none:=Z _ zO
  have k7:=O.sh.alloc (d:=2*b.nx+3) f7 (obj:=.deferred (some [])) (body:=.dfr) (k:=.n 0) rfl
  have e8:(upd γ (b.nx+1) (some (.obj w.heap.size (.n 0)))) b.nx=none:=by
   rw[J9 _ _ zO]
   exact Z _ zR
  generalize b5:({ state:=.ready,pending:=none,fn,tmps:=a.tmps,params:=ps,assign:=ca,body:=cb,defers:=w.heap.size }:Loop)=rec
  have g1:=k7.alloc (d:=2*b.nx+1) e8 (obj:=.loop rec) (body:=.loop .ready none) (k:=.lp rec) ⟨rec,rfl,by rw[← b5];rfl⟩
  generalize d5:upd (upd γ (b.nx+1) (some (.obj w.heap.size (.n 0)))) b.nx (some (.obj (w.alloc (.deferred (some []))).heap.size (.lp rec)))=γ1 at g1
  have b0:SubG γ γ1:=by
   rw[← d5]
   exact SubG.trans (WD f7) (WD e8)
  have e9:γ1 b.nx=some (.obj (w.heap.size+1) (.lp rec)):=by rw[← d5];simp
  have i3:γ1 (b.nx+1)=some (.obj w.heap.size (.n 0)):=by rw[← d5,J9 _ _ zO];simp
  have n4:∀p∈ps.toList,p<nt:=fun p hp=>by
   have:=List.all_eq_true.1 l7 p hp
   simpa[Nat.blt_eq] using this
  have m7:YOk P E γ1 I (QW (jW E call y N k1) (jW E call y N bd) b ps.toList (2*b.nx+1) b.nx) :=
   jrh (L:=w.heap.size+1) (rec:=rec) (ca:=ca) (cb:=cb) (ps:=ps) (n0 k1 m true (some (w.heap.size+1)) (.inl rfl) n3 n8) (n9 bd m true (some (w.heap.size+1)) (.inl rfl) n1 l6) (G.trans b0) H e9
    (fun t=>by rw[← b5];exact(O.tm t).mono b0 (fun _ _ _ h=>h)) (by rw[← b5];exact O.sz) (by rw[← b5]) n4 (by rw[← b5]) (by rw[← b5])
  obtain⟨m8,i8⟩:=(c8 γ1 I _ m7).s _ _ _ _ _ _ _ _ c9
  obtain⟨o3,cc,e1,e2,e3⟩:=m8
  have m5:=jcc (P:=P) (w:=(w.alloc (.deferred (some []))).alloc (.loop rec)) e1 e2 e3
  have g2:Rep γ1 I (.func (.yield (w.heap.size+1)) #[] #[]) (.yld (2*b.nx+1) b.nx):=.yld _ _ _ _ e9
  obtain⟨t1,t2⟩:=QN (γ:=γ1) (I:=I) (xs:=fx) (ys:=#[.func (.yield (w.heap.size+1)) #[] #[]]) (us:=first) (vs:=[.yld (2*b.nx+1) b.nx]) s1 rfl (fun j x v hx hv=>(s3 j x v hx hv).mono b0 (fun _ _ _ h=>h)) (fun j x v hx hv=>by
   match j with
   | 0=>simp at hx hv;subst hx;subst hv;exact g2
   | j+1=>simp at hv)
  obtain⟨u1,u2⟩:=QN (γ:=γ1) (I:=I) t1 s2 t2 (fun j x v hx hv=>(s4 j x v hx hv).mono b0 (fun _ _ _ h=>h))
  have k3:∀u,b.nx+64≤u→γ1 u=none:=by
   intro u hu
   rw[← d5,J9 _ _ zO,J9 _ _ zO]
   exact Z _ zO
  have f4:=i8 w0 _ I0 I γ1 _ { b with ob:=upd (upd b.ob (2*b.nx+3) (some ⟨b.nx+1,.dfr⟩)) (2*b.nx+1) (some ⟨b.nx,.loop .ready none⟩) } (SubG.refl _) (SubI.refl _) rfl rfl rfl g1 k3 u1 u2
  have f8:=run_enterLoop_outer (P:=P) (w:=w) fn a.tmps ps ca cb
  rw[b5]at f8
  refine⟨_,_,_,{ target:=.fn (.func g) cx,args:=fx++#[.func (.yield (w.heap.size+1)) #[] #[]] },(w.alloc (.deferred (some []))).alloc (.loop rec),g,fx++#[.func (.yield (w.heap.size+1)) #[] #[]]++cx,(w.alloc (.deferred (some []))).alloc (.loop rec),f8,?_,fun _ _=>trivial,?_,(fun h=>by cases h),?_⟩
  ·have f5:Array.map a.eval #[Operand.const (.func (.yield (w.heap.size+1)) #[] #[])] = #[.func (.yield (w.heap.size+1)) #[] #[]]:=by simp[Act.eval]
   simp only[resolve,m6,Deferred.ofValue,Sem.run_pure,f5]
  ·simp only[invoke]
   exact m5 _
  ·refine juk (Calls.mono f4 fun e w3 he=>?_)
   obtain⟨_,f5,he⟩:=he
   rw[List.mem_singleton]at f5
   subst f5
   obtain⟨x,c1,I',rfl,n7,U,e4,l0,i4⟩:=he
   simp only at D
   split at D
   case h_2=>cases D
   rename_i u s d4 f9
   simp only[Option.ite_none_right_eq_some,Option.some.injEq]at D
   obtain⟨⟨rfl,o1,m3⟩,rfl⟩:=D
   have e5:=e4 _ _ e9
   have f6:=n7 { b with ob:=ob,tk:=tk } rfl rfl rfl
   obtain⟨r0,l8,g7⟩:=jf8 f6 f9 e5
   cases l8
   have m4:lsOf s≠.busy:=by cases s <;> simp_all [lsOf]
   have l4:=run_endLoop (P:=P) g7 m4
   have k6:=f6.turn (ob':=fun k=>if Nat.beq (2*b.nx+1) k then none else ob k) (o':=.loop { rec with state:=.exhausted,pending:=d4.map Qb }) f9 e5 m3 (fun l2 x hx=>by
    split at hx
    ·cases hx
    ·rename_i h2;exact .inl ⟨fun e=>h2 (by rw[e];exact Nat.beq_refl _),hx⟩)
   refine⟨d4.map Qb,_,l4,?_⟩
   have c3:=X _ (List.mem_singleton.2 rfl) c1 I' { tmps:=a.tmps,defers:=[{ target:=.collected w.heap.size,args:=#[] }]++a.defers } (w3.putObj (w.heap.size+1) (.loop { rec with state:=.exhausted,pending:=d4.map Qb }))
    ⟨O.sz,⟨⟨w.heap.size,.n 0,rfl,e4 _ _ i3⟩,(O.df.mono b0).mono e4⟩,fun t=>(O.tm t).mono (b0.trans e4) l0,k6.congr rfl rfl rfl⟩ i4 (b0.trans e4) l0
   cases d4 with
   | none=>exact c3
   | some e=>
    cases e with
    | nrm=>exact wpIn_skip c3
    | ret=>exact wpIn_ret c3
    | exit i=>exact wpIn_exit c3
 | _=>
  intro ac m r rn K F T w0 I0 Q b l γ I a w G H D
  cases F
  cases D
end
end Go.Pv
