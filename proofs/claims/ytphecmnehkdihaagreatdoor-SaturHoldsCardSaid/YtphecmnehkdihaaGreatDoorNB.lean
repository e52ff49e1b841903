/- copy, clear. -/
import Derived.Test.YtphecmnehkdihaaGreatDoorNA
import Derived.Laws.IdiomStrings
import Derived.OrdersIn
import Derived.TacticsIn
import Derived.LoopNIn
import Derived.RangeFuncRecord
import Derived.Sort.Grow
set_option maxRecDepth 100000
set_option maxHeartbeats 8000000
namespace Go.Pv
open Go
section
variable {P:Program}{E:Env}{w0 w:World}{I0:IMap}{nt:Nat}{γ:Nat→Option Place}{I:IMap}{st:St}{a:Act}{o:Oper}{ub:Nat}{δ:Delta}
theorem jfn {ob:ZO}{hp:Array Obj}{k:Kd}{arr:Array Value}{e:TypeId}{cs vs:List V}{vals:List Value}{off:Nat}(p:arr.size=k.size) (m:cs.length≤k.size)
 (i:∀ (j:Nat) (x:Value) (v:V),arr[j]? = some x→cs[j]? = some v→v.leaf=true∧Rep γ I x v) (n:vals.length=vs.length) (g:off+vs.length≤cs.length)
 (l:∀ (j:Nat) (x:Value) (v:V),vals[j]? = some x→vs[j]? = some v→v.leaf=true∧Rep γ I x v) :
 ObjOk γ I ob hp k (some (.cells (arr.toList.take off++vals++arr.toList.drop (off+vals.length)).toArray e (0,0))) (.cells (j5 cs off vs)):=by
 refine⟨_,e,rfl,?_,by rw[WA _ _ _ zO];exact m,?_⟩
 ·simp only[List.size_toArray,List.length_append,List.length_take,List.length_drop,Array.length_toList]
  omega
 ·intro j x v c b
  rw[jba _ _ _ zO]at b
  simp only[List.getElem?_toArray]at c
  by_cases f:off≤j∧j<off+vs.length
  ·rw[if_pos f]at b
   rw[List.getElem?_append_left (by simp only[List.length_append,List.length_take,Array.length_toList];omega),List.getElem?_append_right (by simp only[List.length_take,Array.length_toList];omega)]at c
   have d:j - (List.take off arr.toList).length=j - off:=by simp only[List.length_take,Array.length_toList];omega
   rw[d]at c
   exact l (j - off) x v c b
  ·rw[if_neg f]at b
   refine i j x v ?_ b
   by_cases h:j<off
   ·rw[List.append_assoc,List.getElem?_append_left (by simp only[List.length_take,Array.length_toList];omega),List.getElem?_take_of_lt h]at c
    simpa using c
   ·rw[List.getElem?_append_right (by simp only[List.length_append,List.length_take,Array.length_toList];omega),List.getElem?_drop]at c
    have d:off+vals.length+(j - (List.take off arr.toList++vals).length)=j:=by
     simp only[List.length_append,List.length_take,Array.length_toList]
     omega
    rw[d]at c
    simpa using c
theorem jkx {l u off n sz:Nat}{cs vs:List V}{vals:List Value}{b:Nat}{L:Kd}{M:Addr}{cap:Nat}(T:R E w0 I0 nt γ I st a w) (F:st.ob l=some ⟨u,.cells cs⟩) (D:γ u=some (.obj b L))
 (B:0<cap→M=⟨b,off,none⟩∧off+cap*sz≤L.size) (hc:n≤cap) (r:vals.length=vs.length) (d:off+vs.length≤cs.length) (S:vs.length≤n*sz)
 (q:∀ (j:Nat) (x:Value) (v:V),vals[j]? = some x→vs[j]? = some v→v.leaf=true∧Rep γ I x v) :
 ∃g,(storeCells M vals).run P w=.ok () g∧∀i k,γ u=some (.obj i k)→i<w.heap.size→(g.os=w.os∧g.tape=w.tape∧g.output=w.output∧g.heap.size=w.heap.size∧(∀k,k≠i→g.heap[k]? = w.heap[k]?) ∧
  ObjOk γ I st.ob w.heap k g.heap[i]? (.cells (j5 cs off vs))):=by
 obtain⟨arr,e,s,H,K,J⟩:=Wj T F D
 cases f:vals with
 | nil=>
  rw[f]at r q
  have z:vs=[]:=List.eq_nil_of_length_eq_zero r.symm
  subst z
  refine⟨w,rfl,fun i k c y=>?_⟩
  rw[D]at c
  cases c
  refine⟨rfl,rfl,rfl,rfl,fun _ _=>rfl,?_⟩
  have:=jfn (ob:=st.ob) (hp:=w.heap) (e:=e) (vs:=[]) (vals:=[]) H K J rfl d q
  simp only[List.append_nil,List.length_nil,Nat.add_zero,List.take_append_drop,Array.toArray_toList]at this
  rw[s]
  exact this
 | cons v0 vr=>
  rw[← f]
  have G:0<vs.length:=by rw[← r,f];simp
  have Q:0<n:=by
   rcases Nat.eq_zero_or_pos n with h|h
   ·subst h;simp only[Nat.zero_mul]at S;omega
   ·exact h
  obtain⟨rfl,_⟩:=B zO
  have p:∀v∈vals,v.oneCell'=true:=by
   intro v t
   obtain⟨j,N,rfl⟩:=List.mem_iff_getElem.1 t
   have X:vs[j]? = some (vs[j]' zO):=List.getElem?_eq_getElem _
   obtain⟨Z,O⟩:=q j _ _ (List.getElem?_eq_getElem N) X
   exact O.oneCell Z
  have m:=run_storeCells_at P b off e vals 0 arr w s (by simp only[Nat.add_zero];omega) p
  simp only[Nat.add_zero]at m
  refine⟨_,m,fun i k c y=>?_⟩
  rw[D]at c
  cases c
  refine⟨rfl,rfl,rfl,zS,fun k U=>setRow_other w b k _ U,?_⟩
  rw[setRow_heap w b arr _ e _ s]
  exact jfn H K J r d q
theorem j1u (H:R E w0 I0 nt γ I st a w) (hd:∀d,o.dst=some d→d<nt) {t e:TypeId}{s x:Operand}{s' x':A}{sz:Nat}{J:Array TypeId}(ho:o.op=.call { callee:=.builtin .copy,args:=#[s,x],argTypes:=J })
 (ht:J[0]? = some t) (hs:opd s=some s') (hx:opd x=some x') (hu:P.underlying t=some (.slice e)) (hi:WU P e=some sz)
 (q:((jI st.ob sz (eval E st.tm x')).bind fun F=>match eval E st.tm s' with
  | .osl l u off n f=>if Nat.ble st.ro u=true∧f=sz∧0<sz∧F.all V.leaf=true then (j0 st.ob l u).bind fun cs=>
   if off+n*sz≤cs.length then some { v:=V.int .i64 (Nat.min (F.length / sz) n:Nat),obs:=[(l,⟨u,.cells (j5 cs off (F.take (Nat.min (F.length / sz) n*sz)))⟩)] } else none else none
  | .sl _ _ 0 []=>one (.int .i64 0)
  | _=>none)=some δ):X7 P E w0 I0 nt γ I st a w o ub δ:=by
 have z:=jA H hs
 have g:=jA H hx
 have k:∀ (v:Value) (N:World),(Builtin.copy_ J o.type #[a.eval s,a.eval x]).run P w=.ok v N→(execOp a.eval o).run P w=.ok (.value v) N:=by
  intro v N h
  simp only[execOp,ho,resolve,Sem.run_bind,Sem.run_pure,Result.andThen_ok,invoke,builtin,List.map_toArray,List.map_cons,List.map_nil,h]
 obtain⟨F,i,q⟩:=bind_some q
 split at q
 ·rename_i l u off n f he
  rw[he]at z
  split at q
  case isFalse=>cases q
  rename_i M
  obtain⟨T,b8,a0,hp⟩:=M
  subst b8
  obtain⟨cs,b9,q⟩:=bind_some q
  split at q
  case isFalse=>cases q
  rename_i d0
  obtain⟨b,kb,y,B,b0,Q,b5,hc,c5⟩:=XZ z
  have D:=jY b9
  rcases jgy H g i hp a0 with⟨hX,X⟩|⟨S,m,c,r,hX,c9,c0,c8,O,b7,c7⟩
  ·subst X
   obtain⟨N,L,K⟩:=jkx (P:=P) (n:=n) (vs:=[]) (vals:=[]) H D b0 b5 hc rfl (by simp only[List.length_nil];omega) (Nat.zero_le _) (fun j x v h=>by simp at h)
   have h0:Nat.min ([]:List V).length n=0:=zS
   have hz:Nat.min (([]:List V).length / f) n=0:=zS
   refine Yq H hd D T (body':=.cells _) (x:=.int .i64 (Nat.min (([]:List V).length / f) n:Nat)) (.inl (k _ N ?_)) (.pure _ _ (.int _ _)) (fun v es h=>by cases h) ?_ q
   ·rw[Q,hX,hz]
    have U:Nat.min 0 n=0:=zS
    simp only[Builtin.copy_,ht,List.getElem?_toArray,List.getElem?_cons_zero,List.getElem?_cons_succ,Sem.run_bind,run_underlying hu,Result.andThen_ok,Builtin.lenOf,Sem.run_pure,je hi,run_firstCells_none,U,L,goInt]
   ·rw[List.take_nil];exact K
  ·have U:F.length / f=m:=by rw[c0];exact Nat.mul_div_cancel _ a0
   rw[U]at q
   have c1:Nat.min m n≤m:=Nat.min_le_left _ _
   have Z:Nat.min m n≤n:=Nat.min_le_right _ _
   have c6:Nat.min m n*f≤m*f:=Nat.mul_le_mul_right _ c1
   have c3:Nat.min m n*f≤n*f:=Nat.mul_le_mul_right _ Z
   have c4:(F.take (Nat.min m n*f)).length=Nat.min m n*f:=by rw[List.length_take];omega
   have b6:(r.take (Nat.min m n*f)).length=Nat.min m n*f:=by rw[List.length_take];omega
   obtain⟨N,L,K⟩:=jkx (P:=P) (n:=n) (vs:=F.take (Nat.min m n*f)) (vals:=r.take (Nat.min m n*f)) H D b0 b5 hc zO zO zO (fun j x v hx G=>by
    have hj:j<Nat.min m n*f:=by have:=(List.getElem?_eq_some_iff.1 G).1;omega
    rw[List.getElem?_take_of_lt hj]at hx G
    exact⟨List.all_eq_true.1 hp v (List.mem_of_getElem? G),b7 j x v hx G⟩)
   refine Yq H hd D T (body':=.cells _) (x:=.int .i64 (Nat.min m n:Nat)) (.inl (k _ N ?_)) (.pure _ _ (.int _ _)) (fun v es h=>by cases h) K q
   rw[Q,hX]
   have hf:=run_firstCells_some (P:=P) w f (Nat.min m n) S m c (r.take (Nat.min m n*f)) b6 (fun j v G=>by
    have hj:j<Nat.min m n*f:=by have:=(List.getElem?_eq_some_iff.1 G).1;omega
    rw[List.getElem?_take_of_lt hj]at G
    exact O j v G)
   simp only[Builtin.copy_,ht,List.getElem?_toArray,List.getElem?_cons_zero,List.getElem?_cons_succ,Sem.run_bind,run_underlying hu,Result.andThen_ok,Builtin.lenOf,Sem.run_pure,je hi,hf,L,goInt]
 ·rename_i t0 nl he
  rw[he]at z
  have hX:∃m,(Builtin.lenOf (a.eval x)).run P w=.ok m w:=by
   unfold jI at i
   split at i
   ·rename_i p
    rw[p]at g
    rcases Xq g with⟨h,_⟩|⟨_,_,_,h,_⟩ <;> rw[h] <;> exact⟨_,rfl⟩
   ·rename_i p
    rw[p]at g
    obtain⟨_,_,_,_,_,h,_⟩:=XZ g
    rw[h]
    exact⟨_,rfl⟩
   ·cases i
  obtain⟨m,U⟩:=hX
  have c2:(∃n c,a.eval x=.slice none n c)∨∃S n c,a.eval x=.slice (some S) n c:=by
   unfold jI at i
   split at i
   ·rename_i p
    rw[p]at g
    rcases Xq g with⟨h,_⟩|⟨_,_,_,h,_⟩
    ·exact .inl ⟨_,_,h⟩
    ·exact .inr ⟨_,_,_,h⟩
   ·rename_i p
    rw[p]at g
    obtain⟨_,_,_,_,_,h,_⟩:=XZ g
    exact .inr ⟨_,_,_,h⟩
   ·cases i
  have Q:∃y B,a.eval s=.slice y 0 B:=by
   rcases Xq z with⟨h,_⟩|⟨S,B,_,h,_⟩
   ·exact⟨_,_,h⟩
   ·exact⟨_,_,h⟩
  obtain⟨y,B,Q⟩:=Q
  have hf:(Builtin.firstCells sz 0 (a.eval x)).run P w=.ok #[] w:=by
   rcases c2 with⟨n,c,h⟩|⟨S,n,c,h⟩
   ·rw[h];exact run_firstCells_none w sz 0 n c
   ·rw[h];exact run_firstCells_some w sz 0 S n c [] zS (fun j v h=>by simp at h)
  refine jU H hd (x:=.int .i64 0) (k _ _ ?_) (.pure _ _ (.int _ _)) q
  have hz:Nat.min m 0=0:=zS
  have hg:((0:Nat):Int)=0:=rfl
  cases y <;> simp only[Builtin.copy_,ht,Q,List.getElem?_toArray,List.getElem?_cons_zero,List.getElem?_cons_succ,Sem.run_bind,run_underlying hu,Result.andThen_ok,U,Sem.run_pure,je hi,hz,hf,goInt,storeCells,hg]
 ·cases q
theorem jww (G:R E w0 I0 nt γ I st a w) (Z:∀d,o.dst=some d→d<nt) {t e:TypeId}{s:Operand}{s':A}{sz:Nat}{zs:List V}{r:Array TypeId}(ho:o.op=.call { callee:=.builtin .clear,args:=#[s],argTypes:=r })
 (ht:r[0]? = some t) (hs:opd s=some s') (hu:P.underlying t=some (.slice e)) (hz:Yo P e=some zs)
 (g:(match eval E st.tm s' with
  | .osl l u off n D=>if Nat.ble st.ro u=true∧D=sz∧zs.length=sz then (j0 st.ob l u).bind fun cs=>
   if off+n*sz≤cs.length then some { v:=jq,obs:=[(l,⟨u,.cells (j5 cs off (QV n zs))⟩)] } else none else none
  | .sl _ _ 0 []=>one jq
  | _=>none)=some δ):X7 P E w0 I0 nt γ I st a w o ub δ:=by
 have m:=jA G hs
 have c:∀ (v:Value) (y:World),(Builtin.clear_ r o.type #[a.eval s]).run P w=.ok v y→(execOp a.eval o).run P w=.ok (.value v) y:=by
  intro v y h
  simp only[execOp,ho,resolve,Sem.run_bind,Sem.run_pure,Result.andThen_ok,invoke,builtin,List.map_toArray,List.map_cons,List.map_nil,h]
 obtain⟨i,z,hi,M,f,p⟩:=Y7 (I:=I) hz
 split at g
 ·rename_i l u off n D U
  rw[U]at m
  split at g
  case isFalse=>cases g
  rename_i q
  obtain⟨J,O,S⟩:=q
  subst O
  subst S
  obtain⟨cs,T,g⟩:=bind_some g
  split at g
  case isFalse=>cases g
  rename_i b5
  obtain⟨b,kb,a0,X,K,hS,Q,hc,b0⟩:=XZ m
  have F:=jY T
  have N:(QV n zs).length=n*zs.length:=by simp[QV]
  obtain⟨y,k,L⟩:=jkx (P:=P) (n:=n) (vs:=QV n zs) (vals:=(Builtin.zeroCells z.cells n).toList) G F K Q hc (by simp[Builtin.zeroCells,N,f]) zO zO (fun j x v hx hv=>by
   have B:n*zs.length=0∨0<zs.length:=by
    rcases Nat.eq_zero_or_pos zs.length with h|h
    ·exact .inl (by rw[h,Nat.mul_zero])
    ·exact .inr h
   have:=(jct (γ:=γ) (I:=I) f p n B).2 j x v (by rw[f];rw[Array.getElem?_toList]at hx;exact hx) hv
   exact this)
  refine Yq G Z F J (body':=.cells _) (x:=.tuple #[]) (.inl (c _ y ?_)) (.tup _ _ rfl zS) (fun v es h=>by cases h) L g
  rw[hS]
  simp only[Builtin.clear_,ht,List.getElem?_toArray,List.getElem?_cons_zero,Sem.run_bind,run_underlying hu,Result.andThen_ok]
  cases n with
  | zero=>
   have:y=w:=by
    have H:(Builtin.zeroCells z.cells 0).toList=[]:=by simp[Builtin.zeroCells]
    rw[H]at k
    simp only[storeCells,Sem.run_pure,Result.ok.injEq,true_and]at k
    exact k.symm
   rw[this]
   rfl
  | succ n=>simp only[Sem.run_bind,J1 hi M,Result.andThen_ok,k,Sem.run_pure]
 ·rename_i t0 nl U
  rw[U]at m
  refine jU G Z (x:=.tuple #[]) (c _ _ ?_) (.tup _ _ rfl zS) g
  rcases Xq m with⟨h,_⟩|⟨ad,X,_,h,_⟩ <;>
   simp only[Builtin.clear_,ht,h,List.getElem?_toArray,List.getElem?_cons_zero,Sem.run_bind,run_underlying hu,Result.andThen_ok,Sem.run_pure]
 ·cases g
end
section
variable {P:Program}{E:Env}{w0 w:World}{I0:IMap}{nt:Nat}{γ:Nat→Option Place}{I:IMap}{st:St}{a:Act}{o:Oper}{ub:Nat}{δ:Delta}
def extFn:ExtK→Array Value→Sem Value
  | .count=>Extern.BytealgCount.count
  | .indexByte=>Extern.BytealgIndexByte.indexByte
theorem jt7       {f:FuncId} {k:ExtK} (h:jyl   P f=some k):∃ fn,P.funcs[f]? = some fn∧fn.body.isNone=true∧(fn.name == "runtime.NumGoroutine")=false ∧
    Extern.findNext fn=none∧Extern.find fn=some (extFn k):=by
  unfold jyl at h
  obtain⟨fn,hfn,h⟩:=bind_some h
  split at h
  · cases h
  · rename_i hb
    have hb1:fn.body.isNone=true:=by
      cases hbb:fn.body with
      | none=>rfl
      | some c=>exact absurd (.inl (by rw[hbb];rfl)) hb
    have ho:fn.origin = "" :=Classical.byContradiction fun e=>hb (.inr e)
    split at h
    · rename_i hn
      cases h
      exact⟨fn,hfn,hb1,by rw[hn];rfl,jn2 ho (.inl ⟨hn,rfl⟩)⟩
    · split at h
      · rename_i hn
        cases h
        exact⟨fn,hfn,hb1,by rw[hn];rfl,jn2 ho (.inr ⟨hn,rfl⟩)⟩
      · cases h
theorem ok_ext (v :R E w0 I0 nt γ I st a w) (F :∀ d,o.dst=some d→d<nt) {f:FuncId} {k:ExtK} {c:Call} {l:List A} (L :o.op = .call c) (n   :c.callee = .value (.func f)) (J :opds c.args=some l) (O :jyl   P f=some k)
    (m:j3d k (l.map (eval E st.tm))=some δ):X7 P E w0 I0 nt γ I st a w o ub δ:=by
  obtain⟨T,p,G,H,K,N⟩:=jt7 O
  obtain⟨D,z⟩:=WH v J
  have two:∀ s e ,l.map (eval E st.tm)=[.str s,.int .u8 e ]→∃ g :ByteArray, g.data.toList=s∧∀ x:Value,
      (extFn k #[.string g,.int .u8 e]).run P w=.ok x w→(execOp a.eval o).run P w=.ok (.value x) w:=by
    intro s e Q
    rw[Q]at D z
    have t:(c.args.map a.eval).size=2:=D
    obtain⟨g,r,u⟩:=X3 (z 0 _ _ (Array.getElem?_eq_getElem zO) rfl)
    have B:=jw (z 1 _ _ (Array.getElem?_eq_getElem zO) rfl)
    refine⟨g,u,fun x b=>?_⟩
    have i    :c.args.map a.eval = #[.string g ,.int .u8 e ]:=by
      apply Array.ext
      · simpa using t
      · intro j S q
        match j with
        | 0=>exact r
        | 1=>exact B
        | j+2=>exact absurd q zS
    have y:=run_callFunc_extern (P:=P) p H G K N (c.args.map a.eval) w
    simp only[execOp,L,resolve,n,Act.eval,Deferred.ofValue,Sem.run_bind,Sem.run_pure,Result.andThen_ok,invoke,Array.empty_append,Array.append_empty]
    rw[y,i,b]
    rfl
  generalize M:l.map (eval E st.tm)=vs at m two
  unfold j3d at m
  split at m
  · rename_i s e
    obtain⟨g,h,b⟩:=two s e rfl
    refine jU v F (x:=.int .i64 (s.count e.toNat.toUInt8:Nat)) (b _ ?_) (.pure _ _ (.int _ _)) m
    rw[← h]
    exact Lib.run_countString g e w
  · rename_i s e
    obtain⟨g,h,b⟩:=two s e rfl
    refine jU v F (x:=.int .i64 (jbp s e.toNat.toUInt8)) (b _ ?_) (.pure _ _ (.int _ _)) m
    rw[← h,jgf]
    exact Lib.run_indexByteString g e w
  · cases m
theorem jby (s:ByteArray):∀ (b i:Nat) (c  :Array Value),Conv.runesFrom s b i c  =c  ++((XG s.data.toList b i).map fun r=>Value.int .i32 (Int.ofNat r)).toArray
  | 0,i,c=>by simp[Conv.runesFrom,XG]
  | b+1,i,c  =>by
    unfold Conv.runesFrom XG
    have d:s.data.toList.length=s.size:=zS
    rw[d]
    split
    · have e:(⟨s.data.toList.toArray⟩:ByteArray)=s:=rfl
      rw[e]
      generalize Utf8.decode s i=p
      obtain⟨r,wd⟩:=p
      simp only[jby]
      simp
    · simp
theorem jwo      (D :R E w0 I0 nt γ I st a w) (O :∀ d,o.dst=some d→d<nt) (M :γ ub=none) {s t e:TypeId} {x:Operand} {J :A} (T :o.op = .convert s t x) (S :opd x=some J ) (N :P.underlying s=some .string) (Z :P.underlying t=some (.slice e)) (X :P.underlying e=some (.int .i32))
    (h :(match eval E st.tm J  with
      | .str s=>let f :=XG s s.length 0
        if f.length≤70368744177664 then some { v:=V.sl (some (ub,1)) false f.length (f.map fun r=>.int .i32 (r:Nat)),add:=[ub] } else none
      | _=>none)=some δ):X7 P E w0 I0 nt γ I st a w o ub δ:=by
  have K:=jA D S
  split at h
  · rename_i bs F
    rw[F]at K
    obtain⟨c,B,rfl⟩:=X3 K
    have p:c.data.toList.length=c.size:=zS
    rw[p]at h
    simp only at h
    generalize G:XG c.data.toList c.size 0=f at h
    have l:Conv.runesFrom c c.size 0 #[]=(f.map fun r=>Value.int .i32 (Int.ofNat r)).toArray:=by rw[jby,G];simp
    have g:(Conv.runesFrom c c.size 0 #[]).size=f.length:=by rw[l];simp
    split at h
    · rename_i z
      have i:=run_runes_of_string (P:=P) w s t e c N Z X (by rw[g];exact z)
      rw[g]at i
      have u:=grownCap_ge w f.length 0 e
      have q:=grownCap_le_maxLen w f.length 0 e (by simp only[maxLen];omega)
      refine jmi D  O  M  (b:=w.heap.size) (n:= f.length) (cap:=grownCap w  f.length 0 e) (sz:=1) (cs:= f.map fun r=>V.int .i32 (r:Nat)) (w':=w.drew.alloc _) (del:=none)
        (arr:=Conv.runesFrom c c.size 0 #[]++Array.replicate (grownCap w f.length 0 e - f.length) (.int .i32 0)) (e:=e) ?_ (.inl ⟨rfl,zS⟩) ⟨rfl,rfl,rfl⟩
        (fun k U _=>heap_alloc_old w.drew _ k U) (heap_alloc_new w.drew _) (by simp only[Array.size_append,g,Array.size_replicate,Nat.mul_one];omega) u q (fun j y Q=>?_) zS (fun j v H=>?_) h
      · simp only[execOp,T,B,Sem.run_bind,i,Result.andThen_ok,Sem.run_pure]
      · exact absurd (World.block_lt_of_cell? _ _ (D.imm _ _ _ Q)) (Nat.lt_irrefl _)
      · simp only[List.getElem?_map,Option.map_eq_some_iff]at H
        obtain⟨r,m,rfl⟩:=H
        refine⟨rfl,.int .i32 r,?_,.int _ _⟩
        have L:j<f.length:=(List.getElem?_eq_some_iff.1 m).1
        rw[Array.getElem?_append_left (by rw[g];exact L),l]
        simp[m]
    · cases h
  · cases h
end
section
variable {P:Program}{E:Env}{w0 w:World}{I0:IMap}{nt:Nat}{γ:Nat→Option Place}{I:IMap}{st:St}{a:Act}{o:Oper}{ub:Nat}{δ:Delta}
theorem jle         (s :R E w0 I0 nt γ I st a w) (G :∀ d,o.dst=some d→d<nt) (F :γ ub=none) {t Z  e:TypeId} {x:Operand} {H :A} {d:Nat} (K :o.op = .range t x) (S :opd x=some H ) (N :P.underlying t=some (.map Z  e))
    (i :(match eval E st.tm H  with
      | .nilmap=>Jd d ub .nomap (.iter d ub)
      | .map l u=>(jg st.ob l u).bind fun L=>Jd d ub (.miter l u (jl st.ob l) L none) (.iter d ub)
      | _=>none)=some δ):X7 P E w0 I0 nt γ I st a w o ub δ:=by
  have y:=jA s S
  split at i
  · rename_i q
    rw[q]at y
    have f:=XJ y
    refine YZ s G F (x:=.pointer (some ⟨w.heap.size,0,none⟩)) (obj:=.mapIter none 0 #[] 0) (body:=.nomap) (k:=.n 0) ?_ rfl (fun z h=>.iter _ _ _ _ h) ⟨_,_,_,rfl⟩ i
    simp[execOp,K,f,Instr.range,run_underlying N]
  · rename_i l u q
    rw[q]at y
    obtain⟨b,Q,m,f⟩:=WL y
    obtain⟨L,B,i⟩:=bind_some i
    have r:=Jx B
    obtain⟨M,c,J,T,O,X,p⟩:=jlh s r m
    refine YZ s G F (x:=.pointer (some ⟨w.heap.size,0,none⟩)) (obj:=.mapIter (some b) c #[] c) (k:=.n 0) ?_ rfl (fun z h=>.iter _ _ _ _ h) ?_ i
    · simp[execOp,K,f,Instr.range,run_underlying N,JE J]
    · refine⟨b,Q,c,#[],c,rfl,m,fun D U g=>?_⟩
      rw[r]at g
      simp only[Option.some.injEq,Obj'.mk.injEq,OBody.mp.injEq,true_and]at g
      obtain⟨rfl,rfl⟩:=g
      refine⟨zR,fun _=>⟨M,J,p,zR,?_,fun k v h=>by cases h⟩⟩
      have:(M.toList.filter fun e=>!(#[]:Array Nat).contains e.born)=M.toList:=List.filter_eq_self.2 (fun e _=>by simp)
      rw[this]
      exact⟨by simpa using T,fun j e k v q hk=>O j e k v (by simpa using q) hk⟩
  · cases i
theorem jdo (n:Nat):(choose (.mapNext n)).run P w=if n≤1 then .ok 0 w else .ok (w.tape w.drawn (.mapNext n) % n) w.drew:=by
  by_cases h:n≤1 <;> simp[choose,Sem.run,Question.forced,Question.cut,h]
theorem jwy {m:List MapEntry}(c  :(m.map (·.born)).Nodup) {e b :MapEntry}(d :e∈m) (g :b ∈m) (h:e.born= b.born):e=b :=by
  obtain⟨i,k,rfl⟩:=List.mem_iff_getElem.1 d
  obtain⟨j,f,rfl⟩:=List.mem_iff_getElem.1 g
  have:i=j:=(List.getElem_inj (xs:=m.map (·.born)) (h₀:=by simpa using k) (h₁:=by simpa using f) c).1 (by simpa using h)
  subst this
  rfl
theorem jl3         (m:List MapEntry) (f  :(m.map (·.born)).Nodup) (seen:Array Nat) (j:Nat) (e:MapEntry) (c :(m.filter fun e=>!seen.contains e.born)[j]? = some e) :
    (m.filter fun d=>!(seen.push e.born).contains d.born)=(m.filter fun e=>!seen.contains e.born).eraseIdx j:=by
  have g:e∈m:=(List.mem_filter.1 (List.mem_of_getElem? c)).1
  have k :(m.filter fun d =>!(seen.push e.born).contains  d.born)=(m.filter fun e=>!seen.contains e.born).filter fun d =>!( d.born == e.born):=by
    rw[List.filter_filter]
    refine List.filter_congr fun x _=>?_
    have:(seen.push e.born).contains x.born=(seen.contains x.born || (x.born == e.born)):=by
      rw[Array.contains_push]
    rw[this,Bool.not_or,Bool.and_comm]
  rw[k]
  have b:((m.filter fun e=>!seen.contains e.born).map (·.born)).Nodup:=(List.filter_sublist.map _).nodup f
  generalize m.filter (fun e=>!seen.contains e.born)=L at c b
  clear k g f
  induction L generalizing j with
  | nil=>simp at c
  | cons x L l =>
    simp only[List.map_cons,List.nodup_cons]at b
    cases j with
    | zero=>
      simp only[List.getElem?_cons_zero,Option.some.injEq]at c
      subst c
      simp only[List.filter_cons,beq_self_eq_true,Bool.not_true,Bool.false_eq_true,if_false,List.eraseIdx_cons_zero]
      refine List.filter_eq_self.2 fun y n=>?_
      have:y.born≠x.born:=fun e=>b.1 (List.mem_map.2 ⟨y,n,e⟩)
      simpa using this
    | succ j=>
      simp only[List.getElem?_cons_succ]at c
      have i:x.born≠e.born:=fun h=>b.1 (List.mem_map.2 ⟨e,List.mem_of_getElem? c,h.symm⟩)
      have:(x.born == e.born)=false:=by simpa using i
      simp only[List.filter_cons,this,Bool.not_false,if_true,List.eraseIdx_cons_succ,l j c b.2]
theorem jjm       (l u l' u' ver:Nat):∀ (r b  :List (V × V)) (j:Nat) (k v:V),r[j]? = some (k,v) →
    ({ v:=.tup [.bool true,k,v],obs:=[(l,⟨u,.miter l' u' ver (b++r.eraseIdx j) (some (k,v))⟩)] }:Delta)∈ji3 l u l' u' ver b r
  | [],b,j,k,v,h=>by simp at h
  | (k0,v0)::r,b  ,0,k,v,h=>by
    simp only[List.getElem?_cons_zero,Option.some.injEq,Prod.mk.injEq]at h
    obtain⟨rfl,rfl⟩:=h
    exact List.mem_cons_self ..
  | (k0,v0)::r,b  ,j+1,k,v,h=>by
    simp only[List.getElem?_cons_succ]at h
    have:=jjm l u l' u' ver r (b++[(k0,v0)]) j k v h
    rw[List.append_assoc]at this
    exact List.mem_cons_of_mem _ this
theorem EntsOk.erase {L:List MapEntry}{es:List (V × V)}(h:EntsOk γ I L es) (j:Nat):EntsOk γ I (L.eraseIdx j) (es.eraseIdx j):=by
  refine⟨?_,fun i e k v c b=>?_⟩
  · rw[List.length_eraseIdx,List.length_eraseIdx,h.1]
  · rw[Wu]at c b
    split at c
    · rename_i d
      rw[if_pos d]at b
      exact h.2 i e k v c b
    · rename_i d
      rw[if_neg d]at b
      exact h.2 (i+1) e k v c b
theorem jpg        (hR:R E w0 I0 nt γ I st a w) (hd:∀ d,o.dst=some d→d<nt) {x:Operand} {x':A} {l:List Delta} (ho:o.op = .next x false) (hx:opd x=some x')
    (ha:jlj st.ob st.ro (eval E st.tm x')=some l):∃δ∈l,X7 P E w0 I0 nt γ I st a w o ub δ:=by
  have hr:=jA hR hx
  unfold jlj at ha
  split at ha
  case h_2=>cases ha
  rename_i lb u he
  rw[he]at hr
  obtain⟨b,kb,hγ,hx'⟩:=jcx hr
  have hover:Rep γ I (.tuple #[.bool false]) (.tup [.bool false]):=by
    refine .tup _ _ rfl (fun j y v hy hv=>?_)
    match j with
    | 0=>simp at hy hv;subst hy;subst hv;exact .pure _ _ (.bool _)
    | j+1=>simp at hv
  obtain⟨Ω,hown⟩:=hR.own
  split at ha
  case h_3=>cases ha
  case h_2=>
    rename_i u0 hob
    split at ha
    case isFalse=>cases ha
    rename_i huu
    subst huu
    cases ha
    obtain⟨b',kb',k1,k2,k3,⟨since,seen,stepped,hbs⟩,k5⟩:=hown.ob lb _ hob
    rw[hγ]at k1
    cases k1
    have hg:(getObj b).run P w=.ok (.mapIter none since seen stepped) w:=by simp[getObj,Sem.run,hbs]
    refine⟨_,List.mem_singleton.2 rfl,jU hR hd (x:=.tuple #[.bool false]) ?_ hover rfl⟩
    simp only[execOp,ho,hx',Instr.next,Sem.run_bind,hg,Result.andThen_ok,Sem.run_pure]
  rename_i u0 l' u' ver left last hob
  split at ha
  case isFalse=>cases ha
  rename_i hcond
  obtain⟨hro,huu,hsome,hver⟩:=hcond
  subst huu
  obtain⟨b',kb',k1,k2,k3,⟨mb,mk,since,seen,stepped,hbs,hγm,hall⟩,k5⟩:=hown.ob lb _ hob
  rw[hγ]at k1
  cases k1
  obtain⟨es',hes'⟩:=Option.isSome_iff_exists.1 hsome
  have hob':=Jx hes'
  rw[hver]at hob'
  obtain⟨_,himp⟩:=hall _ _ hob'
  obtain⟨m,hm,hborn,hle,hents,hlast⟩:=himp rfl
  obtain⟨M,clock,g1,g2,g3,hnd,hltc⟩:=jlh hR hob' hγm
  rw[hm]at g1
  simp only[Option.some.injEq,Obj.map.injEq]at g1
  obtain⟨rfl,rfl⟩:=g1
  have hg:(getObj b).run P w=.ok (.mapIter (some mb) since seen stepped) w:=by simp[getObj,Sem.run,hbs]
  have hgm:(getObj mb).run P w=.ok (.map m stepped) w:=JE hm
  have hlt:=hown.lt _ _ k2
  have hset:∀ (W:World) (y:Obj),W.heap=w.heap→(setObj b y).run P W=.ok () { W with heap:=W.heap.setIfInBounds b y }:=by
    intro W y hW
    have:W.heap[b]? = some (.mapIter (some mb) since seen stepped):=by rw[hW];exact hbs
    simp[setObj,Sem.run,this]
  -- what may come next
  have hcnd:(!seen.isEmpty && !m.isEmpty && m.all (fun e=>decide (e.born ≥ stepped)))=false:=by
    cases hme:m.isEmpty with
    | true=>simp
    | false=>
      have hne:0<m.size:=by
        rcases Nat.eq_zero_or_pos m.size with h|h
        · rw[Array.isEmpty_iff_size_eq_zero.2 h]at hme;cases hme
        · exact h
      have:m.all (fun e=>decide (e.born ≥ stepped))=false:=by
        rw[Bool.eq_false_iff]
        intro hall
        rw[Array.all_eq_true_iff_forall_mem]at hall
        have h1:=hall m[0] (Array.getElem_mem hne)
        have h2:=hborn m[0] (Array.getElem_mem hne)
        simp only[decide_eq_true_eq]at h1
        omega
      rw[this];simp
  generalize hL:(m.filter fun e=>!seen.contains e.born)=L
  have hLl:(m.toList.filter fun e=>!seen.contains e.born)=L.toList:=by rw[← hL,Array.toList_filter]
  rw[hLl]at hents
  have hold:(L.filter fun e=>decide (e.born<since))=L:=by
    refine Array.filter_eq_self.2 fun e he=>?_
    rw[← hL]at he
    simpa using hborn e (Array.mem_filter.1 he).1
  have hnew:(L.filter fun e=>decide (e.born ≥ since)) = #[]:=by
    refine Array.filter_eq_empty_iff.2 fun e he=>?_
    rw[← hL]at he
    have:=hborn e (Array.mem_filter.1 he).1
    simp only[decide_eq_true_eq]
    omega
  have hrun0:∀ r,((do match ((if L.isEmpty then #[none] else #[])++(L++#[]).map some:Array (Option MapEntry))[← choose (.mapNext ((if L.isEmpty then #[none] else #[])++(L++#[]).map some:Array (Option MapEntry)).size)]? with
      | some (some e)=>
        setObj b (.mapIter (some mb) since (seen.push e.born) stepped)
        pure (.tuple #[.bool true,e.key,e.val])
      | some none=>pure (.tuple #[.bool false])
      | none=>stuck "Next: no such candidate"):Sem Value).run P w=r→(Instr.next (.pointer (some ⟨b,0,none⟩)) false o.type).run P w=r:=by
    intro r h
    rw[← h]
    simp only[Instr.next,Sem.run_bind,hg,hgm,Result.andThen_ok,hcnd,Bool.false_eq_true,if_false,hL,hold,hnew]
    rfl
  split at ha
  · cases ha
    have hl0:L.toList=[]:=List.eq_nil_of_length_eq_zero (by rw[hents.1];rfl)
    have hL0:L = #[]:=by rw[← Array.toArray_toList (xs:=L),hl0]
    refine⟨_,List.mem_singleton.2 rfl,jU hR hd (x:=.tuple #[.bool false]) ?_ hover rfl⟩
    have:=hrun0 (.ok (.tuple #[.bool false]) w) (by
      subst hL0
      simp only[List.isEmpty_toArray,List.isEmpty_nil,if_true,Array.append_empty,List.map_toArray,List.map_nil,List.size_toArray,List.length_cons,List.length_nil,Nat.zero_add,Sem.run_bind,jdo,Nat.le_refl,Result.andThen_ok,List.getElem?_toArray,List.getElem?_cons_zero,Sem.run_pure])
    simp only[execOp,ho,hx',Sem.run_bind,this,Result.andThen_ok,Sem.run_pure]
  · rename_i es hne
    cases ha
    have hpos:0<left.length:=List.length_pos_iff.2 hne
    have hsz:L.size=left.length:=by rw[← hents.1,Array.length_toList]
    have hie:L.isEmpty=false:=by
      rw[Bool.eq_false_iff]
      intro h
      have:=Array.isEmpty_iff_size_eq_zero.1 h
      omega
    have hch:∃j W,(choose (.mapNext L.size)).run P w=.ok j W∧j<L.size∧(W=w∨W=w.drew):=by
      rw[jdo]
      split
      · exact⟨0,w,rfl,zO,.inl rfl⟩
      · exact⟨_,_,rfl,Nat.mod_lt _ zO,.inr rfl⟩
    obtain⟨j,W,hc,hj,hW⟩:=hch
    have hWh:W.heap=w.heap:=by rcases hW with rfl|rfl <;> rfl
    have hWo:W.os=w.os∧W.tape=w.tape∧W.output=w.output:=by rcases hW with rfl|rfl <;> exact⟨rfl,rfl,rfl⟩
    have hej:L.toList[j]? = some L[j]:=by rw[Array.getElem?_toList,Array.getElem?_eq_getElem hj]
    have hlj:left[j]? = some (left[j]' zO):=List.getElem?_eq_getElem _
    generalize hkv:left[j]' zO=kv at hlj
    obtain⟨k,v⟩:=kv
    generalize hE:L[j]=en at hej
    have hkr:=hents.2 j en k v hej hlj
    have hrun:=hrun0 (.ok (.tuple #[.bool true,en.key,en.val]) { W with heap:=W.heap.setIfInBounds b (.mapIter (some mb) since (seen.push en.born) stepped) }) (by
      have hsz2:(Array.map some L).size=L.size:=Array.size_map
      have hget:(Array.map some L)[j]? = some (some en):=by rw[Array.getElem?_map,Array.getElem?_eq_getElem hj,hE];rfl
      simp only[hie,Bool.false_eq_true,if_false,Array.append_empty,Array.empty_append,hsz2,Sem.run_bind,hc,Result.andThen_ok,hget,hset W _ hWh,Sem.run_pure])
    refine⟨_,jjm lb u0 l' u' ver left [] j k v hlj,Yq hR hd hob hro (body':=.miter l' u' ver ([]++left.eraseIdx j) (some (k,v))) (x:=.tuple #[.bool true,en.key,en.val]) (w':={ W with heap:=W.heap.setIfInBounds b (.mapIter (some mb) since (seen.push en.born) stepped) }) (.inl ?_) ?_ (fun v es h=>by cases h) ?_ rfl⟩
    · simp only[execOp,ho,hx',Sem.run_bind,hrun,Result.andThen_ok,Sem.run_pure]
    · refine .tup _ _ rfl (fun i y q hy hq=>?_)
      match i with
      | 0=>simp at hy hq;subst hy;subst hq;exact .pure _ _ (.bool _)
      | 1=>simp at hy hq;subst hy;subst hq;exact .pure _ _ hkr.1
      | 2=>simp at hy hq;subst hy;subst hq;exact hkr.2
      | i+3=>simp at hq
    · intro b2 k2' hb2 hlt2
      rw[hγ]at hb2
      cases hb2
      refine⟨hWo.1,hWo.2.1,hWo.2.2,by simp[hWh],fun q hq=>by show(W.heap.setIfInBounds b _)[q]? = _;rw[hWh];exact Jg w b q _ hq,?_⟩
      have hblk:({ W with heap:=W.heap.setIfInBounds b (.mapIter (some mb) since (seen.push en.born) stepped) }:World).heap[b]? = some (.mapIter (some mb) since (seen.push en.born) stepped):=by
        show(W.heap.setIfInBounds b _)[b]? = _
        rw[hWh]
        exact J4 w b _ hlt
      rw[hblk]
      refine⟨mb,mk,since,_,stepped,rfl,hγm,fun ver' es2 he2=>?_⟩
      rw[hob']at he2
      simp only[Option.some.injEq,Obj'.mk.injEq,OBody.mp.injEq,true_and]at he2
      obtain⟨rfl,rfl⟩:=he2
      refine⟨zR,fun _=>⟨m,hm,hborn,hle,?_,fun k2 v2 hlast2=>?_⟩⟩
      · rw[List.nil_append,jl3 m.toList hnd seen j en (by rw[hLl];exact hej),hLl]
        exact hents.erase j
      · simp only[Option.some.injEq,Prod.mk.injEq]at hlast2
        obtain⟨rfl,rfl⟩:=hlast2
        have hmem:en∈m.toList:=by
          have:=List.mem_of_getElem? hej
          rw[← hLl]at this
          exact(List.mem_filter.1 this).1
        refine⟨en.born,en,zS,?_,hkr.1,hkr.2⟩
        cases hfd:m.find? (fun e=>e.born == en.born) with
        | none=>
          have:=Array.find?_eq_none.1 hfd en (by simpa using hmem)
          simp at this
        | some e2=>
          have h1:=Array.mem_of_find?_eq_some hfd
          have h2:=Array.find?_some hfd
          have he2:e2=en:=jwy hnd (by simpa using h1) hmem (by simpa using h2)
          rw[he2]
theorem jwu      (Q :R E w0 I0 nt γ I st a w) (hd:∀ d,o.dst=some d→d<nt) {x:Operand} {Z :A} (ho:o.op = .entry x) (hx:opd x=some Z )
    (j :(match eval E st.tm Z  with
      | .iter l u=>match st.ob l with
        | some ⟨u',.miter S u2 G _ (some (k,v))⟩=>if u'=u∧(jg st.ob S u2).isSome=true∧jl st.ob S=G then one (.tup [k,v]) else none
        | _=>none
      | _=>none)=some δ):X7 P E w0 I0 nt γ I st a w o ub δ:=by
  have hr:=jA Q hx
  split at j
  case h_2=>cases j
  rename_i lb u he
  rw[he]at hr
  obtain⟨b,kb,K,N⟩:=jcx hr
  obtain⟨Ω,D⟩:=Q.own
  split at j
  case h_2=>cases j
  rename_i u0 S u' G left k v T
  split at j
  case isFalse=>cases j
  rename_i p
  obtain⟨M,h,s⟩:=p
  subst M
  obtain⟨b',b0,k1,k2,k3,⟨mb,mk,g,t,c,J,a0,B⟩,k5⟩:=D.ob lb _ T
  rw[K]at k1
  cases k1
  obtain⟨b6,z⟩:=Option.isSome_iff_exists.1 h
  have f:=Jx z
  rw[s]at f
  obtain⟨_,r⟩:=B _ _ f
  obtain⟨m,hm,U,b5,X,n⟩:=r rfl
  obtain⟨L,e,h1,h2,h3,h4⟩:=n k v rfl
  have hg:(getObj b).run P w=.ok (.mapIter (some mb) g t c) w:=by simp[getObj,Sem.run,J]
  have O:(getObj mb).run P w=.ok (.map m c) w:=JE hm
  refine jU Q hd (x:=.tuple #[e.key,e.val]) ?_ ?_ j
  · have hb:(c != c)=false:=by simp
    simp only[execOp,ho,N,Instr.entry,Sem.run_bind,hg,O,Result.andThen_ok,h1,hb,Bool.false_eq_true,if_false,h2,Sem.run_pure]
  · refine .tup _ _ rfl (fun i y q H F=>?_)
    match i with
    | 0=>simp at H F;subst H;subst F;exact .pure _ _ h3
    | 1=>simp at H F;subst H;subst F;exact h4
    | i+2=>simp at F
end
section
variable {P:Program}{E:Env}{w0 w:World}{I0:IMap}{nt:Nat}{γ:Nat→Option Place}{I:IMap}{st:St}{a:Act}{o:Oper}{ub:Nat}{δ:Delta}
theorem jsc (hR:R E w0 I0 nt γ I st a w) (hd:∀d,o.dst=some d→d<nt) {t kt e:TypeId}{m k:Operand}{m' k':A}{q:LK}{i:TypeInfo}{z:Value}{zv:V}(ho:o.op=.mapEntry t m k) (hm:opd m=some m') (p:opd k=some k')
 (O:P.underlying t=some (.map kt e)) (hq:jko P kt=some q) (hi:P.info? e=some i) (hz:i.zero=some z) (d1:Ye z=some zv)
 (B:(if jau q (eval E st.tm k') then match eval E st.tm m' with
  | .map l u=>if Nat.ble st.ro u && Nat.blt (jl st.ob l) ju3 then (jg st.ob l u).bind fun F=>(findKey q (eval E st.tm k') F).bind fun r=>match r with
   | some (i,v)=>some { v:=.tup [v,.int .i64 i],obs:=[(l,⟨u,.mp (jl st.ob l+1) (F.set i (eval E st.tm k',v))⟩)] }
   | none=>some { v:=.tup [zv,.int .i64 F.length],obs:=[(l,⟨u,.mp (jl st.ob l+1) (F++[(eval E st.tm k',zv)])⟩)] }
   else none
  | _=>none else none)=some δ):X7 P E w0 I0 nt γ I st a w o ub δ:=by
 obtain⟨d,K,S⟩:=jcw hq
 have b5:=jA hR hm
 have Q:=jA hR p
 have b8:Rep γ I z zv:=.pure _ _ (Qj d1)
 have L:∀ (x:Value) (v:V) (n:Nat),Rep γ I x v→Rep γ I (.tuple #[x,goInt n]) (.tup [v,.int .i64 n]):=by
  intro x v n h
  refine .tup _ _ rfl (fun j y u U O=>?_)
  match j with
  | 0=>simp at U O;subst U;subst O;exact h
  | 1=>simp at U O;subst U;subst O;exact .pure _ _ (.int _ _)
  | j+2=>simp at O
 split at B
 ·rename_i c2
  have b9:=js5 Q c2
  split at B
  ·rename_i l u g
   rw[g]at b5
   obtain⟨b,kb,Z,c1⟩:=WL b5
   split at B
   case isFalse=>cases B
   rename_i D
   rw[Bool.and_eq_true]at D
   obtain⟨D,T⟩:=D
   have T:jl st.ob l<ju3:=by simpa using T
   obtain⟨F,c9,B⟩:=bind_some B
   obtain⟨r,hr,B⟩:=bind_some B
   have a0:=Jx c9
   obtain⟨M,f,h1,h2,h3,b6,X,c7⟩:=jal hR a0 Z
   have hD:=c7 T
   have d6:b<w.heap.size:=(Array.getElem?_eq_some_iff.1 h1).1
   have c4:=YN S Q M.toList F 0 r (by simpa using h2) (fun j e k v g p=>h3 j e k v (by simpa using g) p) hr
   rcases c4 with⟨rfl,hf⟩|⟨j,v0,J,rfl,c6,⟨c0,N,c5⟩,hf⟩
   ·refine Yq hR hd a0 D (body':=.mp _ _) (x:=.tuple #[z,goInt f]) (v:=.tup [zv,.int .i64 F.length]) (w':={ w with heap:=w.heap.setIfInBounds b (.map (M.push { key:=a.eval k,val:=z,born:=f }) (f+1)) }) (.inl ?_) ?_ (fun v F h=>by cases h;exact⟨_,_,rfl,Nat.lt_succ_self _⟩) ?_ B
    ·simp only[execOp,ho,c1,Instr.mapEntry,Sem.run_bind,run_underlying O,Result.andThen_ok,Sem.run_pure,JE h1,J5 K S,Ja K hf,J1 hi hz,XU h1]
    ·have:f=F.length:=hD.1.trans h2
     rw[this]
     exact L _ _ _ b8
    ·intro b' k0 H G
     rw[Z]at H
     cases H
     refine⟨rfl,rfl,rfl,zS,fun k p=>Jg w b k _ p,?_⟩
     rw[J4 w b _ G]
     refine⟨_,_,rfl,Qq (by simp[h2]) (fun j J kk vv g p=>?_),?_,fun e g=>?_,fun _=>jgj hD⟩
     case refine_2=>
      rw[Array.toList_push,List.map_append,List.map_cons,List.map_nil]
      refine List.nodup_append.2 ⟨b6,zS,fun x hx y U=>?_⟩
      simp only[List.mem_singleton]at U
      subst U
      obtain⟨e,g,rfl⟩:=List.mem_map.1 hx
      exact Nat.ne_of_lt (X e (by simpa using g))
     case refine_3=>
      rcases Array.mem_push.1 g with g|rfl
      ·exact Nat.lt_succ_of_lt (X e g)
      ·exact Nat.lt_succ_self _
     rw[Array.getElem?_push]at g
     split at g
     ·rename_i hj
      cases g
      subst hj
      rw[List.getElem?_append_right zO,h2]at p
      simp at p
      obtain⟨rfl,rfl⟩:=p
      exact⟨b9,b8⟩
     ·rename_i hj
      have d3:j<F.length:=by have:=(Array.getElem?_eq_some_iff.1 g).1;omega
      rw[List.getElem?_append_left d3]at p
      exact h3 j J kk vv g p
   ·have c:M[j]? = some J:=by simpa using c6
    have d5:j<M.size:=(Array.getElem?_eq_some_iff.1 c).1
    have c3:=(h3 j J c0 v0 c N).2
    have b0:J.born=j:=hD.2 j J c
    refine Yq hR hd a0 D (body':=.mp _ _) (x:=.tuple #[J.val,goInt j]) (v:=.tup [v0,.int .i64 j]) (w':={ w with heap:=w.heap.setIfInBounds b (.map (M.modify j fun e=>{ e with key:=a.eval k }) f) }) (.inl ?_) (L _ _ _ c3) (fun v F h=>by cases h;exact⟨_,_,rfl,Nat.lt_succ_self _⟩) ?_ (by simpa using B)
    ·have d0:(Instr.keyThatStays J.key (a.eval k)).run P w=.ok (a.eval k) w:=jnh (γ:=γ) (I:=I) Q (.pure _ _ (h3 j J c0 v0 c N).1) c5
     simp only[Nat.zero_add]at hf
     simp only[execOp,ho,c1,Instr.mapEntry,Sem.run_bind,run_underlying O,Result.andThen_ok,Sem.run_pure,JE h1,J5 K S,Ja K hf,c,Option.map_some,Option.getD_some,d0,XU h1,b0]
    ·intro b' k0 H G
     rw[Z]at H
     cases H
     refine⟨rfl,rfl,rfl,zS,fun k p=>Jg w b k _ p,?_⟩
     rw[J4 w b _ G]
     have b7:(M.modify j fun e=>{ e with key:=a.eval k }).toList.map (·.born)=M.toList.map (·.born):=by
      apply List.ext_getElem?
      intro i
      simp only[List.getElem?_map,Array.getElem?_toList,Array.getElem?_modify]
      by_cases s:j=i
      ·subst s;simp[c]
      ·simp[s]
     refine⟨_,_,rfl,Qq (by simp[h2]) (fun i d4 kk vv g p=>?_),by rw[b7];exact b6,fun e g=>?_,fun _=>Wx (fun _=>rfl) hD⟩
     case refine_2=>
      have:e.born∈(M.modify j fun e=>{ e with key:=a.eval k }).toList.map (·.born):=List.mem_map.2 ⟨e,Array.mem_toList_iff.2 g,rfl⟩
      rw[b7]at this
      obtain⟨e2,d2,c8⟩:=List.mem_map.1 this
      rw[← c8]
      exact X e2 (by simpa using d2)
     rw[Array.getElem?_modify]at g
     by_cases s:j=i
     ·subst s
      simp only[if_true,c,Option.map_some,Option.some.injEq]at g
      subst g
      rw[List.getElem?_set_self zO]at p
      cases p
      exact⟨b9,c3⟩
     ·rw[if_neg s]at g
      rw[List.getElem?_set_ne s]at p
      exact h3 i d4 kk vv g p
  ·cases B
 ·cases B
theorem jwv (K:R E w0 I0 nt γ I st a w) (hd:∀d,o.dst=some d→d<nt) {t:TypeId}{m s x:Operand}{m' s' x':A}(ho:o.op=.entryStore t m s x) (hm:opd m=some m') (hs:opd s=some s') (hx:opd x=some x')
 (p:(match eval E st.tm m',eval E st.tm s' with
  | .map l u,.int .i64 (.ofNat n)=>if Nat.ble st.ro u && Nat.blt (jl st.ob l) ju3 then (jg st.ob l u).bind fun T=>match T[n]? with
   | some (k,_)=>some { v:=jq,obs:=[(l,⟨u,.mp (jl st.ob l+1) (T.set n (k,(eval E st.tm x').strip))⟩)] }
   | none=>none
   else none
  | _,_=>none)=some δ):X7 P E w0 I0 nt γ I st a w o ub δ:=by
 have G:=jA K hm
 have Q:=jA K hs
 have U:=(jA K hx).strip
 split at p
 ·rename_i l u n r B
  rw[r]at G
  rw[B]at Q
  obtain⟨b,kb,H,a0⟩:=WL G
  have b8:=jw Q
  split at p
  case isFalse=>cases p
  rename_i g
  rw[Bool.and_eq_true]at g
  obtain⟨g,y⟩:=g
  have y:jl st.ob l<ju3:=by simpa using y
  obtain⟨T,B,p⟩:=bind_some p
  have S:=Jx B
  obtain⟨M,z,h1,h2,h3,b7,b0,b5⟩:=jal K S H
  have hD:=b5 y
  split at p
  case h_2=>cases p
  rename_i k0 v0 L
  have f:n<M.size:=by rw[h2];exact(List.getElem?_eq_some_iff.1 L).1
  have q:M[n]? = some M[n]:=Array.getElem?_eq_getElem f
  have X:M.findIdx? (fun e=>(e.born:Int) == (n:Int))=some n:=by
   rw[Array.findIdx?_eq_some_iff_getElem]
   refine⟨f,by rw[hD.2 n _ q];simp,fun j hj=>?_⟩
   have:=hD.2 j _ (Array.getElem?_eq_getElem (Nat.lt_trans hj f))
   simp only[this,Bool.not_eq_true,beq_eq_false_iff_ne,ne_eq]
   omega
  have J:M.findIdx? (fun e=>(e.born:Int) == (Int.ofNat n))=some n:=X
  refine Yq K hd S g (body':=.mp _ _) (x:=undef) (v:=jq) (w':={ w with heap:=w.heap.setIfInBounds b (.map (M.modify n fun e=>{ e with val:=a.eval x }) z) }) (.inr ⟨?_,rfl⟩) (.tup _ _ rfl zS) (fun v T h=>by cases h;exact⟨_,_,rfl,Nat.lt_succ_self _⟩) ?_ p
  ·simp only[execOp,ho,a0,b8,Instr.entryStore,asInt,asIntOf,Sem.run_bind,Result.andThen_ok,Sem.run_pure,JE h1,J,XU h1]
  ·intro b' k1 N F
   rw[H]at N
   cases N
   refine⟨rfl,rfl,rfl,zS,fun k D=>Jg w b k _ D,?_⟩
   rw[J4 w b _ F]
   have O:(M.modify n fun e=>{ e with val:=a.eval x }).toList.map (·.born)=M.toList.map (·.born):=by
    apply List.ext_getElem?
    intro i
    simp only[List.getElem?_map,Array.getElem?_toList,Array.getElem?_modify]
    by_cases c:n=i
    ·subst c;simp[q]
    ·simp[c]
   refine⟨_,_,rfl,Qq (by simp[h2]) (fun i Z kk vv r D=>?_),by rw[O];exact b7,fun e r=>?_,fun _=>Wx (fun _=>rfl) hD⟩
   case refine_2=>
    have:e.born∈(M.modify n fun e=>{ e with val:=a.eval x }).toList.map (·.born):=List.mem_map.2 ⟨e,Array.mem_toList_iff.2 r,rfl⟩
    rw[O]at this
    obtain⟨e2,b9,b6⟩:=List.mem_map.1 this
    rw[← b6]
    exact b0 e2 (by simpa using b9)
   rw[Array.getElem?_modify]at r
   by_cases c:n=i
   ·subst c
    simp only[if_true,q,Option.map_some,Option.some.injEq]at r
    subst r
    rw[List.getElem?_set_self zO]at D
    cases D
    exact⟨(h3 n _ _ _ q L).1,U⟩
   ·rw[if_neg c]at r
    rw[List.getElem?_set_ne c]at D
    exact h3 i Z kk vv r D
 ·cases p
end
section
variable {P:Program}{E:Env}{w0 w:World}{I0:IMap}{nt:Nat}{γ:Nat→Option Place}{I:IMap}{st:St}{a:Act}{o:Oper}{ub:Nat}{δ:Delta}
theorem jcu {xs:Array Operand}{y:A}(h:opds xs=some [y]):∃x,xs = #[x]∧opd x=some y:=by
 obtain⟨c,b⟩:=ju h
 obtain⟨l⟩:=xs
 match l,c,b with
 | [x],_,b=>exact⟨x,rfl,b 0 x y rfl rfl⟩
theorem jha {xs:Array Operand}{y z:A}(h:opds xs=some [y,z]):∃x b,xs = #[x,b]∧opd x=some y∧opd b=some z:=by
 obtain⟨d,c⟩:=ju h
 obtain⟨l⟩:=xs
 match l,d,c with
 | [x,b],_,c=>exact⟨x,b,rfl,c 0 x y rfl rfl,c 1 b z rfl rfl⟩
theorem jje (F:R E w0 I0 nt γ I st a w) (y:∀d,o.dst=some d→d<nt) (q:γ ub=none) {t e:TypeId}{s x:Operand}{s' M:A}{i:TypeInfo}{z:Value}{d:Nat}{m:Bool}(D:o.op=.call { callee:=.builtin .append,args:=#[s,x],argTypes:=#[t,t] })
 (v:opd s=some s') (B:opd x=some M) (G:P.underlying t=some (.slice e)) (hi:P.info? e=some i) (r:i.zero=some z) (j:0<i.size) (p:z.cells.size=i.size) {N:FuncId→List V→Option V}
 (g:aop N (eval E st.tm) st.ob st.tk st.ro d ub (.append m i.size i.bytes s' M)=some δ):X7 P E w0 I0 nt γ I st a w o ub δ:=by
 simp only[aop]at g
 split at g
 ·rename_i Q O n cs f
  obtain⟨L,c,h⟩:=bind_some g
  clear g
  by_cases b:L=[]
  ·rw[if_pos b]at h
   exact jjf F y q D v B G hi r j p (by rw[f];simp only[c,Option.bind_some];rw[if_pos b];exact h)
  ·rw[if_neg b]at h
   by_cases k:(m && O)=true
   ·rw[if_pos k]at h
    simp only[Bool.and_eq_true]at k
    obtain⟨rfl,rfl⟩:=k
    simp only[Option.ite_none_right_eq_some]at h
    obtain⟨H,h⟩:=h
    exact jf3 F y q D v B G hi r j p c (.inl ⟨Q,n,cs,f,b,H.2.1,H.2.2.1,H.2.2.2,h⟩)
   ·rw[if_neg k]at h
    exact jjf F y q D v B G hi r j p (by rw[f];simp only[c,Option.bind_some];rw[if_neg b];exact h)
 ·rename_i l u off n K f
  obtain⟨L,c,g⟩:=bind_some g
  obtain⟨cs,J,g⟩:=bind_some g
  exact jf3 F y q D v B G hi r j p c (.inr ⟨l,u,off,n,K,cs,f,J,g⟩)
 ·cases g
theorem op_ok {m:Bool}{ao:AOp}{cd:FuncId→List V→Option V}{d:Nat}(u:R E w0 I0 nt γ I st a w) (r:∀d,o.dst=some d→d<nt) (S:γ ub=none) (h:JX P m o=some ao) (hn:ao.isCall=false)
 (p:aop cd (eval E st.tm) st.ob st.tk st.ro d ub ao=some δ):X7 P E w0 I0 nt γ I st a w o ub δ:=by
 unfold JX at h
 split at h
 ·rename_i c T
  obtain⟨c4,c1,b8⟩:=c
  unfold QJ at h
  split at h
  ·obtain⟨l,v,rfl⟩:=map_some h
   split at hn
   ·rename_i k K
    exact ok_ext u r T (by assumption) v K (by simp only[K]at p;exact p)
   ·cases hn
  ·obtain⟨_,_,h⟩:=bind_some h
   obtain⟨_,_,rfl⟩:=map_some h
   cases hn
  ·cases h
  rename_i b a0
  simp only at a0
  subst a0
  have h:=(Option.filter_eq_some_iff.1 h).1
  simp only at h
  unfold jev at h
  split at h
  ·obtain⟨l,v,h⟩:=bind_some h
   split at h
   ·rename_i D
    cases h
    obtain⟨x,rfl,j⟩:=jcu v
    obtain⟨t,N,L⟩:=bind_some D
    exact jsf u r T j N L p
   ·rename_i D
    cases h
    obtain⟨x,rfl,j⟩:=jcu v
    obtain⟨t,N,L⟩:=bind_some D
    exact jwq u r T j N L p
   ·rename_i D
    cases h
    obtain⟨x,rfl,j⟩:=jcu v
    obtain⟨t,N,L⟩:=bind_some D
    exact jsg u r T j N L p
   ·cases h
  ·obtain⟨l,v,h⟩:=bind_some h
   split at h
   ·rename_i Z
    split at h
    ·rename_i b7
     subst b7
     split at h
     ·rename_i L
      obtain⟨i,M,h⟩:=bind_some h
      obtain⟨z,H,h⟩:=bind_some h
      split at h
      ·rename_i O
       cases h
       obtain⟨x,y,rfl,j,G⟩:=jha v
       obtain⟨l2⟩:=b8
       simp only at Z
       subst Z
       exact jje u r S T j G L M H O.1 O.2 p
      ·cases h
     ·cases h
    ·cases h
   ·cases h
  ·obtain⟨l,v,rfl⟩:=map_some h
   exact jjb (isMax:=false) u r T v p
  ·obtain⟨l,v,rfl⟩:=map_some h
   exact jjb (isMax:=true) u r T v p
  ·obtain⟨l,v,h⟩:=bind_some h
   split at h
   ·rename_i D
    obtain⟨sz,O,rfl⟩:=map_some h
    obtain⟨x,y,rfl,j,G⟩:=jha v
    obtain⟨t,N,L⟩:=bind_some D
    exact j1u u r T N j G L O p
   ·cases h
  ·obtain⟨l,v,h⟩:=bind_some h
   split at h
   ·rename_i D
    obtain⟨sz,O,h⟩:=bind_some h
    obtain⟨z,H,rfl⟩:=map_some h
    obtain⟨x,rfl,j⟩:=jcu v
    obtain⟨t,N,L⟩:=bind_some D
    exact jww u r T N j L H p
   ·cases h
  ·obtain⟨l,v,h⟩:=bind_some h
   split at h
   ·rename_i D
    obtain⟨q,X,rfl⟩:=map_some h
    obtain⟨x,y,rfl,j,G⟩:=jha v
    obtain⟨t,N,L⟩:=bind_some D
    exact jsd u r T N j G L X p
   ·cases h
  ·cases h
 ·obtain⟨F,j,rfl⟩:=map_some h
  cases p
 ·have h:=(Option.filter_eq_some_iff.1 h).1
  unfold jl5 at h
  split at h
  ·obtain⟨y,G,rfl⟩:=map_some h
   exact jsb u r (.inl (by assumption)) G p
  ·obtain⟨y,G,rfl⟩:=map_some h
   exact jsb u r (.inr (by assumption)) G p
  ·obtain⟨c',h1,h⟩:=bind_some h
   obtain⟨F,h2,h⟩:=bind_some h
   obtain⟨y',h3,rfl⟩:=map_some h
   exact j1q u r (by assumption) h1 h2 h3 p
  ·obtain⟨z,H,rfl⟩:=map_some h
   exact jwx u r S (by assumption) H p
  ·obtain⟨n,h1,h⟩:=bind_some h
   obtain⟨F,h2,rfl⟩:=map_some h
   exact ok_box u r S (by assumption) h2 p
  ·obtain⟨z,H,h⟩:=bind_some h
   split at h
   ·obtain⟨b6,hp,h⟩:=bind_some h
    obtain⟨l,v,rfl⟩:=map_some h
    exact jm8 u r (by assumption) H (.inl ⟨_,_,by assumption,hp,rfl⟩) v p
   ·obtain⟨s,J,h⟩:=bind_some h
    obtain⟨l,v,rfl⟩:=map_some h
    exact jm8 u r (by assumption) H (.inr ⟨_,_,_,by assumption,J,rfl⟩) v p
   ·cases h
  ·split at h
   ·obtain⟨s,J,h⟩:=bind_some h
    obtain⟨z,H,h⟩:=bind_some h
    split at h
    ·rename_i B
     obtain⟨l,v,rfl⟩:=map_some h
     cases m with
     | false=>exact jpi u r S (by assumption) (by assumption) J H B.1 B.2.1 B.2.2 v p
     | true=>exact jlg u r S (by assumption) (by assumption) J H B.1 B.2.1 B.2.2 v p
    ·cases h
   ·cases h
  ·obtain⟨g,hg,h⟩:=bind_some h
   obtain⟨F,j,rfl⟩:=map_some h
   exact j1t u r (by assumption) j hg p
  ·obtain⟨s,J,h⟩:=bind_some h
   obtain⟨F,j,h⟩:=bind_some h
   obtain⟨y',G,rfl⟩:=map_some h
   exact jwl u r (by assumption) j G J p
  ·obtain⟨F,j,rfl⟩:=map_some h
   exact jlf u r (by assumption) j p
  ·obtain⟨F,j,h⟩:=bind_some h
   obtain⟨y',G,h⟩:=bind_some h
   split at h
   ·split at h
    ·cases h
     exact jsl u r (by assumption) j G p
    ·obtain⟨k,K,rfl⟩:=map_some h
     simp only[aop]at p
     split at p
     ·exact jm7 u r (neg:=false) (by assumption) j G K (by assumption) (by assumption) p
     ·exact ok_eq u r (neg:=false) (by assumption) j G K p
   ·split at h
    ·cases h
     exact jsl u r (by assumption) j G p
    ·obtain⟨k,K,rfl⟩:=map_some h
     simp only[aop]at p
     split at p
     ·exact jm7 u r (neg:=true) (by assumption) j G K (by assumption) (by assumption) p
     ·exact ok_eq u r (neg:=true) (by assumption) j G K p
   ·cases h
    exact jsl u r (by assumption) j G p
  ·obtain⟨F,j,rfl⟩:=map_some h
   exact ok_un u r (by assumption) j p
  ·split at h
   ·obtain⟨F,j,rfl⟩:=map_some h
    exact j1v u r (by assumption) j (by assumption) (by assumption) p
   ·obtain⟨F,j,rfl⟩:=map_some h
    exact jsk u r (by assumption) j (by assumption) (by assumption) p
   ·split at h
    ·obtain⟨F,j,rfl⟩:=map_some h
     exact jwo u r S (by assumption) j (by assumption) (by assumption) (by assumption) p
    ·cases h
   ·cases h
  ·split at h
   ·cases h
   ·rename_i L b5
    obtain⟨F,j,rfl⟩:=map_some h
    exact jwr u r (by assumption) j (by assumption) (fun ms e=>by subst e;simp_all) p
   ·cases h
  ·obtain⟨xs,j,h⟩:=bind_some h
   obtain⟨ys,G,rfl⟩:=map_some h
   exact j1s u r (by assumption) j G p
  ·cases h
   exact jwp u r S (by assumption) p
  ·split at h
   ·obtain⟨i,M,h⟩:=bind_some h
    obtain⟨z,H,h⟩:=bind_some h
    obtain⟨l',v,h⟩:=bind_some h
    obtain⟨c',c0,rfl⟩:=map_some h
    exact j1r u r S (by assumption) v c0 (by assumption) M H p
   ·cases h
  ·split at h
   ·cases h
   ·rename_i b5 L
    obtain⟨i,M,h⟩:=bind_some h
    obtain⟨z,H,h⟩:=bind_some h
    obtain⟨zv,Q,h⟩:=bind_some h
    obtain⟨F,j,rfl⟩:=map_some h
    exact jsm u r (by assumption) j L (fun ms e=>b5 ms e) M H Q p
   ·cases h
  ·obtain⟨F,j,h⟩:=bind_some h
   obtain⟨c2,v,h⟩:=bind_some h
   obtain⟨c3,hh,h⟩:=bind_some h
   split at h
   ·cases h
    exact jwm u r (by assumption) j v hh (by assumption) p
   ·obtain⟨s,J,rfl⟩:=map_some h
    exact j1p u r (by assumption) j v hh (by assumption) J p
   ·split at h
    ·obtain⟨s,J,rfl⟩:=map_some h
     exact jwn u r (by assumption) j v hh (by assumption) (by assumption) J p
    ·cases h
   ·cases h
  ·obtain⟨f,b0,h⟩:=bind_some h
   obtain⟨n,b9,h⟩:=bind_some h
   split at h
   ·cases h
   ·obtain⟨F,j,rfl⟩:=map_some h
    exact jjd u r (by assumption) j b0 b9 (by assumption) p
  ·obtain⟨f,b0,h⟩:=bind_some h
   obtain⟨g,hg,h⟩:=bind_some h
   obtain⟨F,j,rfl⟩:=map_some h
   exact jwt u r (by assumption) j b0 hg p
  ·obtain⟨F,j,h⟩:=bind_some h
   obtain⟨i',M,h⟩:=bind_some h
   split at h
   ·obtain⟨s,J,h⟩:=bind_some h
    split at h
    ·cases h
    ·cases h
     exact jws u r (by assumption) j M (by assumption) J (by assumption) p
   ·obtain⟨s,J,rfl⟩:=map_some h
    exact jsj u r (by assumption) j M (by assumption) J p
   ·cases h
  ·obtain⟨F,j,h⟩:=bind_some h
   obtain⟨i',M,h⟩:=bind_some h
   split at h
   ·cases h
    exact jsi u r (by assumption) j M (by assumption) p
   ·obtain⟨s,J,h⟩:=bind_some h
    obtain⟨g,hg,rfl⟩:=map_some h
    exact jsh u r (by assumption) j M (by assumption) J hg p
   ·cases h
  ·split at h
   ·obtain⟨q,X,h⟩:=bind_some h
    obtain⟨i,M,h⟩:=bind_some h
    obtain⟨z,H,h⟩:=bind_some h
    obtain⟨zv,Q,h⟩:=bind_some h
    obtain⟨m',U,h⟩:=bind_some h
    obtain⟨k',K,rfl⟩:=map_some h
    exact jse u r (by assumption) U K (by assumption) X M H Q p
   ·cases h
  ·split at h
   ·obtain⟨q,X,h⟩:=bind_some h
    obtain⟨m',U,h⟩:=bind_some h
    obtain⟨k',K,h⟩:=bind_some h
    obtain⟨v',hv,rfl⟩:=map_some h
    exact jjc u r (.inl (by assumption)) U K hv (by assumption) X p
   ·cases h
  ·split at h
   ·obtain⟨q,X,h⟩:=bind_some h
    obtain⟨m',U,h⟩:=bind_some h
    obtain⟨k',K,h⟩:=bind_some h
    obtain⟨v',hv,rfl⟩:=map_some h
    exact jjc u r (.inr (by assumption)) U K hv (by assumption) X p
   ·cases h
  ·split at h
   ·obtain⟨q,X,h⟩:=bind_some h
    obtain⟨i,M,h⟩:=bind_some h
    obtain⟨z,H,h⟩:=bind_some h
    obtain⟨zv,Q,h⟩:=bind_some h
    obtain⟨m',U,h⟩:=bind_some h
    obtain⟨k',K,rfl⟩:=map_some h
    exact jsc u r (by assumption) U K (by assumption) X M H Q p
   ·cases h
  ·obtain⟨m',U,h⟩:=bind_some h
   obtain⟨s',J,h⟩:=bind_some h
   obtain⟨F,j,rfl⟩:=map_some h
   exact jwv u r (by assumption) U J j p
  ·split at h
   ·obtain⟨F,j,rfl⟩:=map_some h
    exact jld u r S (by assumption) j (by assumption) p
   ·obtain⟨F,j,rfl⟩:=map_some h
    exact jle u r S (by assumption) j (by assumption) p
   ·cases h
  ·obtain⟨F,j,rfl⟩:=map_some h
   exact jpf u r (by assumption) j p
  ·obtain⟨F,j,rfl⟩:=map_some h
   exact jwu u r (by assumption) j p
  ·obtain⟨F,j,rfl⟩:=map_some h
   exact jph u r (by assumption) j p
  ·cases h
end
def C.dstOk (n:Nat):C→Bool
  | .region ops|.draw ops _=>ops.all fun o=>match o.dst with|some d=>Nat.blt d n|none=>true
  | .pin o fs=>(o::fs).all fun o=>match o.dst with|some d=>Nat.blt d n|none=>true
  | .seq a b|.cond _ a b=>a.dstOk n && b.dstOk n
  | .block _ a|.loop a=>a.dstOk n
  | .rangeFunc _ ps a b=>(ps.all fun p=>Nat.blt p n) && a.dstOk n && b.dstOk n
  | _=>true
def jJ (P:Program) (r:Bool) (f:FuncId) (af:AF):Prop:=∃m fn c,P.funcs[f]? = some fn∧fn.body=some c∧comp P m r c=some af.body∧fn.results.toList.mapM (YP P)=some af.res ∧
  (fn.name == "runtime.NumGoroutine")=false∧af.body.dstOk fn.ntmps=true
def jgu (m:Option FuncId) (x:Value):Array Value:=match m with
  | none=>#[x]
  | some g=>#[x,.func (.func g) #[] #[]]
def jhz (P:Program) (f:FuncId) (m:Option FuncId):Prop :=
  (∃ fn c,P.funcs[f]? = some fn∧fn.body=some c∧(fn.name == "runtime.NumGoroutine")=false) ∧
  (∀ (p:Option Addr) (cap:Nat) (w:World),Calls P f (jgu m (.slice p 0 cap)) w fun e w'=>e=.returned (.tuple #[])∧w'=w) ∧
  ∀ (blk off cap n:Nat) (zs:List Int) (w:World),zs.length=n*jfb m→jmq m zs=true→Go.Sort.Holds (Value.int .i64) w blk off zs.toArray→blk<w.heap.size→n<4611686018427387904 →
    Calls P f (jgu m (.slice (some ⟨blk,off,none⟩) n cap)) w fun e w'=>e=.returned (.tuple #[])∧∃n os,w'=Go.Sort.grow (Go.Sort.putRow (Value.int .i64) (Go.Sort.ahead w n) blk off (WV m zs).toArray) os
def j4f (P:Program) (f:FuncId) (cs:List V):Prop :=
  (∃ fn c,P.funcs[f]? = some fn∧fn.body=some c∧(fn.name == "runtime.NumGoroutine")=false) ∧
  ∀ (p:Option Addr) (cap:Nat) (w:World),Calls P f #[.slice p 0 cap] w fun e w'=>e=.returned (.pointer (some ⟨w.heap.size,0,none⟩))∧∃xs t,w'=w.alloc (.cells xs t)∧xs.size=cs.length∧∀ (j:Nat) (x:Value) (v:V),xs[j]? = some x→cs[j]? = some v→v.leaf=true∧∀I,RepP I x v
structure EnvOk (P:Program) (E:Env):Prop where
  fc:∀f af,E.fc f=some af→jJ P false f af
  fs:∀f af,E.fs f=some af→jJ P true f af
  srt:∀f m,E.srt f=some m→jhz P f m
  nw:∀f cs,E.nw f=some cs→j4f P f cs
def jkl (I:IMap) (w:World):Prop:=∀b o x,I b o=some x→w.cell? ⟨b,o,none⟩=some x
def GlOk (E:Env) (I:IMap):Prop:=∀g cs,E.gl g=some cs→RepP I (.pointer (some ⟨g,0,none⟩)) (.eptr cs 0)
def jkj (B:Nat) (τ:Nat→Option Place) (I:IMap) (w:World) (r:V):Prop :=
  ∀i∈toksRes r,∃b n cap sz,τ i=some (.tok b n cap sz)∧B≤b∧b<w.heap.size∧j4a w.heap[b]? n cap sz∧(∀j,n*sz≤j→I b j=none)∧∀i'∈toksRes r,∀n' c' s',τ i'=some (.tok b n' c' s')→i'=i
def juz (τ:Nat→Option Place) (I:IMap) (x:Value) (v:V):Prop :=
  match v with
  | .sl (some _) _ _ _=>Rep τ I x v
  | v=>RepP I x v
def jqd (τ:Nat→Option Place) (I:IMap) (x:Value) (v:V):Prop :=
  match v with
  | .agg cs=>∃xs:Array Value,x=.agg xs∧xs.size=cs.length∧(∀ (j:Nat) (u:V),cs[j]? = some u→u.leaf=true)∧∀ (j:Nat) (y:Value) (u:V),xs[j]? = some y→cs[j]? = some u→juz τ I y u
  | v=>juz τ I x v
def jux (τ:Nat→Option Place) (I:IMap) (x:Value) (r:V):Prop :=
  match r with
  | .tup vs=>∃xs:Array Value,x=.tuple xs∧xs.size=vs.length∧∀ (j:Nat) (y:Value) (u:V),xs[j]? = some y→vs[j]? = some u→jqd τ I y u
  | v=>jqd τ I x v
def jkk (P:Program) (E:Env) (f:FuncId) (args:List V) (r:V):Prop :=
  ∀ (w:World) (I:IMap) (xs:Array Value),jkl I w→GlOk E I→xs.size=args.length→(∀ (j:Nat) (x:Value) (v:V),xs[j]? = some x→args[j]? = some v→RepP I x v) →
    Calls P f xs w fun e w'=>∃x τ I',e=.returned x∧w.grownBy w' none∧(∀b o x,I b o=some x→I' b o=some x)∧jkl I' w'∧(∀b o,b<w.heap.size→I' b o=I b o)∧jux τ I' x r∧jkj w.heap.size τ I' w' r
def SubG (γ γ':Nat→Option Place):Prop:=∀u p,γ u=some p→γ' u=some p
def SubI (I I':IMap):Prop:=∀b o x,I b o=some x→I' b o=some x
theorem SubG.refl (γ:Nat→Option Place):SubG γ γ:=fun _ _ h=>h
theorem SubI.refl (I:IMap):SubI I I:=fun _ _ _ h=>h
theorem SubG.trans {a b c:Nat→Option Place}(h:SubG a b) (k:SubG b c):SubG a c:=fun u p x=>k u p (h u p x)
theorem SubI.trans {a b c:IMap}(h:SubI a b) (k:SubI b c):SubI a c:=fun u o p x=>k u o p (h u o p x)
def ObsOk (P:Program) (E:Env) (f:FuncId) (args:List V) (ob:ZO) (ub:Nat) (r:V):Prop :=
  ∀ (w0 w:World) (I0 I:IMap) (γ:Nat→Option Place) (xs:Array Value) (st:St),(∀l x,ob l=some x→st.ob l=some x)→Sh E w0 I0 γ I st w→(∀u,ub≤u→γ u=none)→xs.size=args.length →
    (∀ (j:Nat) (x:Value) (v:V),xs[j]? = some x→args[j]? = some v→Rep γ I x v) →
    Calls P f xs w fun e w'=>∃x τ I',e=.returned x∧w.grownBy w' none∧(∀b o x,I b o=some x→I' b o=some x)∧jkl I' w'∧(∀b o,b<w.heap.size→I' b o=I b o)∧jux τ I' x r∧jkj w.heap.size τ I' w' r
def W3 (E:Env) (w0:World) (I0:IMap) (γ:Nat→Option Place) (I:IMap) (ro:Nat) (r:V) (ob':ZO) (tk':Nat→Bool) (ub':Nat) (e:Ending) (w':World):Prop :=
  ∃x γ' I',e=.returned x∧(∀st':St,st'.ob=ob'→st'.tk=tk'→st'.ro=ro→Sh E w0 I0 γ' I' st' w')∧Rep γ' I' x r∧SubG γ γ'∧SubI I I'∧(∀u,ub'≤u→γ' u=none)
def jh0 (P:Program) (E:Env) (γ0:Nat→Option Place) (Iy:IMap) (f:FuncId) (args:List V) (ob:ZO) (tk:Nat→Bool) (ro ub:Nat) (l:List (V × (ZO) × (Nat→Bool) × Nat)):Prop :=
  ∀ (w0 w:World) (I0 I:IMap) (γ:Nat→Option Place) (xs:Array Value) (st:St),SubG γ0 γ→SubI Iy I→st.ob=ob→st.tk=tk→st.ro=ro→Sh E w0 I0 γ I st w→(∀u,ub≤u→γ u=none)→xs.size=args.length →
    (∀ (j:Nat) (x:Value) (v:V),xs[j]? = some x→args[j]? = some v→Rep γ I x v) →
    Calls P f xs w fun e w'=>∃r∈l,W3 E w0 I0 γ I ro r.1 r.2.1 r.2.2.1 r.2.2.2 e w'
def FW (r:Option Nat):Fence:={ Fence.wide with round:=r }
theorem jul {P:Program}{f:FuncId}{args:Array Value}{w:World}{R:Ending→World→Prop}{r:Option Nat}{n:Nat}(h:Calls P f args w R):CallsIn (FW r) n P f args w R:=callsIn_wide.2 h
theorem jex {P:Program}{f:FuncId}{args:Array Value}{w:World}{R:Ending→World→Prop}{n:Nat}(h:CallsIn (FW none) n P f args w R):Calls P f args w R:=callsIn_wide.1 h
def j38 (P:Program) (E:Env) (γ0:Nat→Option Place) (Iy:IMap) (u:Nat) (args:List V) (ob:ZO) (tk:Nat→Bool) (ro ub:Nat) (r:V) (ob':ZO) (tk':Nat→Bool) (ub':Nat):Prop :=
  ∀ (w0 w:World) (I0 I:IMap) (γ:Nat→Option Place) (xs:Array Value) (st:St) (b:Nat) (k:Kd),SubG γ0 γ→SubI Iy I→st.ob=ob→st.tk=tk→st.ro=ro→Sh E w0 I0 γ I st w→(∀u,ub≤u→γ u=none)→xs.size=args.length →
    (∀ (j:Nat) (x:Value) (v:V),xs[j]? = some x→args[j]? = some v→Rep γ I x v)→γ u=some (.obj b k) →
    ∃fn tmps asg bd,(Instr.yield b xs).run P w=.ok (.round b fn tmps asg bd) w∧RoundIn (FW none) 0 P b fn tmps asg bd w (W3 E w0 I0 γ I ro r ob' tk' ub')
def YOk (P:Program) (E:Env) (γ0:Nat→Option Place) (Iy:IMap) (y:Y):Prop :=
  ∀l u args ob tk ro ub r ob' tk' ub',y l u args ob tk ro ub=some (r,ob',tk',ub')→j38 P E γ0 Iy u args ob tk ro ub r ob' tk' ub'
def FnOk (P:Program) (f:FuncId):Prop:=∃ fn c,P.funcs[f]? = some fn∧fn.body=some c∧(fn.name == "runtime.NumGoroutine")=false
structure COk (P:Program) (E:Env) (γ0:Nat→Option Place) (Iy:IMap) (call:Callers):Prop where
  d:∀f args r,call.d f args=some r→FnOk P f∧jkk P E f args r
  o:∀f args ob tk base ub r,call.o f args ob tk base ub=some r→FnOk P f∧ObsOk P E f args ob ub r
  s:∀f args ob tk ro base ub l,call.s f args ob tk ro base ub=some l→FnOk P f∧jh0 P E γ0 Iy f args ob tk ro ub l
  y:YOk P E γ0 Iy call.y
  k:∀f cs,E.nw f=some cs→j4f P f cs
def jkm (P:Program) (E:Env) (call:Y→Callers):Prop:=∀γ0 Iy y,YOk P E γ0 Iy y→COk P E γ0 Iy (call y)
theorem YOk.mono {P:Program}{E:Env}{γ γ':Nat→Option Place}{I g :IMap}{y:Y}(h:YOk P E γ I y) (q :SubG γ γ') (m :SubI I g ):YOk P E γ' g  y :=
  fun l u c ob i t ub r f d e j w0 w I0 J δ s st b k n p=>h l u c ob i t ub r f d e j w0 w I0 J δ s st b k (q.trans n) (m.trans p)
theorem jji {P:Program}{E:Env}{γ:Nat→Option Place}{I:IMap}:YOk P E γ I noY:=fun _ _ _ _ _ _ _ _ _ _ _ h=>by cases h
section
variable {P:Program}{E:Env}{w0 w:World}{I0:IMap}{nt:Nat}{γ:Nat→Option Place}{I:IMap}{st:St}{a:Act}{o:Oper}{ub:Nat}{δ:Delta}
theorem jb1 {f:FuncId} {fn:Func} {c:Code} (hf:P.funcs[f]? = some fn) (hb:fn.body=some c) (hn:(fn.name == "runtime.NumGoroutine")=false) (args:Array Value):(callFunc f args).run P w = .ok (.enter f args) w:=by
  unfold callFunc
  simp only[Sem.run_bind,run_program,Result.andThen_ok,hf,hn,Bool.false_eq_true,if_false,hb,Option.isNone_some]
  rfl
theorem jfk {x:Value}{v:V}(h:Rep γ I x v) (hp:v.strip.pureTop=true):RepP I x v.strip:=by
  have d    :∀ (g :Array Value) (cs:List V), g.size=cs.length→(∀ (j:Nat) (v:V),cs[j]? = some v→v.leaf=true)→(∀ (j:Nat) (y:Value) (v:V), g[j]? = some y→cs[j]? = some v→Rep γ I y v)→(cs.map V.strip1).all V.pureLeaf=true →
      RepP I (.agg g) (.agg (cs.map V.strip1)):=by
    intro g cs k m i q
    refine .agg _ _ (by simpa using k) (fun j v b=>?_) (fun j x v p b=>?_)
    · simp only[List.getElem?_map,Option.map_eq_some_iff]at b
      obtain⟨u,e,rfl⟩:=b
      rw[jdd]
      exact m j u e
    · simp only[List.getElem?_map,Option.map_eq_some_iff]at b
      obtain⟨u,e,rfl⟩:=b
      exact Yd (i j x u p e) (List.all_eq_true.1 q _ (List.mem_map.2 ⟨u,List.mem_of_getElem? e,rfl⟩))
  cases v with
  | sl t r n cs=>exact Yd h (by simp[V.strip1,V.pureLeaf])
  | agg cs=>
    obtain⟨g,rfl,k,m,i⟩:=Xy h
    exact d g cs k m i hp
  | fn f s   B =>
    obtain⟨g,z,rfl,k,m,i,q⟩:=jb7 h
    simp only[V.strip,V.pureTop,List.all_eq_true,List.mem_append]at hp
    have one:∀ (x:Value) (v:V),Rep γ I x v→(match (match v with|.agg cs=>V.agg (cs.map V.strip1)|c=>c.strip1) with|.agg cs=>cs.all V.pureLeaf|c=>c.pureLeaf)=true→RepP I x (match v with|.agg cs=>V.agg (cs.map V.strip1)|c=>c.strip1):=by
      intro x v h hp
      cases v with
      | agg cs=>
        obtain⟨g,rfl,k,m,i⟩:=Xy h
        exact d g cs k m i hp
      | sl t r n cs=>exact Yd h (by simp[V.strip1,V.pureLeaf])
      | _=>exact Yd h hp
    refine .fn _ _ _ _ _ (by simpa using k) (by simpa using m) (fun j x v p b=>?_) (fun j x v p b=>?_)
    · simp only[List.getElem?_map,Option.map_eq_some_iff]at b
      obtain⟨u,e,rfl⟩:=b
      exact one x u (i j x u p e) (hp _ (.inl (List.mem_map.2 ⟨u,List.mem_of_getElem? e,rfl⟩)))
    · simp only[List.getElem?_map,Option.map_eq_some_iff]at b
      obtain⟨u,e,rfl⟩:=b
      exact one x u (q j x u p e) (hp _ (.inr (List.mem_map.2 ⟨u,List.mem_of_getElem? e,rfl⟩)))
  | undef=>simp[V.strip,V.pureTop,V.pureLeaf]at hp
  | tup F=>simp[V.strip,V.pureTop,V.pureLeaf]at hp
  | ptr l u off=>simp[V.strip,V.pureTop,V.pureLeaf]at hp
  | osl l u off n D=>simp[V.strip,V.pureTop,V.pureLeaf]at hp
  | map l u=>simp[V.strip,V.pureTop,V.pureLeaf]at hp
  | iter l u=>simp[V.strip,V.pureTop,V.pureLeaf]at hp
  | yld l u=>simp[V.strip,V.pureTop,V.pureLeaf]at hp
  | _=>exact Yd h hp
theorem jyy      {xs:Array Value} {vs:List V} (d :xs.size=vs.length) (h:∀ (j:Nat) (x:Value) (v:V),xs[j]? = some x→vs[j]? = some v→Rep γ I x v) (hp:(vs.map V.strip).all V.pureTop=true) :
    xs.size=(vs.map V.strip).length∧∀ (j:Nat) (x:Value) (v:V),xs[j]? = some x→(vs.map V.strip)[j]? = some v→RepP I x v:=by
  refine⟨by simpa using d,fun j x v e c=>?_⟩
  simp only[List.getElem?_map,Option.map_eq_some_iff]at c
  obtain⟨u,b,rfl⟩:=c
  exact jfk (h j x u e b) (List.all_eq_true.1 hp _ (List.mem_map.2 ⟨u,List.mem_of_getElem? b,rfl⟩))
theorem QM         {xs ys:Array Value} {us vs:List V} (d :xs.size=us.length) (h :ys.size=vs.length) (e :∀ (j:Nat) (x:Value) (v:V),xs[j]? = some x→us[j]? = some v→Rep γ I x v)
    (f:∀ (j:Nat) (x:Value) (v:V),ys[j]? = some x→vs[j]? = some v→Rep γ I x v) :
    (xs++ys).size=(us++vs).length∧∀ (j:Nat) (x:Value) (v:V),(xs++ys)[j]? = some x→(us++vs)[j]? = some v→Rep γ I x v:=by
  refine⟨by simp[d,h],fun j x v b c=>?_⟩
  by_cases g:j<xs.size
  · rw[Array.getElem?_append_left g]at b
    rw[List.getElem?_append_left zO]at c
    exact e j x v b c
  · rw[Array.getElem?_append_right zO]at b
    rw[List.getElem?_append_right zO,← d]at c
    exact f _ x v b c
theorem jge {m:Bool}{ao:AOp}(b :JX P m o=some ao) (d :ao.isCall=true):∃c ,o.op=.call c ∧QJ P m c =some ao:=by
  unfold JX at b
  split at b
  · exact⟨_,by assumption,b⟩
  · obtain⟨_,_,rfl⟩:=map_some b
    cases d
  · have:=(Option.filter_eq_some_iff.1 b).2
    rw[d]at this
    cases this
theorem YY {m:Bool}{ao:AOp}(b :JX P m o=some ao):∀c,o.op≠.defer c:=by
  intro c h
  unfold JX at b
  rw[h]at b
  simp[jl5]at b
theorem jcd          {m:Bool} {d :Call} {ao:AOp} (c :QJ       P m d =some ao) (i :ao.isCall=true) :
    (∃f b,d.callee=.value (.func f)∧opds d.args=some b∧ao=.call f b)∨∃x q b,d.callee=.value x∧(∀f,x≠.func f)∧opd x=some q∧opds d.args=some b∧ao=.callV q b:=by
  unfold QJ at c
  split at c
  · obtain⟨b,g,rfl⟩:=map_some c
    split at i
    · cases i
    · rename_i l
      exact .inl ⟨_,b,by assumption,g,by simp only⟩
  · rename_i x h j
    obtain⟨q,k,c⟩:=bind_some c
    obtain⟨b,g,rfl⟩:=map_some c
    exact .inr ⟨_,q,b,by assumption,fun f e=>by subst e;exact h f rfl,k,g,rfl⟩
  · cases c
  · have:=(Option.filter_eq_some_iff.1 c).2
    rw[i]at this
    cases this
theorem jpw {m:Bool}{d :A}(b :JX P m o=some (.nextMap d )):∃x,o.op=.next x false∧opd x=some d :=by
  unfold JX at b
  split at b
  · unfold QJ at b
    split at b
    · obtain⟨_,_,c⟩:=map_some b
      split at c <;> cases c
    · obtain⟨_,_,b⟩:=bind_some b
      obtain⟨_,_,c⟩:=map_some b
      cases c
    · cases b
    · have:=(Option.filter_eq_some_iff.1 b).2
      cases this
  · obtain⟨_,e,c⟩:=map_some b
    cases c
    exact⟨_,by assumption,e⟩
  · have:=(Option.filter_eq_some_iff.1 b).2
    cases this
theorem ja1      (z :R E w0 I0 nt γ I st a w) {m:Bool} {ao:AOp} (Z :JX     P m o=some ao) {f:FuncId} {vs:List V}
    (r:(∃h,ao=.call f h∧vs=h.map (eval E st.tm))∨∃q h first b,ao=.callV q h∧eval E st.tm q=.fn (.func f) first b∧vs=first++h.map (eval E st.tm)++b)
    (p:FnOk P f) :
    ∃d:Array Value,(execOp a.eval o).run P w=.ok (.enter f d) w∧d.size=vs.length∧∀ (j:Nat) (x:Value) (v:V),d[j]? = some x→vs[j]? = some v→Rep γ I x v:=by
  obtain⟨fn,c,U,h2,S⟩:=p
  have G:ao.isCall=true:=by rcases r with⟨_,rfl,_⟩|⟨_,_,_,_,rfl,_⟩ <;> rfl
  obtain⟨F,H,s⟩:=jge Z G
  have k:=jb1 (P:=P) (w:=w) U h2 S
  rcases jcd s G with⟨g,h,e,u,rfl⟩|⟨x,q,h,e,M,hq,u,rfl⟩
  · rcases r with⟨J,i,rfl⟩|⟨_,_,_,_,i,_⟩
    · cases i
      obtain⟨t,D⟩:=WH z u
      refine⟨F.args.map a.eval,?_,t,D⟩
      simp only[execOp,H,resolve,e,Act.eval,Deferred.ofValue,Sem.run_bind,Sem.run_pure,Result.andThen_ok,invoke,Array.empty_append,Array.append_empty]
      exact k _
    · cases i
  · rcases r with⟨_,i,_⟩|⟨q',J,first,b,i,y,rfl⟩
    · cases i
    · cases i
      obtain⟨t,D⟩:=WH z u
      have l:=jA z hq
      rw[y]at l
      obtain⟨B,K,n,s1,Q,L,X⟩:=jb7 l
      obtain⟨N,T⟩:=QM s1 t L D
      obtain⟨u1,O⟩:=QM N Q T X
      refine⟨B++F.args.map a.eval++K,?_,u1,O⟩
      simp only[execOp,H,resolve,e,n,Deferred.ofValue,Sem.run_bind,Sem.run_pure,Result.andThen_ok,invoke]
      exact k _
theorem jql       (s :R E w0 I0 nt γ I st a w) {m:Bool} {ao:AOp} (z :JX     P m o=some ao) {l u:Nat} {vs:List V} (d :jf        (eval E st.tm) ao=some (l,u,vs)) :
    ∃ (b:Nat) (k:Kd) (args:Array Value),γ u=some (.obj b k)∧(execOp a.eval o).run P w=(Instr.yield b args).run P w∧args.size=vs.length∧∀ (j:Nat) (x:Value) (v:V),args[j]? = some x→vs[j]? = some v→Rep γ I x v:=by
  unfold jf at d
  split at d
  case h_2=>cases d
  rename_i q J
  split at d
  case h_2=>cases d
  rename_i L K h
  cases d
  obtain⟨B,y,n⟩:=jge z rfl
  rcases jcd n rfl with⟨g,i,c,r,p⟩|⟨x,M,i,c,D,G,r,p⟩
  · cases p
  · cases p
    obtain⟨F,t⟩:=WH s r
    have e:=jA s G
    rw[h]at e
    obtain⟨b,k,H,f⟩:=jtv e
    refine⟨b,k,B.args.map a.eval,H,?_,F,t⟩
    simp only[execOp,y,resolve,c,f,Deferred.ofValue,Sem.run_bind,Sem.run_pure,Result.andThen_ok,invoke,Array.empty_append]
end
section
variable {P:Program}{E:Env}{w0 w:World}{I0:IMap}{nt:Nat}{γ:Nat→Option Place}{I:IMap}{st:St}{a:Act}{o:Oper}{ub:Nat}{δ:Delta}
theorem jlz (v:V):(Y3 ub v).leaf=v.leaf:=by
 unfold Y3
 split <;> rfl
theorem jsz {τ γ':Nat→Option Place}{x:Value}{v:V}(h:juz τ I x v) (k:∀i∈v.tok,γ' (ub+i)=τ i):Rep γ' I x (Y3 ub v):=by
 cases v with
 | sl t r n cs=>
  cases t with
  | none=>exact .pure _ _ h
  | some p=>
   obtain⟨i,z⟩:=p
   cases h with
   | tsl u b n d s cs l q c g f j e m=>exact .tsl _ b _ d _ _ l (by rw[k i (by simp[V.tok])];exact q) c g f j e m
   | pure _ _ h=>cases h
 | _=>exact .pure _ _ h
theorem jq0 {τ:Nat→Option Place}{x:Value}{v:V}(b:∀cs,v≠.agg cs) (h:jqd τ I x v):juz τ I x v∧jbn ub v=Y3 ub v∧v.toks=v.tok:=by
 cases v <;> first|exact absurd rfl (b _)|exact⟨h,rfl,rfl⟩
theorem jv8 {τ:Nat→Option Place}{x:Value}{v:V}(b:∀cs,v≠.tup cs) (h:jux τ I x v):jqd τ I x v∧jbo ub v=jbn ub v∧toksRes v=v.toks:=by
 cases v <;> first|exact absurd rfl (b _)|exact⟨h,rfl,rfl⟩
theorem jq1 {τ γ':Nat→Option Place}{x:Value}{v:V}(h:jqd τ I x v) (k:∀i∈v.toks,γ' (ub+i)=τ i):Rep γ' I x (jbn ub v):=by
 by_cases l:∃cs,v=.agg cs
 ·obtain⟨cs,rfl⟩:=l
  obtain⟨p,rfl,f,g,d⟩:=h
  refine .agg _ _ (by simpa using f) (fun j u b=>?_) (fun j y u n b=>?_)
  ·simp only[List.getElem?_map,Option.map_eq_some_iff]at b
   obtain⟨q,c,rfl⟩:=b
   rw[jlz]
   exact g j q c
  ·simp only[List.getElem?_map,Option.map_eq_some_iff]at b
   obtain⟨q,c,rfl⟩:=b
   exact jsz (d j y q n c) (fun i m=>k i (List.mem_flatMap.2 ⟨q,List.mem_of_getElem? c,m⟩))
 ·obtain⟨f,g,d⟩:=jq0 (ub:=ub) (fun cs e=>l ⟨cs,e⟩) h
  rw[g]
  rw[d]at k
  exact jsz f k
theorem j1d {τ γ':Nat→Option Place}{x:Value}{v:V}(h:jux τ I x v) (d:∀i∈toksRes v,γ' (ub+i)=τ i):Rep γ' I x (jbo ub v):=by
 by_cases f:∃cs,v=.tup cs
 ·obtain⟨r,rfl⟩:=f
  obtain⟨p,rfl,c,b⟩:=h
  refine .tup _ _ (by simpa using c) (fun j y u n k=>?_)
  simp only[List.getElem?_map,Option.map_eq_some_iff]at k
  obtain⟨q,g,rfl⟩:=k
  exact jq1 (b j y q n g) (fun i m=>d i (List.mem_flatMap.2 ⟨q,List.mem_of_getElem? g,m⟩))
 ·obtain⟨c,l,b⟩:=jv8 (ub:=ub) (fun cs e=>f ⟨cs,e⟩) h
  rw[l]
  rw[b]at d
  exact jq1 c d
theorem jiz (G:R E w0 I0 nt γ I st a w) {dst:Option Tmp}(hd:∀d,dst=some d→d<nt) (hf:∀u,ub≤u→u<ub+64→γ u=none) {x:Value}{τ:Nat→Option Place}{I':IMap}{w':World}{r:V}
 (hg:w.grownBy w' none) (hI:∀b o x,I b o=some x→I' b o=some x) (c3:jkl I' w') (F:∀b o,b<w.heap.size→I' b o=I b o) (hx:jux τ I' x r) (ht:jkj w.heap.size τ I' w' r) (c0:(toksRes r).all (fun i=>Nat.blt i 64)=true) :
 ∃f,R E w0 I0 nt f I' (st.app dst { v:=jbo ub r,add:=(toksRes r).map (ub + ·) }) (a.put dst x) w'∧(∀u,¬(ub≤u∧u<ub+64)→f u=γ u)∧(∀u p,γ u=some p→f u=some p):=by
 have a0:∀i∈toksRes r,i<64:=fun i y=>by
  have:=List.all_eq_true.1 c0 i y
  simpa[Nat.blt_eq] using this
 let f:Nat→Option Place:=fun u=>if ub≤u∧u<ub+64 then τ (u - ub) else γ u
 have B:∀u p,γ u=some p→f u=some p:=by
  intro u p J
  have:¬ (ub≤u∧u<ub+64):=fun h=>by rw[hf u h.1 h.2]at J;cases J
  simp only[f,this,if_false,J]
 have N:∀i∈toksRes r,f (ub+i)=τ i:=by
  intro i y
  have:=a0 i y
  have h2:ub≤ub+i∧ub+i<ub+64:=⟨zO,zO⟩
  simp only[f,h2,and_self,if_true,Nat.add_sub_cancel_left]
 obtain⟨Ω,ho⟩:=G.own
 have q:∀b,b<w.heap.size→w'.heap[b]? = w.heap[b]?:=fun b L=>hg.block b L zS
 classical
 let Q:Nat→Nat→Prop:=fun b i=>i∈toksRes r∧∃n c s,τ i=some (.tok b n c s)
 let D:Nat→Option Owner:=fun b=>if h:∃i,Q b i then some (.tk (ub+h.choose)) else Ω b
 have M:∀b i,Q b i→w.heap.size≤b∧b<w'.heap.size:=by
  intro b i Z
  obtain⟨y,n,c,s,X⟩:=Z
  obtain⟨b',n',c',s',K,h2,h3,_⟩:=ht i y
  rw[X]at K
  cases K
  exact⟨h2,h3⟩
 have z:∀b,b<w.heap.size→D b=Ω b:=by
  intro b L
  have:¬ ∃i,Q b i:=fun⟨i,y⟩=>by have:=(M b i y).1;omega
  simp only[D,this,dif_neg,not_false_eq_true]
 have H:∀b i,Q b i→D b=some (.tk (ub+i)):=by
  intro b i Z
  have O:∃i,Q b i:=⟨i,Z⟩
  have b9:=O.choose_spec
  have:O.choose=i:=by
   obtain⟨y,n,c,s,X⟩:=Z
   obtain⟨b',n',c',s',K,_,_,_,_,S⟩:=ht i y
   rw[X]at K
   cases K
   obtain⟨b8,n2,c2,s2,b6⟩:=b9
   exact S _ b8 _ _ _ b6
  simp only[D,O,dif_pos,this]
 refine⟨f,⟨(YX _ _ _).trans G.sz,jcc G B _ _,?_,⟨c3,fun g cs h=>(G.gl g cs h).mono hI,⟨D,⟨?_,?_,?_⟩⟩,?_,?_⟩⟩,?_,B⟩
 ·exact Wg (by rw[G.sz];exact hd) (fun t=>(G.tm t).mono B hI) (j1d hx N)
 ·intro l ob hl
  have b5:(st.app dst { v:=jbo ub r,add:=(toksRes r).map (ub + ·) }).ob=st.ob:=by simp[St.app,JI]
  rw[b5]at hl ⊢
  obtain⟨b,k,k1,k2,k3,k4,k5⟩:=ho.ob l ob hl
  have e:=ho.lt _ _ k2
  have U:Xk γ st.ob st.ob w.heap w'.heap:=fun l2 u2 c4 c5 mb mk _ c1=>.inl ⟨c1,fun m c b0=>by
   rw[q mb (Array.getElem?_eq_some_iff.1 b0).1]
   exact b0⟩
  exact⟨b,k,B _ _ k1,by rw[z b e];exact k2,k3,by rw[q b e];exact(k4.keep U).mono B hI,fun j=>by rw[F b j e];exact k5 j⟩
 ·intro u J
  simp only[St.app,Qf,Option.toList_none,List.not_mem_nil,if_false]at J
  split at J
  ·rename_i b7
   obtain⟨i,y,rfl⟩:=List.mem_map.1 b7
   obtain⟨b,n,c,s,K,h2,h3,h4,h5,_⟩:=ht i y
   exact⟨b,n,c,s,by rw[N i y];exact K,H b i ⟨y,n,c,s,K⟩,Nat.le_trans G.fr.size h2,h4,h5⟩
  ·obtain⟨b,n,c,s,k1,k2,k3,k4,k5⟩:=ho.tk u J
   have e:=ho.lt _ _ k2
   exact⟨b,n,c,s,B _ _ k1,by rw[z b e];exact k2,k3,by rw[q b e];exact k4,fun j hj=>by rw[F b j e];exact k5 j hj⟩
 ·intro b ow L
  by_cases e:b<w.heap.size
  ·exact Nat.lt_of_lt_of_le e hg.size
  ·by_cases Z:∃i,Q b i
   ·obtain⟨i,y⟩:=Z;exact(M b i y).2
   ·simp only[D,Z,dif_neg,not_false_eq_true]at L
    exact absurd (ho.lt _ _ L) e
 ·exact Grow.frame G.fr (T:=fun _=>False) ⟨hg.os,hg.tape,hg.output,hg.size,fun k hk _=>q k hk,fun k hk=>hk.elim⟩
 ·intro b j L
  rw[F b j (Nat.lt_of_lt_of_le L G.fr.size)]
  exact G.old b j L
 ·intro u J
  simp only[f,J,if_false]
end
section
variable {P:Program}{E:Env}{w0 w:World}{I0:IMap}{nt:Nat}{γ τ:Nat→Option Place}{I I' I1:IMap}{st:St}{a:Act}{B:Nat}{Ω:Nat→Option Owner}
def jch (γ:Nat→Option Place) (B:Nat) (st:St) (w:World) (I I':IMap):Prop :=
 (∀b o x,I b o=some x→I' b o=some x)∧(∀b k o x l u cs,B≤b→st.ob l=some ⟨u,.cells cs⟩→γ u=some (.obj b k)→o<cs.length→w.cell? ⟨b,o,none⟩=some x→I' b o=some x)
theorem jfy {v:V}(h:v.pureLeaf=true):v.strip1=v:=Xf h
theorem jwg {x:Value}{v:V}(h:Rep γ I x v) (hp:v.pureLeaf=true):RepP I x v:=by
 have:=Yd h (by rw[jfy hp];exact hp)
 rwa [jfy hp]at this
theorem jab (N:Own γ I B st w Ω) (G:jch γ B st w I I'):∀ (k:Nat) (x:Value) (v m:V),Rep γ I x v→JH st k v=some m→RepP I' x m∧m.pureLeaf=true
 | 0,_,_,_,_,h=>by cases h
 | k+1,x,v,m,hx,c=>by
  have d:(if v.pureLeaf then some v else none)=some m→RepP I' x m∧m.pureLeaf=true:=by
   intro h
   simp only[Option.ite_none_right_eq_some,Option.some.injEq]at h
   obtain⟨Q,rfl⟩:=h
   exact⟨(jwg hx Q).mono G.1,Q⟩
  cases v with
  | sl t nl n cs=>
   cases t with
   | none=>exact d c
   | some q=>
    simp only[JH,Option.some.injEq]at c
    subst c
    exact⟨(Yd hx (by simp[V.strip1,V.pureLeaf])).mono G.1,rfl⟩
  | osl l u off n f=>
   simp only[JH]at c
   obtain⟨cs,p,c⟩:=bind_some c
   simp only[Option.ite_none_right_eq_some]at c
   obtain⟨⟨H,b0⟩,c⟩:=c
   obtain⟨r,s,rfl⟩:=map_some c
   refine⟨?_,rfl⟩
   obtain⟨b,kb,ad,K,T,rfl,M,hc,Z⟩:=XZ hx
   have D:=jY p
   obtain⟨b',a0,O,k2,k3,⟨arr,e,m1,m2,m4,m3⟩,k5⟩:=N.ob l _ D
   rw[T]at O
   cases O
   have hB:B≤b:=k3 (by simpa[Nat.ble_eq] using H)
   obtain⟨J,o⟩:=ju s
   have U:((cs.drop off).take (n*f)).length=n*f:=by simp only[List.length_take,List.length_drop];omega
   have g:∀j,j<cs.length→arr[j]? = some (arr.getD j undef):=by
    intro j F
    have:j<arr.size:=zO
    simp[this]
   have y:0<n*f→0<n:=fun h=>Nat.pos_of_ne_zero fun h0=>by subst h0;simp at h
   have i:∀ (j:Nat) (q:V),r[j]? = some q→j<n*f∧RepP I' (arr.getD (off+j) undef) q∧q.pureLeaf=true:=by
    intro j q S
    have F:j<n*f:=by have:=(List.getElem?_eq_some_iff.1 S).1;omega
    have c:((cs.drop off).take (n*f))[j]? = some (((cs.drop off).take (n*f))[j]' zO):=List.getElem?_eq_getElem _
    have z:=o j _ _ c S
    rw[List.getElem?_take_of_lt F,List.getElem?_drop]at c
    obtain⟨q1,X⟩:=m3 _ _ _ (g (off+j) (List.getElem?_eq_some_iff.1 c).1) c
    exact⟨F,jab N G k _ _ _ X z⟩
   refine .sl ad n K _ (fun j=>arr.getD (off+j) undef) (fun p=>?_) hc Z (fun j F=>?_) (fun j v c=>(i j v c).2.2) (fun j v c=>(i j v c).2.1)
   ·have L:0<r.length:=List.length_pos_iff.2 p
    rw[(M (by have:=y zO;omega)).1]
   ·have b5:j<n*f:=zO
    rw[(M (by have:=y zO;omega)).1]
    refine G.2 b kb (off+j) _ l u cs hB D T zO ?_
    simp only[World.cell?,m1,Option.isSome_none,Bool.false_eq_true,if_false]
    exact g (off+j) zO
  | _=>exact d c
theorem jae {x:Value}{v:V}(h:RepP I x v) (b:v.scal=true):RepP I' x v:=by
 cases h <;> first|(simp[V.scal]at b;done)|constructor
theorem j25 {γ:Nat→Option Place}{w:World}{Ω:Nat→Option Owner}{ob:ZO}(m:Own γ I 0 (Jm [] ob (fun _=>false) 0 0 0) w Ω) (o:jch γ 0 (Jm [] ob (fun _=>false) 0 0 0) w I I')
 {x:Value}{v p:V}(l:Rep γ I x v) (e:Yz ob v=some p):RepP I' x p:=by
 cases v with
 | agg cs=>
  obtain⟨h,rfl,t,z,q⟩:=Xy l
  simp only[Yz]at e
  obtain⟨d,i,rfl⟩:=map_some e
  obtain⟨D,r⟩:=ju i
  have c:∀ (j:Nat) (y:Value) (u:V),h[j]? = some y→d[j]? = some u→RepP I' y u∧u.pureLeaf=true:=by
   intro j y u k b
   have g:j<cs.length:=by have:=(List.getElem?_eq_some_iff.1 b).1;omega
   have n:cs[j]? = some (cs[j]):=List.getElem?_eq_getElem g
   exact jab m o 6 _ _ _ (q j y _ k n) (r j _ _ n b)
  refine .agg h d zO (fun j u b=>?_) (fun j y u k b=>(c j y u k b).1)
  have g:j<h.size:=by have:=(List.getElem?_eq_some_iff.1 b).1;omega
  exact jag (c j _ u (Array.getElem?_eq_getElem g) b).2
 | fn f s F=>cases e
 | _=>exact(jab m o 6 _ _ _ l e).1
theorem jnu {γ:Nat→Option Place}{st:St}{w w0:World}{I0:IMap}{ob:ZO}{args d:List V}{xs:Array Value}(i:∀l x,ob l=some x→st.ob l=some x) (n:Sh E w0 I0 γ I st w) (F:args.mapM (Yz ob)=some d)
 (e:∀ (j:Nat) (x:Value) (v:V),xs[j]? = some x→args[j]? = some v→Rep γ I x v):d.length=args.length∧∀ (j:Nat) (x:Value) (v:V),xs[j]? = some x→d[j]? = some v→RepP (fun b o=>w.cell? ⟨b,o,none⟩) x v:=by
 obtain⟨Ω,y⟩:=n.own
 have q:Own γ I 0 (Jm [] ob (fun _=>false) 0 0 0) w Ω:=by
  refine⟨fun l o J=>?_,fun u h=>(by cases h),y.lt⟩
  obtain⟨b,k,K,N,T,H,M⟩:=y.ob l o (i l o J)
  exact⟨b,k,K,N,fun _=>Nat.zero_le _,H.keep (fun Q S s O U mk _ r=>.inl ⟨i _ _ r,fun m c z=>z⟩),M⟩
 have G:jch γ 0 (Jm [] ob (fun _=>false) 0 0 0) w I (fun b o=>w.cell? ⟨b,o,none⟩):=⟨n.imm,fun b k o x l u cs _ _ _ _ p=>p⟩
 obtain⟨g,f⟩:=ju F
 refine⟨g,fun j x v L t=>?_⟩
 have D:j<args.length:=by have:=(List.getElem?_eq_some_iff.1 t).1;omega
 have p:args[j]? = some (args[j]):=List.getElem?_eq_getElem D
 exact j25 q G (e j x _ L p) (f j _ _ p t)
theorem jmj {f:FuncId}{args M:List V}{ob0:ZO}{d ub:Nat}{v:V}{δ:Delta}(b9:∀l x,ob0 l=some x→st.ob l=some x) (hp:jkk P E f M v) (ha:args.mapM (Yz ob0)=some M) (J:QN d ub v=some δ)
 {xs:Array Value}(D:Sh E w0 I0 γ I st w) (d1:γ ub=none) (c6:xs.size=args.length) (b8:∀ (j:Nat) (x:Value) (v:V),xs[j]? = some x→args[j]? = some v→Rep γ I x v) :
 Calls P f xs w fun e w'=>∃x F,e=.returned x∧(∀p:St,p.ob=JI st.ob δ.obs→p.tk=st.tk→p.ro=st.ro→Sh E w0 I0 F I p w')∧Rep F I x δ.v∧SubG γ F∧(∀u,u≠ub→F u=γ u):=by
 obtain⟨c3,c0⟩:=jnu b9 D ha b8
 refine(hp w (fun b o=>w.cell? ⟨b,o,none⟩) xs (fun _ _ _ h=>h) (fun g cs U=>(D.gl g cs U).mono D.imm) (c6.trans c3.symm) c0).mono fun e w' he=>?_
 obtain⟨x,τ,I1,rfl,U,hI,c1,d4,hx,ht⟩:=he
 have r:∀b,b<w.heap.size→w'.heap[b]? = w.heap[b]?:=fun b hb=>U.block b hb zS
 have a0:∀b o y,I b o=some y→w'.cell? ⟨b,o,none⟩=some y:=fun b o y hy=>c1 b o y (hI b o y (D.imm b o y hy))
 have b0:w0.grownBy w' none:=Grow.frame D.fr (T:=fun _=>False) ⟨U.os,U.tape,U.output,U.size,fun k hk _=>r k hk,fun k hk=>hk.elim⟩
 obtain⟨Ω,Q⟩:=D.own
 have plain:v.scal=true→QN d ub v=some { v:=v }→∃x' F,Ending.returned x=.returned x'∧(∀p:St,p.ob=JI st.ob δ.obs→p.tk=st.tk→p.ro=st.ro→Sh E w0 I0 F I p w')∧Rep F I x' δ.v∧SubG γ F∧(∀u,u≠ub→F u=γ u):=by
  intro hs he
  rw[he]at J
  cases J
  refine⟨x,γ,rfl,fun p S h2 h3=>?_,.pure _ _ ?_,fun _ _ h=>h,fun _ _=>rfl⟩
  ·replace S:p.ob=st.ob:=S
   refine⟨a0,D.gl,⟨Ω,⟨fun l o Z=>?_,fun u hu=>?_,fun b o hb=>Nat.lt_of_lt_of_le (Q.lt b o hb) U.size⟩⟩,b0,D.old⟩
   ·rw[S]at Z
    obtain⟨b,k,k1,k2,k3,k4,k5⟩:=Q.ob l o Z
    have O:=Q.lt _ _ k2
    have H:Xk γ st.ob p.ob w.heap w'.heap:=fun l2 u2 b7 c7 mb mk _ L=>.inl ⟨by rw[← S];exact L,fun m c N=>by
     rw[r mb (Array.getElem?_eq_some_iff.1 N).1]
     exact N⟩
    exact⟨b,k,k1,k2,by rw[h3];exact k3,by rw[r b O];exact k4.keep H,k5⟩
   ·rw[h2]at hu
    obtain⟨b,n,c,s,k1,k2,k3,k4,k5⟩:=Q.tk u hu
    exact⟨b,n,c,s,k1,k2,k3,by rw[r b (Q.lt _ _ k2)];exact k4,k5⟩
  ·have:RepP I1 x v:=by
    cases v with
    | tup|agg=>cases hs
    | sl t nl n cs=>cases t with
     | none=>exact hx
     | some q=>cases hs
    | _=>exact hx
   exact jae this hs
 cases v with
 | sl t nl n cs=>
  cases t with
  | none=>
   cases hs:(V.sl none nl n cs).scal with
   | true=>exact plain hs (by cases nl <;> simp[QN,hs])
   | false=>cases nl <;> simp[QN,hs]at J
  | some q=>
   obtain⟨i,z⟩:=q
   cases nl with
   | true=>simp[QN,V.scal]at J
   | false=>
    simp only[QN,Option.ite_none_right_eq_some,Option.some.injEq]at J
    obtain⟨c9,rfl⟩:=J
    have d2:Rep τ I1 x (.sl (some (i,z)) false n cs):=hx
    cases d2 with
    | pure _ _ h=>cases h
    | tsl _ b _ d3 _ _ d7 hu b5 hc hm hi Z c5=>
     obtain⟨b',n',d5,d8,k1,k2,k3,k4,k5,k6⟩:=ht i (by simp[toksRes,V.toks,V.tok])
     rw[hu]at k1
     cases k1
     obtain⟨arr,e,m1,m2,m3,m4⟩:=k4
     have G:=W8 (f:=γ) (k:=ub) (v:=Place.obj b (.n arr.size)) d1
     have c8:∀j,I b j=none:=by
      intro j
      cases hj:I b j with
      | none=>rfl
      | some y=>exact absurd (World.block_lt_of_cell? _ _ (D.imm _ _ _ hj)) (by simpa using k2)
     have c4:cs.length≤arr.size:=by rw[b5];exact Nat.le_trans (Nat.mul_le_mul_right _ hc) m2
     refine⟨_,upd γ ub (some (.obj b (.n arr.size))),rfl,fun p S h2 h3=>?_,?_,G,fun u hu=>J7 _ _ hu⟩
     ·replace S:p.ob=upd st.ob d (some ⟨ub,.cells cs⟩):=S
      refine⟨a0,D.gl,⟨upd Ω b (some (.ob d)),⟨fun l o Z=>?_,fun u hu=>?_,fun c o b6=>?_⟩⟩,b0,D.old⟩
      ·have H:Xk γ st.ob p.ob w.heap w'.heap:=by
        intro l2 u2 b7 c7 mb mk d6 L
        rw[S,j2]at L
        split at L
        ·simp at L
        ·exact .inl ⟨L,fun m c N=>by rw[r mb (Array.getElem?_eq_some_iff.1 N).1];exact N⟩
       rw[S,j2]at Z
       split at Z
       ·rename_i d0
        subst d0
        cases Z
        refine⟨b,.n arr.size,zS,zS,fun _=>Nat.le_trans D.fr.size k2,⟨arr,e,m1,rfl,c4,fun j y u hy X=>?_⟩,c8⟩
        have hj:=(List.getElem?_eq_some_iff.1 X).1
        have K:=c1 b j _ (hi j hj)
        simp only[World.cell?,m1,Option.isSome_none,Bool.false_eq_true,if_false]at K
        rw[hy]at K
        cases K
        exact⟨jag (Z j u X),.pure _ _ (jae (c5 j u X) (List.all_eq_true.1 c9 u (List.mem_of_getElem? X)))⟩
       ·obtain⟨b2,k,q1,q2,q3,q4,q5⟩:=Q.ob l o Z
        have O:=Q.lt _ _ q2
        exact⟨b2,k,G _ _ q1,by rw[J7 _ _ zO];exact q2,by rw[h3];exact q3,by rw[r b2 O];exact(q4.keep H).mono G (fun _ _ _ h=>h),q5⟩
      ·rw[h2]at hu
       obtain⟨b2,n2,c2,s2,q1,q2,q3,q4,q5⟩:=Q.tk u hu
       have O:=Q.lt _ _ q2
       exact⟨b2,n2,c2,s2,G _ _ q1,by rw[J7 _ _ zO];exact q2,q3,by rw[r b2 O];exact q4,q5⟩
      ·rw[j2]at b6
       split at b6
       ·rename_i e';omega
       ·exact Nat.lt_of_lt_of_le (Q.lt c o b6) U.size
     ·refine Rep.osl _ ub 0 n z d3 b (.n arr.size) ⟨b,0,none⟩ zS (fun _=>⟨rfl,?_⟩) hc hm
      simpa[Kd.size] using m2
 | agg|tup|undef|eptr|ptr|osl|map|iter|fn|iface|yld=>simp[QN,V.scal]at J
 | _=>exact plain rfl rfl
theorem j0v {ob ob':ZO}{tk c:Nat→Bool}{ub b:Nat}{v r:V}(h:jvq ob tk ub v=some (r,ob',c,b)):∃d,QN (2*ub+1) ub v=some d∧r=d.v∧ob'=JI ob d.obs∧c=tk∧b=ub+64:=by
 unfold jvq at h
 unfold QN
 split at h
 ·rename_i n cs z
  simp only[Option.ite_none_right_eq_some,Option.some.injEq,Prod.mk.injEq]at h
  obtain⟨e,rfl,rfl,rfl,rfl⟩:=h
  exact⟨_,if_pos e,rfl,rfl,rfl,rfl⟩
 ·rename_i f
  simp only[Option.ite_none_right_eq_some,Option.some.injEq,Prod.mk.injEq]at h
  obtain⟨e,rfl,rfl,rfl,rfl⟩:=h
  exact⟨{ v:=v },if_pos e,rfl,rfl,rfl,rfl⟩
theorem jmk {d ub:Nat}{v:V}{δ:Delta}(h:QN d ub v=some δ):δ.wt=[]∧δ.kill=[]:=by
 unfold QN at h
 split at h
 ·simp only[Option.ite_none_right_eq_some,Option.some.injEq]at h
  obtain⟨_,rfl⟩:=h
  exact⟨rfl,rfl⟩
 ·simp only[Option.ite_none_right_eq_some,Option.some.injEq]at h
  obtain⟨_,rfl⟩:=h
  exact⟨rfl,rfl⟩
theorem j0u {γ0:Nat→Option Place}{Iy:IMap}{f:FuncId}{args b:List V}{ob ob':ZO}{tk c:Nat→Bool}{ro ub g:Nat}{v r:V}(hp:jkk P E f b v) (y:args.mapM (Yz ob)=some b) (J:jvq ob tk ub v=some (r,ob',c,g)) :
 jh0 P E γ0 Iy f args ob tk ro ub [(r,ob',c,g)]:=by
 intro w0 w I0 I γ K st s t o p k l i m d
 subst o p k
 obtain⟨M,n,rfl,rfl,rfl,rfl⟩:=j0v J
 refine(jmj (fun _ _ h=>h) hp y n l (i ub zR) m d).mono fun e L H=>?_
 obtain⟨x,j,rfl,F,G,D,z⟩:=H
 exact⟨_,List.mem_singleton.2 rfl,x,j,I,rfl,F,G,D,fun _ _ _ h=>h,fun u q=>by have q:ub+64≤u:=q;rw[z u zO];exact i u zO⟩
end
section
variable {P:Program}{E:Env}{w0 w:World}{I0:IMap}{nt:Nat}{γ:Nat→Option Place}{I:IMap}{st:St}{a:Act}{o:Oper}{ub:Nat}{δ:Delta}
def Nice (E:Env) (w0:World) (I0:IMap) (nt:Nat) (γ:Nat→Option Place) (I:IMap) (st:St) (ub:Nat) (K:Act→World→Prop):Prop :=
 ∀γ' I' a' w',R E w0 I0 nt γ' I' st a' w'→(∀u,ub≤u→γ' u=none)→(∀u p,γ u=some p→γ' u=some p)→(∀b o x,I b o=some x→I' b o=some x)→K a' w'
theorem jiu {γ:Nat→Option Place}{I:IMap}:Rep γ I undef jq:=.tup _ _ rfl zS
theorem jrv (c:R E w0 I0 nt γ I st a w) {dst:Option Tmp}(b:∀d,dst=some d→d<nt):R E w0 I0 nt γ I { st with tm:=put st.tm dst jq } (a.put dst undef) w:=c.put b jiu
theorem XE {m:Bool}{ops:Array Oper}{ao:AOpr}(b:JS P m ops o=some ao):ao.dst=o.dst∧(JX P m o=some ao.op∨ao.op=.stuck):=by
 have c:JX P m o=some ((JX P m o).getD .stuck)∨(JX P m o).getD .stuck=.stuck:=by
  cases JX P m o with
  | none=>exact .inr rfl
  | some x=>exact .inl rfl
 unfold JS at b
 split at b
 ·cases b;exact⟨rfl,c⟩
 ·obtain⟨t,d,rfl⟩:=map_some b;exact⟨rfl,c⟩
theorem Xl (r:R E w0 I0 nt γ I st a w) {m:Bool}{ops:Array Oper}{ao:AOpr}{b:Bool}(i:JS P m ops o=some ao) (d:wanted ao st.tm=some b):Region.wanted o (yielded ops a.tmps)=b:=by
 unfold JS at i
 unfold Region.wanted
 cases q:o.guard with
 | none=>
  simp only[q,Option.some.injEq]at i
  subst i
  simp only[wanted,Option.some.injEq]at d
  exact d
 | some g=>
  obtain⟨j,k⟩:=g
  simp only[q]at i
  obtain⟨t,s,rfl⟩:=map_some i
  simp only[wanted]at d
  have c:=r.tm t
  have u:yielded ops a.tmps j=match a.tmps[t]? with|some (.bool b)=>some b|_=>none:=by
   unfold yielded
   rw[s]
   rfl
  simp only[u]
  split at d
  ·rename_i p l
   cases d
   rw[l]at c
   have n:a.tmps.getD t undef=.bool p:=by
    generalize a.tmps.getD t undef=x at c
    cases c with
    | pure _ _ h=>cases h;rfl
   have f:t<a.tmps.size:=by
    rcases Nat.lt_or_ge t a.tmps.size with h|h
    ·exact h
    ·simp[Array.getElem?_eq_none h,undef]at n
   have:a.tmps[t]? = some (.bool p):=by
    rw[Array.getElem?_eq_getElem f]
    simpa[f] using n
   simp only[this]
   cases p <;> cases k <;> rfl
  ·rename_i l
   cases d
   rw[l]at c
   have n:∀b,a.tmps.getD t undef≠.bool b:=by
    intro b e
    rw[e]at c
    cases c with
    | pure _ _ h=>cases h
   have:∀b,a.tmps[t]?≠some (.bool b):=by
    intro b e
    exact n b (by simp[e])
   split
   ·rename_i b l;exact absurd l (this b)
   ·rfl
  ·cases d
theorem WX {r:Option Nat}{K:Act→World→Prop}{Q:Exit→Act→World→Prop}(b:∀c,o.op≠.defer c) (h:o.uponIn (FW r) 0 P a K Q ((execOp a.eval o).run P w)):o.wpIn (FW r) 0 P a w K Q :=
 ⟨fun _ _=>trivial,by rw[Oper.semAt_eq _ _ _ b];exact h⟩
theorem Yp {r:Option Nat}{K:Act→World→Prop}{Q:Exit→Act→World→Prop}{f:FuncId}{args:Array Value}{R':Ending→World→Prop}(h:Calls P f args w R') (d:∀e b,R' e b→∃v,e=.returned v∧K (a.put o.dst v) b) :
 o.uponIn (FW r) 0 P a K Q (.ok (.enter f args) w):=by
 rw[Oper.uponIn_enter]
 refine⟨(fun h=>by cases h),jul (Calls.mono h fun e b c=>?_)⟩
 obtain⟨v,rfl,g⟩:=d e b c
 exact g
theorem jop {r:Option Nat}{K:Act→World→Prop}{Q:Exit→Act→World→Prop}{l:Nat}{f:FuncId}{tmps:Array Value}{asg bd:Code}{R':Ending→World→Prop}(h:RoundIn (FW none) 0 P l f tmps asg bd w R') (g:∀e b,R' e b→∃v,e=.returned v∧K (a.put o.dst v) b) :
 o.uponIn (FW r) 0 P a K Q (.ok (.round l f tmps asg bd) w):=by
 rw[Oper.uponIn_round]
 refine⟨(fun h=>by cases h),?_⟩
 have:=RoundIn.mono h (R':=fun
  | .returned v,w''=>K (a.put o.dst v) w''
  | .panicked chain,w''=>Q (.panic chain) a w''
  | .outgrown,_=>LetsOut Q) (fun e b d=>by
  obtain⟨v,rfl,c⟩:=g e b d
  exact c)
 exact this
variable {γ0:Nat→Option Place}{Iy:IMap}
theorem jhx {m:Bool}{U:Callers}{r:Option Nat}{ao:AOp}{K:Act→World→Prop}{Q:Exit→Act→World→Prop}(b6:COk P E γ0 Iy U)
 (H:R E w0 I0 nt γ I st a w) (hf:∀u,ub≤u→u<ub+64→γ u=none) (l:JX P m o=some ao) (hd:∀d,o.dst=some d→d<nt) {d:Nat}
 (k:aop U.d (eval E st.tm) st.ob st.tk st.ro d ub ao=some δ)
 (T:∀j y a' O,R E w0 I0 nt j y (st.app o.dst δ) a' O→(∀u,¬(ub≤u∧u<ub+64)→j u=γ u)→(∀u p,γ u=some p→j u=some p)→(∀b o x,I b o=some x→y b o=some x)→K a' O) :
 o.wpIn (FW r) 0 P a w K Q:=by
 by_cases hn:ao.isCall=false
 ·obtain⟨x,O,j,y,h,n,D,i,G⟩:=op_ok H hd (hf ub zR zO) l hn k
  refine WX (YY l) ?_
  rcases h with h|⟨h,rfl⟩
  ·rw[h]
   exact T j y _ _ n D i G
  ·rw[h]
   exact T j y _ _ n D i G
 ·have c:∃f N,((∃t,ao=.call f t∧N=t.map (eval E st.tm))∨∃q t first g,ao=.callV q t∧eval E st.tm q=.fn (.func f) first g∧N=first++t.map (eval E st.tm)++g) ∧
   jbu U.d ub f (N.map V.strip)=some δ:=by
   cases ao <;> simp only[AOp.isCall,not_true_eq_false,Bool.true_eq_false,not_false_eq_true]at hn
   case call f t=>exact⟨f,_,.inl ⟨t,rfl,rfl⟩,by rw[List.map_map];exact k⟩
   case callV q t=>
    simp only[aop]at k
    split at k
    ·rename_i f first g Z
     exact⟨f,_,.inr ⟨q,t,first,g,rfl,Z,rfl⟩,k⟩
    ·cases k
  obtain⟨f,N,B,c⟩:=c
  unfold jbu at c
  split at c
  case isFalse=>cases c
  rename_i z
  obtain⟨r,hr,c⟩:=bind_some c
  unfold Xg at c
  split at c
  case isFalse=>cases c
  rename_i a0
  cases c
  obtain⟨S,J⟩:=b6.d _ _ _ hr
  obtain⟨F,h,b0,v⟩:=ja1 H l B S
  obtain⟨M,s⟩:=jyy b0 v z
  have:=J w I F H.imm H.gl M s
  refine WX (YY l) ?_
  rw[h]
  refine Yp this fun e O he=>?_
  obtain⟨x,τ,y,rfl,hg,G,b5,L,hx,ht⟩:=he
  obtain⟨j,n,X,i⟩:=jiz H hd hf hg G b5 L hx ht a0
  exact⟨x,rfl,T j y _ _ n X i G⟩
theorem Ji {ao:AOp}{nm:Bool}{d:A→V}{f:FuncId}{vs:List V}(h:jB E nm d ao=some (f,vs)):(∃c,ao=.call f c∧vs=c.map d)∨∃q c first b,ao=.callV q c∧d q=.fn (.func f) first b∧vs=first++c.map d++b:=by
 unfold jB at h
 split at h
 ·rename_i g c
  split at h
  ·cases h
  ·cases h
   exact .inl ⟨c,rfl,rfl⟩
 ·rename_i q c
  split at h
  ·rename_i g first b e
   split at h
   ·cases h
   ·cases h
    exact .inr ⟨q,c,first,b,rfl,e,rfl⟩
  ·cases h
 ·cases h
theorem jzn {m nm:Bool}{S:Callers}{r:Option Nat}{ao:AOp}{K:Act→World→Prop}{Q:Exit→Act→World→Prop}(O:COk P E γ0 Iy S)
 (F:R E w0 I0 nt γ I st a w) (X:∀u,ub≤u→u<ub+64→γ u=none) (j:JX P m o=some ao) (Z:∀d,o.dst=some d→d<nt) {f:FuncId}{vs:List V}{ob:ZO}{tk:Nat→Bool}{base uo:Nat}
 (H:jB E nm (eval E st.tm) ao=some (f,vs)) (N:∀l x,ob l=some x→st.ob l=some x) (D:∀u,uo≤u→γ u=none) (G:(S.o f vs ob tk base uo).bind (Xg ub)=some δ)
 (hK:∀g t T J,R E w0 I0 nt g t (st.app o.dst δ) T J→(∀u,¬(ub≤u∧u<ub+64)→g u=γ u)→(∀u p,γ u=some p→g u=some p)→(∀b o x,I b o=some x→t b o=some x)→K T J) :
 o.wpIn (FW r) 0 P a w K Q:=by
 obtain⟨rv,hr,c⟩:=bind_some G
 unfold Xg at c
 split at c
 case isFalse=>cases c
 rename_i M
 cases c
 obtain⟨v,q⟩:=O.o _ _ _ _ _ _ _ hr
 obtain⟨k,n,B,i⟩:=ja1 F j (Ji H) v
 have:=q w0 w I0 I γ k st N F.sh D B i
 refine WX (YY j) ?_
 rw[n]
 refine Yp this fun e J he=>?_
 obtain⟨x,τ,t,rfl,hg,U,L,s,hx,ht⟩:=he
 obtain⟨g,z,y,h⟩:=jiz F Z X hg U L s hx ht M
 exact⟨x,rfl,hK g t _ _ z y h U⟩
theorem j50 {m nm:Bool}{X:Callers}{r:Option Nat}{ao:AOp}{K:Act→World→Prop}{Q:Exit→Act→World→Prop}(T:COk P E γ0 Iy X)
 (k:R E w0 I0 nt γ I st a w) (hf:∀u,ub≤u→u<ub+64→γ u=none) (n:JX P m o=some ao) (hd:∀d,o.dst=some d→d<nt) {f:FuncId}{vs y:List V}{v:V}{ob:ZO}{dn:Nat}
 (N:jB E nm (eval E st.tm) ao=some (f,vs)) (S:∀l x,ob l=some x→st.ob l=some x) (ha:vs.mapM (Yz ob)=some y) (hv:X.d f y=some v) (D:QN dn ub v=some δ)
 (hK:∀c I' Z O,R E w0 I0 nt c I' (st.app o.dst δ) Z O→(∀u,¬(ub≤u∧u<ub+64)→c u=γ u)→(∀u p,γ u=some p→c u=some p)→(∀b o x,I b o=some x→I' b o=some x)→K Z O) :
 o.wpIn (FW r) 0 P a w K Q:=by
 obtain⟨G,j⟩:=T.d _ _ _ hv
 obtain⟨U,z,L,i⟩:=ja1 k n (Ji N) G
 refine WX (YY n) ?_
 rw[z]
 refine Yp (jmj S j ha D k.sh (hf ub zR zO) L i) fun e O he=>?_
 obtain⟨x,c,rfl,B,s,M,H⟩:=he
 obtain⟨g,J⟩:=jmk D
 unfold Delta.wt at g
 have F:δ.del.toList=[]:=(List.append_eq_nil_iff.1 g).1
 have q:δ.add=[]:=(List.append_eq_nil_iff.1 g).2
 refine⟨x,rfl,hK c I _ _ ⟨(YX _ _ _).trans k.sz,jcc k M _ _,?_,B _ (by simp[St.app,J]) (by simp[St.app,F,q,XL]) rfl⟩ (fun u hu=>H u (fun e=>hu ⟨zO,zO⟩)) M (fun _ _ _ h=>h)⟩
 exact Wg (by rw[k.sz];exact hd) (fun t=>(k.tm t).mono M (fun _ _ _ h=>h)) s
theorem mk_ok {m nm:Bool}{cd:Callers}{r:Option Nat}{ao:AOp}{K:Act→World→Prop}{Q:Exit→Act→World→Prop}(N:COk P E γ0 Iy cd)
 (X:R E w0 I0 nt γ I st a w) (hf:∀u,ub≤u→u<ub+64→γ u=none) (z:JX P m o=some ao) (hd:∀d,o.dst=some d→d<nt) {f:FuncId}{vs:List V}{J:Nat}
 (L:jB E nm (eval E st.tm) ao=some (f,vs)) (g:mkD E f vs J ub=some δ)
 (hK:∀c F S M,R E w0 I0 nt c F (st.app o.dst δ) S M→(∀u,¬(ub≤u∧u<ub+64)→c u=γ u)→(∀u p,γ u=some p→c u=some p)→(∀b o x,I b o=some x→F b o=some x)→K S M) :
 o.wpIn (FW r) 0 P a w K Q:=by
 unfold mkD at g
 split at g
 case h_2=>cases g
 rename_i cs hn
 obtain⟨H,y⟩:=N.k _ _ hn
 obtain⟨l,B,D,q⟩:=ja1 X z (Ji L) H
 obtain⟨x,rfl⟩:∃x,l = #[x]:=⟨l[0]'(by simp at D;omega),by
  apply Array.ext
  ·simpa using D
  ·intro i T G
   have:i=0:=by simp at G;omega
   subst this
   rfl⟩
 obtain⟨p,s,rfl⟩:∃p s,x=.slice p 0 s:=by
  cases q 0 x _ rfl rfl with
  | pure _ _ h=>cases h <;> exact⟨_,_,rfl⟩
 refine WX (YY z) ?_
 rw[B]
 refine Yp (y p s w) fun e M he=>?_
 obtain⟨rfl,Z,t,rfl,T,G⟩:=he
 obtain⟨c,F,h3,h4,h5,h6⟩:=juw (body:=.cells cs) (v:=.ptr J ub 0) (d:=J) (k:=.n Z.size) X hd (hf ub zR zO) rfl (x:=.pointer (some ⟨w.heap.size,0,none⟩)) (fun c h=>.ptr _ _ _ _ _ h)
  ⟨Z,t,rfl,rfl,Nat.le_of_eq T.symm,fun j x v U O=>⟨(G j x v U O).1,.pure _ _ ((G j x v U O).2 _)⟩⟩ g
 exact⟨_,rfl,hK c F _ _ h3 h4 h5 h6⟩
theorem jgt {m:Bool}{ops:Array Oper}{U:Callers}{rn:Option Nat}{ao:AOpr}{l:List (St × Nat)}{K:Act→World→Prop}{Q:Exit→Act→World→Prop}(M:COk P E γ0 Iy U) (a0:SubG γ0 γ) (b7:SubI Iy I)
 (B:R E w0 I0 nt γ I st a w) (O:∀u,ub≤u→γ u=none) (hc:JS P m ops o=some ao) (hd:∀d,o.dst=some d→d<nt)
 (j:jbx E U ao st ub=some l) (hK:∀x∈l,Nice E w0 I0 nt γ I x.1 x.2 K) :
 if Region.wanted o (yielded ops a.tmps) then o.wpIn (FW rn) 0 P a w K Q else (∀f,o.about P w a.eval=some f→(FW rn).fn f)∧K (a.put o.dst undef) w:=by
 obtain⟨n,i⟩:=XE hc
 unfold jbx at j
 cases hw:wanted ao st.tm with
 | none=>simp[hw]at j
 | some b=>
  rw[Xl B hc hw]
  cases b with
  | false=>
   simp only[hw,Option.some.injEq]at j
   subst j
   simp only[Bool.false_eq_true,if_false]
   refine⟨fun _ _=>trivial,?_⟩
   have:=hK _ (List.mem_singleton.2 rfl)
   rw[n]at this
   exact this γ I _ _ (jrv B hd) O (fun _ _ h=>h) (fun _ _ _ h=>h)
  | true=>
   simp only[hw]at j
   simp only[if_true]
   have i:JX P m o=some ao.op:=i.resolve_right fun h=>by simp[h,jB,jf,aop,AOp.next?]at j
   -- behind what shares
   have c0:∀ {r:V}{ob:ZO}{tk:Nat→Bool}{L:Nat},({ st with tm:=put st.tm ao.dst r,ob:=ob,tk:=tk },L)∈l→∀e S,W3 E w0 I0 γ I st.ro r ob tk L e S→∃v,e=.returned v∧K (a.put o.dst v) S:=by
    intro r ob tk L hl e S he
    obtain⟨x,q,I',rfl,b9,b8,hg,X,c6⟩:=he
    refine⟨x,rfl,?_⟩
    have:=hK _ hl
    refine this q I' _ _ ⟨(YX _ _ _).trans B.sz,jcc B hg _ _,?_,b9 _ rfl rfl rfl⟩ c6 hg X
    rw[n]
    exact Wg (by rw[B.sz];exact hd) (fun t=>(B.tm t).mono hg X) b8
   cases b5:jf (eval E st.tm) ao.op with
   | some c5=>
    obtain⟨lb,u,vs⟩:=c5
    simp only[b5]at j
    obtain⟨⟨r,ob,tk,L⟩,z,he⟩:=map_some j
    obtain⟨b,k,D,hu,c,b0,p⟩:=jql B i b5
    obtain⟨fn,tmps,c8,bd,hy,N⟩:=M.y _ _ _ _ _ _ _ _ _ _ _ z w0 w I0 I γ D st b k a0 b7 rfl rfl rfl B.sh O b0 p hu
    refine WX (YY i) ?_
    rw[c,hy]
    exact jop N (c0 (he▸List.mem_singleton.2 rfl))
   | none=>
   simp only[b5]at j
   cases T:jB E ao.nm (eval E st.tm) ao.op with
   | some fx=>
    obtain⟨f,vs⟩:=fx
    simp only[T]at j
    split at j
    ·obtain⟨ls,z,he⟩:=map_some j
     obtain⟨c1,b6⟩:=M.s _ _ _ _ _ _ _ _ z
     obtain⟨D,c,b0,p⟩:=ja1 B i (Ji T) c1
     have:=b6 w0 w I0 I γ D st a0 b7 rfl rfl rfl B.sh O b0 p
     refine WX (YY i) ?_
     rw[c]
     exact Yp this fun e S ⟨r,hr,h⟩=>c0 (he▸List.mem_map_of_mem (f:=fun x=>({ st with tm:=put st.tm ao.dst x.1,ob:=x.2.1,tk:=x.2.2.1 },x.2.2.2)) hr) e S h
    ·obtain⟨δ,H,rfl⟩:=map_some j
     refine jzn M B (fun u h _=>O u h) i hd T (fun _ _ h=>h) O H (fun q I' a' S G F g X=>?_)
     have:=hK _ (List.mem_singleton.2 rfl)
     rw[n]at this
     refine this q I' _ _ G (fun u hu=>?_) g X
     simp only at hu
     rw[F u zO]
     exact O u zO
   | none=>
    simp only[T]at j
    split at j
    ·rename_i x J
     obtain⟨ls,c3,rfl⟩:=map_some j
     have c2:ao.op=.nextMap x:=by
      unfold AOp.next? at J
      split at J
      ·cases J;assumption
      ·cases J
     rw[c2]at i
     obtain⟨xo,ho,c4⟩:=jpw i
     obtain⟨δ,H,c7⟩:=jpg (P:=P) (ub:=ub) B hd ho c4 c3
     obtain⟨x,S,q,I',c,G,F,g,X⟩:=c7
     have Z:K (a.put o.dst x) S:=by
      have:=hK _ (List.mem_map.2 ⟨δ,H,rfl⟩)
      rw[n]at this
      refine this q I' _ _ G (fun u hu=>?_) g X
      simp only at hu
      rw[F u zO]
      exact O u zO
     refine WX (YY i) ?_
     rcases c with c|⟨c,rfl⟩
     ·rw[c];exact Z
     ·rw[c];exact Z
    ·obtain⟨δ,H,rfl⟩:=map_some j
     refine jhx M B (fun u h _=>O u h) i hd H (fun q I' a' S G F g X=>?_)
     have:=hK _ (List.mem_singleton.2 rfl)
     rw[n]at this
     refine this q I' _ _ G (fun u hu=>?_) g X
     simp only at hu
     rw[F u zO]
     exact O u zO
theorem je1 {e g:Type}{f:e→Option (List g)}:∀ {l:List e}{r:List g},Qc f l=some r→∀x∈l,∃d,f x=some d∧∀y∈d,y∈r
 | [],r,_,x,hx=>by cases hx
 | [x'],r,h,x,hx=>by
  simp only[List.mem_singleton]at hx
  subst hx
  exact⟨r,h,fun y c=>c⟩
 | x'::y'::l,r,h,x,hx=>by
  simp only[Qc]at h
  obtain⟨a,j,h⟩:=bind_some h
  obtain⟨b,k,rfl⟩:=map_some h
  rcases List.mem_cons.1 hx with rfl|hx
  ·exact⟨a,j,fun y c=>List.mem_append_left _ c⟩
  ·obtain⟨d,i,m⟩:=je1 k x hx
   exact⟨d,i,fun y c=>List.mem_append_right _ (m y c)⟩
theorem JT {c d:Type}{m:Option (List c)}{f:c→Option (List d)}{r:List d}(h:bindL m f=some r):∃l,m=some l∧∀x∈l,∃b,f x=some b∧∀y∈b,y∈r:=by
 obtain⟨l,e,h⟩:=bind_some h
 exact⟨l,e,je1 h⟩
theorem R.congr {st st':St}(h:R E w0 I0 nt γ I st a w) (d:st'.tm=st.tm) (c:st'.ob=st.ob) (b:st'.tk=st.tk) (e:st'.ro=st.ro) (f:st'.df=st.df):R E w0 I0 nt γ I st' a w :=
 ⟨h.sz,by rw[f];exact h.df,by rw[d];exact h.tm,⟨h.imm,h.gl,(let ⟨Ω,ho⟩:=h.own;⟨Ω,⟨by rw[c,e];exact ho.ob,by rw[b];exact ho.tk,ho.lt⟩⟩),h.fr,h.old⟩⟩
theorem Nice.weaken {γ γ':Nat→Option Place}{I f:IMap}{st:St}{ub:Nat}{K:Act→World→Prop}(h:Nice E w0 I0 nt γ I st ub K) (k:∀u p,γ u=some p→γ' u=some p)
 (g:∀b o x,I b o=some x→f b o=some x):Nice E w0 I0 nt γ' f st ub K :=
 fun e l a2 i m j c d=>h e l a2 i m j (fun u p h=>c u p (k u p h)) (fun b o x h=>d b o x (g b o x h))
theorem jr6 {m:Bool}{ops:Array Oper}{f:Callers}{rn:Option Nat}{Q:Exit→Act→World→Prop}(n:COk P E γ0 Iy f) :
 ∀ (l:List Oper) (c:List AOpr),l.mapM (JS P m ops)=some c→(∀p∈c,∀d,p.dst=some d→d<nt)→∀ (γ:Nat→Option Place) (I:IMap) (st:St) (a:Act) (w:World) (ub:Nat) (e:List St),
  SubG γ0 γ→SubI Iy I→R E w0 I0 nt γ I st a w→(∀u,ub≤u→γ u=none)→jg9 E f c st ub=some e→(∀b∈e,Nice E w0 I0 nt γ I b b.nx (fun a w=>Q .normal a w))→wpListIn (FW rn) 0 P ops Q l a w
 | [],c,hm,hd,γ,I,st,a,w,ub,e,hγ0,hIy,hR,hf,hs,hK=>by
  simp at hm
  subst hm
  simp only[jg9,Option.some.injEq]at hs
  subst hs
  exact hK _ (List.mem_singleton.2 rfl) γ I a w (hR.congr rfl rfl rfl rfl rfl) hf (fun _ _ h=>h) (fun _ _ _ h=>h)
 | o::l,c,hm,hd,γ,I,st,a,w,ub,e,hγ0,hIy,hR,hf,hs,hK=>by
  simp only[List.mapM_cons]at hm
  cases k:JS P m ops o with
  | none=>simp[k]at hm
  | some p=>
   cases t:l.mapM (JS P m ops) with
   | none=>simp[k,t]at hm
   | some i=>
    simp[k,t]at hm
    subst hm
    simp only[jg9]at hs
    obtain⟨ls,J,L⟩:=JT hs
    have s:∀d,o.dst=some d→d<nt:=by
     have j:p.dst=o.dst:=(XE k).1
     rw[← j]
     exact hd p (List.mem_cons_self ..)
    have:=jgt (rn:=rn) (K:=wpListIn (FW rn) 0 P ops Q l) (Q:=Q) n hγ0 hIy hR hf k s J (fun x j q G F M v r z y=>by
     obtain⟨B,H,D⟩:=L x j
     exact jr6 n l i t (fun x j=>hd x (List.mem_cons_of_mem _ j)) q G x.1 F M x.2 B (hγ0.trans z) (hIy.trans y) v r H
      (fun b g=>(hK b (D b g)).weaken z y))
    unfold wpListIn
    exact this
end
theorem jp0 {E:Env}{tm a:Nat→V}{x:A}(h:∀t∈x.tmps,tm t=a t):eval E tm x=eval E a x:=by
 cases x with
 | t n=>exact h n (by simp[A.tmps])
 | c v=>rfl
 | g n=>rfl
theorem QW {ob ob':ZO}{l u:Nat}(h:ob l=ob' l):j0 ob l u=j0 ob' l u:=by unfold j0;rw[h]
theorem jjh {ob ob':ZO}{l u:Nat}(h:ob l=ob' l):jg ob l u=jg ob' l u:=by unfold jg;rw[h]
theorem jjg {ob ob':ZO}{l:Nat}(h:ob l=ob' l):jl ob l=jl ob' l:=by unfold jl;rw[h]
theorem WC {ob ob':ZO}{sz:Nat}{v:V}(h:∀l∈lOf v,ob l=ob' l):jI ob sz v=jI ob' sz v:=by
 cases v <;> try rfl
 simp only[jI]
 rw[QW (h _ (by simp[lOf]))]
theorem Jy {a b:Type}{f g:a→b}{l:List a}(h:∀x∈l,f x=g x):l.map f=l.map g:=List.map_congr_left h
theorem Wt {ρ a:A→V}{ps:List (Nat × Nat × A)}(h:∀x∈ps.map (·.2.2),ρ x=a x):jx ρ ps=jx a ps:=by
 unfold jx
 refine List.map_congr_left fun p b=>?_
 obtain⟨o,s,x⟩:=p
 simp only[h x (List.mem_map.2 ⟨_,b,rfl⟩)]
theorem XI {ρ a:A→V}{x:Option A}(h:∀y∈x.toList,ρ y=a y):x.map ρ=x.map a:=by
 cases x with
 | none=>rfl
 | some y=>simp[h y zS]
theorem je3 {cd:FuncId→List V→Option V}{ρ w:A→V}{ob ob':ZO}{tk D:Nat→Bool}{ro d ub:Nat}(o:AOp) (j:o.far=false)
 (c:∀x∈o.opds,ρ x=w x) (B:∀l∈rdOb ρ o,ob l=ob' l) (I:∀u∈rdTk ρ o,tk u=D u):aop cd ρ ob tk ro d ub o=aop cd w ob' D ro d ub o:=by
 have r:∀l u,l∈rdOb ρ o→j0 ob l u=j0 ob' l u:=fun l u h=>QW (B l h)
 have ov:∀l,l∈rdOb ρ o→jl ob l=jl ob' l:=fun l h=>jjg (B l h)
 have om:∀l u,l∈rdOb ρ o→jg ob l u=jg ob' l u:=fun l u h=>jjh (B l h)
 cases o <;> simp only[AOp.opds,List.mem_cons,List.not_mem_nil,or_false,forall_eq_or_imp,forall_eq]at c
 case alloc=>rfl
 case mkMap=>rfl
 case stuck=>rfl
 case build z ps=>simp only[aop,Wt c]
 case buildSl o s z ps n=>simp only[aop,Wt c]
 case entry x=>cases j
 case nextMap x=>cases j
 case slStr x l h=>
  simp only[aop]
  rw[c.1,XI (fun y i=>c.2 y (List.mem_append_left _ i)),XI (fun y i=>c.2 y (List.mem_append_right _ i))]
 case slSl s x l h=>
  simp only[aop]
  rw[c.1,XI (fun y i=>c.2 y (List.mem_append_left _ i)),XI (fun y i=>c.2 y (List.mem_append_right _ i))]
 case slArr n s x l h=>
  simp only[aop]
  rw[← c.1,XI (fun y i=>c.2 y (List.mem_append_left _ i)),XI (fun y i=>c.2 y (List.mem_append_right _ i))]
  split
  ·rename_i a u off e;rw[r a u (by simp[rdOb,e,lOf])]
  ·rfl
 case ext k xs=>simp only[aop,Jy c]
 case eq neg k x y=>
  simp only[aop]
  rw[← c.1,← c.2]
  split
  ·rename_i l u off L J H e i
   rw[r l u (by simp[rdOb,e,lOf]),r L J (by simp[rdOb,i,lOf])]
  ·rfl
 case copy sz x y=>
  simp only[aop]
  rw[← c.1,← c.2,WC (fun l F=>B l (by simp only[rdOb];exact List.mem_append_right _ F))]
  congr 1
  funext ys
  split
  ·rename_i l u off n G e;rw[r l u (by simp[rdOb,e,lOf])]
  ·rfl
  ·rfl
 case clear sz z x=>
  simp only[aop]
  rw[← c]
  split
  ·rename_i l u off n G e;rw[r l u (by simp[rdOb,e,lOf])]
  ·rfl
  ·rfl
 case mkFn f a b=>
  simp only[aop]
  rw[Jy (fun y i=>c y (List.mem_append_left _ i)),Jy (fun y i=>c y (List.mem_append_right _ i))]
 case minmax b xs=>simp only[aop,Jy c]
 case call f xs=>
  simp only[aop]
  rw[Jy (f:=fun x=>(ρ x).strip) (g:=fun x=>(w x).strip) (fun y i=>by rw[c y i])]
 case callV f xs=>
  simp only[aop]
  rw[c.1,Jy (fun y i=>c.2 y i)]
 case load g x=>
  simp only[aop]
  rw[← c]
  split
  ·rfl
  ·rename_i l u off e;rw[r l u (by simp[rdOb,e,lOf])]
  ·rfl
 case store s x y=>
  simp only[aop]
  rw[← c.1,← c.2]
  split
  ·rename_i l u off e;rw[r l u (by simp[rdOb,e,lOf])]
  ·rfl
 case lenMap x=>
  simp only[aop]
  rw[← c]
  split
  ·rfl
  ·rename_i l u e;rw[om l u (by simp[rdOb,e,lOf])]
  ·rfl
 case lookup q z ok m k=>
  simp only[aop]
  rw[← c.1,← c.2]
  split
  ·split
   ·rfl
   ·rename_i l u e;rw[om l u (by simp[rdOb,e,lOf])]
   ·rfl
  ·rfl
 case mapSet q m k v=>
  simp only[aop]
  rw[← c.1,← c.2.1,← c.2.2]
  split
  ·split
   ·rename_i l u e;rw[om l u (by simp[rdOb,e,lOf]),ov l (by simp[rdOb,e,lOf])]
   ·rfl
  ·rfl
 case mapDel q m k=>
  simp only[aop]
  rw[← c.1,← c.2]
  split
  ·split
   ·rfl
   ·rename_i l u e;rw[om l u (by simp[rdOb,e,lOf]),ov l (by simp[rdOb,e,lOf])]
   ·rfl
  ·rfl
 case mapEnt q z m k=>
  simp only[aop]
  rw[← c.1,← c.2]
  split
  ·split
   ·rename_i l u e;rw[om l u (by simp[rdOb,e,lOf]),ov l (by simp[rdOb,e,lOf])]
   ·rfl
  ·rfl
 case entSt m s x=>
  simp only[aop]
  rw[← c.1,← c.2.1,← c.2.2]
  split
  ·rename_i l u n e _;rw[om l u (by simp[rdOb,e,lOf]),ov l (by simp[rdOb,e,lOf])]
  ·rfl
 case nextStr x=>
  simp only[aop]
  rw[← c]
  split
  ·rename_i l u e;rw[B l (by simp[rdOb,e,lOf])]
  ·rfl
 case append o s b x y=>
  simp only[aop]
  rw[← c.1,← c.2]
  split
  ·rename_i t M n cs e
   rw[WC (fun l F=>B l (by simp only[rdOb];exact List.mem_append_right _ F))]
   cases t with
   | none=>rfl
   | some p=>
    obtain⟨u,z⟩:=p
    have K:=I u (by simp[rdTk,e,uOf])
    simp only[K]
  ·rename_i l u off n G e
   rw[WC (fun l F=>B l (by simp only[rdOb];exact List.mem_append_right _ F)),r l u (by simp[rdOb,e,lOf])]
  ·rfl
 case range b x=>
  cases b
  ·simp only[aop]
   rw[← c]
   split
   ·rfl
   ·rename_i l u e;rw[om l u (by simp[rdOb,e,lOf]),ov l (by simp[rdOb,e,lOf])]
   ·rfl
  ·simp only[aop,c]
 all_goals simp only[aop,c]
theorem rd_eq {ρ a:A→V}(o:AOp) (b:∀x∈o.opds,ρ x=a x):rdOb ρ o=rdOb a o∧rdTk ρ o=rdTk a o:=by
 cases o <;> simp only[AOp.opds,List.mem_cons,List.not_mem_nil,or_false,forall_eq_or_imp,forall_eq]at b <;> simp only[rdOb,rdTk,b,and_self]
theorem YW {E:Env}{nm:Bool}{ρ a:A→V}(o:AOp) (b:∀x∈o.opds,ρ x=a x):jB E nm ρ o=jB E nm a o:=by
 cases o <;> try rfl
 case call f xs=>
  have:xs.map ρ=xs.map a:=Jy (fun y c=>b y c)
  have e:(xs.all fun x=>(ρ x).strip.pureTop)=xs.all fun x=>(a x).strip.pureTop:=by
   have:∀r:A→V,(xs.all fun x=>(r x).strip.pureTop)=(xs.map r).all fun v=>v.strip.pureTop:=fun r=>by rw[List.all_map];rfl
   rw[this,this]
   congr 1
  simp only[jB,this,e]
 case callV f xs=>
  simp only[AOp.opds,List.mem_cons,forall_eq_or_imp]at b
  simp only[jB]
  rw[b.1,Jy (fun y c=>b.2 y c)]
section
variable {cd:FuncId→List V→Option V}{ρ:A→V}{ob:ZO}{tk:Nat→Bool}{ro d ub:Nat}{δ:Delta}
theorem j5y {o:AOp}(h:o.rO=false):rdOb ρ o=[]:=by cases o <;> first|rfl|cases h
theorem j5x {o:AOp}(h:o.rT=false):rdTk ρ o=[]:=by cases o <;> first|rfl|cases h
def PlO (r:Option Delta):Prop:=∀δ,r=some δ→δ.wo=[]
def PlT (r:Option Delta):Prop:=∀δ,r=some δ→δ.wt=[]
theorem jah:PlO none:=fun _ h=>by cases h
theorem plT_none:PlT none:=fun _ h=>by cases h
theorem jk9 (v:V):PlO (one v):=fun _ h=>by cases h;rfl
theorem jk8 (v:V):PlT (one v):=fun _ h=>by cases h;rfl
theorem jm2 {δ:Delta}(h:δ.wo=[]):PlO (some δ):=fun _ a=>by cases a;exact h
theorem jwh {δ:Delta}(h:δ.wt=[]):PlT (some δ):=fun _ a=>by cases a;exact h
theorem plT_mk {d ub:Nat}{b:OBody}{v:V}:PlT (Jd d ub b v):=fun _ h=>by cases h;rfl
theorem plO_bind {c:Type}{x:Option c}{f:c→Option Delta}(h:∀a,PlO (f a)):PlO (x.bind f):=fun δ b=>by
 obtain⟨a,_,b⟩:=bind_some b
 exact h a δ b
theorem plT_bind {c:Type}{x:Option c}{f:c→Option Delta}(h:∀a,PlT (f a)):PlT (x.bind f):=fun δ b=>by
 obtain⟨a,_,b⟩:=bind_some b
 exact h a δ b
theorem jr1 {ub:Nat}{r:V}:PlO (Xg ub r):=by
 unfold Xg
 split
 ·exact jm2 rfl
 ·exact jah
theorem jn8 {f:FuncId}{xs:List V}:PlO (jbu cd ub f xs):=by
 unfold jbu
 split
 ·exact plO_bind fun r=>jr1
 ·exact jah
theorem j1m (k:ExtK) (vs:List V):PlO (j3d k vs):=by
 unfold j3d
 split
 ·exact jk9 _
 ·exact jk9 _
 ·exact jah
theorem j1l (k:ExtK) (vs:List V):PlT (j3d k vs):=by
 unfold j3d
 split
 ·exact jk8 _
 ·exact jk8 _
 ·exact plT_none
theorem jy5 (o:AOp) (h:o.wO=false):PlO (aop cd ρ ob tk ro d ub o):=by
 cases o <;> simp only[AOp.wO,Bool.true_eq_false]at h <;> simp only[aop]
 case call f xs=>exact jn8
 case callV f xs=>
  split
  ·exact jn8
  ·exact jah
 case ext k xs=>exact j1m _ _
 all_goals repeat' first
  | with_reducible exact jk9 _
  | with_reducible exact jah
  | with_reducible exact jm2 rfl
  | (with_reducible refine plO_bind fun _=>?_)
  | split
theorem jy4 (o:AOp) (h:o.wT=false):PlT (aop cd ρ ob tk ro d ub o):=by
 cases o <;> simp only[AOp.wT,Bool.true_eq_false]at h
 case range b x=>cases b <;> simp only[aop] <;> repeat' first|exact plT_none|exact plT_mk|(with_reducible refine plT_bind fun _=>?_)|split
 case ext k xs=>simp only[aop];exact j1l _ _
 all_goals simp only[aop]
 all_goals repeat' first
  | with_reducible exact jk8 _
  | with_reducible exact plT_none
  | with_reducible exact plT_mk
  | with_reducible exact jwh rfl
  | (with_reducible refine plT_bind fun _=>?_)
  | split
end
abbrev Eff:=Option Nat × Delta
def jK:(Nat→Bool)→List Eff→St→St
 | _,[],st=>st
 | D,e::es,st=>jK (fun i=>D (i+1)) es (if D 0 then st.app e.1 e.2 else st)
theorem jy:∀ (es:List Eff) (D:Nat→Bool) (st:St),(jK D es st).nx=st.nx∧(jK D es st).fb=st.fb∧(jK D es st).ro=st.ro∧(jK D es st).df=st.df
 | [],_,_=>⟨rfl,rfl,rfl,rfl⟩
 | e::es,D,st=>by
  simp only[jK]
  obtain⟨c,b,a,d⟩:=jy es (fun i=>D (i+1)) (if D 0 then st.app e.1 e.2 else st)
  rw[c,b,a,d]
  split <;> exact⟨rfl,rfl,rfl,rfl⟩
section
variable {β:Type}{π:St→β}{wr:Eff→Bool}{g:Eff→β}(hπ:∀ (s:St) (e:Eff),π (s.app e.1 e.2)=if wr e then g e else π s)
include hπ
theorem X4:∀ (es:List Eff) (D c:Nat→Bool) (s s':St),(∀i e,es[i]? = some e→wr e=true→D i=c i)→π s=π s'→π (jK D es s)=π (jK c es s')
 | [],_,_,_,_,_,h=>h
 | e::es,D,c,s,s',h,hs=>by
  simp only[jK]
  refine X4 es _ _ _ _ (fun i d f a=>h (i+1) d (by simpa using f) a) ?_
  cases a:wr e with
  | true=>
   rw[h 0 e rfl a]
   split
   ·rw[hπ,hπ,a];rfl
   ·exact hs
  | false=>
   have:∀ (b:Bool) (s:St),π (if b then s.app e.1 e.2 else s)=π s:=fun b s=>by
    cases b
    ·rfl
    ·simp only[if_true];rw[hπ,a];rfl
   rw[this,this,hs]
theorem jj1:∀ (es:List Eff) (D:Nat→Bool) (s:St),(∀i e,es[i]? = some e→D i=true→wr e=false)→π (jK D es s)=π s
 | [],_,_,_=>rfl
 | e::es,D,s,h=>by
  simp only[jK]
  rw[jj1 es _ _ (fun i c d a=>h (i+1) c (by simpa using d) a)]
  split
  ·rename_i b;rw[hπ,h 0 e rfl b];rfl
  ·rfl
theorem jcy:∀ (es:List Eff) (D c:Nat→Bool) (s:St) (j:Nat) (e:Eff),es[j]? = some e→D j=false→c j=true→(∀i,i≠j→c i=D i) →
 (∀i a,j<i→es[i]? = some a→D i=true→wr e=true→wr a=false)→π (jK c es s)=if wr e then g e else π (jK D es s)
 | [],_,_,_,_,_,h,_,_,_,_=>by simp at h
 | e0::es,D,c,s,0,e,b,h0,h1,hsame,hno=>by
  simp only[List.getElem?_cons_zero,Option.some.injEq]at b
  subst b
  have m:(fun i=>c (i+1))=fun i=>D (i+1):=funext fun i=>hsame (i+1) zO
  simp only[jK,h0,h1,if_true,m,Bool.false_eq_true,if_false]
  cases d:wr e0 with
  | true=>
   rw[jj1 hπ es _ _ (fun i a b f=>hno (i+1) a zO (by simpa using b) f d),hπ,d]
   rfl
  | false=>
   simp only[Bool.false_eq_true,if_false]
   refine X4 hπ es _ _ _ _ (fun _ _ _ _=>rfl) ?_
   rw[hπ,d];rfl
 | e0::es,D,c,s,j+1,e,b,h0,h1,hsame,hno=>by
  simp only[jK]
  rw[hsame 0 zO]
  exact jcy es _ _ _ j e (by simpa using b) h0 h1 (fun i l=>hsame (i+1) zO) (fun i a l k f d=>hno (i+1) a zO (by simpa using k) f d)
end
def wrT (t:Nat) (e:Eff):Bool:=decide (e.1=some t)
def wrO (l:Nat) (e:Eff):Bool:=e.2.wo.contains l
def wrK (u:Nat) (e:Eff):Bool:=e.2.wt.contains u
theorem Qx (t:Nat) (s:St) (e:Eff):(s.app e.1 e.2).tm t=if wrT t e then e.2.v else s.tm t:=by
 obtain⟨d,a⟩:=e
 cases d with
 | none=>simp[wrT,St.app,put]
 | some d=>
  simp only[wrT,St.app,put,j2,Option.some.injEq,decide_eq_true_eq]
  by_cases h:t=d
  ·subst h;simp
  ·rw[if_neg h,if_neg (fun e=>h e.symm)]
theorem Wc (ob:ZO):∀ (l:List (Nat × Obj')) (k:Nat),JI ob l k=if (l.map (·.1)).contains k then JI (fun _=>none) l k else ob k
 | [],k=>by simp[JI]
 | (l,o)::r,k=>by
  simp only[JI,j2,List.map_cons,List.contains_cons]
  by_cases h:k=l
  ·subst h;simp
  ·rw[if_neg h,if_neg h,Wc ob r k]
   have:(k == l)=false:=by simpa using h
   simp only[this,Bool.false_or]
theorem jb4 (l:Nat) (s:St) (e:Eff):(s.app e.1 e.2).ob l=if wrO l e then JI (fun _=>none) e.2.obs l else s.ob l:=by
 have a:∀ (q:List Nat),q.any (Nat.beq l)=q.contains l:=fun q=>by
  rw[Bool.eq_iff_iff,any_beq]
  simp
 simp only[St.app,wrO,Delta.wo,List.contains_append]
 rw[Wc]
 cases h:(e.2.obs.map (·.1)).contains l with
 | true=>simp
 | false=>
  simp only[Bool.or_false,Bool.false_eq_true,if_false,a]
  cases b:e.2.kill.contains l with
  | true=>
   simp only[if_true]
   rw[Wc,h]
   rfl
  | false=>simp
theorem jad (tk:Nat→Bool) (b:Bool):∀ (l:List Nat) (k:Nat),XL tk b l k=if l.contains k then b else tk k
 | [],k=>by simp[XL]
 | u::r,k=>by
  simp only[XL,j2,List.contains_cons]
  by_cases h:k=u
  ·subst h;simp
  ·rw[if_neg h,jad tk b r k]
   have:(k == u)=false:=by simpa using h
   simp only[this,Bool.false_or]
theorem jfj (u:Nat) (s:St) (e:Eff):(s.app e.1 e.2).tk u=if wrK u e then e.2.add.contains u else s.tk u:=by
 simp only[St.app,wrK,Delta.wt,jad,List.contains_append]
 cases e.2.add.contains u <;> cases e.2.del.toList.contains u <;> rfl
theorem jgq (c:List Nat) (i:Nat):∀ (es:List Edge) (m:Nat),(es.foldl (fun m e=>if Region.binds .any e then m ||| (1 <<< e.on ||| c.getD e.on 0) else m) m).testBit i=true →
 m.testBit i=true∨∃e∈es,Region.binds .any e=true∧(i=e.on∨(c.getD e.on 0).testBit i=true)
 | [],m,h=>.inl h
 | e::es,m,h=>by
  simp only[List.foldl_cons]at h
  rcases jgq c i es _ h with h|⟨f,b,j⟩
  ·split at h
   ·rename_i a
    rw[Nat.testBit_or,Nat.testBit_or]at h
    simp only[Bool.or_eq_true]at h
    rcases h with h|h|h
    ·exact .inl h
    ·refine .inr ⟨e,List.mem_cons_self ..,a,.inl ?_⟩
     rw[Nat.testBit_shiftLeft]at h
     simp only[ge_iff_le,Bool.and_eq_true,decide_eq_true_eq]at h
     have:i - e.on=0:=by
      rcases Nat.eq_zero_or_pos (i - e.on) with h0|h0
      ·exact h0
      ·have d:=h.2
       have:Nat.testBit 1 (i - e.on)=false:=Nat.testBit_lt_two_pow (Nat.one_lt_two_pow zO)
       rw[this]at d
       cases d
     omega
    ·exact .inr ⟨e,List.mem_cons_self ..,a,.inr h⟩
   ·exact .inl h
  ·exact .inr ⟨f,List.mem_cons_of_mem _ b,j⟩
theorem je6:∀ (l:List Oper) (a:List Nat),a <+: J6 l a∧∀k o,l[k]? = some o→∃b,b <+: J6 l a∧(J6 l a).getD (a.length+k) 0=ahead o b
 | [],a=>⟨List.prefix_refl _,fun k o h=>by simp at h⟩
 | o::r,a=>by
  simp only[J6]
  obtain⟨d,m⟩:=je6 r (a++[ahead o a])
  refine⟨(List.prefix_append ..).trans d,fun k f c=>?_⟩
  cases k with
  | zero=>
   simp only[List.getElem?_cons_zero,Option.some.injEq]at c
   subst c
   refine⟨a,(List.prefix_append ..).trans d,?_⟩
   obtain⟨t,i⟩:=d
   rw[← i]
   simp
  | succ k=>
   obtain⟨b,n,j⟩:=m k f (by simpa using c)
   refine⟨b,n,?_⟩
   rw[← j]
   simp[Nat.add_assoc,Nat.add_comm 1 k]
theorem jl1 {a c:List Nat}(h:a <+: c) {k i:Nat}(b:(a.getD k 0).testBit i=true):(c.getD k 0).testBit i=true:=by
 obtain⟨t,rfl⟩:=h
 rcases Nat.lt_or_ge k a.length with hk|hk
 ·simpa[List.getD,List.getElem?_append_left hk] using b
 ·simp[List.getD,List.getElem?_eq_none hk]at b
theorem jlm {ops:Array Oper}{j i:Nat}{o:Oper}(l:ops[j]? = some o) (c:((J6 ops.toList []).getD j 0).testBit i=true) :
 ∃e∈o.after,Region.binds .any e=true∧(i=e.on∨((J6 ops.toList []).getD e.on 0).testBit i=true):=by
 obtain⟨_,h⟩:=je6 ops.toList []
 obtain⟨a,n,b⟩:=h j o (by rw[Array.getElem?_toList];exact l)
 simp only[List.length_nil,Nat.zero_add]at b
 rw[b,ahead]at c
 rcases jgq a i o.after.toList 0 c with f|⟨e,k,m,d⟩
 ·simp at f
 ·exact⟨e,by simpa using k,m,d.imp id (jl1 n)⟩
structure TrAt (E:Env) (call:Callers) (fb ub ue:Nat) (s:St) (ao:AOpr) (δ:Delta) (fp:FP):Prop where
 wo:fp.wo=δ.wo
 wt:fp.wt=δ.wt
 run:(wanted ao s.tm=some true∧jB E ao.nm (eval E s.tm) ao.op=none∧ao.op.far=false∧aop call.d (eval E s.tm) s.ob s.tk s.ro (ao.name fb ub) ub ao.op=some δ ∧
  fp.ro=rdOb (eval E s.tm) ao.op∧fp.rt=rdTk (eval E s.tm) ao.op∧fp.all=false)∨(wanted ao s.tm=some false∧δ = { v:=jq }∧fp = {}) ∨
  (wanted ao s.tm=some true∧∃f xs base,jB E ao.nm (eval E s.tm) ao.op=some (f,xs)∧(call.o f xs s.ob s.tk base ue).bind (Xg ub)=some δ∧fp = { wt:=δ.wt,all:=true,seen:=fun l=>(s.ob l).isSome }) ∨
  (wanted ao s.tm=some true∧∃f xs a' rv,jB E ao.nm (eval E s.tm) ao.op=some (f,xs)∧xs.mapM (Yz s.ob)=some a'∧call.d f a'=some rv∧QN (ao.name fb ub) ub rv=some δ∧fp = { wo:=δ.wo,all:=true,seen:=fun l=>(s.ob l).isSome,nw:=true }) ∨
  (wanted ao s.tm=some true∧∃f xs,jB E ao.nm (eval E s.tm) ao.op=some (f,xs)∧mkD E f xs (ao.name fb ub) ub=some δ∧fp = { wo:=δ.wo,nw:=true })
theorem mkD_wt {E:Env}{f:FuncId}{xs:List V}{d ub:Nat}{δ:Delta}(h:mkD E f xs d ub=some δ):δ.wt=[]:=by
 unfold mkD at h
 split at h
 ·cases h;rfl
 ·cases h
structure Trace (E:Env) (call:Callers) (st:St) (ub:Nat) (als:List AOpr) (effs:List Eff) (fps:List FP):Prop where
 len:effs.length=als.length
 at':∀i ao,als[i]? = some ao→∃δ fp,effs[i]? = some (ao.dst,δ)∧fps[i]? = some fp∧TrAt E call st.fb (ub+64*i) (ub+64*als.length) (jK (fun k=>decide (k<i)) effs st) ao δ fp
theorem jl2 (i:Nat) (e:Eff) (es:List Eff) (st:St):jK (fun k=>decide (k<i+1)) (e::es) st=jK (fun k=>decide (k<i)) es (st.app e.1 e.2):=by
 simp only[jK,Nat.zero_lt_succ,decide_true,if_true,Nat.add_lt_add_iff_right]
theorem XD {E:Env}{c:Callers}:∀ (q:List AOpr) (st:St) (ub:Nat) (n:List FP) (st':St),Y1 E c q st ub=some (n,st') →
 ∃a,Trace E c st ub q a n∧st' = { jK (fun _=>true) a st with nx:=ub+64*q.length }
 | [],st,ub,n,st',h=>by
  simp only[Y1,Option.some.injEq,Prod.mk.injEq]at h
  obtain⟨rfl,rfl⟩:=h
  exact⟨[],⟨rfl,fun i K h=>by simp at h⟩,rfl⟩
 | o::r,st,ub,n,st',h=>by
  have j:∀ (d:Delta) (y:FP) (fs:List FP),Y1 E c r (st.app o.dst d) (ub+64)=some (fs,st')→TrAt E c st.fb ub (ub+64*(o::r).length) st o d y →
   ∃a,Trace E c st ub (o::r) a (y::fs)∧st' = { jK (fun _=>true) a st with nx:=ub+64*(o::r).length }:=by
   intro d y fs m M
   obtain⟨a,z,G⟩:=XD r _ _ _ _ m
   refine⟨(o.dst,d)::a,⟨by simp[z.len],fun i K B=>?_⟩,?_⟩
   ·cases i with
    | zero=>
     simp only[List.getElem?_cons_zero,Option.some.injEq]at B
     subst B
     refine⟨d,y,rfl,rfl,?_⟩
     have:jK (fun k=>decide (k<0)) ((o.dst,d)::a) st=st:=by
      simp only[Nat.not_lt_zero,decide_false]
      have:∀ (l:List Eff) (s:St),jK (fun _=>false) l s=s:=by
       intro l
       induction l with
       | nil=>intro s;rfl
       | cons e l L=>intro s;simp only[jK,Bool.false_eq_true,if_false];exact L s
      exact this _ _
     rw[this]
     exact M
    | succ i=>
     obtain⟨F,I,Q,P,N⟩:=z.at' i K (by simpa using B)
     refine⟨F,I,by simpa using Q,by simpa using P,?_⟩
     rw[jl2]
     have z:ub+64*(i+1)=ub+64+64*i:=zO
     have G:ub+64*(o::r).length=ub+64+64*r.length:=by simp only[List.length_cons];omega
     rw[z,G]
     exact N
   ·rw[G]
    simp only[jK,if_true,List.length_cons]
    congr 1
    omega
  unfold Y1 at h
  split at h
  ·rename_i t
   split at h
   ·rename_i f H w
    split at h
    ·split at h
     ·obtain⟨d,b,h⟩:=bind_some h
      obtain⟨⟨fs,s⟩,m,g⟩:=map_some h
      simp only[Prod.mk.injEq]at g
      obtain⟨rfl,rfl⟩:=g
      obtain⟨J,p,v⟩:=bind_some b
      obtain⟨O,D,p⟩:=bind_some p
      exact j d _ fs m ⟨rfl,(jmk v).1.symm,.inr (.inr (.inr (.inl ⟨t,f,H,O,J,w,D,p,v,rfl⟩)))⟩
     ·obtain⟨d,b,h⟩:=bind_some h
      obtain⟨⟨fs,s⟩,m,g⟩:=map_some h
      simp only[Prod.mk.injEq]at g
      obtain⟨rfl,rfl⟩:=g
      exact j d _ fs m ⟨rfl,(mkD_wt b).symm,.inr (.inr (.inr (.inr ⟨t,f,H,w,b,rfl⟩)))⟩
    ·obtain⟨d,b,h⟩:=bind_some h
     obtain⟨⟨fs,s⟩,m,g⟩:=map_some h
     simp only[Prod.mk.injEq]at g
     obtain⟨rfl,rfl⟩:=g
     obtain⟨J,_,x⟩:=bind_some b
     exact j d _ fs m ⟨(jr1 d x).symm,rfl,.inr (.inr (.inl ⟨t,f,H,_,w,b,rfl⟩))⟩
   ·rename_i w
    split at h
    ·cases h
    ·rename_i u
     obtain⟨d,b,h⟩:=bind_some h
     obtain⟨⟨fs,s⟩,m,g⟩:=map_some h
     simp only[Prod.mk.injEq]at g
     obtain⟨rfl,rfl⟩:=g
     exact j d _ fs m ⟨rfl,rfl,.inl ⟨t,w,by simpa using u,b,rfl,rfl,rfl⟩⟩
  ·rename_i t
   obtain⟨⟨fs,s⟩,m,g⟩:=map_some h
   simp only[Prod.mk.injEq]at g
   obtain⟨rfl,rfl⟩:=g
   exact j _ _ fs m ⟨rfl,rfl,.inr (.inl ⟨t,rfl,rfl⟩)⟩
  ·cases h
structure Ind (f g:FP):Prop where
 oa:∀a∈f.wo,a ∉ g.ro
 ob:∀a∈f.wo,a ∉ g.wo
 oc:∀a∈f.ro,a ∉ g.wo
 ta:∀a∈f.wt,a ∉ g.rt
 tb:∀a∈f.wt,a ∉ g.wt
 tc:∀a∈f.rt,a ∉ g.wt
 al:f.all=true→∀l∈g.wo,f.seen l=false
 ar:g.all=true→f.wo=[]
theorem Xt {x y:List Nat}(h:jaz x y=true):∀a∈x,a ∉ y:=by
 intro a d c
 have:(x.any fun a=>y.any fun b=>Nat.beq a b)=true:=List.any_eq_true.2 ⟨a,d,List.any_eq_true.2 ⟨a,c,Nat.beq_refl a⟩⟩
 simp only[jaz,this,Bool.not_true,Bool.false_eq_true]at h
theorem jpx {f g:FP}(h:jay f g=true):Ind f g:=by
 simp only[jay,Bool.and_eq_true]at h
 obtain⟨⟨⟨⟨⟨⟨⟨d,k⟩,b⟩,c⟩,j⟩,i⟩,e⟩,l⟩:=h
 refine⟨Xt d,Xt k,Xt b,Xt c,Xt j,Xt i,fun a=>?_,fun a=>?_⟩
 ·simpa[a] using e
 ·simpa[a] using l
structure Cls (x:AOp) (f:FP):Prop where
 wo:x.wO=false→f.wo=[]∨f.nw=true
 ro:x.rO=false→f.ro=[]
 wt:x.wT=false→f.wt=[]
 rt:x.rT=false→f.rt=[]
 all:x.rA=false→f.all=false
theorem TrAt.cls {E:Env}{i:Callers}{fb ub ue:Nat}{s:St}{ao:AOpr}{δ:Delta}{m:FP}(h:TrAt E i fb ub ue s ao δ m):Cls ao.op m:=by
 rcases h.run with⟨_,_,_,d,k,l,p⟩|⟨_,_,rfl⟩|⟨_,f,n,o,d,k,rfl⟩|⟨_,f,n,t,r,d,k,l,p,rfl⟩|⟨_,f,n,d,k,rfl⟩
 ·exact⟨fun e=>.inl (by rw[h.wo];exact jy5 _ e δ d),fun c=>by rw[k];exact j5y c,fun e=>by rw[h.wt];exact jy4 _ e δ d,fun c=>by rw[l];exact j5x c,fun _=>p⟩
 ·exact⟨fun _=>.inl rfl,fun _=>rfl,fun _=>rfl,fun _=>rfl,fun _=>rfl⟩
 ·have j:(∃g a,ao.op=.call g a)∨∃q a,ao.op=.callV q a:=by
   rcases Ji d with⟨a,b,_⟩|⟨q,a,_,_,b,_⟩
   ·exact .inl ⟨f,a,b⟩
   ·exact .inr ⟨q,a,b⟩
  refine⟨fun _=>.inl rfl,fun _=>rfl,fun e=>?_,fun _=>rfl,fun c=>?_⟩
  ·rcases j with⟨g,a,b⟩|⟨q,a,b⟩ <;> rw[b]at e <;> cases e
  ·rcases j with⟨g,a,b⟩|⟨q,a,b⟩ <;> rw[b]at c <;> cases c
 ·have j:(∃g a,ao.op=.call g a)∨∃q a,ao.op=.callV q a:=by
   rcases Ji d with⟨a,b,_⟩|⟨q,a,_,_,b,_⟩
   ·exact .inl ⟨f,a,b⟩
   ·exact .inr ⟨q,a,b⟩
  refine⟨fun _=>.inr rfl,fun _=>rfl,fun _=>rfl,fun _=>rfl,fun c=>?_⟩
  rcases j with⟨g,a,b⟩|⟨q,a,b⟩ <;> rw[b]at c <;> cases c
 ·exact⟨fun _=>.inr rfl,fun _=>rfl,fun _=>rfl,fun _=>rfl,fun _=>rfl⟩
def j4e (f g:FP):Prop:=(∀a∈f.wo,a ∉ g.ro)∧(∀a∈f.wo,a ∉ g.wo)∧g.all=false
theorem jf6 {fs:List FP}(h:Qk fs=true) {i j:Nat}{f g:FP}(hi:fs[i]? = some f) (l:fs[j]? = some g) (b:i≠j) (m:f.nw=true):j4e f g:=by
 unfold Qk at h
 rw[Bool.or_eq_true]at h
 rcases h with h|h
 ·have:=List.all_eq_true.1 h f (List.mem_of_getElem? hi)
  rw[m]at this
  cases this
 ·have d:=(List.getElem?_eq_some_iff.1 hi).1
  have c:=(List.getElem?_eq_some_iff.1 l).1
  have k:=List.all_eq_true.1 h i (List.mem_range.2 d)
  simp only[List.getD,hi,Option.getD_some,m,Bool.not_true,Bool.false_or]at k
  have a:=List.all_eq_true.1 k j (List.mem_range.2 c)
  have e:Nat.beq i j=false:=by
   cases n:Nat.beq i j with
   | false=>rfl
   | true=>exact absurd (Nat.eq_of_beq_eq_true n) b
  simp only[l,Option.getD_some,e,Bool.false_or,Wm,Bool.and_eq_true,Bool.not_eq_true']at a
  exact⟨Xt a.1.1,Xt a.1.2,a.2⟩
theorem jrw {x y:AOp}{f g:FP}(k:x.quiet y=true) (B:Cls x f) (D:Cls y g) (e:f.nw=true→j4e f g) (i:g.nw=true→j4e g f):Ind f g:=by
 unfold AOp.quiet at k
 simp only[Bool.and_eq_true,Bool.not_eq_true',Bool.and_eq_false_iff,Bool.or_eq_false_iff]at k
 obtain⟨⟨⟨⟨⟨p,z⟩,n⟩,H⟩,u⟩,t⟩:=k
 obtain⟨m,F,r,v,G⟩:=B
 obtain⟨j,w,q,s,I⟩:=D
 refine⟨fun a b c=>?_,fun a b c=>?_,fun a b c=>?_,fun a b c=>?_,fun a b c=>?_,fun a b c=>?_,fun b=>?_,fun b=>?_⟩
 ·rcases p with h|⟨h,_⟩
  ·rcases m h with d|d
   ·rw[d]at b;cases b
   ·exact(e d).1 a b c
  ·rw[w h]at c;cases c
 ·rcases p with h|⟨_,h⟩
  ·rcases m h with d|d
   ·rw[d]at b;cases b
   ·exact(e d).2.1 a b c
  ·rcases j h with d|d
   ·rw[d]at c;cases c
   ·exact(i d).2.1 a c b
 ·rcases z with h|h
  ·rcases j h with d|d
   ·rw[d]at c;cases c
   ·exact(i d).1 a c b
  ·rw[F h]at b;cases b
 ·rcases n with h|⟨h,_⟩
  ·rw[r h]at b;cases b
  ·rw[s h]at c;cases c
 ·rcases n with h|⟨_,h⟩
  ·rw[r h]at b;cases b
  ·rw[q h]at c;cases c
 ·rcases H with h|h
  ·rw[q h]at c;cases c
  ·rw[v h]at b;cases b
 ·rcases u with h|⟨h,d⟩
  ·rw[G h]at b;cases b
  ·intro l o
   rcases j h with h''|h''
   ·rw[h'']at o;cases o
   ·rw[(i h'').2.2]at b;cases b
 ·rcases t with h|⟨h,d⟩
  ·rw[I h]at b;cases b
  ·rcases m h with h''|h''
   ·exact h''
   ·rw[(e h'').2.2]at b;cases b
structure Apart (x y:AOpr):Prop where
 a:∀d,x.dst=some d→d ∉ y.looks
 b:∀d,x.dst=some d→y.dst≠some d
 c:∀d,y.dst=some d→d ∉ x.looks
theorem jl9 {l:List Nat}{d:Nat}(h:(l.any fun t=>Nat.beq t d)=false):d ∉ l:=by
 intro a
 have:(l.any fun t=>Nat.beq t d)=true:=List.any_eq_true.2 ⟨d,a,Nat.beq_refl d⟩
 rw[h]at this
 cases this
theorem jqc {x y:AOpr}(h:x.apart y=true):Apart x y:=by
 unfold AOpr.apart at h
 simp only[Bool.and_eq_true]at h
 obtain⟨b,c⟩:=h
 refine⟨fun d a=>?_,fun d a e=>?_,fun d a=>?_⟩
 ·simp only[a,Bool.and_eq_true,Bool.not_eq_true']at b
  exact jl9 b.1
 ·simp only[a,e,Bool.and_eq_true,Bool.not_eq_true']at b
  rw[Nat.beq_refl]at b
  cases b.2
 ·simp only[a,Bool.not_eq_true']at c
  exact jl9 c
theorem Xi {ops:Array Oper}{a:List AOpr}{b:List (Nat × Nat)}(h:Xs ops a=some b) (d:a.length=ops.size) :
 (∀j o,ops[j]? = some o→∀e∈o.after,Region.binds .any e=true→e.on<j) ∧
 (∀i j x y,i<j→a[i]? = some x→a[j]? = some y→((J6 ops.toList []).getD j 0).testBit i=false→Apart x y∧(x.op.quiet y.op=true∨(i,j)∈b)):=by
 unfold Xs at h
 simp only[Option.ite_none_right_eq_some,Bool.and_eq_true,Option.some.injEq]at h
 obtain⟨⟨p,q⟩,rfl⟩:=h
 refine⟨fun j o m e r t=>?_,fun i j x y g l k u=>?_⟩
 ·have f:j<a.length:=by rw[d];exact(Array.getElem?_eq_some_iff.1 m).1
  have:=List.all_eq_true.1 p j (List.mem_range.2 f)
  simp only[m,Array.all_eq_true_iff_forall_mem]at this
  have:=this e r
  simp only[t,Bool.not_true,Bool.false_or]at this
  simpa[Nat.blt_eq] using this
 ·have f:j<a.length:=(List.getElem?_eq_some_iff.1 k).1
  have c:(i,j)∈(List.range a.length).flatMap fun j=>((List.range j).filter fun i=>!((J6 ops.toList []).getD j 0).testBit i).map fun i=>(i,j) :=
   List.mem_flatMap.2 ⟨j,List.mem_range.2 f,List.mem_map.2 ⟨i,List.mem_filter.2 ⟨List.mem_range.2 g,by rw[u];rfl⟩,rfl⟩⟩
  have n:=List.all_eq_true.1 q _ c
  simp only[l,k]at n
  refine⟨jqc n,?_⟩
  cases s:x.op.quiet y.op with
  | true=>exact .inl rfl
  | false=>exact .inr (List.mem_filter.2 ⟨c,by simp only[l,k,s,Bool.not_false]⟩)
section
variable {P:Program}{E:Env}{w0 w:World}{I0:IMap}{nt:Nat}{γ:Nat→Option Place}{I:IMap}{st:St}{a:Act}{ub:Nat}{call:Callers}{ops:Array Oper}{als:List AOpr}
 {effs:List Eff}{fps:List FP}{free:List (Nat × Nat)}
theorem R.drawn (h:R E w0 I0 nt γ I st a w) (n:Nat):R E w0 I0 nt γ I st a { w with drawn:=n } :=
 ⟨h.sz,h.df,h.tm,⟨h.imm,h.gl,(let ⟨Ω,ho⟩:=h.own;⟨Ω,⟨ho.ob,ho.tk,ho.lt⟩⟩),⟨h.fr.os,h.fr.tape,h.fr.output,h.fr.size,h.fr.block⟩,h.old⟩⟩
def jci (ops:Array Oper) (D:Nat→Bool):Prop:=∀j o,ops[j]? = some o→D j=true→∀e∈o.after,Region.binds .any e=true→D e.on=true
theorem jgl {D:Nat→Bool}(b:∀j o,ops[j]? = some o→∀e∈o.after,Region.binds .any e=true→e.on<j) (q:jci ops D) :
 ∀ (n j i:Nat),j≤n→j<ops.size→((J6 ops.toList []).getD j 0).testBit i=true→D j=true→D i=true:=by
 intro n
 induction n with
 | zero=>
  intro j i r d l p
  have f:=Array.getElem?_eq_getElem d
  obtain⟨e,k,c,_⟩:=jlm f l
  have:=b j _ f e k c
  omega
 | succ n s=>
  intro j i r d l p
  have f:=Array.getElem?_eq_getElem d
  obtain⟨e,k,c,h⟩:=jlm f l
  have m:=b j _ f e k c
  have g:=q j _ f p e k c
  rcases h with rfl|h
  ·exact g
  ·exact s e.on i zO zO h g
theorem YJ {D:Nat→Bool}(b:∀j o,ops[j]? = some o→∀e∈o.after,Region.binds .any e=true→e.on<j) (m:jci ops D) {j i:Nat}{o:Oper}(f:ops[j]? = some o)
 (k:∀e∈o.after,Region.binds .any e=true→D e.on=true) (n:((J6 ops.toList []).getD j 0).testBit i=true):D i=true:=by
 obtain⟨e,d,c,h⟩:=jlm f n
 have l:=(Array.getElem?_eq_some_iff.1 f).1
 have g:=b j _ f e d c
 rcases h with rfl|h
 ·exact k e d c
 ·exact jgl b m e.on e.on i zR zO h (k e d c)
theorem XW {s s':St}{ao:AOpr}(h:∀t∈ao.looks,s.tm t=s'.tm t):∀x∈ao.op.opds,eval E s.tm x=eval E s'.tm x :=
 fun x b=>jp0 fun t c=>h t (List.mem_append_left _ (List.mem_flatMap.2 ⟨x,b,c⟩))
theorem Jp {s s':St}{ao:AOpr}(h:∀t∈ao.looks,s.tm t=s'.tm t):wanted ao s.tm=wanted ao s'.tm:=by
 unfold wanted
 cases c:ao.guard with
 | none=>rfl
 | some g=>
  obtain⟨t,b⟩:=g
  simp only[]
  rw[h t (List.mem_append_right _ (by simp[c]))]
theorem jpl (x:AOpr):Apart jhd x:=⟨fun _ h=>(by cases h),fun _ h=>(by cases h),fun _ _ h=>by simp[jhd,AOpr.looks,AOp.opds,A.tmps]at h⟩
theorem Ind.nil (f:FP):Ind {} f:=⟨fun _ h=>(by cases h),fun _ h=>(by cases h),fun _ h=>(by cases h),fun _ h=>(by cases h),fun _ h=>(by cases h),fun _ h=>(by cases h),fun h=>(by cases h),fun _=>rfl⟩
theorem je4 {al':List AOpr}{sp:Nat→Bool}{bb:Bool}{m:Bool}{rn:Option Nat}{γ0:Nat→Option Place}{Iy:IMap}{Q:Exit→Act→World→Prop}{kk:Nat}(k4:kk≤als.length)
 (h4:al'.length=kk) (i8:∀i D,i<kk→sp i=false→als[i]? = some D→al'[i]? = some D) (g1:∀i,i<kk→sp i=true→effs[i]? = some (none,{ v:=jq }))
 (g5:∀j,kk≤j→j<ops.size→∀i,i<kk→((J6 ops.toList []).getD j 0).testBit i=true)
 (d7:COk P E γ0 Iy call) (g8:ops.toList.mapM (JS P m ops)=some als) (e2:Xs ops als=some free)
 (e8:Trace E call st ub al' effs fps) (i1:XA free fps=true) (h6:Qk fps=true) (f7:∀D∈als,∀d,D.dst=some d→d<nt)
 (g7:∀i (q:Nat) (n:Array Bool) (B:Nat→Option Place) (I1:IMap) (a:Act) (w:World),sp i=true→i<kk→n.size=ops.size→jci ops (fun i=>n.getD i false)→(∀j,kk≤j→n.getD j false=false)→(∀j,sp j=true→n.getD j false=bb) →
  n.toList.count false≤q+1→R E w0 I0 nt B I1 (jK (fun i=>n.getD i false) effs st) a w→(∀u,ub+64*kk≤u→B u=none) →
  (∀u p,γ u=some p→B u=some p)→(∀b o x,I b o=some x→I1 b o=some x)→i∈Region.ready .any ops n →
  wpOpIn (FW rn) 0 P ops Q i (wpAnyIn (FW rn) 0 P .any ops Q q (n.setIfInBounds i true)) a w)
 (hK:∀G I' a' w' (q:Nat) (n:Array Bool),n.size=ops.size→(∀i,n.getD i false=decide (i<kk))→(∀j,sp j=true→n.getD j false=bb)→n.toList.count false≤q →
  R E w0 I0 nt G I' (jK (fun _=>true) effs st) a' w'→(∀u,ub+64*kk≤u→G u=none)→(∀u p,γ u=some p→G u=some p) →
  (∀b o x,I b o=some x→I' b o=some x)→wpAnyIn (FW rn) 0 P .any ops Q q n a' w') :
 ∀ (q:Nat) (n:Array Bool) (B:Nat→Option Place) (I1:IMap) (a:Act) (w:World),n.size=ops.size→jci ops (fun i=>n.getD i false)→(∀j,kk≤j→n.getD j false=false)→(∀j,sp j=true→n.getD j false=bb)→n.toList.count false≤q →
  R E w0 I0 nt B I1 (jK (fun i=>n.getD i false) effs st) a w→(∀u,ub+64*kk≤u→B u=none) →
  (∀j,n.getD j true=false→∀u,ub+64*j≤u→u<ub+64*j+64→B u=none)→(∀u p,γ u=some p→B u=some p)→(∀b o x,I b o=some x→I1 b o=some x) →
  wpAnyIn (FW rn) 0 P .any ops Q q n a w:=by
 obtain⟨d5,h5⟩:=ju g8
 have d5:als.length=ops.size:=by rw[d5,Array.length_toList]
 obtain⟨c1,b9⟩:=Xi e2 d5
 have g6:effs.length=kk:=by rw[e8.len,h4]
 have i2:kk≤ops.size:=zO
 have g0:∀ {i D},i<kk→sp i=false→als[i]? = some D→al'[i]? = some D:=fun hi hs h=>i8 _ _ hi hs h
 -- two that no edge orders touch nothing of each other
 have d9:∀i j x y g9 fi h7 fj,i<j→als[i]? = some x→als[j]? = some y→((J6 ops.toList []).getD j 0).testBit i=false →
  fps[i]? = some fi→fps[j]? = some fj→(∃s u v,TrAt E call st.fb u v s x g9 fi)→(∃s u v,TrAt E call st.fb u v s y h7 fj)→Ind fi fj:=by
  intro i j x y g9 fi h7 fj i0 hx hy ht e6 e9 ⟨s1,u1,v1,t1⟩ ⟨s2,u2,v2,t2⟩
  rcases(b9 i j x y i0 hx hy ht).2 with hq|hm
  ·exact jrw hq t1.cls t2.cls (fun h=>jf6 h6 e6 e9 zO h) (fun h=>jf6 h6 e9 e6 zO h)
  ·have:=List.all_eq_true.1 i1 _ hm
   simp only[List.getD,e6,e9,Option.getD_some]at this
   exact jpx this
 have c2:∀ (n:Array Bool) (i:Nat),i<n.size→n.getD i true=n.getD i false:=by
  intro n i hi
  simp[hi]
 have b5:∀n:Array Bool,n.size=ops.size→(∀i,i<kk→i ∉ Region.ready .any ops n)→∀j,j<kk→n.getD j false=true:=by
  intro n X hr j
  induction j using Nat.strongRecOn with
  | _ j ih=>
   intro hj
   cases hd:n.getD j false with
   | true=>rfl
   | false=>
    have:j∈Region.ready .any ops n:=mem_ready.2 ⟨by rw[c2 n j zO];exact hd,ops[j],Array.getElem?_eq_getElem zO,fun e he hb=>by
     have:=c1 j _ (Array.getElem?_eq_getElem zO) e he hb
     exact ih e.on this zO⟩
    exact absurd this (hr j hj)
 have done:∀ (q:Nat) (n:Array Bool) (B:Nat→Option Place) (I1:IMap) (a:Act) (w:World),n.size=ops.size→(∀j,kk≤j→n.getD j false=false)→(∀j,sp j=true→n.getD j false=bb)→n.toList.count false≤q→(∀j,j<kk→n.getD j false=true) →
  R E w0 I0 nt B I1 (jK (fun i=>n.getD i false) effs st) a w→(∀u,ub+64*kk≤u→B u=none)→(∀u p,γ u=some p→B u=some p)→(∀b o x,I b o=some x→I1 b o=some x)→wpAnyIn (FW rn) 0 P .any ops Q q n a w:=by
  intro q n B I1 a w X L a0 b6 F hR c5 hg hI
  have d3:∀ {β:Type}{π:St→β}{wr:Eff→Bool}{g:Eff→β},(∀ (s:St) (e:Eff),π (s.app e.1 e.2)=if wr e then g e else π s) →
   π (jK (fun _=>true) effs st)=π (jK (fun i=>n.getD i false) effs st):=fun d8=>
   X4 d8 effs _ _ _ _ (fun i e he _=>(F i (by rw[← g6];exact(List.getElem?_eq_some_iff.1 he).1)).symm) rfl
  refine hK B I1 a w q n X (fun i=>?_) a0 b6 (hR.congr (funext fun t=>d3 (π:=fun s=>s.tm t) (wr:=wrT t) (g:=fun e=>e.2.v) (Qx t)) (funext fun l=>d3 (π:=fun s=>s.ob l) (wr:=wrO l) (g:=fun e=>JI (fun _=>none) e.2.obs l) (jb4 l)) (funext fun u=>d3 (π:=fun s=>s.tk u) (wr:=wrK u) (g:=fun e=>e.2.add.contains u) (jfj u)) ((jy effs _ st).2.2.1.trans (jy effs _ st).2.2.1.symm) ((jy effs _ st).2.2.2.trans (jy effs _ st).2.2.2.symm)) c5 hg hI
  by_cases hi:i<kk
  ·rw[F i hi,decide_eq_true hi]
  ·rw[L i zO,decide_eq_false hi]
 intro q
 induction q with
 | zero=>
  intro n B I1 a w X c8 c4 a0 b6 hR c5 b8 hg hI
  refine done 0 n B I1 a w X c4 a0 b6 (b5 n X fun i _ hi=>?_) hR c5 hg hI
  obtain⟨h0,o,ho,_⟩:=mem_ready.1 hi
  have c9:i<n.size:=by rw[X];exact(Array.getElem?_eq_some_iff.1 ho).1
  have f9:false∈n.toList:=by
   have:n[i]? = some false:=by
    simp only[Array.getD_eq_getD_getElem?,Array.getElem?_eq_getElem c9,Option.getD_some]at h0
    rw[Array.getElem?_eq_getElem c9,h0]
   exact Array.mem_toList_iff.2 (Array.mem_of_getElem? this)
  have:=List.count_pos_iff.2 f9
  omega
 | succ q ih=>
  intro n B I1 a w X c8 c4 a0 b6 hR c5 b8 hg hI
  by_cases F:∀j,j<kk→n.getD j false=true
  ·exact done (q+1) n B I1 a w X c4 a0 b6 F hR c5 hg hI
  refine⟨fun hr=>absurd (b5 n X fun i _ hi=>by rw[hr]at hi;cases hi) F,fun i hi=>?_⟩
  obtain⟨h0,o,ho,e7⟩:=mem_ready.1 hi
  have h9:i<ops.size:=(Array.getElem?_eq_some_iff.1 ho).1
  have f0:i<kk:=by
   rcases Nat.lt_or_ge i kk with h|h
   ·exact h
   ·exact absurd (fun j hj=>YJ c1 c8 ho e7 (g5 i h h9 j hj)) F
  cases e4:sp i with
  | true=>exact g7 i q n B I1 a w e4 f0 X c8 c4 a0 b6 hR c5 hg hI hi
  | false=>
  have d0:i<n.size:=zO
  have c0:n.getD i false=false:=by rw[← c2 n i d0];exact h0
  have i4:i<als.length:=zO
  have c3:=List.getElem?_eq_getElem i4
  generalize als[i]=D at c3
  have M:JS P m ops o=some D:=h5 i o D (by rw[Array.getElem?_toList];exact ho) c3
  obtain⟨δ,fp,he,f6,ht⟩:=e8.at' i D (g0 f0 e4 c3)
  obtain⟨hd1,O⟩:=XE M
  -- what no edge orders with it
  have H:∀k e,effs[k]? = some e→k≠i→(n.getD k false=decide (k<i))∨(∃y fk,e.1=y.dst∧fk.wo=e.2.wo∧fk.wt=e.2.wt∧((Apart y D∧Ind fk fp)∨(Apart D y∧Ind fp fk))):=by
   intro k e T i7
   have f1:k<kk:=by rw[← g6];exact(List.getElem?_eq_some_iff.1 T).1
   have i6:k<als.length:=zO
   have hy:=List.getElem?_eq_getElem i6
   generalize als[k]=y at hy
   cases g4:sp k with
   | true=>
    have:=g1 k f1 g4
    rw[T]at this
    cases this
    exact .inr ⟨jhd,{},rfl,rfl,rfl,.inl ⟨jpl _,Ind.nil _⟩⟩
   | false=>
   obtain⟨f3,fk,S,g3,b7⟩:=e8.at' k y (g0 f1 g4 hy)
   rw[T]at S
   cases S
   rcases Nat.lt_or_gt_of_ne i7 with c9|hgt
   ·cases c6:((J6 ops.toList []).getD i 0).testBit k with
    | true=>
     refine .inl ?_
     rw[decide_eq_true c9]
     exact YJ c1 c8 ho e7 c6
    | false=>exact .inr ⟨y,fk,rfl,b7.wo,b7.wt,.inl ⟨(b9 k i y D c9 hy c3 c6).1,d9 k i y D f3 fk δ fp c9 hy c3 c6 g3 f6 ⟨_,_,_,b7⟩ ⟨_,_,_,ht⟩⟩⟩
   ·cases c6:((J6 ops.toList []).getD k 0).testBit i with
    | true=>
     refine .inl ?_
     rw[decide_eq_false zO]
     cases Z:n.getD k false with
     | false=>rfl
     | true=>
      have:=jgl c1 c8 k k i zR zO c6 Z
      rw[c0]at this
      cases this
    | false=>exact .inr ⟨y,fk,rfl,b7.wo,b7.wt,.inr ⟨(b9 i k D y hgt c3 hy c6).1,d9 i k D y δ fp f3 fk hgt c3 hy c6 f6 g3 ⟨_,_,_,ht⟩ ⟨_,_,_,b7⟩⟩⟩
  have r:∀t∈D.looks,(jK (fun i=>n.getD i false) effs st).tm t=(jK (fun k=>decide (k<i)) effs st).tm t:=by
   intro t g2
   refine X4 (π:=fun s=>s.tm t) (wr:=wrT t) (g:=fun e=>e.2.v) (Qx t) effs _ _ _ _ (fun k e T z=>?_) rfl
   by_cases K:k=i
   ·subst K;rw[c0];simp
   ·rcases H k e T K with h|⟨y,fk,U,_,_,h|h⟩
    ·exact h
    ·simp only[wrT,decide_eq_true_eq]at z
     exact absurd g2 (h.1.a t (U▸z))
    ·simp only[wrT,decide_eq_true_eq]at z
     exact absurd g2 (h.1.c t (U▸z))
  have i3:∀l∈fp.ro,(jK (fun i=>n.getD i false) effs st).ob l=(jK (fun k=>decide (k<i)) effs st).ob l:=by
   intro l hl
   refine X4 (π:=fun s=>s.ob l) (wr:=wrO l) (g:=fun e=>JI (fun _=>none) e.2.obs l) (jb4 l) effs _ _ _ _ (fun k e T z=>?_) rfl
   by_cases K:k=i
   ·subst K;rw[c0];simp
   ·simp only[wrO,List.contains_iff_mem]at z
    rcases H k e T K with h|⟨y,fk,_,J,_,h|h⟩
    ·exact h
    ·exact absurd hl (h.2.oa l (J▸z))
    ·exact absurd (J▸z) (h.2.oc l hl)
  have h8:∀u∈fp.rt,(jK (fun i=>n.getD i false) effs st).tk u=(jK (fun k=>decide (k<i)) effs st).tk u:=by
   intro u hu
   refine X4 (π:=fun s=>s.tk u) (wr:=wrK u) (g:=fun e=>e.2.add.contains u) (jfj u) effs _ _ _ _ (fun k e T z=>?_) rfl
   by_cases K:k=i
   ·subst K;rw[c0];simp
   ·simp only[wrK,List.contains_iff_mem]at z
    rcases H k e T K with h|⟨y,fk,_,_,J,h|h⟩
    ·exact h
    ·exact absurd hu (h.2.ta u (J▸z))
    ·exact absurd (J▸z) (h.2.tc u hu)
  -- what is there when it has come about too
  have c7:∀k,k≠i→(n.setIfInBounds i true).getD k false=n.getD k false:=fun k T=>getD_set_ne false (Ne.symm T)
  have e1:(n.setIfInBounds i true).getD i false=true:=by simp[d0]
  have L:∀k e,i<k→effs[k]? = some e→n.getD k false=true→∃y fk,e.1=y.dst∧fk.wo=e.2.wo∧fk.wt=e.2.wt∧((Apart y D∧Ind fk fp)∨(Apart D y∧Ind fp fk)):=by
   intro k e T S Z
   rcases H k e S zO with h|h
   ·rw[Z,decide_eq_false zO]at h;cases h
   ·exact h
  have d4:∀ {β:Type}{π:St→β}{wr:Eff→Bool}{g:Eff→β},(∀ (s:St) (e:Eff),π (s.app e.1 e.2)=if wr e then g e else π s) →
   (∀k e,i<k→effs[k]? = some e→n.getD k false=true→wr (D.dst,δ)=true→wr e=false) →
   π (jK (fun k=>(n.setIfInBounds i true).getD k false) effs st)=π ((jK (fun i=>n.getD i false) effs st).app D.dst δ):=by
   intro β π wr g d8 i9
   rw[jcy d8 effs (fun i=>n.getD i false) _ st i (D.dst,δ) he c0 e1 c7 (fun k e' T S Z z=>i9 k e' T S Z z)]
   exact(d8 _ (D.dst,δ)).symm
  have b0:∀G I' a' w',R E w0 I0 nt G I' ((jK (fun i=>n.getD i false) effs st).app D.dst δ) a' w'→(∀u,¬(ub+64*i≤u∧u<ub+64*i+64)→G u=B u) →
   (∀u p,B u=some p→G u=some p)→(∀b o x,I1 b o=some x→I' b o=some x)→wpAnyIn (FW rn) 0 P .any ops Q q (n.setIfInBounds i true) a' w':=by
   intro G I' a' w' N e0 hm k1
   refine ih (n.setIfInBounds i true) G I' a' w' (by simpa using X) ?_ (fun j hj=>by rw[c7 j zO];exact c4 j hj) (fun j hj=>by rw[c7 j (fun e=>by subst e;rw[e4]at hj;cases hj)];exact a0 j hj) ?_ (N.congr (funext fun t=>d4 (π:=fun s=>s.tm t) (wr:=wrT t) (g:=fun e=>e.2.v) (Qx t) ?_) (funext fun l=>d4 (π:=fun s=>s.ob l) (wr:=wrO l) (g:=fun e=>JI (fun _=>none) e.2.obs l) (jb4 l) ?_) (funext fun u=>d4 (π:=fun s=>s.tk u) (wr:=wrK u) (g:=fun e=>e.2.add.contains u) (jfj u) ?_) ((jy effs _ st).2.2.1.trans (jy effs _ st).2.2.1.symm) ((jy effs _ st).2.2.2.trans (jy effs _ st).2.2.2.symm)) ?_ ?_
    (fun u p h=>hm u p (hg u p h)) (fun b o x h=>k1 b o x (hI b o x h))
   ·intro j oj e3 f5 e' f8 hb
    by_cases d6:j=i
    ·subst d6
     rw[ho]at e3
     cases e3
     exact getD_set_true (e7 e' f8 hb)
    ·simp only[c7 j d6]at f5
     exact getD_set_true (c8 j oj e3 f5 e' f8 hb)
   ·have hg:n.toList[i]? = some false:=by
     rw[Array.getElem?_toList,Array.getElem?_eq_getElem d0]
     simp only[Array.getD_eq_getD_getElem?,Array.getElem?_eq_getElem d0,Option.getD_some]at c0
     rw[c0]
    have f2:i<n.toList.length:=by simpa using d0
    rw[Array.toList_setIfInBounds,List.count_set f2]
    rw[List.getElem?_eq_getElem f2]at hg
    simp only[Option.some.injEq]at hg
    rw[hg]
    simp only[beq_self_eq_true,if_true]
    have:(true == false)=false:=rfl
    rw[this]
    simp only[Bool.false_eq_true,if_false]
    omega
   ·intro k e T S Z z
    obtain⟨y,fk,U,_,_,h|h⟩:=L k e T S Z
    ·simp only[wrT,decide_eq_true_eq]at z
     simp only[wrT,decide_eq_false_iff_not]
     intro e5
     exact h.1.b t (U▸e5) z
    ·simp only[wrT,decide_eq_true_eq]at z
     simp only[wrT,decide_eq_false_iff_not]
     intro e5
     exact h.1.b t z (U▸e5)
   ·intro k e T S Z z
    obtain⟨y,fk,_,J,_,h⟩:=L k e T S Z
    simp only[wrO,List.contains_iff_mem]at z
    have:l ∉ e.2.wo:=by
     rw[← J]
     rcases h with h|h
     ·exact fun hm=>h.2.ob l hm (by rw[ht.wo];exact z)
     ·exact h.2.ob l (by rw[ht.wo];exact z)
    simp only[wrO]
    simpa using this
   ·intro k e T S Z z
    obtain⟨y,fk,_,_,J,h⟩:=L k e T S Z
    simp only[wrK,List.contains_iff_mem]at z
    have:u ∉ e.2.wt:=by
     rw[← J]
     rcases h with h|h
     ·exact fun hm=>h.2.tb u hm (by rw[ht.wt];exact z)
     ·exact h.2.tb u (by rw[ht.wt];exact z)
    simp only[wrK]
    simpa using this
   ·intro u hu
    rw[e0 u zO]
    exact c5 u hu
   ·intro j hj u U J
    have d6:j≠i:=by
     intro e
     subst e
     simp[d0]at hj
    rw[getD_set_ne true (Ne.symm d6)]at hj
    rw[e0 u zO]
    exact b8 j hj u U J
  have d1:∀d,o.dst=some d→d<nt:=by rw[← hd1];exact f7 D (List.mem_of_getElem? c3)
  have i5:=jy effs (fun i=>n.getD i false) st
  have f4:=jy effs (fun k=>decide (k<i)) st
  unfold wpOpIn
  simp only[ho]
  rcases ht.run with⟨r1,r2,k0,r3,r4,r5,r6⟩|⟨r1,r2,r3⟩|⟨r1,f,xs,k3,r2,r3,r4⟩|⟨r1,f,xs,a1,rv,r2,r3,r5,r6,r4⟩|⟨r1,f,xs,r2,r3,r4⟩
  ·have z:wanted D (jK (fun i=>n.getD i false) effs st).tm=some true:=by rw[Jp r];exact r1
   rw[if_pos (Xl hR M z)]
   have O:JX P m o=some D.op:=O.resolve_right fun h=>by
    rw[h]at r3
    cases r3
   have hr:=rd_eq D.op (XW (E:=E) r)
   have k2:aop call.d (eval E (jK (fun i=>n.getD i false) effs st).tm) (jK (fun i=>n.getD i false) effs st).ob (jK (fun i=>n.getD i false) effs st).tk (jK (fun i=>n.getD i false) effs st).ro (D.name st.fb (ub+64*i)) (ub+64*i) D.op=some δ:=by
    rw[je3 D.op k0 (XW (E:=E) r) (fun l hl=>i3 l (by rw[r4,← hr.1];exact hl)) (fun u hu=>h8 u (by rw[r5,← hr.2];exact hu)),i5.2.2.1,← f4.2.2.1]
    exact r3
   refine jhx d7 hR (fun u U J=>b8 i h0 u U J) O d1 k2 (fun G I' a' w' N U J h3=>?_)
   rw[← hd1]at N
   exact b0 G I' a' w' N U J h3
  ·have z:wanted D (jK (fun i=>n.getD i false) effs st).tm=some false:=by rw[Jp r];exact r1
   rw[if_neg (by rw[Xl hR M z];exact Bool.false_ne_true)]
   refine⟨fun _ _=>trivial,?_⟩
   have:=jrv hR d1
   rw[← hd1]
   refine b0 B I1 _ _ ?_ (fun _ _=>rfl) (fun _ _ h=>h) (fun _ _ _ h=>h)
   rw[r2]
   rw[← hd1]at this
   exact this
  ·have z:wanted D (jK (fun i=>n.getD i false) effs st).tm=some true:=by rw[Jp r];exact r1
   rw[if_pos (Xl hR M z)]
   have O:JX P m o=some D.op:=O.resolve_right fun h=>by
    rw[h]at r2
    cases r2
   have F:fp.all=true:=by rw[r4]
   have d2:∀l x,(jK (fun k=>decide (k<i)) effs st).ob l=some x→(jK (fun i=>n.getD i false) effs st).ob l=some x:=by
    intro l x hl
    rw[← hl]
    refine(X4 (π:=fun s=>s.ob l) (wr:=wrO l) (g:=fun e=>JI (fun _=>none) e.2.obs l) (jb4 l) effs _ _ _ _ (fun k e T z=>?_) rfl)
    by_cases K:k=i
    ·subst K;rw[c0];simp
    ·simp only[wrO,List.contains_iff_mem]at z
     rcases H k e T K with h|⟨y,fk,_,J,_,h|h⟩
     ·exact h
     ·rw[← J,h.2.ar F]at z;cases z
     ·have:=h.2.al F l (by rw[J];exact z)
      rw[r4]at this
      simp only[hl,Option.isSome_some,Bool.true_eq_false]at this
   refine jzn d7 hR (ub:=ub+64*i) (uo:=ub+64*al'.length) (fun u U J=>b8 i h0 u U J) O d1 (by rw[YW D.op (XW (E:=E) r)];exact r2) d2 (by rw[h4];exact c5) r3 (fun G I' a' w' N U J h3=>?_)
   rw[← hd1]at N
   exact b0 G I' a' w' N U J h3
  ·have z:wanted D (jK (fun i=>n.getD i false) effs st).tm=some true:=by rw[Jp r];exact r1
   rw[if_pos (Xl hR M z)]
   have O:JX P m o=some D.op:=O.resolve_right fun h=>by
    rw[h]at r2
    cases r2
   have F:fp.all=true:=by rw[r4]
   have d2:∀l x,(jK (fun k=>decide (k<i)) effs st).ob l=some x→(jK (fun i=>n.getD i false) effs st).ob l=some x:=by
    intro l x hl
    rw[← hl]
    refine(X4 (π:=fun s=>s.ob l) (wr:=wrO l) (g:=fun e=>JI (fun _=>none) e.2.obs l) (jb4 l) effs _ _ _ _ (fun k e T z=>?_) rfl)
    by_cases K:k=i
    ·subst K;rw[c0];simp
    ·simp only[wrO,List.contains_iff_mem]at z
     rcases H k e T K with h|⟨y,fk,_,J,_,h|h⟩
     ·exact h
     ·rw[← J,h.2.ar F]at z;cases z
     ·have:=h.2.al F l (by rw[J];exact z)
      rw[r4]at this
      simp only[hl,Option.isSome_some,Bool.true_eq_false]at this
   refine j50 d7 hR (ub:=ub+64*i) (fun u U J=>b8 i h0 u U J) O d1 (by rw[YW D.op (XW (E:=E) r)];exact r2) d2 r3 r5 r6 (fun G I' a' w' N U J h3=>?_)
   rw[← hd1]at N
   exact b0 G I' a' w' N U J h3
  ·have z:wanted D (jK (fun i=>n.getD i false) effs st).tm=some true:=by rw[Jp r];exact r1
   rw[if_pos (Xl hR M z)]
   have O:JX P m o=some D.op:=O.resolve_right fun h=>by
    rw[h]at r2
    cases r2
   refine mk_ok d7 hR (ub:=ub+64*i) (fun u U J=>b8 i h0 u U J) O d1 (by rw[YW D.op (XW (E:=E) r)];exact r2) r3 (fun G I' a' w' N U J h3=>?_)
   rw[← hd1]at N
   exact b0 G I' a' w' N U J h3
theorem any_ok {m:Bool}{rn:Option Nat}{γ0:Nat→Option Place}{Iy:IMap}{Q:Exit→Act→World→Prop}(X:COk P E γ0 Iy call) (l:ops.toList.mapM (JS P m ops)=some als) (s:Xs ops als=some free)
 (O:Trace E call st ub als effs fps) (U:XA free fps=true) (T:Qk fps=true) (v:∀ao∈als,∀d,ao.dst=some d→d<nt)
 (hK:∀g D B G,R E w0 I0 nt g D (jK (fun _=>true) effs st) B G→(∀u,ub+64*als.length≤u→g u=none)→(∀u p,γ u=some p→g u=some p) →
  (∀b o x,I b o=some x→D b o=some x)→Q .normal B G) :
 ∀ (e:Nat) (c:Array Bool) (f:Nat→Option Place) (F:IMap) (a:Act) (w:World),c.size=ops.size→jci ops (fun i=>c.getD i false)→c.toList.count false≤e →
  R E w0 I0 nt f F (jK (fun i=>c.getD i false) effs st) a w→(∀u,ub+64*als.length≤u→f u=none) →
  (∀j,c.getD j true=false→∀u,ub+64*j≤u→u<ub+64*j+64→f u=none)→(∀u p,γ u=some p→f u=some p)→(∀b o x,I b o=some x→F b o=some x) →
  wpAnyIn (FW rn) 0 P .any ops Q e c a w:=by
 obtain⟨q,a0⟩:=ju l
 have q:als.length=ops.size:=by rw[q,Array.length_toList]
 have k:∀ (c:Array Bool) (i:Nat),i<c.size→c.getD i true=c.getD i false:=by
  intro c i t
  simp[t]
 intro e c f F a w y M n hR N z hg hI
 refine je4 (bb:=false) (kk:=als.length) (al':=als) (sp:=fun _=>false) zR rfl (fun _ _ _ _ h=>h) (fun _ _ h=>by cases h) (fun j h1 h2=>by omega) X l s O U T v (fun _ _ _ _ _ _ _ h=>by cases h) (fun g D B G e c y hm _ n S L K J=>?_) e c f F a w y M
  (fun j hj=>by simp[show ¬ j<c.size by omega]) (fun _ h=>by cases h) n hR N z hg hI
 have H:Region.ready .any ops c=[]:=by
  cases H:Region.ready .any ops c with
  | nil=>rfl
  | cons i r=>
   have t:i∈Region.ready .any ops c:=by rw[H];exact List.mem_cons_self ..
   obtain⟨Z,o,ho,_⟩:=mem_ready.1 t
   have b0:i<ops.size:=(Array.getElem?_eq_some_iff.1 ho).1
   rw[k c i zO,hm i,decide_eq_true zO]at Z
   cases Z
 have hQ:=hK g D B G S L K J
 cases e with
 | zero=>exact⟨H,hQ⟩
 | succ e=>exact⟨fun _=>hQ,fun i t=>by rw[H]at t;cases t⟩
theorem jiq {m:Bool}{rn:Option Nat}{γ0:Nat→Option Place}{Iy:IMap}{Q:Exit→Act→World→Prop}{kk:Nat}
 (a0:∀j,kk≤j→j<ops.size→∀i,i<j→((J6 ops.toList []).getD j 0).testBit i=true)
 (c8:COk P E γ0 Iy call) (b7:ops.toList.mapM (JS P m ops)=some als) (L:Xs ops als=some free) (b8:∀ao∈als,∀d,ao.dst=some d→d<nt) :
 ∀ (n j:Nat),kk≤j→j+n=ops.size→∀ (c:Nat) (b:Array Bool) (γ:Nat→Option Place) (I:IMap) (st:St) (a:Act) (w:World) (ub:Nat) (F:List St),b.size=ops.size→(∀i,b.getD i false=decide (i<j)) →
  b.toList.count false≤c→SubG γ0 γ→SubI Iy I→R E w0 I0 nt γ I st a w→(∀u,ub≤u→γ u=none)→jg9 E call (als.drop j) st ub=some F →
  (∀t∈F,Nice E w0 I0 nt γ I t t.nx (fun a w=>Q .normal a w))→wpAnyIn (FW rn) 0 P .any ops Q c b a w:=by
 obtain⟨v,c0⟩:=ju b7
 have v:als.length=ops.size:=by rw[v,Array.length_toList]
 obtain⟨k,c4⟩:=Xi L v
 have f:∀ (b:Array Bool) (i:Nat),i<b.size→b.getD i true=b.getD i false:=by
  intro b i y
  simp[y]
 intro n
 induction n with
 | zero=>
  intro j hj d3 c b γ I st a w ub F Z B X J H hR hf G hK
  have g:als.drop j=[]:=List.drop_of_length_le zO
  rw[g]at G
  simp only[jg9,Option.some.injEq]at G
  subst G
  have N:Region.ready .any ops b=[]:=by
   cases N:Region.ready .any ops b with
   | nil=>rfl
   | cons i r=>
    have y:i∈Region.ready .any ops b:=by rw[N];exact List.mem_cons_self ..
    obtain⟨h0,o,z,_⟩:=mem_ready.1 y
    have b6:i<ops.size:=(Array.getElem?_eq_some_iff.1 z).1
    rw[f b i zO,B i,decide_eq_true zO]at h0
    cases h0
  have hQ:Q .normal a w:=hK _ (List.mem_singleton.2 rfl) γ I a w (hR.congr rfl rfl rfl rfl rfl) hf (fun _ _ h=>h) (fun _ _ _ h=>h)
  cases c with
  | zero=>exact⟨N,hQ⟩
  | succ c=>exact⟨fun _=>hQ,fun i y=>by rw[N]at y;cases y⟩
 | succ n ih=>
  intro j hj d3 c b γ I st a w ub F Z B X J H hR hf G hK
  have K:j<ops.size:=zO
  have M:j<als.length:=zO
  have s:j<b.size:=zO
  have c7:jci ops (fun i=>b.getD i false):=by
   intro i o z hd e he hb
   simp only[B,decide_eq_true_eq]at hd ⊢
   have:=k i o z e he hb
   omega
  have c2:∀i,i∈Region.ready .any ops b→i=j:=by
   intro i y
   obtain⟨h0,o,z,d1⟩:=mem_ready.1 y
   have b6:i<ops.size:=(Array.getElem?_eq_some_iff.1 z).1
   rw[f b i zO,B i]at h0
   have h1:j≤i:=by simpa using h0
   rcases Nat.lt_or_eq_of_le h1 with h|h
   ·have:=YJ (D:=fun i=>b.getD i false) k c7 z d1 (a0 i zO b6 j h)
    simp only[B,decide_eq_true_eq]at this
    omega
   ·exact h.symm
  have c9:j∈Region.ready .any ops b:=mem_ready.2 ⟨by rw[f b j s,B j];simp,ops[j],Array.getElem?_eq_getElem K,fun e he hb=>by
   have:=k j _ (Array.getElem?_eq_getElem K) e he hb
   rw[B e.on]
   exact decide_eq_true this⟩
  have g:als.drop j=als[j]::als.drop (j+1):=List.drop_eq_getElem_cons M
  have S:=List.getElem?_eq_getElem M
  have p:=List.getElem_mem M
  rw[g]at G
  generalize als[j]=ao at G S p
  have z:=Array.getElem?_eq_getElem K
  generalize ops[j]=o at z
  have q:JS P m ops o=some ao:=c0 j o ao (by rw[Array.getElem?_toList];exact z) S
  have b9:b[j]? = some false:=by
   have h1:=B j
   rw[Array.getElem?_eq_getElem s]
   simp only[Array.getD_eq_getD_getElem?,Array.getElem?_eq_getElem s,Option.getD_some]at h1
   rw[h1]
   simp
  cases c with
  | zero=>
   have p:false∈b.toList:=Array.mem_toList_iff.2 (Array.mem_of_getElem? b9)
   have:=List.count_pos_iff.2 p
   omega
  | succ c=>
  refine⟨(fun N=>absurd (N▸c9) List.not_mem_nil),fun i y=>?_⟩
  rw[c2 i y]
  unfold wpOpIn
  simp only[z]
  simp only[jg9]at G
  obtain⟨l,hl,c1⟩:=JT G
  refine jgt c8 J H hR hf q (by rw[← (XE q).1];exact b8 ao p) hl (fun x hx=>?_)
  obtain⟨rx,c5,O⟩:=c1 x hx
  intro d0 I' a' w' d2 c6 b5 b0
  refine ih (j+1) zO zO c (b.setIfInBounds j true) d0 I' x.1 a' w' x.2 rx (by simpa using Z) (fun i=>?_) ?_ (J.trans b5) (H.trans b0) d2 c6 c5 (fun t T=>(hK t (O t T)).weaken b5 b0)
  ·by_cases c3:i=j
   ·subst c3
    simp[s]
   ·rw[getD_set_ne false (Ne.symm c3),B i]
    exact decide_eq_decide.2 ⟨fun h=>by omega,fun h=>by omega⟩
  ·have hg:b.toList[j]? = some false:=by rw[Array.getElem?_toList];exact b9
   have U:j<b.toList.length:=by simpa using s
   rw[Array.toList_setIfInBounds,List.count_set U]
   rw[List.getElem?_eq_getElem U]at hg
   simp only[Option.some.injEq]at hg
   rw[hg]
   simp only[beq_self_eq_true,if_true]
   have:(true == false)=false:=rfl
   rw[this]
   simp only[Bool.false_eq_true,if_false]
   omega
end
def le {α:Type}(x y:Option α):Prop:=∀a,x=some a→y=some a
theorem le.bind {e j:Type}{x y:Option e}{f g:e→Option j}(h:le x y) (i:∀a,le (f a) (g a)):le (x.bind f) (y.bind g):=by
 intro b d
 cases c:x with
 | none=>simp[c]at d
 | some a=>rw[h a c];rw[c]at d;exact i a b d
theorem le.map {e g:Type}{x y:Option e}{f:e→g}(h:le x y):le (x.map f) (y.map f):=by
 intro b d
 cases c:x with
 | none=>simp[c]at d
 | some a=>rw[h a c];rw[c]at d;exact d
theorem le.rfl' {a:Type}(x:Option a):le x x:=fun _ h=>h
theorem jgo {c b:FuncId→List V→Option V}(h:∀f a,le (c f a) (b f a)) (ub f xs):le (jbu c ub f xs) (jbu b ub f xs):=by
 unfold jbu
 split
 ·exact(h f xs).bind fun _=>le.rfl' _
 ·exact le.rfl' _
theorem ja6 {call c:FuncId→List V→Option V}(h:∀f a,le (call f a) (c f a)) (ρ ob tk ro d ub) (o:AOp):le (aop call ρ ob tk ro d ub o) (aop c ρ ob tk ro d ub o):=by
 cases o <;> try exact le.rfl' _
 case call f xs=>exact jgo h _ _ _
 case callV f xs=>
  simp only[aop]
  split
  ·exact jgo h _ _ _
  ·exact le.rfl' _
 case range b x=>cases b <;> exact le.rfl' _
def YLe (y y':Y):Prop:=∀l u a ob tk ro ub,le (y l u a ob tk ro ub) (y' l u a ob tk ro ub)
structure CLe (c c':Callers):Prop where
 d:∀f a,le (c.d f a) (c'.d f a)
 o:∀f a ob tk b u,le (c.o f a ob tk b u) (c'.o f a ob tk b u)
 s:∀f a ob tk ro b u,le (c.s f a ob tk ro b u) (c'.s f a ob tk ro b u)
 y:YLe c.y c'.y
def FLe (c c':Y→Callers):Prop:=∀y y',YLe y y'→CLe (c y) (c' y')
theorem jaa {E:Env}{b a:Callers}(h:CLe b a) (o st ub):le (jbx E b o st ub) (jbx E a o st ub):=by
 unfold jbx
 split
 ·split
  ·exact(h.y _ _ _ _ _ _ _).map
  split
  ·split
   ·exact(h.s _ _ _ _ _ _ _).map
   ·exact((h.o _ _ _ _ _ _).bind fun _=>le.rfl' _).map
  ·split
   ·exact le.rfl' _
   ·exact(ja6 h.d _ _ _ _ _ _ _).map
 ·exact le.rfl' _
 ·exact le.rfl' _
theorem Qs {b c:Type}{f g:b→Option (List c)}(h:∀a,le (f a) (g a)):∀l,le (Qc f l) (Qc g l)
 | []=>le.rfl' _
 | [x]=>h x
 | x::y::r=>(h x).bind fun _=>(Qs h (y::r)).map
theorem QL {b d:Type}{x y:Option (List b)}{f g:b→Option (List d)}(c:le x y) (h:∀a,le (f a) (g a)):le (bindL x f) (bindL y g) :=
 c.bind fun l=>Qs h l
theorem jd5 {E:Env}{b a:Callers}(h:CLe b a):∀c d e,le (jg9 E b c d e) (jg9 E a c d e)
 | [],_,_=>le.rfl' _
 | o::rest,d,e=>QL (jaa h o d e) fun x=>jd5 h rest x.1 x.2
theorem JR {E:Env}{b a:Callers}(h:CLe b a):∀c e f,le (Y1 E b c e f) (Y1 E a c e f)
 | [],_,_=>le.rfl' _
 | o::rest,e,f=>by
  unfold Y1
  split
  ·split
   ·split
    ·split
     ·exact(((le.rfl' _).bind fun i=>h.d _ i).bind fun _=>le.rfl' _).bind fun g=>(JR h rest _ _).map
     ·exact(le.rfl' _).bind fun g=>(JR h rest _ _).map
    ·exact((h.o _ _ _ _ _ _).bind fun _=>le.rfl' _).bind fun g=>(JR h rest _ _).map
   ·split
    ·exact le.rfl' _
    ·exact(ja6 h.d _ _ _ _ _ _ _).bind fun g=>(JR h rest _ _).map
  ·exact(JR h rest _ _).map
  ·exact le.rfl' _
theorem QE {b d:St→j4c}(h:∀a,le (b a) (d a)):∀n m,n≤m→∀a,le (jao b n a) (jao d m a)
 | 0,_,_,_=>fun _ h=>by simp[jao]at h
 | n+1,0,hm,_=>by omega
 | n+1,m+1,hm,a=>by
  simp only[jao]
  refine QL (h a) fun x=>?_
  obtain⟨e,c⟩:=x
  cases e
  ·exact QE h n m zO c
  ·exact le.rfl' _
  ·exact le.rfl' _
theorem jdq {g fb c b:St→j4c}(m:∀st,le (g st) (c st)) (p:∀st,le (fb st) (b st)) (st:St) (ps:List Nat) (l u:Nat):YLe (QU g fb st ps l u) (QU c b st ps l u):=by
 intro z w h ob q y D r a
 unfold QU at a ⊢
 split at a
 case isFalse=>cases a
 rename_i j
 rw[if_pos j]
 split at a
 case h_2=>cases a
 rename_i F v
 split at a
 case isFalse=>cases a
 rename_i i
 simp only[i,if_true]
 split at a
 case h_2=>cases a
 rename_i t n
 have f:=m _ _ n
 simp only[f]
 split at a
 case h_2=>cases a
 rename_i x s
 split at a
 case isFalse=>cases a
 rename_i k
 simp only[k,if_true]
 split at a
 case h_2=>cases a
 rename_i e B o
 have d:=p _ _ o
 simp only[d]
 exact a
theorem jr9 {b:Type}{x y:Option (List b)}(h:le x y):le (only x) (only y):=by
 intro r a
 cases x with
 | none=>cases a
 | some l=>rw[h l rfl];exact a
theorem jc {E:Env}{k i:Y→Callers}{n m:Nat}(h:FLe k i) (j:n≤m):∀c y d,YLe y d→∀g,le (jX E k y n c g) (jX E i d m c g)
 | .skip,_,_,_,_=>le.rfl' _
 | .region ops,y,d,hy,g=>by simp only[jX];exact(jd5 (h y d hy) ops g g.nx).map
 | .draw ops _,y,d,hy,g=>by simp only[jX];exact(JR (h y d hy) ops g g.nx).bind fun _=>le.rfl' _
 | .pin o fs,y,d,hy,g=>by
  simp only[jX]
  exact QL (jaa (h y d hy) o g g.nx) fun x=>(JR (h y d hy) fs x.1 x.2).bind fun _=>le.rfl' _
 | .seq a b,y,d,hy,g=>by
  simp only[jX]
  refine QL (jc h j a y d hy g) fun x=>?_
  obtain⟨e,l⟩:=x
  cases e
  ·exact jc h j b y d hy l
  ·exact le.rfl' _
  ·exact le.rfl' _
 | .cond c a b,y,d,hy,g=>by
  simp only[jX]
  split
  ·exact jc h j a y d hy g
  ·exact jc h j b y d hy g
  ·exact le.rfl' _
 | .block id a,y,d,hy,g=>by simp only[jX];exact(jc h j a y d hy g).map
 | .loop a,y,d,hy,g=>by simp only[jX];exact QE (jc h j a y d hy) n m j g
 | .rangeFunc f ps a b,y,d,hy,g=>by
  simp only[jX]
  split
  ·exact(jr9 ((h _ _ (jdq (jc h j a y d hy) (jc h j b y d hy) _ _ _ _)).s _ _ _ _ _ _ _)).bind fun _=>le.rfl' _
  ·exact le.rfl' _
 | .exit _,_,_,_,_=>le.rfl' _
 | .stuck,_,_,_,_=>le.rfl' _
 | .ret,_,_,_,_=>le.rfl' _
theorem jja {f:Ex × St→Option V}{x y:Option (List (Ex × St))}(h:le x y):le (jzm f x) (jzm f y):=by
 intro r a
 cases x with
 | none=>cases a
 | some l=>rw[h l rfl];exact a
theorem YLe.refl (y:Y):YLe y y:=fun _ _ _ _ _ _ _=>le.rfl' _
theorem JY {E:Env}:∀n m,n≤m→FLe (callers E n) (callers E m)
 | 0,0,_=>fun y k c=>⟨fun _ _ _ h=>(by cases h),fun _ _ _ _ _ _ _ h=>(by cases h),fun _ _ _ _ _ _ _ _ h=>(by cases h),c⟩
 | 0,_+1,_=>fun y k c=>⟨fun _ _ _ h=>(by cases h),fun _ _ _ _ _ _ _ h=>(by cases h),fun _ _ _ _ _ _ _ _ h=>(by cases h),c⟩
 | n+1,0,h=>by omega
 | n+1,m+1,h=>by
  intro y k c
  have g:=jc (E:=E) (JY (E:=E) n m zO) (show n≤m by omega)
  refine⟨fun f a=>?_,fun f a ob o b u=>?_,fun f a ob o q b u=>?_,c⟩
  ·simp only[callers]
   exact(le.rfl' (E.fc f)).bind fun j=>jja (g _ _ _ (YLe.refl _) _)
  ·simp only[callers]
   by_cases e:E.fz f
   ·simp only[e,if_true]
    refine(le.rfl' _).bind fun i=>?_
    exact((JY (E:=E) n m zO _ _ (YLe.refl _)).d f i).bind fun r=>le.rfl' _
   ·simp only[e,Bool.false_eq_true,if_false]
    exact(le.rfl' (E.fs f)).bind fun j=>jja (g _ _ _ (YLe.refl _) _)
  ·simp only[callers]
   by_cases e:E.tw f
   ·simp only[e,if_true]
    refine(le.rfl' _).bind fun i=>?_
    exact((JY (E:=E) n m zO _ _ (YLe.refl _)).d f i).bind fun r=>le.rfl' _
   simp only[e,Bool.false_eq_true,if_false]
   cases p:E.srt f with
   | some m=>exact le.rfl' _
   | none=>
   exact(le.rfl' (E.fs f)).bind fun j=>(g _ _ _ c _).bind fun l=>le.rfl' _
mutual
theorem Wv:∀a b:V,V.eqb a b=true→a=b:=by
 intro a b h
 cases a <;> cases b <;> simp only[V.eqb,Bool.and_eq_true,decide_eq_true_eq,beq_iff_eq,Bool.false_eq_true]at h
 case sl.sl t nl n cs t' nl' n' cs'=>obtain⟨⟨⟨rfl,rfl⟩,rfl⟩,h⟩:=h;rw[Xc cs cs' h]
 case agg.agg cs cs'=>rw[Xc cs cs' h]
 case tup.tup cs cs'=>rw[Xc cs cs' h]
 case eptr.eptr cs o cs' o'=>obtain⟨h,rfl⟩:=h;rw[Xc cs cs' h]
 case fn.fn f a b f' a' b'=>obtain⟨⟨rfl,h⟩,c⟩:=h;rw[Xc a a' h,Xc b b' c]
 case iface.iface t v t' v'=>obtain⟨rfl,h⟩:=h;rw[Wv v v' h]
 all_goals simp_all
theorem Xc:∀a b:List V,V.eqbs a b=true→a=b:=by
 intro a b h
 cases a <;> cases b <;> simp only[V.eqbs,Bool.and_eq_true,Bool.false_eq_true]at h
 ·rfl
 case cons.cons x l y m=>rw[Wv x y h.1,Xc l m h.2]
end
mutual
theorem jc2:∀a:V,V.eqb a a=true:=by
 intro a
 cases a <;> simp only[V.eqb,Bool.and_eq_true,decide_true,beq_self_eq_true,and_self,true_and,and_true]
 case sl t nl n cs=>exact YO cs
 case agg cs=>exact YO cs
 case tup cs=>exact YO cs
 case eptr cs o=>exact YO cs
 case fn f a b=>exact⟨YO a,YO b⟩
 case iface t v=>exact jc2 v
theorem YO:∀a:List V,V.eqbs a a=true:=by
 intro a
 cases a <;> simp only[V.eqbs,Bool.and_eq_true]
 case cons x l=>exact⟨jc2 x,YO l⟩
end
theorem ji9 {f:Ex × St→Option V}{x:Option (List (Ex × St))}{r:V}(h:jzm f x=some r):∃l,x=some l∧∀y∈l,f y=some r:=by
 cases x with
 | none=>cases h
 | some l=>
  cases l with
  | nil=>cases h
  | cons y e=>
   refine⟨_,rfl,?_⟩
   simp only[jzm,Option.bind_eq_some_iff,Option.ite_none_right_eq_some,Option.some.injEq]at h
   obtain⟨i,c,d,rfl⟩:=h
   intro z b
   rcases List.mem_cons.1 b with rfl|b
   ·exact c
   ·have:=List.all_eq_true.1 d z b
    split at this
    ·rename_i g a
     rw[a,Wv _ _ this]
    ·cases this
theorem jhb {f:Ex × St→Option V}{l:List (Ex × St)}{r:V}(a:l≠[]) (h:∀y∈l,f y=some r):jzm f (some l)=some r:=by
 cases l with
 | nil=>exact absurd rfl a
 | cons y c=>
  simp only[jzm,h y (List.mem_cons_self ..),Option.bind_some,Option.ite_none_right_eq_some,List.all_eq_true,and_true]
  intro z b
  rw[h z (List.mem_cons_of_mem _ b)]
  exact jc2 r
def Ev (E:Env) (f:FuncId) (args:List V) (r:V):Prop:=∃n,(callers E n noY).d f args=some r
def W (E:Env) (c:C) (st:St) (Q:Ex→St→Prop):Prop:=∃n l,jX E (callers E n) noY n c st=some l∧l≠[]∧∀x∈l,Q x.1 x.2
theorem Ev_of {E:Env}{f:FuncId}{af:AF}{args:List V}{r:V}(d:E.fc f=some af) (h:W E af.body (QO args) fun e s=>ja7 af.res (e,s)=some r):Ev E f args r:=by
 obtain⟨n,l,b,c,a⟩:=h
 exact⟨n+1,by simp only[callers,d,Option.bind_some,b,jhb c a]⟩
theorem jie {o:AOp}(h:o.still=true):o.wO=false∧o.wT=false∧o.isCall=false∧o.far=false:=by
 cases o <;> first|(cases h;done)|exact⟨rfl,rfl,rfl,rfl⟩
theorem Wb {E:Env}{nm:Bool}{b:A→V}{o:AOp}(h:o.still=true):jB E nm b o=none:=by
 cases o <;> first|(cases h;done)|rfl
theorem Qz {E:Env}{call:Callers}{fb ub ue:Nat}{s:St}{ao:AOpr}{δ:Delta}{j:FP}(h:TrAt E call fb ub ue s ao δ j) (e:ao.op.still=true) :
 (wanted ao s.tm=some true∧aop call.d (eval E s.tm) s.ob s.tk s.ro (ao.name fb ub) ub ao.op=some δ∨wanted ao s.tm=some false∧δ = { v:=jq })∧δ.wo=[]∧δ.wt=[]:=by
 obtain⟨l,k,_,_⟩:=jie e
 rcases h.run with⟨c,_,_,g,_⟩|⟨c,rfl,_⟩|⟨_,f,i,b,c,_⟩|⟨_,f,i,n,m,c,_⟩|⟨_,f,i,c,_⟩
 ·exact⟨.inl ⟨c,g⟩,jy5 _ l δ g,jy4 _ k δ g⟩
 ·exact⟨.inr ⟨c,rfl⟩,rfl,rfl⟩
 ·rw[Wb e]at c;cases c
 ·rw[Wb e]at c;cases c
 ·rw[Wb e]at c;cases c
theorem j31 {s:St}{d:Option Nat}{δ:Delta}(b:δ.wo=[]) (e:δ.wt=[]):(s.app d δ).ob=s.ob∧(s.app d δ).tk=s.tk:=by
 obtain⟨v,c,f,add,g⟩:=δ
 unfold Delta.wo at b
 unfold Delta.wt at e
 rw[List.append_eq_nil_iff]at b e
 have j:c=[]:=List.map_eq_nil_iff.1 b.2
 obtain⟨h,-⟩:=b
 obtain⟨k,i⟩:=e
 simp only at h i
 subst j h i
 cases f with
 | none=>exact⟨rfl,rfl⟩
 | some x=>cases k
theorem Xh:∀ (l:List Eff) (s:St),jK (fun _=>false) l s=s
 | [],_=>rfl
 | _::l,s=>by simp only[jK,Bool.false_eq_true,if_false];exact Xh l s
theorem jnw {b:List Eff}{st:St}{i d:Nat}{e:Eff}(h:b[i]? = some e) (m:e.1=some d) (c:∀k f,b[k]? = some f→k≠i→f.1≠some d):(jK (fun _=>true) b st).tm d=e.2.v:=by
 rw[jcy (π:=fun s=>s.tm d) (wr:=wrT d) (g:=fun e=>e.2.v) (Qx d) b (fun k=>decide (k≠i)) (fun _=>true) st i e h zS rfl (fun k l=>by simp[l])
  (fun k f l j _ _=>by simp only[wrT,decide_eq_false_iff_not];exact c k f j zO)]
 simp[wrT,m]
theorem jke {ops:Array Oper}{kk:Nat}(p:kk≤ops.size) (c:∀j o,ops[j]? = some o→∀e∈o.after,Region.binds .any e=true→e.on<j) {b:Array Bool}(l:b.size=ops.size)
 (k:∀i,i<kk→i ∉ Region.ready .any ops b):∀j,j<kk→b.getD j false=true:=by
 intro j
 induction j using Nat.strongRecOn with
 | _ j g=>
  intro m
  cases f:b.getD j false with
  | true=>rfl
  | false=>
   have d:j<b.size:=zO
   have:j∈Region.ready .any ops b:=mem_ready.2 ⟨by simpa[d] using f,ops[j],Array.getElem?_eq_getElem zO,fun e h n=>by
    have:=c j _ (Array.getElem?_eq_getElem zO) e h n
    exact g e.on this zO⟩
   exact absurd this (k j m)
theorem XM {tm:Nat→V}{d:Option Nat}{v:V}{t:Nat}(h:d≠some t):put tm d v t=tm t:=by
 cases d with
 | none=>rfl
 | some d=>exact J7 _ _ (fun e=>h (by rw[e]))
theorem WE {tm:Nat→V}{v:V}{t:Nat}:put tm (some t) v t=v:=YV _ _ _
theorem count_set {b:Array Bool}{i:Nat}(hi:i<b.size) (h:b.getD i false=false):(b.setIfInBounds i true).toList.count false=b.toList.count false - 1∧0<b.toList.count false:=by
 have e:b.toList[i]? = some false:=by
  rw[Array.getElem?_toList,Array.getElem?_eq_getElem hi]
  simp only[Array.getD_eq_getD_getElem?,Array.getElem?_eq_getElem hi,Option.getD_some]at h
  rw[h]
 have c:i<b.toList.length:=by simpa using hi
 have d:=List.mem_of_getElem? e
 refine⟨?_,List.count_pos_iff.2 d⟩
 rw[Array.toList_setIfInBounds,List.count_set c]
 rw[List.getElem?_eq_getElem c]at e
 simp only[Option.some.injEq]at e
 rw[e]
 simp
theorem jq6 {E:Env}{call:Callers}{s s':St}{ao:AOpr}{ub:Nat}{l:List (St × Nat)}(m:ao.op.isCall=true) (k:∀t∈ao.looks,s'.tm t=s.tm t) (g:s'.ob=s.ob) (p:s'.tk=s.tk) (u:s'.ro=s.ro) (n:s'.fb=s.fb)
 (h:jbx E call ao s ub=some l) :
 ∃D,jbx E call ao s' ub=some D∧∀B∈D,∃x∈l,∃v ob tk,B.2=x.2∧x.1 = { s with tm:=put s.tm ao.dst v,ob:=ob,tk:=tk }∧B.1 = { s' with tm:=put s'.tm ao.dst v,ob:=ob,tk:=tk }:=by
 have c:=XW (E:=E) k
 have G:=Jp k
 have H:ao.op.next? = none:=by cases g:ao.op <;> rw[g]at m <;> first|rfl|cases m
 have j:ao.op.far=false:=by cases g:ao.op <;> rw[g]at m <;> first|rfl|cases m
 have o:jf (eval E s'.tm) ao.op=jf (eval E s.tm) ao.op:=by
  cases g:ao.op <;> try rfl
  rename_i f K
  rw[g]at c
  simp only[AOp.opds,List.mem_cons,forall_eq_or_imp]at c
  simp only[jf]
  rw[c.1,Jy (fun y o=>c.2 y o)]
 have F:∀d ub,aop call.d (eval E s'.tm) s.ob s.tk s.ro d ub ao.op=aop call.d (eval E s.tm) s.ob s.tk s.ro d ub ao.op:=fun d ub=>je3 ao.op j c (fun _ _=>rfl) (fun _ _=>rfl)
 unfold jbx at h ⊢
 rw[G,o,YW ao.op c,g,p,u,n]
 simp only[H,F]at h ⊢
 split at h
 ·split at h
  ·obtain⟨r,b,rfl⟩:=map_some h
   rw[b]
   exact⟨_,rfl,fun x e=>by rw[List.mem_singleton]at e;subst e;exact⟨_,List.mem_singleton.2 rfl,r.1,r.2.1,r.2.2.1,rfl,rfl,rfl⟩⟩
  ·split at h
   ·split at h
    ·rename_i i
     obtain⟨r,b,rfl⟩:=map_some h
     rw[if_pos i,b]
     refine⟨_,rfl,fun x e=>?_⟩
     obtain⟨q,J,rfl⟩:=List.mem_map.1 e
     exact⟨_,List.mem_map.2 ⟨q,J,rfl⟩,q.1,q.2.1,q.2.2.1,rfl,rfl,rfl⟩
    ·rename_i i
     obtain⟨z,b,rfl⟩:=map_some h
     rw[if_neg i,b]
     refine⟨_,rfl,fun x e=>?_⟩
     rw[List.mem_singleton]at e;subst e
     refine⟨_,List.mem_singleton.2 rfl,z.v,_,_,rfl,rfl,?_⟩
     simp only[St.app,g,p,u,n]
   ·obtain⟨z,b,rfl⟩:=map_some h
    rw[b]
    refine⟨_,rfl,fun x e=>?_⟩
    rw[List.mem_singleton]at e;subst e
    refine⟨_,List.mem_singleton.2 rfl,z.v,_,_,rfl,rfl,?_⟩
    simp only[St.app,g,p,u,n]
 ·cases h
  exact⟨_,rfl,fun x e=>by rw[List.mem_singleton]at e;subst e;exact⟨_,List.mem_singleton.2 rfl,jq,s.ob,s.tk,rfl,rfl,rfl⟩⟩
 ·cases h
section
variable {P:Program}{E:Env}{w0 w:World}{I0:IMap}{nt:Nat}{γ:Nat→Option Place}{I:IMap}{st:St}{a:Act}{ub:Nat}{call:Callers}{ops:Array Oper}{als:List AOpr}{fps:List FP}{free:List (Nat × Nat)}
theorem j5z {m:Bool}{rn:Option Nat}{γ0:Nat→Option Place}{Iy:IMap}{Q:Exit→Act→World→Prop}{kk c:Nat}{X:AOpr}{S:St}{l:List (St × Nat)}(p7:kk≤als.length)
 (g0:∀j,kk≤j→j<ops.size→∀i,i<j→((J6 ops.toList []).getD j 0).testBit i=true) (f2:jwi ops als kk c=true) (h6:als[c]? = some X)
 (g6:COk P E γ0 Iy call) (l5:SubG γ0 γ) (k9:SubI Iy I) (g1:ops.toList.mapM (JS P m ops)=some als) (c5:Xs ops als=some free) (d3:∀ao∈als,∀d,ao.dst=some d→d<nt)
 (hd:Y1 E call ((als.take kk).set c jhd) st ub=some (fps,S)) (o6:XA free fps=true) (p8:Qk fps=true) (hl:jbx E call X S S.nx=some l)
 (hx:∀x∈l,∃p h8,Y1 E call ((als.take kk).drop (c+1)) x.1 x.2=some p∧jcl ((als.take kk).drop (c+1)) S p.2=true∧jg9 E call (als.drop kk) p.2 p.2.nx=some h8∧∀g9∈h8,Nice E w0 I0 nt γ I g9 g9.nx (fun a w=>Q .normal a w))
 (hR:R E w0 I0 nt γ I st a w) (hf:∀u,ub≤u→γ u=none):wpAnyIn (FW rn) 0 P .any ops Q ops.size (Array.replicate ops.size false) a w:=by
 obtain⟨g2,i6⟩:=ju g1
 have g2:als.length=ops.size:=by rw[g2,Array.length_toList]
 obtain⟨Z,d2⟩:=Xi c5 g2
 unfold jwi at f2
 simp only[Bool.and_eq_true,Nat.blt_eq,h6]at f2
 obtain⟨⟨⟨q6,k2⟩,f9⟩,L⟩:=f2
 have f9:∀i,i<c→((J6 ops.toList []).getD c 0).testBit i=true:=fun i hi=>List.all_eq_true.1 f9 i (List.mem_range.2 hi)
 have hF:∀j o,c<j→j<kk→als[j]? = some o→o.op.still=true∧((J6 ops.toList []).getD j 0).testBit c=false∧∀d,o.dst=some d→∀i x,i<kk→als[i]? = some x→(i≠j→x.dst≠some d)∧(i≤j→d ∉ x.looks):=by
  intro j o y z ho
  have:=List.all_eq_true.1 L j (List.mem_range.2 z)
  have m2:Nat.ble j c=false:=by
   cases h:Nat.ble j c with
   | false=>rfl
   | true=>have:=Nat.le_of_ble_eq_true h;omega
  simp only[m2,Bool.false_or,ho,Bool.and_eq_true,Bool.not_eq_true']at this
  obtain⟨⟨B,J⟩,h5⟩:=this
  refine⟨B,J,fun d hd i x hi o5=>?_⟩
  simp only[hd]at h5
  have:=List.all_eq_true.1 h5 i (List.mem_range.2 hi)
  simp only[o5,Bool.and_eq_true,Bool.or_eq_true,Bool.not_eq_true']at this
  refine⟨fun c6 he=>?_,fun q3=>?_⟩
  ·rcases this.1 with h|h
   ·exact c6 (Nat.eq_of_beq_eq_true h)
   ·simp only[he,Bool.not_eq_true']at h
    rw[Nat.beq_refl]at h
    cases h
  ·rcases this.2 with h|h
   ·rw[Nat.blt_eq]at h
    omega
   ·exact jl9 h
 obtain⟨q,e7,rfl⟩:=XD _ _ _ _ _ hd
 have k6:((als.take kk).set c jhd).length=kk:=by rw[List.length_set,List.length_take];omega
 have m4:q.length=kk:=e7.len.trans k6
 have h7:∀i ao,i<kk→i≠c→als[i]? = some ao→((als.take kk).set c jhd)[i]? = some ao:=fun i ao y z B=>by
  rw[List.getElem?_set_ne (Ne.symm z),List.getElem?_take,if_pos y];exact B
 have d9:q[c]? = some (none,{ v:=jq }):=by
  obtain⟨δ,fp,y,z,B⟩:=e7.at' c jhd (by rw[List.getElem?_set_self (by rw[List.length_take];omega)])
  have:δ = { v:=jq }:=by
   obtain⟨J,_⟩:=Qz B rfl
   rcases J with⟨_,J⟩|⟨J,h5⟩
   ·cases J;rfl
   ·exact h5
  rw[y,this];rfl
 have i1:∀j e,c<j→q[j]? = some e→∃o,als[j]? = some o∧j<kk∧e.1=o.dst∧e.2.wo=[]∧e.2.wt=[]:=by
  intro j e hj he
  have k5:j<kk:=m4▸(List.getElem?_eq_some_iff.1 he).1
  have ho:=List.getElem?_eq_getElem (show j<als.length by omega)
  obtain⟨δ,fp,y,z,B⟩:=e7.at' j _ (h7 j _ k5 zO ho)
  rw[he]at y;cases y
  obtain⟨_,J,h5⟩:=Qz B (hF j _ hj k5 ho).1
  exact⟨_,ho,k5,rfl,J,h5⟩
 generalize hT:jK (fun _=>true) q st=T at *
 have c8:∀i d,(Array.replicate ops.size false).getD i d=if i<ops.size then false else d:=by
  intro i d
  by_cases hi:i<ops.size <;> simp[hi]
 have l0:jK (fun i=>(Array.replicate ops.size false).getD i false) q st=st:=by
  have:(fun i=>(Array.replicate ops.size false).getD i false)=fun _=>false:=funext fun i=>by rw[c8];split <;> rfl
  rw[this]
  exact Xh _ _
 refine je4 (bb:=false) (w0:=w0) (I0:=I0) (kk:=kk) (al':=(als.take kk).set c jhd) (sp:=fun i=>Nat.beq i c) p7 k6 (fun i ao y z B=>h7 i ao y (fun e=>by subst e;rw[Nat.beq_refl]at z;cases z) B)
  (fun i _ h=>by rw[Nat.eq_of_beq_eq_true h];exact d9) (fun j y z i B=>g0 j y z i zO) g6 g1 c5 e7 o6 p8 d3 (γ:=γ) (I:=I) ?_ (fun b9 I' a' w' F f b8 hm o0=>?_) ops.size (Array.replicate ops.size false) γ I a w zS
  (fun j o ho hj=>?_) (fun j hj=>by rw[c8];split <;> rfl) (fun j hj=>by rw[c8];split <;> rfl) zS (by rw[l0];exact hR) (fun u hu=>hf u zO) (fun j hj u y z=>hf u zO) (fun _ _ h=>h) (fun _ _ _ h=>h)
 rotate_left
 ·have:=o0 c (Nat.beq_refl c)
  rw[hm c,decide_eq_true zO]at this
  cases this
 ·simp only[c8]at hj
  split at hj <;> cases hj
 intro i F f b0 I1 a1 w1 m5 a0 b8 d7 d5 m3 c9 n2 h9 hg hI hi
 have e:c=i:=(Nat.eq_of_beq_eq_true m5).symm
 subst e
 obtain⟨h0,oc,e8,e6⟩:=mem_ready.1 hi
 have q7:c<ops.size:=(Array.getElem?_eq_some_iff.1 e8).1
 have N:JS P m ops oc=some X:=i6 c oc X (by rw[Array.getElem?_toList];exact e8) h6
 have K:∀j,j<c→f.getD j false=true:=fun j hj=>YJ Z d7 e8 e6 (f9 j hj)
 have p0:f.getD c false=false:=m3 c m5
 -- a state in which all ahead of the call have q1 about: asg the whole one,but for what is still
 have g7:∀D:Nat→Bool,(∀j,j<c→D j=true)→(jK D q st).ob=T.ob:=fun D hD=>by
  rw[← hT]
  refine funext fun l=>X4 (π:=fun s=>s.ob l) (wr:=wrO l) (g:=fun e=>JI (fun _=>none) e.2.obs l) (jb4 l) q _ _ _ _ (fun k e G M=>?_) rfl
  rcases Nat.lt_trichotomy k c with h|h|h
  ·exact hD k h
  ·subst h;rw[d9]at G;cases G;cases M
  ·obtain⟨o,_,_,_,y,_⟩:=i1 k e h G
   simp[wrO,y]at M
 have g5:∀D:Nat→Bool,(∀j,j<c→D j=true)→(jK D q st).tk=T.tk:=fun D hD=>by
  rw[← hT]
  refine funext fun u=>X4 (π:=fun s=>s.tk u) (wr:=wrK u) (g:=fun e=>e.2.add.contains u) (jfj u) q _ _ _ _ (fun k e G M=>?_) rfl
  rcases Nat.lt_trichotomy k c with h|h|h
  ·exact hD k h
  ·subst h;rw[d9]at G;cases G;cases M
  ·obtain⟨o,_,_,_,_,y⟩:=i1 k e h G
   simp[wrK,y]at M
 have b6:∀ (D:Nat→Bool) (t:Nat),(∀j,j<c→D j=true)→(∀k o,c<k→k<kk→als[k]? = some o→o.dst=some t→D k=true)→(jK D q st).tm t=T.tm t:=fun D t hD o3=>by
  rw[← hT]
  refine X4 (π:=fun s=>s.tm t) (wr:=wrT t) (g:=fun e=>e.2.v) (Qx t) q _ _ _ _ (fun k e G M=>?_) rfl
  simp only[wrT,decide_eq_true_eq]at M
  rcases Nat.lt_trichotomy k c with h|h|h
  ·exact hD k h
  ·subst h;rw[d9]at G;cases G;cases M
  ·obtain⟨o,ho,g4,y,_⟩:=i1 k e h G
   exact o3 k o h g4 ho (y▸M)
 have b7:∀k o,c<k→k<kk→als[k]? = some o→Apart X o:=fun k o y z B=>(d2 c k X o y h6 B (hF k o y z B).2.1).1
 have b5:=jy q (fun i=>f.getD i false) st
 have c3:T.nx=st.nx∧T.fb=st.fb∧T.ro=st.ro∧T.df=st.df:=hT▸jy q (fun _=>true) st
 obtain⟨l',p9,q0⟩:=jq6 (s:={ T with nx:=ub+64*((als.take kk).set c jhd).length }) (s':=jK (fun i=>f.getD i false) q st) k2
  (fun t ht=>b6 _ t K fun k o y z B J=>absurd ht ((b7 k o y z B).c t J)) (g7 _ K) (g5 _ K) (b5.2.2.1.trans c3.2.2.1.symm) (b5.2.1.trans c3.2.1.symm) hl
 unfold wpOpIn
 simp only[e8]
 refine jgt g6 (l5.trans hg) (k9.trans hI) n2 (fun u hu=>h9 u (by rw[← k6];exact hu)) N (by rw[← (XE N).1];exact d3 X (List.mem_of_getElem? h6)) p9 (fun x' o4=>?_)
 obtain⟨x,p3,v,e5,e4,e1,e2,e3⟩:=q0 x' o4
 obtain⟨p,h8,hp,k3,l9,i8⟩:=hx x p3
 obtain⟨r,e9,d8⟩:=XD _ _ _ p.1 p.2 hp
 intro n6 I2 a2 w2 l2 k4 p5 n5
 rw[e1]at k4
 rw[e3]at l2
 have l6:((als.take kk).drop (c+1)).length=kk - (c+1):=by rw[List.length_drop,List.length_take];omega
 have f5:∀j o,c<j→j<kk→als[j]? = some o→((als.take kk).drop (c+1))[j - (c+1)]? = some o:=fun j o y z B=>by
  rw[List.getElem?_drop,List.getElem?_take,if_pos zO,show c+1+(j - (c+1))=j by omega];exact B
 have d0:∀n e,r[n]? = some e→∃o,als[c+1+n]? = some o∧c+1+n<kk∧e.1=o.dst∧e.2.wo=[]∧e.2.wt=[]:=by
  intro n e he
  have hn:n<kk - (c+1):=by
   have:=(List.getElem?_eq_some_iff.1 he).1
   rw[e9.len,l6]at this
   exact this
  have ho:=List.getElem?_eq_getElem (show c+1+n<als.length by omega)
  obtain⟨δ,fp,y,z,B⟩:=e9.at' n _ (by have:=f5 (c+1+n) _ zO zO ho;rwa [show c+1+n - (c+1)=n by omega]at this)
  rw[he]at y;cases y
  obtain⟨_,J,h5⟩:=Qz B (hF _ _ zO zO ho).1
  exact⟨_,ho,zO,rfl,J,h5⟩
 have d1:∀j o d,c<j→j<kk→als[j]? = some o→o.dst=some d→T.tm d=p.2.tm d:=by
  intro j o d y z B J
  have:=List.all_eq_true.1 k3 o (List.mem_of_getElem? (f5 j o y z B))
  simp only[J]at this
  exact Wv _ _ this
 have n0:∀D:Nat→Bool,(jK D r x.1).ob=e5:=fun D=>by
  have:(jK D r x.1).ob=(jK (fun _=>false) r x.1).ob:=funext fun l=>X4 (π:=fun s=>s.ob l) (wr:=wrO l) (g:=fun e=>JI (fun _=>none) e.2.obs l) (jb4 l) r _ _ _ _ (fun k e G M=>by
   obtain⟨o,_,_,_,y,_⟩:=d0 k e G
   simp[wrO,y]at M) rfl
  rw[this,Xh,e2]
 have l8:∀D:Nat→Bool,(jK D r x.1).tk=e4:=fun D=>by
  have:(jK D r x.1).tk=(jK (fun _=>false) r x.1).tk:=funext fun u=>X4 (π:=fun s=>s.tk u) (wr:=wrK u) (g:=fun e=>e.2.add.contains u) (jfj u) r _ _ _ _ (fun k e G M=>by
   obtain⟨o,_,_,_,_,y⟩:=d0 k e G
   simp[wrK,y]at M) rfl
  rw[this,Xh,e2]
 have i2:∀t,p.2.tm t=(jK (fun _=>true) r x.1).tm t:=fun t=>by rw[d8]
 have i9:∀n t,(∀k o,n≤k→als[c+1+k]? = some o→c+1+k<kk→o.dst≠some t)→(jK (fun k=>decide (k<n)) r x.1).tm t=p.2.tm t:=fun n t h=>by
  rw[i2]
  refine X4 (π:=fun s=>s.tm t) (wr:=wrT t) (g:=fun e=>e.2.v) (Qx t) r _ _ _ _ (fun k e G M=>?_) rfl
  simp only[wrT,decide_eq_true_eq]at M
  obtain⟨o,y,z,B,_⟩:=d0 k e G
  refine decide_eq_true ?_
  rcases Nat.lt_or_ge k n with J|J
  ·exact J
  ·exact absurd (B▸M) (h k o J y z)
 have k8:∀t,X.dst≠some t→p.2.tm t=T.tm t:=fun t ht=>by
  by_cases M:∃k o,c<k∧k<kk∧als[k]? = some o∧o.dst=some t
  ·obtain⟨k,o,y,z,B,J⟩:=M
   exact(d1 k o t y z B J).symm
  ·rw[← i9 0 t (fun k o _ y z B=>M ⟨c+1+k,o,zO,z,y,B⟩)]
   have:(fun k=>decide (k<0))=fun _:Nat=>false:=funext fun k=>by simp
   rw[this,Xh,e2]
   exact XM ht
 have i3:∀k o t,c<k→k<kk→als[k]? = some o→o.dst=some t→X.dst≠some t:=fun k o t y z B J h5=>(b7 k o y z B).b t h5 J
 have m6:x.1.ro=st.ro:=by rw[e2];exact c3.2.2.1
 have p6:x.1.df=st.df:=by rw[e2];exact c3.2.2.2
 have q8:x.1.fb=st.fb:=by rw[e2];exact c3.2.1
 have g8:∀ (F:Nat) (f:Array Bool) (b0:Nat→Option Place) (I1:IMap) (a:Act) (w:World),f.size=ops.size→jci ops (fun i=>f.getD i false)→(∀j,kk≤j→f.getD j false=false)→(∀j,j≤c→f.getD j false=true)→f.toList.count false≤F →
  R E w0 I0 nt b0 I1 { jK (fun i=>f.getD i false) q st with tm:=put (jK (fun i=>f.getD i false) q st).tm X.dst v,ob:=e5,tk:=e4 } a w →
  (∀u,x.2+64*(kk - (c+1))≤u→b0 u=none)→(∀j,c<j→j<kk→f.getD j false=false→∀u,x.2+64*(j - (c+1))≤u→u<x.2+64*(j - (c+1))+64→b0 u=none)→SubG γ b0→SubI I I1 →
  wpAnyIn (FW rn) 0 P .any ops Q F f a w:=by
  intro F
  induction F with
  | zero=>?_
  | succ F ih=>?_
  all_goals
   intro f b0 I1 a w b8 d7 d5 K c9 hR h9 i7 hg hI
   have b5:=jy q (fun i=>f.getD i false) st
   have p1:∀F,f.toList.count false≤F→(∀j,j<kk→f.getD j false=true)→wpAnyIn (FW rn) 0 P .any ops Q F f a w:=fun F c9 L=>by
    refine jiq g0 g6 g1 c5 d3 (ops.size - kk) kk zR zO F f b0 I1 p.2 a w p.2.nx h8 b8 (fun i=>?_) c9 (l5.trans hg) (k9.trans hI) (hR.congr (funext fun t=>?_) ?_ ?_ ?_ ?_) (fun u hu=>h9 u (by rw[d8]at hu;simpa[l6] using hu)) l9 (fun g9 h=>(i8 g9 h).weaken hg hI)
    ·by_cases h:i<kk
     ·rw[L i h,decide_eq_true h]
     ·rw[d5 i zO,decide_eq_false h]
    ·by_cases h:X.dst=some t
     ·simp only[h,WE]
      rw[← i9 0 t (fun k o _ y z B=>i3 (c+1+k) o t zO z y B h)]
      have:(fun k=>decide (k<0))=fun _:Nat=>false:=funext fun k=>by simp
      rw[this,Xh,e2]
      simp only[h,WE]
     ·simp only[XM h]
      rw[k8 t h,b6 _ t (fun j hj=>K j zO) (fun k o y z _ _=>L k z)]
    ·rw[d8];exact n0 _
    ·rw[d8];exact l8 _
    ·exact(congrArg St.ro d8).trans ((jy r _ x.1).2.2.1.trans (m6.trans b5.2.2.1.symm))
    ·exact(congrArg St.df d8).trans ((jy r _ x.1).2.2.2.trans (p6.trans b5.2.2.2.symm))
   by_cases L:∀j,j<kk→f.getD j false=true
   ·exact p1 _ c9 L
  ·refine absurd (jke zO Z b8 fun i hi o2=>?_) L
   obtain⟨h0,o,ho,_⟩:=mem_ready.1 o2
   have e0:i<f.size:=by rw[b8];exact(Array.getElem?_eq_some_iff.1 ho).1
   have:=(count_set e0 (by simpa[e0] using h0)).2
   omega
  ·refine⟨fun hr=>absurd (jke zO Z b8 (fun i _ hi=>by rw[hr]at hi;cases hi)) L,fun i hi=>?_⟩
   obtain⟨h0,o,ho,e6⟩:=mem_ready.1 hi
   have o1:i<ops.size:=(Array.getElem?_eq_some_iff.1 ho).1
   have a0:i<kk:=by
    rcases Nat.lt_or_ge i kk with h|h
    ·exact h
    ·exact absurd (fun j hj=>YJ Z d7 ho e6 (g0 i h o1 j zO)) L
   have e0:i<f.size:=zO
   have f8:f.getD i false=false:=by simpa[e0] using h0
   have d6:c<i:=by
    rcases Nat.lt_or_ge c i with h|h
    ·exact h
    ·rw[K i h]at f8;cases f8
   have O:=List.getElem?_eq_getElem (show i<als.length by omega)
   generalize als[i]=ao at O
   have N:JS P m ops o=some ao:=i6 i o ao (by rw[Array.getElem?_toList];exact ho) O
   obtain⟨hd1,k0⟩:=XE N
   obtain⟨U,m2,f3⟩:=hF i ao d6 a0 O
   have k0:JX P m o=some ao.op:=k0.resolve_right fun h=>by rw[h]at U;cases U
   obtain⟨f6,q9,m8,_,q4⟩:=e7.at' i ao (h7 i ao a0 zO O)
   obtain⟨g3,q5,n8,_,o8⟩:=e9.at' (i - (c+1)) ao (f5 i ao d6 a0 O)
   obtain⟨l3,n4,n3⟩:=Qz o8 U
   have d4:∀t∈ao.looks,put (jK (fun i=>f.getD i false) q st).tm X.dst v t=(jK (fun k=>decide (k<i - (c+1))) r x.1).tm t:=by
    intro t ht
    have c6:X.dst≠some t:=fun h=>(b7 i ao d6 a0 O).a t h ht
    rw[XM c6,i9 _ t (fun k o G y z B=>((hF _ o zO z y).2.2 t B i ao a0 O).2 zO ht),k8 t c6]
    refine b6 _ t (fun j hj=>K j zO) fun k ok y z B J=>?_
    have n7:k<i:=by
     rcases Nat.lt_or_ge k i with h|h
     ·exact h
     ·exact absurd ht (((hF k ok y z B).2.2 t J i ao a0 O).2 h)
    cases m1:((J6 ops.toList []).getD i 0).testBit k with
    | true=>exact YJ Z d7 ho e6 m1
    | false=>exact absurd ht ((d2 k i ok ao n7 B O m1).1.a t J)
   have hv:∀d,ao.dst=some d→f6.v=g3.v:=fun d hd=>by
    have y:T.tm d=f6.v:=by
     rw[← hT]
     refine jnw m8 hd fun k e' G c6 h=>?_
     by_cases m0:k=c
     ·subst m0;rw[d9]at G;cases G;cases h
     ·have g4:k<kk:=m4▸(List.getElem?_eq_some_iff.1 G).1
      have n1:=List.getElem?_eq_getElem (show k<als.length by omega)
      obtain⟨q2,fk,m9,_⟩:=e7.at' k _ (h7 k _ g4 m0 n1)
      rw[G]at m9;cases m9
      exact(f3 d hd k _ g4 n1).1 c6 h
    have z:p.2.tm d=g3.v:=by
     rw[i2]
     refine jnw n8 hd fun k e' G c6 h=>?_
     obtain⟨ok,B,J,h5,_⟩:=d0 k e' G
     exact(f3 d hd _ ok J B).1 zO (h5▸h)
    rw[← y,← z]
    exact d1 i ao d d6 a0 O hd
   have H:∀k,k≠i→(f.setIfInBounds i true).getD k false=f.getD k false:=fun k G=>getD_set_ne false (Ne.symm G)
   have f7:∀b9 I' a' w',R E w0 I0 nt b9 I' (St.app { jK (fun i=>f.getD i false) q st with tm:=put (jK (fun i=>f.getD i false) q st).tm X.dst v,ob:=e5,tk:=e4 } ao.dst g3) a' w'→(∀u,¬(x.2+64*(i - (c+1))≤u∧u<x.2+64*(i - (c+1))+64)→b9 u=b0 u) →
    (∀u p,b0 u=some p→b9 u=some p)→(∀b o x,I1 b o=some x→I' b o=some x)→wpAnyIn (FW rn) 0 P .any ops Q F (f.setIfInBounds i true) a' w':=by
    intro b9 I' a' w' i0 i4 p4 p2
    have f0:(f.setIfInBounds i true).getD i false=true:=by simp[e0]
    have c0:=jy q (fun k=>(f.setIfInBounds i true).getD k false) st
    obtain⟨c1,c2⟩:=count_set e0 f8
    obtain⟨b1,b2⟩:=j31 (s:={ jK (fun i=>f.getD i false) q st with tm:=put (jK (fun i=>f.getD i false) q st).tm X.dst v,ob:=e5,tk:=e4 }) (d:=ao.dst) n4 n3
    refine ih (f.setIfInBounds i true) b9 I' a' w' (by simpa using b8) (fun j oj c7 f1 e' f4 hb=>?_) (fun j hj=>by rw[H j zO];exact d5 j hj) (fun j hj=>by rw[H j zO];exact K j hj) zO (i0.congr (funext fun t=>?_) b1.symm b2.symm (c0.2.2.1.trans b5.2.2.1.symm) (c0.2.2.2.trans b5.2.2.2.symm))
     (fun u hu=>by rw[i4 u zO];exact h9 u hu) (fun j y z B u J h5=>?_) (hg.trans p4) (hI.trans p2)
    ·by_cases c4:j=i
     ·subst c4
      rw[ho]at c7
      cases c7
      exact getD_set_true (e6 e' f4 hb)
     ·simp only[H j c4]at f1
      exact getD_set_true (d7 j oj c7 f1 e' f4 hb)
    ·have m7:(jK (fun k=>(f.setIfInBounds i true).getD k false) q st).tm t=if wrT t (ao.dst,f6) then f6.v else (jK (fun i=>f.getD i false) q st).tm t :=
      jcy (π:=fun s=>s.tm t) (wr:=wrT t) (g:=fun e=>e.2.v) (Qx t) q (fun i=>f.getD i false) _ st i (ao.dst,f6) m8 f8 f0 H (fun k e' G o7 _ M=>by
       simp only[wrT,decide_eq_true_eq]at M
       simp only[wrT,decide_eq_false_iff_not]
       intro h
       obtain⟨ok,B,J,h5,_⟩:=i1 k e' zO o7
       exact(f3 t M k ok J B).1 zO (h5▸h))
     show put (jK (fun k=>(f.setIfInBounds i true).getD k false) q st).tm X.dst v t=put (put (jK (fun i=>f.getD i false) q st).tm X.dst v) ao.dst g3.v t
     by_cases y:X.dst=some t
     ·rw[XM (d:=ao.dst) (fun h=>i3 i ao t d6 a0 O h y),y,WE,WE]
     ·rw[XM y,m7]
      by_cases z:ao.dst=some t
      ·rw[if_pos (by simpa[wrT] using z),z,WE]
       exact hv t z
      ·rw[if_neg (by simpa[wrT] using z),XM z,XM y]
    ·have c4:j≠i:=fun e=>by subst e;rw[f0]at B;cases B
     rw[H j c4]at B
     rw[i4 u zO]
     exact i7 j y z B u J h5
   have l1:∀d,o.dst=some d→d<nt:=by rw[← hd1];exact d3 ao (List.mem_of_getElem? O)
   unfold wpOpIn
   simp only[ho]
   have M:=Jp (s:={ jK (fun i=>f.getD i false) q st with tm:=put (jK (fun i=>f.getD i false) q st).tm X.dst v,ob:=e5,tk:=e4 }) (ao:=ao) d4
   have o9:=XW (E:=E) (s:={ jK (fun i=>f.getD i false) q st with tm:=put (jK (fun i=>f.getD i false) q st).tm X.dst v,ob:=e5,tk:=e4 }) (ao:=ao) d4
   rcases l3 with⟨r1,r2⟩|⟨r1,r2⟩
   ·rw[if_pos (Xl hR N (M.trans r1))]
    have l4:=jy r (fun k=>decide (k<i - (c+1))) x.1
    rw[n0,l8,l4.2.2.1,m6]at r2
    have k7:=r2
    rw[← je3 ao.op (jie U).2.2.2 o9 (fun _ _=>rfl) (fun _ _=>rfl)]at k7
    rw[← b5.2.2.1]at k7
    refine jhx g6 hR (fun u y z=>i7 i d6 a0 f8 u y z) k0 l1 k7 (fun b9 I' a' w' i0 y z B=>?_)
    rw[← hd1]at i0
    exact f7 b9 I' a' w' i0 y z B
   ·rw[if_neg (by rw[Xl hR N (M.trans r1)];exact Bool.false_ne_true)]
    refine⟨fun _ _=>trivial,?_⟩
    have:=jrv hR l1
    rw[← hd1]at this ⊢
    refine f7 b0 I1 _ _ ?_ (fun _ _=>rfl) (fun _ _ h=>h) (fun _ _ _ h=>h)
    rw[r2]
    exact this
 have H:∀k,k≠c→(f.setIfInBounds c true).getD k false=f.getD k false:=fun k G=>getD_set_ne false (Ne.symm G)
 have i5:c<f.size:=zO
 have k1:∀ {β:Type}{π:St→β}{wr:Eff→Bool}{g:Eff→β},(∀ (s:St) (e:Eff),π (s.app e.1 e.2)=if wr e then g e else π s)→wr (none,{ v:=jq })=false→π (jK (fun k=>(f.setIfInBounds c true).getD k false) q st)=π (jK (fun i=>f.getD i false) q st):=fun n9 hn=>
  X4 n9 q _ _ _ _ (fun k e G M=>H k (fun h=>by subst h;rw[d9]at G;cases G;rw[hn]at M;cases M)) rfl
 obtain⟨c1,c2⟩:=count_set i5 p0
 have c0:=jy q (fun k=>(f.setIfInBounds c true).getD k false) st
 refine g8 F (f.setIfInBounds c true) n6 I2 a2 w2 (by simpa using b8) (fun j oj c7 f1 e' f4 hb=>?_) (fun j hj=>by rw[H j zO];exact d5 j hj) (fun j hj=>?_) zO
  (l2.congr (funext fun t=>?_) rfl rfl (c0.2.2.1.trans b5.2.2.1.symm) (c0.2.2.2.trans b5.2.2.2.symm)) (fun u hu=>k4 u zO) (fun j _ _ _ u y _=>k4 u zO) (SubG.trans hg p5) (SubI.trans hI n5)
 ·by_cases c4:j=c
  ·subst c4
   rw[e8]at c7
   cases c7
   exact getD_set_true (e6 e' f4 hb)
  ·simp only[H j c4]at f1
   exact getD_set_true (d7 j oj c7 f1 e' f4 hb)
 ·by_cases l7:j=c
  ·subst l7;simp[i5]
  ·rw[H j l7];exact K j zO
 ·show put (jK (fun k=>(f.setIfInBounds c true).getD k false) q st).tm X.dst v t=put (jK (fun i=>f.getD i false) q st).tm X.dst v t
  by_cases y:X.dst=some t
  ·rw[y,WE,WE]
  ·rw[XM y,XM y]
   exact k1 (π:=fun s=>s.tm t) (wr:=wrT t) (g:=fun e=>e.2.v) (Qx t) rfl
end
section
variable {P:Program}{E:Env}{w0 w:World}{I0:IMap}{nt:Nat}{γ:Nat→Option Place}{I:IMap}{st:St}{a:Act}
theorem Sh.congr {st st':St}(h:Sh E w0 I0 γ I st w) (c:st'.ob=st.ob) (b:st'.tk=st.tk) (d:st'.ro=st.ro):Sh E w0 I0 γ I st' w :=
 ⟨h.imm,h.gl,(let ⟨Ω,ho⟩:=h.own;⟨Ω,⟨by rw[c,d];exact ho.ob,by rw[b];exact ho.tk,ho.lt⟩⟩),h.fr,h.old⟩
theorem Sh.alloc (h:Sh E w0 I0 γ I st w) {ub d:Nat}(F:γ ub=none) {obj:Obj}{body:OBody}{k:Kd}(J:ObjOk γ I st.ob w.heap k (some obj) body) :
 Sh E w0 I0 (upd γ ub (some (.obj w.heap.size k))) I { st with ob:=upd st.ob d (some ⟨ub,body⟩) } (w.alloc obj):=by
 have r:=W8 (f:=γ) (k:=ub) (v:=Place.obj w.heap.size k) F
 obtain⟨M,p⟩:=h.own
 have i:=jgd (w:=w) (ob:=st.ob) (obj:=obj) (d:=d) (body:=body) F
 refine⟨fun b Q O c=>?_,h.gl,⟨upd M w.heap.size (some (.ob d)),⟨fun l ob o=>?_,fun u N=>?_,fun b S c=>?_⟩⟩,?_,h.old⟩
 ·rw[World.cell?_alloc_lt]
  ·exact h.imm _ _ _ c
  ·exact World.block_lt_of_cell? _ _ (h.imm _ _ _ c)
 ·have L:∀j,I w.heap.size j=none:=by
   intro j
   cases G:I w.heap.size j with
   | none=>rfl
   | some y=>exact absurd (World.block_lt_of_cell? _ _ (h.imm _ _ _ G)) (Nat.lt_irrefl _)
  simp only[j2]at o
  split at o
  ·rename_i m
   subst m
   simp only[Option.some.injEq]at o
   subst o
   refine⟨w.heap.size,k,zS,zS,fun _=>h.fr.size,?_,L⟩
   rw[heap_alloc_new]
   exact(J.keep i).mono r (fun _ _ _ h=>h)
  ·rename_i m
   obtain⟨b,K,x,q,t,s,z⟩:=p.ob l ob o
   have g:=p.lt b _ q
   refine⟨b,K,r _ _ x,?_,t,?_,z⟩
   ·rw[J7 _ _ (Nat.ne_of_lt g)];exact q
   ·rw[heap_alloc_old _ _ _ g];exact(s.keep i).mono r (fun _ _ _ h=>h)
 ·obtain⟨b,n,D,H,x,q,t,s,z⟩:=p.tk u N
  have g:=p.lt b _ q
  refine⟨b,n,D,H,r _ _ x,?_,t,?_,z⟩
  ·rw[J7 _ _ (Nat.ne_of_lt g)];exact q
  ·rw[heap_alloc_old _ _ _ g];exact s
 ·rw[j2]at c
  simp only[World.size_alloc]
  split at c
  ·rename_i e;omega
  ·have:=p.lt b _ c;omega
 ·exact Grow.frame h.fr ⟨rfl,rfl,rfl,zS,fun k B _=>heap_alloc_old _ _ _ B,fun k B=>B.elim⟩ (T:=fun _=>False)
theorem Sh.turn (h:Sh E w0 I0 γ I st w) {l u b:Nat}{k:Kd}{body:OBody}(hl:st.ob l=some ⟨u,body⟩) (hu:γ u=some (.obj b k)) (F:Nat.ble st.ro u=true) {ob':ZO}{o':Obj}
 (B:∀j x,ob' j=some x→(j≠l∧st.ob j=some x)∨(j=l∧x.uid=u∧ObjOk γ I st.ob w.heap k (some o') x.body∧∀v es,x.body≠.mp v es)) :
 Sh E w0 I0 γ I { st with ob:=ob' } (w.putObj b o'):=by
 obtain⟨Ω,s⟩:=h.own
 obtain⟨b',k',Z,y,X,_,h5⟩:=s.ob l _ hl
 rw[hu]at Z
 cases Z
 have J:=s.lt _ _ y
 have f:Xk γ st.ob ob' w.heap (w.putObj b o').heap:=by
  intro j U Q a0 mb mk p d
  rcases B _ _ d with⟨g,d⟩|⟨_,_,_,H⟩
  ·refine .inl ⟨d,fun m c hm=>?_⟩
   obtain⟨b2,S,r,i,_⟩:=s.ob j _ d
   rw[p]at r
   cases r
   rw[World.putObj_heap_other (fun e=>by
    subst e
    rw[y]at i
    cases i
    exact g rfl)]
   exact hm
  ·exact absurd rfl (H _ _)
 refine⟨fun b2 o2 x K=>?_,h.gl,⟨Ω,⟨fun j x d=>?_,fun U p=>?_,fun b2 ow L=>?_⟩⟩,?_,h.old⟩
 ·have g:b2≠b:=fun e=>by rw[e,h5]at K;cases K
  rw[World.cell?_of_block (w:=w) (w':=w.putObj b o') (a:=⟨b2,o2,none⟩) (World.putObj_heap_other g)]
  exact h.imm _ _ _ K
 ·rcases B _ _ d with⟨g,t⟩|⟨rfl,z,o,_⟩
  ·obtain⟨b2,S,r,i,O,G,D⟩:=s.ob j x t
   have q:b2≠b:=fun e=>by
    subst e
    rw[y]at i
    cases i
    exact g rfl
   exact⟨b2,S,r,i,O,by rw[World.putObj_heap_other q];exact G.keep f,D⟩
  ·refine⟨b,k,by rw[z];exact hu,y,fun hr=>X (by rw[z]at hr;exact hr),?_,h5⟩
   rw[World.putObj_heap_same J]
   exact o.keep f
 ·obtain⟨b2,n,N,sz,r,i,O,G,D⟩:=s.tk U p
  have q:b2≠b:=fun e=>by subst e;rw[y]at i;cases i
  exact⟨b2,n,N,sz,r,i,O,by rw[World.putObj_heap_other q];exact G,D⟩
 ·rw[World.putObj_size]
  exact s.lt _ _ L
 ·exact Grow.frame h.fr (T:=fun k=>k=b) ⟨rfl,rfl,rfl,zS,fun k _ M=>World.putObj_heap_other M,fun k M=>M▸X (by simpa[Nat.ble_eq] using F)⟩
theorem jf4 (h:Sh E w0 I0 γ I st w) {l u b:Nat}{k:Kd}{body:OBody}(d:st.ob l=some ⟨u,body⟩) (g:γ u=some (.obj b k)):ObjOk γ I st.ob w.heap k w.heap[b]? body:=by
 obtain⟨m,f⟩:=h.own
 obtain⟨j,o,c,p,i,e,n⟩:=f.ob l _ d
 rw[g]at c
 cases c
 exact e
theorem jin:∀ (ps:List Nat) (vs:List V) (xs:List Value) (T:Array Value) (tm:Nat→V),xs.length=vs.length→vs.length=ps.length→(∀p∈ps,p<T.size)→(∀t,Rep γ I (T.getD t undef) (tm t)) →
 (∀ (j:Nat) (x:Value) (v:V),xs[j]? = some x→vs[j]? = some v→Rep γ I x v) →
 ((ps.zip xs).foldl (fun tmps (t,a)=>tmps.setIfInBounds t a) T).size=T.size∧∀t,Rep γ I (((ps.zip xs).foldl (fun tmps (t,a)=>tmps.setIfInBounds t a) T).getD t undef) (jdh tm ps vs t)
 | [],[],[],T,tm,_,_,_,hT,_=>⟨rfl,hT⟩
 | p::ps,v::vs,x::xs,T,tm,h1,h2,hp,hT,hx=>by
  simp only[List.zip_cons_cons,List.foldl_cons,jdh]
  have b:=hp p (List.mem_cons_self ..)
  have:=jin ps vs xs (T.setIfInBounds p x) (upd tm p v) (by simpa using h1) (by simpa using h2) (fun q d=>by rw[Array.size_setIfInBounds];exact hp q (List.mem_cons_of_mem _ d)) (fun t=>?_) (fun j y u g f=>hx (j+1) y u (by simpa using g) (by simpa using f))
  ·rw[Array.size_setIfInBounds]at this
   exact this
  ·by_cases c:t=p
   ·subst c
    simp only[YV]
    have:(T.setIfInBounds t x).getD t undef=x:=by simp[b]
    rw[this]
    exact hx 0 x v rfl rfl
   ·rw[J7 _ _ c]
    have:(T.setIfInBounds p x).getD t undef=T.getD t undef:=by
     simp[Array.getElem?_setIfInBounds_ne (fun e=>c e.symm)]
    rw[this]
    exact hT t
 | [],_::_,_,_,_,_,h,_,_,_=>by simp at h
 | _::_,[],_,_,_,_,h,_,_,_=>by simp at h
 | [],[],_::_,_,_,h,_,_,_,_=>by simp at h
 | _::_,_::_,[],_,_,h,_,_,_,_=>by simp at h
end
theorem jgp {d e:Type}{f:d→Option (List e)}:∀ {l:List d}{r:List e},Qc f l=some r→∀y∈r,∃x∈l,∃c,f x=some c∧y∈c
 | [],r,h,y,hy=>by cases h;cases hy
 | [x'],r,h,y,hy=>⟨x',List.mem_singleton.2 rfl,r,h,hy⟩
 | x'::y'::l,r,h,y,hy=>by
  simp only[Qc]at h
  obtain⟨a,j,h⟩:=bind_some h
  obtain⟨b,k,rfl⟩:=map_some h
  rcases List.mem_append.1 hy with hy|hy
  ·exact⟨x',List.mem_cons_self ..,a,j,hy⟩
  ·obtain⟨x,i,c,g,m⟩:=jgp k y hy
   exact⟨x,List.mem_cons_of_mem _ i,c,g,m⟩
theorem ja2 {b c:Type}{m:Option (List b)}{f:b→Option (List c)}{r:List c}(h:bindL m f=some r):∃l,m=some l∧∀y∈r,∃x∈l,∃a,f x=some a∧y∈a:=by
 obtain⟨l,d,h⟩:=bind_some h
 exact⟨l,d,jgp h⟩
section
variable {E:Env}
theorem jq4 {b:Callers}{o:AOpr}{st:St}{ub:Nat}{l:List (St × Nat)}(h:jbx E b o st ub=some l):∀x∈l,x.1.ro=st.ro:=by
 intro x a
 unfold jbx at h
 split at h
 ·split at h
  ·obtain⟨_,_,rfl⟩:=map_some h
   rw[List.mem_singleton]at a;subst a;rfl
  ·split at h
   ·split at h
    ·obtain⟨_,_,rfl⟩:=map_some h
     obtain⟨_,_,rfl⟩:=List.mem_map.1 a
     rfl
    ·obtain⟨_,_,rfl⟩:=map_some h
     rw[List.mem_singleton]at a;subst a;rfl
   ·split at h
    ·obtain⟨_,_,rfl⟩:=map_some h
     obtain⟨_,_,rfl⟩:=List.mem_map.1 a
     rfl
    ·obtain⟨_,_,rfl⟩:=map_some h
     rw[List.mem_singleton]at a;subst a;rfl
 ·cases h
  rw[List.mem_singleton]at a;subst a;rfl
 ·cases h
theorem jr5 {a:Callers}:∀ {ops:List AOpr}{st:St}{ub:Nat}{l:List St},jg9 E a ops st ub=some l→∀x∈l,x.ro=st.ro
 | [],st,ub,l,h,x,hx=>by
  cases h
  rw[List.mem_singleton]at hx;subst hx;rfl
 | o::r,st,ub,l,h,x,hx=>by
  simp only[jg9]at h
  obtain⟨i,c,e⟩:=ja2 h
  obtain⟨p,f,g,b,d⟩:=e x hx
  rw[jr5 b x d,jq4 c p f]
theorem WO {b:Callers}:∀ {ops:List AOpr}{st:St}{ub:Nat}{p:List FP × St},Y1 E b ops st ub=some p→p.2.ro=st.ro
 | [],st,ub,p,h=>by cases h;rfl
 | o::r,st,ub,p,h=>by
  unfold Y1 at h
  split at h
  ·split at h
   ·split at h
    ·split at h
     ·obtain⟨c,_,h⟩:=bind_some h
      obtain⟨q,a,rfl⟩:=map_some h
      have:=WO a
      exact this
     ·obtain⟨c,_,h⟩:=bind_some h
      obtain⟨q,a,rfl⟩:=map_some h
      have:=WO a
      exact this
    ·obtain⟨c,_,h⟩:=bind_some h
     obtain⟨q,a,rfl⟩:=map_some h
     have:=WO a
     exact this
   ·split at h
    ·cases h
    ·obtain⟨c,_,h⟩:=bind_some h
     obtain⟨q,a,rfl⟩:=map_some h
     have:=WO a
     exact this
  ·obtain⟨q,a,rfl⟩:=map_some h
   have:=WO a
   exact this
  ·cases h
theorem jht {t:Y→Callers}{y:Y}{N:Nat}:∀ (c:C) {st:St}{l:List (Ex × St)},jX E t y N c st=some l→∀x∈l,x.2.ro=st.ro:=by
 intro c
 induction c with
 | skip=>intro st l h x d;cases h;rw[List.mem_singleton]at d;subst d;rfl
 | ret=>intro st l h x d;cases h;rw[List.mem_singleton]at d;subst d;rfl
 | exit id=>intro st l h x d;cases h;rw[List.mem_singleton]at d;subst d;rfl
 | stuck=>intro st l h;cases h
 | region I=>
  intro st l h x d
  simp only[jX]at h
  obtain⟨B,j,rfl⟩:=map_some h
  obtain⟨s,k,rfl⟩:=List.mem_map.1 d
  exact jr5 j s k
 | pin o fs=>
  intro st l h x d
  simp only[jX]at h
  obtain⟨B,j,u⟩:=ja2 h
  obtain⟨p,z,F,m,g⟩:=u x d
  obtain⟨q,L,K⟩:=bind_some m
  simp only[Option.ite_none_right_eq_some,Option.some.injEq]at K
  obtain⟨_,rfl⟩:=K
  rw[List.mem_singleton]at g;subst g
  exact(WO L).trans (jq4 j p z)
 | draw I J=>
  intro st l h x d
  simp only[jX]at h
  obtain⟨p,j,u⟩:=bind_some h
  simp only[Option.ite_none_right_eq_some,Option.some.injEq]at u
  obtain⟨_,rfl⟩:=u
  rw[List.mem_singleton]at d;subst d
  exact WO j
 | seq a b w v=>
  intro st l h x d
  simp only[jX]at h
  obtain⟨B,j,u⟩:=ja2 h
  obtain⟨p,z,F,m,g⟩:=u x d
  obtain⟨e,s⟩:=p
  have k:=w j _ z
  cases e with
  | nrm=>exact(v m x g).trans k
  | exit i=>cases m;rw[List.mem_singleton]at g;subst g;exact k
  | ret=>cases m;rw[List.mem_singleton]at g;subst g;exact k
 | cond q a b w v=>
  intro st l h x d
  simp only[jX]at h
  split at h
  ·exact w h x d
  ·exact v h x d
  ·cases h
 | block id a H=>
  intro st l h x d
  simp only[jX]at h
  obtain⟨B,j,rfl⟩:=map_some h
  obtain⟨p,z,rfl⟩:=List.mem_map.1 d
  have:=H j p z
  obtain⟨e,s⟩:=p
  cases e with
  | nrm=>exact this
  | ret=>exact this
  | exit i=>
   simp only
   split <;> exact this
 | loop a H=>
  intro st l h x d
  simp only[jX]at h
  have D:∀ (n:Nat) (st:St) (l:List (Ex × St)),jao (jX E t y N a) n st=some l→∀x∈l,x.2.ro=st.ro:=by
   intro n
   induction n with
   | zero=>intro st l h;cases h
   | succ n G=>
    intro st l h x d
    simp only[jao]at h
    obtain⟨B,j,u⟩:=ja2 h
    obtain⟨p,z,F,m,g⟩:=u x d
    obtain⟨e,s⟩:=p
    have k:=H j _ z
    cases e with
    | nrm=>exact(G s F m x g).trans k
    | exit i=>cases m;rw[List.mem_singleton]at g;subst g;exact k
    | ret=>cases m;rw[List.mem_singleton]at g;subst g;exact k
  exact D N st l h x d
 | rangeFunc f O a b=>
  intro st l h x d
  simp only[jX]at h
  split at h
  case h_2=>cases h
  obtain⟨p,_,h⟩:=bind_some h
  obtain⟨r,ob,M,P⟩:=p
  simp only at h
  split at h
  case h_2=>cases h
  simp only[Option.ite_none_right_eq_some,Option.some.injEq]at h
  obtain⟨_,rfl⟩:=h
  rw[List.mem_singleton]at d;subst d;rfl
end
section
variable {P:Program}{E:Env}{nt:Nat}{γ:Nat→Option Place}{I:IMap}{w0:World}{I0:IMap}{call:Callers}{st:St}{ub:Nat}{a:Act}{w:World}{ops:Array Oper}{als:List AOpr}{free:List (Nat × Nat)}{fps:List FP}
theorem mid_ok {m:Bool}{rn:Option Nat}{γ0:Nat→Option Place}{Iy:IMap}{Q:Exit→Act→World→Prop}{c:Nat}{ac:AOpr}{S:St}{e2:List St}(Z:jsu ops als c=true) (b5:als[c]? = some ac)
 (c1:COk P E γ0 Iy call) (f5:SubG γ0 γ) (e9:SubI Iy I) (X:ops.toList.mapM (JS P m ops)=some als) (B:Xs ops als=some free) (L:∀ao∈als,∀d,ao.dst=some d→d<nt)
 (hd:Y1 E call (als.take c) st ub=some (fps,S)) (g0:XA free fps=true) (i2:Qk fps=true) (hl:jg9 E call [ac] S S.nx=some e2)
 (hx:∀s1∈e2,∃p,Y1 E call (List.replicate (c+1) jhd++als.drop (c+1)) s1 s1.nx=some p∧XA free p.1=true∧Qk p.1=true∧Nice E w0 I0 nt γ I p.2 p.2.nx (fun a w=>Q .normal a w))
 (hR:R E w0 I0 nt γ I st a w) (hf:∀u,ub≤u→γ u=none):wpAnyIn (FW rn) 0 P .any ops Q ops.size (Array.replicate ops.size false) a w:=by
 obtain⟨a0,e3⟩:=ju X
 have a0:als.length=ops.size:=by rw[a0,Array.length_toList]
 obtain⟨y,e8⟩:=Xi B a0
 have i5:c<als.length:=(List.getElem?_eq_some_iff.1 b5).1
 unfold jsu at Z
 simp only[Bool.and_eq_true,b5]at Z
 obtain⟨⟨⟨_,U⟩,e5⟩,_⟩:=Z
 have U:∀i,i<c→((J6 ops.toList []).getD c 0).testBit i=true:=fun i z=>List.all_eq_true.1 U i (List.mem_range.2 z)
 have b7:∀j,c<j→j<ops.size→∀i,i≤c→((J6 ops.toList []).getD j 0).testBit i=true:=by
  intro j F h2 i z
  have:=List.all_eq_true.1 e5 j (List.mem_range.2 zO)
  have g3:Nat.ble j c=false:=by
   cases h:Nat.ble j c with
   | false=>rfl
   | true=>have:=Nat.le_of_ble_eq_true h;omega
  rw[g3,Bool.false_or,Bool.and_eq_true]at this
  exact List.all_eq_true.1 this.1 i (List.mem_range.2 zO)
 have H:∀i d,(Array.replicate ops.size false).getD i d=if i<ops.size then false else d:=by
  intro i d
  by_cases z:i<ops.size <;> simp[z]
 have k:∀ (f:Array Bool) (i:Nat),i<f.size→f.getD i true=f.getD i false:=by
  intro f i z
  simp[z]
 obtain⟨b9,i0,rfl⟩:=XD _ _ _ _ _ hd
 have c5:jK (fun i=>(Array.replicate ops.size false).getD i false) b9 st=st:=by
  have:(fun i=>(Array.replicate ops.size false).getD i false)=fun _=>false:=funext fun i=>by rw[H];split <;> rfl
  rw[this]
  exact Xh _ _
 have d3:(als.take c).length=c:=by rw[List.length_take];omega
 refine je4 (bb:=false) (w0:=w0) (I0:=I0) (kk:=c) (al':=als.take c) (sp:=fun _=>false) zO d3 (fun i ao z _ h=>by rw[List.getElem?_take,if_pos z];exact h) (fun _ _ h=>by cases h)
  (fun j F h2 i h3=>?_) c1 X B i0 g0 i2 L (γ:=γ) (I:=I) (fun _ _ _ _ _ _ _ h=>by cases h) (fun i6 I' a' w' n f f4 hm _ i3 i1 f0 c8 d8=>?_) ops.size (Array.replicate ops.size false) γ I a w zS
  (fun j o M K=>?_) (fun j K=>by rw[H];split <;> rfl) (fun _ h=>by cases h) zS (by rw[c5];exact hR) (fun u hu=>hf u zO) (fun j K u F h2=>hf u zO) (fun _ _ h=>h) (fun _ _ _ h=>h)
 ·rcases Nat.lt_or_eq_of_le F with h|h
  ·exact b7 j h h2 i zO
  ·subst h
   exact U i h3
 rotate_left
 ·simp only[H]at K
  split at K <;> cases K
 -- the call
 have c2:c<ops.size:=zO
 have O:c<f.size:=zO
 have f1:jci ops (fun i=>f.getD i false):=by
  intro i o M hd e he hb
  simp only[hm,decide_eq_true_eq]at hd ⊢
  have:=y i o M e he hb
  omega
 have e6:∀i,i∈Region.ready .any ops f→i=c:=by
  intro i z
  obtain⟨h0,o,M,h7⟩:=mem_ready.1 z
  have f8:i<ops.size:=(Array.getElem?_eq_some_iff.1 M).1
  rw[k f i zO,hm i]at h0
  have F:c≤i:=by simpa using h0
  rcases Nat.lt_or_eq_of_le F with h|h
  ·have:=YJ (D:=fun i=>f.getD i false) y f1 M h7 (b7 i h zO c zR)
   simp only[hm,decide_eq_true_eq]at this
   omega
  ·exact h.symm
 have g8:c∈Region.ready .any ops f:=mem_ready.2 ⟨by rw[k f c O,hm c];simp,ops[c],Array.getElem?_eq_getElem c2,fun e he hb=>by
  have:=y c _ (Array.getElem?_eq_getElem c2) e he hb
  rw[hm e.on]
  exact decide_eq_true this⟩
 have N:=List.mem_of_getElem? b5
 have M:=Array.getElem?_eq_getElem c2
 generalize ops[c]=o at M
 have G:JS P m ops o=some ac:=e3 c o ac (by rw[Array.getElem?_toList];exact M) b5
 have c9:f[c]? = some false:=by
  have F:=hm c
  rw[Array.getElem?_eq_getElem O]
  simp only[Array.getD_eq_getD_getElem?,Array.getElem?_eq_getElem O,Option.getD_some]at F
  rw[F]
  simp
 cases n with
 | zero=>
  have N:false∈f.toList:=Array.mem_toList_iff.2 (Array.mem_of_getElem? c9)
  have:=List.count_pos_iff.2 N
  omega
 | succ n=>
 refine⟨(fun hr=>absurd (hr▸g8) List.not_mem_nil),fun i z=>?_⟩
 rw[e6 i z]
 unfold wpOpIn
 simp only[M]
 simp only[jg9]at hl
 obtain⟨l,hl,g5⟩:=JT hl
 refine jgt c1 (f5.trans c8) (e9.trans d8) (i1.congr (st':={ jK (fun _=>true) b9 st with nx:=ub+64*(als.take c).length }) rfl rfl rfl rfl rfl) (fun u hu=>f0 u (by rw[d3]at hu;exact hu)) G (by rw[← (XE G).1];exact L ac N) hl (fun x h6=>?_)
 obtain⟨rx,d4,c4⟩:=g5 x h6
 simp only[Option.some.injEq]at d4
 subst d4
 obtain⟨p,hp,d1,e0,d7⟩:=hx _ (c4 _ (List.mem_singleton.2 rfl))
 intro c7 I2 a2 w2 f2 d5 h9 f3
 simp only at hp
 obtain⟨i4,S2⟩:=p
 obtain⟨q,J,rfl⟩:=XD _ _ _ _ _ hp
 simp only at d1 e0 d7
 have c0:(f.setIfInBounds c true).toList.count false≤n:=by
  have hg:f.toList[c]? = some false:=by rw[Array.getElem?_toList];exact c9
  have c6:c<f.toList.length:=by simpa using O
  rw[Array.toList_setIfInBounds,List.count_set c6]
  rw[List.getElem?_eq_getElem c6]at hg
  simp only[Option.some.injEq]at hg
  rw[hg]
  simp only[beq_self_eq_true,if_true]
  have:(true == false)=false:=rfl
  rw[this]
  simp only[Bool.false_eq_true,if_false]
  omega
 have b0:∀i,(f.setIfInBounds c true).getD i false=decide (i≤c):=by
  intro i
  by_cases d2:i=c
  ·subst d2
   simp[O]
  ·rw[getD_set_ne false (Ne.symm d2),hm i]
   exact decide_eq_decide.2 ⟨fun h=>by omega,fun h=>by omega⟩
 have d6:(f.setIfInBounds c true).size=ops.size:=by simpa using f4
 generalize f.setIfInBounds c true=listed2 at *
 -- what is behind it
 have c3:(List.replicate (c+1) jhd++als.drop (c+1)).length=als.length:=by simp;omega
 have i7:q.length=als.length:=J.len.trans c3
 have d0:∀i,i≤c→q[i]? = some (none,{ v:=jq }):=by
  intro i z
  obtain⟨δ,fp,F,h2,h3⟩:=J.at' i jhd (by rw[List.getElem?_append_left (by simp;omega),List.getElem?_replicate,if_pos zO])
  have:δ = { v:=jq }:=by
   obtain⟨h4,_⟩:=Qz h3 rfl
   rcases h4 with⟨_,h4⟩|⟨h4,h5⟩
   ·cases h4;rfl
   ·exact h5
  rw[F,this];rfl
 have T:∀ {β:Type}{π:St→β}{wr:Eff→Bool}{g:Eff→β}(s0:St),(∀ (s:St) (e:Eff),π (s.app e.1 e.2)=if wr e then g e else π s)→wr (none,{ v:=jq })=false →
  π (jK (fun i=>listed2.getD i false) q s0)=π s0:=by
  intro β π wr g s0 f6 hw
  have:=X4 f6 q (fun i=>listed2.getD i false) (fun _=>false) s0 s0 (fun i e he d9=>?_) rfl
  ·rw[this,Xh]
  ·rw[b0]
   by_cases e1:i≤c
   ·rw[d0 i e1]at he
    cases he
    rw[hw]at d9
    cases d9
   ·exact decide_eq_false e1
 have b6:=jy q (fun i=>listed2.getD i false) { x.1 with nx:=x.2 }
 refine je4 (bb:=true) (w0:=w0) (I0:=I0) (kk:=als.length) (al':=List.replicate (c+1) jhd++als.drop (c+1)) (sp:=fun i=>decide (i≤c)) zR c3 (fun i ao z hs h=>?_) (fun i _ h=>d0 i (of_decide_eq_true h))
  (fun j F h2 i h3=>by omega) c1 X B J d1 e0 L (γ:=c7) (I:=I2) (fun i n f e4 I3 a3 w3 g9 _ b8 _ _ e7 _ _ _ _ _ f9=>?_) (fun e4 I3 a3 w3 n f b8 g6 _ _ g4 f7 h8 g2=>?_) n listed2 c7 I2 a2 w2 d6
  (fun j oj g7 K e he hb=>?_) (fun j K=>?_) (fun j K=>?_) c0 ?_ (fun u hu=>d5 u zO) (fun j K u F h2=>d5 u zO) (fun _ _ h=>h) (fun _ _ _ h=>h)
 ·have F:¬ i≤c:=of_decide_eq_false hs
  rw[List.getElem?_append_right (by simp;omega),List.length_replicate,List.getElem?_drop,show c+1+(i - (c+1))=i by omega]
  exact h
 ·obtain⟨h0,o3,g1,_⟩:=mem_ready.1 f9
  have:i<f.size:=by rw[b8];exact(Array.getElem?_eq_some_iff.1 g1).1
  rw[k f i this,e7 i g9]at h0
  cases h0
 ·have hr:Region.ready .any ops f=[]:=by
   cases hr:Region.ready .any ops f with
   | nil=>rfl
   | cons i r=>
    have z:i∈Region.ready .any ops f:=by rw[hr];exact List.mem_cons_self ..
    obtain⟨h0,o,M,_⟩:=mem_ready.1 z
    have f8:i<ops.size:=(Array.getElem?_eq_some_iff.1 M).1
    rw[k f i zO,g6 i,decide_eq_true zO]at h0
    cases h0
  have hQ:=d7 e4 I3 a3 w3 (g4.congr rfl rfl rfl rfl rfl) (fun u hu=>f7 u (by simp only[c3]at hu;exact hu)) (fun u p h=>h8 u p (h9 u p (c8 u p h))) (fun b o x h=>g2 b o x (f3 b o x (d8 b o x h)))
  cases n with
  | zero=>exact⟨hr,hQ⟩
  | succ n=>exact⟨fun _=>hQ,fun i z=>by rw[hr]at z;cases z⟩
 ·simp only[b0,decide_eq_true_eq]at K ⊢
  have:=y j oj g7 e he hb
  omega
 ·rw[b0]
  exact decide_eq_false zO
 ·rw[b0]
  exact K
 ·refine f2.congr (funext fun t=>?_) (funext fun l=>?_) (funext fun u=>?_) ?_ ?_
  ·exact T (π:=fun s=>s.tm t) (wr:=wrT t) (g:=fun e=>e.2.v) _ (Qx t) rfl
  ·exact T (π:=fun s=>s.ob l) (wr:=wrO l) (g:=fun e=>JI (fun _=>none) e.2.obs l) _ (jb4 l) rfl
  ·exact T (π:=fun s=>s.tk u) (wr:=wrK u) (g:=fun e=>e.2.add.contains u) _ (jfj u) rfl
  ·exact b6.2.2.1
  ·exact b6.2.2.2
end
def exOf:Ex→Exit
 | .nrm=>.normal
 | .exit id=>.exit id
 | .ret=>.ret
section
variable {P:Program}{E:Env}{nt:Nat}{call:Y→Callers}
def ju0 (P:Program) (E:Env) (nt:Nat) (call:Y→Callers) (y:Y) (N:Nat) (γ0:Nat→Option Place) (Iy:IMap) (c:Code) (ac:C) (rn:Option Nat):Prop :=
 ∀ (w0:World) (I0:IMap) (Q:Exit→Act→World→Prop) (st:St) (l:List (Ex × St)) (γ:Nat→Option Place) (I:IMap) (a:Act) (w:World),SubG γ0 γ→SubI Iy I →
  jX E call y N ac st=some l→R E w0 I0 nt γ I st a w→(∀u,st.nx≤u→γ u=none)→(∀x∈l,Nice E w0 I0 nt γ I x.2 x.2.nx (fun a w=>Q (exOf x.1) a w))→c.wpIn (FW rn) 0 P Q a w
theorem jro {y:Y}{N:Nat}{γ0 u:Nat→Option Place}{Iy I1:IMap}{asg bd:C}{ca cb:Code}{st:St}{L lb ub:Nat}{rec:Loop}{ps:Array Nat}
 (ha:ju0 P E nt call y N γ0 Iy ca asg (some L)) (hb:ju0 P E nt call y N γ0 Iy cb bd (some L)) (hg:SubG γ0 u) (hI:SubI Iy I1) (hu:u ub=some (.obj L (.lp rec)))
 (d3:∀t,Rep u I1 (rec.tmps.getD t undef) (st.tm t)) (c0:rec.tmps.size=nt) (d0:rec.params=ps) (d5:∀p∈ps.toList,p<nt) (d4:rec.assign=ca) (f1:rec.body=cb) :
 YOk P E u I1 (QU (jX E call y N asg) (jX E call y N bd) st ps.toList lb ub):=by
 intro l' u' args f7 f6 f8 d9 r ob' b5 b6 d
 unfold QU at d
 simp only[Option.ite_none_right_eq_some]at d
 obtain⟨⟨f3,e7,K,b0⟩,d⟩:=d
 subst l'
 subst u'
 split at d
 case h_2=>cases d
 rename_i u1 b8
 simp only[Option.ite_none_right_eq_some]at d
 obtain⟨e7,d⟩:=d
 subst u1
 split at d
 case h_2=>cases d
 rename_i s1 d1
 split at d
 case h_2=>cases d
 rename_i u2 G
 simp only[Option.ite_none_right_eq_some]at d
 obtain⟨f5,d⟩:=d
 subst u2
 split at d
 case h_2=>cases d
 rename_i e s2 c2
 split at d
 case h_2=>cases d
 rename_i u3 F
 simp only[Option.ite_none_right_eq_some]at d
 obtain⟨f2,d⟩:=d
 subst u3
 intro w0 w I0 I γ Z sx b k n X c4 c7 c3 c6 e8 d2 M c8
 rw[n _ _ hu]at c8
 cases c8
 subst c4
 subst c7
 subst c3
 have D:=n _ _ hu
 obtain⟨r0,l,U⟩:=jf4 c6 b8 D
 cases l
 have e4:=run_yield (P:=P) (args:=Z) U (by show Z.size=rec.params.size;rw[d0,d2,K];simp)
 refine⟨_,_,_,_,e4,?_⟩
 simp only[d4,f1]
 have b9:∀p∈ps.toList,p<rec.tmps.size:=by rw[c0];exact d5
 have z:=jin (γ:=γ) (I:=I) ps.toList args Z.toList rec.tmps st.tm (by simpa using d2) K b9 (fun t=>(d3 t).mono n X) (fun j x v f hv=>M j x v (by simpa using f) hv)
 have S:(rec.params.zip Z).foldl (fun tmps (t,a)=>tmps.setIfInBounds t a) rec.tmps=(ps.toList.zip Z.toList).foldl (fun tmps (t,a)=>tmps.setIfInBounds t a) rec.tmps:=by
  rw[d0,← Array.foldl_toList,Array.toList_zip]
 refine roundIn_of_wpIn trivial ?_
 show Code.wpIn (FW (some L)) 0 P _ _ _ _
 have f0:R E w0 I0 nt γ I { tm:=jdh st.tm ps.toList args,ob:=sx.ob,tk:=sx.tk,ro:=sx.ro,nx:=d9,fb:=st.fb,df:=[] } { tmps:=(rec.params.zip Z).foldl (fun tmps (t,a)=>tmps.setIfInBounds t a) rec.tmps,defers:=[] } w:=by
  rw[S]
  exact⟨z.1.trans c0,trivial,z.2,c6.congr rfl rfl rfl⟩
 refine ha w0 I0 _ _ _ γ I _ w (hg.trans n) (hI.trans X) d1 f0 e8 (fun x f=>?_)
 rw[List.mem_singleton]at f
 subst f
 intro c1 I2 a2 w2 i d7 T b7
 -- the round begins
 have g:=T _ _ D
 obtain⟨r0,l,o⟩:=jf4 i.sh G g
 cases l
 have e6:=run_beginRound (P:=P) o rfl
 refine⟨_,e6,?_⟩
 show Code.wpIn (FW (some L)) 0 P _ _ _ _
 have H:s1.ro=sx.ro:=jht _ d1 _ (List.mem_singleton.2 rfl)
 have c5:=i.sh.turn (ob':=upd s1.ob lb (some ⟨ub,.loop .busy none⟩)) (o':=.loop { rec with state:=.busy,pending:=none }) G g (by rw[H];exact b0) (fun l2 x f=>by
  rw[j2]at f
  split at f
  ·rename_i O;subst O;cases f;exact .inr ⟨rfl,rfl,⟨rec,rfl,rfl⟩,fun _ _ h=>by cases h⟩
  ·rename_i O;exact .inl ⟨O,f⟩)
 have d8:R E w0 I0 nt c1 I2 { s1 with ob:=upd s1.ob lb (some ⟨ub,.loop .busy none⟩) } a2 (w2.putObj L (.loop { rec with state:=.busy,pending:=none })):=⟨i.sz,i.df,i.tm,c5⟩
 refine hb w0 I0 _ _ _ c1 I2 _ _ ((hg.trans n).trans T) ((hI.trans X).trans b7) c2 d8 d7 (fun x f=>?_)
 rw[List.mem_singleton]at f
 subst f
 intro e9 I3 a3 w3 a0 e0 c9 d6
 have m:=c9 _ _ g
 obtain⟨r0,l,q⟩:=jf4 a0.sh F m
 cases l
 have J:s2.ro=sx.ro:=(jht _ c2 _ (List.mem_singleton.2 rfl)).trans H
 -- the round ends
 have Q:∀ (c:Option Ex) (s:LS),lsOf s=(if (c.map QZ).isNone then .ready else .done)→some (V.bool (c.map QZ).isNone,upd s2.ob lb (some ⟨ub,.loop s c⟩),s2.tk,s2.nx)=some (r,ob',b5,b6) →
  ∃v w',(Instr.endRound L (c.map QZ)).run P w3=.ok v w'∧W3 E w0 I0 γ I sx.ro r ob' b5 b6 (.returned v) w':=by
  intro c s hs he
  cases he
  have e5:=run_endRound (P:=P) (c.map QZ) q
  refine⟨_,_,e5,.bool (c.map QZ).isNone,e9,I3,rfl,fun f4 e1 e2 e3=>?_,.pure _ _ (.bool _),SubG.trans T c9,SubI.trans b7 d6,e0⟩
  have B:=a0.sh.turn (ob':=upd s2.ob lb (some ⟨ub,.loop s c⟩)) (o':=.loop { rec with state:=lsOf s,pending:=c.map QZ }) F m (by rw[J];exact b0) (fun l2 x f=>by
   rw[j2]at f
   split at f
   ·rename_i O;subst O;cases f;exact .inr ⟨rfl,rfl,⟨rec,rfl,rfl⟩,fun _ _ h=>by cases h⟩
   ·rename_i O;exact .inl ⟨O,f⟩)
  rw[hs]at B
  exact B.congr e1 e2 (e3.trans J.symm)
 cases e with
 | nrm=>exact Q none .ready rfl d
 | ret=>exact Q (some .ret) .done rfl d
 | exit id=>exact Q (some (.exit id)) .done rfl d
theorem Qb {l:List AOpr}{n:Nat}(h:(l.all fun o=>match o.dst with|some d=>Nat.blt d n|none=>true)=true):∀b∈l,∀d,b.dst=some d→d<n:=by
 intro b c d a
 have:=List.all_eq_true.1 h b c
 simp only[a]at this
 simpa[Nat.blt_eq] using this
theorem Ya (ops:Array Oper):∀n,jo ops n≤n∧∀j,jo ops n≤j→j<n→∀i,i<j→((J6 ops.toList []).getD j 0).testBit i=true
 | 0=>⟨zR,fun j _ h=>by omega⟩
 | n+1=>by
  obtain⟨g,f⟩:=Ya ops n
  have e:jo ops (n+1)=if (List.range n).all fun i=>((J6 ops.toList []).getD n 0).testBit i then jo ops n else n+1:=by
   unfold jo
   rw[List.range_succ,List.foldl_append]
   rfl
  rw[e]
  split
  ·rename_i b
   refine⟨zO,fun j c a i d=>?_⟩
   rcases Nat.lt_succ_iff_lt_or_eq.1 a with h|rfl
   ·exact f j c h i d
   ·exact List.all_eq_true.1 b i (List.mem_range.2 d)
  ·exact⟨zR,fun j c a=>by omega⟩
theorem jg0 (ops:Array Oper) (n:Nat):jo ops n≤n:=(Ya ops n).1
theorem jdi (ops:Array Oper) (n:Nat):∀j,jo ops n≤j→j<n→∀i,i<j→((J6 ops.toList []).getD j 0).testBit i=true:=(Ya ops n).2
theorem jr8 {b:Type}{x:Option (List b)}{a:b}(h:only x=some a):x=some [a]:=by
 unfold only at h
 split at h
 ·cases h;rfl
 ·cases h
theorem jl6 (hm:P.follows .mixedOrders=true) (c7:jkm P E call) (N:Nat) {y:Y}{γ0:Nat→Option Place}{Iy:IMap}(hy:YOk P E γ0 Iy y) :
 ∀ (c:Code) (ac:C) (m r:Bool) (rn:Option Nat),(r=true∨rn=none)→comp P m r c=some ac→ac.dstOk nt=true→ju0 P E nt call y N γ0 Iy c ac rn:=by
 intro c
 induction c with
 | skip=>
  intro ac m r rn K F T w0 I0 Q b l γ I a w H G D O Z X
  cases F
  cases D
  exact wpIn_skip (X _ (List.mem_singleton.2 rfl) γ I a w O Z (fun _ _ h=>h) (fun _ _ _ h=>h))
 | ret=>
  intro ac m r rn K F T w0 I0 Q b l γ I a w H G D O Z X
  cases F
  cases D
  exact wpIn_ret (X _ (List.mem_singleton.2 rfl) γ I a w O Z (fun _ _ h=>h) (fun _ _ _ h=>h))
 | exit id=>
  intro ac m r rn K F T w0 I0 Q b l γ I a w H G D O Z X
  cases F
  cases D
  exact wpIn_exit (X _ (List.mem_singleton.2 rfl) γ I a w O Z (fun _ _ h=>h) (fun _ _ _ h=>h))
 | region id J drawn=>
  intro ac m r rn K F T w0 I0 Q b l γ I a w H G D O Z X
  cases drawn with
  | false=>
   simp only[comp]at F
   obtain⟨B,a0,rfl⟩:=map_some F
   simp only[jX]at D
   obtain⟨d9,c3,rfl⟩:=map_some D
   exact wpIn_region_list (jr6 (c7 _ _ _ hy) _ B a0 (Qb T) γ I b a w b.nx d9 H G O Z c3 (fun c2 c5=>X _ (List.mem_map.2 ⟨c2,c5,rfl⟩)))
  | true=>
   simp only[comp]at F
   obtain⟨B,a0,F⟩:=map_some F
   split at F
   case h_2=>subst F;cases D
   rename_i o0 b6
   obtain⟨g1,_⟩:=ju a0
   have g1:B.length=J.size:=by rw[g1,Array.length_toList]
   have U:∀i d,(Array.replicate J.size false).getD i d=if i<J.size then false else d:=by
    intro i d
    by_cases hi:i<J.size <;> simp[hi]
   split at F
   ·generalize hk:jo J B.length=k at F
    have k8:k≤B.length:=hk▸jg0 J B.length
    have f1:∀j,k≤j→j<J.size→∀i,i<j→((J6 J.toList []).getD j 0).testBit i=true:=fun j h1 h2=>jdi J B.length j (by rw[hk];exact h1) zO
    split at F
    ·rename_i c b9
     obtain⟨_,b9⟩:=Option.filter_eq_some_iff.1 b9
     have o4:c+1<k:=by
      unfold jwi at b9
      simp only[Bool.and_eq_true,Nat.blt_eq]at b9
      exact b9.1.1.1
     have b8:=List.getElem?_eq_getElem (show c<B.length by omega)
     have g3:B.getD c jhd=B[c]' zO:=by rw[List.getD_eq_getElem?_getD,b8];rfl
     subst F
     rw[g3]at D T
     generalize B[c]' zO=d8 at *
     simp only[jX]at D
     obtain⟨l1,h1,h2⟩:=JT D
     obtain⟨⟨e8,S⟩,c3,h1⟩:=bind_some h1
     simp only[Option.ite_none_right_eq_some,Option.some.injEq]at h1
     obtain⟨M,rfl⟩:=h1
     rw[Bool.and_eq_true]at M
     obtain⟨rx,h3,h4⟩:=h2 _ (List.mem_singleton.2 rfl)
     simp only at h3
     obtain⟨l2,h5,h6⟩:=JT h3
     obtain⟨l3,h7,h8⟩:=JT h5
     have e0:∀ao∈B,∀d,ao.dst=some d→d<nt:=by
      simp only[C.dstOk,Bool.and_eq_true]at T
      obtain⟨d1,d2,d3⟩:=T
      intro ao d7
      obtain⟨i,hi,rfl⟩:=List.getElem_of_mem d7
      by_cases l7:i<k
      ·by_cases c9:i=c
       ·subst c9
        have:B[i]=d8:=by rw[List.getElem?_eq_getElem hi]at b8;simpa using b8
        rw[this]
        exact Qb d2 d8 (List.mem_cons_self ..)
       ·refine Qb d1 _ (List.mem_of_getElem? (i:=i) ?_)
        rw[List.getElem?_set_ne (Ne.symm c9),List.getElem?_take,if_pos l7,List.getElem?_eq_getElem hi]
      ·refine Qb d3 _ (List.mem_of_getElem? (i:=i - k) ?_)
       rw[List.getElem?_drop,show k+(i - k)=i by omega,List.getElem?_eq_getElem hi]
     refine wpIn_region_any hm (j5z (w0:=w0) (I0:=I0) k8 f1 b9 b8 (c7 _ _ _ hy) H G a0 b6 e0 c3 M.1 M.2 h7 (fun x hx=>?_) (O.drawn _) Z)
     obtain⟨o3,h9,m3⟩:=h8 x hx
     obtain⟨p,hp,k3⟩:=bind_some h9
     simp only[Option.ite_none_right_eq_some,Option.some.injEq]at k3
     obtain⟨g5,rfl⟩:=k3
     obtain⟨m5,e6,i0⟩:=h6 _ (m3 _ (List.mem_singleton.2 rfl))
     simp only at e6
     obtain⟨d9,c4,rfl⟩:=map_some e6
     exact⟨p,d9,hp,g5,c4,fun c2 c5=>X _ (h4 _ (i0 _ (List.mem_map.2 ⟨c2,c5,rfl⟩)))⟩
    subst F
    simp only[jX]at D
    obtain⟨l1,h1,h2⟩:=JT D
    obtain⟨⟨e8,c2⟩,c3,h1⟩:=bind_some h1
    simp only[Option.ite_none_right_eq_some,Option.some.injEq]at h1
    obtain⟨M,rfl⟩:=h1
    rw[Bool.and_eq_true]at M
    obtain⟨M,g9⟩:=M
    obtain⟨rx,h3,h4⟩:=h2 _ (List.mem_singleton.2 rfl)
    simp only at h3
    obtain⟨d9,c4,rfl⟩:=map_some h3
    obtain⟨d5,g8,rfl⟩:=XD (B.take k) b b.nx e8 c2 c3
    have e0:∀ao∈B,∀d,ao.dst=some d→d<nt:=by
     simp only[C.dstOk,Bool.and_eq_true]at T
     intro ao d7
     rw[← List.take_append_drop k B]at d7
     rcases List.mem_append.1 d7 with h|h
     ·exact Qb T.1 ao h
     ·exact Qb T.2 ao h
    have e4:jK (fun i=>(Array.replicate J.size false).getD i false) d5 b=b:=by
     have:(fun i=>(Array.replicate J.size false).getD i false)=fun _=>false:=funext fun i=>by rw[U];split <;> rfl
     rw[this]
     exact Xh _ _
    have k0:(B.take k).length=k:=by rw[List.length_take];omega
    refine wpIn_region_any hm (je4 (bb:=false) (w0:=w0) (I0:=I0) (kk:=k) (al':=B.take k) (sp:=fun _=>false) k8 k0 (fun i ao hi _ h=>by rw[List.getElem?_take,if_pos hi];exact h) (fun _ _ h=>by cases h) (fun j h1 h2 i h3=>f1 j h1 h2 i zO) (c7 _ _ _ hy) a0 b6 g8 M g9 e0 (γ:=γ) (I:=I) (fun _ _ _ _ _ _ _ h=>by cases h) (fun c1 I' a' w' i6 f4 l9 g7 _ i4 d0 c6 hg hI=>?_) J.size (Array.replicate J.size false) γ I a _ zS ?_ ?_ (fun _ h=>by cases h) ?_ ?_ ?_ ?_ (fun _ _ h=>h) (fun _ _ _ h=>h))
    ·exact jiq f1 (c7 _ _ _ hy) a0 b6 e0 (J.size - k) k zR zO i6 f4 c1 I' { jK (fun _=>true) d5 b with nx:=b.nx+64*(B.take k).length } a' w' (b.nx+64*(B.take k).length) d9 l9 g7 i4 (H.trans hg) (G.trans hI) (d0.congr rfl rfl rfl rfl rfl) (fun u hu=>c6 u (by rw[k0]at hu;exact hu)) c4
      (fun c2 c5=>(X _ (h4 _ (List.mem_map.2 ⟨c2,c5,rfl⟩))).weaken hg hI)
    ·intro j o ho hj
     simp only[U]at hj
     split at hj <;> cases hj
    ·intro j hj
     rw[U];split <;> rfl
    ·simp
    ·rw[e4]
     exact O.drawn _
    ·intro u hu
     exact Z u zO
    ·intro j hj u h1 h2
     exact Z u zO
   split at F
   ·rename_i c b7
    have b7:jsu J B c=true:=by
     cases m with
     | false=>cases b7
     | true=>
      obtain⟨_,b7⟩:=Option.filter_eq_some_iff.1 b7
      exact b7
    have i5:∃ac,B[c]? = some ac:=by
     have h:=b7
     unfold jsu at h
     cases h0:B[c]? with
     | none=>simp[h0]at h
     | some ac=>exact⟨ac,rfl⟩
    obtain⟨d8,b8⟩:=i5
    have o1:c<B.length:=(List.getElem?_eq_some_iff.1 b8).1
    have g3:B.getD c jhd=d8:=by rw[List.getD_eq_getElem?_getD,b8];rfl
    subst F
    rw[g3]at D T
    simp only[jX]at D
    obtain⟨l1,h1,h2⟩:=JT D
    obtain⟨⟨e8,S⟩,c3,h1⟩:=bind_some h1
    simp only[Option.ite_none_right_eq_some,Option.some.injEq]at h1
    obtain⟨M,rfl⟩:=h1
    rw[Bool.and_eq_true]at M
    obtain⟨rx,h3,h4⟩:=h2 _ (List.mem_singleton.2 rfl)
    simp only at h3
    obtain⟨l2,h5,h6⟩:=JT h3
    obtain⟨d9,c4,rfl⟩:=map_some h5
    have e0:∀ao∈B,∀d,ao.dst=some d→d<nt:=by
     simp only[C.dstOk,Bool.and_eq_true]at T
     obtain⟨d1,d2,d3⟩:=T
     intro ao d7
     obtain⟨i,hi,rfl⟩:=List.getElem_of_mem d7
     rcases Nat.lt_trichotomy i c with c9|c9|c9
     ·refine Qb d1 _ (List.mem_of_getElem? (i:=i) ?_)
      rw[List.getElem?_take,if_pos c9,List.getElem?_eq_getElem hi]
     ·subst c9
      have:B[i]=d8:=by rw[List.getElem?_eq_getElem hi]at b8;simpa using b8
      rw[this]
      exact Qb d2 d8 (List.mem_cons_self ..)
     ·refine Qb d3 _ (List.mem_append_right _ (List.mem_of_getElem? (i:=i - (c+1)) ?_))
      rw[List.getElem?_drop,show c+1+(i - (c+1))=i by omega,List.getElem?_eq_getElem hi]
    refine wpIn_region_any hm (mid_ok (w0:=w0) (I0:=I0) b7 b8 (c7 _ _ _ hy) H G a0 b6 e0 c3 M.1 M.2 c4 (fun s1 n6=>?_) (O.drawn _) Z)
    obtain⟨m5,e6,i0⟩:=h6 _ (List.mem_map.2 ⟨s1,n6,rfl⟩)
    simp only at e6
    obtain⟨⟨k4,S2⟩,k6,l0⟩:=bind_some e6
    simp only[Option.ite_none_right_eq_some,Option.some.injEq]at l0
    obtain⟨e9,rfl⟩:=l0
    rw[Bool.and_eq_true]at e9
    exact⟨(k4,S2),k6,e9.1,e9.2,X _ (h4 _ (i0 _ (List.mem_singleton.2 rfl)))⟩
   subst F
   simp only[jX]at D
   obtain⟨⟨e8,c2⟩,c3,D⟩:=bind_some D
   simp only[Option.ite_none_right_eq_some,Option.some.injEq]at D
   obtain⟨M,rfl⟩:=D
   rw[Bool.and_eq_true]at M
   obtain⟨M,g9⟩:=M
   obtain⟨d5,g8,rfl⟩:=XD B b b.nx e8 c2 c3
   have e4:jK (fun i=>(Array.replicate J.size false).getD i false) d5 b=b:=by
    have:(fun i=>(Array.replicate J.size false).getD i false)=fun _=>false:=funext fun i=>by rw[U];split <;> rfl
    rw[this]
    exact Xh _ _
   refine wpIn_region_any hm (any_ok (w0:=w0) (I0:=I0) (c7 _ _ _ hy) a0 b6 g8 M g9 (Qb T) (γ:=γ) (I:=I) (fun c1 I' a' w' d0 c6 hg hI=>?_) J.size (Array.replicate J.size false) γ I a _ zS ?_ ?_ ?_ ?_ ?_ (fun _ _ h=>h) (fun _ _ _ h=>h))
   ·exact X _ (List.mem_singleton.2 rfl) c1 I' a' w' (d0.congr rfl rfl rfl rfl rfl) c6 hg hI
   ·intro j o ho hj
    simp only[U]at hj
    split at hj <;> cases hj
   ·simp
   ·rw[e4]
    exact O.drawn _
   ·intro u hu
    exact Z u zO
   ·intro j hj u h1 h2
    exact Z u zO
 | seq x z i1 g6=>
  intro ac m r rn K F T w0 I0 Q b l γ I a w H G D O Z X
  simp only[comp]at F
  obtain⟨ax,hx,F⟩:=bind_some F
  obtain⟨az,hz,rfl⟩:=map_some F
  simp only[C.dstOk,Bool.and_eq_true]at T
  simp only[jX]at D
  obtain⟨l1,h1,h2⟩:=JT D
  refine wpIn_seq (i1 ax m r rn K hx T.1 w0 I0 _ b l1 γ I a w H G h1 O Z (fun p hp=>?_))
  obtain⟨e,s⟩:=p
  obtain⟨rx,h3,h4⟩:=h2 _ hp
  cases e with
  | nrm=>
   intro c1 I' a' w' d0 c6 hg hI
   exact g6 az m r rn K hz T.2 w0 I0 Q s rx c1 I' a' w' (H.trans hg) (G.trans hI) h3 d0 c6 (fun p hp=>(X p (h4 p hp)).weaken hg hI)
  | exit i=>
   simp only[Option.some.injEq]at h3
   subst h3
   exact X _ (h4 _ (List.mem_singleton.2 rfl))
  | ret=>
   simp only[Option.some.injEq]at h3
   subst h3
   exact X _ (h4 _ (List.mem_singleton.2 rfl))
 | cond q x z i1 g6=>
  intro ac m r rn K F T w0 I0 Q b l γ I a w H G D O Z X
  simp only[comp]at F
  obtain⟨aq,hq,F⟩:=bind_some F
  obtain⟨ax,hx,F⟩:=bind_some F
  obtain⟨az,hz,rfl⟩:=map_some F
  simp only[C.dstOk,Bool.and_eq_true]at T
  have U:=jA O hq
  have hv:∀t,eval E b.tm aq=.bool t→a.eval q=.bool t:=by
   intro t ht
   rw[ht]at U
   exact XB U
  simp only[jX]at D
  split at D
  ·rename_i hb
   exact wpIn_cond_true (hv _ hb) (i1 ax m r rn K hx T.1 w0 I0 Q b l γ I a w H G D O Z X)
  ·rename_i hb
   exact wpIn_cond_false (hv _ hb) (g6 az m r rn K hz T.2 w0 I0 Q b l γ I a w H G D O Z X)
  ·cases D
 | block id x ih=>
  intro ac m r rn K F T w0 I0 Q b l γ I a w H G D O Z X
  simp only[comp]at F
  obtain⟨ax,hx,rfl⟩:=map_some F
  simp only[jX]at D
  obtain⟨l1,h1,rfl⟩:=map_some D
  refine wpIn_block (ih ax m r rn K hx T w0 I0 _ b l1 γ I a w H G h1 O Z (fun p hp=>?_))
  have:=X _ (List.mem_map.2 ⟨p,hp,rfl⟩)
  obtain⟨e,s⟩:=p
  cases e with
  | nrm=>exact this
  | ret=>exact this
  | exit i=>
   simp only[exOf,Exit.inBlock]
   by_cases hi:i=id
   ·simp only[hi,if_true]at this ⊢
    exact this
   ·simp only[hi,if_false]at this ⊢
    exact this
 | loop x ih=>
  intro ac m r rn K F T w0 I0 Q b l γ I a w H G D O Z X
  simp only[comp]at F
  obtain⟨ax,hx,rfl⟩:=map_some F
  simp only[jX]at D
  have m7:∀ (n:Nat) (b:St) (l:List (Ex × St)) (γ:Nat→Option Place) (I:IMap) (a:Act) (w:World),SubG γ0 γ→SubI Iy I→jao (jX E call y N ax) n b=some l→R E w0 I0 nt γ I b a w→(∀u,b.nx≤u→γ u=none) →
   (∀x∈l,Nice E w0 I0 nt γ I x.2 x.2.nx (fun a w=>Q (exOf x.1) a w))→Code.roundsIn (FW rn) 0 P x Q n a w:=by
   intro n
   induction n with
   | zero=>intro b l γ I a w _ _ D;cases D
   | succ n n0=>
    intro b l γ I a w H G D O Z X
    simp only[jao]at D
    obtain⟨l1,h1,h2⟩:=JT D
    rw[roundsIn_succ]
    refine ih ax m r rn K hx T w0 I0 _ b l1 γ I a w H G h1 O Z (fun p hp=>?_)
    obtain⟨e,s⟩:=p
    obtain⟨rx,h3,h4⟩:=h2 _ hp
    cases e with
    | nrm=>
     intro c1 I' a' w' d0 c6 hg hI
     exact n0 s rx c1 I' a' w' (H.trans hg) (G.trans hI) h3 d0 c6 (fun p hp=>(X p (h4 p hp)).weaken hg hI)
    | exit i=>
     simp only[Option.some.injEq]at h3
     subst h3
     exact X _ (h4 _ (List.mem_singleton.2 rfl))
    | ret=>
     simp only[Option.some.injEq]at h3
     subst h3
     exact X _ (h4 _ (List.mem_singleton.2 rfl))
  exact wpIn_loop_rounds N (m7 N b l γ I a w H G D O Z X)
 | rangeFunc f ps ca cb m4 n3=>
  intro ac m r rn K F T w0 I0 Q b l γ I a w H G D O Z X
  cases r with
  | true=>cases F;cases D
  | false=>
  have K:rn=none:=K.resolve_left zS
  subst K
  simp only[comp,cond_false]at F
  obtain⟨af,n2,F⟩:=bind_some F
  obtain⟨i7,n4,F⟩:=bind_some F
  obtain⟨bd,m9,rfl⟩:=map_some F
  simp only[C.dstOk,Bool.and_eq_true]at T
  obtain⟨⟨m0,n5⟩,m1⟩:=T
  simp only[jX]at D
  split at D
  case h_2=>cases D
  rename_i g first i2 n1
  obtain⟨⟨rv,ob,tk,ub⟩,c8,D⟩:=bind_some D
  have c8:=jr8 c8
  have k2:=jA O n2
  rw[n1]at k2
  obtain⟨fx,cx,m6,s1,s2,s3,s4⟩:=jb7 k2
  -- the two blocks
  refine wpIn_rangeFunc (fun fn _=>?_)
  have f7:γ (b.nx+1)=none:=Z _ zO
  have k9:=O.sh.alloc (d:=2*b.nx+3) f7 (obj:=.deferred (some [])) (body:=.dfr) (k:=.n 0) rfl
  have f0:(upd γ (b.nx+1) (some (.obj w.heap.size (.n 0)))) b.nx=none:=by
   rw[J7 _ _ zO]
   exact Z _ zR
  generalize b5:({ state:=.ready,pending:=none,fn,tmps:=a.tmps,params:=ps,assign:=ca,body:=cb,defers:=w.heap.size }:Loop)=rec
  have g0:=k9.alloc (d:=2*b.nx+1) f0 (obj:=.loop rec) (body:=.loop .ready none) (k:=.lp rec) ⟨rec,rfl,by rw[← b5];rfl⟩
  generalize d4:upd (upd γ (b.nx+1) (some (.obj w.heap.size (.n 0)))) b.nx (some (.obj (w.alloc (.deferred (some []))).heap.size (.lp rec)))=γ1 at g0
  have b0:SubG γ γ1:=by
   rw[← d4]
   exact SubG.trans (W8 f7) (W8 f0)
  have e5:γ1 b.nx=some (.obj (w.heap.size+1) (.lp rec)):=by rw[← d4];simp
  have i3:γ1 (b.nx+1)=some (.obj w.heap.size (.n 0)):=by rw[← d4,J7 _ _ zO];simp
  have m2:∀p∈ps.toList,p<nt:=fun p hp=>by
   have:=List.all_eq_true.1 m0 p hp
   simpa[Nat.blt_eq] using this
  have n7:YOk P E γ1 I (QU (jX E call y N i7) (jX E call y N bd) b ps.toList (2*b.nx+1) b.nx) :=
   jro (L:=w.heap.size+1) (rec:=rec) (ca:=ca) (cb:=cb) (ps:=ps) (m4 i7 m true (some (w.heap.size+1)) (.inl rfl) n4 n5) (n3 bd m true (some (w.heap.size+1)) (.inl rfl) m9 m1) (H.trans b0) G e5
    (fun t=>by rw[← b5];exact(O.tm t).mono b0 (fun _ _ _ h=>h)) (by rw[← b5];exact O.sz) (by rw[← b5]) m2 (by rw[← b5]) (by rw[← b5])
  obtain⟨l5,k1⟩:=(c7 γ1 I _ n7).s _ _ _ _ _ _ _ _ c8
  obtain⟨o2,cc,e1,e2,e3⟩:=l5
  have n8:=jb1 (P:=P) (w:=(w.alloc (.deferred (some []))).alloc (.loop rec)) e1 e2 e3
  have g2:Rep γ1 I (.func (.yield (w.heap.size+1)) #[] #[]) (.yld (2*b.nx+1) b.nx):=.yld _ _ _ _ e5
  obtain⟨t1,t2⟩:=QM (γ:=γ1) (I:=I) (xs:=fx) (ys:=#[.func (.yield (w.heap.size+1)) #[] #[]]) (us:=first) (vs:=[.yld (2*b.nx+1) b.nx]) s1 rfl (fun j x v hx hv=>(s3 j x v hx hv).mono b0 (fun _ _ _ h=>h)) (fun j x v hx hv=>by
   match j with
   | 0=>simp at hx hv;subst hx;subst hv;exact g2
   | j+1=>simp at hv)
  obtain⟨u1,u2⟩:=QM (γ:=γ1) (I:=I) t1 s2 t2 (fun j x v hx hv=>(s4 j x v hx hv).mono b0 (fun _ _ _ h=>h))
  have l4:∀u,b.nx+64≤u→γ1 u=none:=by
   intro u hu
   rw[← d4,J7 _ _ zO,J7 _ _ zO]
   exact Z _ zO
  have f5:=k1 w0 _ I0 I γ1 _ { b with ob:=upd (upd b.ob (2*b.nx+3) (some ⟨b.nx+1,.dfr⟩)) (2*b.nx+1) (some ⟨b.nx,.loop .ready none⟩) } (SubG.refl _) (SubI.refl _) rfl rfl rfl g0 l4 u1 u2
  have f6:=run_enterLoop_outer (P:=P) (w:=w) fn a.tmps ps ca cb
  rw[b5]at f6
  refine⟨_,_,_,{ target:=.fn (.func g) cx,args:=fx++#[.func (.yield (w.heap.size+1)) #[] #[]] },(w.alloc (.deferred (some []))).alloc (.loop rec),g,fx++#[.func (.yield (w.heap.size+1)) #[] #[]]++cx,(w.alloc (.deferred (some []))).alloc (.loop rec),f6,?_,fun _ _=>trivial,?_,(fun h=>by cases h),?_⟩
  ·have f3:Array.map a.eval #[Operand.const (.func (.yield (w.heap.size+1)) #[] #[])] = #[.func (.yield (w.heap.size+1)) #[] #[]]:=by simp[Act.eval]
   simp only[resolve,m6,Deferred.ofValue,Sem.run_pure,f3]
  ·simp only[invoke]
   exact n8 _
  ·refine jul (Calls.mono f5 fun e w3 he=>?_)
   obtain⟨_,f3,he⟩:=he
   rw[List.mem_singleton]at f3
   subst f3
   obtain⟨x,c1,I',rfl,n9,U,e7,k7,k5⟩:=he
   simp only at D
   split at D
   case h_2=>cases D
   rename_i u s d6 f8
   simp only[Option.ite_none_right_eq_some,Option.some.injEq]at D
   obtain⟨⟨rfl,o5,m8⟩,rfl⟩:=D
   have f2:=e7 _ _ e5
   have f9:=n9 { b with ob:=ob,tk:=tk } rfl rfl rfl
   obtain⟨r0,l8,g4⟩:=jf4 f9 f8 f2
   cases l8
   have l6:lsOf s≠.busy:=by cases s <;> simp_all [lsOf]
   have i8:=run_endLoop (P:=P) g4 l6
   have i9:=f9.turn (ob':=fun k=>if Nat.beq (2*b.nx+1) k then none else ob k) (o':=.loop { rec with state:=.exhausted,pending:=d6.map QZ }) f8 f2 m8 (fun l2 x hx=>by
    split at hx
    ·cases hx
    ·rename_i h2;exact .inl ⟨fun e=>h2 (by rw[e];exact Nat.beq_refl _),hx⟩)
   refine⟨d6.map QZ,_,i8,?_⟩
   have c0:=X _ (List.mem_singleton.2 rfl) c1 I' { tmps:=a.tmps,defers:=[{ target:=.collected w.heap.size,args:=#[] }]++a.defers } (w3.putObj (w.heap.size+1) (.loop { rec with state:=.exhausted,pending:=d6.map QZ }))
    ⟨O.sz,⟨⟨w.heap.size,.n 0,rfl,e7 _ _ i3⟩,(O.df.mono b0).mono e7⟩,fun t=>(O.tm t).mono (b0.trans e7) k7,i9.congr rfl rfl rfl⟩ k5 (b0.trans e7) k7
   cases d6 with
   | none=>exact c0
   | some e=>
    cases e with
    | nrm=>exact wpIn_skip c0
    | ret=>exact wpIn_ret c0
    | exit i=>exact wpIn_exit c0
 | _=>
  intro ac m r rn K F T w0 I0 Q b l γ I a w H G D
  cases F
  cases D
end
end Go.Pv
