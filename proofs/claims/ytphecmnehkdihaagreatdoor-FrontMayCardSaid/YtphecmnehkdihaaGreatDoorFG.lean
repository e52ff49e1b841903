/- The laid variables read as the interpreter has them; a call that answers true. -/
import Derived.Test.YtphecmnehkdihaaGreatDoorFF
import Derived.ChangeSame
set_option maxRecDepth 100000
namespace Go.Pv.T
open Go Go.Pv Go.Proofs Go.ChangeShapes Go.WideShapes Go.ChangeAt Go.RowKit Go.Proofs.YtphecmnehkdihaaGreatDoor
theorem jx5      {W:World} {t e:TypeId} {n fuel:Nat} {cs:List Value} {ds:List (DataW Unit)} {p:List MemPlace} {f0 f1:Field} {k0 k1:IntKind} (ht:Tryz.prog.underlying t=some (.array n e)) (hc:Tryz.prog.cellsOf e=2)
    (he:Tryz.prog.underlying e=some (.struct #[f0,f1])) (o0:f0.offset=0) (o1:f1.offset=1) (c0:Tryz.prog.cellsOf f0.type=1) (c1:Tryz.prog.cellsOf f1.type=1)
    (u0:Tryz.prog.underlying f0.type=some (.int k0)) (u1:Tryz.prog.underlying f1.type=some (.int k1)) (h:DataW.trod (fun _=>()) Tryz.prog W 0 (fun _=>true) false fuel t cs=some (.agg ds,p)) (I:IMap) :
    ∀ (j:Nat) (d:DataW Unit),(ds.map aggOf).flatten[j]? = some d→∃ x,cs[j]? = some x∧RepP I x (jj0 d):=by
  obtain ⟨xs,m,rfl,hx,hlen,hn,hel⟩:=DataW.trod_array ht h
  simp only [Prod.mk.injEq,DataW.agg.injEq] at hx
  have one:∀ (l:List Value) (j:Nat) c,(l.drop j).take 1=[c]→l[j]? = some c:=by
    intro l j c hcc
    have:=congrArg List.head? hcc
    simpa [List.head?_take,List.head?_drop] using this
  have each:∀ (j:Nat) (y:DataW Unit × List MemPlace),xs[j]? = some y→∃ d0 d1 x0 x1,y.1 = .agg [d0,d1]∧cs[j * 2]? = some x0∧RepP I x0 (jj0 d0)∧cs[j * 2+1]? = some x1∧RepP I x1 (jj0 d1):=by
    intro j y hy
    have hj:j<n:=by rw [← hn];exact (List.getElem?_eq_some_iff.1 hy).1
    have h2:=hel j hj
    rw [hc,hy] at h2
    obtain ⟨y0,y1,m',e1,hl2,g0,g1⟩:=trod_struct2 he h2
    rw [o0,c0] at g0
    rw [o1,c1] at g1
    obtain ⟨z0,a0,b0,_⟩:=DataW.trod_int u0 g0
    obtain ⟨z1,a1,b1,_⟩:=DataW.trod_int u1 g1
    have q0:=one _ _ _ a0
    have q1:=one _ _ _ a1
    rw [List.getElem?_take,if_pos (by omega),List.getElem?_drop] at q0 q1
    refine ⟨y0.1,y1.1,_,_,by rw [e1],by simpa using q0,?_,q1,?_⟩
    · rw [b0];exact RepP.int k0 z0
    · rw [b1];exact RepP.int k1 z1
  have hds:ds=xs.map (·.1):=hx.1
  have len2:∀ e∈ds.map aggOf,e.length=2:=by
    intro e he
    rw [hds,List.map_map] at he
    obtain ⟨y,hy,rfl⟩:=List.mem_map.1 he
    obtain ⟨j,hj⟩:=List.getElem?_of_mem hy
    obtain ⟨d0,d1,x0,x1,e,_⟩:=each j y hj
    simp only [Function.comp,e,aggOf,List.length_cons,List.length_nil]
  intro k d hd
  rw [jhd (by decide) _ len2] at hd
  rw [hds,List.map_map,List.getElem?_map] at hd
  cases hy:xs[k / 2]? with
  | none=>rw [hy] at hd;cases hd
  | some y =>
    rw [hy] at hd
    obtain ⟨d0,d1,x0,x1,e,g0,r0,g1,r1⟩:=each _ y hy
    simp only [Option.map_some,Option.bind_some,Function.comp,e,aggOf] at hd
    rcases Nat.mod_two_eq_zero_or_one k with hk | hk
    · rw [hk] at hd
      cases hd
      rw [show k / 2 * 2=k from by omega] at g0
      exact ⟨x0,g0,r0⟩
    · rw [hk] at hd
      cases hd
      rw [show k / 2 * 2+1=k from by omega] at g1
      exact ⟨x1,g1,r1⟩
def accD:List (DataW Unit):=((aggOf Rows.laid_unicode_utf8_acceptRanges).map aggOf).flatten
theorem gAcc:Tryz.prog.globalNamed "unicode/utf8.acceptRanges" = some 3:=by kernel_rfl
theorem acc_eq:accD.map jj0=accR:=by kernel_rfl
theorem j3d:Rows.laid_unicode_utf8_acceptRanges = .agg (aggOf Rows.laid_unicode_utf8_acceptRanges):=by kernel_rfl
theorem jx8:(accD.map jj0).all V.pureLeaf=true:=by kernel_rfl
theorem tAcc:(Tryz.prog.globals[3]?).map (·.type)=some 322:=by kernel_rfl
theorem glOk {W:World} (h:laidMetH Tryz.prog jo0 W):GlOk E (Xv W):=by
  rw [MakeChecks.laidMetH_plain _ _ _ (by kernel_rfl)] at h
  obtain ⟨ps,⟨g3,t3,cs3,f3,p3,q3,hg3,ht3,hv3,hd3,⟨g2,t2,cs2,f2,p2,q2,hg2,ht2,hv2,hd2,⟨g0,t0,cs0,f0,p0,q0,hg0,ht0,hv0,hd0,⟨g1,t1,cs1,f1,p1,q1,hg1,ht1,hv1,hd1,_,_⟩,_⟩,_⟩,_⟩,_,_⟩:=h
  obtain rfl:=Option.some.inj (gWords.symm.trans hg0)
  obtain rfl:=Option.some.inj (gFirst.symm.trans hg1)
  obtain rfl:=Option.some.inj (tWords.symm.trans ht0)
  obtain rfl:=Option.some.inj (tFirst.symm.trans ht1)
  obtain rfl:=Option.some.inj (gBruij.symm.trans hg3)
  obtain rfl:=Option.some.inj (tBruij.symm.trans ht3)
  obtain rfl:=Option.some.inj (gAcc.symm.trans hg2)
  obtain rfl:=Option.some.inj (tAcc.symm.trans ht2)
  intro g cs hcs
  simp only [E] at hcs
  split at hcs
  · cases hcs
    rw [← jx3]
    rw [jt5] at hd3
    exact jne gBruij hv3 jpo (jlq Tryz.underlying281 (by kernel_rfl) (Or.inr ⟨.u8,by kernel_rfl⟩) hd3 _)
  · cases hcs
    rw [← ju0]
    exact jne gWords hv0 jn2 (jlq Tryz.underlying300 (by kernel_rfl) (Or.inl (by kernel_rfl)) hd0 _)
  · cases hcs
    rw [← jxn]
    rw [jtp] at hd1
    exact jne gFirst hv1 jpe (jlq Tryz.underlying319 (by kernel_rfl) (Or.inr ⟨.u8,by kernel_rfl⟩) hd1 _)
  · cases hcs
    rw [← acc_eq]
    rw [j3d] at hd2
    exact jne gAcc hv2 jx8 (jx5 (k0:=.u8) (k1:=.u8) Tryz.underlying322 (by kernel_rfl) Tryz.underlying321 rfl rfl (by kernel_rfl) (by kernel_rfl) (by kernel_rfl) (by kernel_rfl) hd2 _)
  · cases hcs
theorem jpn        {f:FuncId} {W:World} {args:Array Value} {vs:List V} (hL:laidMetH Tryz.prog jo0   W) (hlen:args.size=vs.length) (hr:∀ (j:Nat) (x:Value) (v:V),args[j]? = some x→vs[j]? = some v→RepP (Xv     W) x v)
    (he:Ev E f vs (.bool true)):Calls Tryz.prog f args W fun e w'=>e = .returned (.bool true)∧W.grownBy w' none:=by
  refine (Ev.sound mixed envOk he W (Xv W) args (jt1 W) (glOk hL) hlen hr).mono fun e W' ⟨x,τ,I',h1,h2,_,_,_,h3,_⟩=>⟨?_,h2⟩
  rw [h1]
  have h4:RepP I' x (.bool true):=h3
  cases h4
  rfl
abbrev j36:Ty:=.pair (.int .i64) (.pair (.int .i64) .unit)
abbrev opTy:Ty:=.pair .bool (.pair (.int .i64) (.pair j36 .unit))
abbrev j39:Ty:=.pair (.int .i64) (.pair (.int .i64) (.pair (.slice opTy) .unit))
abbrev jy4:Ty:=.pair (.slice .str) (.pair (.slice .str) (.pair (.slice j39) .unit))
theorem Qz {α:Type} {t:Ty} {f:α→List V} (hf:∀ e,Sh t e→∃ a,e=f a) {vs:List V} (h:Sh (.slice t) vs):∃ nl l,vs=[jK nl f l]:=by
 cases h with
 | nil=>exact ⟨true,[],rfl⟩
 | slice es hn h =>
  have all:∀ es:List (List V),(∀ e∈es,Sh t e)→∃ l:List α,es=l.map f:=by
   intro es
   induction es with
   | nil=>intro _;exact ⟨[],rfl⟩
   | cons e es ih =>
    intro h
    obtain ⟨a,rfl⟩:=hf e (h e (List.mem_cons_self ..))
    obtain ⟨l,rfl⟩:=ih (fun e he=>h e (List.mem_cons_of_mem _ he))
    exact ⟨a::l,rfl⟩
  obtain ⟨l,rfl⟩:=all es h
  exact ⟨false,l,by simp [jK,List.flatMap]⟩
theorem j4n {vs:List V} (h:Sh j36 vs):∃ v:Val',vs=JB v:=by
 cases h with
 | pair ha hb=>cases ha with
  | int _ k=>cases hb with
   | pair hc hd=>cases hc with
    | int _ n=>cases hd;exact ⟨⟨k,n⟩,rfl⟩
theorem sh_op {vs:List V} (h:Sh opTy vs):∃ o:Op',vs=opC o:=by
 cases h with
 | pair ha hb=>cases ha with
  | bool w=>cases hb with
   | pair hc hd=>cases hc with
    | int _ k=>cases hd with
     | pair he hf =>
      obtain ⟨v,rfl⟩:=j4n he
      cases hf
      exact ⟨⟨w,k,v⟩,rfl⟩
theorem j4o {vs:List V} (h:Sh j39 vs):∃ t:Txn',vs=jk t:=by
 cases h with
 | pair ha hb=>cases ha with
  | int _ s=>cases hb with
   | pair hc hd=>cases hc with
    | int _ f=>cases hd with
     | pair he hf =>
      obtain ⟨nl,l,rfl⟩:=Qz (f:=opC) (fun e=>sh_op) he
      cases hf
      exact ⟨⟨s,f,nl,l⟩,rfl⟩
theorem jyk {vs:List V} (h:Sh .str vs):∃ s:List UInt8,vs=JF s:=by
 cases h with
 | str s=>exact ⟨s,rfl⟩
theorem jz8 {vs:List V} (h:Sh jy4 vs):∃ g:Hist',vs=j2 g:=by
 cases h with
 | pair ha hb=>cases hb with
  | pair hc hd=>cases hd with
   | pair he hf =>
    obtain ⟨n0,l0,rfl⟩:=Qz (f:=JF) (fun e=>jyk) ha
    obtain ⟨n1,l1,rfl⟩:=Qz (f:=JF) (fun e=>jyk) hc
    obtain ⟨n2,l2,rfl⟩:=Qz (f:=jk) (fun e=>j4o) he
    cases hf
    exact ⟨⟨n0,l0,n1,l1,n2,l2⟩,rfl⟩
theorem ji3 {v:V} (h:v.pureLeaf=true):v.leaf=true:=by cases v <;> first | rfl | cases h
section
variable {H:Type} {enc:TypeId × Value→H} {W:World} {v:Value} {d:DataW H} {p:List MemPlace} {base:Nat}
theorem jn5 {t:TypeId} {fs:Array Field} {n:Nat} {ty:Ty} (ht:Tryz.prog.underlying t=some (.struct fs)) (hty:jye Tryz.prog n t=some ty) (hval:Value.okWide Tryz.prog W .any base t v)
 (h:DataW.Trod enc Tryz.prog W 0 (fun _=>true) true t v d p):∃ vs,Sh ty vs∧RepP (Xv W) v (.agg vs):=by
 obtain ⟨cs,rfl,_⟩:=okWide_struct ht hval
 obtain ⟨fuel,hf⟩:=h
 obtain ⟨vs,hs,hr⟩:=jmi n t ty hty fuel _ _ hf
 refine ⟨vs,hs,RepP.agg cs vs (by simpa [Value.cells] using hr.1) (fun j v hj=>ji3 (hs.pure v (List.mem_of_getElem? hj))) (fun j x v hx hv=>hr.2 j x v (by simpa [Value.cells] using hx) hv)⟩
theorem jx2 {t:TypeId} {n:Nat} {ty:Ty} (hc:v.cells.toList=[v]) (hty:jye Tryz.prog n t=some ty)
 (h:DataW.Trod enc Tryz.prog W 0 (fun _=>true) true t v d p):∃ vs,Sh ty vs∧Reps (Xv W) [v] vs:=by
 obtain ⟨fuel,hf⟩:=h
 rw [hc] at hf
 exact jmi n t ty hty fuel _ _ hf
theorem j0o (ts:List TypeId) (h:(ts.all fun t=>Tryz.prog.readableRec t && decide (t<Tryz.prog.types.size))=true) (t:TypeId) (ht:t∈ts):Tryz.prog.readableRec t=true∧t<Tryz.prog.types.size:=by
 have:=List.all_eq_true.1 h t ht
 simpa using this
theorem jxi (hval:Value.okWide Tryz.prog W .any base 25 v) (h:DataW.Trod enc Tryz.prog W 0 (fun _=>true) true 25 v d p):∃ g:Hist',RepP (Xv W) v (.agg (j2 g)):=by
 obtain ⟨vs,hs,hr⟩:=jn5 (n:=8) (ty:=jy4) Tryz.underlying25 (by kernel_rfl) hval h
 obtain ⟨g,rfl⟩:=jz8 hs
 exact ⟨g,hr⟩
theorem jm9 (hval:Value.okWide Tryz.prog W .any base 26 v) (h:DataW.Trod enc Tryz.prog W 0 (fun _=>true) true 26 v d p):∃ (nl:Bool) (l:List Int),RepP (Xv W) v (jK nl intC l):=by
 obtain ⟨a0,len,cap,rfl⟩:=okWide_slice Tryz.underlying26 hval
 obtain ⟨vs,hs,hr⟩:=jx2 (n:=4) (ty:=.slice (.int .i64)) rfl (by kernel_rfl) h
 obtain ⟨nl,l,rfl⟩:=Qz (f:=intC) (fun e he=>by cases he with | int _ k=>exact ⟨k,rfl⟩) hs
 exact ⟨nl,l,hr.2 0 _ _ rfl rfl⟩
theorem j2d (hval:Value.okWide Tryz.prog W .any base 3 v):∃ n:Int,RepP (Xv W) v (.int .i64 n):=by
 obtain ⟨n,rfl⟩:=okWide_int Tryz.underlying3 hval
 exact ⟨n,RepP.int .i64 n⟩
end
section
variable {H:Type} {enc:TypeId × Value→H} {W:World} {v:Value} {d:DataW H} {p:List MemPlace} {base:Nat}
end
end Go.Pv.T
