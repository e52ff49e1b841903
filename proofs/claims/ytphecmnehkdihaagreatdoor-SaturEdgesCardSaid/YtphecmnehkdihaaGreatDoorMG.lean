/- Histories and other arguments that come in. -/
import Derived.Test.YtphecmnehkdihaaGreatDoorMF
set_option maxRecDepth 100000
set_option maxHeartbeats 8000000
namespace Go.Pv.T
open Go Go.Pv Go.Proofs Go.ChangeShapes Go.WideShapes Go.ChangeAt Go.RowKit Go.Proofs.YtphecmnehkdihaaGreatDoor
abbrev j43:Ty:=.pair (.int .i64) (.pair (.int .i64) .unit)
abbrev opTy:Ty:=.pair .bool (.pair (.int .i64) (.pair j43 .unit))
abbrev j46:Ty:=.pair (.int .i64) (.pair (.int .i64) (.pair (.slice opTy) .unit))
abbrev jz0:Ty:=.pair (.slice .str) (.pair (.slice .str) (.pair (.slice j46) .unit))
theorem jag {α:Type}{t:Ty}{f:α→List V}(hf:∀e,Sh t e→∃a,e=f a) {vs:List V}(h:Sh (.slice t) vs):∃nl l,vs=[slOf nl f l]:=by
 cases h with
 | nil=>exact⟨true,[],rfl⟩
 | slice es hn h=>
  have all:∀es:List (List V),(∀e∈es,Sh t e)→∃l:List α,es=l.map f:=by
   intro es
   induction es with
   | nil=>intro _;exact⟨[],rfl⟩
   | cons e es ih=>
    intro h
    obtain⟨a,rfl⟩:=hf e (h e (List.mem_cons_self ..))
    obtain⟨l,rfl⟩:=ih (fun e he=>h e (List.mem_cons_of_mem _ he))
    exact⟨a::l,rfl⟩
  obtain⟨l,rfl⟩:=all es h
  exact⟨false,l,by simp[slOf,List.flatMap]⟩
theorem j5l {vs:List V}(h:Sh j43 vs):∃v:Val',vs=jv v:=by
 cases h with
 | pair ha hb=>cases ha with
  | int _ k=>cases hb with
   | pair hc hd=>cases hc with
    | int _ n=>cases hd;exact⟨⟨k,n⟩,rfl⟩
theorem sh_op {vs:List V}(h:Sh opTy vs):∃o:Op',vs=opC o:=by
 cases h with
 | pair ha hb=>cases ha with
  | bool w=>cases hb with
   | pair hc hd=>cases hc with
    | int _ k=>cases hd with
     | pair he hf=>
      obtain⟨v,rfl⟩:=j5l he
      cases hf
      exact⟨⟨w,k,v⟩,rfl⟩
theorem j5m {vs:List V}(h:Sh j46 vs):∃t:Txn',vs=jn t:=by
 cases h with
 | pair ha hb=>cases ha with
  | int _ s=>cases hb with
   | pair hc hd=>cases hc with
    | int _ f=>cases hd with
     | pair he hf=>
      obtain⟨nl,l,rfl⟩:=jag (f:=opC) (fun e=>sh_op) he
      cases hf
      exact⟨⟨s,f,nl,l⟩,rfl⟩
theorem jzh {vs:List V}(h:Sh .str vs):∃s:List UInt8,vs=Jk s:=by
 cases h with
 | str s=>exact⟨s,rfl⟩
theorem j06 {vs:List V}(h:Sh jz0 vs):∃g:Hist',vs=histC g:=by
 cases h with
 | pair ha hb=>cases hb with
  | pair hc hd=>cases hd with
   | pair he hf=>
    obtain⟨n0,l0,rfl⟩:=jag (f:=Jk) (fun e=>jzh) ha
    obtain⟨n1,l1,rfl⟩:=jag (f:=Jk) (fun e=>jzh) hc
    obtain⟨n2,l2,rfl⟩:=jag (f:=jn) (fun e=>j5m) he
    cases hf
    exact⟨⟨n0,l0,n1,l1,n2,l2⟩,rfl⟩
theorem jjx {v:V}(h:v.pureLeaf=true):v.leaf=true:=by cases v <;> first|rfl|cases h
section
variable {H:Type}{enc:TypeId × Value→H}{W:World}{v:Value}{d:DataW H}{p:List MemPlace}{base:Nat}
theorem jor {t:TypeId}{fs:Array Field}{n:Nat}{ty:Ty}(ht:Tryz.prog.underlying t=some (.struct fs)) (hty:jza Tryz.prog n t=some ty) (hval:Value.okWide Tryz.prog W .any base t v)
 (h:DataW.Trod enc Tryz.prog W 0 (fun _=>true) true t v d p):∃vs,Sh ty vs∧RepP (Xy W) v (.agg vs):=by
 obtain⟨cs,rfl,_⟩:=okWide_struct ht hval
 obtain⟨fuel,hf⟩:=h
 obtain⟨vs,hs,hr⟩:=jm4 n t ty hty fuel _ _ hf
 refine⟨vs,hs,RepP.agg cs vs (by simpa[Value.cells] using hr.1) (fun j v hj=>jjx (hs.pure v (List.mem_of_getElem? hj))) (fun j x v hx hv=>hr.2 j x v (by simpa[Value.cells] using hx) hv)⟩
theorem jyx {t:TypeId}{n:Nat}{ty:Ty}(hc:v.cells.toList=[v]) (hty:jza Tryz.prog n t=some ty)
 (h:DataW.Trod enc Tryz.prog W 0 (fun _=>true) true t v d p):∃vs,Sh ty vs∧Reps (Xy W) [v] vs:=by
 obtain⟨fuel,hf⟩:=h
 rw[hc]at hf
 exact jm4 n t ty hty fuel _ _ hf
theorem j1l (ts:List TypeId) (h:(ts.all fun t=>Tryz.prog.readableRec t && decide (t<Tryz.prog.types.size))=true) (t:TypeId) (ht:t∈ts):Tryz.prog.readableRec t=true∧t<Tryz.prog.types.size:=by
 have:=List.all_eq_true.1 h t ht
 simpa using this
theorem jya (hval:Value.okWide Tryz.prog W .any base 25 v) (h:DataW.Trod enc Tryz.prog W 0 (fun _=>true) true 25 v d p):∃g:Hist',RepP (Xy W) v (.agg (histC g)):=by
 obtain⟨vs,hs,hr⟩:=jor (n:=8) (ty:=jz0) Tryz.underlying25 (by kernel_rfl) hval h
 obtain⟨g,rfl⟩:=j06 hs
 exact⟨g,hr⟩
theorem jx7 (hval:Value.okWide Tryz.prog W .any base 26 v) (h:DataW.Trod enc Tryz.prog W 0 (fun _=>true) true 26 v d p):∃ (nl:Bool) (l:List Int),RepP (Xy W) v (slOf nl intC l):=by
 obtain⟨a0,len,cap,rfl⟩:=okWide_slice Tryz.underlying26 hval
 obtain⟨vs,hs,hr⟩:=jyx (n:=4) (ty:=.slice (.int .i64)) rfl (by kernel_rfl) h
 obtain⟨nl,l,rfl⟩:=jag (f:=intC) (fun e he=>by cases he with|int _ k=>exact⟨k,rfl⟩) hs
 exact⟨nl,l,hr.2 0 _ _ rfl rfl⟩
theorem j25 (hval:Value.okWide Tryz.prog W .any base 3 v):∃n:Int,RepP (Xy W) v (.int .i64 n):=by
 obtain⟨n,rfl⟩:=okWide_int Tryz.underlying3 hval
 exact⟨n,RepP.int .i64 n⟩
end
section
end
end Go.Pv.T
