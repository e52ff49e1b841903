/- Bad reads of a transaction: the given list. -/
import Derived.Test.YtphecmnehkdihaaGreatDoorED
set_option maxRecDepth 100000
namespace Go.Pv.T
open Go Go.Pv
def badO (ops:List Op') (k:Nat) (o:Op'):Bool:=!o.w && ((o.v.kind != 2) && ((rawTo o.key ops k).2 && !(((rawTo o.key ops k).1.kind == o.v.kind) && ((rawTo o.key ops k).1.n == o.v.n))))
def badTo (ops:List Op'):Nat→List Int
 | 0=>[]
 | k+1=>badTo ops k++(match ops[k]? with | some o=>if badO ops k o then [(k:Int)] else [] | none=>[])
theorem badTo_succ {ops:List Op'} {k:Nat} (h:k<ops.length):badTo ops (k+1)=badTo ops k++if badO ops k ops[k] then [(k:Int)] else []:=by simp [badTo,List.getElem?_eq_getElem h]
theorem badTo_len (ops:List Op'):∀ k,(badTo ops k).length≤k
 | 0=>by simp [badTo]
 | k+1=>by
  have:=badTo_len ops k
  simp only [badTo,List.length_append]
  split
  ·split <;> simp <;> omega
  ·simp;omega
def badH (g:Hist') (i:Int):List Int:=badTo (opsAt g i).2 (opsAt g i).2.length
theorem rawTo_take (key:Int) (ops:List Op') (k:Nat):∀ j,j≤k→rawTo key (ops.take k) j=rawTo key ops j
 | 0,_=>rfl
 | j+1,h=>by
  simp only [rawTo,rawTo_take key ops k j (by omega),List.getElem?_take_of_lt (show j<k by omega)]
theorem lastW_take (key:Int) (ops:List Op') {k:Nat} (h:k≤ops.length):lastW (ops.take k) key=rawTo key ops k:=by
 unfold lastW
 rw [List.length_take,Nat.min_eq_left h,rawTo_take key ops k k (Nat.le_refl _)]
theorem take_opsK {nl:Bool} {ops:List Op'} {k:Nat} (h:k≤ops.length):slSlV 4 none (some (.int .i64 (k:Int))) (slOf nl opC ops)=some (slOf nl opC (ops.take k)):=by
 have h1:=slSl_to (kk:=.i64) (t:=none) (nl:=nl) (sz:=4) (cs:=ops.flatMap opC) (n:=ops.length) (k:=k) h (flatMap_len opC_len _)
 refine Eq.trans h1 ?_
 have h2:(ops.flatMap opC).take (k * 4)=(ops.take k).flatMap opC:=by
  conv=>lhs;rw [← List.take_append_drop k ops,List.flatMap_append]
  rw [List.take_left']
  rw [flatMap_len opC_len,List.length_take,Nat.min_eq_left h]
 rw [h2,slOf,List.length_take,Nat.min_eq_left h]
theorem ev114 {g:Hist'} (hs:Small g) (i:Int):∃ v,Ev E 114 [.agg (histC g),.int .i64 i] v∧SlR v (badH g i).isEmpty (badH g i).length ((badH g i).flatMap intC):=by
 have e129:=ev176 hs i
 have hol:=opsAt_len hs i
 unfold badH
 refine Ev_wpE (af:=F114) rfl (by decide) ?_
 generalize opsAt g i=oo at *
 obtain ⟨nl,ops⟩:=oo
 simp only at e129 hol ⊢
 simp [F114,histC,objCells]
 refine kS_ev e129 (by simp [histC]) rfl (by simp [histC]) ?_
 rw [retA_plain rfl,wpD_some]
 simp
 refine wp_loopUp [(5,5),(7,10),(16,49)] ops.length (fun k s=>s.tm 16 = .int .i64 k∧Grow s.tk 0 s.nx intC 1 (badTo ops k) (s.tm 5)) rfl rfl ⟨by simp,by simp [badTo];exact Grow.nil _ _ _ _ _⟩ ?_
 rintro k s hk ⟨h16,hG⟩ f
 have f6:s.tm 6=slOf nl opC ops:=by rw [f.t 6 (by simp)];simp
 have f14:s.tm 14=slOf nl opC ops:=by rw [f.t 14 (by simp)];simp
 have f15:s.tm 15 = .int .i64 ops.length:=by rw [f.t 15 (by simp)];simp
 have fd:s.df=[]:=by rw [f.d];simp
 have fb:s.fb=0:=by rw [f.b];simp
 have fr:s.ro=0:=by rw [f.r];simp
 clear f
 by_cases hlt:k<ops.length
 ·have hw':=wrapU hlt (by omega)
  have hstep:=badTo_succ hlt
  have hbl:=badTo_len ops k
  obtain ⟨o,ho⟩:∃ o,ops[k]=o:=⟨_,rfl⟩
  have hload:loadV s.ob (some 4) (.eptr (ops.flatMap opC) (k * 4))=some (.agg (opC o)):=by rw [load_slOf opC_len s.ob ops hlt,ho]
  have hsl:=take_opsK (nl:=nl) (ops:=ops) (k:=k) (by omega)
  have e130:=ev177 nl (ops.take k) (by rw [List.length_take];omega) o.key
  rw [lastW_take _ _ (by omega)] at e130
  rw [ho] at hstep
  unfold badO at hstep
  cases hw:o.w
  ·rw [hw] at hstep
   cases hk2:(o.v.kind == 2)
   ·have hne2:(o.v.kind != 2)=true:=by simp only [bne,hk2,Bool.not_false]
    rw [hne2] at hstep
    simp only [Bool.not_false,Bool.true_and] at hstep
    simp [h16,f6,f14,f15,hlt,idx_slOf opC_len,hload,objCells,opC,splice,fb,fr,hw,hk2,hsl]
    refine kD_ev e130 (by simp) rfl (by simp) ?_
    rw [retA_tupl (by simp [V.plain,valC])]
    generalize rawTo o.key ops k=rv at *
    obtain ⟨rv,rb⟩:=rv
    simp only at hstep
    simp [valC,objCells,splice,fb,fr]
    refine ⟨by simp [drawOk,indep,disj,fpOf,rdOb,rdTk,lOf,Delta.wo,Delta.wt];try decide,?_⟩
    cases rb
    ·simp [h16,hw']
     simp only [Bool.false_and,Bool.false_eq_true,if_false,List.append_nil] at hstep
     rw [hstep]
     exact ⟨hlt,hG.mono (fun u _ hu h=>by simpa [app_tk0] using h) (by omega)⟩
    ·cases heq:((rv.kind == o.v.kind) && (rv.n == o.v.n))
     ·rw [heq] at hstep
      simp only [Bool.true_and,Bool.not_false,if_true] at hstep
      simp [objCells,heq]
      refine kS_buildSl (cs:=intC k) (by simp [splice,intC]) rfl rfl ?_
      simp
      refine kS_appendG (f:=intC) (lo:=0) (hi:=s.nx) (l:=badTo ops k) (a:=(k:Int)) (v:=s.tm 5) (hG.mono (fun u _ _ h=>by simp [app_tk,h]) (Nat.le_refl _)) (by simp) (by simp [slCells,intC]) intC_len (by decide) rfl (by omega) (by omega) (fun del hdel=>?_)
      have hlen:(badTo ops k).length+1=(badTo ops (k+1)).length:=by rw [hstep];simp
      have hne:badTo ops (k+1)≠[]:=by rw [hstep];simp
      rw [← hstep,hlen]
      obtain ⟨M,hM⟩:∃ M,badTo ops (k+1)=M:=⟨_,rfl⟩
      rw [hM] at hne ⊢
      simp [h16,hw',hM]
      exact ⟨hlt,.inr ⟨hne,_,rfl,by simp [app_tk],Nat.zero_le _,by omega⟩⟩
     ·rw [heq] at hstep
      simp only [Bool.true_and,Bool.not_true,Bool.false_eq_true,if_false,List.append_nil] at hstep
      simp [objCells,heq,h16,hw']
      rw [hstep]
      exact ⟨hlt,hG.mono (fun u _ hu h=>by simpa [app_tk0] using h) (by omega)⟩
   ·have hne2:(o.v.kind != 2)=false:=by simp only [bne,hk2,Bool.not_true]
    rw [hne2] at hstep
    simp only [Bool.false_and,Bool.and_false,Bool.false_eq_true,if_false,List.append_nil] at hstep
    simp [h16,f14,f15,hlt,idx_slOf opC_len,hload,objCells,opC,splice,fb,fr,hw,hk2,hw']
    rw [hstep]
    exact hG.mono (fun u _ hu h=>by simpa [app_tk0] using h) (by omega)
  ·rw [hw] at hstep
   simp only [Bool.not_true,Bool.false_and,Bool.false_eq_true,if_false,List.append_nil] at hstep
   simp [h16,f14,f15,hlt,idx_slOf opC_len,hload,objCells,opC,splice,fb,fr,hw,hw']
   rw [hstep]
   exact hG.mono (fun u _ hu h=>by simpa [app_tk0] using h) (by omega)
 ·have:k=ops.length:=by omega
  subst this
  obtain ⟨t,ht⟩:=hG.form
  simp [h16,f15]
  exact slE (t:=t) (nl:=(badTo ops ops.length).isEmpty) (k:=(badTo ops ops.length).length) (cs:=(badTo ops ops.length).flatMap intC) (fun r h=>h) (by simp [fd]) (by simp [ht])
end Go.Pv.T
namespace Go.Pv.T
open Go Go.Pv
end Go.Pv.T
namespace Go.Pv.T
open Go Go.Pv
structure KnS where
 m:List (Int × Int)
 n:List (Int × Int)
 hop:Bool
 more:Bool
structure Kn (g:Hist') (uK um un:Nat) (s:KnS) (ob:Nat→Option Obj') (ub:Nat):Prop where
 lt:um<un∧un<uK∧uK<ub
 k:ob (2 * uK+1)=some ⟨uK,.cells [slOf g.sn strC g.ss,slOf g.kn strC g.ks,slOf g.tn txnC g.ts,.map (2 * um+1) um,.map (2 * un+1) un,.bool s.hop,.bool s.more]⟩
 m:∃ ver,ob (2 * um+1)=some ⟨um,.mp ver (MP intV s.m)⟩
 n:∃ ver,ob (2 * un+1)=some ⟨un,.mp ver (MP intV s.n)⟩
def KnP (g:Hist') (uK um un:Nat) (s':KnS) (ob:Nat→Option Obj') (ub:Nat) (r:V × (Nat→Option Obj') × (Nat→Bool) × Nat):Prop :=
 Kn g uK um un s' r.2.1 r.2.2.2∧(∀ key,key≠2 * uK+1→key≠2 * um+1→key≠2 * un+1→(∀ m,ub≤m→key≠2 * m+1)→r.2.1 key=ob key)∧ub≤r.2.2.2
def KnS.learnM (s:KnS) (t:Int):KnS:=if mcnt s.m t=0 then { s with m:=mset s.m t 1,more:=true } else s
def KnS.learnN (s:KnS) (t:Int):KnS:=if mcnt s.n t=0 then { s with n:=mset s.n t 1,more:=true } else s
def KnS.fails (s:KnS) (f:Int) (t:Int):KnS:=if f=1 then { s with hop:=true } else if f=3 then s.learnN t else s
theorem KnP.mono {g:Hist'} {uK um un:Nat} {s':KnS} {ob ob1:Nat→Option Obj'} {ub ub1:Nat} {r:V × (Nat→Option Obj') × (Nat→Bool) × Nat} (h:KnP g uK um un s' ob1 ub1 r)
 (ho:∀ key,key≠2 * uK+1→key≠2 * um+1→key≠2 * un+1→(∀ m,ub≤m→key≠2 * m+1)→ob1 key=ob key) (hu:ub≤ub1):KnP g uK um un s' ob ub r :=
 ⟨h.1,fun key h1 h2 h3 h4=>(h.2.1 key h1 h2 h3 (fun m hm=>h4 m (by omega))).trans (ho key h1 h2 h3 h4),Nat.le_trans hu h.2.2⟩
theorem Kn.up {g:Hist'} {uK um un:Nat} {s:KnS} {ob ob1:Nat→Option Obj'} {ub ub1:Nat} (h:Kn g uK um un s ob ub) (ho:ob1=ob) (hu:ub≤ub1):Kn g uK um un s ob1 ub1 :=
 ⟨⟨h.lt.1,h.lt.2.1,Nat.lt_of_lt_of_le h.lt.2.2 hu⟩,by rw [ho];exact h.k,by rw [ho];exact h.m,by rw [ho];exact h.n⟩
def OwnI (ob:Nat→Option Obj') (v:V) (l:List Int):Prop:=(v = .sl none true 0 []∧l=[])∨∃ L u cs,v = .osl L u 0 l.length 1∧ob L=some ⟨u,.cells cs⟩∧l.length≤cs.length∧cs.take l.length=l.flatMap intC
theorem OwnI.at {l:List Int} {cs:List V} (ht:cs.take l.length=l.flatMap intC) {i:Nat} (h:i<l.length):cs[i]? = some (.int .i64 l[i]):=by
 have h1:=int_at l h
 rw [← ht,List.getElem?_take_of_lt h] at h1
 exact h1
end Go.Pv.T
namespace Go.Pv.T
open Go Go.Pv
end Go.Pv.T
namespace Go.Pv.T
open Go Go.Pv
def KnS.left (s:KnS) (g:Hist') (a b:Int):List Int:=(ofH g a b).filter fun t=>!decide (0<mcnt s.n t)
def KnS.op (s:KnS) (g:Hist') (f:Int) (t k:Nat) (o:Op'):KnS :=
 if o.v.kind == 2 || !outerB g t k then s else
 if (s.left g t k).length=0 then s.fails f t else
 if (s.left g t k).length == 1 && (decide (0≤(s.left g t k).headD 0) && decide (0<mcnt s.m t)) then s.learnM ((s.left g t k).headD 0) else s
def KnS.ops (s:KnS) (g:Hist') (f:Int) (t:Nat) (l:List Op'):Nat→KnS
 | 0=>s
 | k+1=>match l[k]? with
  | some o=>(s.ops g f t l k).op g f t k o
  | none=>s.ops g f t l k
def KnS.txn (s:KnS) (g:Hist') (t:Nat) (f:Int) (l:List Op'):KnS:=(if (badH g t).isEmpty then s else s.fails f t).ops g f t l l.length
theorem Kn.keep {g:Hist'} {uK um un:Nat} {s:KnS} {ob ob1:Nat→Option Obj'} {ub ub1:Nat} (h:Kn g uK um un s ob ub) (ho:∀ key,(∀ m,ub≤m→key≠2 * m+1)→ob1 key=ob key) (hu:ub≤ub1):Kn g uK um un s ob1 ub1:=by
 obtain ⟨⟨l1,l2,l3⟩,hk,⟨vm,hm⟩,⟨vn,hn⟩⟩:=h
 exact ⟨⟨l1,l2,by omega⟩,(ho _ fun m h e=>by omega).trans hk,⟨vm,(ho _ fun m h e=>by omega).trans hm⟩,⟨vn,(ho _ fun m h e=>by omega).trans hn⟩⟩
def Aside (uK um un:Nat) (ob:Nat→Option Obj') (ub:Nat) (ob1:Nat→Option Obj'):Prop:=∀ key,key≠2 * uK+1→key≠2 * um+1→key≠2 * un+1→(∀ m,ub≤m→key≠2 * m+1)→ob1 key=ob key
theorem Aside.trans {uK um un:Nat} {ob ob1 ob2:Nat→Option Obj'} {ub ub1:Nat} (h:Aside uK um un ob ub ob1) (h':Aside uK um un ob1 ub1 ob2) (hu:ub≤ub1):Aside uK um un ob ub ob2 :=
 fun key h1 h2 h3 h4=>(h' key h1 h2 h3 fun m hm=>h4 m (by omega)).trans (h key h1 h2 h3 h4)
theorem Aside.new {uK um un:Nat} {ob ob1:Nat→Option Obj'} {ub:Nat} (h:∀ key,(∀ m,ub≤m→key≠2 * m+1)→ob1 key=ob key):Aside uK um un ob ub ob1:=fun key _ _ _ h4=>h key h4
theorem readW_len {g:Hist'} (hs:Small g):(readW g).length≤1000000:=by
 unfold readW
 have:=readAt_len hs g.ts.length
 have h2:=hs.ts
 have:g.ts.length * 1000≤1000 * 1000:=Nat.mul_le_mul_right _ h2
 split
 ·unfold readH;omega
 ·simp
def choW (g:Hist'):List (Bool × List Int):=(readW g).map fun p=>((ofH g p.1 p.2).isEmpty,ofH g p.1 p.2)
theorem slR_intsV (T:List Int):SlR (intsV T) T.isEmpty T.length (T.flatMap intC):=by
 unfold intsV
 cases T with
 | nil=>exact ⟨none,rfl,by simp⟩
 | cons a l=>exact ⟨some (0,1),rfl,by simp⟩
theorem ev161 {g:Hist'} (hs:Small g):∃ v,Ev E 161 [.agg (histC g)] v∧SlR v (choW g).isEmpty (choW g).length ((choW g).flatMap lstC):=by
 obtain ⟨vr,evr,hvr⟩:=ev86 hs
 have hll:=readW_len hs
 obtain ⟨L,hL⟩:∃ L,readW g=L:=⟨_,rfl⟩
 obtain ⟨C,hC⟩:∃ C,choW g=C:=⟨_,rfl⟩
 have hCL:C=L.map fun p=>((ofH g p.1 p.2).isEmpty,ofH g p.1 p.2):=by rw [← hC,← hL];rfl
 have hCl:C.length=L.length:=by rw [hCL];simp
 rw [hC]
 rw [hL] at hvr hll
 refine Ev_wpE (af:=F161) rfl (by decide) ?_
 simp [F161,histC,objCells]
 refine kS_ev evr (by simp [histC]) rfl (by simp [histC]) ?_
 refine retSl hvr fun tc addc=>?_
 simp
 refine wp_loopUp [(3,5),(9,20)] L.length (fun i s=>s.tm 9 = .int .i64 i∧s.ob 2=some ⟨0,.cells (histC g)⟩∧Grow s.tk 0 s.nx lstC 1 (C.take i) (s.tm 3)) rfl rfl ⟨by simp,by simp [histC],by simp;exact Grow.nil _ _ _ _ _⟩ ?_
 rintro i s hi ⟨h9,o2,hG⟩ f
 have f1:s.tm 1 = .ptr 2 0 0:=by rw [f.t 1 (by simp)];simp
 have f7:s.tm 7 = .sl tc L.isEmpty L.length (L.flatMap placeC):=by rw [f.t 7 (by simp)];simp
 have f8:s.tm 8 = .int .i64 L.length:=by rw [f.t 8 (by simp)];simp
 have fd:s.df=[]:=by rw [f.d];simp
 have fb:s.fb=0:=by rw [f.b];simp
 have fr:s.ro=0:=by rw [f.r];simp
 clear f
 by_cases hlt:i<L.length
 ·have hw:=wrapU hlt (by omega)
  have hix:idxSlV 2 (.sl tc L.isEmpty L.length (L.flatMap placeC)) (.int .i64 (i:Int))=some (.eptr (L.flatMap placeC) (i * 2)):=by
   simp only [idxSlV_sl,flatMap_len placeC_len]
   rw [if_pos (by simp;omega)]
   rfl
  have hp:=fun ob=>place_at L ob hlt
  have hCi:C[i]? = some ((ofH g (L[i]).1 (L[i]).2).isEmpty,ofH g (L[i]).1 (L[i]).2):=by
   rw [hCL,List.getElem?_map,List.getElem?_eq_getElem hlt];rfl
  have e27:=ev217 hs (L[i]).1 (L[i]).2
  generalize (L[i]).1=a at *
  generalize (L[i]).2=b at *
  obtain ⟨T,hT⟩:∃ T,ofH g a b=T:=⟨_,rfl⟩
  rw [hT] at e27 hCi
  simp [h9,f1,f7,f8,o2,objCells,histC,hlt,hix,hp,splice,fb,fr]
  refine kS_ev e27 (by simp [histC,placeC]) rfl (by simp [histC,placeC]) ?_
  refine retSl (slR_intsV T) fun t add=>?_
  simp
  have hstep:C.take (i+1)=C.take i++[(T.isEmpty,T)]:=by
   rw [List.take_add_one,hCi];rfl
  have hil:i<C.length:=by omega
  have htl:(C.take i).length=i:=by rw [List.length_take];omega
  refine kS_buildSl (cs:=[.sl t T.isEmpty T.length (T.flatMap intC)]) (by simp [splice]) rfl (by simp [V.strip1,V.pureLeaf]) ?_
  simp [V.strip1]
  refine kS_appendG (f:=lstC) (lo:=0) (hi:=s.nx) (l:=C.take i) (a:=(T.isEmpty,T)) (v:=s.tm 3) (hG.mono (fun u _ _ h=>by simp [app_tk,h]) (Nat.le_refl _)) (by simp) (by simp [slCells,lstC]) lstC_len (by decide) (by simp [lstC,V.pureLeaf]) (by omega) (by omega) (fun del hdel=>?_)
  have hne:C.take (i+1)≠[]:=by rw [hstep];simp
  have hlen:(C.take i).length+1=(C.take (i+1)).length:=by rw [hstep,List.length_append];rfl
  rw [← hstep,hlen]
  obtain ⟨M,hM⟩:∃ M,C.take (i+1)=M:=⟨_,rfl⟩
  rw [hM] at hne ⊢
  simp [h9,hw,o2,histC,hM]
  exact ⟨hlt,.inr ⟨hne,_,rfl,by simp [app_tk],Nat.zero_le _,by omega⟩⟩
 ·have:i=L.length:=by omega
  subst this
  rw [← hCl,List.take_length] at hG
  obtain ⟨t,ht⟩:=hG.form
  simp [h9,f8]
  exact slE (t:=t) (nl:=C.isEmpty) (k:=C.length) (cs:=C.flatMap lstC) (fun r h=>h) (by simp [fd]) (by simp [ht])
def choR (g:Hist'):List (Bool × List Int):=(readH g).map fun p=>(false,ofH g p.1 p.2)
theorem readH_len {g:Hist'} (hs:Small g):(readH g).length≤1000000:=by
 have:=readAt_len hs g.ts.length
 have h2:=hs.ts
 have:g.ts.length * 1000≤1000 * 1000:=Nat.mul_le_mul_right _ h2
 unfold readH;omega
def allIn:List (Bool × List Int)→List Int→Bool
 | [],_=>true
 | _::_,[]=>false
 | c::cs,m::ms=>c.2.contains m && allIn cs ms
def mapR (g:Hist') (M:List Int):Bool:=wholeH g && (M.length == (choR g).length && allIn (choR g) M)
theorem lst_at (C:List (Bool × List Int)) {i:Nat} (h:i<C.length):(C.flatMap lstC)[i]? = some (.sl none (C[i]).1 (C[i]).2.length ((C[i]).2.flatMap intC)):=by
 have:=fld_at lstC_len C h (by decide:0<1)
 rw [Nat.mul_one,Nat.add_zero] at this
 rw [this];rfl
theorem ofH_len {g:Hist'} (hm:mayH g=true) (a b:Int):(ofH g a b).length≤41:=by
 unfold ofH
 split
 ·split
  ·simp
  ·exact ofL_len (may_ts hm) a _
 ·simp
theorem kD_own {st:St} {ub:Nat} {K:List FP→St→Prop} {d:Option Nat} {nm:Bool} {r:List AOpr} {f:FuncId} {xs:List A} {vs args':List V} {v:V} {δ:Delta} (hx:xs.map (eval E st.tm)=vs) (hs:E.sh nm f=true) (htw:E.tw f=true)
 (ha:vs.mapM (frzTop st.ob)=some args') (hev:Ev E f args' v) (hδ:thawD (objName d nm st.fb ub) ub v=some δ)
 (h:wpDraw E r (st.app d δ) (ub+64) (kFp { wo:=δ.wo,all:=true,seen:=fun l=>(st.ob l).isSome,nw:=true } K)):wpDraw E (⟨d,.call f xs,none,nm⟩::r) st ub K:=by
 have hsh:sharedCall E nm (eval E st.tm) (.call f xs)=some (f,vs):=by simp only [sharedCall,hs,hx,Bool.not_true,Bool.false_and,Bool.false_eq_true,if_false]
 simp only [wpDraw,wanted,hsh]
 exact .inr ⟨hs,htw,args',v,ha,hev,δ,by rw [name_eq'];exact hδ,h⟩
where
 name_eq':∀ {d:Option Nat} {op:AOp} {nm:Bool} {fb ub:Nat},AOpr.name ⟨d,op,none,nm⟩ fb ub=objName d nm fb ub:=by
  intro d op nm fb ub;cases nm <;> rfl
def KnS.round (s:KnS) (g:Hist'):Nat→KnS
 | 0=>{ s with more:=false }
 | i+1=>match g.ts[i]? with
  | some t=>(s.round g i).txn g i t.f t.ops
  | none=>s.round g i
def KnS.iter (g:Hist'):Nat→KnS→KnS
 | 0,s=>s
 | k+1,s=>if s.more then KnS.iter g k (s.round g g.ts.length) else s
def freeM (m:List (Int × Int)):Nat→Nat
 | 0=>0
 | i+1=>freeM m i+if mcnt m i=0 then 1 else 0
theorem freeM_set {m:List (Int × Int)} {t:Int} (h0:mcnt m t=0):∀ n:Nat,(freeM (mset m t 1) n≤freeM m n)∧(0≤t→t<n→freeM (mset m t 1) n+1≤freeM m n)
 | 0=>⟨Nat.le_refl _,fun h1 h2=>by omega⟩
 | i+1=>by
  have ih:=freeM_set h0 i
  simp only [freeM,mcnt_set]
  by_cases hit:(i:Int)=t
  ·rw [if_pos hit,hit,if_pos h0,if_neg (by decide)]
   exact ⟨by omega,fun _ _=>by omega⟩
  ·rw [if_neg hit]
   refine ⟨by omega,fun h1 h2=>?_⟩
   have:=ih.2 h1 (by omega)
   omega
def KnS.free (s:KnS) (n:Nat):Nat:=freeM s.m n+freeM s.n n
def Less (n:Nat) (s s':KnS):Prop:=s'.free n≤s.free n∧(s'.more=true→s.more=true∨s'.free n+1≤s.free n)∧(s.more=true→s'.more=true)
theorem Less.rfl' (n:Nat) (s:KnS):Less n s s:=⟨Nat.le_refl _,fun h=>.inl h,fun h=>h⟩
theorem Less.trans {n:Nat} {a b c:KnS} (h:Less n a b) (h':Less n b c):Less n a c :=
 ⟨Nat.le_trans h'.1 h.1,fun hm=>by
  rcases h'.2.1 hm with h1 | h1
  ·rcases h.2.1 h1 with h2 | h2
   ·exact .inl h2
   ·exact .inr (by have:=h'.1;omega)
  ·exact .inr (by have:=h.1;omega),fun hm=>h'.2.2 (h.2.2 hm)⟩
theorem Less.learnM {n:Nat} {s:KnS} {t:Int} (h1:0≤t) (h2:t<n):Less n s (s.learnM t):=by
 unfold KnS.learnM
 split
 ·rename_i h0
  have:=freeM_set h0 n
  have:=this.2 h1 h2
  exact ⟨by simp only [KnS.free];omega,fun _=>.inr (by simp only [KnS.free];omega),fun _=>rfl⟩
 ·exact .rfl' n s
theorem Less.learnN {n:Nat} {s:KnS} {t:Int} (h1:0≤t) (h2:t<n):Less n s (s.learnN t):=by
 unfold KnS.learnN
 split
 ·rename_i h0
  have:=freeM_set h0 n
  have:=this.2 h1 h2
  exact ⟨by simp only [KnS.free];omega,fun _=>.inr (by simp only [KnS.free];omega),fun _=>rfl⟩
 ·exact .rfl' n s
theorem Less.fails {n:Nat} {s:KnS} {f t:Int} (h1:0≤t) (h2:t<n):Less n s (s.fails f t):=by
 unfold KnS.fails
 split
 ·exact ⟨Nat.le_refl _,fun h=>.inl h,fun h=>h⟩
 ·split
  ·exact .learnN h1 h2
  ·exact .rfl' n s
theorem ofH_lt {g:Hist'} {a b x:Int} (h:x∈ofH g a b):x<g.ts.length:=by
 unfold ofH at h
 split at h
 ·split at h
  ·simp at h
  ·rename_i o _ _
   unfold ofL ofStart at h
   rcases List.mem_append.1 h with h | h
   ·split at h
    ·simp at h
    ·simp at h;omega
   ·have:=numsTo_lt (p:=wrB o.key) (ts:=g.ts) g.ts.length (Nat.le_refl _)
    exact (this.1 x (List.mem_filter.1 h).1).2
 ·simp at h
theorem Less.op {g:Hist'} {s:KnS} {f:Int} {t k:Nat} {o:Op'} (ht:t<g.ts.length):Less g.ts.length s (s.op g f t k o):=by
 unfold KnS.op
 split
 ·exact .rfl' _ s
 ·split
  ·exact .fails (by omega) (by omega)
  ·rename_i h0
   split
   ·rename_i h1
    simp only [Bool.and_eq_true,decide_eq_true_eq] at h1
    refine .learnM h1.2.1 ?_
    cases hl:s.left g t k with
    | nil=>rw [hl] at h0;simp at h0
    | cons x r =>
     have hm:x∈s.left g t k:=by rw [hl];exact List.mem_cons_self ..
     exact ofH_lt (List.mem_filter.1 hm).1
   ·exact .rfl' _ s
theorem Less.ops {g:Hist'} {s:KnS} {f:Int} {t:Nat} {l:List Op'} (ht:t<g.ts.length):∀ k,Less g.ts.length s (s.ops g f t l k)
 | 0=>.rfl' _ s
 | k+1=>by
  simp only [KnS.ops]
  split
  ·exact (Less.ops ht k).trans (.op ht)
  ·exact Less.ops ht k
theorem Less.txn {g:Hist'} {s:KnS} {f:Int} {t:Nat} {l:List Op'} (ht:t<g.ts.length):Less g.ts.length s (s.txn g t f l):=by
 unfold KnS.txn
 refine Less.trans ?_ (.ops ht _)
 split
 ·exact .rfl' _ s
 ·exact .fails (by omega) (by omega)
theorem Less.round {g:Hist'} {s:KnS}:∀ i,i≤g.ts.length→Less g.ts.length { s with more:=false } (s.round g i)
 | 0,_=>.rfl' _ _
 | i+1,h=>by
  simp only [KnS.round,List.getElem?_eq_getElem (show i<g.ts.length by omega)]
  exact (Less.round i (by omega)).trans (.txn (by omega))
structure KnRun (g:Hist') (ub:Nat) (ob:Nat→Option Obj') (ro:Nat) (uK um un:Nat) (s:KnS) (st:St):Prop where
 kn:Kn g uK um un s st.ob st.nx
 t1:st.tm 1 = .ptr (2 * ub+1) ub 0
 t3:st.tm 3 = .ptr (2 * uK+1) uK 0
 df:st.df=[]
 ro:st.ro=ro
 h:st.ob (2 * ub+1)=some ⟨ub,.cells (histC g)⟩
 old:∀ key,(∀ m,ub≤m→key≠2 * m+1)→st.ob key=ob key
theorem KnRun.up {g:Hist'} {ub:Nat} {ob:Nat→Option Obj'} {ro uK um un:Nat} {s:KnS} {st st':St} (k:KnRun g ub ob ro uK um un s st) (ho:st'.ob=st.ob) (hn:st.nx≤st'.nx) (h1:st'.tm 1=st.tm 1) (h3:st'.tm 3=st.tm 3) (hd:st'.df=st.df) (hr:st'.ro=st.ro):KnRun g ub ob ro uK um un s st' :=
 ⟨k.kn.up ho hn,h1.trans k.t1,h3.trans k.t3,hd.trans k.df,hr.trans k.ro,by rw [ho];exact k.h,by rw [ho];exact k.old⟩
end Go.Pv.T
namespace Go.Pv.T
open Go Go.Pv
end Go.Pv.T
namespace Go.Pv.T
open Go Go.Pv
end Go.Pv.T
namespace Go.Pv.T
open Go Go.Pv
def TupS (l:List V) (v:V):Prop:=∃ vs,v = .tup vs∧vs.map V.strip1=l∧∀ p∈vs.flatMap V.toks,p<64
def noAgg:V→Bool
 | .agg _=>false
 | _=>true
theorem retTup {ub:Nat} {v:V} {l:List V} {K:Delta→Prop} (hv:TupS l v) (hl:l.all noAgg=true) (h:∀ ws add,ws.map V.strip1=l→K { v:=.tup ws,add:=add }):wpD (retA ub v) K:=by
 obtain ⟨vs,rfl,hs,ht⟩:=hv
 have e:retA ub (.tup vs)=some { v:=.tup (vs.map (inTop ub)),add:=(vs.flatMap V.toks).map (ub + ·) }:=by
  rw [retA,if_pos (by simpa only [toksRes,List.all_eq_true,Nat.blt_eq] using ht)]
  rfl
 rw [e,wpD_some]
 refine h _ _ ?_
 rw [← hs,List.map_map]
 refine List.map_congr_left fun w hw=>?_
 have hn:noAgg w.strip1=true:=List.all_eq_true.1 hl _ (by rw [← hs];exact List.mem_map.2 ⟨w,hw,rfl⟩)
 cases w with
 | agg=>cases hn
 | sl t nl n cs=>cases t <;> rfl
 | _=>rfl
theorem strip1_sl {w:V} {nl:Bool} {n:Nat} {cs:List V} (h:w.strip1 = .sl none nl n cs):∃ t,w = .sl t nl n cs:=by
 cases w <;> simp [V.strip1] at h
 obtain ⟨rfl,rfl,rfl⟩:=h
 exact ⟨_,rfl⟩
theorem strip1_bool {w:V} {b:Bool} (h:w.strip1 = .bool b):w = .bool b:=by cases w <;> simp [V.strip1] at h;subst h;rfl
theorem map3 {α β:Type} {f:α→β} {ws:List α} {a b c:β} (h:ws.map f=[a,b,c]):∃ x y z,ws=[x,y,z]∧f x=a∧f y=b∧f z=c:=by
 match ws with
 | [x,y,z]=>simp only [List.map_cons,List.map_nil,List.cons.injEq,and_true] at h;exact ⟨x,y,z,rfl,h.1,h.2.1,h.2.2⟩
 | []=>simp at h
 | [_]=>simp at h
 | [_,_]=>simp at h
 | _::_::_::_::_=>simp at h
theorem retSSB {ub:Nat} {v:V} {a1 a2 b:Bool} {n1 n2:Nat} {c1 c2:List V} {K:Delta→Prop} (hv:TupS [.sl none a1 n1 c1,.sl none a2 n2 c2,.bool b] v)
 (h:∀ t1 t2 add,K { v:=.tup [.sl t1 a1 n1 c1,.sl t2 a2 n2 c2,.bool b],add:=add }):wpD (retA ub v) K:=by
 refine retTup hv rfl fun ws add hw=>?_
 obtain ⟨x,y,z,rfl,h1,h2,h3⟩:=map3 hw
 obtain ⟨t1,rfl⟩:=strip1_sl h1
 obtain ⟨t2,rfl⟩:=strip1_sl h2
 obtain rfl:=strip1_bool h3
 exact h t1 t2 add
def OutOk (st:St) (v w:V):Prop:=∀ keep i,∃ a,outTop st keep i v=some a∧a.strip1=w∧(a.toks=[]∨a.toks=[i])
def OutAll (st:St):List V→List V→Prop
 | [],[]=>True
 | v::vs,w::ws=>OutOk st v w∧OutAll st vs ws
 | _,_=>False
theorem outOk_pure {st:St} {v:V} (h:v.pureLeaf=true):OutOk st v v:=by
 intro keep i
 refine ⟨v,?_,strip1_of_pure h,.inl ?_⟩
 ·cases v with
  | agg=>cases h
  | fn=>cases h
  | _=>exact outLeaf_pure (st:=st) (keep:=keep) (i:=i) h
 ·cases v with
  | agg=>cases h
  | _=>exact tok_pure h
theorem outOk_sl {st:St} {v:V} {nl:Bool} {n:Nat} {cs:List V} (hv:v.leaf=true) (h:SlOut st v nl n cs):OutOk st v (.sl none nl n cs):=by
 intro keep i
 obtain ⟨a,ha,ht⟩:=h keep i
 refine ⟨.sl a nl n cs,?_,rfl,?_⟩
 ·rw [← ha]
  cases v with
  | agg=>cases hv
  | fn=>simp only [outLeaf,solid] at ha;split at ha <;> cases ha
  | _=>rfl
 ·rcases ht with rfl | ⟨z,rfl⟩
  ·exact .inl rfl
  ·exact .inr rfl
theorem outTops_ok {st:St} {keep:Bool}:∀ {vs ls:List V} {i:Nat},OutAll st vs ls→∃ as1,outTops st keep i vs=some as1∧as1.map V.strip1=ls∧(∀ p∈as1.flatMap V.toks,i≤p∧p<i+16 * vs.length)∧nodup (as1.flatMap V.toks)=true
 | [],[],i,_=>⟨[],rfl,rfl,by simp,rfl⟩
 | v::vs,w::ws,i,h=>by
  obtain ⟨a,h1,h2,h3⟩:=h.1 keep i
  obtain ⟨as1,k1,k2,k3,k4⟩:=outTops_ok (keep:=keep) (i:=i+16) h.2
  refine ⟨a::as1,by simp only [outTops,h1,Option.bind_some,k1,Option.map_some],by rw [List.map_cons,h2,k2],fun p hp=>?_,?_⟩
  ·rw [List.flatMap_cons,List.mem_append] at hp
   simp only [List.length_cons]
   rcases hp with hp | hp
   ·rcases h3 with h3 | h3 <;> rw [h3] at hp <;> simp at hp
    omega
   ·have:=k3 p hp;omega
  ·rw [List.flatMap_cons]
   rcases h3 with h3 | h3 <;> rw [h3]
   ·exact k4
   ·simp only [List.singleton_append,nodup,Bool.and_eq_true,k4,and_true,Bool.not_eq_true']
    rw [Bool.eq_false_iff]
    intro hc
    obtain ⟨p,hp,he⟩:=List.any_eq_true.1 hc
    have:=Nat.eq_of_beq_eq_true he
    have:=k3 p hp
    omega
 | [],_::_,_,h=>h.elim
 | _::_,[],_,h=>h.elim
theorem resOf_ts (st:St):∀ ns:List Nat,(ns.map ARes.t).mapM (resOf st)=some (ns.map st.tm)
 | []=>rfl
 | n::ns=>by rw [List.map_cons,List.mapM_cons,resOf_ts st ns];rfl
theorem tupE {ns:List Nat} {st:St} {vs ls:List V} {P:V→Prop} (hP:∀ r,TupS ls r→P r) (hd:st.df=[]) (h:ns.map st.tm=vs) (h2:2≤vs.length) (h4:vs.length≤4) (ho:OutAll st vs ls):kEndE (ns.map .t) P .ret st:=by
 obtain ⟨as1,k1,k2,k3,k4⟩:=outTops_ok (keep:=nodup (vs.flatMap V.toks)) (i:=0) ho
 have hal:2≤as1.length:=by
  have e1:=congrArg List.length k2
  have:∀ {vs ls:List V},OutAll st vs ls→vs.length=ls.length:=by
   intro vs
   induction vs with
   | nil=>intro ls h;cases ls with | nil=>rfl | cons=>exact h.elim
   | cons v vs ih=>intro ls h;cases ls with | nil=>exact h.elim | cons w ws=>rw [List.length_cons,List.length_cons,ih h.2]
  have:=this ho
  simp only [List.length_map] at e1
  omega
 refine ⟨.tup as1,?_,hP _ ⟨as1,rfl,k2,fun p hp=>by have:=k3 p hp;omega⟩⟩
 simp only [endV,dfOk_of hd,noDf_of hd,if_true,resOf_ts,h,Option.bind_some,outRes,k1,k4]
 match as1,hal with
 | a::b::r,_=>rfl
theorem ev25 (b:Bool) (l:List Int) (hl:l.length≤1000000000):∃ v,Ev E 25 [slOf b intC l] v∧SlR v false l.length (l.flatMap intC):=by
 refine Ev_wpE (af:=F25) rfl (by decide) ?_
 simp [F25]
 refine kS_buildSl (cs:=[]) rfl rfl rfl ?_
 simp
 refine kS_append_allT (f:=intC) (l:=l) (u:=64) (by simp) (by simp [app_tk]) (by simp [slCells_slOf intC_len]) intC_len (by decide) (by simp [intC,V.pureLeaf]) (by omega) (by omega) (fun t del add _ _=>?_)
 simp
 exact slE (t:=t) (nl:=false) (k:=l.length) (cs:=l.flatMap intC) (fun r h=>h) (by simp) (by simp)
section
variable {E:Env} {Yf:YF} {st:St} {ub:Nat} {K:St→Nat→Prop} {d:Option Nat} {nm:Bool}
theorem kS_mkSlO {sz bytes n:Nat} {zero:List V} {x y:A} (hl:eval E st.tm x = .int .i64 (n:Int)) (hc:eval E st.tm y = .int .i64 (n:Int)) (hb:n * bytes≤140737488355328) (hn:n≤140737488355328) (hz:zero.length=sz) (h0:0<sz)
 (h:kApp K st d ub { v:=.osl (objName d nm st.fb ub) ub 0 n sz,obs:=[(objName d nm st.fb ub,⟨ub,.cells (repl n zero)⟩)] }):wpStep E Yf ⟨d,.mkSl true sz bytes zero x y,none,nm⟩ st ub K:=by
 rw [wpStep_of _ rfl rfl]
 simp only [aop,hl,hc]
 rw [if_pos (by refine ⟨by omega,by omega,?_,by omega,hz,h0⟩;rw [← Int.natCast_mul];exact Int.ofNat_le.2 hb),if_neg (by simp),mkObj,wpD_some]
 simp only [Int.toNat_natCast,name_eq]
 exact h
end
def Upto (n i:Nat) (J:List Int) (cs:List V):Prop:=cs.length=n∧(∀ j,j<i→cs[j]? = (J.flatMap intC)[j]?)∧cs.all V.pureLeaf=true
theorem Upto.set {n i:Nat} {J:List Int} {cs:List V} (h:Upto n i J cs) (hi:i<n) {x:Int} (hx:J[i]? = some x):Upto n (i+1) J (splice cs i [.int .i64 x]):=by
 obtain ⟨h1,h2,h3⟩:=h
 have hs:splice cs i [.int .i64 x]=cs.set i (.int .i64 x):=by
  unfold splice
  rw [List.set_eq_take_append_cons_drop,if_pos (by omega),List.append_assoc]
  rfl
 rw [hs]
 refine ⟨by rw [List.length_set];exact h1,fun j hj=>?_,?_⟩
 ·by_cases hji:j=i
  ·subst hji
   have hJ:=(List.getElem?_eq_some_iff.1 hx)
   rw [List.getElem?_set_self (by omega),int_at J hJ.1,hJ.2]
  ·rw [List.getElem?_set_ne (fun e=>hji e.symm)]
   exact h2 j (by omega)
 ·refine List.all_eq_true.2 fun y hy=>?_
  rcases List.mem_or_eq_of_mem_set hy with hy | rfl
  ·exact List.all_eq_true.1 h3 y hy
  ·rfl
theorem Upto.whole {n:Nat} {J:List Int} {cs:List V} (h:Upto n n J cs) (hJ:J.length=n):cs=J.flatMap intC:=by
 apply List.ext_getElem?
 intro j
 by_cases hj:j<n
 ·exact h.2.1 j hj
 ·rw [List.getElem?_eq_none (by rw [h.1];omega),List.getElem?_eq_none (by rw [flatMap_len intC_len];omega)]
theorem Upto.zero (n:Nat) (J:List Int):Upto n 0 J (repl n [.int .i64 0]):=by
 refine ⟨by simp [repl],fun j hj=>by omega,?_⟩
 refine List.all_eq_true.2 fun y hy=>?_
 simp only [repl,List.mem_map] at hy
 obtain ⟨i,_,rfl⟩:=hy
 simp [V.pureLeaf,Nat.mod_one]
theorem kD_obs {st:St} {ub:Nat} {K:List FP→St→Prop} {d:Option Nat} {nm:Bool} {r:List AOpr} {f:FuncId} {xs:List A} {vs:List V} {v:V} {δ:Delta} (hx:xs.map (eval E st.tm)=vs) (hs:E.sh nm f=false) (hp:(vs.all fun v=>v.strip.pureTop)=false)
 (hev:EvO E f vs st.ob st.tk ((st.fb+d.getD 0+1) * 1024) (ub+64 * (r.length+1)) v) (hδ:retA ub v=some δ)
 (h:wpDraw E r (st.app d δ) (ub+64) (kFp { wt:=δ.wt,all:=true,seen:=fun l=>(st.ob l).isSome } K)):wpDraw E (⟨d,.call f xs,none,nm⟩::r) st ub K:=by
 have hp':(xs.all fun x=>(eval E st.tm x).strip.pureTop)=false:=by
  rw [← hx,List.all_map] at hp
  exact hp
 have hsh:sharedCall E nm (eval E st.tm) (.call f xs)=some (f,vs):=by simp only [sharedCall,hs,hx,hp',Bool.not_false,Bool.and_false,Bool.false_eq_true,if_false]
 simp only [wpDraw,wanted,hsh]
 exact .inl ⟨hs,v,hev,δ,hδ,h⟩
def blC (b:Bool):List V:=[.bool b]
@[simp] theorem blC_len (b:Bool):(blC b).length=1:=rfl
end Go.Pv.T
namespace Go.Pv.T
open Go Go.Pv Go.Sort
@[simp] theorem cellV_lf (v:Val'):(cellV v).leaf=true:=by unfold cellV;split;rfl;split <;> rfl
def lessV (a b:Val'):Bool:=if a.kind=b.kind then (a.kind == 1 && decide (a.n<b.n)) else decide (a.kind<b.kind)
def cmpV (a b:Val'):Int:=if valB a && valB b && lessV a b then -1 else if valB b && valB a && lessV b a then 1 else 0
abbrev VV:Type:={ v:Val' // valB v=true }
instance:Inhabited VV:=⟨⟨⟨0,0⟩,rfl⟩⟩
def vvC (v:VV):List V:=valC v.1
@[simp] theorem vvC_len (v:VV):(vvC v).length=2:=rfl
@[simp] theorem vvC_leaf (v:VV):∀ x∈vvC v,x.leaf=true:=by
 intro x hx
 simp only [vvC,valC,List.mem_cons,List.not_mem_nil,or_false] at hx
 rcases hx with rfl | rfl <;> rfl
@[simp] theorem vvC_leafs (v:VV):(vvC v).all V.leaf=true:=rfl
@[simp] theorem vvC_strip1 (v:VV):(vvC v).map V.strip1=vvC v:=rfl
@[simp] theorem vvC_pure (v:VV):(vvC v).all V.pureLeaf=true:=rfl
def ltVV (a b:VV):Bool:=decide (cmpV a.1 b.1<0)
@[simp] theorem ltVV_fold (a b:VV):decide (cmpV a.1 b.1<0)=ltVV a b:=rfl
@[simp] theorem arrV_len (d:Array VV):(arr vvC d).length=d.size * 2:=arr_len (sz:=2) vvC_len d
end Go.Pv.T
namespace Go.Pv.T.Vs
open Go Go.Pv Go.Pv.T Go.Sort
end Go.Pv.T.Vs
namespace Go.Pv.T.Vs
open Go Go.Pv Go.Pv.T Go.Sort
end Go.Pv.T.Vs
namespace Go.Pv.T.Vs
open Go Go.Pv Go.Pv.T Go.Sort
end Go.Pv.T.Vs
namespace Go.Pv.T.Vs
open Go Go.Pv Go.Pv.T Go.Sort
end Go.Pv.T.Vs
namespace Go.Pv.T.Vs
open Go Go.Pv Go.Pv.T Go.Sort
end Go.Pv.T.Vs
namespace Go.Pv.T.Vs
open Go Go.Pv Go.Pv.T Go.Sort
end Go.Pv.T.Vs
namespace Go.Pv.T.Vs
open Go Go.Pv Go.Pv.T Go.Sort
end Go.Pv.T.Vs
namespace Go.Pv.T.Vs
open Go Go.Pv Go.Pv.T Go.Sort
end Go.Pv.T.Vs
namespace Go.Pv.T.Vs
open Go Go.Pv Go.Pv.T Go.Sort
end Go.Pv.T.Vs
namespace Go.Pv.T.Vs
open Go Go.Pv Go.Pv.T Go.Sort
end Go.Pv.T.Vs
namespace Go.Pv.T.Vs
open Go Go.Pv Go.Pv.T Go.Sort
end Go.Pv.T.Vs
namespace Go.Pv.T
open Go Go.Pv
@[simp] theorem valC_len (v:Val'):(valC v).length=2:=rfl
theorem load_val (ob:Nat→Option Obj') (l:List Val') {i:Nat} (h:i<l.length):loadV ob (some 2) (.eptr (l.flatMap valC) (i * 2))=some (.agg (valC l[i])):=load_slOf valC_len ob l h
def idxJ:List (Bool × List Int)→List Int→List Int
 | c::cs,m::ms=>idxI c.2 m 0::idxJ cs ms
 | _,_=>[]
theorem idxJ_len:∀ (C:List (Bool × List Int)) (M:List Int),C.length=M.length→(idxJ C M).length=C.length
 | [],[],_=>rfl
 | c::cs,m::ms,h=>by simp only [idxJ,List.length_cons] at h ⊢;rw [idxJ_len cs ms (by omega)]
 | [],_::_,h=>by simp at h
 | _::_,[],h=>by simp at h
theorem idxJ_at:∀ (C:List (Bool × List Int)) (M:List Int) (i:Nat) (h:i<C.length) (h':i<M.length),(idxJ C M)[i]? = some (idxI (C[i]).2 M[i] 0)
 | c::cs,m::ms,0,_,_=>rfl
 | c::cs,m::ms,i+1,h,h'=>by
  simp only [idxJ,List.getElem?_cons_succ,List.getElem_cons_succ]
  exact idxJ_at cs ms i (by simpa using h) (by simpa using h')
 | [],_,_,h,_=>by simp at h
 | _::_,[],_,_,h=>by simp at h
def placesH (g:Hist') (M:List Int):Option (List Int):=if wholeH g && ((choW g).length == M.length && (idxJ (choW g) M).all fun x=>decide (0≤x)) then some (idxJ (choW g) M) else none
def PlacesR (g:Hist') (r:Option (List Int)) (v:V):Prop:=match r with
 | some J=>TupS [.sl none (choW g).isEmpty (choW g).length ((choW g).flatMap lstC),.sl none false J.length (J.flatMap intC),.bool true] v
 | none=>TupS [.sl none true 0 [],.sl none true 0 [],.bool false] v
theorem choW_len {g:Hist'} (hs:Small g):(choW g).length≤1000000:=by unfold choW;rw [List.length_map];exact readW_len hs
theorem choW_sl {g:Hist'} (_:Small g):∀ x∈choW g,x.1=x.2.isEmpty∧x.2.length≤41:=by
 intro x hx
 unfold choW readW at hx
 split at hx
 ·rename_i hw
  obtain ⟨p,_,rfl⟩:=List.mem_map.1 hx
  have hm:mayH g=true:=by unfold wholeH at hw;simp only [Bool.and_eq_true] at hw;exact hw.1
  exact ⟨rfl,ofH_len hm _ _⟩
 ·simp at hx
theorem ev106 {g:Hist'} (hs:Small g) {b:Bool} (M:List Int) (hM:M.length≤1000000):∃ v,Ev E 106 [.agg (histC g),slOf b intC M] v∧PlacesR g (placesH g M) v:=by
 obtain ⟨vc,evc,hvc⟩:=ev161 hs
 have e83:=ev52 hs
 have hCl:=choW_len hs
 have hCs:=choW_sl hs
 have hnone:∀ {st:St} {P:V→Prop},st.df=[]→st.tm 4 = .sl none true 0 []→st.tm 5 = .sl none true 0 []→st.tm 6 = .bool false→placesH g M=none→kEndE [.t 4,.t 5,.t 6] (PlacesR g (placesH g M)) .ret st:=by
  intro st _ hd h4 h5 h6 hp
  rw [hp]
  exact tupE (ns:=[4,5,6]) (vs:=[.sl none true 0 [],.sl none true 0 [],.bool false]) (fun r h=>h) hd (by simp [h4,h5,h6]) (by simp) (by simp) ⟨outOk_pure rfl,outOk_pure rfl,outOk_pure rfl,trivial⟩
 refine Ev_wpE (af:=F106) rfl (by decide) ?_
 obtain ⟨P,hP⟩:∃ P,PlacesR g (placesH g M)=P:=⟨_,rfl⟩
 have hPn:=fun st h1 h2 h3 h4 h5=>hP ▸ @hnone st (fun _=>True) h1 h2 h3 h4 h5
 rw [hP]
 obtain ⟨C,hC⟩:∃ C,choW g=C:=⟨_,rfl⟩
 rw [hC] at hvc hCl hCs
 simp [F106,histC,objCells]
 refine kS_ev evc (by simp [histC]) rfl (by simp [histC]) ?_
 refine retSl hvc fun tc addc=>?_
 simp [objCells]
 refine kS_ev e83 (by simp [histC]) rfl (by simp [histC]) ?_
 cases hw:wholeH g
 ·simp
  exact hPn _ (by simp) (by simp) (by simp) (by simp) (by simp [placesH,hw])
 by_cases hl:¬ C.length=M.length
 ·have hne:((C.length:Int) != M.length)=true:=by simp;omega
  simp [hne]
  exact hPn _ (by simp) (by simp) (by simp) (by simp) (by simp [placesH,hC,hl])
 have hl:C.length=M.length:=Classical.byContradiction hl
 have hne:((C.length:Int) != M.length)=false:=by simp;omega
 simp [hne]
 refine kS_mkSlO (n:=M.length) (by simp) (by simp) (by omega) (by omega) rfl (by decide) ?_
 simp
 obtain ⟨J,hJ⟩:∃ J,idxJ C M=J:=⟨_,rfl⟩
 have hJl:J.length=M.length:=by rw [← hJ,idxJ_len C M hl];exact hl
 have hJat:=idxJ_at C M
 rw [hJ] at hJat
 have hplaces:placesH g M=if J.all (fun x=>decide (0≤x)) then some J else none:=by
  unfold placesH
  rw [hC,hJ,hw,hl]
  simp
 refine wp_loopUp [(4,6),(9,10),(28,47)] C.length (fun i s=>s.tm 28 = .int .i64 i∧(∃ cs,s.ob 2433=some ⟨1216,.cells cs⟩∧Upto M.length i J cs)∧(J.take i).all (fun x=>decide (0≤x))=true) rfl rfl ⟨by simp,⟨_,by simp,Upto.zero _ _⟩,by simp⟩ ?_
 rintro i s hi ⟨h28,⟨cs,hcs,hU⟩,hall⟩ f
 have f1:s.tm 1=slOf b intC M:=by rw [f.t 1 (by simp)];simp
 have f7:s.tm 7 = .sl tc C.isEmpty C.length (C.flatMap lstC):=by rw [f.t 7 (by simp)];simp
 have f8:s.tm 8 = .osl 2433 1216 0 M.length 1:=by rw [f.t 8 (by simp)];simp
 have f26:s.tm 26 = .sl tc C.isEmpty C.length (C.flatMap lstC):=by rw [f.t 26 (by simp)];simp
 have f27:s.tm 27 = .int .i64 C.length:=by rw [f.t 27 (by simp)];simp
 have fd:s.df=[]:=by rw [f.d];simp
 have fr:s.ro=0:=by rw [f.r];simp
 clear f
 by_cases hlt:i<C.length
 ·have hw':=wrapU hlt (by omega)
  have hlt2:i<M.length:=by omega
  have h1:=lst_at C hlt
  have h2:=int_at M hlt2
  have hix:idxSlV 1 (.sl tc C.isEmpty C.length (C.flatMap lstC)) (.int .i64 (i:Int))=some (.eptr (C.flatMap lstC) (i * 1)):=by
   simp only [idxSlV_sl,flatMap_len lstC_len]
   rw [if_pos (by simp;omega)]
   rfl
  rw [Nat.mul_one] at hix
  have hio:=idxN (l:=2433) (u:=1216) (n:=M.length) (kk:=.i64) (X:=(i:Int)) rfl hlt2
  have e128:=ev127 (a:=(C[i]).1) (C[i]).2 (by have:=(hCs _ (List.getElem_mem hlt)).2;omega) M[i]
  have hji:=hJat i hlt hlt2
  generalize idxI (C[i]).2 M[i] 0=x at *
  have hU2:=hU.set hlt2 hji
  have hget:(splice cs i [.int .i64 x])[i]? = some (.int .i64 x):=by
   rw [hU2.2.1 i (by omega)]
   have hJ':=List.getElem?_eq_some_iff.1 hji
   rw [int_at J hJ'.1,hJ'.2]
  have hcl:=hU.1
  have hle:i+1≤M.length:=hlt2
  simp [h28,f1,f8,f26,f27,hlt,hlt2,hix,idx_slOf intC_len,h1,h2]
  refine kS_ev e128 (by simp [slOf]) rfl (by simp [slOf]) ?_
  simp [hio,hcs,objCells,fr,hcl,hle,f8,hget]
  by_cases hx:x<0
  ·simp [hx]
   refine hPn _ (by simp [fd]) (by simp) (by simp) (by simp) ?_
   rw [hplaces]
   have hm:x∈J:=List.mem_of_getElem? hji
   rw [if_neg]
   rw [List.all_eq_true]
   intro h
   have:=h x hm
   simp at this
   omega
  ·simp [hx,h28,hw']
   refine ⟨hlt,hU2,fun y hy=>?_⟩
   rw [List.take_add_one,hji,List.mem_append] at hy
   rcases hy with hy | hy
   ·simpa using List.all_eq_true.1 hall y hy
   ·simp at hy;omega
 ·have:i=C.length:=by omega
  subst this
  simp [h28,f27]
  rw [List.take_of_length_le (by omega)] at hall
  rw [hl] at hU
  have hcsJ:=hU.whole hJl
  rw [← hP,hplaces,if_pos hall]
  subst hcsJ
  refine tupE (ns:=[4,5,6]) (vs:=[.sl tc C.isEmpty C.length (C.flatMap lstC),.osl 2433 1216 0 M.length 1,.bool true]) (fun r h=>h) (by simp [fd]) (by simp [f7,f8]) (by simp) (by simp) ⟨?_,?_,outOk_pure rfl,trivial⟩
  ·rw [hC];exact outOk_sl rfl (slOut_sl _ _ _ _ _)
  ·rw [hJl];exact outOk_sl rfl (slOut_osl (by simp [hcs]) hU.1 (by simp [fr]) hU.2.2)
theorem ev53 {g:Hist'} (hs:Small g) {b:Bool} (M:List Int) (hM:M.length≤1000000):Ev E 53 [.agg (histC g),slOf b intC M] (.bool (placesH g M).isSome):=by
 obtain ⟨v,ev,hv⟩:=ev106 hs (b:=b) M hM
 refine Ev_wpK (af:=F53) rfl ?_
 simp [F53,histC,objCells]
 refine kS_ev ev (by simp [histC,slOf]) rfl (by simp [histC,slOf]) ?_
 cases hp:placesH g M with
 | none =>
  rw [hp] at hv
  refine retSSB hv fun t1 t2 add=>?_
  simp
  exact endV_1 (by simp) (by simp) rfl
 | some J =>
  rw [hp] at hv
  refine retSSB hv fun t1 t2 add=>?_
  simp
  exact endV_1 (by simp) (by simp) rfl
theorem allIn_idx:∀ (C D:List (Bool × List Int)) (M:List Int),C.map (·.2)=D.map (·.2)→allIn D M=((idxJ C M).all (fun x=>decide (0≤x)) && decide (C.length≤M.length))
 | [],[],M,_=>by cases M <;> simp [allIn,idxJ]
 | c::C,d::D,[],_=>by simp [allIn]
 | c::C,d::D,m::M,h=>by
  simp only [List.map_cons,List.cons.injEq] at h
  have h1:=allIn_idx C D M h.2
  have h2:=idxI_neg m c.2 0
  have h3:decide (0≤idxI c.2 m 0)=c.2.contains m:=by
   have:decide (0≤idxI c.2 m 0) = !decide (idxI c.2 m 0<0):=by
    by_cases h:idxI c.2 m 0<0
    ·simp [h];
    ·simp [h];omega
   rw [this,h2,Bool.not_not]
  simp only [allIn,idxJ,List.all_cons,h1,h3,← h.1,List.length_cons,Nat.add_le_add_iff_right]
  rw [Bool.and_assoc]
 | [],_::_,_,h=>by simp at h
 | _::_,[],_,h=>by simp at h
theorem cho_map {g:Hist'} (hw:wholeH g=true):(choW g).map (·.2)=(choR g).map (·.2):=by
 unfold choW choR readW
 rw [if_pos hw]
 simp [List.map_map,Function.comp_def]
theorem cho_len {g:Hist'} (hw:wholeH g=true):(choW g).length=(choR g).length:=by
 have:=congrArg List.length (cho_map hw)
 simpa using this
theorem is_eq (g:Hist') (M:List Int):(placesH g M).isSome=mapR g M:=by
 unfold placesH mapR
 cases hw:wholeH g
 ·simp
 ·rw [allIn_idx _ _ M (cho_map hw),cho_len hw]
  by_cases hl:M.length=(choR g).length
  ·have h1:((choR g).length == M.length)=true:=by simp [hl]
   have h2:(M.length == (choR g).length)=true:=by simp [hl]
   rw [h1,h2]
   simp only [Bool.true_and,hl,Nat.le_refl,decide_true,Bool.and_true]
   split
   ·rename_i h;simp [h]
   ·rename_i h;simp only [Option.isSome_none];simpa using h
  ·have h1:((choR g).length == M.length)=false:=by simp;omega
   have h2:(M.length == (choR g).length)=false:=by simp;omega
   rw [h1,h2]
   simp
@[simp] theorem eqVV_bool (ob:Nat→Option Obj') (neg a b:Bool):eqVV ob neg .bool (.bool a) (.bool b)=some (.bool (xor neg (a == b))):=rfl
theorem retHist {ub:Nat} {r:V} {g:Hist'} {K:Delta→Prop} (h:HistR r g)
 (hK:∀ a b c add,K { v:=.agg [.sl a g.sn g.ss.length (g.ss.flatMap strC),.sl b g.kn g.ks.length (g.ks.flatMap strC),.sl c g.tn g.ts.length (g.ts.flatMap txnC)],add:=add }):wpD (retA ub r) K:=by
 obtain ⟨a,b,c,add,hr⟩:=retA_hist1 (ub:=ub) h
 rw [hr,wpD_some]
 exact hK a b c add
theorem take_flat {α:Type} {f:α→List V} {k:Nat} (hf:∀ a,(f a).length=k):∀ (l:List α) (n:Nat),(l.flatMap f).take (n * k)=(l.take n).flatMap f
 | [],n=>by simp
 | a::l,0=>by simp
 | a::l,n+1=>by
  rw [List.flatMap_cons,List.take_succ_cons,List.flatMap_cons,Nat.succ_mul,Nat.add_comm,← hf a,List.take_length_add_append,hf a,take_flat hf l n]
section
variable {E:Env} {st:St} {ub:Nat} {K:List FP→St→Prop} {d:Option Nat} {nm:Bool} {r:List AOpr}
theorem nbeq {a b:Nat} (h:a≠b):a.beq b=false:=by
 cases e:a.beq b
 ·rfl
 ·exact absurd (Nat.eq_of_beq_eq_true e) h
@[simp] theorem valC_strip1 (v:Val'):(valC v).map V.strip1=valC v:=rfl
end
theorem sl_head {α:Type} {f:α→List V} {sz:Nat} (hf:∀ a,(f a).length=sz) (t:Option (Nat × Nat)) (nl:Bool) (l:List α) {k:Nat} (hk:k≤l.length):slSlV sz none (some (.int .i64 (k:Int))) (.sl t nl l.length (l.flatMap f))=some (.sl none nl (l.take k).length ((l.take k).flatMap f)):=by
 have h1:(l.take k).length=k:=by rw [List.length_take];omega
 have e:=take_flat hf l k
 have h2:(k:Int)≤l.length:=by omega
 simp [slSlV,bounds,flatMap_len hf,h1,e,h2]
theorem ld2 {ob:Nat→Option Obj'} {l u:Nat} {M:List Val'} {x:Nat} (ho:ob l=some ⟨u,.cells (M.flatMap valC)⟩) (hx:x<M.length):loadV ob (some 2) (.ptr l u (x * 2))=some (.agg (valC M[x])):=by
 have h:=load_val ob M hx
 rw [← h]
 simp only [loadV,objCells,ho,if_true,Option.bind_some]
structure RwS where
 c:List Bool
 d:List Bool
 hop:Bool
 more:Bool
def RwS.left (r:RwS) (g:Hist') (t k:Nat):List Int:=(ofH g t k).filter fun x=>decide (x<0) || !(r.d.getD x.toNat false)
def RwS.sole (r:RwS) (g:Hist') (t:Nat) (l:List Op'):Nat→Bool × List Int
 | 0=>(false,[])
 | k+1=>match l[k]? with
  | some o =>
   if !outerB g t k || o.v.kind == 2 then r.sole g t l k else
   ((r.sole g t l k).1 || (r.left g t k).length == 0,
    if (r.left g t k).length == 1 && decide (0≤(r.left g t k).headD 0) then (r.sole g t l k).2++[(r.left g t k).headD 0] else (r.sole g t l k).2)
  | none=>r.sole g t l k
def RwS.learn (r:RwS) (t:Nat):List Int→RwS
 | []=>r
 | x::xs=>if r.c.getD t false then (if r.c.getD x.toNat false then r.learn t xs else { r with c:=r.c.set x.toNat true,more:=true }.learn t xs) else r
def RwS.fails (r:RwS) (f:Int) (t:Nat):RwS :=
 if f=1 then { r with hop:=true } else if f=3 then (if r.d.getD t false then r else { r with d:=r.d.set t true,more:=true }) else r
def RwS.txn (r:RwS) (g:Hist') (t:Nat) (f:Int) (l:List Op'):RwS :=
 (if (r.sole g t l l.length).1 || !(badH g t).isEmpty then r.fails f t else r).learn t (r.sole g t l l.length).2
def Alike (n:Nat) (s:KnS) (r:RwS):Prop :=
 r.c.length=n∧r.d.length=n∧(∀ i,i<n→r.c.getD i false=decide (0<mcnt s.m i))∧(∀ i,i<n→r.d.getD i false=decide (0<mcnt s.n i))∧s.hop=r.hop∧s.more=r.more∧∀ x:Int,x<0→mcnt s.n x=0
theorem ofH_ne {g:Hist'} {t:Nat} {b x:Int} (h:x∈ofH g t b):x≠t:=by
 unfold ofH at h
 split at h
 ·split at h
  ·simp at h
  ·rename_i o _ _
   unfold ofL ofStart at h
   rcases List.mem_append.1 h with h | h
   ·split at h
    ·simp at h
    ·simp at h;omega
   ·have:=(List.mem_filter.1 h).2
    simp only [Bool.and_eq_true,Bool.not_eq_true',beq_eq_false_iff_ne,ne_eq] at this
    exact this.1
 ·simp at h
theorem left_alike {g:Hist'} {s:KnS} {r:RwS} {t k:Nat} (hd:∀ i,i<g.ts.length→i≠t→r.d.getD i false=decide (0<mcnt s.n i)) (hn:∀ x:Int,x<0→mcnt s.n x=0):s.left g t k=r.left g t k:=by
 unfold KnS.left RwS.left
 refine List.filter_congr fun x hx=>?_
 have hlt:=ofH_lt hx
 have hne:=ofH_ne hx
 by_cases h0:x<0
 ·simp [hn x h0,h0]
 ·obtain ⟨i,rfl⟩:∃ i:Nat,x=i:=⟨x.toNat,by omega⟩
  have:=hd i (by omega) (by omega)
  simp only [Int.toNat_natCast,this,h0,decide_false,Bool.false_or]
theorem Alike.fails {n:Nat} {s:KnS} {r:RwS} (h:Alike n s r) {f:Int} {t:Nat} (ht:t<n) (hp:0≤mcnt s.n t):Alike n (s.fails f t) (r.fails f t):=by
 obtain ⟨h1,h2,h3,h4,h5,h6,h7⟩:=h
 unfold KnS.fails RwS.fails
 by_cases f1:f=1
 ·simp only [f1,if_true]
  exact ⟨h1,h2,h3,h4,rfl,h6,h7⟩
 ·by_cases f3:f=3
  ·rw [if_neg f1,if_neg f1,if_pos f3,if_pos f3]
   unfold KnS.learnN
   by_cases h0:mcnt s.n t=0
   ·have hr:r.d.getD t false=false:=by rw [h4 t ht,h0];rfl
    rw [if_pos h0,hr]
    simp only [Bool.false_eq_true,if_false]
    refine ⟨h1,by simp [h2],h3,fun i hi=>?_,h5,rfl,fun x hx=>?_⟩
    ·simp only [mcnt_set]
     by_cases e:i=t
     ·subst e
      simp [List.getD_eq_getElem?_getD,h2,hi]
     ·have e':¬ (i:Int)=t:=by omega
      have e2:¬ (t:Int)=i:=by omega
      have:=h4 i hi
      simp [e',List.getD_eq_getElem?_getD,Ne.symm e] at this ⊢
      exact this
    ·simp only [mcnt_set]
     rw [if_neg (by omega)]
     exact h7 x hx
   ·have hr:r.d.getD t false=true:=by rw [h4 t ht];simp;omega
    rw [if_neg h0,hr]
    simp only [if_true]
    exact ⟨h1,h2,h3,h4,h5,h6,h7⟩
  ·rw [if_neg f1,if_neg f1,if_neg f3,if_neg f3]
   exact ⟨h1,h2,h3,h4,h5,h6,h7⟩
def RwS.com (r:RwS) (x:Nat):RwS:=if r.c.getD x false then r else { r with c:=r.c.set x true,more:=true }
theorem Alike.learnM {n:Nat} {s:KnS} {r:RwS} (h:Alike n s r) {t:Nat} (ht:t<n) (hp:0≤mcnt s.m t):Alike n (s.learnM t) (r.com t):=by
 obtain ⟨h1,h2,h3,h4,h5,h6,h7⟩:=h
 unfold KnS.learnM RwS.com
 by_cases h0:mcnt s.m t=0
 ·have hr:r.c.getD t false=false:=by rw [h3 t ht,h0];rfl
  rw [if_pos h0,hr]
  simp only [Bool.false_eq_true,if_false]
  refine ⟨by simp [h1],h2,fun i hi=>?_,h4,h5,rfl,h7⟩
  simp only [mcnt_set]
  by_cases e:i=t
  ·subst e
   simp [List.getD_eq_getElem?_getD,h1,hi]
  ·have e':¬ (i:Int)=t:=by omega
   have:=h3 i hi
   simp [e',List.getD_eq_getElem?_getD,Ne.symm e] at this ⊢
   exact this
 ·have hr:r.c.getD t false=true:=by rw [h3 t ht];simp;omega
  rw [if_neg h0,hr]
  simp only [if_true]
  exact ⟨h1,h2,h3,h4,h5,h6,h7⟩
theorem KnS.fails_learnM (s:KnS) (f t x:Int):(s.learnM x).fails f t=(s.fails f t).learnM x:=by
 unfold KnS.fails KnS.learnM KnS.learnN
 by_cases f1:f=1
 ·simp only [f1,if_true]
  split <;> rfl
 ·by_cases f3:f=3
  ·rw [if_neg f1,if_neg f1,if_pos f3,if_pos f3]
   by_cases h0:mcnt s.m x=0 <;> by_cases h1:mcnt s.n t=0 <;> simp [h0,h1]
  ·rw [if_neg f1,if_neg f1,if_neg f3,if_neg f3]
theorem KnS.fails_fails (s:KnS) (f t:Int):(s.fails f t).fails f t=s.fails f t:=by
 unfold KnS.fails KnS.learnN
 by_cases f1:f=1
 ·simp [f1]
 ·by_cases f3:f=3
  ·rw [if_neg f1,if_pos f3]
   by_cases h1:mcnt s.n t=0
   ·simp [h1,f3,mcnt_set]
   ·simp [h1,f3]
  ·simp [f1,f3]
def KnS.learnAll (s:KnS):List Int→KnS
 | []=>s
 | x::xs=>(s.learnM x).learnAll xs
theorem KnS.learnAll_append (s:KnS) (x:Int):∀ xs:List Int,s.learnAll (xs++[x])=(s.learnAll xs).learnM x:=by
 intro xs
 induction xs generalizing s with
 | nil=>rfl
 | cons y ys ih=>exact ih (s.learnM y)
theorem KnS.fails_learnAll (f t:Int):∀ (xs:List Int) (s:KnS),(s.learnAll xs).fails f t=(s.fails f t).learnAll xs
 | [],_=>rfl
 | x::xs,s=>by
  show ((s.learnM x).learnAll xs).fails f t=((s.fails f t).learnM x).learnAll xs
  rw [KnS.fails_learnAll f t xs,KnS.fails_learnM]
theorem KnS.learnM_n (s:KnS) (x:Int):(s.learnM x).n=s.n:=by unfold KnS.learnM;split <;> rfl
theorem KnS.learnAll_n:∀ (xs:List Int) (s:KnS),(s.learnAll xs).n=s.n
 | [],_=>rfl
 | x::xs,s=>(KnS.learnAll_n xs (s.learnM x)).trans (s.learnM_n x)
theorem KnS.learnM_m (s:KnS) {x t:Int} (h:x≠t):mcnt (s.learnM x).m t=mcnt s.m t:=by
 unfold KnS.learnM
 split
 ·simp only [mcnt_set]
  rw [if_neg (Ne.symm h)]
 ·rfl
theorem KnS.learnAll_m {t:Int}:∀ (xs:List Int) (s:KnS),(∀ x∈xs,x≠t)→mcnt (s.learnAll xs).m t=mcnt s.m t
 | [],_,_=>rfl
 | x::xs,s,h=>(KnS.learnAll_m xs (s.learnM x) fun y hy=>h y (List.mem_cons_of_mem _ hy)).trans (s.learnM_m (h x (List.mem_cons_self ..)))
theorem KnS.fails_m (s:KnS) (f t:Int):(s.fails f t).m=s.m:=by
 unfold KnS.fails KnS.learnN
 split
 ·rfl
 ·split
  ·split <;> rfl
  ·rfl
theorem KnS.fails_n (s:KnS) (f t:Int) {x:Int} (h:x≠t):mcnt (s.fails f t).n x=mcnt s.n x:=by
 unfold KnS.fails KnS.learnN
 split
 ·rfl
 ·split
  ·split
   ·simp only [mcnt_set]
    rw [if_neg h]
   ·rfl
  ·rfl
theorem KnS.left_same {g:Hist'} {s s':KnS} {t k:Nat} (h:∀ x:Int,x≠t→mcnt s.n x=mcnt s'.n x):s.left g t k=s'.left g t k:=by
 unfold KnS.left
 refine List.filter_congr fun x hx=>?_
 rw [h x (ofH_ne hx)]
def KnS.told (s:KnS) (g:Hist') (t:Nat) (l:List Op'):Nat→Bool × List Int
 | 0=>(false,[])
 | k+1=>match l[k]? with
  | some o =>
   if o.v.kind == 2 || !outerB g t k then s.told g t l k else
   if (s.left g t k).length=0 then (true,(s.told g t l k).2) else
   if (s.left g t k).length == 1 && decide (0≤(s.left g t k).headD 0) then ((s.told g t l k).1,(s.told g t l k).2++[(s.left g t k).headD 0]) else s.told g t l k
  | none=>s.told g t l k
theorem KnS.left_mem {g:Hist'} {s:KnS} {t k:Nat} (h:(s.left g t k).length≠0):(s.left g t k).headD 0≠t:=by
 cases hl:s.left g t k with
 | nil=>rw [hl] at h;exact absurd rfl h
 | cons x r =>
  have hm:x∈s.left g t k:=by rw [hl];exact List.mem_cons_self ..
  exact ofH_ne (List.mem_filter.1 hm).1
theorem KnS.told_ne {g:Hist'} {s:KnS} {t:Nat} {l:List Op'}:∀ k,∀ x∈(s.told g t l k).2,x≠t
 | 0,x,h=>by simp [KnS.told] at h
 | k+1,x,h=>by
  simp only [KnS.told] at h
  split at h
  ·split at h
   ·exact KnS.told_ne k x h
   ·split at h
    ·exact KnS.told_ne k x h
    ·rename_i h0
     split at h
     ·rcases List.mem_append.1 h with h | h
      ·exact KnS.told_ne k x h
      ·rw [List.mem_singleton.1 h]
       exact KnS.left_mem h0
     ·exact KnS.told_ne k x h
  ·exact KnS.told_ne k x h
theorem KnS.ops_told {g:Hist'} (s:KnS) (f:Int) (t:Nat) (l:List Op'):∀ k,s.ops g f t l k=(if (s.told g t l k).1 then s.fails f t else s).learnAll (if 0<mcnt s.m t then (s.told g t l k).2 else [])
 | 0=>by
  simp only [KnS.ops,KnS.told,Bool.false_eq_true,if_false]
  split <;> rfl
 | k+1=>by
  cases ho:l[k]? with
  | none =>
   simp only [KnS.ops,KnS.told,ho]
   exact KnS.ops_told s f t l k
  | some o =>
   simp only [KnS.ops,KnS.told,ho]
   rw [KnS.ops_told s f t l k]
   have hne:=KnS.told_ne (g:=g) (s:=s) (t:=t) (l:=l) k
   generalize hB:(if (s.told g t l k).1 then s.fails f t else s)=B
   generalize hL:(if 0<mcnt s.m t then (s.told g t l k).2 else [])=L
   have hBn:∀ x:Int,x≠t→mcnt B.n x=mcnt s.n x:=fun x hx=>by
    rw [← hB];split
    ·exact s.fails_n f t hx
    ·rfl
   have hBm:mcnt B.m t=mcnt s.m t:=by
    rw [← hB];split
    ·rw [s.fails_m]
    ·rfl
   have hLne:∀ x∈L,x≠(t:Int):=fun x hx=>by
    rw [← hL] at hx
    split at hx
    ·exact hne x hx
    ·simp at hx
   have hleft:(B.learnAll L).left g t k=s.left g t k:=KnS.left_same fun x hx=>by rw [KnS.learnAll_n];exact hBn x hx
   have hm:mcnt (B.learnAll L).m t=mcnt s.m t:=by rw [KnS.learnAll_m L B hLne];exact hBm
   have hBf:B.fails f t=s.fails f t:=by
    rw [← hB];split
    ·exact s.fails_fails f t
    ·rfl
   unfold KnS.op
   rw [hleft,hm]
   by_cases c0:(o.v.kind == 2 || !outerB g t k)=true
   ·rw [if_pos c0,if_pos c0,hB,hL]
   ·rw [if_neg c0,if_neg c0]
    by_cases c1:(s.left g t k).length=0
    ·rw [if_pos c1,if_pos c1,KnS.fails_learnAll,hBf]
     simp only [if_true]
     rw [hL]
    ·rw [if_neg c1,if_neg c1]
     by_cases c2:((s.left g t k).length == 1 && decide (0≤(s.left g t k).headD 0))=true
     ·rw [if_pos c2]
      simp only [hB]
      simp only [Bool.and_eq_true] at c2
      by_cases c3:0<mcnt s.m t
      ·rw [if_pos (by simp only [c2.1,c2.2,c3,decide_true,Bool.and_self]),if_pos c3,← hL,if_pos c3,KnS.learnAll_append]
      ·rw [if_neg (by simp [c3]),if_neg c3,← hL,if_neg c3]
     ·rw [if_neg c2,hB,hL,if_neg ?_]
      intro h
      simp only [Bool.and_eq_true] at h c2
      exact c2 ⟨h.1,h.2.1⟩
theorem told_sole {g:Hist'} {s:KnS} {r:RwS} {t:Nat} (hd:∀ i,i<g.ts.length→i≠t→r.d.getD i false=decide (0<mcnt s.n i)) (hn:∀ x:Int,x<0→mcnt s.n x=0) (l:List Op'):∀ k,s.told g t l k=r.sole g t l k
 | 0=>rfl
 | k+1=>by
  have ih:=told_sole hd hn l k
  cases ho:l[k]? with
  | none=>simp only [KnS.told,RwS.sole,ho,ih]
  | some o =>
   have hl:=left_alike (k:=k) hd hn
   simp only [KnS.told,RwS.sole,ho,ih,← hl]
   rw [Bool.or_comm (!outerB g t k) (o.v.kind == 2)]
   by_cases c0:(o.v.kind == 2 || !outerB g t k)=true
   ·rw [if_pos c0,if_pos c0]
   ·rw [if_neg c0,if_neg c0]
    by_cases c1:(s.left g t k).length=0
    ·rw [if_pos c1]
     simp [c1]
    ·rw [if_neg c1]
     have c1':((s.left g t k).length == 0)=false:=by simpa using c1
     rw [c1',Bool.or_false]
     split <;> rfl
def KnS.Pos (s:KnS):Prop:=∀ x:Int,0≤mcnt s.m x∧0≤mcnt s.n x
theorem KnS.Pos.learnM {s:KnS} (h:s.Pos) (t:Int):(s.learnM t).Pos:=by
 unfold KnS.learnM
 split
 ·intro x
  refine ⟨?_,(h x).2⟩
  simp only [mcnt_set]
  split
  ·decide
  ·exact (h x).1
 ·exact h
theorem KnS.Pos.learnN {s:KnS} (h:s.Pos) (t:Int):(s.learnN t).Pos:=by
 unfold KnS.learnN
 split
 ·intro x
  refine ⟨(h x).1,?_⟩
  simp only [mcnt_set]
  split
  ·decide
  ·exact (h x).2
 ·exact h
theorem KnS.Pos.fails {s:KnS} (h:s.Pos) (f t:Int):(s.fails f t).Pos:=by
 unfold KnS.fails
 split
 ·exact h
 ·split
  ·exact h.learnN t
  ·exact h
theorem KnS.Pos.learnAll:∀ (xs:List Int) {s:KnS},s.Pos→(s.learnAll xs).Pos
 | [],_,h=>h
 | x::xs,_,h=>KnS.Pos.learnAll xs (h.learnM x)
def RwS.comAll (r:RwS):List Int→RwS
 | []=>r
 | x::xs=>(r.com x.toNat).comAll xs
theorem RwS.com_c {r:RwS} {x t:Nat} (h:r.c.getD t false=true):(r.com x).c.getD t false=true:=by
 unfold RwS.com
 split
 ·exact h
 ·rw [List.getD_eq_getElem?_getD] at h
  simp only [List.getD_eq_getElem?_getD,List.getElem?_set]
  split
  ·rename_i e
   subst e
   split
   ·rfl
   ·rename_i e
    rw [List.getElem?_eq_none (by omega)] at h
    cases h
  ·exact h
theorem RwS.learn_all (t:Nat):∀ (xs:List Int) (r:RwS),r.learn t xs=if r.c.getD t false then r.comAll xs else r
 | [],r=>by simp [RwS.learn,RwS.comAll]
 | x::xs,r=>by
  simp only [RwS.learn,RwS.comAll]
  by_cases h:r.c.getD t false=true
  ·rw [if_pos h,if_pos h]
   have hc:=RwS.com_c (x:=x.toNat) h
   unfold RwS.com at hc ⊢
   by_cases h2:r.c.getD x.toNat false=true
   ·rw [if_pos h2,if_pos h2,RwS.learn_all t xs r,if_pos h]
   ·rw [if_neg h2] at hc
    rw [if_neg h2,if_neg h2,RwS.learn_all t xs,if_pos hc]
  ·rw [if_neg h,if_neg h]
theorem Alike.learnAll {n:Nat}:∀ (xs:List Int) {s:KnS} {r:RwS},Alike n s r→s.Pos→(∀ x∈xs,0≤x∧x<n)→Alike n (s.learnAll xs) (r.comAll xs)
 | [],_,_,h,_,_=>h
 | x::xs,s,r,h,hp,hx=>by
  obtain ⟨h0,h1⟩:=hx x (List.mem_cons_self ..)
  have hl:=h.learnM (t:=x.toNat) (by omega) (hp _).1
  have e:((x.toNat:Nat):Int)=x:=Int.toNat_of_nonneg h0
  rw [e] at hl
  exact Alike.learnAll xs hl (hp.learnM x) fun y hy=>hx y (List.mem_cons_of_mem _ hy)
theorem KnS.left_lt {g:Hist'} {s:KnS} {t k:Nat} (h:(s.left g t k).length≠0):(s.left g t k).headD 0<g.ts.length:=by
 cases hl:s.left g t k with
 | nil=>rw [hl] at h;exact absurd rfl h
 | cons x r =>
  have hm:x∈s.left g t k:=by rw [hl];exact List.mem_cons_self ..
  exact ofH_lt (List.mem_filter.1 hm).1
theorem KnS.told_lt {g:Hist'} {s:KnS} {t:Nat} {l:List Op'}:∀ k,∀ x∈(s.told g t l k).2,0≤x∧x<g.ts.length
 | 0,x,h=>by simp [KnS.told] at h
 | k+1,x,h=>by
  simp only [KnS.told] at h
  split at h
  ·split at h
   ·exact KnS.told_lt k x h
   ·split at h
    ·exact KnS.told_lt k x h
    ·rename_i h0
     split at h
     ·rename_i h1
      simp only [Bool.and_eq_true,decide_eq_true_eq] at h1
      rcases List.mem_append.1 h with h | h
      ·exact KnS.told_lt k x h
      ·rw [List.mem_singleton.1 h]
       exact ⟨h1.2,KnS.left_lt h0⟩
     ·exact KnS.told_lt k x h
  ·exact KnS.told_lt k x h
theorem Alike.txn {g:Hist'} {s:KnS} {r:RwS} (h:Alike g.ts.length s r) (hp:s.Pos) {t:Nat} (ht:t<g.ts.length) (f:Int) (l:List Op') :
 Alike g.ts.length (s.txn g t f l) (r.txn g t f l)∧(s.txn g t f l).Pos:=by
 unfold KnS.txn
 rw [KnS.ops_told]
 generalize hs1:(if (badH g t).isEmpty then s else s.fails f t)=s1
 have hn1:∀ x:Int,x≠t→mcnt s1.n x=mcnt s.n x:=fun x hx=>by
  rw [← hs1];split
  ·rfl
  ·exact s.fails_n f t hx
 have hm1:s1.m=s.m:=by
  rw [← hs1];split
  ·rfl
  ·rw [s.fails_m]
 have hsole:=told_sole (s:=s1) (r:=r) (t:=t) (g:=g) (fun i hi hne=>by rw [h.2.2.2.1 i hi,hn1 i (by omega)]) (fun x hx=>by rw [hn1 x (by omega)];exact h.2.2.2.2.2.2 x hx) l l.length
 have hlt:=KnS.told_lt (g:=g) (s:=s1) (t:=t) (l:=l) l.length
 rw [hsole] at hlt
 rw [hsole,hm1]
 unfold RwS.txn
 rw [RwS.learn_all]
 have base:(if (r.sole g t l l.length).1 then s1.fails f t else s1)=if (r.sole g t l l.length).1 || !(badH g t).isEmpty then s.fails f t else s:=by
  rw [← hs1]
  cases (badH g t).isEmpty <;> cases (r.sole g t l l.length).1 <;> simp [KnS.fails_fails]
 rw [base]
 generalize r.sole g t l l.length=q at hlt ⊢
 have hB:Alike g.ts.length (if q.1 || !(badH g t).isEmpty then s.fails f t else s) (if q.1 || !(badH g t).isEmpty then r.fails f t else r)∧(if q.1 || !(badH g t).isEmpty then s.fails f t else s).Pos∧(if q.1 || !(badH g t).isEmpty then s.fails f t else s).m=s.m:=by
  split
  ·exact ⟨h.fails ht (hp _).2,hp.fails f t,s.fails_m f t⟩
  ·exact ⟨h,hp,rfl⟩
 generalize (if q.1 || !(badH g t).isEmpty then s.fails f t else s)=B at hB ⊢
 generalize (if q.1 || !(badH g t).isEmpty then r.fails f t else r)=R at hB ⊢
 obtain ⟨hA,hP,hM⟩:=hB
 have hc:=hA.2.2.1 t ht
 rw [hM] at hc
 by_cases h0:0<mcnt s.m t
 ·have hc':R.c.getD t false=true:=by rw [hc];simp [h0]
  rw [if_pos h0,if_pos hc']
  exact ⟨hA.learnAll _ hP hlt,hP.learnAll _⟩
 ·have hc':¬ R.c.getD t false=true:=by rw [hc];simp [h0]
  rw [if_neg h0,if_neg hc']
  exact ⟨hA,hP⟩
def RwS.round (r:RwS) (g:Hist'):Nat→RwS
 | 0=>{ r with more:=false }
 | i+1=>match g.ts[i]? with
  | some t=>(r.round g i).txn g i t.f t.ops
  | none=>r.round g i
def RwS.iter (g:Hist'):Nat→RwS→RwS
 | 0,r=>r
 | k+1,r=>if r.more then RwS.iter g k (r.round g g.ts.length) else r
theorem Alike.round {g:Hist'} {s:KnS} {r:RwS} (h:Alike g.ts.length s r) (hp:s.Pos):∀ i,i≤g.ts.length→Alike g.ts.length (s.round g i) (r.round g i)∧(s.round g i).Pos
 | 0,_=>⟨⟨h.1,h.2.1,h.2.2.1,h.2.2.2.1,h.2.2.2.2.1,rfl,h.2.2.2.2.2.2⟩,hp⟩
 | i+1,hi=>by
  obtain ⟨hA,hP⟩:=Alike.round h hp i (by omega)
  simp only [KnS.round,RwS.round,List.getElem?_eq_getElem (show i<g.ts.length by omega)]
  exact hA.txn hP (by omega) _ _
theorem Alike.iter {g:Hist'}:∀ (k:Nat) {s:KnS} {r:RwS},Alike g.ts.length s r→s.Pos→Alike g.ts.length (KnS.iter g k s) (RwS.iter g k r)∧(KnS.iter g k s).Pos
 | 0,_,_,h,hp=>⟨h,hp⟩
 | k+1,s,r,h,hp=>by
  simp only [KnS.iter,RwS.iter,← h.2.2.2.2.2.1]
  split
  ·obtain ⟨hA,hP⟩:=Alike.round h hp g.ts.length (Nat.le_refl _)
   exact Alike.iter k hA hP
  ·exact ⟨h,hp⟩
@[simp] theorem valC_leafs (v:Val'):(valC v).all V.leaf=true:=rfl
end Go.Pv.T
namespace Go.Pv.T
open Go Go.Pv
end Go.Pv.T
namespace Go.Pv.T
open Go Go.Pv
end Go.Pv.T
namespace Go.Pv.T
open Go Go.Pv
def ValsP (ob:Nat→Option Obj') (p:Nat→Prop) (l:List Val') (v:V):Prop:=∃ u,v = .osl (2 * u+1) u 0 l.length 2∧ob (2 * u+1)=some ⟨u,.cells (l.flatMap valC)⟩∧p u
theorem ValsP.frame {ob ob':Nat→Option Obj'} {p p':Nat→Prop} {l:List Val'} {v:V} (h:ValsP ob p l v) (hf:∀ u,p u→ob' (2 * u+1)=ob (2 * u+1)) (hh:∀ u,p u→p' u):ValsP ob' p' l v:=by
 obtain ⟨u,h2,h3,h4⟩:=h
 exact ⟨u,h2,(hf u h4).trans h3,hh u h4⟩
end Go.Pv.T
namespace Go.Pv.T
open Go Go.Pv
end Go.Pv.T
namespace Go.Pv.T
open Go Go.Pv
end Go.Pv.T
namespace Go.Pv.T
open Go Go.Pv
def comB (g:Hist') (cs:List Bool) (i:Nat):Bool:=match g.ts[i]? with
 | some t=>if t.f=3 then cs.getD (numsTo isInfo g.ts i).length false else t.f == 1
 | none=>false
def opR (g:Hist') (lo:List Val') (i k:Nat) (o:Op'):Op':=if o.v.kind=2 then { o with v:=lo.getD (lostAt g i k).length ⟨0,0⟩ } else o
def txnR (g:Hist') (cs:List Bool) (lo:List Val') (i:Nat) (t:Txn'):Txn':={ s:=t.s,f:=if comB g cs i then 1 else 2,nl:=false,ops:=t.ops.mapIdx (opR g lo i) }
def rawH (g:Hist') (cs:List Bool) (lo:List Val'):Hist':=⟨false,g.ss,false,g.ks,g.ts.isEmpty,g.ts.mapIdx (txnR g cs lo)⟩
def loB (v:Val'):Bool:=v.kind == 1 || (v.kind == 0 && v.n == 0)
def hopelessH (g:Hist'):Bool:=(numsTo isCom g.ts g.ts.length).any (fun i=>!(badH g i).isEmpty) || (choR g).any fun c=>c.2.isEmpty
section
variable {g:Hist'} {cs:List Bool} {lo:List Val'}
theorem rawH_len:(rawH g cs lo).ts.length=g.ts.length:=by simp [rawH]
theorem rawH_at {i:Nat} (h:i<g.ts.length):(rawH g cs lo).ts[i]'(by rw [rawH_len];exact h)=txnR g cs lo i g.ts[i]:=by simp [rawH]
theorem rawH_at? (i:Nat):(rawH g cs lo).ts[i]? = (g.ts[i]?).map (txnR g cs lo i):=by simp [rawH]
theorem txnR_len (i:Nat) (t:Txn'):(txnR g cs lo i t).ops.length=t.ops.length:=by simp [txnR]
theorem opR_w (i k:Nat) (o:Op'):(opR g lo i k o).w=o.w:=by unfold opR;split <;> rfl
theorem opR_key (i k:Nat) (o:Op'):(opR g lo i k o).key=o.key:=by unfold opR;split <;> rfl
theorem opR_wk (i k:Nat) (key:Int) (o:Op'):wkB key (opR g lo i k o)=wkB key o:=by unfold wkB;rw [opR_w,opR_key]
theorem opR_same {i k:Nat} {o:Op'} (h:¬ o.v.kind=2):opR g lo i k o=o:=by unfold opR;rw [if_neg h]
theorem loB_val {v:Val'} (h:loB v=true):valB v=true:=by
 unfold loB at h;unfold valB
 revert h
 cases v.kind == 1 <;> cases v.kind == 0 <;> cases v.n == 0 <;> simp
theorem getD_lo (hl:lo.all loB=true) (n:Nat):loB (lo.getD n ⟨0,0⟩)=true:=by
 rw [List.getD_eq_getElem?_getD]
 cases h:lo[n]? with
 | none=>rfl
 | some v=>exact List.all_eq_true.1 hl v (List.mem_of_getElem? h)
theorem opR_val {i k:Nat} {o:Op'} (hl:lo.all loB=true) (h:valB o.v=true):valB (opR g lo i k o).v=true:=by
 unfold opR
 split
 ·exact loB_val (getD_lo hl _)
 ·exact h
theorem map_idx {α β:Type} (f:α→β) (k:Nat→α→α) (h:∀ n x,f (k n x)=f x) (l:List α):(l.mapIdx k).map f=l.map f:=by
 apply List.ext_getElem?
 intro n
 rw [List.getElem?_map,List.getElem?_map,List.getElem?_mapIdx]
 cases l[n]? <;> simp [h]
theorem may_op (hm:mayH g=true) {t:Txn'} {o:Op'} (ht:t∈g.ts) (ho:o∈t.ops):opB g o=true:=by
 unfold mayH at hm
 simp only [Bool.and_eq_true,List.all_eq_true] at hm
 exact hm.2.2.1 o (List.mem_flatMap.2 ⟨t,ht,ho⟩)
theorem rawH_may (hm:mayH g=true) (hl:lo.all loB=true):mayH (rawH g cs lo)=true:=by
 have hop:=fun t o=>@may_op g hm t o
 unfold mayH at hm ⊢
 simp only [Bool.and_eq_true,List.all_eq_true] at hm ⊢
 obtain ⟨h1,h2,h3,h4⟩:=hm
 refine ⟨?_,?_,?_,?_⟩
 ·unfold headsB at h1 ⊢
  rw [rawH_len]
  exact h1
 ·intro x hx
  obtain ⟨i,hi⟩:=List.mem_iff_getElem?.1 hx
  rw [rawH_at?] at hi
  obtain ⟨t,ht,rfl⟩:=Option.map_eq_some_iff.1 hi
  have:=h2 t (List.mem_of_getElem? ht)
  unfold txnB at this ⊢
  rw [txnR_len]
  simp only [Bool.and_eq_true,decide_eq_true_eq] at this ⊢
  refine ⟨this.1,?_,?_,this.2.2.2⟩ <;> (simp only [txnR];split <;> decide)
 ·intro x hx
  unfold opsOf at hx
  rw [List.mem_flatMap] at hx
  obtain ⟨y,hy,hx⟩:=hx
  obtain ⟨i,hi⟩:=List.mem_iff_getElem?.1 hy
  rw [rawH_at?] at hi
  obtain ⟨t,ht,rfl⟩:=Option.map_eq_some_iff.1 hi
  obtain ⟨k,hk⟩:=List.mem_iff_getElem?.1 hx
  simp only [txnR,List.getElem?_mapIdx] at hk
  obtain ⟨o,ho,rfl⟩:=Option.map_eq_some_iff.1 hk
  have:=hop t o (List.mem_of_getElem? ht) (List.mem_of_getElem? ho)
  unfold opB at this ⊢
  simp only [Bool.and_eq_true] at this ⊢
  rw [opR_key,opR_w]
  refine ⟨this.1,opR_val hl this.2.1,?_⟩
  cases hw:o.w
  ·rfl
  ·rw [hw] at this
   have hk1:o.v.kind=1:=by simpa using this.2.2
   rw [opR_same (by omega)]
   simp [hk1]
 ·unfold usedB at h4 ⊢
  have e1:usesS (rawH g cs lo)=usesS g:=map_idx (fun t:Txn'=>t.s) (txnR g cs lo) (fun _ _=>rfl) g.ts
  have e2:usesK (rawH g cs lo)=usesK g:=by
   unfold usesK opsOf
   rw [List.map_flatMap,List.map_flatMap,List.flatMap_def,List.flatMap_def]
   congr 1
   exact map_idx (fun t:Txn'=>t.ops.map (·.key)) (txnR g cs lo) (fun n t=>map_idx (fun o:Op'=>o.key) (opR g lo n) (fun k o=>opR_key n k o) t.ops) g.ts
  rw [e1,e2]
  exact h4
end
theorem mset_cons {α:Type} (k0:Int) (b:α) (m:List (Int × α)) (k:Int) (a:α):mset ((k0,b)::m) k a=if k=k0 then (k,a)::m else (k0,b)::mset m k a:=by
 unfold mset
 rw [mfind]
 by_cases h:k=k0
 ·simp [h]
 ·rw [if_neg h,if_neg h]
  cases mfind m k <;> simp
theorem mval_mset {α:Type} (k:Int) (a:α) (k':Int):∀ m:List (Int × α),(mfind (mset m k a) k').map (·.2)=if k'=k then some a else (mfind m k').map (·.2)
 | []=>by
  by_cases h:k'=k <;> simp [mset,mfind,h]
 | (k0,b)::m=>by
  rw [mset_cons]
  have ih:=mval_mset k a k' m
  by_cases h:k=k0
  ·subst h
   rw [if_pos rfl,mfind,mfind]
   by_cases h':k'=k <;> simp [h']
  ·rw [if_neg h,mfind,mfind]
   by_cases h':k'=k0
   ·subst h'
    simp [show ¬ k'=k from fun e=>h e.symm]
   ·rw [if_neg h',if_neg h']
    simp only [Option.map_map]
    have e:((fun x:Nat × α=>x.2) ∘ fun p:Nat × α=>(p.1+1,p.2))=fun x=>x.2:=rfl
    rw [e]
    exact ih
theorem mcnt_mset (m:List (Int × Int)) (k a k':Int):mcnt (mset m k a) k'=if k'=k then a else mcnt m k':=by
 unfold mcnt
 rw [mval_mset]
 split <;> rfl
def Cnt (m:List (Int × Int)) (L:List Int):Prop:=∀ k,mcnt m k=(L.count k:Nat)
theorem Cnt.nil:Cnt [] []:=fun _=>rfl
theorem Cnt.le {m:List (Int × Int)} {L:List Int} (h:Cnt m L) (k:Int):0≤mcnt m k∧mcnt m k≤L.length:=by
 rw [h k]
 have:=List.count_le_length (a:=k) (l:=L)
 omega
theorem mem_modify {α:Type} {k:α→α} {y:α}:∀ {l:List α} {i:Nat},y∈l.modify i k→y∈l∨∃ x,l[i]? = some x∧y=k x
 | [],i,h=>by simp at h
 | x::l,0,h=>by
  rw [List.modify_cons] at h
  simp only [if_true,List.mem_cons] at h
  rcases h with rfl | h
  ·exact .inr ⟨x,rfl,rfl⟩
  ·exact .inl (List.mem_cons_of_mem _ h)
 | x::l,i+1,h=>by
  rw [List.modify_cons] at h
  simp only [Nat.add_one_ne_zero,if_false,Nat.add_sub_cancel,List.mem_cons] at h
  rcases h with rfl | h
  ·exact .inl (List.mem_cons_self ..)
  ·rcases mem_modify h with h | ⟨z,h1,h2⟩
   ·exact .inl (List.mem_cons_of_mem _ h)
   ·exact .inr ⟨z,by simpa using h1,h2⟩
theorem opAt_of {g:Hist'} {a b:Nat} {t:Txn'} {o:Op'} (hm:mayH g=true) (ht:g.ts[a]? = some t) (ho:t.ops[b]? = some o):opAt g a b=some o:=by
 obtain ⟨h1,h2⟩:=List.getElem?_eq_some_iff.1 ht
 obtain ⟨h3,h4⟩:=List.getElem?_eq_some_iff.1 ho
 unfold opAt
 simp only [Int.toNat_natCast]
 have hg:g.ts.getD a ⟨0,0,true,[]⟩=t:=by rw [getD_lt h1,h2]
 have hlt:b<(g.ts.getD a ⟨0,0,true,[]⟩).ops.length:=by rw [hg];exact h3
 rw [hm,if_pos (by simp only [Bool.true_and,Bool.and_eq_true,decide_eq_true_eq];omega),hg]
 exact ho
section
variable {g:Hist'} {cs:List Bool} {lo:List Val'}
theorem mem_nums {p:Txn'→Bool} {l:List Txn'} {x:Int}:∀ {n:Nat},x∈numsTo p l n ↔ ∃ i:Nat,i<n∧x=i∧∃ t,l[i]? = some t∧p t=true
 | 0=>by simp [numsTo]
 | n+1=>by
  simp only [numsTo,List.mem_append,mem_nums (n:=n)]
  constructor
  ·rintro (⟨i,h1,h2⟩ | h)
   ·exact ⟨i,by omega,h2⟩
   ·cases hn:l[n]? with
    | none=>rw [hn] at h;simp at h
    | some t =>
     rw [hn] at h
     simp only at h
     split at h
     ·rename_i hp
      exact ⟨n,by omega,by simpa using h,t,hn,hp⟩
     ·simp at h
  ·rintro ⟨i,h1,h2,t,ht,hp⟩
   rcases Nat.lt_succ_iff_lt_or_eq.1 h1 with h | h
   ·exact .inl ⟨i,h,h2,t,ht,hp⟩
   ·subst h
    right
    rw [ht]
    simp [hp,h2]
theorem raw_f (i:Nat) (t:Txn'):(txnR g cs lo i t).f=if comB g cs i then 1 else 2:=rfl
theorem raw_rawTo (hm:mayH g=true) {i:Nat} {t:Txn'} (ht:t∈g.ts) (key:Int):∀ n,rawTo key (txnR g cs lo i t).ops n=rawTo key t.ops n
 | 0=>rfl
 | n+1=>by
  rw [rawTo,rawTo,raw_rawTo hm ht key n]
  simp only [txnR,List.getElem?_mapIdx]
  cases ho:t.ops[n]? with
  | none=>rfl
  | some o =>
   simp only [Option.map_some,opR_wk]
   split
   ·rename_i hw
    have hb:=may_op hm ht (List.mem_of_getElem? ho)
    unfold opB at hb
    unfold wkB at hw
    simp only [Bool.and_eq_true] at hw hb
    have hk:o.v.kind=1:=by simpa [hw.1] using hb.2.2
    rw [opR_same (by omega)]
   ·rfl
theorem raw_any {i:Nat} {t:Txn'} (key:Int):(txnR g cs lo i t).ops.any (wkB key)=t.ops.any (wkB key):=by
 have:(txnR g cs lo i t).ops.map (wkB key)=t.ops.map (wkB key):=map_idx (wkB key) (opR g lo i) (fun n x=>opR_wk i n key x) t.ops
 have h:=congrArg (fun l:List Bool=>l.any id) this
 simpa [List.any_map] using h
theorem raw_writers {key x:Int} (h:x∈writersH (rawH g cs lo) key):x∈writersH g key∧∃ i:Nat,x=i∧comB g cs i=true:=by
 unfold writersH at h ⊢
 rw [rawH_len] at h
 obtain ⟨i,h1,h2,t',ht',hp⟩:=mem_nums.1 h
 rw [rawH_at?] at ht'
 obtain ⟨t,ht,rfl⟩:=Option.map_eq_some_iff.1 ht'
 unfold wrB at hp
 rw [raw_any,Bool.and_eq_true,raw_f] at hp
 have hc:comB g cs i=true:=by
  cases hc:comB g cs i
  ·rw [hc] at hp;simp at hp
  ·rfl
 refine ⟨mem_nums.2 ⟨i,h1,h2,t,ht,?_⟩,i,h2,hc⟩
 unfold wrB
 rw [hp.2,Bool.and_true]
 unfold comB at hc
 rw [ht] at hc
 simp only at hc
 split at hc
 ·rename_i hf;simp [hf]
 ·have:t.f=1:=by simpa using hc
  simp [this]
theorem raw_leave (hm:mayH g=true) (hl:lo.all loB=true) (key:Int) {i:Nat} (h:i<g.ts.length):leaveOf (rawH g cs lo) key i=leaveOf g key i:=by
 rw [leaveOf_at (rawH_may hm hl) key (by rw [rawH_len];exact h),leaveOf_at hm key h,rawH_at h,txnR_len,raw_rawTo hm (List.getElem_mem h)]
theorem raw_opAt (hm:mayH g=true) (hl:lo.all loB=true) {i k:Nat} {t:Txn'} {o:Op'} (ht:g.ts[i]? = some t) (ho:t.ops[k]? = some o):opAt (rawH g cs lo) i k=some (opR g lo i k o) :=
 opAt_of (rawH_may hm hl) (t:=txnR g cs lo i t) (by rw [rawH_at?,ht];rfl) (by simp [txnR,ho])
theorem raw_outer (hm:mayH g=true) (hl:lo.all loB=true) {i k:Nat} {t:Txn'} {o:Op'} (ht:g.ts[i]? = some t) (ho:t.ops[k]? = some o):outerB (rawH g cs lo) i k=outerB g i k:=by
 obtain ⟨h1,h2⟩:=List.getElem?_eq_some_iff.1 ht
 unfold outerB ownAt
 rw [raw_opAt hm hl ht ho,opAt_of hm ht ho]
 simp only [opR_w,opR_key,Int.toNat_natCast]
 rw [getD_lt (by rw [rawH_len];exact h1),getD_lt h1,rawH_at h1,raw_rawTo hm (List.getElem_mem h1)]
theorem raw_of (hm:mayH g=true) (hl:lo.all loB=true) {i k:Nat} {t:Txn'} {o:Op'} (ht:g.ts[i]? = some t) (ho:t.ops[k]? = some o) (h2:¬ o.v.kind=2) {x:Int} (h:x∈ofH (rawH g cs lo) i k):x∈ofH g i k∧(x = -1∨∃ j:Nat,x=j∧comB g cs j=true):=by
 unfold ofH at h ⊢
 rw [raw_opAt hm hl ht ho,opR_same h2] at h
 rw [opAt_of hm ht ho]
 simp only at h ⊢
 split at h
 ·simp at h
 ·rename_i hw
  rw [if_neg hw]
  unfold ofL at h ⊢
  rw [List.mem_append] at h ⊢
  rcases h with h | h
  ·refine ⟨.inl h,.inl ?_⟩
   unfold ofStart at h
   split at h
   ·simp at h
   ·simpa using h
  ·obtain ⟨hx,hf⟩:=List.mem_filter.1 h
   obtain ⟨hx',j,rfl,hc⟩:=raw_writers hx
   have hj:j<g.ts.length:=by
    obtain ⟨i',h1,h2,_⟩:=mem_nums.1 hx'
    omega
   refine ⟨.inr (List.mem_filter.2 ⟨hx',?_⟩),.inr ⟨j,rfl,hc⟩⟩
   rw [raw_leave hm hl _ hj] at hf
   exact hf
theorem badTo_mem {ops:List Op'} {x:Int}:∀ {n:Nat},x∈badTo ops n ↔ ∃ k:Nat,k<n∧x=k∧∃ o,ops[k]? = some o∧badO ops k o=true
 | 0=>by simp [badTo]
 | n+1=>by
  simp only [badTo,List.mem_append,badTo_mem (n:=n)]
  constructor
  ·rintro (⟨i,h1,h2⟩ | h)
   ·exact ⟨i,by omega,h2⟩
   ·cases hn:ops[n]? with
    | none=>rw [hn] at h;simp at h
    | some t =>
     rw [hn] at h
     simp only at h
     split at h
     ·rename_i hp
      exact ⟨n,by omega,by simpa using h,t,hn,hp⟩
     ·simp at h
  ·rintro ⟨i,h1,h2,t,ht,hp⟩
   rcases Nat.lt_succ_iff_lt_or_eq.1 h1 with h | h
   ·exact .inl ⟨i,h,h2,t,ht,hp⟩
   ·subst h
    right
    rw [ht]
    simp [hp,h2]
theorem badH_at (hm:mayH g=true) {i:Nat} {t:Txn'} (ht:g.ts[i]? = some t):badH g i=badTo t.ops t.ops.length:=by
 obtain ⟨h1,h2⟩:=List.getElem?_eq_some_iff.1 ht
 unfold badH opsAt
 rw [hm,if_pos (by simp;omega)]
 simp only [Int.toNat_natCast]
 rw [getD_lt h1,h2]
theorem raw_bad (hm:mayH g=true) (hl:lo.all loB=true) {i:Nat} {t:Txn'} (ht:g.ts[i]? = some t) (h:¬ badH g i=[]):¬ badH (rawH g cs lo) i=[]:=by
 rw [badH_at hm ht] at h
 rw [badH_at (rawH_may hm hl) (by rw [rawH_at?,ht];rfl)]
 obtain ⟨x,hx⟩:=List.exists_mem_of_ne_nil _ h
 obtain ⟨k,h1,h2,o,ho,hb⟩:=badTo_mem.1 hx
 have:x∈badTo (txnR g cs lo i t).ops (txnR g cs lo i t).ops.length:=by
  refine badTo_mem.2 ⟨k,by rw [txnR_len];exact h1,h2,opR g lo i k o,by simp [txnR,ho],?_⟩
  have h2k:¬ o.v.kind=2:=by
   unfold badO at hb
   simp only [Bool.and_eq_true] at hb
   simpa using hb.2.1
  rw [opR_same h2k]
  unfold badO at hb ⊢
  rw [raw_rawTo hm (List.mem_of_getElem? ht)]
  exact hb
 intro e
 rw [e] at this
 simp at this
theorem readIn_mem {i:Nat} {p:Int × Int}:∀ {n:Nat},p∈readIn g i n ↔ ∃ k:Nat,k<n∧p=((i:Int),(k:Int))∧outerB g i k=true
 | 0=>by simp [readIn]
 | n+1=>by
  simp only [readIn,List.mem_append,readIn_mem (n:=n)]
  constructor
  ·rintro (⟨k,h1,h2⟩ | h)
   ·exact ⟨k,by omega,h2⟩
   ·split at h
    ·rename_i hp
     exact ⟨n,by omega,by simpa using h,hp⟩
    ·simp at h
  ·rintro ⟨k,h1,h2,hp⟩
   rcases Nat.lt_succ_iff_lt_or_eq.1 h1 with h | h
   ·exact .inl ⟨k,h,h2,hp⟩
   ·subst h
    right
    simp [hp,h2]
theorem readAt_mem {i k:Nat} {t:Txn'} (ht:g.ts[i]? = some t) (hc:isCom t=true) (hk:k<t.ops.length) (ho:outerB g i k=true):∀ {n:Nat},i<n→((i:Int),(k:Int))∈readAt g n
 | 0,h=>by omega
 | n+1,h=>by
  simp only [readAt,List.mem_append]
  rcases Nat.lt_succ_iff_lt_or_eq.1 h with h | h
  ·exact .inl (readAt_mem ht hc hk ho h)
  ·subst h
   right
   rw [ht]
   simp only [hc,if_true]
   exact readIn_mem.2 ⟨k,hk,rfl,ho⟩
end
section
variable {g:Hist'} {cs:List Bool} {lo:List Val'}
structure Snd (g:Hist') (cs:List Bool) (s:KnS):Prop where
 m:∀ x:Int,0<mcnt s.m x→∃ i:Nat,x=i∧comB g cs i=true
 n:∀ x:Int,0<mcnt s.n x→∃ i:Nat,x=i∧comB g cs i=false
 h:s.hop=false
theorem Snd.learnM {s:KnS} (h:Snd g cs s) {i:Nat} (hi:comB g cs i=true):Snd g cs (s.learnM i):=by
 unfold KnS.learnM
 split
 ·refine ⟨fun x hx=>?_,h.n,h.h⟩
  simp only [mcnt_set] at hx
  split at hx
  ·rename_i e;exact ⟨i,e,hi⟩
  ·exact h.m x hx
 ·exact h
theorem Snd.learnN {s:KnS} (h:Snd g cs s) {i:Nat} (hi:comB g cs i=false):Snd g cs (s.learnN i):=by
 unfold KnS.learnN
 split
 ·refine ⟨h.m,fun x hx=>?_,h.h⟩
  simp only [mcnt_set] at hx
  split at hx
  ·rename_i e;exact ⟨i,e,hi⟩
  ·exact h.n x hx
 ·exact h
theorem Snd.fails {s:KnS} (h:Snd g cs s) {i:Nat} {t:Txn'} (ht:g.ts[i]? = some t) (hi:comB g cs i=false):Snd g cs (s.fails t.f i):=by
 unfold KnS.fails
 split
 ·rename_i hf
  unfold comB at hi
  rw [ht] at hi
  simp [hf] at hi
 ·split
  ·exact h.learnN hi
  ·exact h
theorem hope (h:hopelessH (rawH g cs lo)=false):(∀ i:Nat,i<g.ts.length→comB g cs i=true→badH (rawH g cs lo) i=[])∧∀ p∈readH (rawH g cs lo),¬ ofH (rawH g cs lo) p.1 p.2=[]:=by
 unfold hopelessH at h
 rw [Bool.or_eq_false_iff,List.any_eq_false,List.any_eq_false] at h
 constructor
 ·intro i hi hc
  have:=h.1 (i:Int) (mem_nums.2 ⟨i,by rw [rawH_len];exact hi,rfl,txnR g cs lo i g.ts[i],by rw [rawH_at?,List.getElem?_eq_getElem hi];rfl,by unfold isCom;rw [raw_f,hc];rfl⟩)
  simpa using this
 ·intro p hp e
  have:=h.2 (false,ofH (rawH g cs lo) p.1 p.2) (List.mem_map.2 ⟨p,hp,rfl⟩)
  simp [e] at this
theorem left_some (hm:mayH g=true) (hl:lo.all loB=true) (hh:hopelessH (rawH g cs lo)=false) {s:KnS} (h:Snd g cs s) {i k:Nat} {t:Txn'} {o:Op'} (ht:g.ts[i]? = some t) (ho:t.ops[k]? = some o) (h2:¬ o.v.kind=2) (hu:outerB g i k=true) (hc:comB g cs i=true) :
 ∃ x∈s.left g i k,x = -1∨∃ j:Nat,x=j∧comB g cs j=true:=by
 have hne:=(hope hh).2 ((i:Int),(k:Int)) (readAt_mem (t:=txnR g cs lo i t) (by rw [rawH_at?,ht];rfl) (by unfold isCom;rw [raw_f,hc];rfl) (by rw [txnR_len];exact (List.getElem?_eq_some_iff.1 ho).1) (by rw [raw_outer hm hl ht ho];exact hu) (by rw [rawH_len];exact (List.getElem?_eq_some_iff.1 ht).1))
 obtain ⟨x,hx⟩:=List.exists_mem_of_ne_nil _ hne
 obtain ⟨h3,h4⟩:=raw_of hm hl ht ho h2 hx
 refine ⟨x,List.mem_filter.2 ⟨h3,?_⟩,h4⟩
 simp only [Bool.not_eq_true',decide_eq_false_iff_not]
 intro hn
 obtain ⟨j,hj,hjc⟩:=h.n x hn
 rcases h4 with e | ⟨j',e,hc'⟩
 ·omega
 ·have:j=j':=by omega
  subst this
  rw [hjc] at hc'
  cases hc'
theorem Snd.op (hm:mayH g=true) (hl:lo.all loB=true) (hh:hopelessH (rawH g cs lo)=false) {s:KnS} (h:Snd g cs s) {i k:Nat} {t:Txn'} {o:Op'} (ht:g.ts[i]? = some t) (ho:t.ops[k]? = some o):Snd g cs (s.op g t.f i k o):=by
 unfold KnS.op
 split
 ·exact h
 ·rename_i hc
  simp only [Bool.or_eq_true,not_or,beq_iff_eq,Bool.not_eq_true',Bool.not_eq_false] at hc
  have key:=left_some hm hl hh h ht ho hc.1 hc.2
  split
  ·rename_i h0
   refine h.fails ht ?_
   cases hci:comB g cs i
   ·rfl
   ·obtain ⟨x,hx,_⟩:=key hci
    have:=List.length_pos_of_mem hx
    omega
  ·split
   ·rename_i h1
    simp only [Bool.and_eq_true,decide_eq_true_eq,beq_iff_eq] at h1
    obtain ⟨i',e,hci⟩:=h.m i h1.2.2
    have:i'=i:=by omega
    subst this
    obtain ⟨x,hx,hx2⟩:=key hci
    obtain ⟨y,hy⟩:=List.length_eq_one_iff.1 h1.1
    rw [hy] at hx h1 ⊢
    have hxy:x=y:=by simpa using hx
    subst hxy
    rcases hx2 with e | ⟨j,e,hj⟩
    ·have:=h1.2.1
     simp only [List.headD_cons] at this
     omega
    ·simp only [List.headD_cons]
     rw [e]
     exact h.learnM hj
   ·exact h
theorem Snd.ops (hm:mayH g=true) (hl:lo.all loB=true) (hh:hopelessH (rawH g cs lo)=false) {s:KnS} (h:Snd g cs s) {i:Nat} {t:Txn'} (ht:g.ts[i]? = some t):∀ n,Snd g cs (s.ops g t.f i t.ops n)
 | 0=>h
 | n+1=>by
  simp only [KnS.ops]
  split
  ·rename_i o ho
   exact (Snd.ops hm hl hh h ht n).op hm hl hh ht ho
  ·exact Snd.ops hm hl hh h ht n
theorem Snd.txn (hm:mayH g=true) (hl:lo.all loB=true) (hh:hopelessH (rawH g cs lo)=false) {s:KnS} (h:Snd g cs s) {i:Nat} {t:Txn'} (ht:g.ts[i]? = some t):Snd g cs (s.txn g i t.f t.ops):=by
 unfold KnS.txn
 refine Snd.ops hm hl hh ?_ ht _
 split
 ·exact h
 ·rename_i hb
  refine h.fails ht ?_
  cases hci:comB g cs i
  ·rfl
  ·have h1:=raw_bad (cs:=cs) hm hl ht (by simpa using hb)
   exact absurd ((hope hh).1 i (List.getElem?_eq_some_iff.1 ht).1 hci) h1
theorem Snd.round (hm:mayH g=true) (hl:lo.all loB=true) (hh:hopelessH (rawH g cs lo)=false) {s:KnS} (h:Snd g cs s):∀ n,Snd g cs (s.round g n)
 | 0=>⟨h.m,h.n,h.h⟩
 | n+1=>by
  simp only [KnS.round]
  split
  ·rename_i t ht
   exact (Snd.round hm hl hh h n).txn hm hl hh ht
  ·exact Snd.round hm hl hh h n
theorem Snd.iter (hm:mayH g=true) (hl:lo.all loB=true) (hh:hopelessH (rawH g cs lo)=false):∀ (n:Nat) {s:KnS},Snd g cs s→Snd g cs (KnS.iter g n s)
 | 0,_,h=>h
 | n+1,s,h=>by
  simp only [KnS.iter]
  split
  ·exact Snd.iter hm hl hh n (h.round hm hl hh _)
  ·exact h
end
abbrev Cs':=List (Bool × List Int)
def hd1 (c:Bool × List Int):Int:=c.2.headD 0
def nextL:Cs'→List Int→Option (List Int)
 | c::cs,m::ms=>match nextL cs ms with
  | some r=>some (m::r)
  | none=>if idxI c.2 m 0+1<c.2.length then some (c.2.getD (idxI c.2 m 0+1).toNat 0::cs.map hd1) else none
 | _,_=>none
end Go.Pv.T
namespace Go.Pv.T
open Go Go.Pv
end Go.Pv.T
namespace Go.Pv.T
open Go Go.Pv
end Go.Pv.T
namespace Go.Pv.T
open Go Go.Pv
def andTo (f:Nat→Bool):Nat→Bool
 | 0=>true
 | k+1=>andTo f k && f k
theorem andTo_iff {f:Nat→Bool}:∀ {n:Nat},andTo f n=true ↔ ∀ k,k<n→f k=true
 | 0=>by simp [andTo]
 | n+1=>by
  rw [andTo,Bool.and_eq_true,andTo_iff]
  constructor
  ·rintro ⟨h,h'⟩ k hk
   rcases Nat.lt_or_ge k n with h1 | h1
   ·exact h k h1
   ·have:k=n:=by omega
    exact this ▸ h'
  ·exact fun h=>⟨fun k hk=>h k (by omega),h n (by omega)⟩
theorem andTo_false {f:Nat→Bool} {k n:Nat} (hk:k<n) (h:f k=false):andTo f n=false:=by
 cases e:andTo f n with
 | false=>rfl
 | true=>rw [andTo_iff.1 e k hk] at h;cases h
theorem andTo_congr {f f':Nat→Bool} {n:Nat} (h:∀ k,k<n→f k=f' k):andTo f n=andTo f' n:=by
 rw [Bool.eq_iff_iff,andTo_iff,andTo_iff]
 exact ⟨fun a k hk=>h k hk ▸ a k hk,fun a k hk=>(h k hk).symm ▸ a k hk⟩
def filTo (f:Nat→Bool):Nat→List Int
 | 0=>[]
 | k+1=>filTo f k++(if f k then [(k:Int)] else [])
theorem filTo_mem {f:Nat→Bool} {x:Int}:∀ {n:Nat},x∈filTo f n ↔ ∃ k:Nat,k<n∧x=k∧f k=true
 | 0=>by simp [filTo]
 | n+1=>by
  rw [filTo,List.mem_append,filTo_mem]
  constructor
  ·rintro (⟨k,h1,h2,h3⟩ | h)
   ·exact ⟨k,by omega,h2,h3⟩
   ·cases hf:f n
    ·simp [hf] at h
    ·simp [hf] at h;exact ⟨n,by omega,h,hf⟩
  ·rintro ⟨k,h1,h2,h3⟩
   rcases Nat.lt_or_ge k n with h | h
   ·exact .inl ⟨k,h,h2,h3⟩
   ·have:k=n:=by omega
    subst this
    exact .inr (by simp [h3,h2])
def comAt (g:Hist') (a:Nat):Bool:=match g.ts[a]? with | some t=>isCom t | none=>false
def sesAt (g:Hist') (a:Nat):Int:=match g.ts[a]? with | some t=>t.s | none=>0
def thatAt (p:Txn'→Bool) (ts:List Txn') (a:Nat):Bool:=match ts[a]? with | some t=>p t | none=>false
theorem numsTo_fil (p:Txn'→Bool) (ts:List Txn'):∀ n,numsTo p ts n=filTo (thatAt p ts) n
 | 0=>rfl
 | n+1=>by
  rw [numsTo,filTo,numsTo_fil p ts n]
  congr 1
  unfold thatAt
  cases ts[n]? <;> rfl
theorem comAt_lt {g:Hist'} {a:Nat} (h:comAt g a=true):a<g.ts.length:=by
 unfold comAt at h
 cases h':g.ts[a]? with
 | none=>rw [h'] at h;cases h
 | some t=>exact (List.getElem?_eq_some_iff.1 h').1
def comL (g:Hist'):List Int:=numsTo isCom g.ts g.ts.length
theorem comL_mem {g:Hist'} {x:Int}:x∈comL g ↔ ∃ k:Nat,x=k∧comAt g k=true:=by
 rw [comL,numsTo_fil,filTo_mem]
 exact ⟨fun ⟨k,_,h2,h3⟩=>⟨k,h2,h3⟩,fun ⟨k,h2,h3⟩=>⟨k,comAt_lt h3,h2,h3⟩⟩
theorem comH_comL {g:Hist'} (h:wholeH g=true):comH g=comL g:=by rw [comH,if_pos h];rfl
def fromB (R:List (Int × Int)) (M:List Int) (a b:Nat):Bool:=(R.zip M).any fun x=>x.2 == (a:Int) && x.1.1 == (b:Int)
def stepB (g:Hist') (M:List Int) (a b:Nat):Bool:=comAt g a && comAt g b && ((decide (a<b) && sesAt g a == sesAt g b) || fromB (readH g) M a b)
def war (r:Nat→Nat→Bool):Nat→Nat→Nat→Bool
 | 0,b,a=>r a b
 | k+1,b,a=>war r k b a || (war r k b k && war r k k a)
theorem war_trans {r:Nat→Nat→Bool}:∀ {K k:Nat},k<K→∀ {b a:Nat},war r K b k=true→war r K k a=true→war r K b a=true
 | K+1,k,hk,b,a,h1,h2=>by
  simp only [war,Bool.or_eq_true,Bool.and_eq_true] at h1 h2 ⊢
  rcases Nat.lt_or_ge k K with hlt | hge
  ·rcases h1 with h1 | ⟨h1,h1'⟩ <;> rcases h2 with h2 | ⟨h2,h2'⟩
   ·exact .inl (war_trans hlt h1 h2)
   ·exact .inr ⟨war_trans hlt h1 h2,h2'⟩
   ·exact .inr ⟨h1,war_trans hlt h1' h2⟩
   ·exact .inr ⟨h1,h2'⟩
  ·have:k=K:=by omega
   subst this
   rcases h1 with h1 | ⟨h1,h1'⟩ <;> rcases h2 with h2 | ⟨h2,h2'⟩
   ·exact .inr ⟨h1,h2⟩
   ·exact .inr ⟨h1,h2'⟩
   ·exact .inr ⟨h1,h2⟩
   ·exact .inr ⟨h1,h2'⟩
theorem war_one {r:Nat→Nat→Bool} {b a:Nat} (h:r a b=true):∀ K,war r K b a=true
 | 0=>h
 | K+1=>by simp [war,war_one h K]
theorem war_in {r:Nat→Nat→Bool} {p:Nat→Prop} {q:Nat→Prop} (h0:∀ a b,q b→r a b=true→p a) (h1:∀ b,p b→q b):∀ (K:Nat) {b a:Nat},q b→war r K b a=true→p a
 | 0,b,a,hb,h=>h0 a b hb h
 | K+1,b,a,hb,h=>by
  simp only [war,Bool.or_eq_true,Bool.and_eq_true] at h
  rcases h with h | ⟨h,h'⟩
  ·exact war_in h0 h1 K hb h
  ·exact war_in h0 h1 K (h1 _ (war_in h0 h1 K hb h)) h'
def farB (g:Hist') (M:List Int) (t a:Nat):Bool:=war (stepB g M) g.ts.length t a
theorem stepB_com {g:Hist'} {M:List Int} {a b:Nat} (h:stepB g M a b=true):comAt g a=true∧comAt g b=true:=by
 simp only [stepB,Bool.and_eq_true] at h
 exact h.1
theorem farB_com {g:Hist'} {M:List Int} {t a:Nat} (h:farB g M t a=true):comAt g a=true :=
 war_in (r:=stepB g M) (p:=fun a=>comAt g a=true) (q:=fun _=>True) (fun _ _ _ h=>(stepB_com h).1) (fun _ _=>trivial) g.ts.length (b:=t) trivial h
def atO (O:List Int) (t:Int):Int:=idxI O t 0
theorem idxI_or (k:Int):∀ (l:List Int) (n:Nat),idxI l k n = -1∨(n:Int)≤idxI l k n
 | [],n=>.inl rfl
 | x::r,n=>by
  rw [idxI]
  split
  ·exact .inr (Int.le_refl _)
  ·rcases idxI_or k r (n+1) with h | h
   ·exact .inl h
   ·exact .inr (by omega)
theorem atO_ge (O:List Int) (t:Int):-1≤atO O t:=by
 rcases idxI_or t O 0 with h | h <;> unfold atO <;> omega
theorem atO_neg {O:List Int} {t:Int}:atO O t<0 ↔ t ∉ O:=by
 have h:=idxI_neg t O 0
 unfold atO
 constructor
 ·intro h1 h2
  have:O.contains t=true:=by simpa using h2
  rw [this] at h
  simp at h
  omega
 ·intro h1
  have:O.contains t=false:=by simpa using h1
  rw [this] at h
  simpa using h
theorem idxI_inj {a b:Int}:∀ {l:List Int} {n:Nat},0≤idxI l a n→idxI l a n=idxI l b n→a=b
 | [],n,h,_=>by simp [idxI] at h
 | x::r,n,h,h'=>by
  rw [idxI] at h h'
  rw [idxI] at h'
  by_cases h1:a=x
  ·by_cases h2:b=x
   ·rw [h1,h2]
   ·have e1:(a == x)=true:=by simpa using h1
    have e2:(b == x)=false:=by simpa using h2
    rw [e1,e2] at h'
    simp only [if_true,Bool.false_eq_true,if_false] at h'
    rcases idxI_or b r (n+1) with h3 | h3 <;> omega
  ·have e1:(a == x)=false:=by simpa using h1
   by_cases h2:b=x
   ·have e2:(b == x)=true:=by simpa using h2
    rw [e1,e2] at h'
    simp only [if_true,Bool.false_eq_true,if_false] at h'
    rcases idxI_or a r (n+1) with h3 | h3 <;> omega
   ·have e2:(b == x)=false:=by simpa using h2
    rw [e1] at h
    rw [e1,e2] at h'
    simp only [Bool.false_eq_true,if_false] at h h'
    exact idxI_inj h h'
theorem atO_inj {O:List Int} {a b:Int} (ha:a∈O) (h:atO O a=atO O b):a=b:=by
 refine idxI_inj (l:=O) (n:=0) ?_ h
 rcases Int.lt_or_le (idxI O a 0) 0 with h1 | h1
 ·exact absurd ha (atO_neg.1 h1)
 ·exact h1
def keyAt (g:Hist') (p:Int × Int):Int:=match opAt g p.1 p.2 with | some o=>o.key | none=>0
def leavesB (g:Hist') (t key:Int):Bool:=(lastW (opsAt g t).2 key).2
def rcB (R:List (Int × Int)) (M:List Int) (p:Int × Int) (t:Int):Bool:=(R.zip M).any fun x=>x.1.1 == p.1 && (decide (x.1.2<p.2) && x.2 == t)
def seesB (g:Hist') (lvl:Int) (M O:List Int) (p:Int × Int) (t:Nat):Bool :=
 if lvl=1 then rcB (readH g) M p t else if lvl=2 then farB g M p.1.toNat t else if lvl=3 then comAt g t && decide (atO O t<atO O p.1) else false
def seenL (g:Hist') (lvl:Int) (M O:List Int) (p:Int × Int):List Int:=filTo (seesB g lvl M O p) g.ts.length
def okB (g:Hist') (O:List Int) (p:Int × Int) (m t:Int):Bool:=t == m || (!leavesB g t (keyAt g p) || decide (atO O t<atO O m))
def rightB (g:Hist') (lvl:Int) (M O:List Int) (i:Nat):Bool:=match (readH g)[i]?,M[i]? with
 | some p,some m=>decide (m<0∨atO O m<atO O p.1) && (seenL g lvl M O p).all (okB g O p m)
 | _,_=>true
def aheadB (g:Hist') (O:List Int) (b a:Nat):Bool:=!(sesAt g ((comL g).getD a 0).toNat == sesAt g ((comL g).getD b 0).toNat) || decide (atO O ((comL g).getD a 0)<atO O ((comL g).getD b 0))
def sesB (g:Hist') (O:List Int) (b:Nat):Bool:=(badH g ((comL g).getD b 0)).isEmpty && andTo (aheadB g O b) b
def holdsB (g:Hist') (lvl:Int) (M O:List Int):Bool:=andTo (sesB g O) (comL g).length && andTo (rightB g lvl M O) (readH g).length
def orderB (g:Hist') (O:List Int):Bool:=wholeH g && ((comL g).length == O.length && andTo (fun i=>(comL g).contains (O.getD i 0) && !(O.take i).contains (O.getD i 0)) O.length)
def errB (g:Hist') (lvl:Int) (M O:List Int):Int:=if !wholeH g then 4 else if decide (lvl<1∨3<lvl) || (!mapR g M || !orderB g O) then 2 else 0
theorem com_f {g:Hist'} (hw:wholeH g=true) {a:Nat} {t:Txn'} (ht:g.ts[a]? = some t) (h2:t.f≠2):comAt g a=true:=by
 unfold wholeH at hw
 simp only [Bool.and_eq_true,List.isEmpty_iff] at hw
 obtain ⟨hm,hi,_⟩:=hw
 have h3:t.f≠3:=fun e=>by
  have:((a:Nat):Int)∈infosH g:=by
   rw [infosH,numsTo_fil,filTo_mem]
   exact ⟨a,(List.getElem?_eq_some_iff.1 ht).1,rfl,by simp [thatAt,ht,isInfo,e]⟩
  rw [hi] at this
  cases this
 unfold mayH at hm
 simp only [Bool.and_eq_true,List.all_eq_true] at hm
 have:=hm.2.1 t (List.mem_of_getElem? ht)
 simp only [txnB,Bool.and_eq_true,decide_eq_true_eq] at this
 simp only [comAt,ht,isCom,beq_iff_eq]
 omega
theorem of_com {g:Hist'} (hw:wholeH g=true) {a b x:Int} (h:x∈ofH g a b):x = -1∨x∈comL g:=by
 unfold ofH at h
 split at h
 ·split at h
  ·cases h
  ·rw [ofL,List.mem_append] at h
   rcases h with h | h
   ·unfold ofStart at h
    split at h
    ·cases h
    ·exact .inl (by simpa using h)
   ·have h1:=(List.mem_filter.1 h).1
    rw [writersH,numsTo_fil,filTo_mem] at h1
    obtain ⟨k,h1,h2,h3⟩:=h1
    refine .inr (comL_mem.2 ⟨k,h2,?_⟩)
    unfold thatAt at h3
    cases ht:g.ts[k]? with
    | none=>rw [ht] at h3;cases h3
    | some t =>
     rw [ht] at h3
     simp only [wrB,Bool.and_eq_true,bne_iff_ne,ne_eq] at h3
     exact com_f hw ht h3.1
 ·cases h
theorem allIn_get:∀ {C:List (Bool × List Int)} {M:List Int} {i:Nat} {c:Bool × List Int},allIn C M=true→C[i]? = some c→∃ m,M[i]? = some m∧m∈c.2
 | [],_,_,_,_,hc=>by simp at hc
 | _::_,[],_,_,h,_=>by simp [allIn] at h
 | d::C,m::M,0,c,h,hc=>by
  simp only [allIn,Bool.and_eq_true] at h
  simp at hc
  subst hc
  exact ⟨m,rfl,by simpa using h.1⟩
 | d::C,m::M,i+1,c,h,hc=>by
  simp only [allIn,Bool.and_eq_true] at h
  simpa using allIn_get h.2 (by simpa using hc)
section
variable {g:Hist'} {M O:List Int}
theorem map_from (h:mapR g M=true) {i:Nat} {p:Int × Int} (hp:(readH g)[i]? = some p):∃ m,M[i]? = some m∧m∈ofH g p.1 p.2:=by
 unfold mapR at h
 simp only [Bool.and_eq_true] at h
 exact allIn_get (c:=(false,ofH g p.1 p.2)) h.2.2 (by simp [choR,hp])
theorem map_len (h:mapR g M=true):M.length=(readH g).length:=by
 unfold mapR at h
 simp only [Bool.and_eq_true,beq_iff_eq] at h
 simpa [choR] using h.2.1
theorem map_whole (h:mapR g M=true):wholeH g=true:=by
 unfold mapR at h
 simp only [Bool.and_eq_true] at h
 exact h.1
theorem map_mem (h:mapR g M=true) {m:Int} (hm:m∈M):m = -1∨m∈comL g:=by
 obtain ⟨i,hi,e⟩:=List.getElem_of_mem hm
 have hi':i<(readH g).length:=by rw [← map_len h];exact hi
 obtain ⟨m',h1,h2⟩:=map_from h (List.getElem?_eq_getElem hi')
 rw [List.getElem?_eq_getElem hi] at h1
 cases h1
 rw [← e]
 exact of_com (map_whole h) h2
theorem readAt_in {p:Int × Int}:∀ {n:Nat},p∈readAt g n→∃ (i k:Nat) (t:Txn'),p=((i:Int),(k:Int))∧g.ts[i]? = some t∧isCom t=true∧k<t.ops.length∧outerB g i k=true
 | 0,h=>by simp [readAt] at h
 | n+1,h=>by
  rw [readAt,List.mem_append] at h
  rcases h with h | h
  ·exact readAt_in h
  ·cases ht:g.ts[n]? with
   | none=>rw [ht] at h;cases h
   | some t =>
    rw [ht] at h
    simp only at h
    split at h
    ·rename_i hc
     obtain ⟨k,h1,h2,h3⟩:=readIn_mem.1 h
     exact ⟨n,k,t,h2,ht,hc,h1,h3⟩
    ·cases h
theorem read_com {p:Int × Int} (h:p∈readH g):p.1∈comL g:=by
 obtain ⟨i,k,t,rfl,ht,hc,_⟩:=readAt_in h
 exact comL_mem.2 ⟨i,rfl,by simp [comAt,ht,hc]⟩
/-! Orders -/
theorem order_len (h:orderB g O=true):(comL g).length=O.length:=by
 unfold orderB at h
 simp only [Bool.and_eq_true,beq_iff_eq] at h
 exact h.2.1
theorem order_at (h:orderB g O=true) {i:Nat} (hi:i<O.length):O[i]∈comL g∧O[i] ∉ O.take i:=by
 unfold orderB at h
 simp only [Bool.and_eq_true] at h
 have:=andTo_iff.1 h.2.2 i hi
 simpa [List.getD_eq_getElem?_getD,List.getElem?_eq_getElem hi] using this
theorem nodup_of:∀ {L:List Int},(∀ i (hi:i<L.length),L[i] ∉ L.take i)→L.Nodup
 | [],_=>List.nodup_nil
 | x::r,h=>by
  rw [List.nodup_cons]
  constructor
  ·intro hx
   obtain ⟨i,hi,e⟩:=List.getElem_of_mem hx
   have:=h (i+1) (by simpa using hi)
   simp [e] at this
  ·refine nodup_of fun i hi hm=>?_
   have:=h (i+1) (by simpa using hi)
   simp [hm] at this
theorem order_nodup (h:orderB g O=true):O.Nodup:=nodup_of fun _ hi=>(order_at h hi).2
theorem order_sub (h:orderB g O=true) {x:Int} (hx:x∈O):x∈comL g:=by
 obtain ⟨i,hi,e⟩:=List.getElem_of_mem hx
 exact e ▸ (order_at h hi).1
theorem comL_pw (g:Hist'):(comL g).Pairwise (· < ·):=(numsTo_lt (p:=isCom) (ts:=g.ts) g.ts.length (Nat.le_refl _)).2
theorem comL_nodup (g:Hist'):(comL g).Nodup:=(comL_pw g).imp fun h=>Int.ne_of_lt h
theorem perm_of_sub:∀ {O C:List Int},O.Nodup→(∀ x∈O,x∈C)→C.length=O.length→O.Perm C
 | [],C,_,_,h=>by
  have:C=[]:=List.length_eq_zero_iff.1 h
  rw [this]
 | x::r,C,hn,hs,h=>by
  rw [List.nodup_cons] at hn
  have hx:=hs x (by simp)
  have h1:=List.perm_cons_erase hx
  refine (List.Perm.cons x (perm_of_sub hn.2 (fun y hy=>?_) ?_)).trans h1.symm
  ·have hne:y≠x:=fun e=>hn.1 (e ▸ hy)
   exact (List.mem_erase_of_ne hne).2 (hs y (by simp [hy]))
  ·have:=h1.length_eq
   simp at this h
   omega
theorem order_perm (h:orderB g O=true):O.Perm (comL g):=perm_of_sub (order_nodup h) (fun _=>order_sub h) (order_len h)
theorem order_iff (hw:wholeH g=true):orderB g O=true ↔ O.Perm (comL g):=by
 refine ⟨order_perm,fun h=>?_⟩
 have hn:O.Nodup:=h.nodup_iff.2 (comL_nodup g)
 unfold orderB
 rw [hw,Bool.true_and,Bool.and_eq_true,andTo_iff]
 refine ⟨by rw [h.length_eq];simp,fun i hi=>?_⟩
 have h1:O[i]∈comL g:=h.mem_iff.1 (List.getElem_mem hi)
 have h2:O[i] ∉ O.take i:=fun hm=>by
  obtain ⟨j,hj,e⟩:=List.getElem_of_mem hm
  simp at hj
  rw [List.getElem_take] at e
  exact List.pairwise_iff_getElem.1 hn j i (by omega) hi (by omega) e
 simp [List.getD_eq_getElem?_getD,List.getElem?_eq_getElem hi,h1,h2]
theorem sorted_one:∀ {S C:List Int},S.Perm C→S.Pairwise (·≤·)→C.Pairwise (· < ·)→S=C
 | [],C,h,_,_=>(List.nil_perm.1 h).symm
 | x::r,C,h,hs,hc=>by
  cases C with
  | nil=>exact absurd h.length_eq (by simp)
  | cons y q =>
   rw [List.pairwise_cons] at hs hc
   have hx:x∈y::q:=h.mem_iff.1 (by simp)
   have hy:y∈x::r:=h.mem_iff.2 (by simp)
   have e:x=y:=by
    rcases List.mem_cons.1 hx with h1 | h1
    ·exact h1
    ·rcases List.mem_cons.1 hy with h2 | h2
     ·exact h2.symm
     ·have:=hs.1 y h2
      have:=hc.1 x h1
      omega
   subst e
   rw [sorted_one ((List.perm_cons x).1 h) hs.2 hc.2]
theorem order_sorted (hw:wholeH g=true) {S:List Int} (hp:O.Perm S) (hs:S.Pairwise (·≤·)):(S == comL g)=orderB g O:=by
 rw [Bool.eq_iff_iff,order_iff hw,beq_iff_eq]
 exact ⟨fun e=>e ▸ hp,fun h=>sorted_one (hp.symm.trans h) hs (comL_pw g)⟩
/-! Where each stands -/
theorem idxI_get:∀ {l:List Int} {n k:Nat} (h:k<l.length),l.Nodup→idxI l l[k] n=(n+k:Nat)
 | x::r,n,0,_,_=>by simp [idxI]
 | x::r,n,k+1,h,hn=>by
  rw [List.nodup_cons] at hn
  have hk:k<r.length:=by simpa using h
  have hne:((r[k]) == x)=false:=by
   rw [beq_eq_false_iff_ne]
   exact fun e=>hn.1 (e ▸ List.getElem_mem hk)
  simp only [List.getElem_cons_succ,idxI,hne,Bool.false_eq_true,if_false]
  rw [idxI_get hk hn.2]
  omega
theorem atO_get (hn:O.Nodup) {k:Nat} (h:k<O.length):atO O O[k]=k:=by
 rw [atO,idxI_get h hn,Nat.zero_add]
def atM (O:List Int):Nat→List (Int × Int)
 | 0=>[(-1,-1)]
 | k+1=>mset (atM O k) (O.getD k 0) k
theorem atM_to (hn:O.Nodup) (t:Int):∀ k,k≤O.length→mcnt (atM O k) t=if t∈O.take k then atO O t else if t = -1 then -1 else 0
 | 0,_=>by
  unfold atM mcnt
  by_cases h:t = -1 <;> simp [mfind,h]
 | k+1,h=>by
  have hk:k<O.length:=by omega
  rw [atM,mcnt_mset,atM_to hn t k (by omega)]
  have e:O.getD k 0=O[k]:=by simp [List.getD_eq_getElem?_getD,List.getElem?_eq_getElem hk]
  have hm:t∈O.take (k+1) ↔ t∈O.take k∨t=O[k]:=by
   rw [List.take_add_one,List.getElem?_eq_getElem hk]
   simp only [List.mem_append,Option.toList_some,List.mem_singleton]
  rw [e]
  by_cases h1:t=O[k]
  ·rw [if_pos h1,if_pos (hm.2 (.inr h1)),h1,atO_get hn hk]
  ·rw [if_neg h1]
   by_cases h2:t∈O.take k
   ·rw [if_pos h2,if_pos (hm.2 (.inl h2))]
   ·rw [if_neg h2,if_neg fun h=>(hm.1 h).elim h2 h1]
theorem atM_eq (h:orderB g O=true) {t:Int} (ht:t = -1∨t∈comL g):mcnt (atM O O.length) t=atO O t:=by
 have hneg:(-1:Int) ∉ O:=fun hm=>by
  obtain ⟨k,e,_⟩:=comL_mem.1 (order_sub h hm)
  omega
 rw [atM_to (order_nodup h) t _ (Nat.le_refl _),List.take_length]
 rcases ht with rfl | ht
 ·rw [if_neg hneg,if_pos rfl]
  have h1:=atO_neg.2 hneg
  have h2:=atO_ge O (-1)
  omega
 ·rw [if_pos ((order_perm h).mem_iff.2 ht)]
theorem atO_com (h:orderB g O=true) {t:Int} (ht:t∈comL g):0≤atO O t:=by
 rcases Int.lt_or_le (atO O t) 0 with h1 | h1
 ·exact absurd ((order_perm h).mem_iff.2 ht) (atO_neg.1 h1)
 ·exact h1
theorem atO_one (h:orderB g O=true):atO O (-1) = -1:=by
 have hneg:(-1:Int) ∉ O:=fun hm=>by
  obtain ⟨k,e,_⟩:=comL_mem.1 (order_sub h hm)
  omega
 have h1:=atO_neg.2 hneg
 have h2:=atO_ge O (-1)
 omega
/-! Sessions -/
def sesM (g:Hist') (O:List Int):Nat→List (Int × Int)
 | 0=>[]
 | k+1=>mset (sesM g O k) (sesAt g ((comL g).getD k 0).toNat) (atO O ((comL g).getD k 0))
def sesG (g:Hist') (O:List Int) (k:Nat):Bool:=!((mfind (sesM g O k) (sesAt g ((comL g).getD k 0).toNat)).any fun x=>decide (atO O ((comL g).getD k 0)<x.2)) && (badH g ((comL g).getD k 0)).isEmpty
def SesI (g:Hist') (O:List Int) (n:Nat):Prop:=∀ s,match (mfind (sesM g O n) s).map (·.2) with
 | none=>∀ j,j<n→sesAt g ((comL g).getD j 0).toNat≠s
 | some v=>(∃ j,j<n∧sesAt g ((comL g).getD j 0).toNat=s∧atO O ((comL g).getD j 0)=v)∧∀ j,j<n→sesAt g ((comL g).getD j 0).toNat=s→atO O ((comL g).getD j 0)≤v
theorem sesG_eq (h:orderB g O=true) {n:Nat} (hn:n<(comL g).length) (hi:SesI g O n):sesG g O n=sesB g O n:=by
 unfold sesG sesB
 rw [Bool.and_comm]
 congr 1
 have hi:=hi (sesAt g ((comL g).getD n 0).toNat)
 have hget:∀ j (hj:j<(comL g).length),(comL g).getD j 0=(comL g)[j]:=fun j hj=>by simp [List.getD_eq_getElem?_getD,List.getElem?_eq_getElem hj]
 have hinj:∀ j,j<n→atO O ((comL g).getD j 0)≠atO O ((comL g).getD n 0):=fun j hj e=>by
  rw [hget j (by omega),hget n hn] at e
  have:=atO_inj ((order_perm h).mem_iff.2 (List.getElem_mem (show j<(comL g).length by omega))) e
  have hp:=List.pairwise_iff_getElem.1 (comL_pw g) j n (by omega) hn hj
  omega
 rw [Bool.eq_iff_iff,andTo_iff]
 cases hf:mfind (sesM g O n) (sesAt g ((comL g).getD n 0).toNat) with
 | none =>
  rw [hf] at hi
  simp only [Option.map_none] at hi
  simp only [Option.any_none,Bool.not_false,true_iff]
  intro j hj
  rw [aheadB,beq_eq_false_iff_ne.2 (hi j hj)]
  rfl
 | some x =>
  rw [hf] at hi
  simp only [Option.map_some] at hi
  obtain ⟨⟨j0,h1,h2,h3⟩,h4⟩:=hi
  simp only [Option.any_some,Bool.not_eq_true',decide_eq_false_iff_not,Int.not_lt]
  constructor
  ·intro hle j hj
   by_cases hs:sesAt g ((comL g).getD j 0).toNat=sesAt g ((comL g).getD n 0).toNat
   ·have:=h4 j hj hs
    have:=hinj j hj
    simp only [aheadB,hs,beq_self_eq_true,Bool.not_true,Bool.false_or,decide_eq_true_eq]
    omega
   ·rw [aheadB,beq_eq_false_iff_ne.2 hs]
    rfl
  ·intro ha
   have:=ha j0 h1
   simp only [aheadB,h2,beq_self_eq_true,Bool.not_true,Bool.false_or,decide_eq_true_eq] at this
   omega
theorem sesI_to (h:orderB g O=true):∀ {n:Nat},n≤(comL g).length→andTo (sesB g O) n=true→SesI g O n
 | 0,_,_=>fun s=>by simp [sesM,mfind]
 | n+1,hn,ha=>fun s=>by
  rw [andTo,Bool.and_eq_true] at ha
  have hi:=sesI_to h (n:=n) (by omega) ha.1
  have hb:=ha.2
  unfold sesB at hb
  rw [Bool.and_eq_true,andTo_iff] at hb
  have hi:=hi s
  rw [sesM,mval_mset]
  by_cases hs:s=sesAt g ((comL g).getD n 0).toNat
  ·subst hs
   rw [if_pos rfl]
   refine ⟨⟨n,by omega,rfl,rfl⟩,fun j hj he=>?_⟩
   rcases Nat.lt_succ_iff_lt_or_eq.1 hj with h1 | h1
   ·have:=hb.2 j h1
    simp only [aheadB,he,beq_self_eq_true,Bool.not_true,Bool.false_or,decide_eq_true_eq] at this
    omega
   ·subst h1;exact Int.le_refl _
  ·rw [if_neg hs]
   split at hi
   ·intro j hj
    rcases Nat.lt_succ_iff_lt_or_eq.1 hj with h1 | h1
    ·exact hi j h1
    ·subst h1;exact fun e=>hs e.symm
   ·obtain ⟨⟨j,h1,h2,h3⟩,h4⟩:=hi
    refine ⟨⟨j,by omega,h2,h3⟩,fun j hj he=>?_⟩
    rcases Nat.lt_succ_iff_lt_or_eq.1 hj with h1 | h1
    ·exact h4 j h1 he
    ·subst h1;exact absurd he.symm hs
theorem ses_eq (h:orderB g O=true):∀ {n:Nat},n≤(comL g).length→andTo (sesG g O) n=andTo (sesB g O) n
 | 0,_=>rfl
 | n+1,hn=>by
  have ih:=ses_eq h (n:=n) (by omega)
  rw [andTo,andTo,ih]
  cases ha:andTo (sesB g O) n with
  | false=>rfl
  | true=>rw [sesG_eq h (by omega) (sesI_to h (by omega) ha)]
/-! What reads see -/
def seesG (g:Hist') (lvl:Int) (M O:List Int) (p:Int × Int) (t:Int):Bool:=if lvl=1 then rcB (readH g) M p t else if lvl=2 then farB g M p.1.toNat t.toNat else decide (atO O t<atO O p.1)
def rightG (g:Hist') (lvl:Int) (M O:List Int) (i:Nat):Bool:=match (readH g)[i]?,M[i]? with
 | some p,some m=>decide (atO O m<atO O p.1) && (comL g).all fun t=>!seesG g lvl M O p t || okB g O p m t
 | _,_=>true
def holdsG (g:Hist') (lvl:Int) (M O:List Int):Bool:=andTo (sesG g O) (comL g).length && andTo (rightG g lvl M O) (readH g).length
theorem sees_com (hm:mapR g M=true) {lvl:Int} {p:Int × Int} {t:Nat} (h:seesB g lvl M O p t=true):comAt g t=true:=by
 unfold seesB at h
 split at h
 ·unfold rcB at h
  obtain ⟨x,hx,h1⟩:=List.any_eq_true.1 h
  simp only [Bool.and_eq_true,beq_iff_eq] at h1
  have hm2:=map_mem hm (List.of_mem_zip hx).2
  rw [h1.2.2] at hm2
  rcases hm2 with h2 | h2
  ·omega
  ·obtain ⟨k,e,hc⟩:=comL_mem.1 h2
   have:t=k:=by omega
   exact this ▸ hc
 ·split at h
  ·exact farB_com h
  ·split at h
   ·rw [Bool.and_eq_true] at h;exact h.1
   ·cases h
theorem sees_eq {lvl:Int} (h1:1≤lvl) (h3:lvl≤3) {p:Int × Int} {t:Nat} (hc:comAt g t=true):seesG g lvl M O p t=seesB g lvl M O p t:=by
 unfold seesG seesB
 split
 ·rfl
 ·split
  ·simp
  ·rw [if_pos (by omega),hc,Bool.true_and]
theorem right_eq {lvl:Int} (h1:1≤lvl) (h3:lvl≤3) (hm:mapR g M=true) (ho:orderB g O=true) (i:Nat):rightG g lvl M O i=rightB g lvl M O i:=by
 unfold rightG rightB
 cases hp:(readH g)[i]? with
 | none=>rfl
 | some p =>
  obtain ⟨m,e,hmo⟩:=map_from hm hp
  rw [e]
  simp only
  have hpc:=read_com (List.mem_of_getElem? hp)
  have ha:=atO_com ho hpc
  congr 1
  ·rcases of_com (map_whole hm) hmo with rfl | hmc
   ·rw [atO_one ho]
    have:(-1:Int)<atO O p.1:=by omega
    simp [this]
   ·obtain ⟨k,e,_⟩:=comL_mem.1 hmc
    have:¬ m<0:=by omega
    simp [this]
  ·rw [Bool.eq_iff_iff,List.all_eq_true,List.all_eq_true]
   unfold seenL
   constructor
   ·intro h t ht
    obtain ⟨k,_,rfl,hk⟩:=filTo_mem.1 ht
    have hc:=sees_com hm hk
    have:=h k (comL_mem.2 ⟨k,rfl,hc⟩)
    rw [sees_eq h1 h3 hc,hk] at this
    simpa using this
   ·intro h t ht
    obtain ⟨k,rfl,hc⟩:=comL_mem.1 ht
    rw [sees_eq h1 h3 hc]
    cases hk:seesB g lvl M O p k with
    | false=>rfl
    | true=>simpa using h k (filTo_mem.2 ⟨k,comAt_lt hc,rfl,hk⟩)
theorem holds_eq {lvl:Int} (h1:1≤lvl) (h3:lvl≤3) (hm:mapR g M=true) (ho:orderB g O=true):holdsG g lvl M O=holdsB g lvl M O:=by
 unfold holdsG holdsB
 rw [ses_eq ho (Nat.le_refl _),andTo_congr fun k _=>right_eq h1 h3 hm ho k]
/-! Levels -/
theorem step_at (_:mapR g M=true) (_:orderB g O=true) (hs:andTo (sesB g O) (comL g).length=true) (hr:∀ (i:Nat) (p:Int × Int) (m:Int),(readH g)[i]? = some p→M[i]? = some m→m<0∨atO O m<atO O p.1) {a b:Nat} (h:stepB g M a b=true):atO O a<atO O b:=by
 unfold stepB at h
 simp only [Bool.and_eq_true,Bool.or_eq_true,decide_eq_true_eq,beq_iff_eq] at h
 obtain ⟨⟨ca,cb⟩,h⟩:=h
 rcases h with ⟨hab,hse⟩ | h
 ·obtain ⟨i,hi,ei⟩:=List.getElem_of_mem (comL_mem.2 ⟨a,rfl,ca⟩)
  obtain ⟨j,hj,ej⟩:=List.getElem_of_mem (comL_mem.2 ⟨b,rfl,cb⟩)
  have hij:i<j:=by
   rcases Nat.lt_or_ge i j with h | h
   ·exact h
   ·rcases Nat.lt_or_ge j i with h' | h'
    ·have:=List.pairwise_iff_getElem.1 (comL_pw g) j i hj hi h'
     omega
    ·have:i=j:=by omega
     subst this
     omega
  have:=andTo_iff.1 hs j hj
  unfold sesB at this
  rw [Bool.and_eq_true,andTo_iff] at this
  have:=this.2 i hij
  have e1:(comL g).getD i 0=a:=by rw [← ei];simp [List.getD_eq_getElem?_getD,List.getElem?_eq_getElem hi]
  have e2:(comL g).getD j 0=b:=by rw [← ej];simp [List.getD_eq_getElem?_getD,List.getElem?_eq_getElem hj]
  rw [aheadB,e1,e2] at this
  simpa [hse] using this
 ·unfold fromB at h
  obtain ⟨x,hx,h1⟩:=List.any_eq_true.1 h
  simp only [Bool.and_eq_true,beq_iff_eq] at h1
  obtain ⟨i,hi,ei⟩:=List.getElem_of_mem hx
  rw [List.getElem_zip] at ei
  rw [List.length_zip] at hi
  rw [← ei] at h1
  have:=hr i _ _ (List.getElem?_eq_getElem (by omega)) (List.getElem?_eq_getElem (by omega))
  simp only at h1
  rw [h1.1,h1.2] at this
  rcases this with h | h
  ·omega
  ·exact h
theorem far_at (hs:∀ a b:Nat,stepB g M a b=true→atO O a<atO O b) {t a:Nat} (h:farB g M t a=true):atO O a<atO O t :=
 war_in (r:=stepB g M) (p:=fun a=>atO O a<atO O t) (q:=fun a=>atO O (a:Int)≤atO O t) (fun a b hb hab=>Int.lt_of_lt_of_le (hs a b hab) hb) (fun _ h=>Int.le_of_lt h) g.ts.length (b:=t) (Int.le_refl _) h
theorem rights {lvl:Int} (h:andTo (rightB g lvl M O) (readH g).length=true) {i:Nat} {p:Int × Int} {m:Int} (hp:(readH g)[i]? = some p) (hm:M[i]? = some m):(m<0∨atO O m<atO O p.1)∧(seenL g lvl M O p).all (okB g O p m)=true:=by
 have:=andTo_iff.1 h i (List.getElem?_eq_some_iff.1 hp).1
 unfold rightB at this
 rw [hp,hm] at this
 simpa only [Bool.and_eq_true,decide_eq_true_eq] using this
theorem holds_mono {l1 l2:Int} (h:holdsB g l1 M O=true) (hsub:∀ (i:Nat) (p:Int × Int) (m:Int),(readH g)[i]? = some p→M[i]? = some m→∀ t,seesB g l2 M O p t=true→seesB g l1 M O p t=true):holdsB g l2 M O=true:=by
 unfold holdsB at h ⊢
 rw [Bool.and_eq_true] at h ⊢
 refine ⟨h.1,andTo_iff.2 fun i hi=>?_⟩
 have:=andTo_iff.1 h.2 i hi
 unfold rightB at this ⊢
 cases hp:(readH g)[i]? with
 | none=>rfl
 | some p =>
  cases hm:M[i]? with
  | none=>rfl
  | some m =>
   rw [hp,hm] at this
   simp only [Bool.and_eq_true,List.all_eq_true] at this ⊢
   refine ⟨this.1,fun t ht=>?_⟩
   obtain ⟨k,h1,rfl,h3⟩:=filTo_mem.1 ht
   exact this.2 k (filTo_mem.2 ⟨k,h1,rfl,hsub i p m hp hm k h3⟩)
theorem ser_cc (hm:mapR g M=true) (ho:orderB g O=true) (h:holdsB g 3 M O=true):holdsB g 2 M O=true:=by
 refine holds_mono h fun i p m hp he t ht=>?_
 unfold holdsB at h
 rw [Bool.and_eq_true] at h
 have hst:∀ a b:Nat,stepB g M a b=true→atO O a<atO O b:=fun a b=>step_at hm ho h.1 fun i p m h1 h2=>(rights h.2 h1 h2).1
 have hf:farB g M p.1.toNat t=true:=by simpa [seesB] using ht
 have hc:=farB_com hf
 obtain ⟨k,e,_⟩:=comL_mem.1 (read_com (List.mem_of_getElem? hp))
 have:=far_at hst hf
 have e2:((p.1.toNat:Nat):Int)=p.1:=by omega
 rw [e2] at this
 simp [seesB,hc,this]
theorem cc_rc (hm:mapR g M=true) (h:holdsB g 2 M O=true):holdsB g 1 M O=true:=by
 refine holds_mono h fun i p m hp he t ht=>?_
 have hc:=sees_com hm ht
 have hr:rcB (readH g) M p t=true:=by simpa [seesB] using ht
 obtain ⟨k,e,hk⟩:=comL_mem.1 (read_com (List.mem_of_getElem? hp))
 have e2:p.1.toNat=k:=by omega
 have hst:stepB g M t k=true:=by
  unfold stepB
  rw [hc,hk,Bool.true_and,Bool.true_and,Bool.or_eq_true]
  right
  unfold rcB at hr
  unfold fromB
  obtain ⟨x,hx,h1⟩:=List.any_eq_true.1 hr
  simp only [Bool.and_eq_true,beq_iff_eq] at h1
  refine List.any_eq_true.2 ⟨x,hx,?_⟩
  simp [h1.2.2,h1.1,e]
 have:farB g M p.1.toNat t=true:=by rw [e2];exact war_one hst _
 simp [seesB,this]
end
section
variable (g:Hist') (M O:List Int)
def rdsT (t:Int):List (Int × Int × Int):=(((readH g).zip M).filter fun x=>x.1.1 == t).map fun x=>(x.1.2,keyAt g x.1,x.2)
def lastS:Nat→Int→Option Int
 | 0,_=>none
 | k+1,s=>if sesAt g (O.getD k 0).toNat=s then some (O.getD k 0) else lastS k s
def lastK:Nat→Int→Option Int
 | 0,_=>none
 | k+1,key=>if leavesB g (O.getD k 0) key then some (O.getD k 0) else lastK k key
def newOf (P:Int→List Int) (k:Nat):List Int :=
 ((rdsT g M (O.getD k 0)).filter fun r=>decide (0≤r.2.2)).flatMap (fun r=>r.2.2::P r.2.2)++(match lastS g O k (sesAt g (O.getD k 0).toNat) with | some a=>a::P a | none=>[])
def pastP:Nat→Int→List Int
 | 0=>fun _=>[]
 | k+1=>fun t=>if t=O.getD k 0 then newOf g M O (pastP k) k else pastP k t
def behindB (k:Nat) (t:Int) (r:Int × Int × Int):Bool:=decide (0≤t) && (!(t == r.2.2) && (leavesB g t r.2.1 && decide (mcnt (atM O k) r.2.2≤mcnt (atM O k) t)))
def readB (lvl:Int) (k:Nat) (r:Int × Int × Int):Bool:=(mfind (atM O k) r.2.2).isSome &&
 (if lvl=1 then !((rdsT g M (O.getD k 0)).any fun q=>decide (q.1<r.1) && behindB g O k q.2.2 r) else
  if lvl=2 then (newOf g M O (pastP g M O k) k).all fun a=>!behindB g O k a r else (lastK g O k r.2.1).getD (-1) == r.2.2)
def stepOk (lvl:Int) (k:Nat):Bool:=!((lastS g O k (sesAt g (O.getD k 0).toNat)).any fun a=>decide (O.getD k 0<a)) && ((badH g (O.getD k 0)).isEmpty && (rdsT g M (O.getD k 0)).all (readB g M O lvl k))
def walkB (lvl:Int):Bool:=andTo (stepOk g M O lvl) O.length
end
theorem lastW_any (ops:List Op') (key:Int):(lastW ops key).2=ops.any (wkB key):=by
 have:=rawTo_any key ops ops.length (Nat.le_refl _)
 rwa [List.take_length] at this
theorem war_last {r:Nat→Nat→Bool} {t:Nat}:∀ {K a:Nat},war r K t a=true→∃ b,r b t=true∧(b=a∨war r K b a=true)
 | 0,a,h=>⟨a,h,.inl rfl⟩
 | K+1,a,h=>by
  simp only [war,Bool.or_eq_true,Bool.and_eq_true] at h
  rcases h with h | ⟨h,h'⟩
  ·obtain ⟨b,h1,h2⟩:=war_last h
   refine ⟨b,h1,h2.imp id fun h=>?_⟩
   simp [war,h]
  ·obtain ⟨b,h1,h2⟩:=war_last h
   refine ⟨b,h1,.inr ?_⟩
   rcases h2 with rfl | h2
   ·simp [war,h']
   ·simp [war,h2,h']
section
variable {g:Hist'} {M O:List Int}
theorem getO {k:Nat} (h:k<O.length):O.getD k 0=O[k]:=by simp [List.getD_eq_getElem?_getD,List.getElem?_eq_getElem h]
theorem lastS_some {s a:Int}:∀ {k:Nat},lastS g O k s=some a→∃ j,j<k∧a=O.getD j 0∧sesAt g a.toNat=s∧∀ i,j<i→i<k→sesAt g (O.getD i 0).toNat≠s
 | 0,h=>by cases h
 | k+1,h=>by
  unfold lastS at h
  split at h
  ·rename_i e
   cases h
   exact ⟨k,by omega,rfl,e,fun i h1 h2=>by omega⟩
  ·rename_i e
   obtain ⟨j,h1,h2,h3,h4⟩:=lastS_some h
   refine ⟨j,by omega,h2,h3,fun i h5 h6=>?_⟩
   rcases Nat.lt_succ_iff_lt_or_eq.1 h6 with h7 | h7
   ·exact h4 i h5 h7
   ·subst h7;exact e
theorem lastS_none {s:Int}:∀ {k:Nat},lastS g O k s=none→∀ i,i<k→sesAt g (O.getD i 0).toNat≠s
 | 0,_,i,hi=>by omega
 | k+1,h,i,hi=>by
  unfold lastS at h
  split at h
  ·cases h
  ·rename_i e
   rcases Nat.lt_succ_iff_lt_or_eq.1 hi with h7 | h7
   ·exact lastS_none h i h7
   ·subst h7;exact e
theorem lastK_some {key a:Int}:∀ {k:Nat},lastK g O k key=some a→∃ j,j<k∧a=O.getD j 0∧leavesB g a key=true∧∀ i,j<i→i<k→leavesB g (O.getD i 0) key=false
 | 0,h=>by cases h
 | k+1,h=>by
  unfold lastK at h
  split at h
  ·rename_i e
   cases h
   exact ⟨k,by omega,rfl,e,fun i h1 h2=>by omega⟩
  ·rename_i e
   obtain ⟨j,h1,h2,h3,h4⟩:=lastK_some h
   refine ⟨j,by omega,h2,h3,fun i h5 h6=>?_⟩
   rcases Nat.lt_succ_iff_lt_or_eq.1 h6 with h7 | h7
   ·exact h4 i h5 h7
   ·subst h7;simpa using e
theorem lastK_none {key:Int}:∀ {k:Nat},lastK g O k key=none→∀ i,i<k→leavesB g (O.getD i 0) key=false
 | 0,_,i,hi=>by omega
 | k+1,h,i,hi=>by
  unfold lastK at h
  split at h
  ·cases h
  ·rename_i e
   rcases Nat.lt_succ_iff_lt_or_eq.1 hi with h7 | h7
   ·exact lastK_none h i h7
   ·subst h7;simpa using e
theorem mem_rdsT {t:Int} {r:Int × Int × Int}:r∈rdsT g M t ↔ ∃ (i:Nat) (p:Int × Int) (m:Int),(readH g)[i]? = some p∧M[i]? = some m∧p.1=t∧r=(p.2,keyAt g p,m):=by
 unfold rdsT
 rw [List.mem_map]
 constructor
 ·rintro ⟨⟨p,m⟩,hx,rfl⟩
  obtain ⟨hx,ht⟩:=List.mem_filter.1 hx
  obtain ⟨i,hi,e⟩:=List.getElem_of_mem hx
  rw [List.length_zip] at hi
  rw [List.getElem_zip] at e
  cases e
  exact ⟨i,_,_,List.getElem?_eq_getElem (by omega),List.getElem?_eq_getElem (by omega),by simpa using ht,rfl⟩
 ·rintro ⟨i,p,m,h1,h2,h3,rfl⟩
  obtain ⟨a1,rfl⟩:=List.getElem?_eq_some_iff.1 h1
  obtain ⟨a2,rfl⟩:=List.getElem?_eq_some_iff.1 h2
  refine ⟨((readH g)[i],M[i]),List.mem_filter.2 ⟨?_,by simpa using h3⟩,rfl⟩
  have hi:i<((readH g).zip M).length:=by rw [List.length_zip];omega
  have:=List.getElem_mem hi
  rwa [List.getElem_zip] at this
theorem find_atM (x:Int):∀ k,k≤O.length→((mfind (atM O k) x).isSome=true ↔ x = -1∨x∈O.take k)
 | 0,_=>by
  unfold atM
  by_cases h:x = -1 <;> simp [mfind,h]
 | k+1,h=>by
  have hk:k<O.length:=by omega
  have ih:=find_atM x k (by omega)
  have hm:x∈O.take (k+1) ↔ x∈O.take k∨x=O[k]:=by
   rw [List.take_add_one,List.getElem?_eq_getElem hk]
   simp only [List.mem_append,Option.toList_some,List.mem_singleton]
  rw [← Option.isSome_map (f:=(·.2)),atM,mval_mset,getO hk,hm]
  by_cases hx:x=O[k]
  ·simp [hx]
  ·rw [if_neg hx,Option.isSome_map,ih]
   simp [hx]
def SS (g:Hist') (O:List Int):Prop:=∀ a b:Nat,comAt g a=true→comAt g b=true→a<b→sesAt g a=sesAt g b→atO O a<atO O b
def FF (g:Hist') (M O:List Int):Prop:=∀ (i:Nat) (p:Int × Int) (m:Int),(readH g)[i]? = some p→M[i]? = some m→m<0∨atO O m<atO O p.1
variable (hm:mapR g M=true) (ho:orderB g O=true)
include ho
theorem pos_of {x:Int} (hx:x∈comL g):∃ k,∃ h:k<O.length,O[k]=x∧atO O x=k:=by
 obtain ⟨k,hk,e⟩:=List.getElem_of_mem ((order_perm ho).mem_iff.2 hx)
 exact ⟨k,hk,e,by rw [← e,atO_get (order_nodup ho) hk]⟩
theorem at_com {k:Nat} (h:k<O.length):∃ n:Nat,O[k]=n∧comAt g n=true:=comL_mem.1 (order_sub ho (List.getElem_mem h))
theorem take_at {x:Int} (hx:x∈comL g) {k:Nat} (hk:k≤O.length):x∈O.take k ↔ atO O x<k:=by
 obtain ⟨j,hj,e,e2⟩:=pos_of ho hx
 rw [e2]
 constructor
 ·intro h
  obtain ⟨i,hi,ei⟩:=List.getElem_of_mem h
  rw [List.length_take] at hi
  rw [List.getElem_take] at ei
  have:=atO_get (order_nodup ho) (show i<O.length by omega)
  rw [ei,e2] at this
  omega
 ·intro h
  have hjk:j<k:=by omega
  have:(O.take k)[j]? = some x:=by rw [List.getElem?_take_of_lt hjk,List.getElem?_eq_getElem hj,e]
  exact List.mem_of_getElem? this
theorem mcnt_at {x:Int} {k:Nat} (hk:k≤O.length) (hx:x = -1∨x∈comL g∧atO O x<k):mcnt (atM O k) x=atO O x:=by
 rw [atM_to (order_nodup ho) x k hk]
 rcases hx with rfl | ⟨hx,h⟩
 ·have hn:(-1:Int) ∉ O.take k:=fun h=>by
   obtain ⟨n,e,_⟩:=comL_mem.1 (order_sub ho (List.mem_of_mem_take h))
   omega
  rw [if_neg hn,if_pos rfl,atO_one ho]
 ·rw [if_pos ((take_at ho hx hk).2 h)]
theorem lastS_max (hs:SS g O) {k:Nat} (hk:k≤O.length) {s a:Int} (h:lastS g O k s=some a):∃ n:Nat,a=n∧comAt g n=true∧sesAt g n=s∧atO O a<k∧∀ b:Nat,comAt g b=true→sesAt g b=s→atO O b<k→b≤n:=by
 obtain ⟨j,hj,e,h1,h2⟩:=lastS_some h
 have hjl:j<O.length:=by omega
 rw [getO hjl] at e
 obtain ⟨n,e2,hc⟩:=at_com ho hjl
 have ha:a=n:=e.trans e2
 have hat:atO O a=j:=by rw [e,atO_get (order_nodup ho) hjl]
 refine ⟨n,ha,hc,by simpa [ha] using h1,by omega,fun b hb hbs hbk=>?_⟩
 obtain ⟨i,hi,ei,ei2⟩:=pos_of ho (comL_mem.2 ⟨b,rfl,hb⟩)
 rcases Nat.lt_or_ge n b with hlt | hge
 ·have:=hs n b hc hb hlt (by rw [hbs];simpa [ha] using h1)
  rw [← ha,hat,ei2] at this
  have:=h2 i (by omega) (by omega)
  rw [getO hi,ei] at this
  exact absurd (by simpa using hbs) this
 ·exact hge
include hm
omit ho in theorem from_com {i:Nat} {p:Int × Int} {m:Int} (_:(readH g)[i]? = some p) (he:M[i]? = some m):m = -1∨m∈comL g:=map_mem hm (List.mem_of_getElem? he)
omit ho in theorem from_pos (hf:FF g M O) {i:Nat} {p:Int × Int} {m:Int} (hp:(readH g)[i]? = some p) (he:M[i]? = some m):m = -1∨m∈comL g∧atO O m<atO O p.1:=by
 rcases from_com hm hp he with h | h
 ·exact .inl h
 ·refine .inr ⟨h,(hf i p m hp he).resolve_left fun h'=>?_⟩
  obtain ⟨n,e,_⟩:=comL_mem.1 h
  omega
theorem new_far (hs:SS g O) (hf:FF g M O) {k:Nat} (hk:k<O.length) {P:Int→List Int} (ih:∀ b:Nat,comAt g b=true→atO O b<k→∀ a,a∈P b ↔ ∃ n:Nat,a=n∧farB g M b n=true) {t:Nat} (ht:O[k]=t) {a:Int} :
 a∈newOf g M O P k ↔ ∃ n:Nat,a=n∧farB g M t n=true:=by
 have hat:atO O (t:Int)=k:=by rw [← ht,atO_get (order_nodup ho) hk]
 have hct:comAt g t=true:=by
  obtain ⟨n,e,hc⟩:=at_com ho hk
  rw [ht] at e
  have:t=n:=by omega
  exact this ▸ hc
 have step:∀ {b:Nat},stepB g M b t=true→∀ {n:Nat},(n=b∨farB g M b n=true)→farB g M t n=true:=fun {b} hb {n} h=>by
  have h1:farB g M t b=true:=war_one hb _
  rcases h with rfl | h
  ·exact h1
  ·exact war_trans (comAt_lt (stepB_com hb).1) h1 h
 unfold newOf
 rw [getO hk,ht,List.mem_append,List.mem_flatMap,Int.toNat_natCast]
 constructor
 ·rintro (⟨r,hr,ha⟩ | ha)
  ·obtain ⟨hr,h0⟩:=List.mem_filter.1 hr
   obtain ⟨i,p,m,hp,he,h1,rfl⟩:=mem_rdsT.1 hr
   have h0:0≤m:=by simpa using h0
   rcases from_pos hm hf hp he with rfl | ⟨hmc,hlt⟩
   ·omega
   obtain ⟨b,rfl,hb⟩:=comL_mem.1 hmc
   have hst:stepB g M b t=true:=by
    unfold stepB fromB
    rw [hb,hct,Bool.true_and,Bool.true_and,Bool.or_eq_true]
    refine .inr (List.any_eq_true.2 ⟨(p,(b:Int)),?_,by simp [h1]⟩)
    obtain ⟨a1,e1⟩:=List.getElem?_eq_some_iff.1 hp
    obtain ⟨a2,e2⟩:=List.getElem?_eq_some_iff.1 he
    have hi:i<((readH g).zip M).length:=by rw [List.length_zip];omega
    have:=List.getElem_mem hi
    rwa [List.getElem_zip,e1,e2] at this
   rcases List.mem_cons.1 ha with rfl | ha
   ·exact ⟨b,rfl,step hst (.inl rfl)⟩
   ·obtain ⟨n,rfl,hn⟩:=(ih b hb (by rw [h1,hat] at hlt;exact hlt) _).1 ha
    exact ⟨n,rfl,step hst (.inr hn)⟩
  ·cases hl:lastS g O k (sesAt g t) with
   | none=>rw [hl] at ha;cases ha
   | some b =>
    rw [hl] at ha
    obtain ⟨n,rfl,hc,hse,hlt,_⟩:=lastS_max ho hs (by omega) hl
    have hnt:n<t:=by
     rcases Nat.lt_trichotomy n t with h | h | h
     ·exact h
     ·subst h;omega
     ·have:=hs t n hct hc h hse.symm;omega
    have hst:stepB g M n t=true:=by
     unfold stepB
     rw [hc,hct]
     simp [hnt,hse]
    rcases List.mem_cons.1 ha with rfl | ha
    ·exact ⟨n,rfl,step hst (.inl rfl)⟩
    ·obtain ⟨n',rfl,hn⟩:=(ih n hc hlt _).1 ha
     exact ⟨n',rfl,step hst (.inr hn)⟩
 ·rintro ⟨n,rfl,hn⟩
  obtain ⟨b,hb,hbn⟩:=war_last hn
  have hbc:=(stepB_com hb).1
  have hb2:=hb
  unfold stepB at hb2
  simp only [Bool.and_eq_true,Bool.or_eq_true,decide_eq_true_eq,beq_iff_eq] at hb2
  rcases hb2.2 with ⟨hlt,hse⟩ | h
  ·right
   have hbk:atO O b<k:=by have:=hs b t hbc hct hlt hse;omega
   cases hl:lastS g O k (sesAt g t) with
   | none =>
    obtain ⟨i,hi,ei,ei2⟩:=pos_of ho (comL_mem.2 ⟨b,rfl,hbc⟩)
    have:=lastS_none hl i (by omega)
    rw [getO hi,ei] at this
    exact absurd (by simpa using hse) this
   | some c =>
    obtain ⟨c,rfl,hc,hcs,hclt,hmax⟩:=lastS_max ho hs (by omega) hl
    have hbc2:=hmax b hbc hse hbk
    simp only
    rcases Nat.lt_or_ge b c with h1 | h1
    ·have hst:farB g M c b=true:=war_one (by unfold stepB;rw [hbc,hc];simp [h1,hse,hcs]) _
     refine List.mem_cons_of_mem _ ((ih c hc hclt _).2 ⟨n,rfl,?_⟩)
     rcases hbn with rfl | hbn
     ·exact hst
     ·exact war_trans (comAt_lt hbc) hst hbn
    ·have:b=c:=by omega
     subst this
     rcases hbn with rfl | hbn
     ·simp
     ·exact List.mem_cons_of_mem _ ((ih b hc hclt _).2 ⟨n,rfl,hbn⟩)
  ·left
   unfold fromB at h
   obtain ⟨⟨p,m⟩,hx,h1⟩:=List.any_eq_true.1 h
   simp only [Bool.and_eq_true,beq_iff_eq] at h1
   obtain ⟨rfl,h2⟩:=h1
   obtain ⟨i,hi,e⟩:=List.getElem_of_mem hx
   rw [List.length_zip] at hi
   rw [List.getElem_zip] at e
   simp only [Prod.mk.injEq] at e
   have hp:(readH g)[i]? = some p:=by rw [List.getElem?_eq_getElem (by omega),e.1]
   have he:M[i]? = some (b:Int):=by rw [List.getElem?_eq_getElem (by omega),e.2]
   refine ⟨(p.2,keyAt g p,(b:Int)),List.mem_filter.2 ⟨mem_rdsT.2 ⟨i,p,b,hp,he,h2,rfl⟩,by simp⟩,?_⟩
   have hlt:atO O b<k:=by
    rcases from_pos hm hf hp he with h | ⟨_,h⟩
    ·omega
    ·rw [h2,hat] at h;exact h
   rcases hbn with rfl | hbn
   ·simp
   ·exact List.mem_cons_of_mem _ ((ih b hbc hlt _).2 ⟨n,rfl,hbn⟩)
theorem past_far (hs:SS g O) (hf:FF g M O):∀ {k:Nat},k≤O.length→∀ b:Nat,comAt g b=true→atO O b<k→∀ a,a∈pastP g M O k b ↔ ∃ n:Nat,a=n∧farB g M b n=true
 | 0,_,b,hb,hlt,a=>by
  have:=atO_com ho (comL_mem.2 ⟨b,rfl,hb⟩)
  omega
 | k+1,hk,b,hb,hlt,a=>by
  have hkl:k<O.length:=by omega
  have ih:=past_far hs hf (k:=k) (by omega)
  simp only [pastP,getO hkl]
  obtain ⟨j,hj,e,e2⟩:=pos_of ho (comL_mem.2 ⟨b,rfl,hb⟩)
  by_cases h:(b:Int)=O[k]
  ·rw [if_pos h]
   exact new_far hm ho hs hf hkl ih h.symm
  ·rw [if_neg h]
   have:j≠k:=fun e3=>h (by subst e3;exact e.symm)
   exact ih b hb (by omega) a
omit ho in
theorem from_leaves {i:Nat} {p:Int × Int} {m:Int} (hp:(readH g)[i]? = some p) (he:M[i]? = some m) (h0:0≤m):leavesB g m (keyAt g p)=true:=by
 obtain ⟨m',e,hmo⟩:=map_from hm hp
 rw [he] at e
 cases e
 have hw:=map_whole hm
 have hmay:mayH g=true:=by
  unfold wholeH at hw
  simp only [Bool.and_eq_true] at hw
  exact hw.1
 unfold ofH at hmo
 cases hop:opAt g p.1 p.2 with
 | none=>rw [hop] at hmo;cases hmo
 | some o =>
  rw [hop] at hmo
  simp only at hmo
  split at hmo
  ·cases hmo
  rw [ofL,List.mem_append] at hmo
  rcases hmo with h | h
  ·unfold ofStart at h
   split at h
   ·cases h
   ·simp at h;omega
  have h1:=(List.mem_filter.1 h).1
  rw [writersH,numsTo_fil,filTo_mem] at h1
  obtain ⟨k,h1,rfl,h3⟩:=h1
  unfold thatAt at h3
  rw [List.getElem?_eq_getElem h1] at h3
  simp only [wrB,Bool.and_eq_true] at h3
  have hk:keyAt g p=o.key:=by unfold keyAt;rw [hop]
  have hlt:((k:Nat):Int)<(g.ts.length:Int):=by omega
  have hops:(opsAt g (k:Int)).2=(g.ts[k]).ops:=by
   unfold opsAt
   simp [hmay,h1,List.getD_eq_getElem?_getD]
  unfold leavesB
  rw [hops,hk,lastW]
  have:=lastW_any (g.ts[k]).ops o.key
  rw [lastW] at this
  rw [this]
  exact h3.2
theorem read_right (hs:SS g O) (hf:FF g M O) {lvl:Int} (l1:1≤lvl) (l3:lvl≤3) {k:Nat} (hk:k<O.length) {i:Nat} {p:Int × Int} {m:Int} (hp:(readH g)[i]? = some p) (he:M[i]? = some m) (hpt:p.1=O[k]) :
 readB g M O lvl k (p.2,keyAt g p,m)=(seenL g lvl M O p).all (okB g O p m):=by
 have hat:atO O p.1=k:=by rw [hpt,atO_get (order_nodup ho) hk]
 have hmp:=from_pos hm hf hp he
 rw [hat] at hmp
 have hfind:(mfind (atM O k) m).isSome=true:=(find_atM m k (by omega)).2 (hmp.imp id fun h=>(take_at ho h.1 (by omega)).2 h.2)
 have hcm:mcnt (atM O k) m=atO O m:=mcnt_at ho (by omega) hmp
 have hb:∀ x:Nat,comAt g x=true→atO O x<k→behindB g O k x (p.2,keyAt g p,m) = !okB g O p m x:=fun x hx hlt=>by
  have h1:=mcnt_at ho (x:=(x:Int)) (k:=k) (by omega) (.inr ⟨comL_mem.2 ⟨x,rfl,hx⟩,hlt⟩)
  unfold behindB okB
  rw [h1,hcm]
  simp only [Int.natCast_nonneg,decide_true,Bool.true_and,Bool.not_or,Bool.not_not,← decide_not,Int.not_lt]
 unfold readB
 rw [hfind,Bool.true_and,Bool.eq_iff_iff,List.all_eq_true]
 unfold seenL
 have hsee:(∀ x∈filTo (seesB g lvl M O p) g.ts.length,okB g O p m x=true) ↔ ∀ x:Nat,seesB g lvl M O p x=true→okB g O p m x=true:=by
  constructor
  ·exact fun h x hx=>h x (filTo_mem.2 ⟨x,comAt_lt (sees_com hm hx),rfl,hx⟩)
  ·intro h x hx
   obtain ⟨y,_,rfl,hy⟩:=filTo_mem.1 hx
   exact h y hy
 rw [hsee]
 by_cases e1:lvl=1
 ·subst e1
  simp only [if_true,getO hk,Bool.not_eq_true',List.any_eq_false,seesB]
  constructor
  ·intro h x hx
   unfold rcB at hx
   obtain ⟨⟨p',m'⟩,hz,h1⟩:=List.any_eq_true.1 hx
   simp only [Bool.and_eq_true,beq_iff_eq,decide_eq_true_eq] at h1
   obtain ⟨h1,h2,rfl⟩:=h1
   obtain ⟨j,hj,e⟩:=List.getElem_of_mem hz
   rw [List.length_zip] at hj
   rw [List.getElem_zip] at e
   simp only [Prod.mk.injEq] at e
   have hp':(readH g)[j]? = some p':=by rw [List.getElem?_eq_getElem (by omega),e.1]
   have he':M[j]? = some (x:Int):=by rw [List.getElem?_eq_getElem (by omega),e.2]
   have:=h _ (mem_rdsT.2 ⟨j,p',x,hp',he',h1.trans hpt,rfl⟩)
   rcases from_pos hm hf hp' he' with h3 | ⟨h3,h4⟩
   ·omega
   ·obtain ⟨n,e3,hn⟩:=comL_mem.1 h3
    have:x=n:=by omega
    subst this
    rw [h1,hat] at h4
    rw [hb x hn h4] at this
    simpa [h2] using this
  ·intro h q hq
   obtain ⟨j,p',m',hp',he',h1,rfl⟩:=mem_rdsT.1 hq
   simp only [Bool.and_eq_true,decide_eq_true_eq,not_and,Bool.not_eq_true]
   intro hlt
   rcases from_pos hm hf hp' he' with rfl | ⟨h3,h4⟩
   ·simp [behindB]
   ·obtain ⟨n,rfl,hn⟩:=comL_mem.1 h3
    rw [h1,← hpt,hat] at h4
    rw [hb n hn h4]
    have:=h n (List.any_eq_true.2 ⟨(p',(n:Int)),by
     obtain ⟨a1,e1⟩:=List.getElem?_eq_some_iff.1 hp'
     obtain ⟨a2,e2⟩:=List.getElem?_eq_some_iff.1 he'
     have hi:j<((readH g).zip M).length:=by rw [List.length_zip];omega
     have:=List.getElem_mem hi
     rwa [List.getElem_zip,e1,e2] at this,by simp [h1,hpt,hlt]⟩)
    simp [this]
 ·rw [if_neg e1]
  by_cases e2:lvl=2
  ·subst e2
   have hst:∀ a b:Nat,stepB g M a b=true→atO O a<atO O b:=fun a b h=>by
    obtain ⟨ha,hb⟩:=stepB_com h
    unfold stepB at h
    simp only [Bool.and_eq_true,Bool.or_eq_true,decide_eq_true_eq,beq_iff_eq] at h
    rcases h.2 with ⟨h1,h2⟩ | h
    ·exact hs a b ha hb h1 h2
    ·unfold fromB at h
     obtain ⟨⟨p',m'⟩,hz,h1⟩:=List.any_eq_true.1 h
     simp only [Bool.and_eq_true,beq_iff_eq] at h1
     obtain ⟨rfl,h2⟩:=h1
     obtain ⟨j,hj,e⟩:=List.getElem_of_mem hz
     rw [List.length_zip] at hj
     rw [List.getElem_zip] at e
     simp only [Prod.mk.injEq] at e
     have:=hf j p' a (by rw [List.getElem?_eq_getElem (by omega),e.1]) (by rw [List.getElem?_eq_getElem (by omega),e.2])
     rw [h2] at this
     omega
   obtain ⟨t,et,hct⟩:=at_com ho hk
   have hpt2:p.1=t:=hpt.trans et
   have hnew:=fun a=>new_far hm ho hs hf hk (past_far hm ho hs hf (by omega)) et (a:=a)
   have hlt:∀ x:Nat,farB g M t x=true→atO O x<k:=fun x hx=>by
    have:=far_at hst hx
    rwa [← hpt2,hat] at this
   rw [if_pos rfl,List.all_eq_true]
   have hsb:∀ x:Nat,seesB g 2 M O p x=farB g M t x:=fun x=>by simp [seesB,hpt2]
   simp only [hsb]
   constructor
   ·intro h x hx
    have:=h x ((hnew _).2 ⟨x,rfl,hx⟩)
    rw [hb x (farB_com hx) (hlt x hx)] at this
    simpa using this
   ·intro h a ha
    obtain ⟨x,rfl,hx⟩:=(hnew _).1 ha
    rw [hb x (farB_com hx) (hlt x hx),h x hx]
    rfl
  ·have e3:lvl=3:=by omega
   subst e3
   rw [if_neg e2,beq_iff_eq]
   have hsb:∀ x:Nat,seesB g 3 M O p x=true ↔ comAt g x=true∧atO O x<k:=fun x=>by simp [seesB,hat]
   simp only [hsb]
   cases hl:lastK g O k (keyAt g p) with
   | none =>
    have hnone:∀ x:Nat,comAt g x=true→atO O x<k→leavesB g x (keyAt g p)=false:=fun x hx hlt=>by
     obtain ⟨j,hj,e,e2⟩:=pos_of ho (comL_mem.2 ⟨x,rfl,hx⟩)
     have:=lastK_none hl j (by omega)
     rwa [getO hj,e] at this
    simp only [Option.getD_none]
    constructor
    ·rintro - x ⟨hx,hlt⟩
     simp [okB,hnone x hx hlt]
    ·intro _
     rcases hmp with h | ⟨h,hlt⟩
     ·exact h.symm
     ·obtain ⟨n,rfl,hn⟩:=comL_mem.1 h
      exact absurd (hnone n hn hlt) (by simp [from_leaves hm hp he (by omega)])
   | some a =>
    obtain ⟨j,hj,ea,hla,hmax⟩:=lastK_some hl
    have hjl:j<O.length:=by omega
    rw [getO hjl] at ea
    obtain ⟨n,en,hn⟩:=at_com ho hjl
    have ean:a=n:=ea.trans en
    have haj:atO O a=j:=by rw [ea,atO_get (order_nodup ho) hjl]
    subst ean
    simp only [Option.getD_some]
    constructor
    ·rintro rfl x ⟨hx,hlt⟩
     obtain ⟨i2,hi2,e,e2⟩:=pos_of ho (comL_mem.2 ⟨x,rfl,hx⟩)
     unfold okB
     by_cases hxn:(x:Int)=n
     ·simp [hxn]
     ·by_cases hle:leavesB g x (keyAt g p)=true
      ·have:¬ j<i2:=fun h=>by
        have:=hmax i2 h (by omega)
        rw [getO hi2,e,hle] at this
        cases this
       have:i2≠j:=fun h=>hxn (by subst h;rw [← e,← en])
       have:atO O x<atO O n:=by omega
       simp [this]
      ·simp [hle]
    ·intro h
     have h1:=h n ⟨hn,by omega⟩
     unfold okB at h1
     simp only [hla,Bool.not_true,Bool.false_or,Bool.or_eq_true,beq_iff_eq,decide_eq_true_eq] at h1
     rcases h1 with h1 | h1
     ·exact h1
     ·rcases hmp with h2 | ⟨h2,hlt⟩
      ·rw [h2,atO_one ho] at h1
       have:=atO_com ho (comL_mem.2 ⟨n,rfl,hn⟩)
       omega
      ·obtain ⟨i2,hi2,e,e2⟩:=pos_of ho h2
       have:=hmax i2 (by omega) (by omega)
       rw [getO hi2,e] at this
       have h0:0≤m:=by
        obtain ⟨q,e3,_⟩:=comL_mem.1 h2
        omega
       rw [from_leaves hm hp he h0] at this
       cases this
theorem step_right (hs:SS g O) (hf:FF g M O) {lvl:Int} (l1:1≤lvl) (l3:lvl≤3) {k:Nat} (hk:k<O.length) :
 stepOk g M O lvl k=true ↔ (badH g O[k]).isEmpty=true∧∀ (i:Nat) (p:Int × Int) (m:Int),(readH g)[i]? = some p→M[i]? = some m→p.1=O[k]→(seenL g lvl M O p).all (okB g O p m)=true:=by
 have hses:((lastS g O k (sesAt g (O[k]).toNat)).any fun a=>decide (O[k]<a))=false:=by
  cases hl:lastS g O k (sesAt g (O[k]).toNat) with
  | none=>rfl
  | some a =>
   obtain ⟨n,rfl,hc,hse,hlt,_⟩:=lastS_max ho hs (by omega) hl
   obtain ⟨t,et,hct⟩:=at_com ho hk
   have hat:atO O (t:Int)=k:=by rw [← et,atO_get (order_nodup ho) hk]
   rw [et] at hse ⊢
   simp only [Option.any_some,decide_eq_false_iff_not]
   intro h
   have:=hs t n hct hc (by omega) (by simpa using hse.symm)
   omega
 unfold stepOk
 rw [getO hk,hses,Bool.not_false,Bool.true_and,Bool.and_eq_true,List.all_eq_true]
 refine and_congr_right fun _=>⟨fun h i p m hp he ht=>?_,fun h r hr=>?_⟩
 ·rw [← read_right hm ho hs hf l1 l3 hk hp he ht]
  exact h _ (mem_rdsT.2 ⟨i,p,m,hp,he,ht,rfl⟩)
 ·obtain ⟨i,p,m,hp,he,ht,rfl⟩:=mem_rdsT.1 hr
  rw [read_right hm ho hs hf l1 l3 hk hp he ht]
  exact h i p m hp he ht
theorem walk_holds {lvl:Int} (l1:1≤lvl) (l3:lvl≤3):walkB g M O lvl=holdsB g lvl M O:=by
 have hget:∀ {j:Nat} (hj:j<(comL g).length),(comL g).getD j 0=(comL g)[j]:=fun hj=>by simp [List.getD_eq_getElem?_getD,List.getElem?_eq_getElem hj]
 have key:SS g O→FF g M O→(walkB g M O lvl=true ↔ holdsB g lvl M O=true):=fun hs hf=>by
  unfold walkB holdsB
  rw [andTo_iff,Bool.and_eq_true,andTo_iff,andTo_iff]
  constructor
  ·intro h
   constructor
   ·intro j hj
    unfold sesB
    rw [hget hj,Bool.and_eq_true,andTo_iff]
    obtain ⟨k,hk,e,_⟩:=pos_of ho (List.getElem_mem hj)
    refine ⟨e ▸ ((step_right hm ho hs hf l1 l3 hk).1 (h k hk)).1,fun i hi=>?_⟩
    have hi':i<(comL g).length:=by omega
    have hlt:=List.pairwise_iff_getElem.1 (comL_pw g) i j hi' hj hi
    obtain ⟨a,ea,ha⟩:=comL_mem.1 (List.getElem_mem hi')
    obtain ⟨b,eb,hb⟩:=comL_mem.1 (List.getElem_mem hj)
    unfold aheadB
    rw [hget hj,hget hi',ea,eb]
    simp only [Int.toNat_natCast]
    by_cases hse:sesAt g a=sesAt g b
    ·simp [hs a b ha hb (by omega) hse]
    ·simp [hse]
   ·intro i hi
    unfold rightB
    obtain ⟨m,he,hmo⟩:=map_from hm (List.getElem?_eq_getElem hi)
    rw [List.getElem?_eq_getElem hi,he]
    simp only [Bool.and_eq_true,decide_eq_true_eq]
    obtain ⟨k,hk,e,_⟩:=pos_of ho (read_com (List.getElem_mem hi))
    exact ⟨hf i _ m (List.getElem?_eq_getElem hi) he,((step_right hm ho hs hf l1 l3 hk).1 (h k hk)).2 i _ m (List.getElem?_eq_getElem hi) he e.symm⟩
  ·rintro ⟨h1,h2⟩ k hk
   rw [step_right hm ho hs hf l1 l3 hk]
   constructor
   ·obtain ⟨j,hj,e⟩:=List.getElem_of_mem (order_sub ho (List.getElem_mem hk))
    have:=h1 j hj
    unfold sesB at this
    rw [hget hj,e,Bool.and_eq_true] at this
    exact this.1
   ·intro i p m hp he _
    exact (rights (andTo_iff.2 h2) hp he).2
 rw [Bool.eq_iff_iff]
 constructor
 ·intro h
  have hst:=andTo_iff.1 h
  -- sessions keep their order
  have chain:∀ k,k≤O.length→∀ i j,i<j→j<k→sesAt g (O.getD i 0).toNat=sesAt g (O.getD j 0).toNat→O.getD i 0<O.getD j 0:=by
   intro k
   induction k with
   | zero=>intro _ i j _ h;omega
   | succ k ih =>
    intro hk i j hij hj hse
    rcases Nat.lt_succ_iff_lt_or_eq.1 hj with h1 | h1
    ·exact ih (by omega) i j hij h1 hse
    ·subst h1
     have hs:=hst j (by omega)
     unfold stepOk at hs
     rw [Bool.and_eq_true] at hs
     cases hl:lastS g O j (sesAt g (O.getD j 0).toNat) with
     | none=>exact absurd hse (lastS_none hl i hij)
     | some a =>
      rw [hl] at hs
      have hle:a≤O.getD j 0:=by simpa using hs.1
      obtain ⟨j0,q1,rfl,q3,q4⟩:=lastS_some hl
      have hne:O.getD i 0≠O.getD j 0:=by
       rw [getO (show i<O.length by omega),getO (show j<O.length by omega)]
       exact List.pairwise_iff_getElem.1 (order_nodup ho) i j (by omega) (by omega) hij
      rcases Nat.lt_trichotomy i j0 with h2 | h2 | h2
      ·have:=ih (by omega) i j0 h2 q1 (hse.trans q3.symm)
       omega
      ·subst h2;omega
      ·exact absurd hse (q4 i h2 hij)
  have hs:SS g O:=fun a b ha hb hab hse=>by
   obtain ⟨i,hi,ei,ei2⟩:=pos_of ho (comL_mem.2 ⟨a,rfl,ha⟩)
   obtain ⟨j,hj,ej,ej2⟩:=pos_of ho (comL_mem.2 ⟨b,rfl,hb⟩)
   rw [ei2,ej2]
   rcases Nat.lt_trichotomy i j with h1 | h1 | h1
   ·omega
   ·subst h1;rw [ei] at ej;omega
   ·have:=chain O.length (Nat.le_refl _) j i h1 hi (by rw [getO hj,getO hi,ei,ej];simpa using hse.symm)
    rw [getO hj,getO hi,ei,ej] at this
    omega
  have hf:FF g M O:=fun i p m hp he=>by
   obtain ⟨k,hk,e,e2⟩:=pos_of ho (read_com (List.mem_of_getElem? hp))
   have hs2:=hst k hk
   unfold stepOk at hs2
   simp only [Bool.and_eq_true,List.all_eq_true] at hs2
   have:=hs2.2.2 (p.2,keyAt g p,m) (mem_rdsT.2 ⟨i,p,m,hp,he,by rw [getO hk,e],rfl⟩)
   unfold readB at this
   rw [Bool.and_eq_true] at this
   rcases (find_atM m k (by omega)).1 this.1 with h1 | h1
   ·exact .inl (by omega)
   ·exact .inr (by rw [e2];exact (take_at ho (order_sub ho (List.mem_of_mem_take h1)) (by omega)).1 h1)
  exact (key hs hf).1 h
 ·intro h
  have h':=h
  unfold holdsB at h'
  rw [Bool.and_eq_true] at h'
  have hf:FF g M O:=fun i p m hp he=>(rights h'.2 hp he).1
  have hs:SS g O:=fun a b ha hb hab hse=>step_at hm ho h'.1 hf (by unfold stepB;rw [ha,hb];simp [hab,hse])
  exact (key hs hf).2 h
end
def rdAt (g:Hist') (M:List Int) (n:Nat):List (Int × List (Int × Int × Int)):=((readH g).zip M |>.take n).foldl (fun m x=>mset m x.1.1 (((mfind m x.1.1).map (·.2)).getD []++[(x.1.2,keyAt g x.1,x.2)])) []
theorem rdAt_succ {g:Hist'} {M:List Int} {n:Nat} {p:Int × Int} {m:Int} (h1:(readH g)[n]? = some p) (h2:M[n]? = some m) :
 rdAt g M (n+1)=mset (rdAt g M n) p.1 (((mfind (rdAt g M n) p.1).map (·.2)).getD []++[(p.2,keyAt g p,m)]):=by
 unfold rdAt
 rw [List.take_add_one,show ((readH g).zip M)[n]? = some (p,m) from List.getElem?_zip_eq_some.2 ⟨h1,h2⟩,Option.toList_some,List.foldl_append]
 rfl
theorem rd_val (g:Hist') (t:Int):∀ (l:List ((Int × Int) × Int)) (m0:List (Int × List (Int × Int × Int))),
 ((mfind (l.foldl (fun m x=>mset m x.1.1 (((mfind m x.1.1).map (·.2)).getD []++[(x.1.2,keyAt g x.1,x.2)])) m0) t).map (·.2)).getD []=((mfind m0 t).map (·.2)).getD []++((l.filter fun x=>x.1.1 == t).map fun x=>(x.1.2,keyAt g x.1,x.2))
 | [],m0=>by simp
 | x::l,m0=>by
  rw [List.foldl_cons,rd_val g t l,mval_mset,List.filter_cons]
  by_cases h:t=x.1.1
  ·subst h
   simp
  ·rw [if_neg h,if_neg (by simpa using fun e=>h e.symm)]
theorem rdAt_get (g:Hist') (M:List Int) (t:Int):((mfind (rdAt g M (readH g).length) t).map (·.2)).getD []=rdsT g M t:=by
 unfold rdAt rdsT
 rw [rd_val,List.take_of_length_le (by rw [List.length_zip];omega)]
 simp [mfind]
theorem rd_len (g:Hist') (M:List Int) (t:Int):(rdsT g M t).length≤(readH g).length:=by
 unfold rdsT
 rw [List.length_map]
 refine Nat.le_trans (List.length_filter_le _ _) ?_
 rw [List.length_zip]
 omega
theorem rdAt_le (g:Hist') (M:List Int) (n:Nat) (t:Int):(((mfind (rdAt g M n) t).map (·.2)).getD []).length≤(readH g).length:=by
 unfold rdAt
 rw [rd_val]
 simp only [mfind,Option.map_none,Option.getD_none,List.nil_append,List.length_map]
 refine Nat.le_trans (List.length_filter_le _ _) ?_
 rw [List.length_take,List.length_zip]
 omega
def wsM (g:Hist') (O:List Int):Nat→List (Int × Int)
 | 0=>[]
 | k+1=>mset (wsM g O k) (sesAt g (O.getD k 0).toNat) (O.getD k 0)
theorem wsM_val (g:Hist') (O:List Int) (s:Int):∀ k,(mfind (wsM g O k) s).map (·.2)=lastS g O k s
 | 0=>rfl
 | k+1=>by
  rw [wsM,mval_mset,lastS,wsM_val g O s k]
  by_cases h:s=sesAt g (O.getD k 0).toNat
  ·rw [if_pos h,if_pos h.symm]
  ·rw [if_neg h,if_neg fun e=>h e.symm]
def putL (t:Int) (m:List (Int × Int)) (ops:List Op'):Nat→List (Int × Int)
 | 0=>m
 | i+1=>match ops[i]? with
  | some o=>if o.w then mset (putL t m ops i) o.key t else putL t m ops i
  | none=>putL t m ops i
theorem putL_val (t:Int) (m:List (Int × Int)) (ops:List Op') (key:Int):∀ i,i≤ops.length→(mfind (putL t m ops i) key).map (·.2)=if (ops.take i).any (wkB key) then some t else (mfind m key).map (·.2)
 | 0,_=>by simp [putL]
 | i+1,h=>by
  have ih:=putL_val t m ops key i (by omega)
  rw [putL,List.getElem?_eq_getElem (show i<ops.length by omega),List.take_add_one,List.getElem?_eq_getElem (show i<ops.length by omega),List.any_append]
  simp only [Option.toList_some,List.any_cons,List.any_nil,Bool.or_false]
  by_cases hw:(ops[i]).w=true
  ·rw [if_pos hw,mval_mset,ih]
   by_cases hk:key=(ops[i]).key
   ·simp [wkB,hw,hk]
   ·have:¬ (ops[i]).key=key:=fun e=>hk e.symm
    simp [wkB,hk,this]
  ·rw [if_neg hw,ih]
   simp [wkB,hw]
def wlM (g:Hist') (O:List Int):Nat→List (Int × Int)
 | 0=>[]
 | k+1=>putL (O.getD k 0) (wlM g O k) (opsAt g (O.getD k 0)).2 (opsAt g (O.getD k 0)).2.length
theorem wlM_val (g:Hist') (O:List Int) (key:Int):∀ k,(mfind (wlM g O k) key).map (·.2)=lastK g O k key
 | 0=>rfl
 | k+1=>by
  rw [wlM,putL_val _ _ _ _ _ (Nat.le_refl _),List.take_length,← lastW_any,lastK,wlM_val g O key k]
  rfl
end Go.Pv.T
namespace Go.Pv.T
open Go Go.Pv
end Go.Pv.T
namespace Go.Pv.T
open Go Go.Pv
end Go.Pv.T
namespace Go.Pv.T
open Go Go.Pv
structure RwAt (g:Hist') (r:RwS) (st:St):Prop where
 cl:r.c.length=g.ts.length
 dl:r.d.length=g.ts.length
 h:st.ob 2=some ⟨0,.cells (histC g)⟩
 c:st.ob 36=some ⟨448,.cells (r.c.map V.bool)⟩
 d:st.ob 44=some ⟨704,.cells (r.d.map V.bool)⟩
 t1:st.tm 1 = .ptr 2 0 0
 t5:st.tm 5 = .osl 36 448 0 g.ts.length 1
 t6:st.tm 6 = .osl 44 704 0 g.ts.length 1
 t8:st.tm 8 = .bool r.hop
 t9:st.tm 9 = .bool r.more
 df:st.df=[]
 ro:st.ro=0
 nx:768≤st.nx
section
variable (g:Hist') (M:List Int) (t:Nat)
def fireB (bs:List Bool) (a b:Nat):Bool:=!bs.getD a false && ((b == t || bs.getD b false) && stepB g M a b)
def FarS (bs:List Bool):Prop:=bs.length=g.ts.length∧∀ a,bs.getD a false=true→farB g M t a=true
def FarR (bs0:List Bool) (i j:Nat) (bs:List Bool) (more:Bool):Prop:=FarS g M t bs∧(more=false→bs=bs0∧∀ a b,(a<i∨a=i∧b<j)→b<g.ts.length→fireB g M t bs0 a b=false) ∧
 (more=true→bs.count false+1≤bs0.count false)
end
section
variable {g:Hist'} {M:List Int} {t:Nat}
theorem FarS.fire {bs:List Bool} (h:FarS g M t bs) (ht:t<g.ts.length) {a b:Nat} (hb:b<g.ts.length) (hf:fireB g M t bs a b=true):FarS g M t (bs.set a true):=by
 refine ⟨by simp [h.1],fun x hx=>?_⟩
 unfold fireB at hf
 simp only [Bool.and_eq_true,Bool.or_eq_true,beq_iff_eq] at hf
 by_cases hxa:x=a
 ·subst hxa
  rcases hf.2.1 with rfl | h2
  ·exact war_one hf.2.2 _
  ·exact war_trans hb (h.2 b h2) (war_one hf.2.2 _)
 ·refine h.2 x ?_
  rw [List.getD_eq_getElem?_getD,List.getElem?_set_ne (fun e=>hxa e.symm)] at hx
  simpa [List.getD_eq_getElem?_getD] using hx
theorem count_fire {bs:List Bool} {a:Nat} (ha:a<bs.length) (hf:bs.getD a false=false):(bs.set a true).count false+1=bs.count false:=by
 have e:bs[a]=false:=by simpa [List.getD_eq_getElem?_getD,ha] using hf
 have h1:0<bs.count false:=List.count_pos_iff.2 (e ▸ List.getElem_mem ha)
 rw [List.count_set ha,e]
 simp
 omega
theorem FarR.next {bs0 bs:List Bool} {i j:Nat} {m:Bool} (h:FarR g M t bs0 i j bs m) (ht:t<g.ts.length) (hi:i<g.ts.length) (hj:j<g.ts.length) :
 FarR g M t bs0 i (j+1) (if fireB g M t bs i j then bs.set i true else bs) (m || fireB g M t bs i j):=by
 obtain ⟨h1,h2,h3⟩:=h
 cases hf:fireB g M t bs i j
 ·simp only [Bool.or_false,Bool.false_eq_true,if_false]
  refine ⟨h1,fun hm=>?_,h3⟩
  obtain ⟨rfl,h4⟩:=h2 hm
  refine ⟨rfl,fun a b hab hb=>?_⟩
  rcases hab with hab | ⟨rfl,hab⟩
  ·exact h4 a b (.inl hab) hb
  ·rcases Nat.lt_succ_iff_lt_or_eq.1 hab with h | h
   ·exact h4 a b (.inr ⟨rfl,h⟩) hb
   ·subst h;exact hf
 ·simp only [Bool.or_true,if_true]
  have hfa:bs.getD i false=false:=by
   unfold fireB at hf
   simp only [Bool.and_eq_true,Bool.not_eq_true'] at hf
   exact hf.1
  have hc:=count_fire (by rw [h1.1];exact hi) hfa
  refine ⟨h1.fire ht hj hf,fun hm=>(by cases hm),fun _=>?_⟩
  cases m
  ·rw [(h2 rfl).1] at hc ⊢
   omega
  ·have:=h3 rfl
   omega
theorem FarR.row {bs0 bs:List Bool} {i:Nat} {m:Bool} (h:FarR g M t bs0 i g.ts.length bs m):FarR g M t bs0 (i+1) 0 bs m:=by
 refine ⟨h.1,fun hm=>⟨(h.2.1 hm).1,fun a b hab hb=>(h.2.1 hm).2 a b ?_ hb⟩,h.2.2⟩
 rcases hab with hab | ⟨_,hab⟩
 ·rcases Nat.lt_succ_iff_lt_or_eq.1 hab with h1 | h1
  ·exact .inl h1
  ·exact .inr ⟨h1,hb⟩
 ·omega
end
end Go.Pv.T
namespace Go.Pv.T
open Go Go.Pv
end Go.Pv.T
namespace Go.Pv.T
open Go Go.Pv
end Go.Pv.T
namespace Go.Pv.T
open Go Go.Pv
theorem comL_len (g:Hist'):(comL g).length≤g.ts.length:=numsTo_len isCom g.ts g.ts.length
theorem read_op {g:Hist'} (hm:mayH g=true) {q:Nat} (hq:q<(readH g).length):∃ (i k:Nat) (hi:i<g.ts.length) (hk:k<(g.ts[i]).ops.length),(readH g)[q]=((i:Int),(k:Int))∧keyAt g (readH g)[q]=((g.ts[i]).ops[k]).key∧comAt g i=true:=by
 obtain ⟨i,k,t,e,ht,hc,hk,_⟩:=readAt_in (List.getElem_mem hq)
 obtain ⟨hi,rfl⟩:=List.getElem?_eq_some_iff.1 ht
 refine ⟨i,k,hi,hk,e,?_,by simpa [comAt,hi] using hc⟩
 rw [e]
 have:opAt g (i:Int) (k:Int)=some (g.ts[i]).ops[k]:=by
  unfold opAt
  simp [hm,hi,hk,List.getD_eq_getElem?_getD]
 unfold keyAt
 simp only [this]
theorem whole_may {g:Hist'} (h:wholeH g=true):mayH g=true:=by
 unfold wholeH at h
 simp only [Bool.and_eq_true] at h
 exact h.1
def Off (ub key:Nat):Prop:=∀ m,ub≤m→¬ key=2 * m+1
theorem Off.up {ub ub' key:Nat} (h:Off ub key) (hu:ub≤ub'):Off ub' key:=fun m hm=>h m (Nat.le_trans hu hm)
theorem Off.new {ub m:Nat} (h:m<ub):Off ub (2 * m+1):=fun k hk e=>by omega
def Was (ub:Nat) (ob ob':Nat→Option Obj'):Prop:=∀ key,Off ub key→ob' key=ob key
theorem Was.trans {ub ub1:Nat} {ob ob1 ob2:Nat→Option Obj'} (h:Was ub ob ob1) (h':Was ub1 ob1 ob2) (hu:ub≤ub1):Was ub ob ob2:=fun key hk=>(h' key (hk.up hu)).trans (h key hk)
theorem Was.refl (ub:Nat) (ob:Nat→Option Obj'):Was ub ob ob:=fun _ _=>rfl
structure JN where
 tr:Option (Nat × Nat)
 nr:Bool
 nm:Bool
 kJ:Nat
 uJ:Nat
 kA:Nat
 uA:Nat
 kP:Nat
 uP:Nat
 rows:List (Nat × Nat)
def farL (g:Hist') (M:List Int) (b:Nat):List Bool:=(List.range g.ts.length).map (farB g M b)
def rowC (n:Nat) (r:Nat × Nat):V:=.osl r.1 r.2 0 n 1
structure Jd (g:Hist') (lvl:Int) (M O:List Int) (N:JN) (ob:Nat→Option Obj') (ub:Nat):Prop where
 j:ob N.kJ=some ⟨N.uJ,.cells [.int .i64 lvl,slOf g.sn strC g.ss,slOf g.kn strC g.ks,slOf g.tn txnC g.ts,.sl N.tr N.nr (readH g).length ((readH g).flatMap placeC),slOf N.nm intC M,.map N.kA N.uA,if lvl=2 then .osl N.kP N.uP 0 g.ts.length 1 else .sl none true 0 []]⟩
 a:∃ ver,ob N.kA=some ⟨N.uA,.mp ver (MP intV (atM O O.length))⟩
 p:lvl=2→ob N.kP=some ⟨N.uP,.cells (N.rows.map (rowC g.ts.length))⟩∧N.rows.length=g.ts.length∧(∀ b (h:b<N.rows.length),ob (N.rows[b]).1=some ⟨(N.rows[b]).2,.cells ((farL g M b).map V.bool)⟩)∧Off ub N.kP∧∀ r∈N.rows,Off ub r.1
 fj:Off ub N.kJ
 fa:Off ub N.kA
 odd:N.kJ % 2=1∧N.kA % 2=1∧(lvl=2→N.kP % 2=1∧∀ r∈N.rows,r.1 % 2=1)
theorem Jd.keep {g:Hist'} {lvl:Int} {M O:List Int} {N:JN} {ob ob':Nat→Option Obj'} {ub ub':Nat} (h:Jd g lvl M O N ob ub) (hw:Was ub ob ob') (hu:ub≤ub'):Jd g lvl M O N ob' ub':=by
 refine ⟨(hw _ h.fj).trans h.j,?_,fun h2=>?_,h.fj.up hu,h.fa.up hu,h.odd⟩
 ·obtain ⟨ver,e⟩:=h.a
  exact ⟨ver,(hw _ h.fa).trans e⟩
 ·obtain ⟨p1,p2,p3,p4,p5⟩:=h.p h2
  exact ⟨(hw _ p4).trans p1,p2,fun b hb=>(hw _ (p5 _ (List.getElem_mem hb))).trans (p3 b hb),p4.up hu,fun r hr=>(p5 r hr).up hu⟩
theorem Jd.map {g:Hist'} {lvl:Int} {M O:List Int} {N:JN} {ob:Nat→Option Obj'} {ub:Nat} (h:Jd g lvl M O N ob ub) (ho:orderB g O=true) {t:Int} (ht:t = -1∨t∈comL g):lookupV ob .int (.int .i64 0) false (.map N.kA N.uA) (.int .i64 t)=some (.int .i64 (atO O t)):=by
 obtain ⟨ver,e⟩:=h.a
 rw [lookupV_MI (atM O O.length) (by simp [objMap,e]),atM_eq ho ht]
theorem idx0 {l u n x sz:Nat} {kk:IntKind} (hx:x<n):idxSlV sz (.osl l u 0 n sz) (.int kk (x:Int))=some (.ptr l u (x * sz)):=by simp [idxSlV,hx]
theorem beq_off {a b:Nat} (h:¬ a=b):Nat.beq a b=false:=by
 cases e:Nat.beq a b
 ·rfl
 ·exact absurd (Nat.eq_of_beq_eq_true e) h
end Go.Pv.T
namespace Go.Pv.T
open Go Go.Pv
end Go.Pv.T
namespace Go.Pv.T
open Go Go.Pv
theorem two_inj {a b:Nat}:(2 * a=2 * b)=(a=b):=propext ⟨fun h=>by omega,fun h=>by rw [h]⟩
theorem ptr_leaf {l u o:Nat}:(V.ptr l u o).leaf=true:=rfl
def rdC (r:Int × Int × Int):List V:=[.int .i64 r.1,.int .i64 r.2.1,.int .i64 r.2.2]
theorem rdC_len (r:Int × Int × Int):(rdC r).length=3:=rfl
structure WN where
 kW:Nat
 uW:Nat
 kR:Nat
 uR:Nat
 kA:Nat
 uA:Nat
 kL:Nat
 uL:Nat
 kS:Nat
 uS:Nat
 kP:Nat
 uP:Nat
def wC (g:Hist') (lvl:Int) (N:WN):List V:=[.int .i64 lvl,slOf g.sn strC g.ss,slOf g.kn strC g.ks,slOf g.tn txnC g.ts,.map N.kR N.uR,.map N.kA N.uA,.map N.kL N.uL,.map N.kS N.uS,.map N.kP N.uP]
structure Fix (N:WN) (ub key:Nat):Prop where
 a:key≠N.kA
 l:key≠N.kL
 s:key≠N.kS
 p:key≠N.kP
 f:Off ub key
 o:key % 2=1
def RowV (N:WN) (ob:Nat→Option Obj') (ub:Nat) (v:V) (rs:List (Int × Int × Int)):Prop :=
 (v = .sl none true 0 []∧rs=[])∨∃ l u,v = .osl l u 0 rs.length 3∧ob l=some ⟨u,.cells (rs.flatMap rdC)⟩∧Fix N ub l
def InM (N:WN) (ob:Nat→Option Obj') (ub:Nat) (v:V) (L:List Int):Prop :=
 (v = .nilmap∧L=[])∨∃ l u ver m,v = .map l u∧ob l=some ⟨u,.mp ver (MP intV m)⟩∧(∀ a,a∈m.map (·.1) ↔ a∈L)∧Fix N ub l
def mapV (p:Nat × Nat):V:=.map p.1 p.2
def rowV (p:Nat × Nat × Nat):V:=.osl p.1 p.2.1 0 p.2.2 3
structure Wk (g:Hist') (lvl:Int) (M:List Int) (N:WN) (A L S:List (Int × Int)) (P:Int→List Int) (ob:Nat→Option Obj') (ub:Nat):Prop where
 w:ob N.kW=some ⟨N.uW,.cells (wC g lvl N)⟩
 r:∃ ver mr,ob N.kR=some ⟨N.uR,.mp ver (MP rowV mr)⟩∧∀ t,RowV N ob ub (((mfind mr t).map fun p=>rowV p.2).getD (.sl none true 0 [])) (rdsT g M t)
 a:∃ ver,ob N.kA=some ⟨N.uA,.mp ver (MP intV A)⟩
 l:∃ ver,ob N.kL=some ⟨N.uL,.mp ver (MP intV L)⟩
 s:∃ ver,ob N.kS=some ⟨N.uS,.mp ver (MP intV S)⟩
 p:∃ ver mp,ob N.kP=some ⟨N.uP,.mp ver (MP mapV mp)⟩∧∀ t,InM N ob ub (((mfind mp t).map fun p=>mapV p.2).getD .nilmap) (P t)
 fw:Fix N ub N.kW
 fr:Fix N ub N.kR
 fa:Off ub N.kA
 fl:Off ub N.kL
 fs:Off ub N.kS
 fp:Off ub N.kP
 odd:N.kA % 2=1∧N.kL % 2=1∧N.kS % 2=1∧N.kP % 2=1
 ne:N.kA≠N.kL∧N.kA≠N.kS∧N.kA≠N.kP∧N.kL≠N.kS∧N.kL≠N.kP∧N.kS≠N.kP
section
variable {g:Hist'} {lvl:Int} {M:List Int} {N:WN} {A L S:List (Int × Int)} {P:Int→List Int} {ob ob':Nat→Option Obj'} {ub ub':Nat}
theorem Fix.up {key:Nat} (h:Fix N ub key) (hu:ub≤ub'):Fix N ub' key:=⟨h.a,h.l,h.s,h.p,h.f.up hu,h.o⟩
theorem RowV.keep {v:V} {rs:List (Int × Int × Int)} (h:RowV N ob ub v rs) (hw:∀ key,Fix N ub key→ob' key=ob key) (hu:ub≤ub'):RowV N ob' ub' v rs:=by
 rcases h with h | ⟨l,u,h1,h2,h3⟩
 ·exact .inl h
 ·exact .inr ⟨l,u,h1,(hw _ h3).trans h2,h3.up hu⟩
theorem InM.keep {v:V} {l:List Int} (h:InM N ob ub v l) (hw:∀ key,Fix N ub key→ob' key=ob key) (hu:ub≤ub'):InM N ob' ub' v l:=by
 rcases h with h | ⟨l,u,ver,m,h1,h2,h3,h4⟩
 ·exact .inl h
 ·exact .inr ⟨l,u,ver,m,h1,(hw _ h4).trans h2,h3,h4.up hu⟩
theorem Wk.keep (h:Wk g lvl M N A L S P ob ub) (hw:∀ key,Off ub key→key % 2=1→ob' key=ob key) (hu:ub≤ub'):Wk g lvl M N A L S P ob' ub':=by
 have hf:∀ key,Fix N ub key→ob' key=ob key:=fun key hk=>hw key hk.f hk.o
 obtain ⟨o1,o2,o3,o4⟩:=h.odd
 obtain ⟨rv,mr,r1,r2⟩:=h.r
 obtain ⟨av,a1⟩:=h.a
 obtain ⟨lv,l1⟩:=h.l
 obtain ⟨sv,s1⟩:=h.s
 obtain ⟨pv,mp,p1,p2⟩:=h.p
 exact ⟨(hf _ h.fw).trans h.w,⟨rv,mr,(hf _ h.fr).trans r1,fun t=>(r2 t).keep hf hu⟩,⟨av,(hw _ h.fa o1).trans a1⟩,⟨lv,(hw _ h.fl o2).trans l1⟩,⟨sv,(hw _ h.fs o3).trans s1⟩,
  ⟨pv,mp,(hw _ h.fp o4).trans p1,fun t=>(p2 t).keep hf hu⟩,h.fw.up hu,h.fr.up hu,h.fa.up hu,h.fl.up hu,h.fs.up hu,h.fp.up hu,h.odd,h.ne⟩
theorem Wk.at (h:Wk g lvl M N A L S P ob ub) {ob':Nat→Option Obj'} (e:ob' N.kA=ob N.kA) (t:Int):lookupV ob' .int (.int .i64 0) false (.map N.kA N.uA) (.int .i64 t)=some (.int .i64 (mcnt A t)):=by
 obtain ⟨ver,h1⟩:=h.a
 exact lookupV_MI A (by simp [objMap,e,h1])
theorem Wk.in' {lo:Nat→Option Obj'} {k u ver:Nat} {m:List (Int × Int)} (h:lo k=some ⟨u,.mp ver (MP intV m)⟩) (t:Int):lookupV lo .int (.int .i64 0) true (.map k u) (.int .i64 t)=some (.tup [.int .i64 (mcnt m t),.bool (mfind m t).isSome]):=by
 rw [lookupV_MP (f:=intV) m (by simp [objMap,h]),mcnt]
 cases mfind m t <;> rfl
theorem Wk.row (h:Wk g lvl M N A L S P ob ub) (t:Int):∃ v,(∀ ob':Nat→Option Obj',ob' N.kR=ob N.kR→lookupV ob' .int (.sl none true 0 []) false (.map N.kR N.uR) (.int .i64 t)=some v)∧RowV N ob ub v (rdsT g M t):=by
 obtain ⟨ver,mr,h1,h2⟩:=h.r
 refine ⟨_,fun ob' e=>?_,h2 t⟩
 rw [lookupV_MP (f:=rowV) mr (by simp [objMap,e,h1])]
 cases mfind mr t <;> rfl
theorem Wk.past (h:Wk g lvl M N A L S P ob ub) (t:Int):∃ v,(∀ ob':Nat→Option Obj',ob' N.kP=ob N.kP→lookupV ob' .int .nilmap false (.map N.kP N.uP) (.int .i64 t)=some v)∧InM N ob ub v (P t):=by
 obtain ⟨ver,mp,h1,h2⟩:=h.p
 refine ⟨_,fun ob' e=>?_,h2 t⟩
 rw [lookupV_MP (f:=mapV) mp (by simp [objMap,e,h1])]
 cases mfind mp t <;> rfl
theorem Off.ne {key:Nat} (h:Off ub key):∀ m,ub≤m→¬ key=2 * m+1:=h
theorem evo282 (hs:Small g) (hW:Wk g lvl M N A L S P ob ub) (t key:Int) (tk:Nat→Bool) (base:Nat) :
 EvO E 282 [.ptr N.kW N.uW 0,.int .i64 t,.int .i64 key] ob tk base ub (.bool (leavesB g t key)):=by
 refine EvO_wpK (af:=S282) rfl ?_
 have hw:=hW.w
 have gW:=hW.fw.f.ne
 have el:=ev116 hs t key
 have ez:(lastW (opsAt g t).2 key).2=leavesB g t key:=rfl
 rw [ez] at el
 simp (disch:=first | (simp;done) | omega) [S282,objCells,hw,wC]
 refine kS_ev el (by simp [histC]) rfl (by simp [histC]) ?_
 rw [retA_tupl (by simp [V.plain,valC])]
 simp (disch:=first | (simp;done) | omega) [valC,objCells,splice]
 exact ⟨by omega,endV_1 (by simp) (by simp) rfl⟩
end
def ItAt (N:WN) (ub0:Nat) (ob:Nat→Option Obj') (k u:Nat) (left:List Int) (last:Option Int):Prop :=
 (ob k=some ⟨u,.nomap⟩∧left=[]∧last=none)∨∃ l' u' ver m lf ls,ob k=some ⟨u,.miter l' u' ver (MP intV lf) ls⟩∧ob l'=some ⟨u',.mp ver (MP intV m)⟩∧(Fix N ub0 l'∧l'≠k)∧lf.map (·.1)=left∧∀ a,last=some a→∃ v,ls=some (.int .i64 a,v)
theorem ItAt.keep {N:WN} {ub0:Nat} {ob ob':Nat→Option Obj'} {k u:Nat} {left:List Int} {last:Option Int} (h:ItAt N ub0 ob k u left last) (hk:ob' k=ob k) (hw:∀ key,Fix N ub0 key→ob' key=ob key):ItAt N ub0 ob' k u left last:=by
 rcases h with ⟨h1,h2⟩ | ⟨l',u',ver,m,lf,ls,h1,h2,h3,h4⟩
 ·exact .inl ⟨hk.trans h1,h2⟩
 ·exact .inr ⟨l',u',ver,m,lf,ls,hk.trans h1,(hw _ h3.1).trans h2,h3,h4⟩
section
variable {E:Env} {Yf:YF} {st:St} {ub:Nat} {K:St→Nat→Prop} {d:Option Nat} {nm:Bool}
theorem kS_rangeN {x:A} (hx:eval E st.tm x = .nilmap) (h:kApp K st d ub { v:=.iter (objName d nm st.fb ub) ub,obs:=[(objName d nm st.fb ub,⟨ub,.nomap⟩)] }):wpStep E Yf ⟨d,.range false x,none,nm⟩ st ub K:=by
 rw [wpStep_of _ rfl rfl]
 simp only [aop,hx,mkObj,wpD_some,name_eq]
 exact h
theorem kS_rangeI {x:A} {N:WN} {ob0:Nat→Option Obj'} {ub0:Nat} {L:List Int} (hx:InM N ob0 ub0 (eval E st.tm x) L) (hob:∀ key,Fix N ub0 key→st.ob key=ob0 key) (hn:ub0≤ub) (hnm:nm=true)
 (h:∀ o left,(∀ a,a∈left ↔ a∈L)→(∀ ob',ob' (2 * ub+1)=some o→(∀ key,Fix N ub0 key→ob' key=st.ob key)→ItAt N ub0 ob' (2 * ub+1) ub left none)→kApp K st d ub { v:=.iter (2 * ub+1) ub,obs:=[(2 * ub+1,o)] }):wpStep E Yf ⟨d,.range false x,none,nm⟩ st ub K:=by
 subst hnm
 rcases hx with ⟨h1,h2⟩ | ⟨l,u,ver,m,h1,h2,h3,h4⟩
 ·refine kS_rangeN h1 (h _ [] (by simp [h2]) fun ob' ho _=>.inl ⟨ho,rfl,rfl⟩)
 ·have ho:st.ob l=some ⟨u,.mp ver (MP intV m)⟩:=(hob _ h4).trans h2
  refine kS_rangeMap h1 ho (h _ (m.map (·.1)) h3 fun ob' ho' hw=>.inr ⟨l,u,ver,m,m,none,ho',(hw _ h4).trans ho,⟨h4,h4.f ub hn⟩,rfl,fun a h=>by cases h⟩)
theorem kS_nextI {N:WN} {ub0:Nat} {x:A} {k u:Nat} {left:List Int} {last:Option Int} (hx:eval E st.tm x = .iter k u) (hi:ItAt N ub0 st.ob k u left last) (hro:st.ro≤u) (h0:left=[]→kSet K st d ub (.tup [.bool false]))
 (h1:∀ a key b o v,left=a++key::b→(∀ ob',ob' k=some o→(∀ key,key≠k→ob' key=st.ob key)→ItAt N ub0 ob' k u (a++b) (some key))→kApp K st d ub { v:=.tup [.bool true,.int .i64 key,v],obs:=[(k,o)] }):wpStep E Yf ⟨d,.nextMap x,none,nm⟩ st ub K:=by
 rcases hi with ⟨e1,e2,_⟩ | ⟨l',u',ver,m,lf,ls,e1,e2,e3,e4,_⟩
 ·simp only [wpStep,wanted,yieldCall,sharedCall]
  refine ⟨[{ v:=.tup [.bool false] }],?_,fun δ hδ=>?_⟩
  ·simp only [Pv.nextL,hx,e1,if_true]
  ·rw [List.mem_singleton] at hδ
   subst hδ
   have:=h0 e2
   rw [app_v]
   exact this
 ·refine kS_nextMap hx e1 e2 hro (fun h=>h0 (by rw [← e4];unfold MP at h;rw [List.map_eq_nil_iff] at h;rw [h];rfl)) fun a k' v b hab=>?_
  unfold MP at hab
  obtain ⟨l1,l2,hl,ha,hc⟩:=List.map_eq_append_iff.1 hab
  obtain ⟨p,l3,rfl,hp,hb⟩:=List.map_eq_cons_iff.1 hc
  obtain ⟨pk,pv⟩:=p
  simp only [Prod.mk.injEq] at hp
  obtain ⟨rfl,rfl⟩:=hp
  refine h1 (l1.map (·.1)) pk (l3.map (·.1)) _ _ (by rw [← e4,hl];simp) fun ob' ho hw=>.inr ⟨l',u',ver,m,l1++l3,some (.int .i64 pk,intV pv),?_,(hw _ e3.2).trans e2,e3,by simp,fun a h=>by cases h;exact ⟨_,rfl⟩⟩
  rw [ho,← ha,← hb]
  simp [MP]
theorem kS_entryI {N:WN} {ub0:Nat} {x:A} {k u:Nat} {left:List Int} {key:Int} (hx:eval E st.tm x = .iter k u) (hi:ItAt N ub0 st.ob k u left (some key)) (h:∀ v,kSet K st d ub (.tup [.int .i64 key,v])):wpStep E Yf ⟨d,.entry x,none,nm⟩ st ub K:=by
 rcases hi with ⟨_,_,e⟩ | ⟨l',u',ver,m,lf,ls,e1,e2,e3,e4,e5⟩
 ·cases e
 ·obtain ⟨v,rfl⟩:=e5 key rfl
  exact kS_entry hx e1 e2 (h v)
end
section
variable {N:WN} {ob:Nat→Option Obj'} {ub:Nat}
theorem evo219 {p:Int × Int × Int→Bool} {gf:FuncId} {c1 c2 c3 c4:Nat} (hs:E.sh true gf=false) {v:V} {rs:List (Int × Int × Int)} (hv:RowV N ob ub v rs) (hl:rs.length≤1000000000)
 (hp:∀ r∈rs,∀ (tk:Nat→Bool) (base ub':Nat),ub≤ub'→EvO E gf [.agg (rdC r),.ptr c1 c2 0,.ptr c3 c4 0] ob tk base ub' (.bool (p r))) (tk:Nat→Bool) (base:Nat):EvO E 219 [v,.fn (.func gf) [] [.ptr c1 c2 0,.ptr c3 c4 0]] ob tk base ub (.int .i64 (firstI p rs)):=by
 refine EvO_wpK (af:=S219) rfl ?_
 have hlen:lenSlV v=some (.int .i64 rs.length):=by
  rcases hv with ⟨rfl,rfl⟩ | ⟨l,u,rfl,_⟩ <;> rfl
 have hat:∀ i,(h:i<rs.length)→∃ q,idxSlV 3 v (.int .i64 (i:Int))=some q∧loadV ob (some 3) q=some (.agg (rdC rs[i])):=by
  intro i h
  rcases hv with ⟨rfl,rfl⟩ | ⟨l,u,rfl,ho,_⟩
  ·simp at h
  ·refine ⟨_,idx0 h,?_⟩
   have:=flatMap_at rdC_len rs i h
   have hlf:=flatMap_len rdC_len rs
   simp only [loadV,objCells,ho,if_true,Option.bind_some,pick1_some]
   rw [if_pos (by rw [hlf];omega),this]
 simp [S219,hlen]
 refine wp_loopUp [(4,5),(8,18)] rs.length (fun i s=>s.tm 8 = .int .i64 i∧s.ob=ob∧ub≤s.nx∧∀ j (hj:j<rs.length),j<i→p rs[j]=false) rfl rfl ⟨by simp,by simp,by simp;omega,fun _ _ h=>by omega⟩ ?_
 rintro i s hi ⟨h8,ho,hn,hb⟩ f
 have h0:s.tm 0=v:=by rw [f.t 0 (by simp)];simp
 have h1:s.tm 1 = .fn (.func gf) [] [.ptr c1 c2 0,.ptr c3 c4 0]:=by rw [f.t 1 (by simp)];simp
 have h7:s.tm 7 = .int .i64 rs.length:=by rw [f.t 7 (by simp)];simp
 have hd:s.df=[]:=by rw [f.d];simp
 clear f
 by_cases hlt:i<rs.length
 ·have hw:=wrapU hlt hl
  obtain ⟨q,hq1,hq2⟩:=hat i hlt
  simp [h0,h1,h7,h8,hlt,hq1,ho,hq2]
  refine kS_callVO (f:=gf) (first:=[]) (captured:=[.ptr c1 c2 0,.ptr c3 c4 0]) (by simp) hs (by simp [V.strip,V.pureTop,V.pureLeaf]) (v:=.bool (p rs[i])) (by simpa [ho] using hp rs[i] (List.getElem_mem hlt) _ _ _ (by omega)) ?_
  cases hpi:p rs[i]
  ·simp [h8,hw]
   refine ⟨hlt,ho,by omega,?_⟩
   intro j hj hji
   rcases Nat.lt_succ_iff_lt_or_eq.1 hji with h | rfl
   ·exact hb j hj h
   ·exact hpi
  ·simp
   refine endV_1 (by simpa using hd) ?_ rfl
   simp
   rw [firstI_found hlt hpi hb]
 ·have:i=rs.length:=by omega
  subst this
  simp [h7,h8]
  refine endV_1 (by simpa using hd) ?_ rfl
  simp [firstI_none (fun j hj=>hb j hj hj)]
theorem evo163 {p:Int × Int × Int→Bool} {gf:FuncId} {c1 c2 c3 c4:Nat} (hs:E.sh true gf=false) {v:V} {rs:List (Int × Int × Int)} (hv:RowV N ob ub v rs) (hl:rs.length≤1000000000)
 (hp:∀ r∈rs,∀ (tk:Nat→Bool) (base ub':Nat),ub≤ub'→EvO E gf [.agg (rdC r),.ptr c1 c2 0,.ptr c3 c4 0] ob tk base ub' (.bool (p r))) (tk:Nat→Bool) (base:Nat):EvO E 163 [v,.fn (.func gf) [] [.ptr c1 c2 0,.ptr c3 c4 0]] ob tk base ub (.bool (rs.any p)):=by
 refine EvO_wpK (af:=S163) rfl ?_
 simp [S163]
 refine kS_callO (vs:=[v,.fn (.func gf) [] [.ptr c1 c2 0,.ptr c3 c4 0]]) (by simp) rfl (by rw [List.all_cons,Bool.and_eq_false_iff];exact .inr rfl) (evo219 hs (hv.keep (fun _ _=>rfl) (by omega)) hl (fun r hr tk base ub' h=>hp r hr tk base ub' (by omega)) _ _) ?_
 simp
 exact endV_1 rfl (by simp [firstI_any]) rfl
end
def behB (g:Hist') (A:List (Int × Int)) (t:Int) (r:Int × Int × Int):Bool:=decide (0≤t) && (!(t == r.2.2) && (leavesB g t r.2.1 && decide (mcnt A r.2.2≤mcnt A t)))
def rdB (g:Hist') (M:List Int) (lvl:Int) (A L:List (Int × Int)) (P:Int→List Int) (t:Int) (r:Int × Int × Int):Bool:=(mfind A r.2.2).isSome &&
 (if lvl=1 then !((rdsT g M t).any fun q=>decide (q.1<r.1) && behB g A q.2.2 r) else
  if lvl=2 then (P t).all fun a=>!behB g A a r else ((mfind L r.2.1).map (·.2)).getD (-1) == r.2.2)
section
variable {g:Hist'} {lvl:Int} {M:List Int} {N:WN} {A L S:List (Int × Int)} {P:Int→List Int} {ob:Nat→Option Obj'} {ub:Nat}
theorem evo257 (hs:Small g) (hW:Wk g lvl M N A L S P ob ub) (t:Int) (r:Int × Int × Int) (tk:Nat→Bool) (base:Nat) :
 EvO E 257 [.ptr N.kW N.uW 0,.int .i64 t,.agg (rdC r)] ob tk base ub (.bool (behB g A t r)):=by
 refine EvO_wpK (af:=S257) rfl ?_
 have hw:=hW.w
 have gW:=hW.fw.f.ne
 have gA:=hW.fa.ne
 have hat:=fun (ob':Nat→Option Obj') (h:ob' N.kA=ob N.kA) x=>hW.at h x
 unfold behB
 by_cases h0:0≤t
 ·cases h1:(t == r.2.2)
  ·have h1':(t != r.2.2)=true:=by simpa using h1
   simp (disch:=first | (simp;done) | omega) [S257,objCells,h0,h1',rdC]
   refine kD_obs (vs:=[.ptr N.kW N.uW 0,.int .i64 t,.int .i64 r.2.1]) (by simp) rfl rfl (evo282 hs (hW.keep (fun key hk _=>by simp (disch:=first | (simp;done) | omega) [hk.ne]) (by first | omega | (simp;omega))) t r.2.1 _ _) (retA_plain rfl) ?_
   cases h2:leavesB g t r.2.1
   ·simp (disch:=first | (simp;done) | omega)
    exact endV_1 (by simp) (by simp) rfl
   ·simp (disch:=first | (simp;done) | omega) [objCells,hw,wC,gW]
    rw [hat _ (by simp (disch:=first | (simp;done) | omega) [gA])]
    simp (disch:=first | (simp;done) | omega) [objCells,hw,wC,gW]
    rw [hat _ (by simp (disch:=first | (simp;done) | omega) [gA])]
    simp
    exact endV_1 (by simp) (by simp) rfl
  ·have h1':(t != r.2.2)=false:=by simpa using h1
   simp (disch:=first | (simp;done) | omega) [S257,objCells,h0,h1',rdC]
   exact endV_1 (by simp) (by simp) rfl
 ·simp (disch:=first | (simp;done) | omega) [S257,h0,rdC]
  exact endV_1 (by simp) (by simp) rfl
theorem evo256 (hs:Small g) (hW:Wk g lvl M N A L S P ob ub) {r:Int × Int × Int} {kr ur kw uw:Nat} (hr:ob kr=some ⟨ur,.cells (rdC r)⟩) (hwp:ob kw=some ⟨uw,.cells [.ptr N.kW N.uW 0]⟩) (fr:Off ub kr) (fw:Off ub kw) (q:Int × Int × Int) (tk:Nat→Bool) (base:Nat) :
 EvO E 256 [.agg (rdC q),.ptr kr ur 0,.ptr kw uw 0] ob tk base ub (.bool (decide (q.1<r.1) && behB g A q.2.2 r)):=by
 refine EvO_wpK (af:=S256) rfl ?_
 have gr:=fr.ne
 have gw:=fw.ne
 unfold rdC at hr
 by_cases h0:q.1<r.1
 ·simp (disch:=first | (simp;done) | omega) [S256,objCells,hr,hwp,gr,gw,h0,rdC]
  refine kS_callO (vs:=[.ptr N.kW N.uW 0,.int .i64 q.2.2,.agg (rdC r)]) (by simp [rdC]) rfl rfl (evo257 hs (hW.keep (fun key hk _=>by simp (disch:=first | (simp;done) | omega) [hk.ne]) (by first | omega | (simp;omega))) q.2.2 r _ _) ?_
  simp
  exact endV_1 (by simp) (by simp) rfl
 ·simp (disch:=first | (simp;done) | omega) [S256,objCells,hr,gr,h0,rdC]
  exact endV_1 (by simp) (by simp) rfl
theorem evo222 (hW:Wk g lvl M N A L S P ob ub) (r:Int × Int × Int) (tk:Nat→Bool) (base:Nat) :
 EvO E 222 [.ptr N.kW N.uW 0,.agg (rdC r)] ob tk base ub (.bool (((mfind L r.2.1).map (·.2)).getD (-1) == r.2.2)):=by
 refine EvO_wpK (af:=S222) rfl ?_
 have hw:=hW.w
 have gW:=hW.fw.f.ne
 have gL:=hW.fl.ne
 obtain ⟨ver,hl⟩:=hW.l
 have hlk:=fun (ob':Nat→Option Obj') (h:ob' N.kL=ob N.kL) x=>Wk.in' (lo:=ob') (h.trans hl) x
 simp (disch:=first | (simp;done) | omega) [S222,objCells,hw,wC,gW,rdC]
 rw [hlk _ (by simp (disch:=first | (simp;done) | omega) [gL])]
 cases hf:mfind L r.2.1 with
 | none =>
  simp (disch:=first | (simp;done) | omega) [objCells]
  exact endV_1 (by simp) (by simp) rfl
 | some p =>
  simp (disch:=first | (simp;done) | omega) [objCells,mcnt,hf]
  exact endV_1 (by simp) (by simp) rfl
theorem evo220 (hs:Small g) (hM:(readH g).length≤1000000) (hW:Wk g lvl M N A L S P ob ub) (t:Int) (r:Int × Int × Int) (tk:Nat→Bool) (base:Nat) :
 EvO E 220 [.ptr N.kW N.uW 0,.int .i64 t,.agg (rdC r)] ob tk base ub (.bool (!((rdsT g M t).any fun q=>decide (q.1<r.1) && behB g A q.2.2 r))):=by
 refine EvO_wpK (af:=S220) rfl ?_
 have hw:=hW.w
 have gW:=hW.fw.f.ne
 have gR:=hW.fr.f.ne
 have hlen:=rd_len g M t
 obtain ⟨v,hlk,hrow⟩:=hW.row t
 simp (disch:=first | (simp;done) | omega) [S220,objCells,hw,wC,gW,rdC,ptr_leaf,V.cells,two_inj]
 rw [hlk _ (by simp (disch:=first | (simp;done) | omega) [gR])]
 simp (disch:=first | (simp;done) | omega)
 refine kS_callO (vs:=[v,.fn (.func 256) [] [.ptr (2 * (ub+64)+1) (ub+64) 0,.ptr (2 * ub+1) ub 0]]) (by simp) rfl (by rw [List.all_cons,Bool.and_eq_false_iff];exact .inr rfl) (evo163 (p:=fun q=>decide (q.1<r.1) && behB g A q.2.2 r) (N:=N) rfl (hrow.keep (fun key h=>?_) (by first | omega | (simp;omega))) (by omega) (fun q _ tk base ub' h=>evo256 hs (hW.keep (fun key h1 _=>?_) (by first | omega | (simp at h;omega))) (r:=r) ?_ ?_ (fun m hm=>by first | omega | (simp at h;omega)) (fun m hm=>by first | omega | (simp at h;omega)) q tk base) _ _) ?_
 ·simp (disch:=first | (simp;done) | omega) [h.f.ne]
 ·simp (disch:=first | (simp;done) | omega) [h1.ne]
 ·simp [rdC]
 ·simp (disch:=first | (simp;done) | omega) [two_inj]
 ·simp
  exact endV_1 (by simp) (by simp) rfl
theorem evo221 (hs:Small g) (hW:Wk g lvl M N A L S P ob ub) (t:Int) (r:Int × Int × Int) (tk:Nat→Bool) (base:Nat) :
 EvO E 221 [.ptr N.kW N.uW 0,.int .i64 t,.agg (rdC r)] ob tk base ub (.bool ((P t).all fun a=>!behB g A a r)):=by
 refine EvO_wpK (af:=S221) rfl ?_
 have hw:=hW.w
 have gW:=hW.fw.f.ne
 have gP:=hW.fp.ne
 obtain ⟨v,hlk,hin⟩:=hW.past t
 simp (disch:=first | (simp;done) | omega) [S221,objCells,hw,wC,gW,rdC]
 rw [hlk _ (by simp (disch:=first | (simp;done) | omega) [gP])]
 simp
 refine kS_rangeI (N:=N) (ob0:=ob) (ub0:=ub) (L:=P t) (by simpa using hin) (fun key hk=>by simp (disch:=first | (simp;done) | omega) [hk.f.ne]) (by first | omega | (simp;omega)) rfl fun o left hmem hit=>?_
 simp
 refine wpC_gen fun st hst=>?_
 obtain ⟨u14,hu14⟩:∃ u,u=ub+512:=⟨_,rfl⟩
 have g0:st.tm 0 = .ptr N.kW N.uW 0:=by rw [hst];simp
 have g5:st.tm 5 = .ptr (2 * ub+1) ub 0:=by rw [hst];simp
 have g14:st.tm 14 = .iter (2 * u14+1) u14:=by rw [hst,hu14];simp [Nat.add_assoc]
 have gi:ItAt N ub st.ob (2 * u14+1) u14 left none:=by
  have h:=hit st.ob (by rw [hst];simp) fun key hk=>by rw [hst];simp (disch:=first | (simp;done) | omega) [hk.f.ne]
  simp only [Nat.add_assoc,Nat.reduceAdd] at h
  rw [hu14]
  exact h
 have gw:Was ub ob st.ob:=fun key hk=>by rw [hst];simp (disch:=first | (simp;done) | omega) [show ∀ m,ub≤m→¬ key=2 * m+1 from hk]
 have g5o:st.ob (2 * ub+1)=some ⟨ub,.cells (rdC r)⟩:=by rw [hst];simp (disch:=first | (simp;done) | omega) [rdC,two_inj];omega
 have gn:u14<st.nx:=by rw [hst,hu14];simp
 have gd:st.df=[]:=by rw [hst];simp
 have gr:st.ro=ub:=by rw [hst];simp
 clear hst hit
 refine wp_loopF (n:=left.length) [(6,7),(15,22)] (fun n s=>∃ left last,n=left.length∧ItAt N ub s.ob (2 * u14+1) u14 left last∧(∀ a∈left,a∈P t)∧(∀ a∈P t,a∈left∨behB g A a r=false)∧Was ub ob s.ob∧s.ob (2 * ub+1)=some ⟨ub,.cells (rdC r)⟩∧u14<s.nx) rfl rfl ⟨left,none,rfl,gi,fun a ha=>(hmem a).1 ha,fun a ha=>.inl ((hmem a).2 ha),gw,g5o,gn⟩ ?_
 clear hmem left gi gw g5o gn
 rintro n s ⟨left,last,rfl,si,hsub,hall,sw,s5o,sn⟩ f
 have s0:s.tm 0 = .ptr N.kW N.uW 0:=by rw [f.t 0 (by simp)];simp [g0]
 have s5:s.tm 5 = .ptr (2 * ub+1) ub 0:=by rw [f.t 5 (by simp)];simp [g5]
 have s14:s.tm 14 = .iter (2 * u14+1) u14:=by rw [f.t 14 (by simp)];simp [g14]
 have sd:s.df=[]:=by rw [f.d];simp [gd]
 have sr:s.ro=ub:=by rw [f.r];simp [gr]
 clear f
 simp
 refine kS_nextI (N:=N) (ub0:=ub) (k:=2 * u14+1) (u:=u14) (left:=left) (last:=last) (by simp [s14]) si (by simp [sr];omega) (fun h=>?_) (fun a key b o v hab hit=>?_)
 ·subst h
  have:((P t).all fun a=>!behB g A a r)=true:=List.all_eq_true.2 fun a ha=>by
   rcases hall a ha with h | h
   ·cases h
   ·rw [h];rfl
  simp
  exact endV_1 (by simp [sd]) (by simp [this]) rfl
 ·subst hab
  have hkey:key∈P t:=hsub key (by simp)
  simp
  refine kS_entryI (N:=N) (ub0:=ub) (k:=2 * u14+1) (u:=u14) (left:=a++b) (key:=key) (by simp [s14]) (hit _ (by simp) fun key hk=>by simp [hk]) fun v'=>?_
  have e5:¬ ub=u14:=by omega
  simp (disch:=first | (simp;done) | omega) [s0,s5,objCells,rdC,s5o,two_inj,e5]
  refine kS_callO (vs:=[.ptr N.kW N.uW 0,.int .i64 key,.agg (rdC r)]) (by simp [rdC]) rfl rfl (evo257 hs (hW.keep (fun key hk _=>by simp [hk u14 (by omega),sw key hk]) (by first | omega | (simp;omega))) key r _ _) ?_
  cases hb:behB g A key r
  ·simp
   refine ⟨(a++b).length,by simp,a++b,rfl,⟨some key,hit _ (by simp) (fun key hk=>by simp [hk])⟩,fun x hx=>hsub x (List.mem_append.2 ((List.mem_append.1 hx).imp id (List.mem_cons_of_mem _))),fun x hx=>?_,fun key hk=>by simp [hk u14 (by omega),sw key hk],by simp [two_inj,e5,s5o,rdC],by first | omega | (simp;omega)⟩
   rcases hall x hx with h | h
   ·simp only [List.mem_append,List.mem_cons] at h ⊢
    rcases h with h | rfl | h
    ·exact .inl (.inl h)
    ·exact .inr hb
    ·exact .inl (.inr h)
   ·exact .inr h
  ·have:((P t).all fun a=>!behB g A a r)=false:=by
    rw [List.all_eq_false]
    exact ⟨key,hkey,by simp [hb]⟩
   simp
   exact endV_1 (by simp [sd]) (by simp [this]) rfl
theorem evo165 (hs:Small g) (hM:(readH g).length≤1000000) (hW:Wk g lvl M N A L S P ob ub) (t:Int) (r:Int × Int × Int) (tk:Nat→Bool) (base:Nat) :
 EvO E 165 [.ptr N.kW N.uW 0,.int .i64 t,.agg (rdC r)] ob tk base ub (.bool (rdB g M lvl A L P t r)):=by
 refine EvO_wpK (af:=S165) rfl ?_
 have hw:=hW.w
 have gW:=hW.fw.f.ne
 have gA:=hW.fa.ne
 obtain ⟨ver,ha⟩:=hW.a
 have hlk:=fun (ob':Nat→Option Obj') (h:ob' N.kA=ob N.kA) x=>Wk.in' (lo:=ob') (h.trans ha) x
 have hkeep:∀ (ob':Nat→Option Obj') (nx':Nat),Was ub ob ob'→ub≤nx'→Wk g lvl M N A L S P ob' nx':=fun ob' nx' h h'=>hW.keep (fun key hk _=>h key hk) h'
 simp (disch:=first | (simp;done) | omega) [S165,objCells,hw,wC,gW,rdC]
 rw [hlk _ (by simp (disch:=first | (simp;done) | omega) [gA])]
 unfold rdB
 cases hf:(mfind A r.2.2).isSome
 ·simp (disch:=first | (simp;done) | omega)
  exact endV_1 (by simp) (by simp) rfl
 ·simp (disch:=first | (simp;done) | omega) [objCells,hw,wC,gW]
  by_cases e1:lvl=1
  ·simp (disch:=first | (simp;done) | omega) [e1,objCells]
   refine kS_callO (vs:=[.ptr N.kW N.uW 0,.int .i64 t,.agg (rdC r)]) (by simp [rdC]) rfl rfl (evo220 hs hM (hkeep _ _ (fun key hk=>by simp (disch:=first | (simp;done) | omega) [show ∀ m,ub≤m→¬ key=2 * m+1 from hk]) (by first | omega | (simp;omega))) t r _ _) ?_
   simp
   exact endV_1 (by simp) (by simp) rfl
  ·have b1:(lvl == 1)=false:=by simpa using e1
   by_cases e2:lvl=2
   ·simp (disch:=first | (simp;done) | omega) [e2,objCells]
    refine kS_callO (vs:=[.ptr N.kW N.uW 0,.int .i64 t,.agg (rdC r)]) (by simp [rdC]) rfl rfl (evo221 hs (hkeep _ _ (fun key hk=>by simp (disch:=first | (simp;done) | omega) [show ∀ m,ub≤m→¬ key=2 * m+1 from hk]) (by first | omega | (simp;omega))) t r _ _) ?_
    simp
    exact endV_1 (by simp) (by simp) rfl
   ·have b2:(lvl == 2)=false:=by simpa using e2
    simp (disch:=first | (simp;done) | omega) [b1,b2,objCells]
    refine kS_callO (vs:=[.ptr N.kW N.uW 0,.agg (rdC r)]) (by simp [rdC]) rfl rfl (evo222 (hkeep _ _ (fun key hk=>by simp (disch:=first | (simp;done) | omega) [show ∀ m,ub≤m→¬ key=2 * m+1 from hk]) (by first | omega | (simp;omega))) r _ _) ?_
    simp
    exact endV_1 (by simp) (by simp [e1,e2]) rfl
theorem evo164 (hs:Small g) (hM:(readH g).length≤1000000) (hW:Wk g lvl M N A L S P ob ub) {t:Int} {kw uw kt ut:Nat} (hwp:ob kw=some ⟨uw,.cells [.ptr N.kW N.uW 0]⟩) (htp:ob kt=some ⟨ut,.cells [.int .i64 t]⟩) (fw:Off ub kw) (ft:Off ub kt) (r:Int × Int × Int) (tk:Nat→Bool) (base:Nat) :
 EvO E 164 [.agg (rdC r),.ptr kw uw 0,.ptr kt ut 0] ob tk base ub (.bool (!rdB g M lvl A L P t r)):=by
 refine EvO_wpK (af:=S164) rfl ?_
 have gw:=fw.ne
 have gt:=ft.ne
 simp (disch:=first | (simp;done) | omega) [S164,objCells,hwp,htp,gw,gt,rdC]
 refine kS_callO (vs:=[.ptr N.kW N.uW 0,.int .i64 t,.agg (rdC r)]) (by simp [rdC]) rfl rfl (evo165 hs hM (hW.keep (fun key hk _=>by simp (disch:=first | (simp;done) | omega) [show ∀ m,ub≤m→¬ key=2 * m+1 from hk]) (by first | omega | (simp;omega))) t r _ _) ?_
 simp
 exact endV_1 (by simp) (by simp) rfl
end
end Go.Pv.T
namespace Go.Pv
open Go
def Env.other (E:Env) (fs1:FuncId→Option AF) (mn1:FuncId→Bool):Env :=
 { fc:=E.fc,fs:=fs1,sh:=E.sh,fz:=E.fz,tw:=E.tw,gl:=E.gl,srt:=E.srt,mn:=mn1 }
section
variable (E:Env) (fs1:FuncId→Option AF) (mn1:FuncId→Bool)
theorem eval_other:eval (E.other fs1 mn1)=eval E:=by funext tm x;cases x <;> rfl
theorem shared_other:sharedCall (E.other fs1 mn1)=sharedCall E:=by funext nm ρ op;cases op <;> rfl
theorem step_other:step (E.other fs1 mn1)=step E:=by
 funext call o st ub
 unfold step
 rw [eval_other,shared_other]
 rfl
theorem opsR_other:opsR (E.other fs1 mn1)=opsR E:=by
 funext call ops
 induction ops with
 | nil=>rfl
 | cons o r ih=>funext st ub;simp only [opsR,step_other,ih]
theorem drawR_other:drawR (E.other fs1 mn1)=drawR E:=by
 funext call ops
 induction ops with
 | nil=>rfl
 | cons o r ih =>
  funext st ub
  unfold drawR
  rw [eval_other,shared_other]
  simp only [ih]
  rfl
theorem codeL_other (call:Y→Callers) (y:Y) (N:Nat):∀ c,codeL (E.other fs1 mn1) call y N c=codeL E call y N c:=by
 intro c
 induction c <;> funext st <;> simp only [codeL,opsR_other,drawR_other,step_other,eval_other, *]
end
theorem callers_other {E:Env} {fs1:FuncId→Option AF} {mn1:FuncId→Bool} (hf:∀ f af,E.fs f=some af→fs1 f=some af) (hm:∀ f,E.mn f=false) :
 ∀ n,FLe (callers E n) (callers (E.other fs1 mn1) n)
 | 0=>fun y y' hy=>⟨fun _ _ _ h=>(by cases h),fun _ _ _ _ _ _ _ h=>(by cases h),fun _ _ _ _ _ _ _ _ h=>(by cases h),hy⟩
 | n+1=>by
  intro y y' hy
  have hc:=codeL_mono (E:=E) (callers_other (mn1:=mn1) hf hm n) (Nat.le_refl n)
  refine ⟨fun f a=>?_,fun f a ob tk b u=>?_,fun f a ob tk ro b u=>?_,hy⟩
  ·simp only [callers,codeL_other]
   exact (le.rfl' (E.fc f)).bind fun af=>one1_mono (hc _ _ _ (YLe.refl _) _)
  ·simp only [callers,codeL_other]
   by_cases hz:E.fz f
   ·have hz':(E.other fs1 mn1).fz f=true:=hz
    simp only [hz,hz',if_true]
    refine (le.rfl' _).bind fun a'=>?_
    exact ((callers_other (mn1:=mn1) hf hm n _ _ (YLe.refl _)).d f a').bind fun r=>le.rfl' _
   ·have hz':¬ (E.other fs1 mn1).fz f=true:=hz
    simp only [hz,hz',Bool.false_eq_true,if_false]
    refine (show le (E.fs f) (fs1 f) from fun af h=>hf f af h).bind fun af=>one1_mono (hc _ _ _ (YLe.refl _) _)
  ·simp only [callers,codeL_other]
   by_cases hz:E.tw f
   ·have hz':(E.other fs1 mn1).tw f=true:=hz
    simp only [hz,hz',if_true]
    refine (le.rfl' _).bind fun a'=>?_
    exact ((callers_other (mn1:=mn1) hf hm n _ _ (YLe.refl _)).d f a').bind fun r=>le.rfl' _
   have hz':¬ (E.other fs1 mn1).tw f=true:=hz
   simp only [hz,hz',Bool.false_eq_true,if_false]
   by_cases hs:E.srt f
   ·have hs':(E.other fs1 mn1).srt f=true:=hs
    simp only [hs,hs',if_true]
    exact le.rfl' _
   have hs':¬ (E.other fs1 mn1).srt f=true:=hs
   simp only [hs,hs',Bool.false_eq_true,if_false]
   refine (show le (E.fs f) (fs1 f) from fun af h=>hf f af h).bind fun af=>?_
   intro r hr
   rw [hm f] at hr
   obtain ⟨l,hl,hr⟩:=Option.bind_eq_some_iff.1 hr
   rw [hc _ _ _ hy _ l hl,Option.bind_some]
   have h1:∃ x q,l=[x]∧endS af.res x=some q∧r=[q]:=by
    match l,hr with
    | [x],hr =>
     simp only [Bool.false_eq_true,if_false,Option.map_eq_some_iff] at hr
     obtain ⟨q,hq,rfl⟩:=hr
     exact ⟨x,q,rfl,hq,rfl⟩
    | [],hr=>simp at hr
    | _::_::_,hr=>simp at hr
   obtain ⟨x,q,rfl,hq,rfl⟩:=h1
   show (if mn1 f=true then _ else _)=_
   by_cases h1:mn1 f=true
   ·simp [h1,hq]
   ·simp [h1,hq]
section
variable {E:Env} {fs1:FuncId→Option AF} {mn1:FuncId→Bool} (hf:∀ f af,E.fs f=some af→fs1 f=some af) (hm:∀ f,E.mn f=false)
include hf hm
theorem Ev.other {f:FuncId} {args:List V} {r:V} (h:Ev E f args r):Ev (E.other fs1 mn1) f args r:=by
 obtain ⟨n,h⟩:=h
 exact ⟨n,(callers_other hf hm n _ _ (YLe.refl _)).d _ _ _ h⟩
theorem EvO.other {f:FuncId} {args:List V} {ob:Nat→Option Obj'} {tk:Nat→Bool} {base ub:Nat} {r:V} (h:EvO E f args ob tk base ub r):EvO (E.other fs1 mn1) f args ob tk base ub r:=by
 obtain ⟨n,h⟩:=h
 exact ⟨n,(callers_other hf hm n _ _ (YLe.refl _)).o _ _ _ _ _ _ _ h⟩
theorem EvS.other {y:Nat→Y} {f:FuncId} {args:List V} {ob:Nat→Option Obj'} {tk:Nat→Bool} {ro base ub:Nat} {r:V × (Nat→Option Obj') × (Nat→Bool) × Nat} (h:EvS E y f args ob tk ro base ub r):EvS (E.other fs1 mn1) y f args ob tk ro base ub r:=by
 obtain ⟨n,h⟩:=h
 exact ⟨n,(callers_other hf hm n _ _ (YLe.refl _)).s _ _ _ _ _ _ _ _ h⟩
end
theorem EvSL.imp {E:Env} {y:Nat→Y} {f:FuncId} {args:List V} {ob:Nat→Option Obj'} {tk:Nat→Bool} {ro base ub:Nat} {P Q:V × (Nat→Option Obj') × (Nat→Bool) × Nat→Prop} (h:EvSL E y f args ob tk ro base ub P) (hpq:∀ r,P r→Q r):EvSL E y f args ob tk ro base ub Q:=by
 obtain ⟨n,l,h1,h2,h3⟩:=h
 exact ⟨n,l,h1,h2,fun r hr=>hpq r (h3 r hr)⟩
end Go.Pv
namespace Go.Pv.T
open Go Go.Pv
end Go.Pv.T
namespace Go.Pv.T
open Go Go.Pv
structure Mtx (ob:Nat→Option Obj') (lo hi kP uP n:Nat) (rows:List (Nat × Nat)) (f:Nat→Nat→Bool):Prop where
 p:ob kP=some ⟨uP,.cells (rows.map (rowC n)++List.replicate (n - rows.length) (.sl none true 0 []))⟩
 c:∀ b (h:b<rows.length),ob (rows[b]).1=some ⟨(rows[b]).2,.cells ((List.range n).map fun t=>V.bool (f b t))⟩
 k:kP=2 * uP+1∧lo≤uP∧uP<hi
 r:∀ b (h:b<rows.length),(rows[b]).1=2 * (rows[b]).2+1∧uP<(rows[b]).2∧(rows[b]).2<hi
 d:∀ b b' (h:b<rows.length) (h':b'<rows.length),(rows[b]).2=(rows[b']).2→b=b'
theorem Mtx.hi {ob:Nat→Option Obj'} {lo hi kP uP n:Nat} {rows:List (Nat × Nat)} {f:Nat→Nat→Bool} (h:Mtx ob lo hi kP uP n rows f) {ob':Nat→Option Obj'} {hi':Nat} (hu:hi≤hi') (hP:ob' kP=ob kP) (hr:∀ b (hb:b<rows.length),ob' (rows[b]).1=ob (rows[b]).1):Mtx ob' lo hi' kP uP n rows f :=
 ⟨hP.trans h.p,fun b hb=>(hr b hb).trans (h.c b hb),⟨h.k.1,h.k.2.1,by have:=h.k.2.2;omega⟩,fun b hb=>⟨(h.r b hb).1,(h.r b hb).2.1,by have:=(h.r b hb).2.2;omega⟩,h.d⟩
theorem Mtx.offP {ob:Nat→Option Obj'} {lo hi kP uP n:Nat} {rows:List (Nat × Nat)} {f:Nat→Nat→Bool} (h:Mtx ob lo hi kP uP n rows f):Off hi kP:=fun m hm=>by
 have:=h.k
 omega
theorem Mtx.offR {ob:Nat→Option Obj'} {lo hi kP uP n:Nat} {rows:List (Nat × Nat)} {f:Nat→Nat→Bool} (h:Mtx ob lo hi kP uP n rows f) {b:Nat} (hb:b<rows.length):Off hi (rows[b]).1:=fun m hm=>by
 have:=h.r b hb
 omega
theorem Mtx.keep {ob:Nat→Option Obj'} {lo hi kP uP n:Nat} {rows:List (Nat × Nat)} {f:Nat→Nat→Bool} (h:Mtx ob lo hi kP uP n rows f) {ob':Nat→Option Obj'} {hi':Nat} (hu:hi≤hi') (hW:Was hi ob ob'):Mtx ob' lo hi' kP uP n rows f :=
 h.hi hu (hW _ h.offP) fun _ hb=>hW _ (h.offR hb)
theorem Mtx.congr {ob:Nat→Option Obj'} {lo hi kP uP n:Nat} {rows:List (Nat × Nat)} {f f':Nat→Nat→Bool} (h:Mtx ob lo hi kP uP n rows f) (e:∀ b a,b<rows.length→a<n→f b a=f' b a):Mtx ob lo hi kP uP n rows f' :=
 ⟨h.p,fun b hb=>by
  rw [h.c b hb]
  congr 3
  refine List.map_congr_left fun a ha=>?_
  rw [e b a hb (List.mem_range.1 ha)],h.k,h.r,h.d⟩
theorem splice_rng (n t:Nat) (F:Nat→V) (x:V) (h:t<n):splice ((List.range n).map F) t [x]=(List.range n).map fun a=>if a=t then x else F a:=by
 unfold splice
 refine List.ext_getElem (by simp;omega) fun i h1 h2=>?_
 simp only [List.length_cons,List.length_nil,List.getElem_append,List.getElem_map,List.getElem_range,List.length_append,List.length_take,List.length_map,List.length_range,List.getElem_take,List.getElem_drop]
 rcases Nat.lt_trichotomy i t with hi | hi | hi
 ·rw [dif_pos (by omega),dif_pos (by omega),if_neg (by omega)]
 ·subst hi
  rw [dif_pos (by omega),dif_neg (by omega),if_pos rfl]
  simp
 ·rw [dif_neg (by omega),if_neg (by omega)]
  congr 1
  omega
theorem Mtx.set {ob:Nat→Option Obj'} {lo hi kP uP n:Nat} {rows:List (Nat × Nat)} {f:Nat→Nat→Bool} (h:Mtx ob lo hi kP uP n rows f) {b t:Nat} {x:Bool} (hb:b<rows.length) (ht:t<n) {ob':Nat→Option Obj'} {hi':Nat} (hu:hi≤hi')
 (h1:ob' (rows[b]).1=some ⟨(rows[b]).2,.cells (splice ((List.range n).map fun t=>V.bool (f b t)) t [.bool x])⟩) (h2:∀ key,Off hi key→key≠(rows[b]).1→ob' key=ob key):Mtx ob' lo hi' kP uP n rows fun b' a=>if b'=b∧a=t then x else f b' a:=by
 have hk:=h.k
 have hrb:=h.r b hb
 refine ⟨(h2 _ h.offP (by omega)).trans h.p,fun b' hb'=>?_,⟨hk.1,hk.2.1,by omega⟩,fun b' hb'=>⟨(h.r b' hb').1,(h.r b' hb').2.1,by have:=(h.r b' hb').2.2;omega⟩,h.d⟩
 by_cases e:b'=b
 ·subst e
  rw [h1,splice_rng n t _ _ ht]
  congr 3
  refine List.map_congr_left fun a _=>?_
  by_cases e2:a=t <;> simp [e2]
 ·have hne:(rows[b']).1≠(rows[b]).1:=fun e'=>e (h.d b' b hb' hb (by have:=h.r b' hb';omega))
  rw [h2 _ (h.offR hb') hne,h.c b' hb']
  simp [e]
theorem Mtx.row {ob:Nat→Option Obj'} {lo hi kP uP n:Nat} {rows:List (Nat × Nat)} (h:Mtx ob lo hi kP uP n rows fun _ _=>false) (hn:rows.length<n) {ob':Nat→Option Obj'} {u hi':Nat} (h0:hi≤u) (hu:u<hi')
 (hP:ob' kP=some ⟨uP,.cells (splice (rows.map (rowC n)++List.replicate (n - rows.length) (.sl none true 0 [])) rows.length [rowC n (2 * u+1,u)])⟩) (h1:ob' (2 * u+1)=some ⟨u,.cells (repl n [.bool false])⟩) (h2:∀ key,Off hi key→key≠kP→ob' key=ob key) :
 Mtx ob' lo hi' kP uP n (rows++[(2 * u+1,u)]) fun _ _=>false:=by
 have hk:=h.k
 refine ⟨?_,fun b hb=>?_,⟨hk.1,hk.2.1,by omega⟩,fun b hb=>?_,fun b b' hb hb' e=>?_⟩
 ·rw [hP]
  congr 3
  unfold splice
  rw [List.take_left' (by simp),List.drop_append,show n - rows.length=n - (rows++[(2 * u+1,u)]).length+1 by simp;omega,List.replicate_succ]
  simp
 ·rcases Nat.lt_or_ge b rows.length with hlt | hge
  ·rw [List.getElem_append_left hlt]
   have:=h.r b hlt
   rw [h2 _ (h.offR hlt) (by omega),h.c b hlt]
  ·have:b=rows.length:=by simp at hb;omega
   subst this
   rw [List.getElem_concat_length rfl]
   simp only
   rw [h1,repl_false]
   congr 3
   refine List.ext_getElem (by simp) fun i _ _=>by simp
 ·rcases Nat.lt_or_ge b rows.length with hlt | hge
  ·rw [List.getElem_append_left hlt]
   have:=h.r b hlt
   omega
  ·have:b=rows.length:=by simp at hb;omega
   subst this
   rw [List.getElem_concat_length rfl]
   simp only
   exact ⟨trivial,by omega,hu⟩
 ·rcases Nat.lt_or_ge b rows.length with hlt | hge
  ·rcases Nat.lt_or_ge b' rows.length with hlt' | hge'
   ·rw [List.getElem_append_left hlt,List.getElem_append_left hlt'] at e
    exact h.d b b' hlt hlt' e
   ·have:b'=rows.length:=by simp at hb';omega
    subst this
    rw [List.getElem_append_left hlt,List.getElem_concat_length rfl] at e
    have:=h.r b hlt
    simp only at e
    omega
  ·have hbe:b=rows.length:=by simp at hb;omega
   subst hbe
   rcases Nat.lt_or_ge b' rows.length with hlt' | hge'
   ·rw [List.getElem_append_left hlt',List.getElem_concat_length rfl] at e
    have:=h.r b' hlt'
    simp only at e
    omega
   ·simp at hb';omega
/-! What goes before,by loops. -/
def jC (g:Hist') (lvl:Int) (M:List Int) (N:JN) (v:V):List V:=[.int .i64 lvl,slOf g.sn strC g.ss,slOf g.kn strC g.ks,slOf g.tn txnC g.ts,.sl N.tr N.nr (readH g).length ((readH g).flatMap placeC),slOf N.nm intC M,.map N.kA N.uA,v]
structure CI (g:Hist') (lvl:Int) (M:List Int) (N:JN) (ob0:Nat→Option Obj') (ub kP uP:Nat) (rows:List (Nat × Nat)) (f:Nat→Nat→Bool) (ob:Nat→Option Obj') (nx:Nat):Prop where
 m:Mtx ob ub nx kP uP g.ts.length rows f
 j:ob N.kJ=some ⟨N.uJ,.cells (jC g lvl M N (.osl kP uP 0 g.ts.length 1))⟩
 w:∀ key,Off ub key→key≠N.kJ→ob key=ob0 key
 fj:Off ub N.kJ
section
variable {g:Hist'} {lvl:Int} {M:List Int} {N:JN} {ob0:Nat→Option Obj'} {ub kP uP:Nat} {rows:List (Nat × Nat)} {f:Nat→Nat→Bool} {ob ob':Nat→Option Obj'} {nx nx':Nat}
theorem CI.le (h:CI g lvl M N ob0 ub kP uP rows f ob nx):ub<nx:=by
 have:=h.m.k
 omega
theorem CI.keep (h:CI g lvl M N ob0 ub kP uP rows f ob nx) (hu:nx≤nx') (hW:Was nx ob ob'):CI g lvl M N ob0 ub kP uP rows f ob' nx' :=
 have hl:=h.le
 ⟨h.m.keep hu hW,(hW _ (h.fj.up (by omega))).trans h.j,fun key hk hne=>(hW _ (hk.up (by omega))).trans (h.w key hk hne),h.fj⟩
theorem CI.congr {f':Nat→Nat→Bool} (h:CI g lvl M N ob0 ub kP uP rows f ob nx) (e:∀ b a,b<rows.length→a<g.ts.length→f b a=f' b a):CI g lvl M N ob0 ub kP uP rows f' ob nx :=
 ⟨h.m.congr e,h.j,h.w,h.fj⟩
theorem CI.set (h:CI g lvl M N ob0 ub kP uP rows f ob nx) {b t:Nat} {x:Bool} (hb:b<rows.length) (ht:t<g.ts.length) (hu:nx≤nx')
 (h1:ob' (rows[b]).1=some ⟨(rows[b]).2,.cells (splice ((List.range g.ts.length).map fun t=>V.bool (f b t)) t [.bool x])⟩) (h2:∀ key,Off nx key→key≠(rows[b]).1→ob' key=ob key):CI g lvl M N ob0 ub kP uP rows (fun b' a=>if b'=b∧a=t then x else f b' a) ob' nx':=by
 have hl:=h.le
 have hk:=h.m.k
 have hr:=h.m.r b hb
 have hne:∀ key,Off ub key→key≠(rows[b]).1:=fun key hk e=>hk (rows[b]).2 (by omega) (by omega)
 exact ⟨h.m.set hb ht hu h1 h2,(h2 _ (h.fj.up (by omega)) (hne _ h.fj)).trans h.j,fun key hk hn=>(h2 _ (hk.up (by omega)) (hne _ hk)).trans (h.w key hk hn),h.fj⟩
theorem CI.row (h:CI g lvl M N ob0 ub kP uP rows (fun _ _=>false) ob nx) (hn:rows.length<g.ts.length) {u:Nat} (h0:nx≤u) (hu:u<nx')
 (hP:ob' kP=some ⟨uP,.cells (splice (rows.map (rowC g.ts.length)++List.replicate (g.ts.length - rows.length) (.sl none true 0 [])) rows.length [rowC g.ts.length (2 * u+1,u)])⟩) (h1:ob' (2 * u+1)=some ⟨u,.cells (repl g.ts.length [.bool false])⟩) (h2:∀ key,Off nx key→key≠kP→ob' key=ob key) :
 CI g lvl M N ob0 ub kP uP (rows++[(2 * u+1,u)]) (fun _ _=>false) ob' nx':=by
 have hl:=h.le
 have hk:=h.m.k
 have hne:∀ key,Off ub key→key≠kP:=fun key hk' e=>hk' uP (by omega) (by omega)
 exact ⟨h.m.row hn h0 hu hP h1 h2,(h2 _ (h.fj.up (by omega)) (hne _ h.fj)).trans h.j,fun key hk' hn'=>(h2 _ (hk'.up (by omega)) (hne _ hk')).trans (h.w key hk' hn'),h.fj⟩
end
theorem idx1 {l u n x:Nat} {kk:IntKind} (hx:x<n):idxSlV 1 (.osl l u 0 n 1) (.int kk (x:Int))=some (.ptr l u x):=idxN rfl hx
theorem ses_fld {g:Hist'} {t:Nat} (htl:t<g.ts.length):(g.ts.flatMap txnC)[t * 3]? = some (.int .i64 (sesAt g t)):=by
 have:=fld_at txnC_len g.ts htl (by decide:0<3)
 rw [Nat.add_zero] at this
 rw [this]
 simp [txnC,sesAt,htl]
def Old (ob:Nat→Option Obj') (ub:Nat) (ob':Nat→Option Obj'):Prop:=∀ k,(∀ m,ub≤m→k≠2 * m+1)→ob' k=ob k
def NewAt (ub:Nat) (l:List Int) (v:V) (ob':Nat→Option Obj') (ub':Nat):Prop:=∃ m,ub≤m∧m<ub'∧v = .osl (2 * m+1) m 0 l.length 1∧ob' (2 * m+1)=some ⟨m,.cells (l.flatMap intC)⟩
theorem kS_appendO_id {E:Env} {Yf:YF} {st:St} {ub:Nat} {K:St→Nat→Prop} {d:Option Nat} {nm o:Bool} {sz bytes l u off n z:Nat} {cs:List V} {s x:A} (hs:eval E st.tm s = .osl l u off n z) (hx:slCells st.ob sz (eval E st.tm x)=some []) (ho:st.ob l=some ⟨u,.cells cs⟩)
 (h:kSet K st d ub (.osl l u off n z)):wpStep E Yf ⟨d,.append o sz bytes s x,none,nm⟩ st ub K:=by
 have hoc:objCells st.ob l u=some cs:=by simp [objCells,ho]
 rw [wpStep_of _ rfl rfl]
 simp only [aop,hs,hx,hoc,Option.bind_some,if_true,wpD_one,app_v]
 exact h
@[simp] theorem eqVV_sl (ob:Nat→Option Obj') (neg nl:Bool) (t t':Option (Nat × Nat)) (n:Nat) (cs:List V):eqVV ob neg .sl (.sl t nl n cs) (.sl t' true 0 [])=some (.bool (xor neg nl)):=rfl
def CopyP (ob:Nat→Option Obj') (tk:Nat→Bool) (ub:Nat) (l:List Int) (r:V × (Nat→Option Obj') × (Nat→Bool) × Nat):Prop:=NewAt ub l r.1 r.2.1 r.2.2.2∧Old ob ub r.2.1∧r.2.2.1=tk∧ub≤r.2.2.2
theorem sv68 {Yf:YF} (l:List Int) (hl:l.length≤1000000000) {ob:Nat→Option Obj'} {tk:Nat→Bool} {ro base ub:Nat} (hro:ro≤ub):∃ r,EvS E Yf.y 68 [slOf false intC l] ob tk ro base ub r∧CopyP ob tk ub l r:=by
 refine EvS_wp (af:=S68) rfl (by decide) ?_
 show wpC E Yf S68.body _ (kEndS S68.res _)
 simp [S68,slOf]
 refine kS_buildSlO (cs:=[]) rfl rfl rfl ?_
 simp
 by_cases hn:l=[]
 ·subst hn
  refine kS_appendO_id (l:=2 * (ub+192)+1) (u:=ub+192) (off:=0) (n:=0) (z:=1) (cs:=[]) (by simp) (by simp [slCells]) (by simp) ?_
  simp
  refine endS_1 (by simp) ⟨⟨ub+192,by omega,by simp;try omega,by simp,by simp⟩,fun k hk=>?_,by simp [app_tk0],by simp;try omega⟩
  have:=hk (ub+192) (by omega)
  simp [this]
 ·have hne:l.flatMap intC≠[]:=fun e=>hn (by have:=congrArg List.length e;rw [flatMap_len intC_len] at this;exact List.length_eq_zero_iff.1 (by simpa using this))
  have hd:(l.flatMap intC).length / 1=l.length:=by rw [flatMap_len intC_len];simp
  refine kS_appendO (l:=2 * (ub+192)+1) (u:=ub+192) (n:=0) (cs:=[]) (ys:=l.flatMap intC) (by simp) (by simp [slCells,flatMap_len intC_len]) (by simp) hne (by simp;omega) (by simp) (by decide) (by simp [intC]) (by rw [hd];omega) (by rw [hd];omega) ?_
  rw [hd]
  simp
  refine endS_1 (by simp) ⟨⟨ub+320,by omega,by simp;try omega,by simp,by simp⟩,fun k hk=>?_,by simp [app_tkk],by simp;try omega⟩
  have h1:=hk (ub+192) (by omega)
  have h2:=hk (ub+320) (by omega)
  simp [h1,h2]
theorem sv68n {Yf:YF} {ob:Nat→Option Obj'} {tk:Nat→Bool} {ro base ub:Nat}:∃ r,EvS E Yf.y 68 [.sl none true 0 []] ob tk ro base ub r∧r.1 = .sl none true 0 []∧r.2.1=ob∧r.2.2.1=tk∧ub≤r.2.2.2:=by
 refine EvS_wp (af:=S68) rfl (by decide) ?_
 show wpC E Yf S68.body _ (kEndS S68.res _)
 simp [S68]
 exact endS_1 (by simp) ⟨by simp,by simp,by simp,by simp;omega⟩
theorem evo70 {S C:List Int} {l u:Nat} {t:Option (Nat × Nat)} {nl:Bool} {ob:Nat→Option Obj'} {ub:Nat} (ho:ob l=some ⟨u,.cells (S.flatMap intC)⟩) (_:Off ub l) (_:S.length≤1000000000) (hC:C.length≤1000000000) (tk:Nat→Bool) (base:Nat) :
 EvO E 70 [.osl l u 0 S.length 1,.sl t nl C.length (C.flatMap intC)] ob tk base ub (.bool (S == C)):=by
 refine EvO_wpK (af:=S70) rfl ?_
 by_cases hn:S.length=C.length
 ·simp [S70,hn]
  refine wpC_gen fun st hst=>?_
  have g0:st.tm 0 = .osl l u 0 C.length 1:=by rw [hst];simp
  have g1:st.tm 1 = .sl t nl C.length (C.flatMap intC):=by rw [hst];simp
  have g12:st.tm 12 = .int .i64 C.length:=by rw [hst];simp
  have g13:st.tm 13 = .int .i64 0:=by rw [hst];simp
  have gd:st.df=[]:=by rw [hst];simp
  have go:st.ob l=some ⟨u,.cells (S.flatMap intC)⟩:=by rw [hst];simpa using ho
  clear hst
  refine wp_loopUp [(4,5),(13,25)] C.length (fun i x=>x.tm 13 = .int .i64 i∧(∀ k,k<i→S[k]? = C[k]?)∧x.ob l=some ⟨u,.cells (S.flatMap intC)⟩) rfl rfl ⟨by simpa using g13,fun k h=>by omega,go⟩ ?_
  rintro i x hi ⟨x13,hall,xo⟩ f
  have x0:x.tm 0 = .osl l u 0 C.length 1:=by rw [f.t 0 (by simp)];simp [g0]
  have x1:x.tm 1 = .sl t nl C.length (C.flatMap intC):=by rw [f.t 1 (by simp)];simp [g1]
  have x12:x.tm 12 = .int .i64 C.length:=by rw [f.t 12 (by simp)];simp [g12]
  have xd:x.df=[]:=by rw [f.d];simp [gd]
  clear f
  by_cases hlt:i<C.length
  ·have hwk:=wrapU hlt (by omega)
   have h1:=int_at S (i:=i) (by omega)
   have h2:=int_at C hlt
   have hi1:=idx1 (l:=l) (u:=u) (kk:=.i64) hlt
   have hi2:=idx_sl intC_len t nl C .i64 hlt
   rw [Nat.mul_one] at hi2
   by_cases e:S[i]=C[i]
   ·simp [x13,x12,x0,x1,hlt,hi1,hi2,objCells,xo,h1,h2,e,hwk]
    intro k hk
    rcases Nat.lt_succ_iff_lt_or_eq.1 hk with h | h
    ·exact hall k h
    ·subst h;simp [hlt,show k<S.length by omega,e]
   ·have hne:(S == C)=false:=by
     rw [beq_eq_false_iff_ne]
     intro h
     subst h
     exact e rfl
    have e':(S[i] != C[i])=true:=by simpa using e
    simp [x13,x12,x0,x1,hlt,hi1,hi2,objCells,xo,h1,h2,e']
    exact endV_1 (by simp [xd]) (by simp [hne]) rfl
  ·have:i=C.length:=by omega
   subst this
   have he:S=C:=List.ext_getElem? fun k=>by
    rcases Nat.lt_or_ge k C.length with h | h
    ·exact hall k h
    ·rw [List.getElem?_eq_none (by omega),List.getElem?_eq_none h]
   simp [x13,x12]
   exact endV_1 (by simp [xd]) (by simp [he]) rfl
 ·have hne:(S == C)=false:=by
   rw [beq_eq_false_iff_ne]
   intro h
   subst h
   exact hn rfl
  have hn':((S.length:Int) != (C.length:Int))=true:=by simp;omega
  simp [S70,hn']
  exact endV_1 (by simp) (by simp [hne]) rfl
theorem ev70 {nl:Bool} {n:Nat} {cs:List V}:Ev E 70 [.sl none true 0 [],.sl none nl n cs] (.bool (n == 0)):=by
 refine Ev_wpK (af:=F70) rfl ?_
 by_cases hn:n=0
 ·subst hn
  simp [F70]
  refine wpC_gen fun st hst=>?_
  have g12:st.tm 12 = .int .i64 (0:Nat):=by rw [hst];simp
  have g13:st.tm 13 = .int .i64 0:=by rw [hst];simp
  have gd:st.df=[]:=by rw [hst];simp
  clear hst
  refine wp_loopUp [(4,5),(13,25)] 0 (fun i x=>x.tm 13 = .int .i64 i) rfl rfl (by simpa using g13) ?_
  rintro i x hi x13 f
  have x12:x.tm 12 = .int .i64 (0:Nat):=by rw [f.t 12 (by simp)];simp [g12]
  have xd:x.df=[]:=by rw [f.d];simp [gd]
  have:i=0:=by omega
  subst this
  simp [x13,x12]
  exact endV_1 (by simp [xd]) (by simp) rfl
 ·have h0:((0:Int) != (n:Int))=true:=by simp;omega
  simp [F70,h0]
  exact endV_1 rfl (by simp [hn]) rfl
theorem kD_mapSet {α:Type} {f:α→V} {x y z:A} {l u ver:Nat} {k:Int} {a:α} {st:St} {ub:Nat} {K:List FP→St→Prop} {d:Option Nat} {nm:Bool} {r:List AOpr} (m:List (Int × α)) (hm:eval E st.tm x = .map l u) (hk:eval E st.tm y = .int .i64 k) (hv:(eval E st.tm z).strip=f a)
 (ho:st.ob l=some ⟨u,.mp ver (MP f m)⟩) (hro:st.ro≤u) (h:kDApp E r K (eval E st.tm) (.mapSet .int x y z) st d ub { v:=none',obs:=[(l,⟨u,.mp (ver+1) (MP f (mset m k a))⟩)] }):wpDraw E (⟨d,.mapSet .int x y z,none,nm⟩::r) st ub K:=by
 have hob:objMap st.ob l u=some (MP f m):=by simp [objMap,ho]
 have hver:objVer st.ob l=ver:=by simp [objVer,ho]
 rw [wpDraw_of rfl]
 simp only [aop,hm,hk,isKey,if_true,hob,Option.bind_some,findKey_MP,hver,hv]
 rw [if_pos (by simpa using hro)]
 unfold mset at h
 cases hf:mfind m k with
 | none =>
  rw [hf] at h
  simp only [Option.map_none,wpD_some]
  simpa [MP] using h
 | some p =>
  rw [hf] at h
  simp only [Option.map_some,wpD_some]
  have e:(MP f m).set p.1 (V.int .i64 k,f a)=MP f (m.set p.1 (k,a)):=by simp [MP,List.map_set]
  rw [e]
  exact h
def holdsE (g:Hist') (lvl:Int) (M O:List Int):Bool:=errB g lvl M O == 0 && holdsG g lvl M O
theorem err0 {g:Hist'} {lvl:Int} {M O:List Int} (h:errB g lvl M O=0):wholeH g=true∧1≤lvl∧lvl≤3∧mapR g M=true∧orderB g O=true:=by
 unfold errB at h
 cases h1:wholeH g
 ·simp [h1] at h
 ·cases h2:mapR g M
  ·simp [h1,h2] at h
  ·cases h3:orderB g O
   ·simp [h1,h2,h3] at h
   ·simp [h1,h2,h3] at h
    exact ⟨rfl,by omega,by omega,rfl,rfl⟩
end Go.Pv.T
namespace Go.Pv.T
open Go Go.Pv
end Go.Pv.T
namespace Go.Pv.T
open Go Go.Pv
end Go.Pv.T
namespace Go.Pv.T
open Go Go.Pv
end Go.Pv.T
namespace Go.Pv.T
open Go Go.Pv
section
variable {F:Env} {Yf:YF} {st:St} {ub:Nat} {K:St→Nat→Prop} {d:Option Nat} {nm:Bool}
theorem kS_callVL {q:A} {xs:List A} {f:FuncId} {first captured vs:List V} {P:V × (Nat→Option Obj') × (Nat→Bool) × Nat→Prop} (hq:eval F st.tm q = .fn (.func f) first captured) (hx:first++xs.map (eval F st.tm)++captured=vs) (hs:F.sh nm f=true)
 (he:EvSL F Yf.y f vs st.ob st.tk st.ro ((st.fb+d.getD 0+1) * 1024) ub P) (h:∀ v ob' tk' ub',P (v,ob',tk',ub')→K (retS st d v ob' tk') ub'):wpStep F Yf ⟨d,.callV q xs,none,nm⟩ st ub K:=by
 have hsh:sharedCall F nm (eval F st.tm) (.callV q xs)=some (f,vs):=by simp only [sharedCall,hq,hs,hx,Bool.not_true,Bool.false_and,Bool.false_eq_true,if_false]
 simp only [wpStep,wanted,yieldCall,hq,hsh]
 exact .inl ⟨hs,he.imp fun r hr=>h r.1 r.2.1 r.2.2.1 r.2.2.2 hr⟩
theorem kS_callLP {f:FuncId} {xs:List A} {vs:List V} {P:V × (Nat→Option Obj') × (Nat→Bool) × Nat→Prop} (hx:xs.map (eval F st.tm)=vs) (hs:F.sh nm f=true)
 (he:EvSL F Yf.y f vs st.ob st.tk st.ro ((st.fb+d.getD 0+1) * 1024) ub P) (h:∀ v ob' tk' ub',P (v,ob',tk',ub')→K (retS st d v ob' tk') ub'):wpStep F Yf ⟨d,.call f xs,none,nm⟩ st ub K :=
 kS_callL hx hs (he.imp fun r hr=>h r.1 r.2.1 r.2.2.1 r.2.2.2 hr)
end
theorem kD_mapSetG {F:Env} {α:Type} {f:α→V} {x y z:A} {l u ver:Nat} {k:Int} {a:α} {st:St} {ub:Nat} {K:List FP→St→Prop} {d:Option Nat} {nm:Bool} {r:List AOpr} (m:List (Int × α)) (hm:eval F st.tm x = .map l u) (hk:eval F st.tm y = .int .i64 k) (hv:(eval F st.tm z).strip=f a)
 (ho:st.ob l=some ⟨u,.mp ver (MP f m)⟩) (hro:st.ro≤u) (h:kDApp F r K (eval F st.tm) (.mapSet .int x y z) st d ub { v:=none',obs:=[(l,⟨u,.mp (ver+1) (MP f (mset m k a))⟩)] }):wpDraw F (⟨d,.mapSet .int x y z,none,nm⟩::r) st ub K:=by
 have hob:objMap st.ob l u=some (MP f m):=by simp [objMap,ho]
 have hver:objVer st.ob l=ver:=by simp [objVer,ho]
 rw [wpDraw_of rfl]
 simp only [aop,hm,hk,isKey,if_true,hob,Option.bind_some,findKey_MP,hver,hv]
 rw [if_pos (by simpa using hro)]
 unfold mset at h
 cases hf:mfind m k with
 | none =>
  rw [hf] at h
  simp only [Option.map_none,wpD_some]
  simpa [MP] using h
 | some p =>
  rw [hf] at h
  simp only [Option.map_some,wpD_some]
  have e:(MP f m).set p.1 (V.int .i64 k,f a)=MP f (m.set p.1 (k,a)):=by simp [MP,List.map_set]
  rw [e]
  exact h
section
variable {g:Hist'} {lvl:Int} {M:List Int} {N:WN} {A L S:List (Int × Int)} {P:Int→List Int} {ob:Nat→Option Obj'} {ub:Nat}
theorem mset_mem {α:Type} {m:List (Int × α)} {k x:Int} {a:α}:x∈(mset m k a).map (·.1) ↔ x∈m.map (·.1)∨x=k:=by rw [mset_keys];exact mem_ddAdd
theorem Wk.setP (h:Wk g lvl M N A L S P ob ub) {mp:List (Int × Nat × Nat)} (p2:∀ x,InM N ob ub (((mfind mp x).map fun p=>mapV p.2).getD .nilmap) (P x)) {t:Int} {ob':Nat→Option Obj'} {ub' ver' uM vm:Nat} {m:List (Int × Int)} {K:List Int} (hu:ub≤ub') (hu1:ub≤uM) (hu2:uM<ub')
 (hk:∀ key,Off ub key→key % 2=1→key≠N.kP→ob' key=ob key) (hP:ob' N.kP=some ⟨N.uP,.mp ver' (MP mapV (mset mp t (2 * uM+1,uM)))⟩) (hM:ob' (2 * uM+1)=some ⟨uM,.mp vm (MP intV m)⟩) (hK:∀ x,x∈m.map (·.1) ↔ x∈K) :
 Wk g lvl M N A L S (fun x=>if x=t then K else P x) ob' ub':=by
 have hf:∀ key,Fix N ub key→ob' key=ob key:=fun key h=>hk key h.f h.o h.p
 obtain ⟨o1,o2,o3,o4⟩:=h.odd
 obtain ⟨n1,n2,n3,n4,n5,n6⟩:=h.ne
 obtain ⟨rv,mr,r1,r2⟩:=h.r
 obtain ⟨av,a1⟩:=h.a
 obtain ⟨lv,l1⟩:=h.l
 obtain ⟨sv,s1⟩:=h.s
 refine ⟨(hf _ h.fw).trans h.w,⟨rv,mr,(hf _ h.fr).trans r1,fun t=>(r2 t).keep hf hu⟩,⟨av,(hk _ h.fa o1 n3).trans a1⟩,⟨lv,(hk _ h.fl o2 n5).trans l1⟩,⟨sv,(hk _ h.fs o3 n6).trans s1⟩,
  ⟨ver',_,hP,fun x=>?_⟩,h.fw.up hu,h.fr.up hu,h.fa.up hu,h.fl.up hu,h.fs.up hu,h.fp.up hu,h.odd,h.ne⟩
 have e:((mfind (mset mp t (2 * uM+1,uM)) x).map fun p=>mapV p.2)=if x=t then some (mapV (2 * uM+1,uM)) else (mfind mp x).map fun p=>mapV p.2:=by
  have:=mval_mset t (2 * uM+1,uM) x mp
  have h2:∀ o:Option (Nat × Nat × Nat),(o.map fun p=>mapV p.2)=(o.map (·.2)).map mapV:=fun o=>by cases o <;> rfl
  rw [h2,this,h2]
  split <;> rfl
 rw [e]
 by_cases hx:x=t
 ·simp only [if_pos hx,Option.getD_some]
  exact .inr ⟨_,_,vm,m,rfl,hM,hK,fun e=>h.fa.ne uM hu1 e.symm,fun e=>h.fl.ne uM hu1 e.symm,fun e=>h.fs.ne uM hu1 e.symm,fun e=>h.fp.ne uM hu1 e.symm,Off.new hu2,by omega⟩
 ·simp only [if_neg hx]
  exact (p2 x).keep hf hu
theorem Wk.setA (h:Wk g lvl M N A L S P ob ub) {A':List (Int × Int)} {ob':Nat→Option Obj'} {ub' ver':Nat} (hu:ub≤ub') (hk:∀ key,Off ub key→key % 2=1→key≠N.kA→ob' key=ob key) (hA:ob' N.kA=some ⟨N.uA,.mp ver' (MP intV A')⟩):Wk g lvl M N A' L S P ob' ub':=by
 have hf:∀ key,Fix N ub key→ob' key=ob key:=fun key h=>hk key h.f h.o h.a
 obtain ⟨o1,o2,o3,o4⟩:=h.odd
 obtain ⟨n1,n2,n3,n4,n5,n6⟩:=h.ne
 obtain ⟨rv,mr,r1,r2⟩:=h.r
 obtain ⟨lv,l1⟩:=h.l
 obtain ⟨sv,s1⟩:=h.s
 obtain ⟨pv,mp,p1,p2⟩:=h.p
 exact ⟨(hf _ h.fw).trans h.w,⟨rv,mr,(hf _ h.fr).trans r1,fun t=>(r2 t).keep hf hu⟩,⟨ver',hA⟩,⟨lv,(hk _ h.fl o2 n1.symm).trans l1⟩,⟨sv,(hk _ h.fs o3 n2.symm).trans s1⟩,
  ⟨pv,mp,(hk _ h.fp o4 n3.symm).trans p1,fun x=>(p2 x).keep hf hu⟩,h.fw.up hu,h.fr.up hu,h.fa.up hu,h.fl.up hu,h.fs.up hu,h.fp.up hu,h.odd,h.ne⟩
theorem Wk.setL (h:Wk g lvl M N A L S P ob ub) {L':List (Int × Int)} {ob':Nat→Option Obj'} {ub' ver':Nat} (hu:ub≤ub') (hk:∀ key,Off ub key→key % 2=1→key≠N.kL→ob' key=ob key) (hL:ob' N.kL=some ⟨N.uL,.mp ver' (MP intV L')⟩):Wk g lvl M N A L' S P ob' ub':=by
 have hf:∀ key,Fix N ub key→ob' key=ob key:=fun key h=>hk key h.f h.o h.l
 obtain ⟨o1,o2,o3,o4⟩:=h.odd
 obtain ⟨n1,n2,n3,n4,n5,n6⟩:=h.ne
 obtain ⟨rv,mr,r1,r2⟩:=h.r
 obtain ⟨av,a1⟩:=h.a
 obtain ⟨sv,s1⟩:=h.s
 obtain ⟨pv,mp,p1,p2⟩:=h.p
 exact ⟨(hf _ h.fw).trans h.w,⟨rv,mr,(hf _ h.fr).trans r1,fun t=>(r2 t).keep hf hu⟩,⟨av,(hk _ h.fa o1 n1).trans a1⟩,⟨ver',hL⟩,⟨sv,(hk _ h.fs o3 n4.symm).trans s1⟩,
  ⟨pv,mp,(hk _ h.fp o4 n5.symm).trans p1,fun x=>(p2 x).keep hf hu⟩,h.fw.up hu,h.fr.up hu,h.fa.up hu,h.fl.up hu,h.fs.up hu,h.fp.up hu,h.odd,h.ne⟩
theorem Wk.setS (h:Wk g lvl M N A L S P ob ub) {S':List (Int × Int)} {ob':Nat→Option Obj'} {ub' ver':Nat} (hu:ub≤ub') (hk:∀ key,Off ub key→key % 2=1→key≠N.kS→ob' key=ob key) (hS:ob' N.kS=some ⟨N.uS,.mp ver' (MP intV S')⟩):Wk g lvl M N A L S' P ob' ub':=by
 have hf:∀ key,Fix N ub key→ob' key=ob key:=fun key h=>hk key h.f h.o h.s
 obtain ⟨o1,o2,o3,o4⟩:=h.odd
 obtain ⟨n1,n2,n3,n4,n5,n6⟩:=h.ne
 obtain ⟨rv,mr,r1,r2⟩:=h.r
 obtain ⟨av,a1⟩:=h.a
 obtain ⟨lv,l1⟩:=h.l
 obtain ⟨pv,mp,p1,p2⟩:=h.p
 exact ⟨(hf _ h.fw).trans h.w,⟨rv,mr,(hf _ h.fr).trans r1,fun t=>(r2 t).keep hf hu⟩,⟨av,(hk _ h.fa o1 n2).trans a1⟩,⟨lv,(hk _ h.fl o2 n4).trans l1⟩,⟨ver',hS⟩,
  ⟨pv,mp,(hk _ h.fp o4 n6.symm).trans p1,fun x=>(p2 x).keep hf hu⟩,h.fw.up hu,h.fr.up hu,h.fa.up hu,h.fl.up hu,h.fs.up hu,h.fp.up hu,h.odd,h.ne⟩
def AddR (ob:Nat→Option Obj') (ub uM:Nat) (K:List Int) (r:V × (Nat→Option Obj') × (Nat→Bool) × Nat):Prop :=
 ub≤r.2.2.2∧(∀ key,Off ub key→key≠2 * uM+1→r.2.1 key=ob key)∧∃ ver m,r.2.1 (2 * uM+1)=some ⟨uM,.mp ver (MP intV m)⟩∧∀ x,x∈m.map (·.1) ↔ x∈K
theorem sv218 {Yf:YF} {ub0:Nat} (hW:Wk g lvl M N A L S P ob ub0) {u4 u2 uM ver:Nat} {m:List (Int × Int)} {K:List Int} (h4:ob (2 * u4+1)=some ⟨u4,.cells [.map (2 * uM+1) uM]⟩) (h2:ob (2 * u2+1)=some ⟨u2,.cells [.ptr N.kW N.uW 0]⟩) (hM:ob (2 * uM+1)=some ⟨uM,.mp ver (MP intV m)⟩)
 (hK:∀ x,x∈m.map (·.1) ↔ x∈K) (hu:ub0≤uM) (huM:uM<ub) (hu4:u4<ub) (_:u2<ub) (n4:u4≠uM) (n2:u2≠uM) {ro:Nat} (hro:ro≤uM) (a:Int) (tk:Nat→Bool) (base:Nat) :
 EvSL E1 Yf.y 218 [.int .i64 a,.ptr (2 * u4+1) u4 0,.ptr (2 * u2+1) u2 0] ob tk ro base ub (AddR ob ub uM (K++a::P a)):=by
 refine EvSL_wp (af:=S218) rfl ?_
 show wpC E1 Yf S218.body _ (kEndS S218.res _)
 have hw:=hW.w
 have gW:=hW.fw.f.ne
 have gP:=hW.fp.ne
 obtain ⟨v,hlk,hin⟩:=hW.past a
 have hl:=lookupV_MI (ob:=ob) (l:=2 * uM+1) (u:=uM) (k:=a) m (by simp [objMap,hM])
 simp (disch:=first | (simp;done) | omega) [S218,objCells,h4]
 rw [hl]
 simp
 refine kS_mapSet (f:=intV) (a:=IntKind.i64.wrap (mcnt m a+1)) (ver:=ver) (l:=2 * uM+1) (u:=uM) (k:=a) m (by simp) (by simp) (by simp [intV]) (by simpa using hM) (by simp;omega) ?_
 have eW:N.kW≠2 * uM+1:=fun h=>gW uM hu h
 have eP:N.kP≠2 * uM+1:=fun h=>gP uM hu h
 simp (disch:=first | (simp;done) | omega) [objCells,h2,two_inj,n2,hw,wC,eW]
 rw [hlk _ (by simp [eP])]
 simp
 refine kS_rangeI (N:=N) (ob0:=ob) (ub0:=ub0) (L:=P a) (by simpa using hin) (fun key hk=>by simp [hk.f.ne uM hu]) (by first | omega | (simp;omega)) rfl fun o left hmem hit=>?_
 simp
 refine wpC_gen fun st hst=>?_
 obtain ⟨u15,hu15⟩:∃ u,u=ub+704:=⟨_,rfl⟩
 have g1:st.tm 1 = .ptr (2 * u4+1) u4 0:=by rw [hst];simp
 have g15:st.tm 15 = .iter (2 * u15+1) u15:=by rw [hst,hu15];simp [Nat.add_assoc]
 have eM:¬ uM=u15:=by omega
 have gi:ItAt N ub0 st.ob (2 * u15+1) u15 left none:=by
  have h:=hit st.ob (by rw [hst];simp) fun key hk=>by rw [hst];simp [hk.f.ne uM hu];try (intro h;exact absurd h (hk.f.ne _ (by omega)))
  simp only [Nat.add_assoc,Nat.reduceAdd] at h
  rw [hu15]
  exact h
 have gw:∀ key,Off ub key→key≠2 * uM+1→st.ob key=ob key:=fun key hk hne=>by rw [hst];simp (disch:=first | (simp;done) | omega) [hk.ne,hne]
 have gM:st.ob (2 * uM+1)=some ⟨uM,.mp (ver+1) (MP intV (mset m a (IntKind.i64.wrap (mcnt m a+1))))⟩:=by rw [hst];simp (disch:=first | (simp;done) | omega) [two_inj];omega
 have gn:u15<st.nx:=by rw [hst,hu15];simp
 have gd:st.df=[]:=by rw [hst];simp
 have gr:st.ro=ro:=by rw [hst];simp
 clear hst hit
 obtain ⟨J,hJ⟩:∃ J:Nat→St→Prop,J=fun n s=>∃ left last ver m',n=left.length∧ItAt N ub0 s.ob (2 * u15+1) u15 left last∧s.ob (2 * uM+1)=some ⟨uM,.mp ver (MP intV m')⟩∧(∀ x,x∈m'.map (·.1)→x∈K++a::P a)∧(∀ x,x∈K++a::P a→x∈m'.map (·.1)∨x∈left)∧(∀ x∈left,x∈P a)∧(∀ key,Off ub key→key≠2 * uM+1→s.ob key=ob key)∧u15<s.nx:=⟨_,rfl⟩
 refine wp_loopF (n:=left.length) [(4,4),(16,23)] J rfl rfl
  (by rw [hJ];exact ⟨left,none,_,_,rfl,gi,gM,fun x hx=>by
   rw [mset_mem,hK] at hx
   simp only [List.mem_append,List.mem_cons]
   exact hx.imp id .inl,fun x hx=>by
   rw [mset_mem,hK]
   simp only [List.mem_append,List.mem_cons] at hx
   rcases hx with h | h | h
   ·exact .inl (.inl h)
   ·exact .inl (.inr h)
   ·exact .inr ((hmem x).2 h),fun x hx=>(hmem x).1 hx,gw,gn⟩) ?_
 clear hmem left gi gw gM gn
 intro n s hJs f
 rw [hJ] at hJs
 obtain ⟨left,last,ver',m',rfl,si,sM,h1,h2',hsub,sw,sn⟩:=hJs
 have s1:s.tm 1 = .ptr (2 * u4+1) u4 0:=by rw [f.t 1 (by simp)];simp [g1]
 have s15:s.tm 15 = .iter (2 * u15+1) u15:=by rw [f.t 15 (by simp)];simp [g15]
 have sd:s.df=[]:=by rw [f.d];simp [gd]
 have sr:s.ro=ro:=by rw [f.r];simp [gr]
 clear f
 simp
 refine kS_nextI (N:=N) (ub0:=ub0) (k:=2 * u15+1) (u:=u15) (left:=left) (last:=last) (by simp [s15]) si (by first | omega | (simp [sr];omega)) (fun h=>?_) (fun l1 key l2 o v hab hit=>?_)
 ·subst h
  simp
  refine endS_nil (.inl rfl) (by simp [sd]) ⟨by first | omega | (simp;omega),fun key hk hne=>by simpa using sw key hk hne,_,m',by simpa using sM,fun x=>⟨h1 x,fun hx=>(h2' x hx).resolve_right (by simp)⟩⟩
 ·subst hab
  have hkey:key∈P a:=hsub key (by simp)
  have h4':s.ob (2 * u4+1)=some ⟨u4,.cells [.map (2 * uM+1) uM]⟩:=(sw _ (Off.new hu4) (by omega)).trans h4
  have e4:¬ u4=u15:=by omega
  simp
  refine kS_entryI (N:=N) (ub0:=ub0) (k:=2 * u15+1) (u:=u15) (left:=l1++l2) (key:=key) (by simp [s15]) (hit _ (by simp) fun key hk=>by simp [hk]) fun v'=>?_
  simp (disch:=first | (simp;done) | omega) [s1,objCells,h4',two_inj,e4]
  have hl':=fun (ob':Nat→Option Obj') (h:ob' (2 * uM+1)=s.ob (2 * uM+1))=>lookupV_MI (ob:=ob') (l:=2 * uM+1) (u:=uM) (k:=key) m' (by simp [objMap,h,sM])
  rw [hl' _ (by simp [two_inj,eM])]
  simp
  refine kS_mapSet (f:=intV) (a:=IntKind.i64.wrap (mcnt m' key+1)) (ver:=ver') (l:=2 * uM+1) (u:=uM) (k:=key) m' (by simp) (by simp) (by simp [intV]) (by simpa [two_inj,eM] using sM) (by first | omega | (simp [sr];omega)) ?_
  simp
  refine ⟨(l1++l2).length,by simp,?_⟩
  rw [hJ]
  refine ⟨l1++l2,some key,ver'+1,mset m' key (IntKind.i64.wrap (mcnt m' key+1)),rfl,(hit (upd s.ob (2 * u15+1) (some o)) (by simp) fun key hk=>upd_ne _ _ hk).keep (by simp [two_inj,Ne.symm eM]) (fun key hk=>by simp [hk.f.ne uM hu,upd_apply]),by simp,fun x hx=>?_,fun x hx=>?_,fun x hx=>hsub x (List.mem_append.2 ((List.mem_append.1 hx).imp id (List.mem_cons_of_mem _))),fun key' hk hne=>by simp [hne,hk.ne u15 (by omega),sw key' hk hne],by first | omega | (simp;omega)⟩
  ·rw [mset_mem] at hx
   rcases hx with h | rfl
   ·exact h1 x h
   ·exact List.mem_append.2 (.inr (List.mem_cons_of_mem _ hkey))
  ·rw [mset_mem]
   rcases h2' x hx with h | h
   ·exact .inl (.inl h)
   ·simp only [List.mem_append,List.mem_cons] at h ⊢
    rcases h with h | rfl | h
    ·exact .inr (.inl h)
    ·exact .inl (.inr rfl)
    ·exact .inr (.inr h)
end
section
variable {g:Hist'} {lvl:Int} {M:List Int} {N:WN} {A L S:List (Int × Int)} {P:Int→List Int} {ob:Nat→Option Obj'} {ub:Nat}
theorem RowV.len {v:V} {rs:List (Int × Int × Int)} (h:RowV N ob ub v rs):lenSlV v=some (.int .i64 rs.length):=by
 rcases h with ⟨rfl,rfl⟩ | ⟨l,u,rfl,_⟩ <;> rfl
theorem RowV.at {v:V} {rs:List (Int × Int × Int)} (hv:RowV N ob ub v rs) {i:Nat} (h:i<rs.length):∃ q,idxSlV 3 v (.int .i64 (i:Int))=some q∧∀ ob':Nat→Option Obj',(∀ key,Fix N ub key→ob' key=ob key)→loadV ob' (some 3) q=some (.agg (rdC rs[i])):=by
 rcases hv with ⟨rfl,rfl⟩ | ⟨l,u,rfl,ho,hf⟩
 ·simp at h
 ·refine ⟨_,idx0 h,fun ob' hk=>?_⟩
  have:=flatMap_at rdC_len rs i h
  have hlf:=flatMap_len rdC_len rs
  simp only [loadV,objCells,hk _ hf,ho,if_true,Option.bind_some,pick1_some]
  rw [if_pos (by rw [hlf];omega),this]
def oneS (P:Int→List Int) (r:Int × Int × Int):List Int:=if 0≤r.2.2 then r.2.2::P r.2.2 else []
def manyS (P:Int→List Int) (rs:List (Int × Int × Int)):List Int:=rs.flatMap (oneS P)
def sesS (g:Hist') (P:Int→List Int) (S:List (Int × Int)) (n:Nat):List Int:=match (mfind S (sesAt g n)).map (·.2) with | some a=>a::P a | none=>[]
def CauR (g:Hist') (lvl:Int) (M:List Int) (N:WN) (A L S:List (Int × Int)) (P:Int→List Int) (n:Nat) (ob:Nat→Option Obj') (ub:Nat) (r:V × (Nat→Option Obj') × (Nat→Bool) × Nat):Prop :=
 r.1 = .tup []∧ub≤r.2.2.2∧(∀ key,Off ub key→key≠N.kP→r.2.1 key=ob key)∧Wk g lvl M N A L S (fun x=>if x=n then manyS P (rdsT g M n)++sesS g P S n else P x) r.2.1 r.2.2.2
theorem sv162 {Yf:YF} (hW:Wk g lvl M N A L S P ob ub) (hM:(readH g).length≤1000000) {n:Nat} (hn:n<g.ts.length) (_:g.ts.length≤1000000) {ro:Nat} (hro:ro≤N.uP) (hro2:ro≤ub) (tk:Nat→Bool) (base:Nat) :
 EvSL E1 Yf.y 162 [.ptr N.kW N.uW 0,.int .i64 (n:Int)] ob tk ro base ub (CauR g lvl M N A L S P n ob ub):=by
 refine EvSL_wp (af:=S162) rfl ?_
 show wpC E1 Yf S162.body _ (kEndS S162.res _)
 have hw:=hW.w
 have gW:=hW.fw.f.ne
 have gR:=hW.fr.f.ne
 have gP:=hW.fp.ne
 have gS:=hW.fs.ne
 obtain ⟨v,hlk,hrow⟩:=hW.row (n:Int)
 have hlen:=rd_len g M n
 simp (disch:=first | (simp;done) | omega) [S162,objCells,hw,wC,gW,V.cells,ptr_leaf,splice,two_inj,Nat.add_assoc]
 refine ⟨by first | omega | (simp;omega),?_⟩
 rw [hlk _ (by simp (disch:=first | (simp;done) | omega) [gR])]
 simp (disch:=first | (simp;done) | omega) [hrow.len]
 obtain ⟨rs,hrs⟩:∃ rs,rs=rdsT g M n:=⟨_,rfl⟩
 rw [← hrs] at hrow hlen ⊢
 refine wpC_gen fun st hst=>?_
 obtain ⟨uM,huM⟩:∃ u,u=ub+64:=⟨_,rfl⟩
 obtain ⟨u4,hu4⟩:∃ u,u=ub+128:=⟨_,rfl⟩
 have g0:st.tm 1 = .int .i64 n:=by rw [hst];simp
 have g2:st.tm 2 = .ptr (2 * ub+1) ub 0:=by rw [hst];simp
 have g4:st.tm 4 = .ptr (2 * u4+1) u4 0:=by rw [hst,hu4];simp
 have g5:st.tm 5 = .fn (.func 218) [] [.ptr (2 * u4+1) u4 0,.ptr (2 * ub+1) ub 0]:=by rw [hst,hu4];simp
 have g17:st.tm 17=v:=by rw [hst];simp
 have g18:st.tm 18 = .int .i64 rs.length:=by rw [hst];simp
 have g19:st.tm 19 = .int .i64 0:=by rw [hst];simp
 have gd:st.df=[]:=by rw [hst];simp
 have gr:st.ro=ro:=by rw [hst];simp
 have gn:u4<st.nx:=by rw [hst,hu4];simp
 have gw:Was ub ob st.ob:=fun key hk=>by rw [hst];simp (disch:=first | (simp;done) | omega) [hk.ne]
 have gM:st.ob (2 * uM+1)=some ⟨uM,.mp 0 (MP intV ([]:List (Int × Int)))⟩:=by rw [hst,huM];simp (disch:=first | (simp;done) | omega) [two_inj,MP]
 have g4o:st.ob (2 * u4+1)=some ⟨u4,.cells [.map (2 * uM+1) uM]⟩:=by rw [hst,hu4,huM];simp (disch:=first | (simp;done) | omega)
 have g2o:st.ob (2 * ub+1)=some ⟨ub,.cells [.ptr N.kW N.uW 0]⟩:=by rw [hst];simp (disch:=first | (simp;done) | omega) [two_inj]
 clear hst
 obtain ⟨J,hJ⟩:∃ J:Nat→St→Prop,J=fun i s=>s.tm 19 = .int .i64 i∧(∃ ver m,s.ob (2 * uM+1)=some ⟨uM,.mp ver (MP intV m)⟩∧∀ x,x∈m.map (·.1) ↔ x∈manyS P (rs.take i))∧Was ub ob s.ob∧s.ob (2 * u4+1)=some ⟨u4,.cells [.map (2 * uM+1) uM]⟩∧s.ob (2 * ub+1)=some ⟨ub,.cells [.ptr N.kW N.uW 0]⟩∧u4<s.nx:=⟨_,rfl⟩
 refine wp_loopUp [(7,7),(19,30)] rs.length J rfl rfl (by rw [hJ];exact ⟨by simpa using g19,⟨_,[],gM,fun x=>by simp [manyS]⟩,gw,g4o,g2o,gn⟩) ?_
 clear gw gM g4o g2o gn
 intro i s hi hJs f
 rw [hJ] at hJs
 obtain ⟨s19,⟨ver,m,sM,hK⟩,sw,s4o,s2o,sn⟩:=hJs
 have s1:s.tm 1 = .int .i64 n:=by rw [f.t 1 (by simp)];simp [g0]
 have s2:s.tm 2 = .ptr (2 * ub+1) ub 0:=by rw [f.t 2 (by simp)];simp [g2]
 have s4:s.tm 4 = .ptr (2 * u4+1) u4 0:=by rw [f.t 4 (by simp)];simp [g4]
 have s5:s.tm 5 = .fn (.func 218) [] [.ptr (2 * u4+1) u4 0,.ptr (2 * ub+1) ub 0]:=by rw [f.t 5 (by simp)];simp [g5]
 have s17:s.tm 17=v:=by rw [f.t 17 (by simp)];simp [g17]
 have s18:s.tm 18 = .int .i64 rs.length:=by rw [f.t 18 (by simp)];simp [g18]
 have sd:s.df=[]:=by rw [f.d];simp [gd]
 have sr:s.ro=ro:=by rw [f.r];simp [gr]
 clear f
 have n2:∀ m,s.nx≤m→¬ ub=m:=fun m hm=>by omega
 have n4:∀ m,s.nx≤m→¬ u4=m:=fun m hm=>by omega
 have nM:∀ m,s.nx≤m→¬ uM=m:=fun m hm=>by omega
 have hWs:∀ (ob':Nat→Option Obj'),Was ub ob ob'→Wk g lvl M N A L S P ob' ub:=fun ob' h=>hW.keep (fun key hk _=>h key hk) (Nat.le_refl _)
 by_cases hlt:i<rs.length
 ·have hwk:=wrapU hlt (by omega)
  obtain ⟨q,hq1,hq2⟩:=hrow.at hlt
  have htake:manyS P (rs.take (i+1))=manyS P (rs.take i)++oneS P rs[i]:=by
   unfold manyS
   rw [List.take_add_one,List.getElem?_eq_getElem hlt,List.flatMap_append]
   simp only [Option.toList_some,List.flatMap_cons,List.flatMap_nil,List.append_nil]
  simp (disch:=first | (simp;done) | omega) [s19,s18,s17,hlt,hq1]
  rw [hq2 _ fun key hk=>by simp [sw key hk.f]]
  simp (disch:=first | (simp;done) | omega) [objCells,rdC,splice]
  refine ⟨by first | omega | (simp [sr];omega),?_⟩
  by_cases hge:0≤(rs[i]).2.2
  ·simp (disch:=first | (simp;done) | omega) [hge,objCells,s5]
   refine kS_callVL (f:=218) (first:=[]) (captured:=[.ptr (2 * u4+1) u4 0,.ptr (2 * ub+1) ub 0]) (vs:=[.int .i64 (rs[i]).2.2,.ptr (2 * u4+1) u4 0,.ptr (2 * ub+1) ub 0]) (by simp) (by simp) rfl
    (sv218 (K:=manyS P (rs.take i)) (hWs _ ?_) (m:=m) (ver:=ver) (uM:=uM) ?_ ?_ ?_ hK (by omega) ?_ ?_ ?_ (by omega) (by omega) ?_ _ _ _) ?_
   ·exact fun key hk=>by simp (disch:=first | (simp;done) | omega) [hk.ne,sw key hk]
   ·simp (disch:=first | (simp;done) | omega) [two_inj,n4,s4o]
   ·simp (disch:=first | (simp;done) | omega) [two_inj,n2,s2o]
   ·simp (disch:=first | (simp;done) | omega) [two_inj,nM,sM]
   ·first | omega | (simp;omega)
   ·first | omega | (simp;omega)
   ·first | omega | (simp;omega)
   ·first | omega | (simp [sr];omega)
   rintro v1 ob1 tk1 ub1 ⟨a1,a2,ver1,m1,a3,a4⟩
   simp only at a1 a2 a3 a4
   simp [s19,hwk,hlt]
   rw [hJ]
   refine ⟨by simp,⟨ver1,m1,by simpa using a3,fun x=>?_⟩,fun key hk=>?_,?_,?_,by first | omega | (simp;omega)⟩
   ·rw [a4,htake]
    simp [oneS,hge]
   ·have:=a2 key (hk.up (by first | omega | (simp;omega))) (hk uM (by omega))
    simp at this ⊢
    rw [this]
    simp (disch:=first | (simp;done) | omega) [hk.ne,sw key hk]
   ·have:=a2 (2 * u4+1) (Off.new (by first | omega | (simp;omega))) (by omega)
    simp at this ⊢
    rw [this]
    simp (disch:=first | (simp;done) | omega) [two_inj,n4,s4o]
   ·have:=a2 (2 * ub+1) (Off.new (by first | omega | (simp;omega))) (by omega)
    simp at this ⊢
    rw [this]
    simp (disch:=first | (simp;done) | omega) [two_inj,n2,s2o]
  ·have hge':¬ 0≤(rs[i]).2.2:=hge
   simp (disch:=first | (simp;done) | omega) [hge,s19,hwk,hlt]
   rw [hJ]
   refine ⟨by simp,⟨ver,m,by simp (disch:=first | (simp;done) | omega) [two_inj,nM,sM],fun x=>?_⟩,fun key hk=>by simp (disch:=first | (simp;done) | omega) [hk.ne,sw key hk],by simp (disch:=first | (simp;done) | omega) [two_inj,n4,s4o],by simp (disch:=first | (simp;done) | omega) [two_inj,n2,s2o],by first | omega | (simp;omega)⟩
   rw [hK,htake]
   simp [oneS,hge]
 ·have:i=rs.length:=by omega
  subst this
  rw [List.take_length] at hK
  clear hlt hi
  have hWk:=hWs s.ob sw
  have hw2:=hWk.w
  have eM:∀ key,Off ub key→¬ key=2 * uM+1:=fun key hk=>hk uM (by omega)
  simp [s19,s18]
  generalize hKF:kSeq E1 Yf (C.draw [ql 52 2,_,_,_,_,_,_] _) (kEndS [] (CauR g lvl M N A L S P n ob ub))=KF
  have rest:∀ x:St,x.tm 1 = .int .i64 n→x.tm 2 = .ptr (2 * ub+1) ub 0→x.tm 4 = .ptr (2 * u4+1) u4 0→x.df=[]→x.ro=ro→u4<x.nx→Was ub ob x.ob→x.ob (2 * u4+1)=some ⟨u4,.cells [.map (2 * uM+1) uM]⟩→x.ob (2 * ub+1)=some ⟨ub,.cells [.ptr N.kW N.uW 0]⟩ →
   (∃ ver m,x.ob (2 * uM+1)=some ⟨uM,.mp ver (MP intV m)⟩∧∀ y,y∈m.map (·.1) ↔ y∈manyS P rs++sesS g P S n)→KF .nrm x:=by
   rintro x x1 x2 x4 xd xr xn xw x4o x2o ⟨ver,m,xM,hK⟩
   rw [← hKF]
   have hWx:=hWs x.ob xw
   have hwx:=hWx.w
   obtain ⟨pv,mp,p1,p2⟩:=hWx.p
   simp (disch:=first | (simp;done) | omega) [x2,x4,x1,objCells,x2o,hwx,wC,x4o]
   refine kD_mapSetG (f:=mapV) (a:=(2 * uM+1,uM)) (ver:=pv) (l:=N.kP) (u:=N.uP) (k:=(n:Int)) mp (by simp) (by simp) (by simp [mapV,V.strip]) (by simpa using p1) (by simp [xr];omega) ?_
   simp (disch:=first | (simp;done) | omega)
   have eP:=fun h:N.kP=2 * uM+1=>gP uM (by omega) h
   refine endS_nil (.inl rfl) (by simp [xd]) ⟨rfl,by first | omega | (simp;omega),fun key hk hne=>by simp [hne,xw key hk],?_⟩
   rw [hrs] at hK
   exact hWx.setP (uM:=uM) (t:=(n:Int)) p2 (ver':=pv+1) (vm:=ver) (m:=m) (by first | omega | (simp;omega)) (by omega) (by first | omega | (simp;omega)) (fun key hk _ hne=>by simp [hne]) (by simp) (by simp [xM];exact fun h=>absurd h.symm eP) hK
  obtain ⟨sver,hs1⟩:=hWk.s
  have hlks:=fun (ob':Nat→Option Obj') (h:ob' N.kS=s.ob N.kS) x=>Wk.in' (lo:=ob') (h.trans hs1) x
  have hsf:=ses_fld hn
  simp (disch:=first | (simp;done) | omega) [s2,s1,objCells,s2o,hw2,wC,idx_slOf txnC_len,hsf]
  rw [hlks _ (by simp)]
  cases hf:mfind S (sesAt g n) with
  | none =>
   simp
   exact rest _ (by simp [s1]) (by simp [s2]) (by simp [s4]) (by simp [sd]) (by simp [sr]) (by first | omega | (simp;omega)) (by simpa using sw) (by simpa using s4o) (by simpa using s2o) ⟨ver,m,by simpa using sM,fun x=>by rw [hK];simp [sesS,hf]⟩
  | some p =>
   simp [mcnt,hf]
   refine kS_callVL (f:=218) (first:=[]) (captured:=[.ptr (2 * u4+1) u4 0,.ptr (2 * ub+1) ub 0]) (vs:=[.int .i64 p.2,.ptr (2 * u4+1) u4 0,.ptr (2 * ub+1) ub 0]) (by simp [s5]) (by simp) rfl
    (sv218 (K:=manyS P rs) (hWs _ (by simpa using sw)) (m:=m) (ver:=ver) (uM:=uM) (by simpa using s4o) (by simpa using s2o) (by simpa using sM) hK (by omega) (by first | omega | (simp;omega)) (by first | omega | (simp;omega)) (by first | omega | (simp;omega)) (by omega) (by omega) (by first | omega | (simp [sr];omega)) _ _ _) ?_
   rintro v1 ob1 tk1 ub1 ⟨a1,a2,ver1,m1,a3,a4⟩
   simp only at a1 a2 a3 a4
   simp
   refine rest _ (by simp [s1]) (by simp [s2]) (by simp [s4]) (by simp [sd]) (by simp [sr]) (by first | omega | (simp at a1 ⊢;omega)) (fun key hk=>?_) ?_ ?_ ⟨ver1,m1,by simpa using a3,fun x=>by rw [a4];simp [sesS,hf]⟩
   ·have:=a2 key (hk.up (by first | omega | (simp;omega))) (hk uM (by omega))
    simp at this ⊢
    rw [this,sw key hk]
   ·have:=a2 (2 * u4+1) (Off.new (by first | omega | (simp;omega))) (by omega)
    simp at this ⊢
    rw [this,s4o]
   ·have:=a2 (2 * ub+1) (Off.new (by first | omega | (simp;omega))) (by omega)
    simp at this ⊢
    rw [this,s2o]
end
theorem fs_in {f:FuncId} {af:AF} (h:E.fs f=some af):fs1 f=some af:=by
 unfold fs1
 split
 all_goals first
  | exact h
  | cases h
theorem Ev.e1 {f:FuncId} {args:List V} {r:V} (h:Ev E f args r):Ev E1 f args r:=Ev.other (fs1:=fs1) (mn1:=E1.mn) (fun _ _=>fs_in) (fun _=>rfl) h
theorem EvO.e1 {f:FuncId} {args:List V} {ob:Nat→Option Obj'} {tk:Nat→Bool} {base ub:Nat} {r:V} (h:EvO E f args ob tk base ub r):EvO E1 f args ob tk base ub r:=EvO.other (fs1:=fs1) (mn1:=E1.mn) (fun _ _=>fs_in) (fun _=>rfl) h
theorem EvS.e1 {y:Nat→Y} {f:FuncId} {args:List V} {ob:Nat→Option Obj'} {tk:Nat→Bool} {ro base ub:Nat} {r:V × (Nat→Option Obj') × (Nat→Bool) × Nat} (h:EvS E y f args ob tk ro base ub r):EvS E1 y f args ob tk ro base ub r:=EvS.other (fs1:=fs1) (mn1:=E1.mn) (fun _ _=>fs_in) (fun _=>rfl) h
section
variable {g:Hist'} {lvl:Int} {M:List Int} {N:WN} {A L S:List (Int × Int)} {P:Int→List Int} {ob:Nat→Option Obj'} {ub:Nat}
def nextP (g:Hist') (M:List Int) (S:List (Int × Int)) (P:Int→List Int) (n:Nat):Int→List Int:=fun x=>if x=n then manyS P (rdsT g M n)++sesS g P S n else P x
def stepS (g:Hist') (M:List Int) (lvl:Int) (A L S:List (Int × Int)) (P:Int→List Int) (n:Nat):Bool :=
 !(((mfind S (sesAt g n)).map (·.2)).any fun a=>decide ((n:Int)<a)) && ((badH g n).isEmpty && (rdsT g M n).all (rdB g M lvl A L (nextP g M S P n) n))
def opsN (g:Hist') (n:Nat):List Op':=(g.ts.getD n ⟨0,0,true,[]⟩).ops
def TxnR (g:Hist') (lvl:Int) (M:List Int) (N:WN) (A L S:List (Int × Int)) (P:Int→List Int) (n:Nat) (p:Int) (ub:Nat) (r:V × (Nat→Option Obj') × (Nat→Bool) × Nat):Prop :=
 ub≤r.2.2.2∧r.1 = .bool (stepS g M lvl A L S P n)∧(stepS g M lvl A L S P n=true→Wk g lvl M N (mset A n p) (putL n L (opsN g n) (opsN g n).length) (mset S (sesAt g n) n) (nextP g M S P n) r.2.1 r.2.2.2)
theorem sv107 {Yf:YF} (hs:Small g) (hW:Wk g lvl M N A L S P ob ub) {n:Nat} (hn:n<g.ts.length) (p:Int) {ro:Nat} (r1:ro≤N.uA) (r2:ro≤N.uL) (r3:ro≤N.uS) (r4:ro≤N.uP) (r5:ro≤ub) (tk:Nat→Bool) (base:Nat) :
 EvSL E1 Yf.y 107 [.ptr N.kW N.uW 0,.int .i64 (n:Int),.int .i64 p] ob tk ro base ub (TxnR g lvl M N A L S P n p ub):=by
 have hM:=readH_len hs
 have hts:=hs.ts
 obtain ⟨vb,evb,hvb⟩:=ev114 hs (n:Int)
 refine EvSL_wp (af:=S107) rfl ?_
 show wpC E1 Yf S107.body _ (kEndS S107.res _)
 have hw:=hW.w
 have gW:=hW.fw.f.ne
 have gS:=hW.fs.ne
 have hsf:=ses_fld hn
 obtain ⟨sver,hs1⟩:=hW.s
 have hlks:=fun (ob':Nat→Option Obj') (h:ob' N.kS=ob N.kS) x=>Wk.in' (lo:=ob') (h.trans hs1) x
 simp (disch:=first | (simp;done) | omega) [S107,objCells,hw,wC,gW,V.cells,ptr_leaf,two_inj,Nat.add_assoc,idx_slOf txnC_len,hsf]
 rw [hlks _ (by simp (disch:=first | (simp;done) | omega) [gS])]
 simp (disch:=first | (simp;done) | omega)
 generalize hKF:kSeq E1 Yf (C.region [_,_,_,_]) _=KF
 obtain ⟨ut,hut⟩:∃ u,u=ub+64:=⟨_,rfl⟩
 have rest:∀ x:St,x.tm 2 = .int .i64 p→x.tm 3 = .ptr (2 * ub+1) ub 0→x.tm 4 = .ptr (2 * ut+1) ut 0→x.tm 7 = .int .i64 (sesAt g n)→x.tm 36 = .bool false→x.tm 40 = .agg (histC g)→x.tm 41 = .int .i64 n→x.df=[]→x.ro=ro→ut<x.nx→Was ub ob x.ob →
  x.ob (2 * ub+1)=some ⟨ub,.cells [.ptr N.kW N.uW 0]⟩→x.ob (2 * ut+1)=some ⟨ut,.cells [.int .i64 n]⟩→(((mfind S (sesAt g n)).map (·.2)).any fun a=>decide ((n:Int)<a))=false→KF .nrm x:=by
  intro x x2 x3 x4 x7 x36 x40 x41 xd xr xn xw x3o x4o hany
  rw [← hKF]
  clear hKF KF
  simp [x36]
  refine kS_ev (Ev.e1 evb) (by simp [histC,x40,x41]) rfl (by simp [histC]) ?_
  refine retSl hvb fun tr addr=>?_
  simp [x36]
  have hx:=hW.keep (ub':=x.nx) (fun key hk _=>xw key hk) (by omega)
  cases hb:(badH g n).isEmpty
  ·have hpos:0<(badH g n).length:=by
    cases h:badH g n with
    | nil=>rw [h] at hb;cases hb
    | cons a l=>simp
   simp [hpos]
   exact endS_1 (by simp [xd]) ⟨by simp;omega,by simp [stepS,hb],fun h=>by simp [stepS,hb] at h⟩
  ·have hpos:¬ 0<(badH g n).length:=by
    cases h:badH g n with
    | nil=>simp
    | cons a l=>rw [h] at hb;cases hb
   simp [hpos,x3,x4,objCells,x3o,x4o]
   refine kS_callLP (vs:=[.ptr N.kW N.uW 0,.int .i64 (n:Int)]) (by simp) rfl (sv162 (hx.keep (fun key _ _=>by first | rfl | simp) (by first | omega | (simp;omega))) hM hn (by omega) (by first | omega | (simp [xr];omega)) (by first | omega | (simp [xr];omega)) _ _) ?_
   rintro v1 ob1 tk1 ub1 ⟨a1,a2,a3,a4⟩
   simp only at a1 a2 a3 a4
   subst a1
   have b3:ob1 (2 * ub+1)=some ⟨ub,.cells [.ptr N.kW N.uW 0]⟩:=by
    have:=a3 (2 * ub+1) (Off.new (by first | omega | (simp;omega))) (fun h=>hW.fp.ne ub (Nat.le_refl _) h.symm)
    simp at this
    rw [this,x3o]
   have b4:ob1 (2 * ut+1)=some ⟨ut,.cells [.int .i64 n]⟩:=by
    have:=a3 (2 * ut+1) (Off.new (by first | omega | (simp;omega))) (fun h=>hW.fp.ne ut (by omega) h.symm)
    simp at this
    rw [this,x4o]
   have a2':x.nx+64+64+64+64≤ub1:=by omega
   change Wk g lvl M N A L S (nextP g M S P n) ob1 ub1 at a4
   obtain ⟨v,hlk,hrow⟩:=a4.row (n:Int)
   have w1:=a4.w
   have hlen:=rd_len g M n
   simp (disch:=first | (simp;done) | omega) [x3,x4,objCells,b3,b4,w1,wC]
   rw [hlk _ (by simp)]
   simp
   refine kS_callO (vs:=[v,.fn (.func 164) [] [.ptr (2 * ub+1) ub 0,.ptr (2 * ut+1) ut 0]]) (by simp [x3,x4]) rfl (by rw [List.all_cons,Bool.and_eq_false_iff];exact .inr rfl) (EvO.e1 (evo163 (p:=fun r=>!rdB g M lvl A L (nextP g M S P n) n r) (N:=N) rfl (hrow.keep (fun key h=>by first | rfl | simp) (by first | omega | (simp;omega))) (by omega) (fun q _ tk base ub' h =>
    evo164 hs hM (a4.keep (fun key h1 _=>by first | rfl | simp) (by first | omega | (simp at h;omega))) (t:=(n:Int)) (by simpa using b3) (by simpa using b4) (fun m hm=>by first | omega | (simp at h;omega)) (fun m hm=>by first | omega | (simp at h;omega)) q tk base) _ _)) ?_
   have hany2:(rdsT g M n).any (fun r=>!rdB g M lvl A L (nextP g M S P n) n r) = !(rdsT g M n).all (rdB g M lvl A L (nextP g M S P n) n):=by rw [List.not_all_eq_any_not]
   rw [hany2]
   have hst:stepS g M lvl A L S P n=(rdsT g M n).all (rdB g M lvl A L (nextP g M S P n) n):=by simp [stepS,hany,hb]
   cases hall:(rdsT g M n).all (rdB g M lvl A L (nextP g M S P n) n)
   ·simp
    exact endS_1 (by simp [xd]) ⟨by first | omega | (simp;omega),by simp [hst,hall],fun h=>by rw [hst,hall] at h;cases h⟩
   ·simp (disch:=first | (simp;done) | omega) [x3,x4,x2,objCells,b3,b4,w1,wC]
    obtain ⟨va,ha⟩:=a4.a
    obtain ⟨vs,hs2⟩:=a4.s
    obtain ⟨n1,n2,n3,n4,n5,n6⟩:=hW.ne
    refine kD_mapSetG (f:=intV) (a:=p) (ver:=va) (l:=N.kA) (u:=N.uA) (k:=(n:Int)) A (by simp) (by simp) (by simp [intV]) (by simpa using ha) (by first | omega | (simp [xr];omega)) ?_
    have dW:=a4.fw
    have e1:2 * ub+1≠N.kA:=fun h=>hW.fa.ne ub (by omega) h.symm
    have e2:2 * ut+1≠N.kA:=fun h=>hW.fa.ne ut (by omega) h.symm
    have e3:2 * ub+1≠N.kS:=fun h=>hW.fs.ne ub (by omega) h.symm
    have e4:2 * ut+1≠N.kS:=fun h=>hW.fs.ne ut (by omega) h.symm
    simp (disch:=first | (simp;done) | omega) [x3,x4,x7,objCells,b3,b4,w1,wC,e1,e2,dW.a]
    refine kD_mapSetG (f:=intV) (a:=(n:Int)) (ver:=vs) (l:=N.kS) (u:=N.uS) (k:=sesAt g n) S (by simp) (by simp) (by simp [intV]) (by simpa [Ne.symm n2] using hs2) (by first | omega | (simp [xr];omega)) ?_
    have hl3:(g.ts.flatMap txnC)[n * 3+2]? = some (slOf (g.ts[n]).nl opC (g.ts[n]).ops):=by rw [fld_at txnC_len g.ts hn (by decide:2<3)];rfl
    have hops:(g.ts[n]).ops=opsN g n:=by simp [opsN,List.getD_eq_getElem?_getD,hn]
    have hol:(opsN g n).length≤1000:=by rw [← hops];exact hs.os _ (List.getElem_mem hn)
    rw [hops] at hl3
    simp (disch:=first | (simp;done) | omega) [x3,x4,objCells,b3,b4,w1,wC,e1,e2,e3,e4,dW.a,dW.s,idx_slOf txnC_len,hl3]
    refine wpC_gen fun st hst=>?_
    have g3:st.tm 3 = .ptr (2 * ub+1) ub 0:=by rw [hst];simp [x3]
    have g4:st.tm 4 = .ptr (2 * ut+1) ut 0:=by rw [hst];simp [x4]
    have g77:st.tm 77=slOf (g.ts[n]).nl opC (opsN g n):=by rw [hst];simp
    have g78:st.tm 78 = .int .i64 (opsN g n).length:=by rw [hst];simp [slOf]
    have g79:st.tm 79 = .int .i64 0:=by rw [hst];simp
    have gd:st.df=[]:=by rw [hst];simp [xd]
    have gr:st.ro=ro:=by rw [hst];simp [xr]
    have gW5:Wk g lvl M N (mset A n p) L (mset S (sesAt g n) n) (nextP g M S P n) st.ob st.nx:=by
     have h1:=a4.setA (ver':=va+1) (A':=mset A n p) (ob':=upd ob1 N.kA (some ⟨N.uA,.mp (va+1) (MP intV (mset A n p))⟩)) (ub':=ub1) (Nat.le_refl _) (fun key _ _ h=>upd_ne _ _ h) (by simp)
     have h2:=h1.setS (ver':=vs+1) (S':=mset S (sesAt g n) n) (ob':=upd (upd ob1 N.kA (some ⟨N.uA,.mp (va+1) (MP intV (mset A n p))⟩)) N.kS (some ⟨N.uS,.mp (vs+1) (MP intV (mset S (sesAt g n) n))⟩)) (ub':=ub1) (Nat.le_refl _) (fun key _ _ h=>upd_ne _ _ h) (by simp)
     exact h2.keep (fun key _ _=>by rw [hst];simp [upd_apply]) (by rw [hst];simp;omega)
    have g3o:st.ob (2 * ub+1)=some ⟨ub,.cells [.ptr N.kW N.uW 0]⟩:=by rw [hst];simp [e1,e3,b3]
    have g4o:st.ob (2 * ut+1)=some ⟨ut,.cells [.int .i64 n]⟩:=by rw [hst];simp [e2,e4,b4]
    have gn:ut<st.nx:=by rw [hst];simp;omega
    clear hst
    obtain ⟨J,hJ⟩:∃ J:Nat→St→Prop,J=fun i s=>s.tm 79 = .int .i64 i∧Wk g lvl M N (mset A n p) (putL n L (opsN g n) i) (mset S (sesAt g n) n) (nextP g M S P n) s.ob s.nx∧s.ob (2 * ub+1)=some ⟨ub,.cells [.ptr N.kW N.uW 0]⟩∧s.ob (2 * ut+1)=some ⟨ut,.cells [.int .i64 n]⟩∧ut<s.nx:=⟨_,rfl⟩
    refine wp_loopUp [(11,11),(79,92)] (opsN g n).length J rfl rfl (by rw [hJ];exact ⟨by simpa using g79,gW5,g3o,g4o,gn⟩) ?_
    clear gW5 g3o g4o gn
    intro i s hi hJs f
    rw [hJ] at hJs
    obtain ⟨s79,sW,s3o,s4o,sn⟩:=hJs
    have s3:s.tm 3 = .ptr (2 * ub+1) ub 0:=by rw [f.t 3 (by simp)];simp [g3]
    have s4:s.tm 4 = .ptr (2 * ut+1) ut 0:=by rw [f.t 4 (by simp)];simp [g4]
    have s77:s.tm 77=slOf (g.ts[n]).nl opC (opsN g n):=by rw [f.t 77 (by simp)];simp [g77]
    have s78:s.tm 78 = .int .i64 (opsN g n).length:=by rw [f.t 78 (by simp)];simp [g78]
    have sd:s.df=[]:=by rw [f.d];simp [gd]
    have sr:s.ro=ro:=by rw [f.r];simp [gr]
    clear f
    by_cases hlt:i<(opsN g n).length
    ·have hwk:=wrapU hlt (by omega)
     have n3':∀ m,s.nx≤m→¬ ub=m:=fun m hm=>by omega
     have n4':∀ m,s.nx≤m→¬ ut=m:=fun m hm=>by omega
     have wW:=sW.w
     have gW':=sW.fw.f.ne
     have gL':=sW.fl.ne
     obtain ⟨vl,hl⟩:=sW.l
     have e5:2 * ub+1≠N.kL:=fun h=>hW.fl.ne ub (by omega) h.symm
     have e6:2 * ut+1≠N.kL:=fun h=>hW.fl.ne ut (by omega) h.symm
     have hput:putL n L (opsN g n) (i+1)=if ((opsN g n)[i]).w then mset (putL n L (opsN g n) i) ((opsN g n)[i]).key n else putL n L (opsN g n) i:=by rw [putL,List.getElem?_eq_getElem hlt]
     simp (disch:=first | (simp;done) | omega) [s79,s78,s77,hlt,idx_slOf opC_len,load_slOf opC_len,opC,objCells,splice]
     refine ⟨by first | omega | (simp [sr];omega),?_⟩
     cases hwr:((opsN g n)[i]).w
     ·simp (disch:=first | (simp;done) | omega) [s79,hwk,hlt]
      rw [hJ]
      refine ⟨by simp,?_,by simp (disch:=first | (simp;done) | omega) [two_inj,n3',s3o],by simp (disch:=first | (simp;done) | omega) [two_inj,n4',s4o],by first | omega | (simp;omega)⟩
      rw [hput,hwr]
      exact sW.keep (fun key hk _=>by simp (disch:=first | (simp;done) | omega) [hk.ne]) (by first | omega | (simp;omega))
     ·simp (disch:=first | (simp;done) | omega) [s3,s4,objCells,two_inj,n3',n4',s3o,s4o,gW',wW,wC]
      refine kD_mapSetG (f:=intV) (a:=(n:Int)) (ver:=vl) (l:=N.kL) (u:=N.uL) (k:=((opsN g n)[i]).key) (putL n L (opsN g n) i) (by simp) (by simp) (by simp [intV]) (by simpa (disch:=first | (simp;done) | omega) [gL'] using hl) (by first | omega | (simp [sr];omega)) ?_
      simp (disch:=first | (simp;done) | omega) [s79,hwk,hlt]
      rw [hJ]
      refine ⟨by simp,?_,by simp (disch:=first | (simp;done) | omega) [two_inj,n3',s3o,e5],by simp (disch:=first | (simp;done) | omega) [two_inj,n4',s4o,e6],by first | omega | (simp;omega)⟩
      rw [hput,hwr]
      exact sW.setL (ver':=vl+1) (by first | omega | (simp;omega)) (fun key hk _ h=>by simp (disch:=first | (simp;done) | omega) [hk.ne,h]) (by simp)
    ·have:i=(opsN g n).length:=by omega
     subst this
     simp [s79,s78]
     refine endS_1 (by simp [sd]) ⟨by first | omega | (simp;omega),by simp [hst,hall],fun _=>?_⟩
     exact sW.keep (fun key _ _=>by simp) (by first | omega | (simp;omega))
 cases hf:mfind S (sesAt g n) with
 | none =>
  simp (disch:=first | (simp;done) | omega) [objCells,two_inj,Nat.add_assoc,hw,wC,gW]
  refine rest _ (by simp) (by simp) (by simp [hut]) (by simp) (by simp) (by simp [histC]) (by simp) (by simp) (by simp) (by simp;omega) (fun key hk=>by simp (disch:=first | (simp;done) | omega) [hk.ne]) (by simp (disch:=first | (simp;done) | omega) [two_inj]) (by simp (disch:=first | (simp;done) | omega) [hut]) (by simp [hf])
 | some q =>
  by_cases hc:(n:Int)<q.2
  ·simp (disch:=first | (simp;done) | omega) [objCells,Nat.add_assoc,mcnt,hf,hc]
   rw [← hKF]
   simp
   refine endS_1 (by simp) ⟨by simp;omega,by simp [stepS,hf,hc],fun h=>by simp [stepS,hf,hc] at h⟩
  ·simp (disch:=first | (simp;done) | omega) [objCells,two_inj,Nat.add_assoc,hw,wC,gW,mcnt,hf,hc]
   refine rest _ (by simp) (by simp) (by simp [hut]) (by simp) (by simp) (by simp [histC]) (by simp) (by simp) (by simp) (by simp;omega) (fun key hk=>by simp (disch:=first | (simp;done) | omega) [hk.ne]) (by simp (disch:=first | (simp;done) | omega) [two_inj]) (by simp (disch:=first | (simp;done) | omega) [hut]) (by simp [hf];omega)
end
section
variable {g:Hist'} {lvl:Int} {M O:List Int}
theorem manyS_eq (P:Int→List Int) (rs:List (Int × Int × Int)):manyS P rs=(rs.filter fun r=>decide (0≤r.2.2)).flatMap fun r=>r.2.2::P r.2.2:=by
 unfold manyS
 induction rs with
 | nil=>rfl
 | cons r rs ih =>
  rw [List.flatMap_cons,List.filter_cons,ih]
  by_cases h:0≤r.2.2
  ·simp [oneS,h]
  ·simp [oneS,h]
theorem new_eq {k n:Nat} (h:O.getD k 0=n):manyS (pastP g M O k) (rdsT g M n)++sesS g (pastP g M O k) (wsM g O k) n=newOf g M O (pastP g M O k) k:=by
 unfold newOf sesS
 rw [manyS_eq,h,wsM_val,Int.toNat_natCast]
 try rfl
theorem next_past {k n:Nat} (h:O.getD k 0=n):nextP g M (wsM g O k) (pastP g M O k) n=pastP g M O (k+1):=by
 funext x
 unfold nextP
 rw [new_eq h]
 simp only [pastP,h]
theorem step_eq {k n:Nat} (h:O.getD k 0=n):stepS g M lvl (atM O k) (wlM g O k) (wsM g O k) (pastP g M O k) n=stepOk g M O lvl k:=by
 unfold stepS stepOk
 rw [wsM_val,h,Int.toNat_natCast]
 congr 2
 refine congrArg (fun f=>(rdsT g M (n:Int)).all f) (funext fun r=>?_)
 unfold rdB readB
 rw [h]
 have hn:nextP g M (wsM g O k) (pastP g M O k) n n=newOf g M O (pastP g M O k) k:=by
  rw [next_past h]
  exact if_pos h.symm
 rw [hn,wlM_val]
 rfl
theorem wl_succ {k n:Nat} (h:O.getD k 0=n) (hmay:mayH g=true) (hn:n<g.ts.length):putL n (wlM g O k) (opsN g n) (opsN g n).length=wlM g O (k+1):=by
 have:(opsAt g (n:Int)).2=opsN g n:=by
  unfold opsAt opsN
  simp [hmay,hn]
 rw [wlM,h,this]
theorem ws_succ {k n:Nat} (h:O.getD k 0=n):mset (wsM g O k) (sesAt g n) n=wsM g O (k+1):=by rw [wsM,h,Int.toNat_natCast]
theorem at_succ {k n:Nat} (h:O.getD k 0=n):mset (atM O k) n k=atM O (k+1):=by rw [atM,h]
theorem sv56 {Yf:YF} {N:WN} {ob:Nat→Option Obj'} {ub:Nat} (hs:Small g) (hm:mapR g M=true) (ho:orderB g O=true) {on:Bool} (hO:O.length≤1000000) (hW:Wk g lvl M N (atM O 0) (wlM g O 0) (wsM g O 0) (pastP g M O 0) ob ub) {ro:Nat} (r1:ro≤N.uA) (r2:ro≤N.uL) (r3:ro≤N.uS) (r4:ro≤N.uP) (r5:ro≤ub) (tk:Nat→Bool) (base:Nat) :
 EvSL E1 Yf.y 56 [.ptr N.kW N.uW 0,slOf on intC O] ob tk ro base ub (fun r=>r.1 = .bool (walkB g M O lvl)):=by
 have hmay:=whole_may (map_whole hm)
 refine EvSL_wp (af:=S56) rfl ?_
 show wpC E1 Yf S56.body _ (kEndS S56.res _)
 simp [S56]
 obtain ⟨J,hJ⟩:∃ J:Nat→St→Prop,J=fun i s=>s.tm 9 = .int .i64 i∧andTo (stepOk g M O lvl) i=true∧Wk g lvl M N (atM O i) (wlM g O i) (wsM g O i) (pastP g M O i) s.ob s.nx∧ub≤s.nx:=⟨_,rfl⟩
 refine wp_loopUp [(4,6),(9,19)] O.length J rfl rfl (by rw [hJ];exact ⟨by simp,rfl,hW.keep (fun key _ _=>by simp) (by first | omega | (simp;omega)),by first | omega | (simp;omega)⟩) ?_
 intro i s hi hJs f
 rw [hJ] at hJs
 obtain ⟨s9,hall,sW,sn⟩:=hJs
 have s0:s.tm 0 = .ptr N.kW N.uW 0:=by rw [f.t 0 (by simp)];simp
 have s7:s.tm 7=slOf on intC O:=by rw [f.t 7 (by simp)];simp
 have s8:s.tm 8 = .int .i64 O.length:=by rw [f.t 8 (by simp)];simp [slOf]
 have sd:s.df=[]:=by rw [f.d];simp
 have sr:s.ro=ro:=by rw [f.r];simp
 clear f
 by_cases hlt:i<O.length
 ·have hwk:=wrapU hlt (by omega)
  have h1:=int_at O hlt
  obtain ⟨n,en,hn⟩:=at_com ho hlt
  have hget:O.getD i 0=n:=(getO hlt).trans en
  have hnl:=comAt_lt hn
  simp (disch:=first | (simp;done) | omega) [s9,s8,s7,s0,hlt,idx_slOf intC_len,h1,en]
  refine kS_callLP (vs:=[.ptr N.kW N.uW 0,.int .i64 (n:Int),.int .i64 (i:Int)]) (by simp) rfl (sv107 hs (sW.keep (fun key _ _=>by first | rfl | simp) (by first | omega | (simp;omega))) hnl (i:Int) (by first | omega | (simp [sr];omega)) (by first | omega | (simp [sr];omega)) (by first | omega | (simp [sr];omega)) (by first | omega | (simp [sr];omega)) (by first | omega | (simp [sr];omega)) _ _) ?_
  rintro v1 ob1 tk1 ub1 ⟨a1,a2,a3⟩
  simp only at a1 a2 a3
  rw [step_eq hget] at a2 a3
  subst a2
  cases hst:stepOk g M O lvl i
  ·simp
   exact endS_1 (by simp [sd]) (by simp [walkB,andTo_false hlt hst])
  ·simp [s9,hwk,hlt]
   rw [hJ]
   have h3:=a3 hst
   rw [wl_succ hget hmay hnl,ws_succ hget,at_succ hget,next_past hget] at h3
   exact ⟨by simp,by simp [andTo,hall,hst],h3.keep (fun key _ _=>by simp) (by first | omega | (simp;omega)),by first | omega | (simp;omega)⟩
 ·have:i=O.length:=by omega
  subst this
  simp [s9,s8]
  exact endS_1 (by simp [sd]) (by simp [walkB,hall])
end
end Go.Pv.T
namespace Go.Pv.T
open Go Go.Pv
end Go.Pv.T
namespace Go.Pv.T
open Go Go.Pv
end Go.Pv.T
namespace Go.Pv.T
open Go Go.Pv
section
variable {E:Env} {st:St} {ub:Nat} {K:List FP→St→Prop} {d:Option Nat} {nm:Bool} {r:List AOpr}
end
theorem slSl_any {α:Type} {f:α→List V} {k:Nat} (hf:∀ a,(f a).length=k) (nl:Bool) (l:List α) (n:Nat) (kk:IntKind):slSlV k none (some (.int kk ((min l.length n:Nat):Int))) (slOf nl f l)=some (.sl none nl (min l.length n) ((l.take n).flatMap f)):=by
 have h1:=slSl_to (kk:=kk) (t:=none) (nl:=nl) (sz:=k) (cs:=l.flatMap f) (n:=l.length) (k:=min l.length n) (Nat.min_le_left _ _) (flatMap_len hf _)
 refine Eq.trans h1 ?_
 rw [take_flat hf]
 congr 2
 rcases Nat.le_total l.length n with h | h
 ·rw [Nat.min_eq_left h,List.take_length,List.take_of_length_le h]
 ·rw [Nat.min_eq_right h]
end Go.Pv.T
