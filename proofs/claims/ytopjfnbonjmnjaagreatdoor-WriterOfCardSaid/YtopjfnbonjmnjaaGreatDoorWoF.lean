/- Who may have written what is read: the reference's list. -/
import Derived.Test.YtopjfnbonjmnjaaGreatDoorWoE
import Derived.Test.YtopjfnbonjmnjaaGreatDoorRows
import Derived.Test.YtopjfnbonjmnjaaGreatDoorTie
import Derived.ProofKit
import Derived.LaidMore
import Derived.OpenShut
import Derived.Stop.Joined
import Derived.SizedLaws
import Derived.Carry
import Derived.Handed
import Derived.ChangeSame
namespace Go.Pv.T
open Go Go.Pv
def seenB (o:Op') (a:Int) (i:Nat) (t:Txn'):Bool:=(!((i:Int) == a) && (t.f != 2)) && ((rawTo o.key t.ops t.ops.length).2 && fitsR o (rawTo o.key t.ops t.ops.length).1)
def refTo (ts:List Txn') (a:Int) (o:Op'):Nat→List Int
 | 0=>ofStart o
 | i+1=>refTo ts a o i++(match ts[i]? with | some t=>if seenB o a i t then [(i:Int)] else [] | none=>[])
theorem refTo_succ {ts:List Txn'} {a:Int} {o:Op'} {i:Nat} (h:i<ts.length):refTo ts a o (i+1)=refTo ts a o i++(if seenB o a i ts[i] then [(i:Int)] else []):=by
 simp [refTo,List.getElem?_eq_getElem h]
theorem refTo_len (ts:List Txn') (a:Int) (o:Op'):∀ i,(refTo ts a o i).length≤i+1
 | 0=>by unfold refTo ofStart;split <;> simp
 | i+1=>by
  have:=refTo_len ts a o i
  simp only [refTo,List.length_append]
  split
  ·split <;> simp <;> omega
  ·simp;omega
theorem leaveOf_at {g:Hist'} (hm:mayH g=true) (key:Int) {i:Nat} (h:i<g.ts.length):leaveOf g key i=(rawTo key g.ts[i].ops g.ts[i].ops.length).1:=by
 unfold leaveOf lastW opsAt
 rw [hm,if_pos (by simp;omega)]
 simp only [Int.toNat_natCast]
 rw [getD_lt h]
theorem refTo_eq {g:Hist'} (hm:mayH g=true) (a:Int) (o:Op'):∀ i,i≤g.ts.length→refTo g.ts a o i=ofStart o++(numsTo (wrB o.key) g.ts i).filter fun i=>!(i == a) && fitsR o (leaveOf g o.key i)
 | 0,_=>by simp [refTo,numsTo]
 | i+1,h=>by
  rw [refTo_succ (by omega),numsTo_succ (by omega),List.filter_append,refTo_eq hm a o i (by omega),List.append_assoc]
  congr 2
  have hr:=rawTo_any o.key (g.ts[i]).ops (g.ts[i]).ops.length (Nat.le_refl _)
  rw [List.take_length] at hr
  have hl:=leaveOf_at hm o.key (show i<g.ts.length by omega)
  unfold seenB wrB
  rw [hr]
  cases h1:(g.ts[i].ops.any (wkB o.key)) <;> cases h2:(g.ts[i].f != 2) <;> cases h3:((i:Int) == a) <;> simp [List.filter_cons,h3,hl]
theorem refTo_ofL {g:Hist'} (hm:mayH g=true) (a:Int) (o:Op'):refTo g.ts a o g.ts.length=ofL g a o:=refTo_eq hm a o _ (Nat.le_refl _)
theorem opAt_some {g:Hist'} {a b:Int} {o:Op'} (h:opAt g a b=some o):∃ i j:Nat,a=i∧b=j∧∃ (hi:i<g.ts.length) (hj:j<(g.ts[i]).ops.length),(g.ts[i]).ops[j]=o:=by
 unfold opAt at h
 by_cases hc:(mayH g && (decide (0≤a) && (decide (a<g.ts.length) && (decide (0≤b) && decide (b<((g.ts.getD a.toNat ⟨0,0,true,[]⟩).ops.length:Nat))))))=true
 ·rw [if_pos hc] at h
  simp only [Bool.and_eq_true,decide_eq_true_eq] at hc
  obtain ⟨_,h1,h2,h3,h4⟩:=hc
  obtain ⟨i,rfl⟩:∃ i:Nat,a=i:=⟨a.toNat,by omega⟩
  obtain ⟨j,rfl⟩:∃ j:Nat,b=j:=⟨b.toNat,by omega⟩
  have hi:i<g.ts.length:=by omega
  rw [Int.toNat_natCast,getD_lt hi] at h h4
  have hj:j<(g.ts[i]).ops.length:=by omega
  rw [Int.toNat_natCast,List.getElem?_eq_getElem hj] at h
  exact ⟨i,j,rfl,rfl,hi,hj,Option.some.inj h⟩
 ·rw [if_neg hc] at h
  cases h
theorem ev28' {g:Hist'} (hs:Small g) (a b:Int):∃ v,Ev E 28 [.agg (histC g),.agg (placeC (a,b))] v∧SlR v false (ofH g a b).length ((ofH g a b).flatMap intC):=by
 have e77:=ev77 hs a b
 refine Ev_wpE (af:=F28) rfl (by decide) ?_
 unfold ofH
 cases hop:opAt g a b with
 | none =>
  rw [hop] at e77
  simp [F28,histC,placeC]
  refine kS_buildSl (cs:=[]) rfl rfl rfl ?_
  simp [objCells]
  refine kS_ev e77 (by simp [histC,placeC]) rfl (by simp [histC,placeC]) ?_
  simp
  exact slE (t:=some (192,1)) (nl:=false) (k:=0) (cs:=[]) (fun r h=>h) (by simp) (by simp)
 | some o =>
  rw [hop] at e77
  simp only [Option.any_some] at e77
  have hmay:mayH g=true:=by
   unfold opAt at hop
   cases hm:mayH g
   ·rw [hm] at hop;cases hop
   ·rfl
  have hts:=may_ts hmay
  simp [F28,histC,placeC]
  refine kS_buildSl (cs:=[]) rfl rfl rfl ?_
  simp [objCells]
  refine kS_ev e77 (by simp [histC,placeC]) rfl (by simp [histC,placeC]) ?_
  cases hw:o.w
  ·obtain ⟨i,j,rfl,rfl,hi,hj,ho⟩:=opAt_some hop
   have hl3:(g.ts.flatMap txnC)[i * 3+2]? = some (slOf (g.ts[i]).nl opC (g.ts[i]).ops):=by
    rw [fld_at txnC_len g.ts hi (by decide:2<3)];rfl
   have hl4:=fun ob=>load_slOf opC_len ob (g.ts[i]).ops hj
   rw [ho] at hl4
   simp [objCells,hi,hj,idx_slOf txnC_len,idx_slOf opC_len,hl3,hl4]
   refine ⟨by simp [opC],by simp [drawOk,indep,disj,fpOf,rdOb,rdTk,lOf,Delta.wo,Delta.wt,opC];try decide,?_⟩
   simp [opC]
   generalize hK:kSeq E noYF _ (kEndE _ _)=K
   have rest:∀ (s:St) (U:Nat) (v:V),s.tm 2 = .ptr 4 0 0→s.tm 3 = .ptr 6 64 0→s.tm 6 = .ptr 12 U 0→s.ob 4=some ⟨0,.cells (histC g)⟩→s.ob 6=some ⟨64,.cells [.int .i64 i,.int .i64 j]⟩→s.ob 12=some ⟨U,.cells (opC o)⟩ →
    s.tm 5=v→GrowT s.tk s.nx intC 1 (ofStart o) v→s.df=[]→s.ro=0→s.fb=0→K .nrm s:=by
    intro s U v h2 h3 h6 o4 o6 o12 h5 hv hd hr hb
    rw [← hK]
    clear hK e77 hop
    simp
    generalize (i:Int)=a at *
    refine wp_loopUp [(5,5),(7,9),(34,90)] g.ts.length (fun n s=>s.tm 7 = .int .i64 n∧s.ob 4=some ⟨0,.cells (histC g)⟩∧s.ob 6=some ⟨64,.cells [.int .i64 a,.int .i64 j]⟩∧s.ob 12=some ⟨U,.cells (opC o)⟩∧GrowT s.tk s.nx intC 1 (refTo g.ts a o n) (s.tm 5)) rfl rfl ⟨by simp,by simp [o4],by simp [o6],by simp [o12],by rw [refTo];simp [h5];exact hv.mono (fun _ _ h=>h) (by omega)⟩ ?_
    rintro n s' hn ⟨h7,o4,o6,o12,hG⟩ f
    have f2:s'.tm 2 = .ptr 4 0 0:=by rw [f.t 2 (by simp)];simp [h2]
    have f3:s'.tm 3 = .ptr 6 64 0:=by rw [f.t 3 (by simp)];simp [h3]
    have f6:s'.tm 6 = .ptr 12 U 0:=by rw [f.t 6 (by simp)];simp [h6]
    have fd:s'.df=[]:=by rw [f.d];simp [hd]
    have fb:s'.fb=0:=by rw [f.b];simp [hb]
    have fr:s'.ro=0:=by rw [f.r];simp [hr]
    clear f
    by_cases hlt:n<g.ts.length
    ·have hw:=wrapU hlt (by omega)
     have hsn:=refTo_succ (a:=a) (o:=o) hlt
     obtain ⟨t,ht⟩:∃ t,g.ts[n]=t:=⟨_,rfl⟩
     rw [ht] at hsn
     have hos:=hs.os t (ht ▸ List.getElem_mem hlt)
     have hll:=refTo_len g.ts a o n
     have hff:(g.ts.flatMap txnC)[n * 3+1]? = some (.int .i64 t.f):=by
      rw [fld_at txnC_len g.ts hlt (by decide:1<3),ht];rfl
     have hfo:(g.ts.flatMap txnC)[n * 3+2]? = some (slOf t.nl opC t.ops):=by
      rw [fld_at txnC_len g.ts hlt (by decide:2<3),ht];rfl
     have e78:=ev78 t (by omega) o.key
     simp [h7,f2,f6,o4,o12,objCells,histC,opC,hlt,idx_slOf txnC_len,load_slOf txnC_len,ht,hfo]
     refine kD_ev e78 (by simp [txnC]) rfl (by simp [txnC]) ?_
     rw [retA_tupl (by simp [V.plain,valC])]
     have hsee:seenB o a n t=((!((n:Int) == a) && (t.f != 2)) && ((rawTo o.key t.ops t.ops.length).2 && fitsR o (rawTo o.key t.ops t.ops.length).1)):=rfl
     generalize (rawTo o.key t.ops t.ops.length).1=rv at *
     generalize (rawTo o.key t.ops t.ops.length).2=rb at *
     have o4':s'.ob 4=some ⟨0,.cells [slOf g.sn strC g.ss,slOf g.kn strC g.ks,slOf g.tn txnC g.ts]⟩:=o4
     have o12':s'.ob 12=some ⟨U,.cells [.bool o.w,.int .i64 o.key,.int .i64 o.v.kind,.int .i64 o.v.n]⟩:=o12
     have skip:seenB o a n t=false→refTo g.ts a o (n+1)=refTo g.ts a o n:=fun h=>by rw [hsn,h];simp
     simp [valC,objCells,fb,fr,splice,f3,o6,h7]
     refine ⟨by simp [drawOk,indep,disj,fpOf,rdOb,rdTk,lOf,Delta.wo,Delta.wt];try decide,?_⟩
     cases h1:((n:Int) != a)
     ·have h1b:((n:Int) == a)=true:=by simpa [bne] using h1
      have hsk:=skip (by rw [hsee,h1b];rfl)
      simp [o4',o6,o12',h7,hw,hlt]
      rw [hsk];exact hG.mono (fun u _ h=>by simpa [app_tk0] using h) (by omega)
     have h1b:((n:Int) == a)=false:=by simpa [bne] using h1
     cases h2:(t.f != 2)
     ·have hsk:=skip (by rw [hsee,h1b,h2];rfl)
      simp [h2,f2,o4',o6,o12',h7,hw,objCells,hlt,idx_slOf txnC_len,hff]
      rw [hsk];exact hG.mono (fun u _ h=>by simpa [app_tk0] using h) (by omega)
     cases rb
     ·have hsk:=skip (by rw [hsee,h1b,h2];rfl)
      simp [h2,f2,o4',o6,o12',h7,hw,objCells,hlt,idx_slOf txnC_len,hff]
      rw [hsk];exact hG.mono (fun u _ h=>by simpa [app_tk0] using h) (by omega)
     cases h4:(o.v.kind == 2)
     ·cases h5:(rv.kind == o.v.kind && rv.n == o.v.n)
      ·have hsk:=skip (by rw [hsee,h1b,h2];unfold fitsR;rw [h4,h5];rfl)
       simp [h2,h4,h5,f2,f6,o4',o6,o12',h7,hw,objCells,hlt,idx_slOf txnC_len,hff]
       rw [hsk];exact hG.mono (fun u _ h=>by simpa [app_tk0] using h) (by omega)
      ·have h3f:fitsR o rv=true:=by unfold fitsR;rw [h4,h5];rfl
       have hsn2:refTo g.ts a o (n+1)=refTo g.ts a o n++[(n:Int)]:=by rw [hsn,hsee];simp [h1b,h2,h3f]
       simp [h2,h4,h5,f2,f6,o4',o12',h7,objCells,hlt,idx_slOf txnC_len,hff]
       refine kS_buildSl (cs:=[.int .i64 n]) (by simp [splice]) rfl rfl ?_
       simp
       refine kS_appendT (f:=intC) (hi:=s'.nx) (l:=refTo g.ts a o n) (a:=(n:Int)) (v:=s'.tm 5) (hG.mono (fun u _ h=>by simp [app_tk,h]) (Nat.le_refl _)) (by simp) (by simp [slCells,intC]) intC_len (by decide) rfl (by omega) (by omega) (fun del hdel=>?_)
       have hlen:(refTo g.ts a o n).length+1=(refTo g.ts a o (n+1)).length:=by rw [hsn2];simp
       rw [← hsn2,hlen]
       simp [h7,hw,o4',o6,o12']
       exact ⟨hlt,_,rfl,by simp [app_tk],by omega⟩
     ·have h3f:fitsR o rv=true:=by unfold fitsR;rw [h4];rfl
      have hsn2:refTo g.ts a o (n+1)=refTo g.ts a o n++[(n:Int)]:=by rw [hsn,hsee];simp [h1b,h2,h3f]
      simp [h2,h4,f2,f6,o4',o12',h7,objCells,hlt,idx_slOf txnC_len,hff]
      refine kS_buildSl (cs:=[.int .i64 n]) (by simp [splice]) rfl rfl ?_
      simp
      refine kS_appendT (f:=intC) (hi:=s'.nx) (l:=refTo g.ts a o n) (a:=(n:Int)) (v:=s'.tm 5) (hG.mono (fun u _ h=>by simp [app_tk,h]) (Nat.le_refl _)) (by simp) (by simp [slCells,intC]) intC_len (by decide) rfl (by omega) (by omega) (fun del hdel=>?_)
      have hlen:(refTo g.ts a o n).length+1=(refTo g.ts a o (n+1)).length:=by rw [hsn2];simp
      rw [← hsn2,hlen]
      simp [h7,hw,o4',o6,o12']
      exact ⟨hlt,_,rfl,by simp [app_tk],by omega⟩
    ·have:n=g.ts.length:=by omega
     subst this
     obtain ⟨u,hv,_,_⟩:=hG
     simp [h7,f2,o4,objCells,histC]
     rw [← refTo_ofL hmay]
     exact slE (t:=some (u,1)) (nl:=false) (k:=(refTo g.ts a o g.ts.length).length) (cs:=(refTo g.ts a o g.ts.length).flatMap intC) (fun r h=>h) (by simp [fd]) (by simp [hv])
   by_cases hk:o.v.kind=1
   ·simp [hk]
    refine rest _ 1280 _ (by simp) (by simp) (by simp) (by simp [histC]) (by simp) (by simp [opC,hk]) (by simp;rfl) ?_ (by simp) (by simp) (by simp)
    exact ⟨192,by simp [ofStart,hk],by simp [app_tk],by simp⟩
   ·have hkb:(o.v.kind != 1)=true:=by simp [hk]
    simp [hkb]
    refine kS_buildSl (cs:=[.int .i64 (-1)]) (by simp [splice]) rfl rfl ?_
    simp
    refine kS_appendT (f:=intC) (hi:=576) (l:=[]) (a:=-1) (v:=.sl (some (192,1)) false 0 []) ⟨192,rfl,by simp [app_tk],by omega⟩ (by simp) (by simp [slCells,intC]) intC_len (by decide) rfl (by simp) (by simp) (fun del hdel=>?_)
    simp
    refine rest _ 1280 _ (by simp) (by simp) (by simp) (by simp [histC]) (by simp) (by simp [opC]) (by simp;rfl) ?_ (by simp) (by simp) (by simp)
    exact ⟨1792,by simp [ofStart,hk],by simp [app_tk],by simp⟩
  ·simp
   exact slE (t:=some (192,1)) (nl:=false) (k:=0) (cs:=[]) (fun r h=>h) (by simp) (by simp)
end Go.Pv.T

/- Whole histories; comparing lists. -/
namespace Go.Pv.T
open Go Go.Pv
theorem retSl {ub:Nat} {v:V} {nl:Bool} {n:Nat} {cs:List V} {K:Delta→Prop} (hv:SlR v nl n cs) (h:∀ t add,K { v:=.sl t nl n cs,add:=add }):wpD (retA ub v) K:=by
 obtain ⟨t,add,hr⟩:=retA_sl (ub:=ub) hv
 rw [hr,wpD_some]
 exact h t add
theorem ev26 {a b:Bool} (l m:List Int) (hl:l.length≤1000000000) (hm:m.length≤1000000000):Ev E 26 [slOf a intC l,slOf b intC m] (.bool (l == m)):=by
 refine Ev_wpK (af:=F26) rfl ?_
 have il:∀ (l:List Int) (i:Nat) (h:i<l.length),(l.flatMap intC)[i]? = some (.int .i64 l[i]):=fun l i h=>by
  have:=fld_at intC_len l h (by decide:0<1)
  rw [Nat.mul_one,Nat.add_zero] at this
  rw [this];rfl
 by_cases hlm:l.length=m.length
 ·simp [F26,hlm]
  refine wp_loopUp [(4,5),(11,40)] l.length (fun i s=>s.tm 5 = .int .i64 i∧l.take i=m.take i) rfl rfl ⟨by simp,by simp⟩ ?_
  rintro i s hi ⟨h5,hT⟩ f
  have f0:s.tm 0=slOf a intC l:=by rw [f.t 0 (by simp)];simp
  have f1:s.tm 1=slOf b intC m:=by rw [f.t 1 (by simp)];simp
  have fd:s.df=[]:=by rw [f.d];simp
  clear f
  by_cases hlt:i<l.length
  ·have hw:=wrapU hlt (by omega)
   have hlt2:i<m.length:=by omega
   have h1:=il l i hlt
   have h2:=il m i hlt2
   cases hne:(l[i] != m[i])
   ·have he:l[i]=m[i]:=by simpa using hne
    simp [h5,f0,f1,hlt,hlt2,idx_slOf intC_len,h1,h2,hne,hw]
    rw [List.take_succ_eq_append_getElem hlt,List.take_succ_eq_append_getElem hlt2,hT,he]
   ·have hn:l[i]≠m[i]:=by simpa using hne
    simp [h5,f0,f1,hlt,hlt2,idx_slOf intC_len,h1,h2,hne]
    refine endV_1 (by simp [fd]) ?_ rfl
    have:(l == m)=false:=by
     rw [beq_eq_false_iff_ne]
     intro e
     subst e
     exact hn rfl
    simp [this]
  ·have:i=l.length:=by omega
   subst this
   simp [h5,f0]
   refine endV_1 (by simp [fd]) ?_ rfl
   have:l=m:=by rw [List.take_length,hlm,List.take_length] at hT;exact hT
   simp [this]
 ·have hne:((l.length:Int) != m.length)=true:=by simp;omega
  simp [F26,hne]
  refine endV_1 (by simp) ?_ rfl
  have:(l == m)=false:=by
   rw [beq_eq_false_iff_ne]
   intro e
   subst e
   exact hlm rfl
  simp [this]
end Go.Pv.T

/- Lists: whether a number is in one, where; the same places; what is committed. -/
namespace Go.Pv.T
open Go Go.Pv
end Go.Pv.T

/- Reads that see what others wrote. -/
namespace Go.Pv.T
open Go Go.Pv
end Go.Pv.T

/- Reads that see what others wrote: the reference's own, and both Outers. -/
namespace Go.Pv.T
open Go Go.Pv
def ownAt (g:Hist') (a b:Int):Val' × Bool:=match opAt g a b with
 | some o=>rawTo o.key (g.ts.getD a.toNat ⟨0,0,true,[]⟩).ops b.toNat
 | none=>(⟨0,0⟩,false)
def outerB (g:Hist') (a b:Int):Bool:=match opAt g a b with
 | some o=>!o.w && !(ownAt g a b).2
 | none=>false
end Go.Pv.T

/- Reads that see what others wrote: the given Outer. -/
namespace Go.Pv.T
open Go Go.Pv
end Go.Pv.T

/- The reads that count: the reference's list. -/
namespace Go.Pv.T
open Go Go.Pv
end Go.Pv.T

/- The reads that count: the given list. -/
namespace Go.Pv.T
open Go Go.Pv
end Go.Pv.T

/- The reads that count: the given list's walk. -/
namespace Go.Pv.T
open Go Go.Pv
end Go.Pv.T

/- The choices: lists of lists. -/
namespace Go.Pv.T
open Go Go.Pv
section
variable {E:Env} {st:St} {ub:Nat} {K:List FP→St→Prop} {d:Option Nat} {nm:Bool} {r:List AOpr}
end
def lstC (x:Bool × List Int):List V:=[.sl none x.1 x.2.length (x.2.flatMap intC)]
@[simp] theorem lstC_len (x:Bool × List Int):(lstC x).length=1:=rfl
end Go.Pv.T

/- Bad reads of a transaction: the given list. -/
namespace Go.Pv.T
open Go Go.Pv
def badO (ops:List Op') (k:Nat) (o:Op'):Bool:=!o.w && ((o.v.kind != 2) && ((rawTo o.key ops k).2 && !(((rawTo o.key ops k).1.kind == o.v.kind) && ((rawTo o.key ops k).1.n == o.v.n))))
def badTo (ops:List Op'):Nat→List Int
 | 0=>[]
 | k+1=>badTo ops k++(match ops[k]? with | some o=>if badO ops k o then [(k:Int)] else [] | none=>[])
def badH (g:Hist') (i:Int):List Int:=badTo (opsAt g i).2 (opsAt g i).2.length
end Go.Pv.T

/- Bad reads of a transaction: the reference. -/
namespace Go.Pv.T
open Go Go.Pv
end Go.Pv.T

/- The knower: what it has learned; learning. -/
namespace Go.Pv.T
open Go Go.Pv
structure KnS where
 m:List (Int × Int)
 n:List (Int × Int)
 hop:Bool
 more:Bool
structure Kn (g:Hist') (uK um un:Nat) (s:KnS) (ob:Nat→Option Obj') (ub:Nat):Prop where
 lt:um<un∧un<uK∧uK<ub
 k:ob (2 * uK+1)=some ⟨uK,.cells [slOf g.sn strC g.ss,slOf g.kn strC g.ks,slOf g.tn txnC g.ts,.map (2 * um+1) um,.map (2 * un+1) un,.bool s.hop,.bool s.more]⟩
 m:∃ ver,ob (2 * um+1)=some ⟨um,.mp ver (MP intV s.m)⟩
 n:∃ ver,ob (2 * un+1)=some ⟨un,.mp ver (MP intV s.n)⟩
def KnP (g:Hist') (uK um un:Nat) (s':KnS) (ob:Nat→Option Obj') (ub:Nat) (r:V × (Nat→Option Obj') × (Nat→Bool) × Nat):Prop :=
 Kn g uK um un s' r.2.1 r.2.2.2∧(∀ key,key≠2 * uK+1→key≠2 * um+1→key≠2 * un+1→(∀ m,ub≤m→key≠2 * m+1)→r.2.1 key=ob key)∧ub≤r.2.2.2
def KnS.learnM (s:KnS) (t:Int):KnS:=if mcnt s.m t=0 then { s with m:=mset s.m t 1,more:=true } else s
def KnS.learnN (s:KnS) (t:Int):KnS:=if mcnt s.n t=0 then { s with n:=mset s.n t 1,more:=true } else s
end Go.Pv.T

/- The knower: a transaction can't have committed. -/
namespace Go.Pv.T
open Go Go.Pv
def KnS.fails (s:KnS) (f:Int) (t:Int):KnS:=if f=1 then { s with hop:=true } else if f=3 then s.learnN t else s
theorem KnP.mono {g:Hist'} {uK um un:Nat} {s':KnS} {ob ob1:Nat→Option Obj'} {ub ub1:Nat} {r:V × (Nat→Option Obj') × (Nat→Bool) × Nat} (h:KnP g uK um un s' ob1 ub1 r)
 (ho:∀ key,key≠2 * uK+1→key≠2 * um+1→key≠2 * un+1→(∀ m,ub≤m→key≠2 * m+1)→ob1 key=ob key) (hu:ub≤ub1):KnP g uK um un s' ob ub r :=
 ⟨h.1,fun key h1 h2 h3 h4=>(h.2.1 key h1 h2 h3 (fun m hm=>h4 m (by omega))).trans (ho key h1 h2 h3 h4),Nat.le_trans hu h.2.2⟩
theorem Kn.up {g:Hist'} {uK um un:Nat} {s:KnS} {ob ob1:Nat→Option Obj'} {ub ub1:Nat} (h:Kn g uK um un s ob ub) (ho:ob1=ob) (hu:ub≤ub1):Kn g uK um un s ob1 ub1 :=
 ⟨⟨h.lt.1,h.lt.2.1,Nat.lt_of_lt_of_le h.lt.2.2 hu⟩,by rw [ho];exact h.k,by rw [ho];exact h.m,by rw [ho];exact h.n⟩
end Go.Pv.T

/- The knower: who is left; deleting from a slice. -/
namespace Go.Pv.T
open Go Go.Pv
def OwnI (ob:Nat→Option Obj') (v:V) (l:List Int):Prop:=(v = .sl none true 0 []∧l=[])∨∃ L u cs,v = .osl L u 0 l.length 1∧ob L=some ⟨u,.cells cs⟩∧l.length≤cs.length∧cs.take l.length=l.flatMap intC
theorem OwnI.at {l:List Int} {cs:List V} (ht:cs.take l.length=l.flatMap intC) {i:Nat} (h:i<l.length):cs[i]? = some (.int .i64 l[i]):=by
 have h1:=int_at l h
 rw [← ht,List.getElem?_take_of_lt h] at h1
 exact h1
end Go.Pv.T

/- slices.DeleteFunc on numbers of one's own. -/
namespace Go.Pv.T
open Go Go.Pv
theorem kS_clear {E:Env} {Yf:YF} {st:St} {ub:Nat} {K:St→Nat→Prop} {d:Option Nat} {nm:Bool} {sz l u off n:Nat} {zero cs:List V} {x:A} (hx:eval E st.tm x = .osl l u off n sz) (ho:st.ob l=some ⟨u,.cells cs⟩) (hro:st.ro≤u) (hz:zero.length=sz) (hn:off+n * sz≤cs.length)
 (h:kApp K st d ub { v:=none',obs:=[(l,⟨u,.cells (splice cs off (repl n zero))⟩)] }):wpStep E Yf ⟨d,.clear sz zero x,none,nm⟩ st ub K:=by
 have hoc:objCells st.ob l u=some cs:=by simp [objCells,ho]
 rw [wpStep_of _ rfl rfl]
 simp only [aop,hx]
 rw [if_pos ⟨Nat.ble_eq ▸ hro,trivial,hz⟩,hoc,Option.bind_some,if_pos hn,wpD_some]
 exact h
end Go.Pv.T

/- The knower: what a transaction tells. -/
namespace Go.Pv.T
open Go Go.Pv
def KnS.left (s:KnS) (g:Hist') (a b:Int):List Int:=(ofH g a b).filter fun t=>!decide (0<mcnt s.n t)
def KnS.op (s:KnS) (g:Hist') (f:Int) (t k:Nat) (o:Op'):KnS :=
 if o.v.kind == 2 || !outerB g t k then s else
 if (s.left g t k).length=0 then s.fails f t else
 if (s.left g t k).length == 1 && (decide (0≤(s.left g t k).headD 0) && decide (0<mcnt s.m t)) then s.learnM ((s.left g t k).headD 0) else s
def KnS.ops (s:KnS) (g:Hist') (f:Int) (t:Nat) (l:List Op'):Nat→KnS
 | 0=>s
 | k+1=>match l[k]? with
  | some o=>(s.ops g f t l k).op g f t k o
  | none=>s.ops g f t l k
def KnS.txn (s:KnS) (g:Hist') (t:Nat) (f:Int) (l:List Op'):KnS:=(if (badH g t).isEmpty then s else s.fails f t).ops g f t l l.length
theorem Kn.keep {g:Hist'} {uK um un:Nat} {s:KnS} {ob ob1:Nat→Option Obj'} {ub ub1:Nat} (h:Kn g uK um un s ob ub) (ho:∀ key,(∀ m,ub≤m→key≠2 * m+1)→ob1 key=ob key) (hu:ub≤ub1):Kn g uK um un s ob1 ub1:=by
 obtain ⟨⟨l1,l2,l3⟩,hk,⟨vm,hm⟩,⟨vn,hn⟩⟩:=h
 exact ⟨⟨l1,l2,by omega⟩,(ho _ fun m h e=>by omega).trans hk,⟨vm,(ho _ fun m h e=>by omega).trans hm⟩,⟨vn,(ho _ fun m h e=>by omega).trans hn⟩⟩
def Aside (uK um un:Nat) (ob:Nat→Option Obj') (ub:Nat) (ob1:Nat→Option Obj'):Prop:=∀ key,key≠2 * uK+1→key≠2 * um+1→key≠2 * un+1→(∀ m,ub≤m→key≠2 * m+1)→ob1 key=ob key
theorem Aside.trans {uK um un:Nat} {ob ob1 ob2:Nat→Option Obj'} {ub ub1:Nat} (h:Aside uK um un ob ub ob1) (h':Aside uK um un ob1 ub1 ob2) (hu:ub≤ub1):Aside uK um un ob ub ob2 :=
 fun key h1 h2 h3 h4=>(h' key h1 h2 h3 fun m hm=>h4 m (by omega)).trans (h key h1 h2 h3 h4)
theorem Aside.new {uK um un:Nat} {ob ob1:Nat→Option Obj'} {ub:Nat} (h:∀ key,(∀ m,ub≤m→key≠2 * m+1)→ob1 key=ob key):Aside uK um un ob ub ob1:=fun key _ _ _ h4=>h key h4
end Go.Pv.T

/- The choices: the given list of lists. -/
namespace Go.Pv.T
open Go Go.Pv
end Go.Pv.T

/- The choices: the reference's list of lists. -/
namespace Go.Pv.T
open Go Go.Pv
end Go.Pv.T

/- Whether a list is a map: the reference. -/
namespace Go.Pv.T
open Go Go.Pv
theorem ofH_len {g:Hist'} (hm:mayH g=true) (a b:Int):(ofH g a b).length≤41:=by
 unfold ofH
 split
 ·split
  ·simp
  ·exact ofL_len (may_ts hm) a _
 ·simp
end Go.Pv.T

/- The knower: who is left. -/
namespace Go.Pv.T
open Go Go.Pv
theorem kD_own {st:St} {ub:Nat} {K:List FP→St→Prop} {d:Option Nat} {nm:Bool} {r:List AOpr} {f:FuncId} {xs:List A} {vs args':List V} {v:V} {δ:Delta} (hx:xs.map (eval E st.tm)=vs) (hs:E.sh nm f=true) (htw:E.tw f=true)
 (ha:vs.mapM (frzTop st.ob)=some args') (hev:Ev E f args' v) (hδ:thawD (objName d nm st.fb ub) ub v=some δ)
 (h:wpDraw E r (st.app d δ) (ub+64) (kFp { wo:=δ.wo,all:=true,seen:=fun l=>(st.ob l).isSome,nw:=true } K)):wpDraw E (⟨d,.call f xs,none,nm⟩::r) st ub K:=by
 have hsh:sharedCall E nm (eval E st.tm) (.call f xs)=some (f,vs):=by simp only [sharedCall,hs,hx,Bool.not_true,Bool.false_and,Bool.false_eq_true,if_false]
 simp only [wpDraw,wanted,hsh]
 exact .inr ⟨hs,htw,args',v,ha,hev,δ,by rw [name_eq'];exact hδ,h⟩
where
 name_eq':∀ {d:Option Nat} {op:AOp} {nm:Bool} {fb ub:Nat},AOpr.name ⟨d,op,none,nm⟩ fb ub=objName d nm fb ub:=by
  intro d op nm fb ub;cases nm <;> rfl
end Go.Pv.T

/- The knower: what is known; plain. -/
namespace Go.Pv.T
open Go Go.Pv
def KnS.init (g:Hist'):Nat→KnS
 | 0=>⟨[],[],false,true⟩
 | i+1=>match g.ts[i]? with
  | some t=>if t.f=1 then { KnS.init g i with m:=mset (KnS.init g i).m i 1 } else if t.f=2 then { KnS.init g i with n:=mset (KnS.init g i).n i 1 } else KnS.init g i
  | none=>KnS.init g i
def KnS.round (s:KnS) (g:Hist'):Nat→KnS
 | 0=>{ s with more:=false }
 | i+1=>match g.ts[i]? with
  | some t=>(s.round g i).txn g i t.f t.ops
  | none=>s.round g i
def KnS.iter (g:Hist'):Nat→KnS→KnS
 | 0,s=>s
 | k+1,s=>if s.more then KnS.iter g k (s.round g g.ts.length) else s
def KnS.both (s:KnS) (i:Int):Bool:=decide (0<mcnt s.m i) && decide (0<mcnt s.n i)
def KnS.hopTo (s:KnS):Nat→Bool
 | 0=>s.hop
 | i+1=>s.hopTo i || s.both i
def KnS.known (g:Hist'):KnS:=let s:=KnS.iter g (2 * g.ts.length+1) (KnS.init g g.ts.length);{ s with hop:=s.hopTo g.ts.length }
theorem mcnt_init (g:Hist'):∀ (i:Nat) (j:Int),(i:Int)≤j→mcnt (KnS.init g i).m j=0∧mcnt (KnS.init g i).n j=0
 | 0,j,_=>⟨rfl,rfl⟩
 | i+1,j,h=>by
  have ih:=mcnt_init g i j (by omega)
  simp only [KnS.init]
  split
  ·split
   ·simp only [mcnt_set]
    rw [if_neg (by omega)]
    exact ih
   ·split
    ·simp only [mcnt_set]
     rw [if_neg (by omega)]
     exact ih
    ·exact ih
  ·exact ih
def freeM (m:List (Int × Int)):Nat→Nat
 | 0=>0
 | i+1=>freeM m i+if mcnt m i=0 then 1 else 0
theorem freeM_set {m:List (Int × Int)} {t:Int} (h0:mcnt m t=0):∀ n:Nat,(freeM (mset m t 1) n≤freeM m n)∧(0≤t→t<n→freeM (mset m t 1) n+1≤freeM m n)
 | 0=>⟨Nat.le_refl _,fun h1 h2=>by omega⟩
 | i+1=>by
  have ih:=freeM_set h0 i
  simp only [freeM,mcnt_set]
  by_cases hit:(i:Int)=t
  ·rw [if_pos hit,hit,if_pos h0,if_neg (by decide)]
   exact ⟨by omega,fun _ _=>by omega⟩
  ·rw [if_neg hit]
   refine ⟨by omega,fun h1 h2=>?_⟩
   have:=ih.2 h1 (by omega)
   omega
def KnS.free (s:KnS) (n:Nat):Nat:=freeM s.m n+freeM s.n n
def Less (n:Nat) (s s':KnS):Prop:=s'.free n≤s.free n∧(s'.more=true→s.more=true∨s'.free n+1≤s.free n)∧(s.more=true→s'.more=true)
theorem Less.rfl' (n:Nat) (s:KnS):Less n s s:=⟨Nat.le_refl _,fun h=>.inl h,fun h=>h⟩
theorem Less.trans {n:Nat} {a b c:KnS} (h:Less n a b) (h':Less n b c):Less n a c :=
 ⟨Nat.le_trans h'.1 h.1,fun hm=>by
  rcases h'.2.1 hm with h1 | h1
  ·rcases h.2.1 h1 with h2 | h2
   ·exact .inl h2
   ·exact .inr (by have:=h'.1;omega)
  ·exact .inr (by have:=h.1;omega),fun hm=>h'.2.2 (h.2.2 hm)⟩
theorem Less.learnM {n:Nat} {s:KnS} {t:Int} (h1:0≤t) (h2:t<n):Less n s (s.learnM t):=by
 unfold KnS.learnM
 split
 ·rename_i h0
  have:=freeM_set h0 n
  have:=this.2 h1 h2
  exact ⟨by simp only [KnS.free];omega,fun _=>.inr (by simp only [KnS.free];omega),fun _=>rfl⟩
 ·exact .rfl' n s
theorem Less.learnN {n:Nat} {s:KnS} {t:Int} (h1:0≤t) (h2:t<n):Less n s (s.learnN t):=by
 unfold KnS.learnN
 split
 ·rename_i h0
  have:=freeM_set h0 n
  have:=this.2 h1 h2
  exact ⟨by simp only [KnS.free];omega,fun _=>.inr (by simp only [KnS.free];omega),fun _=>rfl⟩
 ·exact .rfl' n s
theorem Less.fails {n:Nat} {s:KnS} {f t:Int} (h1:0≤t) (h2:t<n):Less n s (s.fails f t):=by
 unfold KnS.fails
 split
 ·exact ⟨Nat.le_refl _,fun h=>.inl h,fun h=>h⟩
 ·split
  ·exact .learnN h1 h2
  ·exact .rfl' n s
theorem ofH_lt {g:Hist'} {a b x:Int} (h:x∈ofH g a b):x<g.ts.length:=by
 unfold ofH at h
 split at h
 ·split at h
  ·simp at h
  ·rename_i o _ _
   unfold ofL ofStart at h
   rcases List.mem_append.1 h with h | h
   ·split at h
    ·simp at h
    ·simp at h;omega
   ·have:=numsTo_lt (p:=wrB o.key) (ts:=g.ts) g.ts.length (Nat.le_refl _)
    exact (this.1 x (List.mem_filter.1 h).1).2
 ·simp at h
theorem Less.op {g:Hist'} {s:KnS} {f:Int} {t k:Nat} {o:Op'} (ht:t<g.ts.length):Less g.ts.length s (s.op g f t k o):=by
 unfold KnS.op
 split
 ·exact .rfl' _ s
 ·split
  ·exact .fails (by omega) (by omega)
  ·rename_i h0
   split
   ·rename_i h1
    simp only [Bool.and_eq_true,decide_eq_true_eq] at h1
    refine .learnM h1.2.1 ?_
    cases hl:s.left g t k with
    | nil=>rw [hl] at h0;simp at h0
    | cons x r =>
     have hm:x∈s.left g t k:=by rw [hl];exact List.mem_cons_self ..
     exact ofH_lt (List.mem_filter.1 hm).1
   ·exact .rfl' _ s
theorem Less.ops {g:Hist'} {s:KnS} {f:Int} {t:Nat} {l:List Op'} (ht:t<g.ts.length):∀ k,Less g.ts.length s (s.ops g f t l k)
 | 0=>.rfl' _ s
 | k+1=>by
  simp only [KnS.ops]
  split
  ·exact (Less.ops ht k).trans (.op ht)
  ·exact Less.ops ht k
theorem Less.txn {g:Hist'} {s:KnS} {f:Int} {t:Nat} {l:List Op'} (ht:t<g.ts.length):Less g.ts.length s (s.txn g t f l):=by
 unfold KnS.txn
 refine Less.trans ?_ (.ops ht _)
 split
 ·exact .rfl' _ s
 ·exact .fails (by omega) (by omega)
theorem Less.round {g:Hist'} {s:KnS}:∀ i,i≤g.ts.length→Less g.ts.length { s with more:=false } (s.round g i)
 | 0,_=>.rfl' _ _
 | i+1,h=>by
  simp only [KnS.round,List.getElem?_eq_getElem (show i<g.ts.length by omega)]
  exact (Less.round i (by omega)).trans (.txn (by omega))
end Go.Pv.T

/- The knower: what is known. -/
namespace Go.Pv.T
open Go Go.Pv
structure KnRun (g:Hist') (ub:Nat) (ob:Nat→Option Obj') (ro:Nat) (uK um un:Nat) (s:KnS) (st:St):Prop where
 kn:Kn g uK um un s st.ob st.nx
 t1:st.tm 1 = .ptr (2 * ub+1) ub 0
 t3:st.tm 3 = .ptr (2 * uK+1) uK 0
 df:st.df=[]
 ro:st.ro=ro
 h:st.ob (2 * ub+1)=some ⟨ub,.cells (histC g)⟩
 old:∀ key,(∀ m,ub≤m→key≠2 * m+1)→st.ob key=ob key
theorem KnRun.up {g:Hist'} {ub:Nat} {ob:Nat→Option Obj'} {ro uK um un:Nat} {s:KnS} {st st':St} (k:KnRun g ub ob ro uK um un s st) (ho:st'.ob=st.ob) (hn:st.nx≤st'.nx) (h1:st'.tm 1=st.tm 1) (h3:st'.tm 3=st.tm 3) (hd:st'.df=st.df) (hr:st'.ro=st.ro):KnRun g ub ob ro uK um un s st' :=
 ⟨k.kn.up ho hn,h1.trans k.t1,h3.trans k.t3,hd.trans k.df,hr.trans k.ro,by rw [ho];exact k.h,by rw [ho];exact k.old⟩
end Go.Pv.T

/- Infos as a list that may be made one's own. -/
namespace Go.Pv.T
open Go Go.Pv
end Go.Pv.T

/- The knower: what of the infos is known (an observer). -/
namespace Go.Pv.T
open Go Go.Pv
end Go.Pv.T

/- Several results, some of them slices; slices that are made; a copy of numbers. -/
namespace Go.Pv.T
open Go Go.Pv
def OutOk (st:St) (v w:V):Prop:=∀ keep i,∃ a,outTop st keep i v=some a∧a.strip1=w∧(a.toks=[]∨a.toks=[i])
def OutAll (st:St):List V→List V→Prop
 | [],[]=>True
 | v::vs,w::ws=>OutOk st v w∧OutAll st vs ws
 | _,_=>False
theorem outTops_ok {st:St} {keep:Bool}:∀ {vs ls:List V} {i:Nat},OutAll st vs ls→∃ as1,outTops st keep i vs=some as1∧as1.map V.strip1=ls∧(∀ p∈as1.flatMap V.toks,i≤p∧p<i+16 * vs.length)∧nodup (as1.flatMap V.toks)=true
 | [],[],i,_=>⟨[],rfl,rfl,by simp,rfl⟩
 | v::vs,w::ws,i,h=>by
  obtain ⟨a,h1,h2,h3⟩:=h.1 keep i
  obtain ⟨as1,k1,k2,k3,k4⟩:=outTops_ok (keep:=keep) (i:=i+16) h.2
  refine ⟨a::as1,by simp only [outTops,h1,Option.bind_some,k1,Option.map_some],by rw [List.map_cons,h2,k2],fun p hp=>?_,?_⟩
  ·rw [List.flatMap_cons,List.mem_append] at hp
   simp only [List.length_cons]
   rcases hp with hp | hp
   ·rcases h3 with h3 | h3 <;> rw [h3] at hp <;> simp at hp
    omega
   ·have:=k3 p hp;omega
  ·rw [List.flatMap_cons]
   rcases h3 with h3 | h3 <;> rw [h3]
   ·exact k4
   ·simp only [List.singleton_append,nodup,Bool.and_eq_true,k4,and_true,Bool.not_eq_true']
    rw [Bool.eq_false_iff]
    intro hc
    obtain ⟨p,hp,he⟩:=List.any_eq_true.1 hc
    have:=Nat.eq_of_beq_eq_true he
    have:=k3 p hp
    omega
 | [],_::_,_,h=>h.elim
 | _::_,[],_,h=>h.elim
section
variable {E:Env} {Yf:YF} {st:St} {ub:Nat} {K:St→Nat→Prop} {d:Option Nat} {nm:Bool}
end
def Upto (n i:Nat) (J:List Int) (cs:List V):Prop:=cs.length=n∧(∀ j,j<i→cs[j]? = (J.flatMap intC)[j]?)∧cs.all V.pureLeaf=true
theorem Upto.set {n i:Nat} {J:List Int} {cs:List V} (h:Upto n i J cs) (hi:i<n) {x:Int} (hx:J[i]? = some x):Upto n (i+1) J (splice cs i [.int .i64 x]):=by
 obtain ⟨h1,h2,h3⟩:=h
 have hs:splice cs i [.int .i64 x]=cs.set i (.int .i64 x):=by
  unfold splice
  rw [List.set_eq_take_append_cons_drop,if_pos (by omega),List.append_assoc]
  rfl
 rw [hs]
 refine ⟨by rw [List.length_set];exact h1,fun j hj=>?_,?_⟩
 ·by_cases hji:j=i
  ·subst hji
   have hJ:=(List.getElem?_eq_some_iff.1 hx)
   rw [List.getElem?_set_self (by omega),int_at J hJ.1,hJ.2]
  ·rw [List.getElem?_set_ne (fun e=>hji e.symm)]
   exact h2 j (by omega)
 ·refine List.all_eq_true.2 fun y hy=>?_
  rcases List.mem_or_eq_of_mem_set hy with hy | rfl
  ·exact List.all_eq_true.1 h3 y hy
  ·rfl
theorem Upto.whole {n:Nat} {J:List Int} {cs:List V} (h:Upto n n J cs) (hJ:J.length=n):cs=J.flatMap intC:=by
 apply List.ext_getElem?
 intro j
 by_cases hj:j<n
 ·exact h.2.1 j hj
 ·rw [List.getElem?_eq_none (by rw [h.1];omega),List.getElem?_eq_none (by rw [flatMap_len intC_len];omega)]
theorem Upto.zero (n:Nat) (J:List Int):Upto n 0 J (repl n [.int .i64 0]):=by
 refine ⟨by simp [repl],fun j hj=>by omega,?_⟩
 refine List.all_eq_true.2 fun y hy=>?_
 simp only [repl,List.mem_map] at hy
 obtain ⟨i,_,rfl⟩:=hy
 simp [V.pureLeaf,Nat.mod_one]
end Go.Pv.T

/- Must, as it is given. -/
namespace Go.Pv.T
open Go Go.Pv
end Go.Pv.T

/- Against, as it is given. -/
namespace Go.Pv.T
open Go Go.Pv
def blC (b:Bool):List V:=[.bool b]
@[simp] theorem blC_len (b:Bool):(blC b).length=1:=rfl
end Go.Pv.T

/- Lists of values: the same; the reference's sorting. -/
namespace Go.Pv.T
open Go Go.Pv
@[simp] theorem valC_len (v:Val'):(valC v).length=2:=rfl
theorem val_eq (a b:Val'):(a == b)=(a.kind == b.kind && a.n == b.n):=by
 obtain ⟨a1,a2⟩:=a
 obtain ⟨b1,b2⟩:=b
 rw [Bool.eq_iff_iff]
 simp
theorem load_val (ob:Nat→Option Obj') (l:List Val') {i:Nat} (h:i<l.length):loadV ob (some 2) (.eptr (l.flatMap valC) (i * 2))=some (.agg (valC l[i])):=load_slOf valC_len ob l h
theorem ev29 {a b:Bool} (l m:List Val') (hl:l.length≤1000000000) (hm:m.length≤1000000000):Ev E 29 [slOf a valC l,slOf b valC m] (.bool (l == m)):=by
 refine Ev_wpK (af:=F29) rfl ?_
 by_cases hlm:l.length=m.length
 ·simp [F29,hlm]
  refine wp_loopUp [(4,5),(11,40)] l.length (fun i s=>s.tm 5 = .int .i64 i∧l.take i=m.take i) rfl rfl ⟨by simp,by simp⟩ ?_
  rintro i s hi ⟨h5,hT⟩ f
  have f0:s.tm 0=slOf a valC l:=by rw [f.t 0 (by simp)];simp
  have f1:s.tm 1=slOf b valC m:=by rw [f.t 1 (by simp)];simp
  have fd:s.df=[]:=by rw [f.d];simp
  clear f
  by_cases hlt:i<l.length
  ·have hw:=wrapU hlt (by omega)
   have hlt2:i<m.length:=by omega
   have h1:=load_val s.ob l hlt
   have h2:=load_val s.ob m hlt2
   have hT':l.take (i+1)=m.take (i+1) ↔ l[i]=m[i]:=by
    rw [List.take_succ_eq_append_getElem hlt,List.take_succ_eq_append_getElem hlt2,hT]
    exact ⟨fun h=>by have:=List.append_cancel_left h;simpa using this,fun h=>by rw [h]⟩
   have hne:l[i]≠m[i]→(l == m)=false:=fun hn=>by
    rw [beq_eq_false_iff_ne]
    intro e
    subst e
    exact hn rfl
   generalize l[i]=x at *
   generalize m[i]=y at *
   cases hq:(x == y)
   ·have hn:x≠y:=by simpa using hq
    rw [val_eq] at hq
    simp [h5,f0,f1,hlt,hlt2,idx_slOf valC_len,h1,h2]
    simp [valC,hq]
    refine endV_1 (by simp [fd]) ?_ rfl
    simp [hne hn]
   ·have he:x=y:=by simpa using hq
    rw [val_eq] at hq
    simp [h5,f0,f1,hlt,hlt2,idx_slOf valC_len,h1,h2]
    simp [valC,hq,h5,hw]
    exact ⟨hlt,hT'.2 he⟩
  ·have:i=l.length:=by omega
   subst this
   simp [h5,f0]
   refine endV_1 (by simp [fd]) ?_ rfl
   have:l=m:=by rw [List.take_length,hlm,List.take_length] at hT;exact hT
   simp [this]
 ·have hne:((l.length:Int) != m.length)=true:=by simp;omega
  simp [F29,hne]
  refine endV_1 (by simp) ?_ rfl
  have:(l == m)=false:=by
   rw [beq_eq_false_iff_ne]
   intro e
   exact hlm (by rw [e])
  simp [this]
theorem ev125 (a b:Val'):Ev E 125 [.agg (valC a),.agg (valC b)] (.bool (lessV a b)):=by
 refine Ev_wpK (af:=F125) rfl ?_
 unfold lessV
 by_cases hk:a.kind=b.kind
 ·by_cases h1:b.kind=1
  ·simp [F125,valC,objCells,hk,h1]
   exact endV_1 rfl (by simp) rfl
  ·have h1':(b.kind == 1)=false:=by simpa using h1
   simp [F125,valC,objCells,hk,h1,h1']
   exact endV_1 rfl (by simp) rfl
 ·have hk':(a.kind != b.kind)=true:=by simpa using hk
  simp [F125,valC,objCells,hk,hk']
  exact endV_1 rfl (by simp) rfl
def posV (v:Val'):List Val'→Nat
 | []=>0
 | x::l=>if lessV x v then posV v l+1 else 0
def insV (l:List Val') (v:Val'):List Val':=if l[posV v l]? = some v then l else l.take (posV v l)++v::l.drop (posV v l)
def sortV (l:List Val'):List Val':=(l.filter valB).foldl insV []
end Go.Pv.T

/- Where each member of a map stands: wr.places. -/
namespace Go.Pv.T
open Go Go.Pv
end Go.Pv.T

/- Whether a list is a map: the given answer is the reference's. -/
namespace Go.Pv.T
open Go Go.Pv
end Go.Pv.T

/- WrTells, but for its fixed example. -/
namespace Go.Pv.T
open Go Go.Pv
@[simp] theorem eqVV_bool (ob:Nat→Option Obj') (neg a b:Bool):eqVV ob neg .bool (.bool a) (.bool b)=some (.bool (xor neg (a == b))):=rfl
theorem retHist {ub:Nat} {r:V} {g:Hist'} {K:Delta→Prop} (h:HistR r g)
 (hK:∀ a b c add,K { v:=.agg [.sl a g.sn g.ss.length (g.ss.flatMap strC),.sl b g.kn g.ks.length (g.ks.flatMap strC),.sl c g.tn g.ts.length (g.ts.flatMap txnC)],add:=add }):wpD (retA ub r) K:=by
 obtain ⟨a,b,c,add,hr⟩:=retA_hist1 (ub:=ub) h
 rw [hr,wpD_some]
 exact hK a b c add
theorem take_flat {α:Type} {f:α→List V} {k:Nat} (hf:∀ a,(f a).length=k):∀ (l:List α) (n:Nat),(l.flatMap f).take (n * k)=(l.take n).flatMap f
 | [],n=>by simp
 | a::l,0=>by simp
 | a::l,n+1=>by
  rw [List.flatMap_cons,List.take_succ_cons,List.flatMap_cons,Nat.succ_mul,Nat.add_comm,← hf a,List.take_length_add_append,hf a,take_flat hf l n]
end Go.Pv.T

/- The reference's sorting of values. -/
namespace Go.Pv.T
open Go Go.Pv
section
variable {E:Env} {st:St} {ub:Nat} {K:List FP→St→Prop} {d:Option Nat} {nm:Bool} {r:List AOpr}
theorem nbeq {a b:Nat} (h:a≠b):a.beq b=false:=by
 cases e:a.beq b
 ·rfl
 ·exact absurd (Nat.eq_of_beq_eq_true e) h
@[simp] theorem valC_strip1 (v:Val'):(valC v).map V.strip1=valC v:=rfl
theorem kD_app0 {sz bytes n:Nat} {t:Option (Nat × Nat)} {cs:List V} {s x:A} (hs:eval E st.tm s = .sl t false n cs) (hx:slCells st.ob sz (eval E st.tm x)=some []) (hl:cs.length=n * sz)
 (h:kDApp E r K (eval E st.tm) (.append false sz bytes s x) st d ub { v:=.sl t false n cs }):wpDraw E (⟨d,.append false sz bytes s x,none,nm⟩::r) st ub K:=by
 rw [wpDraw_of rfl]
 simp only [aop,hs,hx,Option.bind_some,if_true]
 rw [if_pos hl,wpD_one]
 exact h
theorem kD_appT {sz bytes u n:Nat} {cs ys:List V} {s x:A} (hs:eval E st.tm s = .sl (some (u,sz)) false n cs) (htk:st.tk u=true) (hx:slCells st.ob sz (eval E st.tm x)=some ys) (hne:ys≠[]) (hlen:cs.length=n * sz) (h0:0<sz)
 (hp:ys.all V.pureLeaf=true) (hb:(n+ys.length / sz) * bytes≤140737488355328) (hb2:n+ys.length / sz≤140737488355328) (h:kDApp E r K (eval E st.tm) (.append false sz bytes s x) st d ub { v:=.sl (some (ub,sz)) false (n+ys.length / sz) (cs++ys),del:=some u,add:=[ub] }) :
 wpDraw E (⟨d,.append false sz bytes s x,none,nm⟩::r) st ub K:=by
 rw [wpDraw_of rfl]
 simp only [aop,hs,hx,Option.bind_some,if_neg hne,Bool.false_and,Bool.false_eq_true,if_false]
 rw [if_pos ⟨hlen,h0,hp,hb,hb2⟩,if_pos (by simp [htk]),wpD_some]
 exact h
end
theorem sl_head {α:Type} {f:α→List V} {sz:Nat} (hf:∀ a,(f a).length=sz) (t:Option (Nat × Nat)) (nl:Bool) (l:List α) {k:Nat} (hk:k≤l.length):slSlV sz none (some (.int .i64 (k:Int))) (.sl t nl l.length (l.flatMap f))=some (.sl none nl (l.take k).length ((l.take k).flatMap f)):=by
 have h1:(l.take k).length=k:=by rw [List.length_take];omega
 have e:=take_flat hf l k
 have h2:(k:Int)≤l.length:=by omega
 simp [slSlV,bounds,flatMap_len hf,h1,e,h2]
theorem drop_flat {α:Type} {f:α→List V} {k:Nat} (hf:∀ a,(f a).length=k):∀ (l:List α) (n:Nat),(l.flatMap f).drop (n * k)=(l.drop n).flatMap f
 | [],n=>by simp
 | a::l,0=>by simp
 | a::l,n+1=>by
  rw [List.flatMap_cons,List.drop_succ_cons,Nat.succ_mul,Nat.add_comm,← hf a,List.drop_length_add_append,hf a,drop_flat hf l n]
theorem sl_tail {α:Type} {f:α→List V} {sz:Nat} (hf:∀ a,(f a).length=sz) (t:Option (Nat × Nat)) (nl:Bool) (l:List α) {k:Nat} (hk:k≤l.length):slSlV sz (some (.int .i64 (k:Int))) none (.sl t nl l.length (l.flatMap f))=some (.sl none nl (l.drop k).length ((l.drop k).flatMap f)):=by
 have e:=drop_flat hf l k
 have h2:(k:Int)≤l.length:=by omega
 have h3:(l.flatMap f).take (l.length * sz)=l.flatMap f:=List.take_of_length_le (by rw [flatMap_len hf];exact Nat.le_refl _)
 simp [slSlV,bounds,flatMap_len hf,e,h2,h3]
 exact hk
theorem posV_le (v:Val'):∀ l:List Val',posV v l≤l.length
 | []=>Nat.le_refl _
 | x::l=>by
  have:=posV_le v l
  simp only [posV,List.length_cons]
  split <;> omega
theorem insV_len (l:List Val') (v:Val'):(insV l v).length≤l.length+1:=by
 have:=posV_le v l
 unfold insV
 split
 ·omega
 ·simp;omega
def sortTo (l:List Val') (i:Nat):List Val':=((l.take i).filter valB).foldl insV []
theorem sortTo_succ (l:List Val') {i:Nat} (h:i<l.length):sortTo l (i+1)=if valB l[i] then insV (sortTo l i) l[i] else sortTo l i:=by
 unfold sortTo
 rw [List.take_succ_eq_append_getElem h,List.filter_append,List.foldl_append]
 simp only [List.filter_cons,List.filter_nil]
 split <;> rfl
theorem sortTo_len (l:List Val'):∀ i,i≤l.length→(sortTo l i).length≤i
 | 0,_=>by simp [sortTo]
 | i+1,h=>by
  have ih:=sortTo_len l i (by omega)
  rw [sortTo_succ l (by omega)]
  split
  ·have:=insV_len (sortTo l i) (l[i]'(by omega))
   omega
  ·omega
theorem val_pure (l:List Val'):(l.flatMap valC).all V.pureLeaf=true:=by
 rw [List.all_eq_true]
 intro v hv
 obtain ⟨n,_,hn⟩:=List.mem_flatMap.1 hv
 simp only [valC,List.mem_cons,List.not_mem_nil,or_false] at hn
 rcases hn with rfl | rfl <;> rfl
set_option maxRecDepth 100000 in
theorem ev80 {a:Bool} (l:List Val') (hl:l.length≤100000):∃ v,Ev E 80 [slOf a valC l] v∧SlR v false (sortV l).length ((sortV l).flatMap valC):=by
 refine Ev_wpE (af:=F80) rfl (by decide) ?_
 have hfin:sortTo l l.length=sortV l:=by unfold sortTo sortV;rw [List.take_length]
 rw [← hfin]
 simp [F80]
 refine kS_buildSl (cs:=[]) rfl rfl rfl ?_
 simp
 refine wp_loopUp [(3,5),(7,65)] l.length (fun i s=>s.tm 4 = .int .i64 i∧∃ w,s.tm 3 = .sl (some (w,2)) false (sortTo l i).length ((sortTo l i).flatMap valC)∧s.tk w=true∧w<s.nx) rfl rfl
  ⟨by simp,64,by simp [sortTo],by simp [app_tk,app_tk0],by simp⟩ ?_
 rintro i s hi ⟨h4,w,h3,hw,hwn⟩ f
 have f0:s.tm 0=slOf a valC l:=by rw [f.t 0 (by simp)];simp
 have fd:s.df=[]:=by rw [f.d];simp
 clear f
 by_cases hlt:i<l.length
 ·have hwi:=wrapU hlt (by omega)
  have hst:=sortTo_succ l hlt
  have hSl:=sortTo_len l i hi
  have h1:=load_val s.ob l hlt
  generalize sortTo l i=S at *
  have e124:=ev124 l[i]
  have h1':=fun ob:Nat→Option Obj'=>load_val ob l hlt
  generalize l[i]=x at *
  simp [h4,f0,hlt,idx_slOf valC_len,h1]
  refine kS_ev e124 (by simp [valC]) rfl (by simp [valC]) ?_
  cases hb:valB x
  ·rw [hb] at hst
   simp only [Bool.false_eq_true,if_false] at hst
   simp [h4,hwi]
   rw [hst]
   exact ⟨hlt,w,h3,hw,by omega⟩
  ·rw [hb] at hst
   simp only [if_true] at hst
   simp
   generalize hKK:kBlk 2 _=KK
   have rest:∀ s1:St,s1.tm 5 = .int .i64 (posV x S:Nat)→s1.tm 3=s.tm 3→s1.tm 0=slOf a valC l→s1.tm 4 = .int .i64 i→s1.tk=s.tk→s.nx≤s1.nx→KK (.exit 2) s1:=by
    intro s1 k5 k3 k0 k4 ktk knx
    rw [← hKK]
    clear hKK
    rw [h3] at k3
    have hpl:=posV_le x S
    obtain ⟨p,hp⟩:∃ p,posV x S=p:=⟨_,rfl⟩
    rw [hp] at k5 hpl
    have hins:insV S x=if S[p]? = some x then S else S.take p++x::S.drop p:=by unfold insV;rw [hp]
    simp [k5,k3]
    generalize hK2:kSeq E noYF (C.cond (A.t 50) _ _) _=K2
    have ins:∀ (b:Bool) (s2:St),b = !decide (S[p]? = some x)→s2.tm 50 = .bool b→s2.tm 5 = .int .i64 p→s2.tm 3 = .sl (some (w,2)) false S.length (S.flatMap valC)→s2.tm 0=slOf a valC l→s2.tm 4 = .int .i64 i→s2.tk=s.tk→s.nx≤s2.nx→K2 .nrm s2:=by
     intro b s2 hb2 j50 j5 j3 j0 j4 jtk jnx
     rw [← hK2]
     clear hK2
     cases b
     ·have hin:S[p]? = some x:=by simpa using hb2
      rw [if_pos hin] at hins
      simp [j50,j4,hwi]
      rw [hst,hins]
      exact ⟨hlt,w,j3,by rw [jtk];exact hw,by omega⟩
     ·have hin:¬ S[p]? = some x:=by simpa using hb2
      rw [if_neg hin] at hins
      have hsh:=sl_head valC_len (some (w,2)) false S hpl
      have hst2:=sl_tail valC_len (some (w,2)) false S hpl
      have hlt1:(S.take p).length=p:=by rw [List.length_take];omega
      have hld1:(S.drop p).length=S.length - p:=by rw [List.length_drop]
      obtain ⟨A,hA⟩:∃ A,S.take p=A:=⟨_,rfl⟩
      obtain ⟨B,hB⟩:∃ B,S.drop p=B:=⟨_,rfl⟩
      rw [hA] at hsh hlt1 hins
      rw [hB] at hst2 hld1 hins
      have hpA:=val_pure A
      have hpB:=val_pure B
      have hAl:=flatMap_len valC_len A
      have hBl:=flatMap_len valC_len B
      have hcA:=fun ob:Nat→Option Obj'=>slCells_sl valC_len ob none false A
      have hcB:=fun ob:Nat→Option Obj'=>slCells_sl valC_len ob none false B
      have hload:=h1' s2.ob
      simp [j50]
      refine kD_buildSl (cs:=[]) rfl rfl rfl ?_
      simp [j3,j5,hsh]
      by_cases hA0:A=[]
      ·subst hA0
       refine kD_app0 (t:=some (s2.nx,2)) (n:=0) (cs:=[]) (by simp) (by simp [slCells]) rfl ?_
       simp [j0,j4,hlt,idx_slOf valC_len,hload]
       refine kD_buildSl (cs:=valC x) (by simp [splice,valC]) rfl (by simp [valC]) ?_
       simp
       refine kD_appT (u:=s2.nx) (n:=0) (cs:=[]) (ys:=valC x) (by simp) (by simp [app_tk]) (by simp [slCells]) (by simp [valC]) rfl (by decide) (by simp [valC]) (by simp) (by simp) ?_
       simp [j3,j5,hst2]
       by_cases hB0:B=[]
       ·subst hB0
        refine kD_app0 (t:=some ((s2.nx+64+64+64+64+64+64+64+64+64+64),2)) (n:=1) (cs:=valC x) (by simp) (by simp [slCells]) rfl ?_
        simp [j4,hwi]
        refine ⟨by simp [drawOk,indep,disj,fpOf,rdOb,rdTk,lOf,uOf,Delta.wo,Delta.wt];(repeat' apply And.intro) <;> exact nbeq (by omega),hlt,?_⟩
        rw [hst,hins]
        exact ⟨(s2.nx+64+64+64+64+64+64+64+64+64+64),by simp,by simp [app_tk],by omega⟩
       ·have hB1:0<B.length:=List.length_pos_iff.2 hB0
        have hBn:B.flatMap valC≠[]:=fun e=>by have:=congrArg List.length e;rw [hBl] at this;simp at this;omega
        have hBd:(B.flatMap valC).length / 2=B.length:=by rw [hBl];omega
        refine kD_appT (u:=(s2.nx+64+64+64+64+64+64+64+64+64+64)) (n:=1) (cs:=valC x) (ys:=B.flatMap valC) (by simp) (by simp [app_tk]) (by simp [hcB]) hBn rfl (by decide) hpB (by rw [hBd];omega) (by rw [hBd];omega) ?_
        rw [hBd]
        simp [j4,hwi]
        refine ⟨by simp [drawOk,indep,disj,fpOf,rdOb,rdTk,lOf,uOf,Delta.wo,Delta.wt];(repeat' apply And.intro) <;> exact nbeq (by omega),hlt,?_⟩
        rw [hst,hins]
        exact ⟨(s2.nx+64+64+64+64+64+64+64+64+64+64+64+64+64+64),by simp;omega,by simp [app_tk],by omega⟩
      ·have hA1:0<A.length:=List.length_pos_iff.2 hA0
       have hAn:A.flatMap valC≠[]:=fun e=>by have:=congrArg List.length e;rw [hAl] at this;simp at this;omega
       have hAd:(A.flatMap valC).length / 2=A.length:=by rw [hAl];omega
       refine kD_appT (u:=s2.nx) (n:=0) (cs:=[]) (ys:=A.flatMap valC) (by simp) (by simp [app_tk]) (by simp [hcA]) hAn rfl (by decide) hpA (by rw [hAd];omega) (by rw [hAd];omega) ?_
       rw [hAd]
       simp [j0,j4,hlt,idx_slOf valC_len,hload]
       refine kD_buildSl (cs:=valC x) (by simp [splice,valC]) rfl (by simp [valC]) ?_
       simp
       refine kD_appT (u:=(s2.nx+64+64+64+64)) (n:=A.length) (cs:=A.flatMap valC) (ys:=valC x) (by simp) (by simp [app_tk]) (by simp [slCells]) (by simp [valC]) hAl (by decide) (by simp [valC]) (by simp;omega) (by simp;omega) ?_
       simp [j3,j5,hst2]
       by_cases hB0:B=[]
       ·subst hB0
        refine kD_app0 (t:=some ((s2.nx+64+64+64+64+64+64+64+64+64+64),2)) (n:=A.length+1) (cs:=A.flatMap valC++valC x) (by simp) (by simp [slCells]) (by simp [hAl];omega) ?_
        simp [j4,hwi]
        refine ⟨by simp [drawOk,indep,disj,fpOf,rdOb,rdTk,lOf,uOf,Delta.wo,Delta.wt];(repeat' apply And.intro) <;> exact nbeq (by omega),hlt,?_⟩
        rw [hst,hins]
        exact ⟨(s2.nx+64+64+64+64+64+64+64+64+64+64),by simp,by simp [app_tk],by omega⟩
       ·have hB1:0<B.length:=List.length_pos_iff.2 hB0
        have hBn:B.flatMap valC≠[]:=fun e=>by have:=congrArg List.length e;rw [hBl] at this;simp at this;omega
        have hBd:(B.flatMap valC).length / 2=B.length:=by rw [hBl];omega
        refine kD_appT (u:=(s2.nx+64+64+64+64+64+64+64+64+64+64)) (n:=A.length+1) (cs:=A.flatMap valC++valC x) (ys:=B.flatMap valC) (by simp) (by simp [app_tk]) (by simp [hcB]) hBn (by simp [hAl];omega) (by decide) hpB (by rw [hBd];omega) (by rw [hBd];omega) ?_
        rw [hBd]
        simp [j4,hwi]
        refine ⟨by simp [drawOk,indep,disj,fpOf,rdOb,rdTk,lOf,uOf,Delta.wo,Delta.wt];(repeat' apply And.intro) <;> exact nbeq (by omega),hlt,?_⟩
        rw [hst,hins]
        exact ⟨(s2.nx+64+64+64+64+64+64+64+64+64+64+64+64+64+64),by simp;omega,by simp [app_tk],by omega⟩
    by_cases hps:p=S.length
    ·have hnone:S[p]? = none:=List.getElem?_eq_none (by omega)
     simp [hps]
     exact ins true _ (by rw [hnone];simp) (by simp) (by simp [k5,hps]) (by simp [k3]) (by simp [k0]) (by simp [k4]) (by simp [ktk]) (by simp;omega)
    ·have hpl2:p<S.length:=by omega
     have hps':((p:Int) == S.length)=false:=by simp;omega
     have hsome:S[p]? = some S[p]:=List.getElem?_eq_getElem hpl2
     have h2:=fun ob:Nat→Option Obj'=>load_val ob S hpl2
     have hve:=val_eq S[p] x
     have hdec:decide (some S[p]=some x)=(S[p] == x):=by rw [Bool.eq_iff_iff];simp
     rw [hsome] at ins
     rw [hdec] at ins
     generalize S[p]=y at *
     simp [hps',k3,k5,k0,k4,hpl2,hlt,idx_slT valC_len,idx_slOf valC_len,h2,h1',valC]
     exact ins _ _ rfl (by simp [hve]) (by simp [k5]) (by simp [k3]) (by simp [k0]) (by simp [k4]) (by simp [ktk]) (by simp;omega)
   refine wp_loopUp [(5,5),(19,35)] S.length (fun k s1=>s1.tm 5 = .int .i64 k∧s1.tk=s.tk∧s.nx≤s1.nx∧posV x S=k+posV x (S.drop k)) rfl rfl ⟨by simp,by simp,by simp;omega,by simp⟩ ?_
   rintro k s1 hk ⟨k5,ktk,knx,hpos⟩ f
   have k0:s1.tm 0=slOf a valC l:=by rw [f.t 0 (by simp)];simp [f0]
   have k3:s1.tm 3 = .sl (some (w,2)) false S.length (S.flatMap valC):=by rw [f.t 3 (by simp)];simp [h3]
   have k4:s1.tm 4 = .int .i64 i:=by rw [f.t 4 (by simp)];simp [h4]
   clear f
   by_cases hkl:k<S.length
   ·have hwk:=wrapU hkl (by omega)
    have h2:=fun ob:Nat→Option Obj'=>load_val ob S hkl
    have e125:=ev125 S[k] x
    have hdr:posV x (S.drop k)=if lessV S[k] x then posV x (S.drop (k+1))+1 else 0:=by
     rw [List.drop_eq_getElem_cons hkl,posV]
    generalize S[k]=y at *
    simp [k5,k3,k0,k4,hkl,hlt,idx_slT valC_len,idx_slOf valC_len,h2,h1']
    refine kD_ev e125 (by simp [valC]) rfl (by simp [valC]) ?_
    cases hls:lessV y x
    ·rw [hls] at hdr
     simp only [Bool.false_eq_true,if_false] at hdr
     have hpk:posV x S=k:=by omega
     simp
     exact rest _ (by simp [k5,hpk]) (by simp [k3,h3]) (by simp [k0]) (by simp [k4]) (by simp [ktk]) (by simp;omega)
    ·rw [hls] at hdr
     simp only [if_true] at hdr
     simp [k5,hwk,ktk]
     omega
   ·have hkS:k=S.length:=by omega
    subst hkS
    rw [List.drop_length] at hpos
    have hpk:posV x S=S.length:=by simpa [posV] using hpos
    simp [k5,k3]
    exact rest _ (by simp [hpk,k5]) (by simp [k3,h3]) (by simp [k0]) (by simp [k4]) (by simp [ktk]) (by simp;omega)
 ·have:i=l.length:=by omega
  subst this
  simp [h4,f0]
  exact slE (t:=some (w,2)) (nl:=false) (k:=(sortTo l l.length).length) (cs:=(sortTo l l.length).flatMap valC) (fun r h=>h) (by simp [fd]) (by simp [h3])
end Go.Pv.T

/- slices.Compact, of values of one's own. -/
namespace Go.Pv.T
open Go Go.Pv
theorem slSl2_from {L u n i:Nat} (h:i≤n):slSlV 2 (some (.int .i64 (i:Int))) none (.osl L u 0 n 2)=some (.osl L u (i * 2) (n - i) 2):=by
 have h':(i:Int)≤n:=by omega
 simp [slSlV,bounds,h']
 omega
theorem slSl2_to {L u n i:Nat} (h:i≤n):slSlV 2 none (some (.int .i64 (i:Int))) (.osl L u 0 n 2)=some (.osl L u 0 i 2):=by
 have h':(i:Int)≤n:=by omega
 simp [slSlV,bounds,h']
theorem idx2 {l u off n x:Nat} {kk:IntKind} {X:Int} (hX:X=(x:Nat)) (hx:x<n):idxSlV 2 (.osl l u off n 2) (.int kk X)=some (.ptr l u (off+x * 2)):=by
 subst hX
 have:(x:Int)<n:=by omega
 simp [idxSlV,this]
theorem ld2 {ob:Nat→Option Obj'} {l u:Nat} {M:List Val'} {x:Nat} (ho:ob l=some ⟨u,.cells (M.flatMap valC)⟩) (hx:x<M.length):loadV ob (some 2) (.ptr l u (x * 2))=some (.agg (valC M[x])):=by
 have h:=load_val ob M hx
 rw [← h]
 simp only [loadV,objCells,ho,if_true,Option.bind_some]
theorem st2 {M:List Val'} {x:Nat} (hx:x<M.length) (v:Val'):splice (M.flatMap valC) (x * 2) (valC v)=(M.set x v).flatMap valC:=flat_set valC_len v M x hx
def compTo (T:List Val'):Nat→List Val'
 | 0=>[]
 | j+1=>compTo T j++(if 0<j∧T[j - 1]? = T[j]? then [] else T[j]?.toList)
theorem compTo_len (T:List Val'):∀ j,j≤T.length→(compTo T j).length≤j
 | 0,_=>by simp [compTo]
 | j+1,h=>by
  have:=compTo_len T j (by omega)
  simp only [compTo,List.length_append,List.getElem?_eq_getElem (show j<T.length by omega)]
  split <;> simp <;> omega
theorem compTo_eq {T:List Val'} {j:Nat} (h0:0<j) (h:j<T.length) (he:T[j]=T[j - 1]):compTo T (j+1)=compTo T j:=by
 simp only [compTo]
 rw [if_pos ⟨h0,by rw [List.getElem?_eq_getElem (by omega),List.getElem?_eq_getElem h,he]⟩,List.append_nil]
theorem compTo_ne {T:List Val'} {j:Nat} (h:j<T.length) (he:0<j→T[j]≠T[j - 1]):compTo T (j+1)=compTo T j++[T[j]]:=by
 simp only [compTo]
 rw [if_neg,List.getElem?_eq_getElem h]
 ·rfl
 ·rintro ⟨h0,h1⟩
  rw [List.getElem?_eq_getElem (by omega),List.getElem?_eq_getElem h] at h1
  exact he h0 (Option.some.inj h1).symm
def CompP (l u n:Nat) (C:List Val') (ob:Nat→Option Obj') (tk:Nat→Bool) (ub:Nat) (r:V × (Nat→Option Obj') × (Nat→Bool) × Nat):Prop :=
 r.1 = .osl l u 0 C.length 2∧(∃ cs,r.2.1 l=some ⟨u,.cells cs⟩∧cs.length=n * 2∧C.length≤n∧cs.take (C.length * 2)=C.flatMap valC)∧(∀ key,key≠l→r.2.1 key=ob key)∧r.2.2.1=tk∧ub≤r.2.2.2
set_option maxRecDepth 100000 in
theorem sv123 {Yf:YF} {l u:Nat} {T:List Val'} (hT:T.length≤100000) {ob:Nat→Option Obj'} {tk:Nat→Bool} {ro base ub:Nat} (ho:ob l=some ⟨u,.cells (T.flatMap valC)⟩) (hro:ro≤u) :
 ∃ r,EvS E Yf.y 123 [.osl l u 0 T.length 2] ob tk ro base ub r∧CompP l u T.length (compTo T T.length) ob tk ub r:=by
 refine EvS_wp (af:=S123) rfl (by decide) ?_
 show wpC E Yf S123.body _ (kEndS S123.res _)
 have hTl:=flatMap_len valC_len T
 by_cases h2:T.length<2
 ·have hc:compTo T T.length=T:=by
   match T,h2 with
   | [],_=>rfl
   | [x],_=>rfl
   | _::_::_,h=>simp at h;omega
  have h2':(T.length:Int)<2:=by omega
  rw [hc]
  simp [S123,h2']
  exact endS_1 (by simp) ⟨by simp,⟨_,by simpa using ho,hTl,Nat.le_refl _,List.take_of_length_le (by omega)⟩,fun key h=>by simp,by simp,by simp;omega⟩
 have h2':¬ (T.length:Int)<2:=by omega
 simp [S123,h2']
 refine wp_loopUp [(2,5),(10,59)] (T.length - 1) (fun k s=>s.tm 3 = .int .i64 ((1+k:Nat):Int)∧compTo T (1+k)=T.take (1+k)∧s.ob=ob∧s.tk=tk∧ub≤s.nx) rfl rfl ⟨by simp,?_,by simp,by simp,by simp;omega⟩ ?_
 ·rw [Nat.add_zero,compTo_ne (T:=T) (j:=0) (by omega) (fun h=>absurd h (by omega)),List.take_succ_eq_append_getElem (by omega)]
  rfl
 rintro k s hk ⟨h3,hct,hob,hst,hnx⟩ f
 have f0:s.tm 0 = .osl l u 0 T.length 2:=by rw [f.t 0 (by simp)];simp
 have fd:s.df=[]:=by rw [f.d];simp
 have fr:s.ro=ro:=by rw [f.r];simp
 clear f
 obtain ⟨q,hq⟩:∃ q,1+k=q:=⟨_,rfl⟩
 rw [hq] at h3 hct
 by_cases hlt:q<T.length
 ·have hqi:(q:Int)<T.length:=by omega
  have hw:=wrapU hlt (by omega)
  have hw1:IntKind.i64.wrap ((q:Int) - 1)=((q - 1:Nat):Int):=by rw [wrapN (by omega) (by omega)];omega
  have i1:=idx2 (l:=l) (u:=u) (off:=0) (n:=T.length) (kk:=.i64) (X:=(q:Int)) rfl hlt
  have i0:=idx2 (l:=l) (u:=u) (off:=0) (n:=T.length) (kk:=.i64) (X:=((q - 1:Nat):Int)) rfl (by omega)
  have l1:=ld2 ho hlt
  have l0:=ld2 ho (show q - 1<T.length by omega)
  have hcs:T[q]=T[q - 1]→compTo T (q+1)=compTo T q:=compTo_eq (by omega) hlt
  have hcn:T[q]≠T[q - 1]→compTo T (q+1)=compTo T q++[T[q]]:=fun h=>compTo_ne hlt fun _=>h
  have htk:T.take (q+1)=T.take q++[T[q]]:=List.take_succ_eq_append_getElem hlt
  have hve:=val_eq T[q] (T[q - 1]'(by omega))
  rw [Nat.zero_add] at i1 i0
  generalize hx:T[q]=x at *
  generalize hy:T[q - 1]'(by omega)=y at *
  generalize hQ1:((q - 1:Nat):Int)=Q1 at *
  cases hxy:(x == y)
  ·have hne:x≠y:=by simpa using hxy
   rw [hxy] at hve
   simp [h3,f0,hqi,hw1,i1,i0,hob,l1,l0]
   simp [valC,← hve,h3,hw]
   refine ⟨by omega,by omega,?_,hob,hst,by omega⟩
   rw [show 1+(k+1)=q+1 by omega,hcn hne,hct,htk]
  ·have he:x=y:=by simpa using hxy
   rw [hxy] at hve
   simp [h3,f0,hqi,hw1,i1,i0,hob,l1,l0]
   have hsf:=slSl2_from (L:=l) (u:=u) (n:=T.length) (i:=q) (by omega)
   simp [valC,← hve,h3,f0,hsf]
   refine wp_loopUp [(3,3),(5,5),(29,53)] (T.length - q - 1) (fun j s=>s.tm 5 = .int .i64 ((1+j:Nat):Int)∧∃ w:Nat,s.tm 3 = .int .i64 (w:Int)∧w=(compTo T (q+1+j)).length ∧
    (∃ M:List Val',s.ob l=some ⟨u,.cells (M.flatMap valC)⟩∧M.length=T.length∧M.take w=compTo T (q+1+j)∧∀ m,q+j≤m→M[m]? = T[m]?)∧(∀ key,key≠l→s.ob key=ob key)∧s.tk=tk∧ub≤s.nx) rfl rfl
    ⟨by simp,q,by simp [h3],?_,⟨T,by simp [hob,ho],rfl,?_,fun _ _=>rfl⟩,fun key h=>by simp [hob],by simp [hst],by simp;omega⟩ ?_
   ·rw [Nat.add_zero,hcs he,hct,List.length_take];omega
   ·rw [Nat.add_zero,hcs he,hct]
   clear hnx hst hob h3
   rintro j s1 hj ⟨g5,w,g3,hwl,⟨M,gM,hMl,hMt,hMr⟩,goth,gtk,gnx⟩ f
   have g0:s1.tm 0 = .osl l u 0 T.length 2:=by rw [f.t 0 (by simp)];simp [f0]
   have g4:s1.tm 4 = .osl l u (q * 2) (T.length - q) 2:=by rw [f.t 4 (by simp)];simp
   have gd:s1.df=[]:=by rw [f.d];simp [fd]
   have gr:s1.ro=ro:=by rw [f.r];simp [fr]
   clear f
   obtain ⟨p,hp⟩:∃ p,1+j=p:=⟨_,rfl⟩
   rw [hp] at g5
   rw [show q+1+j=q+p by omega] at hwl hMt
   have hwle:=compTo_len T (q+p) (by omega)
   have hwlt:w≤q+j:=by
    have e1:compTo T (q+1)=T.take q:=by rw [hcs he,hct]
    have key:∀ j,q+1+j≤T.length→(compTo T (q+1+j)).length≤q+j:=by
     intro j
     induction j with
     | zero=>intro _;rw [Nat.add_zero,e1,List.length_take];omega
     | succ j ih =>
      intro h
      have:=ih (by omega)
      rw [← Nat.add_assoc]
      simp only [compTo,List.length_append,List.getElem?_eq_getElem (show q+1+j<T.length by omega)]
      split <;> simp <;> omega
    have:=key j (by omega)
    rw [show q+1+j=q+p by omega] at this
    omega
   by_cases hlt2:p<T.length - q
   ·have hqp:q+p<T.length:=by omega
    have hpi:(p:Int)<((T.length - q:Nat):Int):=by omega
    have hwp:=wrapU (i:=p) (N:=T.length) (by omega) (by omega)
    have hwp1:IntKind.i64.wrap ((p:Int) - 1)=((p - 1:Nat):Int):=by rw [wrapN (by omega) (by omega)];omega
    have hww:=wrapU (i:=w) (N:=T.length) (by omega) (by omega)
    have k1:=idx2 (l:=l) (u:=u) (off:=q * 2) (n:=T.length - q) (kk:=.i64) (X:=(p:Int)) rfl hlt2
    have k0:=idx2 (l:=l) (u:=u) (off:=q * 2) (n:=T.length - q) (kk:=.i64) (X:=((p - 1:Nat):Int)) rfl (by omega)
    have kw:=idx2 (l:=l) (u:=u) (off:=0) (n:=T.length) (kk:=.i64) (X:=(w:Int)) rfl (by omega)
    rw [show q * 2+p * 2=(q+p) * 2 by omega] at k1
    rw [show q * 2+(p - 1) * 2=(q+p - 1) * 2 by omega] at k0
    rw [Nat.zero_add] at kw
    have hM1:M[q+p]'(by omega)=T[q+p]:=by
     have:=hMr (q+p) (by omega)
     rw [List.getElem?_eq_getElem (by omega),List.getElem?_eq_getElem hqp] at this
     exact Option.some.inj this
    have hM0:M[q+p - 1]'(by omega)=T[q+p - 1]'(by omega):=by
     have:=hMr (q+p - 1) (by omega)
     rw [List.getElem?_eq_getElem (by omega),List.getElem?_eq_getElem (by omega)] at this
     exact Option.some.inj this
    have m1:=ld2 gM (show q+p<M.length by omega)
    have m0:=ld2 gM (show q+p - 1<M.length by omega)
    rw [hM1] at m1
    rw [hM0] at m0
    have hMf:=flatMap_len valC_len M
    have hss:=st2 (M:=M) (x:=w) (by omega) T[q+p]
    have hcs2:T[q+p]=T[q+p - 1]'(by omega)→compTo T (q+p+1)=compTo T (q+p):=compTo_eq (by omega) hqp
    have hcn2:T[q+p]≠T[q+p - 1]'(by omega)→compTo T (q+p+1)=compTo T (q+p)++[T[q+p]]:=fun h=>compTo_ne hqp fun _=>h
    have hve2:=val_eq T[q+p] (T[q+p - 1]'(by omega))
    have hle:w * 2+2≤T.length * 2:=by omega
    generalize hx2:T[q+p]=x2 at *
    generalize hy2:T[q+p - 1]'(by omega)=y2 at *
    generalize hQ2:((p - 1:Nat):Int)=Q2 at *
    generalize hQ3:((T.length - q:Nat):Int)=Q3 at *
    cases hxy2:(x2 == y2)
    ·have hne2:x2≠y2:=by simpa using hxy2
     rw [hxy2] at hve2
     simp [g5,g4,hQ3,hpi,hwp1,k1,k0,m1,m0]
     simp [valC] at hss
     simp [valC,← hve2,g5,g4,g3,g0,hwp,hww,k1,m1,kw,objCells,gM,hMf,hMl,hle,gr,hro,hss]
     refine ⟨by omega,by omega,w+1,rfl,?_,⟨M.set w x2,rfl,by simp [hMl],?_,fun m hm=>?_⟩,fun key h=>by simp [h,goth],by simp [app_tk0,gtk],by omega⟩
     ·rw [show q+1+(j+1)=q+p+1 by omega,hcn2 hne2,List.length_append,← hwl];rfl
     ·rw [show q+1+(j+1)=q+p+1 by omega,hcn2 hne2,← hMt]
      rw [List.take_set,List.take_succ_eq_append_getElem (show w<M.length by omega),List.set_append_right _ _ (by rw [List.length_take];omega),List.length_take,Nat.min_eq_left (by omega),Nat.sub_self]
      rfl
     ·rw [List.getElem?_set_ne (by omega)]
      exact hMr m (by omega)
    ·have he2:x2=y2:=by simpa using hxy2
     rw [hxy2] at hve2
     simp [g5,g4,hQ3,hpi,hwp1,k1,k0,m1,m0]
     simp [valC,← hve2,g5,hwp]
     exact ⟨by omega,by omega,w,g3,by rw [show q+1+(j+1)=q+p+1 by omega,hcs2 he2];exact hwl,⟨M,gM,hMl,by rw [show q+1+(j+1)=q+p+1 by omega,hcs2 he2];exact hMt,fun m hm=>hMr m (by omega)⟩,goth,gtk,by omega⟩
   ·have hpe:q+p=T.length:=by omega
    rw [hpe] at hwl hMt
    have hpi:¬ (p:Int)<((T.length - q:Nat):Int):=by omega
    generalize hQ3:((T.length - q:Nat):Int)=Q3 at *
    have hwn:w≤T.length:=by omega
    have hsf2:=slSl2_from (L:=l) (u:=u) hwn
    have hst2:=slSl2_to (L:=l) (u:=u) hwn
    have hMf:=flatMap_len valC_len M
    simp [g5,g4,hQ3,hpi,g0,g3,hsf2]
    refine kS_clear (l:=l) (u:=u) (off:=w * 2) (n:=T.length - w) (cs:=M.flatMap valC) (by simp) (by simp [gM]) (by simp [gr,hro]) rfl (by rw [hMf];omega) ?_
    simp [g0,g3,hst2]
    refine endS_1 (by simp [gd]) ⟨by simp [hwl],⟨_,by simp;rfl,?_,by omega,?_⟩,fun key h=>by simp [h,goth],by simp [app_tk0,gtk],by simp;omega⟩
    ·unfold splice
     have hrl:(repl (T.length - w) [V.int .i64 0,V.int .i64 0]).length=(T.length - w) * 2:=by simp [repl]
     simp only [List.length_append,List.length_take,List.length_drop,hMf,hrl]
     omega
    ·rw [← hwl,← hMt]
     unfold splice
     rw [List.append_assoc,List.take_append_of_le_length (by rw [List.length_take,hMf];omega),List.take_take,Nat.min_self]
     exact take_flat valC_len M w
 ·have:q=T.length:=by omega
  subst this
  simp [h3,f0]
  rw [List.take_length] at hct
  rw [hct]
  exact endS_1 (by simp [fd]) ⟨by simp,⟨_,by simp [hob,ho],hTl,Nat.le_refl _,List.take_of_length_le (by omega)⟩,fun key h=>by simp [hob],by simp [hst],by simp;omega⟩
end Go.Pv.T

/- The reference's Raw, plain. -/
namespace Go.Pv.T
open Go Go.Pv
structure RwS where
 c:List Bool
 d:List Bool
 hop:Bool
 more:Bool
def RwS.left (r:RwS) (g:Hist') (t k:Nat):List Int:=(ofH g t k).filter fun x=>decide (x<0) || !(r.d.getD x.toNat false)
def RwS.sole (r:RwS) (g:Hist') (t:Nat) (l:List Op'):Nat→Bool × List Int
 | 0=>(false,[])
 | k+1=>match l[k]? with
  | some o =>
   if !outerB g t k || o.v.kind == 2 then r.sole g t l k else
   ((r.sole g t l k).1 || (r.left g t k).length == 0,
    if (r.left g t k).length == 1 && decide (0≤(r.left g t k).headD 0) then (r.sole g t l k).2++[(r.left g t k).headD 0] else (r.sole g t l k).2)
  | none=>r.sole g t l k
def RwS.learn (r:RwS) (t:Nat):List Int→RwS
 | []=>r
 | x::xs=>if r.c.getD t false then (if r.c.getD x.toNat false then r.learn t xs else { r with c:=r.c.set x.toNat true,more:=true }.learn t xs) else r
def RwS.fails (r:RwS) (f:Int) (t:Nat):RwS :=
 if f=1 then { r with hop:=true } else if f=3 then (if r.d.getD t false then r else { r with d:=r.d.set t true,more:=true }) else r
def RwS.txn (r:RwS) (g:Hist') (t:Nat) (f:Int) (l:List Op'):RwS :=
 (if (r.sole g t l l.length).1 || !(badH g t).isEmpty then r.fails f t else r).learn t (r.sole g t l l.length).2
def Alike (n:Nat) (s:KnS) (r:RwS):Prop :=
 r.c.length=n∧r.d.length=n∧(∀ i,i<n→r.c.getD i false=decide (0<mcnt s.m i))∧(∀ i,i<n→r.d.getD i false=decide (0<mcnt s.n i))∧s.hop=r.hop∧s.more=r.more∧∀ x:Int,x<0→mcnt s.n x=0
theorem ofH_ne {g:Hist'} {t:Nat} {b x:Int} (h:x∈ofH g t b):x≠t:=by
 unfold ofH at h
 split at h
 ·split at h
  ·simp at h
  ·rename_i o _ _
   unfold ofL ofStart at h
   rcases List.mem_append.1 h with h | h
   ·split at h
    ·simp at h
    ·simp at h;omega
   ·have:=(List.mem_filter.1 h).2
    simp only [Bool.and_eq_true,Bool.not_eq_true',beq_eq_false_iff_ne,ne_eq] at this
    exact this.1
 ·simp at h
theorem left_alike {g:Hist'} {s:KnS} {r:RwS} {t k:Nat} (hd:∀ i,i<g.ts.length→i≠t→r.d.getD i false=decide (0<mcnt s.n i)) (hn:∀ x:Int,x<0→mcnt s.n x=0):s.left g t k=r.left g t k:=by
 unfold KnS.left RwS.left
 refine List.filter_congr fun x hx=>?_
 have hlt:=ofH_lt hx
 have hne:=ofH_ne hx
 by_cases h0:x<0
 ·simp [hn x h0,h0]
 ·obtain ⟨i,rfl⟩:∃ i:Nat,x=i:=⟨x.toNat,by omega⟩
  have:=hd i (by omega) (by omega)
  simp only [Int.toNat_natCast,this,h0,decide_false,Bool.false_or]
theorem Alike.fails {n:Nat} {s:KnS} {r:RwS} (h:Alike n s r) {f:Int} {t:Nat} (ht:t<n) (hp:0≤mcnt s.n t):Alike n (s.fails f t) (r.fails f t):=by
 obtain ⟨h1,h2,h3,h4,h5,h6,h7⟩:=h
 unfold KnS.fails RwS.fails
 by_cases f1:f=1
 ·simp only [f1,if_true]
  exact ⟨h1,h2,h3,h4,rfl,h6,h7⟩
 ·by_cases f3:f=3
  ·rw [if_neg f1,if_neg f1,if_pos f3,if_pos f3]
   unfold KnS.learnN
   by_cases h0:mcnt s.n t=0
   ·have hr:r.d.getD t false=false:=by rw [h4 t ht,h0];rfl
    rw [if_pos h0,hr]
    simp only [Bool.false_eq_true,if_false]
    refine ⟨h1,by simp [h2],h3,fun i hi=>?_,h5,rfl,fun x hx=>?_⟩
    ·simp only [mcnt_set]
     by_cases e:i=t
     ·subst e
      simp [List.getD_eq_getElem?_getD,List.getElem?_set,h2,hi]
     ·have e':¬ (i:Int)=t:=by omega
      have e2:¬ (t:Int)=i:=by omega
      have:=h4 i hi
      simp [e',e2,List.getD_eq_getElem?_getD,List.getElem?_set,Ne.symm e] at this ⊢
      exact this
    ·simp only [mcnt_set]
     rw [if_neg (by omega)]
     exact h7 x hx
   ·have hr:r.d.getD t false=true:=by rw [h4 t ht];simp;omega
    rw [if_neg h0,hr]
    simp only [if_true]
    exact ⟨h1,h2,h3,h4,h5,h6,h7⟩
  ·rw [if_neg f1,if_neg f1,if_neg f3,if_neg f3]
   exact ⟨h1,h2,h3,h4,h5,h6,h7⟩
def RwS.com (r:RwS) (x:Nat):RwS:=if r.c.getD x false then r else { r with c:=r.c.set x true,more:=true }
theorem Alike.learnM {n:Nat} {s:KnS} {r:RwS} (h:Alike n s r) {t:Nat} (ht:t<n) (hp:0≤mcnt s.m t):Alike n (s.learnM t) (r.com t):=by
 obtain ⟨h1,h2,h3,h4,h5,h6,h7⟩:=h
 unfold KnS.learnM RwS.com
 by_cases h0:mcnt s.m t=0
 ·have hr:r.c.getD t false=false:=by rw [h3 t ht,h0];rfl
  rw [if_pos h0,hr]
  simp only [Bool.false_eq_true,if_false]
  refine ⟨by simp [h1],h2,fun i hi=>?_,h4,h5,rfl,h7⟩
  simp only [mcnt_set]
  by_cases e:i=t
  ·subst e
   simp [List.getD_eq_getElem?_getD,List.getElem?_set,h1,hi]
  ·have e':¬ (i:Int)=t:=by omega
   have:=h3 i hi
   simp [e',List.getD_eq_getElem?_getD,List.getElem?_set,Ne.symm e] at this ⊢
   exact this
 ·have hr:r.c.getD t false=true:=by rw [h3 t ht];simp;omega
  rw [if_neg h0,hr]
  simp only [if_true]
  exact ⟨h1,h2,h3,h4,h5,h6,h7⟩
end Go.Pv.T

/- A transaction told in whatever order. -/
namespace Go.Pv.T
open Go Go.Pv
theorem KnS.fails_learnM (s:KnS) (f t x:Int):(s.learnM x).fails f t=(s.fails f t).learnM x:=by
 unfold KnS.fails KnS.learnM KnS.learnN
 by_cases f1:f=1
 ·simp only [f1,if_true]
  split <;> rfl
 ·by_cases f3:f=3
  ·rw [if_neg f1,if_neg f1,if_pos f3,if_pos f3]
   by_cases h0:mcnt s.m x=0 <;> by_cases h1:mcnt s.n t=0 <;> simp [h0,h1]
  ·rw [if_neg f1,if_neg f1,if_neg f3,if_neg f3]
theorem KnS.fails_fails (s:KnS) (f t:Int):(s.fails f t).fails f t=s.fails f t:=by
 unfold KnS.fails KnS.learnN
 by_cases f1:f=1
 ·simp [f1]
 ·by_cases f3:f=3
  ·rw [if_neg f1,if_pos f3]
   by_cases h1:mcnt s.n t=0
   ·simp [h1,f1,f3,mcnt_set]
   ·simp [h1,f1,f3]
  ·simp [f1,f3]
def KnS.learnAll (s:KnS):List Int→KnS
 | []=>s
 | x::xs=>(s.learnM x).learnAll xs
theorem KnS.learnAll_append (s:KnS) (x:Int):∀ xs:List Int,s.learnAll (xs++[x])=(s.learnAll xs).learnM x:=by
 intro xs
 induction xs generalizing s with
 | nil=>rfl
 | cons y ys ih=>exact ih (s.learnM y)
theorem KnS.fails_learnAll (f t:Int):∀ (xs:List Int) (s:KnS),(s.learnAll xs).fails f t=(s.fails f t).learnAll xs
 | [],_=>rfl
 | x::xs,s=>by
  show ((s.learnM x).learnAll xs).fails f t=((s.fails f t).learnM x).learnAll xs
  rw [KnS.fails_learnAll f t xs,KnS.fails_learnM]
theorem KnS.learnM_n (s:KnS) (x:Int):(s.learnM x).n=s.n:=by unfold KnS.learnM;split <;> rfl
theorem KnS.learnAll_n:∀ (xs:List Int) (s:KnS),(s.learnAll xs).n=s.n
 | [],_=>rfl
 | x::xs,s=>(KnS.learnAll_n xs (s.learnM x)).trans (s.learnM_n x)
theorem KnS.learnM_m (s:KnS) {x t:Int} (h:x≠t):mcnt (s.learnM x).m t=mcnt s.m t:=by
 unfold KnS.learnM
 split
 ·simp only [mcnt_set]
  rw [if_neg (Ne.symm h)]
 ·rfl
theorem KnS.learnAll_m {t:Int}:∀ (xs:List Int) (s:KnS),(∀ x∈xs,x≠t)→mcnt (s.learnAll xs).m t=mcnt s.m t
 | [],_,_=>rfl
 | x::xs,s,h=>(KnS.learnAll_m xs (s.learnM x) fun y hy=>h y (List.mem_cons_of_mem _ hy)).trans (s.learnM_m (h x (List.mem_cons_self ..)))
theorem KnS.fails_m (s:KnS) (f t:Int):(s.fails f t).m=s.m:=by
 unfold KnS.fails KnS.learnN
 split
 ·rfl
 ·split
  ·split <;> rfl
  ·rfl
theorem KnS.fails_n (s:KnS) (f t:Int) {x:Int} (h:x≠t):mcnt (s.fails f t).n x=mcnt s.n x:=by
 unfold KnS.fails KnS.learnN
 split
 ·rfl
 ·split
  ·split
   ·simp only [mcnt_set]
    rw [if_neg h]
   ·rfl
  ·rfl
theorem KnS.left_same {g:Hist'} {s s':KnS} {t k:Nat} (h:∀ x:Int,x≠t→mcnt s.n x=mcnt s'.n x):s.left g t k=s'.left g t k:=by
 unfold KnS.left
 refine List.filter_congr fun x hx=>?_
 rw [h x (ofH_ne hx)]
def KnS.told (s:KnS) (g:Hist') (t:Nat) (l:List Op'):Nat→Bool × List Int
 | 0=>(false,[])
 | k+1=>match l[k]? with
  | some o =>
   if o.v.kind == 2 || !outerB g t k then s.told g t l k else
   if (s.left g t k).length=0 then (true,(s.told g t l k).2) else
   if (s.left g t k).length == 1 && decide (0≤(s.left g t k).headD 0) then ((s.told g t l k).1,(s.told g t l k).2++[(s.left g t k).headD 0]) else s.told g t l k
  | none=>s.told g t l k
theorem KnS.left_mem {g:Hist'} {s:KnS} {t k:Nat} (h:(s.left g t k).length≠0):(s.left g t k).headD 0≠t:=by
 cases hl:s.left g t k with
 | nil=>rw [hl] at h;exact absurd rfl h
 | cons x r =>
  have hm:x∈s.left g t k:=by rw [hl];exact List.mem_cons_self ..
  exact ofH_ne (List.mem_filter.1 hm).1
theorem KnS.told_ne {g:Hist'} {s:KnS} {t:Nat} {l:List Op'}:∀ k,∀ x∈(s.told g t l k).2,x≠t
 | 0,x,h=>by simp [KnS.told] at h
 | k+1,x,h=>by
  simp only [KnS.told] at h
  split at h
  ·split at h
   ·exact KnS.told_ne k x h
   ·split at h
    ·exact KnS.told_ne k x h
    ·rename_i h0
     split at h
     ·rcases List.mem_append.1 h with h | h
      ·exact KnS.told_ne k x h
      ·rw [List.mem_singleton.1 h]
       exact KnS.left_mem h0
     ·exact KnS.told_ne k x h
  ·exact KnS.told_ne k x h
theorem KnS.ops_told {g:Hist'} (s:KnS) (f:Int) (t:Nat) (l:List Op'):∀ k,s.ops g f t l k=(if (s.told g t l k).1 then s.fails f t else s).learnAll (if 0<mcnt s.m t then (s.told g t l k).2 else [])
 | 0=>by
  simp only [KnS.ops,KnS.told,Bool.false_eq_true,if_false]
  split <;> rfl
 | k+1=>by
  cases ho:l[k]? with
  | none =>
   simp only [KnS.ops,KnS.told,ho]
   exact KnS.ops_told s f t l k
  | some o =>
   simp only [KnS.ops,KnS.told,ho]
   rw [KnS.ops_told s f t l k]
   have hne:=KnS.told_ne (g:=g) (s:=s) (t:=t) (l:=l) k
   generalize hB:(if (s.told g t l k).1 then s.fails f t else s)=B
   generalize hL:(if 0<mcnt s.m t then (s.told g t l k).2 else [])=L
   have hBn:∀ x:Int,x≠t→mcnt B.n x=mcnt s.n x:=fun x hx=>by
    rw [← hB];split
    ·exact s.fails_n f t hx
    ·rfl
   have hBm:mcnt B.m t=mcnt s.m t:=by
    rw [← hB];split
    ·rw [s.fails_m]
    ·rfl
   have hLne:∀ x∈L,x≠(t:Int):=fun x hx=>by
    rw [← hL] at hx
    split at hx
    ·exact hne x hx
    ·simp at hx
   have hleft:(B.learnAll L).left g t k=s.left g t k:=KnS.left_same fun x hx=>by rw [KnS.learnAll_n];exact hBn x hx
   have hm:mcnt (B.learnAll L).m t=mcnt s.m t:=by rw [KnS.learnAll_m L B hLne];exact hBm
   have hBf:B.fails f t=s.fails f t:=by
    rw [← hB];split
    ·exact s.fails_fails f t
    ·rfl
   unfold KnS.op
   rw [hleft,hm]
   by_cases c0:(o.v.kind == 2 || !outerB g t k)=true
   ·rw [if_pos c0,if_pos c0,hB,hL]
   ·rw [if_neg c0,if_neg c0]
    by_cases c1:(s.left g t k).length=0
    ·rw [if_pos c1,if_pos c1,KnS.fails_learnAll,hBf]
     simp only [if_true]
     rw [hL]
    ·rw [if_neg c1,if_neg c1]
     by_cases c2:((s.left g t k).length == 1 && decide (0≤(s.left g t k).headD 0))=true
     ·rw [if_pos c2]
      simp only [hB]
      simp only [Bool.and_eq_true] at c2
      by_cases c3:0<mcnt s.m t
      ·rw [if_pos (by simp only [c2.1,c2.2,c3,decide_true,Bool.and_self]),if_pos c3,← hL,if_pos c3,KnS.learnAll_append]
      ·rw [if_neg (by simp [c3]),if_neg c3,← hL,if_neg c3]
     ·rw [if_neg c2,hB,hL,if_neg ?_]
      intro h
      simp only [Bool.and_eq_true] at h c2
      exact c2 ⟨h.1,h.2.1⟩
theorem told_sole {g:Hist'} {s:KnS} {r:RwS} {t:Nat} (hd:∀ i,i<g.ts.length→i≠t→r.d.getD i false=decide (0<mcnt s.n i)) (hn:∀ x:Int,x<0→mcnt s.n x=0) (l:List Op'):∀ k,s.told g t l k=r.sole g t l k
 | 0=>rfl
 | k+1=>by
  have ih:=told_sole hd hn l k
  cases ho:l[k]? with
  | none=>simp only [KnS.told,RwS.sole,ho,ih]
  | some o =>
   have hl:=left_alike (k:=k) hd hn
   simp only [KnS.told,RwS.sole,ho,ih,← hl]
   rw [Bool.or_comm (!outerB g t k) (o.v.kind == 2)]
   by_cases c0:(o.v.kind == 2 || !outerB g t k)=true
   ·rw [if_pos c0,if_pos c0]
   ·rw [if_neg c0,if_neg c0]
    by_cases c1:(s.left g t k).length=0
    ·rw [if_pos c1]
     simp [c1]
    ·rw [if_neg c1]
     have c1':((s.left g t k).length == 0)=false:=by simpa using c1
     rw [c1',Bool.or_false]
     split <;> rfl
end Go.Pv.T

/- Both learn the same. -/
namespace Go.Pv.T
open Go Go.Pv
def KnS.Pos (s:KnS):Prop:=∀ x:Int,0≤mcnt s.m x∧0≤mcnt s.n x
theorem KnS.Pos.learnM {s:KnS} (h:s.Pos) (t:Int):(s.learnM t).Pos:=by
 unfold KnS.learnM
 split
 ·intro x
  refine ⟨?_,(h x).2⟩
  simp only [mcnt_set]
  split
  ·decide
  ·exact (h x).1
 ·exact h
theorem KnS.Pos.learnN {s:KnS} (h:s.Pos) (t:Int):(s.learnN t).Pos:=by
 unfold KnS.learnN
 split
 ·intro x
  refine ⟨(h x).1,?_⟩
  simp only [mcnt_set]
  split
  ·decide
  ·exact (h x).2
 ·exact h
theorem KnS.Pos.fails {s:KnS} (h:s.Pos) (f t:Int):(s.fails f t).Pos:=by
 unfold KnS.fails
 split
 ·exact h
 ·split
  ·exact h.learnN t
  ·exact h
theorem KnS.Pos.learnAll:∀ (xs:List Int) {s:KnS},s.Pos→(s.learnAll xs).Pos
 | [],_,h=>h
 | x::xs,_,h=>KnS.Pos.learnAll xs (h.learnM x)
def RwS.comAll (r:RwS):List Int→RwS
 | []=>r
 | x::xs=>(r.com x.toNat).comAll xs
theorem RwS.com_c {r:RwS} {x t:Nat} (h:r.c.getD t false=true):(r.com x).c.getD t false=true:=by
 unfold RwS.com
 split
 ·exact h
 ·rw [List.getD_eq_getElem?_getD] at h
  simp only [List.getD_eq_getElem?_getD,List.getElem?_set]
  split
  ·rename_i e
   subst e
   split
   ·rfl
   ·rename_i e
    rw [List.getElem?_eq_none (by omega)] at h
    cases h
  ·exact h
theorem RwS.learn_all (t:Nat):∀ (xs:List Int) (r:RwS),r.learn t xs=if r.c.getD t false then r.comAll xs else r
 | [],r=>by simp [RwS.learn,RwS.comAll]
 | x::xs,r=>by
  simp only [RwS.learn,RwS.comAll]
  by_cases h:r.c.getD t false=true
  ·rw [if_pos h,if_pos h]
   have hc:=RwS.com_c (x:=x.toNat) h
   unfold RwS.com at hc ⊢
   by_cases h2:r.c.getD x.toNat false=true
   ·rw [if_pos h2,if_pos h2,RwS.learn_all t xs r,if_pos h]
   ·rw [if_neg h2] at hc
    rw [if_neg h2,if_neg h2,RwS.learn_all t xs,if_pos hc]
  ·rw [if_neg h,if_neg h]
theorem Alike.learnAll {n:Nat}:∀ (xs:List Int) {s:KnS} {r:RwS},Alike n s r→s.Pos→(∀ x∈xs,0≤x∧x<n)→Alike n (s.learnAll xs) (r.comAll xs)
 | [],_,_,h,_,_=>h
 | x::xs,s,r,h,hp,hx=>by
  obtain ⟨h0,h1⟩:=hx x (List.mem_cons_self ..)
  have hl:=h.learnM (t:=x.toNat) (by omega) (hp _).1
  have e:((x.toNat:Nat):Int)=x:=Int.toNat_of_nonneg h0
  rw [e] at hl
  exact Alike.learnAll xs hl (hp.learnM x) fun y hy=>hx y (List.mem_cons_of_mem _ hy)
theorem KnS.left_lt {g:Hist'} {s:KnS} {t k:Nat} (h:(s.left g t k).length≠0):(s.left g t k).headD 0<g.ts.length:=by
 cases hl:s.left g t k with
 | nil=>rw [hl] at h;exact absurd rfl h
 | cons x r =>
  have hm:x∈s.left g t k:=by rw [hl];exact List.mem_cons_self ..
  exact ofH_lt (List.mem_filter.1 hm).1
theorem KnS.told_lt {g:Hist'} {s:KnS} {t:Nat} {l:List Op'}:∀ k,∀ x∈(s.told g t l k).2,0≤x∧x<g.ts.length
 | 0,x,h=>by simp [KnS.told] at h
 | k+1,x,h=>by
  simp only [KnS.told] at h
  split at h
  ·split at h
   ·exact KnS.told_lt k x h
   ·split at h
    ·exact KnS.told_lt k x h
    ·rename_i h0
     split at h
     ·rename_i h1
      simp only [Bool.and_eq_true,decide_eq_true_eq] at h1
      rcases List.mem_append.1 h with h | h
      ·exact KnS.told_lt k x h
      ·rw [List.mem_singleton.1 h]
       exact ⟨h1.2,KnS.left_lt h0⟩
     ·exact KnS.told_lt k x h
  ·exact KnS.told_lt k x h
theorem Alike.txn {g:Hist'} {s:KnS} {r:RwS} (h:Alike g.ts.length s r) (hp:s.Pos) {t:Nat} (ht:t<g.ts.length) (f:Int) (l:List Op') :
 Alike g.ts.length (s.txn g t f l) (r.txn g t f l)∧(s.txn g t f l).Pos:=by
 unfold KnS.txn
 rw [KnS.ops_told]
 generalize hs1:(if (badH g t).isEmpty then s else s.fails f t)=s1
 have hn1:∀ x:Int,x≠t→mcnt s1.n x=mcnt s.n x:=fun x hx=>by
  rw [← hs1];split
  ·rfl
  ·exact s.fails_n f t hx
 have hm1:s1.m=s.m:=by
  rw [← hs1];split
  ·rfl
  ·rw [s.fails_m]
 have hsole:=told_sole (s:=s1) (r:=r) (t:=t) (g:=g) (fun i hi hne=>by rw [h.2.2.2.1 i hi,hn1 i (by omega)]) (fun x hx=>by rw [hn1 x (by omega)];exact h.2.2.2.2.2.2 x hx) l l.length
 have hlt:=KnS.told_lt (g:=g) (s:=s1) (t:=t) (l:=l) l.length
 rw [hsole] at hlt
 rw [hsole,hm1]
 unfold RwS.txn
 rw [RwS.learn_all]
 have base:(if (r.sole g t l l.length).1 then s1.fails f t else s1)=if (r.sole g t l l.length).1 || !(badH g t).isEmpty then s.fails f t else s:=by
  rw [← hs1]
  cases (badH g t).isEmpty <;> cases (r.sole g t l l.length).1 <;> simp [KnS.fails_fails]
 rw [base]
 generalize r.sole g t l l.length=q at hlt ⊢
 have hB:Alike g.ts.length (if q.1 || !(badH g t).isEmpty then s.fails f t else s) (if q.1 || !(badH g t).isEmpty then r.fails f t else r)∧(if q.1 || !(badH g t).isEmpty then s.fails f t else s).Pos∧(if q.1 || !(badH g t).isEmpty then s.fails f t else s).m=s.m:=by
  split
  ·exact ⟨h.fails ht (hp _).2,hp.fails f t,s.fails_m f t⟩
  ·exact ⟨h,hp,rfl⟩
 generalize (if q.1 || !(badH g t).isEmpty then s.fails f t else s)=B at hB ⊢
 generalize (if q.1 || !(badH g t).isEmpty then r.fails f t else r)=R at hB ⊢
 obtain ⟨hA,hP,hM⟩:=hB
 have hc:=hA.2.2.1 t ht
 rw [hM] at hc
 by_cases h0:0<mcnt s.m t
 ·have hc':R.c.getD t false=true:=by rw [hc];simp [h0]
  rw [if_pos h0,if_pos hc']
  exact ⟨hA.learnAll _ hP hlt,hP.learnAll _⟩
 ·have hc':¬ R.c.getD t false=true:=by rw [hc];simp [h0]
  rw [if_neg h0,if_neg hc']
  exact ⟨hA,hP⟩
def RwS.init (g:Hist'):RwS:=⟨g.ts.map fun t=>t.f == 1,g.ts.map fun t=>t.f == 2,false,true⟩
def RwS.round (r:RwS) (g:Hist'):Nat→RwS
 | 0=>{ r with more:=false }
 | i+1=>match g.ts[i]? with
  | some t=>(r.round g i).txn g i t.f t.ops
  | none=>r.round g i
def RwS.iter (g:Hist'):Nat→RwS→RwS
 | 0,r=>r
 | k+1,r=>if r.more then RwS.iter g k (r.round g g.ts.length) else r
def RwS.hopTo (r:RwS):Nat→Bool
 | 0=>r.hop
 | i+1=>r.hopTo i || (r.c.getD i false && r.d.getD i false)
theorem init_alike (g:Hist'):∀ i,i≤g.ts.length→(KnS.init g i).Pos∧(∀ x:Int,x<0→mcnt (KnS.init g i).n x=0)∧(KnS.init g i).hop=false∧(KnS.init g i).more=true ∧
 ∀ j:Nat,j<i→∀ h:j<g.ts.length,((g.ts[j]).f == 1)=decide (0<mcnt (KnS.init g i).m j)∧((g.ts[j]).f == 2)=decide (0<mcnt (KnS.init g i).n j)
 | 0,_=>⟨fun _=>⟨Int.le_refl _,Int.le_refl _⟩,fun _ _=>rfl,rfl,rfl,fun j h=>absurd h (by omega)⟩
 | i+1,hi=>by
  obtain ⟨h1,h2,h3,h4,h5⟩:=init_alike g i (by omega)
  have hz:=mcnt_init g i i (Int.le_refl _)
  simp only [KnS.init,List.getElem?_eq_getElem (show i<g.ts.length by omega)]
  have last:∀ j:Nat,j<i+1→j≠i→j<i:=fun j h hne=>by omega
  by_cases f1:(g.ts[i]).f=1
  ·rw [if_pos f1]
   refine ⟨fun x=>⟨?_,(h1 x).2⟩,h2,h3,h4,fun j hj hjn=>?_⟩
   ·simp only [mcnt_set]
    split
    ·decide
    ·exact (h1 x).1
   ·simp only [mcnt_set]
    by_cases e:j=i
    ·subst e
     simp [f1,hz.2]
    ·rw [if_neg (by omega)]
     exact h5 j (last j hj e) hjn
  ·rw [if_neg f1]
   by_cases f2:(g.ts[i]).f=2
   ·rw [if_pos f2]
    refine ⟨fun x=>⟨(h1 x).1,?_⟩,fun x hx=>?_,h3,h4,fun j hj hjn=>?_⟩
    ·simp only [mcnt_set]
     split
     ·decide
     ·exact (h1 x).2
    ·simp only [mcnt_set]
     rw [if_neg (by omega)]
     exact h2 x hx
    ·simp only [mcnt_set]
     by_cases e:j=i
     ·subst e
      simp [f2,hz.1]
     ·rw [if_neg (by omega)]
      exact h5 j (last j hj e) hjn
   ·rw [if_neg f2]
    refine ⟨h1,h2,h3,h4,fun j hj hjn=>?_⟩
    by_cases e:j=i
    ·subst e
     simp [f1,f2,hz.1,hz.2]
    ·exact h5 j (last j hj e) hjn
theorem Alike.init (g:Hist'):Alike g.ts.length (KnS.init g g.ts.length) (RwS.init g)∧(KnS.init g g.ts.length).Pos:=by
 obtain ⟨h1,h2,h3,h4,h5⟩:=init_alike g g.ts.length (Nat.le_refl _)
 refine ⟨⟨by simp [RwS.init],by simp [RwS.init],fun i hi=>?_,fun i hi=>?_,h3,h4,h2⟩,h1⟩
 ·rw [← (h5 i hi hi).1]
  simp [RwS.init,List.getD_eq_getElem?_getD,hi]
 ·rw [← (h5 i hi hi).2]
  simp [RwS.init,List.getD_eq_getElem?_getD,hi]
theorem Alike.round {g:Hist'} {s:KnS} {r:RwS} (h:Alike g.ts.length s r) (hp:s.Pos):∀ i,i≤g.ts.length→Alike g.ts.length (s.round g i) (r.round g i)∧(s.round g i).Pos
 | 0,_=>⟨⟨h.1,h.2.1,h.2.2.1,h.2.2.2.1,h.2.2.2.2.1,rfl,h.2.2.2.2.2.2⟩,hp⟩
 | i+1,hi=>by
  obtain ⟨hA,hP⟩:=Alike.round h hp i (by omega)
  simp only [KnS.round,RwS.round,List.getElem?_eq_getElem (show i<g.ts.length by omega)]
  exact hA.txn hP (by omega) _ _
theorem Alike.iter {g:Hist'}:∀ (k:Nat) {s:KnS} {r:RwS},Alike g.ts.length s r→s.Pos→Alike g.ts.length (KnS.iter g k s) (RwS.iter g k r)∧(KnS.iter g k s).Pos
 | 0,_,_,h,hp=>⟨h,hp⟩
 | k+1,s,r,h,hp=>by
  simp only [KnS.iter,RwS.iter,← h.2.2.2.2.2.1]
  split
  ·obtain ⟨hA,hP⟩:=Alike.round h hp g.ts.length (Nat.le_refl _)
   exact Alike.iter k hA hP
  ·exact ⟨h,hp⟩
theorem Alike.hopTo {n:Nat} {s:KnS} {r:RwS} (h:Alike n s r):∀ i,i≤n→s.hopTo i=r.hopTo i
 | 0,_=>h.2.2.2.2.1
 | i+1,hi=>by
  simp only [KnS.hopTo,RwS.hopTo,KnS.both,Alike.hopTo h i (by omega),h.2.2.1 i (by omega),h.2.2.2.1 i (by omega)]
end Go.Pv.T

/- value.Sorted (an observer of a list of values). -/
namespace Go.Pv.T
open Go Go.Pv
@[simp] theorem valC_leafs (v:Val'):(valC v).all V.leaf=true:=rfl
theorem toVV:∀ W:List Val',(∀ x∈W,valB x=true)→∃ L:List VV,L.map (·.1)=W
 | [],_=>⟨[],rfl⟩
 | x::W,h=>by
  obtain ⟨L,hL⟩:=toVV W fun y hy=>h y (List.mem_cons_of_mem _ hy)
  exact ⟨⟨x,h x (List.mem_cons_self ..)⟩::L,by rw [List.map_cons,hL]⟩
theorem vv_flat (L:List VV):L.flatMap vvC=(L.map (·.1)).flatMap valC:=by
 induction L with
 | nil=>rfl
 | cons a L ih=>rw [List.flatMap_cons,List.map_cons,List.flatMap_cons,ih];rfl
def ValsO (ob:Nat→Option Obj') (lo hi:Nat) (l:List Val') (v:V):Prop :=
 (l=[]∧v = .sl none true 0 [])∨(l≠[]∧∃ u,v = .osl (2 * u+1) u 0 l.length 2∧ob (2 * u+1)=some ⟨u,.cells (l.flatMap valC)⟩∧lo≤u∧u<hi)
def SortedV (l C:List Val'):Prop:=∃ L T:List VV,L.map (·.1)=l.filter valB∧Vs.SortsTo L T∧C=compTo (T.map (·.1)) (T.map (·.1)).length
end Go.Pv.T

/- Sorted values: one list alone. -/
namespace Go.Pv.T
open Go Go.Pv
theorem lessV_iff (a b:Val'):lessV a b=true ↔ (a.kind<b.kind∨(a.kind=b.kind∧a.kind=1∧a.n<b.n)):=by
 unfold lessV
 split
 ·simp;omega
 ·simp;omega
theorem lessV_tri {a b:Val'} (ha:valB a=true) (hb:valB b=true):lessV a b=true∨a=b∨lessV b a=true:=by
 have k1:=val_kind ha
 have k2:=val_kind hb
 rw [lessV_iff,lessV_iff]
 obtain ⟨ak,an⟩:=a
 obtain ⟨bk,bn⟩:=b
 simp only [Val'.mk.injEq] at *
 omega
theorem lessV_trans {a b c:Val'} (h1:lessV a b=true) (h2:lessV b c=true):lessV a c=true:=by
 rw [lessV_iff] at *
 omega
theorem lessV_irr (a:Val'):¬ lessV a a=true:=by
 rw [lessV_iff]
 omega
def StrictV (l:List Val'):Prop:=l.Pairwise fun a b=>lessV a b=true
theorem strict_ext:∀ {l m:List Val'},StrictV l→StrictV m→(∀ x,x∈l ↔ x∈m)→l=m
 | [],[],_,_,_=>rfl
 | [],b::m,_,_,h=>absurd ((h b).2 (List.mem_cons_self ..)) (by simp)
 | a::l,[],_,_,h=>absurd ((h a).1 (List.mem_cons_self ..)) (by simp)
 | a::l,b::m,hl,hm,h=>by
  have hl':=List.pairwise_cons.1 hl
  have hm':=List.pairwise_cons.1 hm
  have hab:a=b:=by
   rcases List.mem_cons.1 ((h a).1 (List.mem_cons_self ..)) with e | e
   ·exact e
   ·rcases List.mem_cons.1 ((h b).2 (List.mem_cons_self ..)) with e' | e'
    ·exact e'.symm
    ·exact absurd (lessV_trans (hl'.1 b e') (hm'.1 a e)) (lessV_irr a)
  subst hab
  have:l=m:=strict_ext hl'.2 hm'.2 fun x=>by
   constructor
   ·intro hx
    rcases List.mem_cons.1 ((h x).1 (List.mem_cons_of_mem _ hx)) with e | e
    ·subst e;exact absurd (hl'.1 x hx) (lessV_irr x)
    ·exact e
   ·intro hx
    rcases List.mem_cons.1 ((h x).2 (List.mem_cons_of_mem _ hx)) with e | e
    ·subst e;exact absurd (hm'.1 x hx) (lessV_irr x)
    ·exact e
  rw [this]
theorem insV_nil (x:Val'):insV [] x=[x]:=by simp [insV,posV]
theorem insV_cons (y x:Val') (S:List Val'):insV (y::S) x=if lessV y x then y::insV S x else if y=x then y::S else x::y::S:=by
 by_cases h:lessV y x=true
 ·have hp:posV x (y::S)=posV x S+1:=by rw [posV,if_pos h]
  rw [if_pos h]
  simp only [insV,hp,List.getElem?_cons_succ,List.take_succ_cons,List.drop_succ_cons,List.cons_append]
  split <;> rfl
 ·have hp:posV x (y::S)=0:=by rw [posV,if_neg h]
  rw [if_neg h]
  simp only [insV,hp,List.getElem?_cons_zero,Option.some.injEq,List.take_zero,List.drop_zero,List.nil_append]
theorem insV_mem (x:Val'):∀ S:List Val',∀ z,z∈insV S x ↔ z∈S∨z=x
 | [],z=>by simp [insV_nil]
 | y::S,z=>by
  rw [insV_cons]
  split
  ·simp only [List.mem_cons,insV_mem x S z,or_assoc]
  ·split
   ·rename_i e
    subst e
    simp only [List.mem_cons]
    constructor
    ·exact .inl
    ·rintro (h | h)
     ·exact h
     ·exact .inl h
   ·simp only [List.mem_cons]
    constructor
    ·rintro (h | h | h)
     ·exact .inr h
     ·exact .inl (.inl h)
     ·exact .inl (.inr h)
    ·rintro ((h | h) | h)
     ·exact .inr (.inl h)
     ·exact .inr (.inr h)
     ·exact .inl h
theorem insV_strict {x:Val'} (hx:valB x=true):∀ S:List Val',(∀ y∈S,valB y=true)→StrictV S→StrictV (insV S x)
 | [],_,_=>by rw [insV_nil];exact List.pairwise_singleton _ _
 | y::S,hv,hs=>by
  have hs':=List.pairwise_cons.1 hs
  rw [insV_cons]
  split
  ·rename_i h
   refine List.pairwise_cons.2 ⟨fun z hz=>?_,insV_strict hx S (fun z hz=>hv z (List.mem_cons_of_mem _ hz)) hs'.2⟩
   rcases (insV_mem x S z).1 hz with h' | rfl
   ·exact hs'.1 z h'
   ·exact h
  ·rename_i h
   split
   ·exact hs
   ·rename_i h2
    have hxy:lessV x y=true:=by
     rcases lessV_tri (hv y (List.mem_cons_self ..)) hx with h3 | h3 | h3
     ·exact absurd h3 h
     ·exact absurd h3 h2
     ·exact h3
    refine List.pairwise_cons.2 ⟨fun z hz=>?_,hs⟩
    rcases List.mem_cons.1 hz with rfl | hz
    ·exact hxy
    ·exact lessV_trans hxy (hs'.1 z hz)
theorem foldV:∀ (l S:List Val'),(∀ y∈l,valB y=true)→(∀ y∈S,valB y=true)→StrictV S→StrictV (l.foldl insV S)∧∀ z,z∈l.foldl insV S ↔ z∈S∨z∈l
 | [],S,_,_,h=>⟨h,fun z=>by simp⟩
 | x::l,S,hl,hS,h=>by
  have hx:=hl x (List.mem_cons_self ..)
  have hm:=insV_mem x S
  obtain ⟨h1,h2⟩:=foldV l (insV S x) (fun y hy=>hl y (List.mem_cons_of_mem _ hy)) (fun y hy=>by
   rcases (hm y).1 hy with h' | rfl
   ·exact hS y h'
   ·exact hx) (insV_strict hx S hS h)
  refine ⟨h1,fun z=>?_⟩
  rw [List.foldl_cons,h2,hm,List.mem_cons,or_assoc]
theorem sortV_strict (l:List Val'):StrictV (sortV l)∧∀ z,z∈sortV l ↔ z∈l∧valB z=true:=by
 obtain ⟨h1,h2⟩:=foldV (l.filter valB) [] (fun y hy=>(List.mem_filter.1 hy).2) (by simp) List.Pairwise.nil
 refine ⟨h1,fun z=>?_⟩
 unfold sortV
 rw [h2,List.mem_filter]
 simp
theorem sortV_perm {l m:List Val'} (h:l.Perm m):sortV l=sortV m:=by
 obtain ⟨a1,a2⟩:=sortV_strict l
 obtain ⟨b1,b2⟩:=sortV_strict m
 exact strict_ext a1 b1 fun z=>by rw [a2,b2,h.mem_iff]
theorem comp_strict {T:List Val'} (hv:∀ x∈T,valB x=true) (hs:T.Pairwise fun x y=>lessV y x=false):∀ j,j≤T.length→StrictV (compTo T j)∧(∀ z,z∈compTo T j ↔ z∈T.take j)
 | 0,_=>⟨by simp [compTo,StrictV],fun z=>by simp [compTo]⟩
 | j+1,h=>by
  have hlt:j<T.length:=by omega
  obtain ⟨h1,h2⟩:=comp_strict hv hs j (by omega)
  have htk:=List.take_succ_eq_append_getElem hlt
  have hpw:=List.pairwise_iff_getElem.1 hs
  by_cases he:0<j∧T[j]=T[j - 1]'(by omega)
  ·rw [compTo_eq he.1 hlt he.2]
   refine ⟨h1,fun z=>?_⟩
   rw [h2,htk,List.mem_append,List.mem_singleton]
   constructor
   ·exact .inl
   ·rintro (h' | rfl)
    ·exact h'
    ·rw [he.2]
     exact List.mem_take_iff_getElem.2 ⟨j - 1,by omega,rfl⟩
  ·rw [compTo_ne hlt fun h0 e=>he ⟨h0,e⟩]
   refine ⟨List.pairwise_append.2 ⟨h1,List.pairwise_singleton _ _,fun x hx y hy=>?_⟩,fun z=>by rw [List.mem_append,h2,htk,List.mem_append]⟩
   rw [List.mem_singleton.1 hy]
   obtain ⟨i,hi,rfl⟩:=List.mem_take_iff_getElem.1 ((h2 x).1 hx)
   have hij:i<j:=by omega
   have hne:T[j]≠T[j - 1]'(by omega):=fun e=>he ⟨by omega,e⟩
   have v1:=hv T[j] (List.getElem_mem _)
   have v2:=hv (T[j - 1]'(by omega)) (List.getElem_mem _)
   have v3:=hv (T[i]'(by omega)) (List.getElem_mem _)
   have l1:lessV (T[j - 1]'(by omega)) T[j]=true:=by
    rcases lessV_tri v2 v1 with h3 | h3 | h3
    ·exact h3
    ·exact absurd h3.symm hne
    ·have:=hpw (j - 1) j (by omega) hlt (by omega)
     rw [this] at h3;cases h3
   rcases Nat.lt_or_ge i (j - 1) with h4 | h4
   ·have h5:=hpw i (j - 1) (by omega) (by omega) h4
    rcases lessV_tri v3 v2 with h3 | h3 | h3
    ·exact lessV_trans h3 l1
    ·rw [h3];exact l1
    ·rw [h5] at h3;cases h3
   ·have:i=j - 1:=by omega
    subst this
    exact l1
theorem sortedV_is {l C:List Val'} (h:SortedV l C):C=sortV l:=by
 obtain ⟨L,T,hL,⟨hp,hs⟩,rfl⟩:=h
 obtain ⟨a1,a2⟩:=sortV_strict l
 have hv:∀ x∈T.map (·.1),valB x=true:=by
  intro x hx
  obtain ⟨y,_,rfl⟩:=List.mem_map.1 hx
  exact y.2
 have hs':(T.map (·.1)).Pairwise fun x y=>lessV y x=false:=by
  rw [List.pairwise_map]
  exact hs.imp fun {x y} h=>by rw [← ltVV_eq];exact h
 obtain ⟨b1,b2⟩:=comp_strict hv hs' (T.map (·.1)).length (Nat.le_refl _)
 refine strict_ext b1 a1 fun z=>?_
 rw [b2,List.take_length,a2,← List.mem_filter,← hL]
 exact ((hp.map _).mem_iff).symm
end Go.Pv.T

/- value.Sorted (an observer of a list of values): what it answers, exactly. -/
namespace Go.Pv.T
open Go Go.Pv
def valsV (n:Nat) (C:List Val'):V:=.sl (if n=C.length then some (0,2) else none) false C.length (C.flatMap valC)
theorem kEnd_vals {st:St} {n L u m:Nat} {C:List Val'} {cs:List V} (hd:st.df=[]) (hv:st.tm n = .osl L u 0 C.length 2) (hob:st.ob L=some ⟨u,.cells cs⟩) (hro:st.ro≤u) (hl:cs.length=m * 2) (hm:C.length≤m) (h0:0<C.length) (ht:cs.take (C.length * 2)=C.flatMap valC):kEnd [.t n] (valsV m C) .ret st:=by
 show endV [.t n] (.ret,st)=some (valsV m C)
 have hoc:objCells st.ob L u=some cs:=by simp [objCells,hob]
 have hmm:∀ (k:Nat) (l:List V),l.all V.pureLeaf=true→l.mapM (solid st (k+1))=some l:=by
  intro k l
  induction l with
  | nil=>intro _;rfl
  | cons a l ih =>
   intro h
   simp only [List.all_cons,Bool.and_eq_true] at h
   rw [List.mapM_cons,ih h.2]
   have:solid st (k+1) a=some a:=by
    have:=outLeaf_pure (st:=st) (keep:=false) (i:=0) h.1
    cases a with
    | sl t nl n cs=>cases t with
     | none=>rfl
     | some t=>cases h.1
    | osl=>cases h.1
    | _=>simp only [solid,h.1,if_true]
   rw [this]
   rfl
 have hs:solid st 6 (.osl L u 0 C.length 2)=some (.sl none false C.length (C.flatMap valC)):=by
  show ((objCells st.ob L u).bind fun cs=>if Nat.ble st.ro u=true∧0+C.length * 2≤cs.length then (((cs.drop 0).take (C.length * 2)).mapM (solid st 5)).map fun cs'=>V.sl none false C.length cs' else none)=_
  rw [hoc,Option.bind_some,if_pos ⟨Nat.ble_eq ▸ hro,by omega⟩,List.drop_zero,ht,hmm 4 _ (val_pure C)]
  rfl
 have ho:outLeaf st true 0 (.osl L u 0 C.length 2)=some (valsV m C):=by
  simp only [outLeaf,hs,Option.bind_some,hoc,Option.map_some,valsV]
  have hb:(true && Nat.beq 0 0 && Nat.blt 0 C.length && Nat.beq (C.length * 2) cs.length)=decide (m=C.length):=by
   rw [hl,show Nat.blt 0 C.length=true by rw [Nat.blt_eq];exact h0,Nat.beq_refl,Bool.and_self,Bool.and_self,Bool.true_and,Bool.eq_iff_iff,Nat.beq_eq,decide_eq_true_eq]
   omega
  rw [hb]
  by_cases e:m=C.length
  ·simp [e]
  ·simp [e]
 have hto:outTop st true 0 (.osl L u 0 C.length 2)=some (valsV m C):=ho
 have hr:[ARes.t n].mapM (resOf st)=some [.osl L u 0 C.length 2]:=by simp [resOf,hv]
 simp only [endV,dfOk_of hd,noDf_of hd,if_true,hr,Option.bind_some,outRes]
 have hn:nodup ([V.osl L u 0 C.length 2].flatMap V.toks)=true:=rfl
 rw [hn]
 simp only [outTops,hto,Option.bind_some,Option.map_some]
 have hnd:nodup (List.flatMap V.toks [valsV m C])=true:=by
  unfold valsV
  split <;> rfl
 show (if nodup (List.flatMap V.toks [valsV m C])=true then some (valsV m C) else none)=_
 rw [if_pos hnd]
set_option maxRecDepth 100000 in
theorem evo79 {l:List Val'} (hl:l.length≤49) (hne:l.filter valB≠[]) {Ld ud:Nat} {ob:Nat→Option Obj'} {tk:Nat→Bool} {base ub:Nat} (hLd:∀ m,ub≤m→Ld≠2 * m+1) (hob:ob Ld=some ⟨ud,.cells (l.flatMap valC)⟩) :
 EvO E 79 [.osl Ld ud 0 l.length 2] ob tk base ub (valsV (l.filter valB).length (sortV l)):=by
 refine EvO_wpK (af:=S79) rfl ?_
 simp [S79]
 have hft:∀ i,(l.take i).filter valB=(l.filter valB).take ((l.take i).filter valB).length:=by
  intro i
  have:l.filter valB=(l.take i).filter valB++(l.drop i).filter valB:=by rw [← List.filter_append,List.take_append_drop]
  rw [this,List.take_left]
 refine wp_loopUp [(3,3),(5,5),(8,18)] l.length (fun i st=>st.tm 8 = .int .i64 i∧ValsO st.ob ub st.nx ((l.take i).filter valB) (st.tm 3)∧st.ob Ld=some ⟨ud,.cells (l.flatMap valC)⟩∧ub≤st.nx) rfl rfl
  ⟨by simp,.inl ⟨by simp,by simp⟩,by simp [hob],by simp;omega⟩ ?_
 rintro i st hi ⟨h8,hv,hd,hnx⟩ f
 have f6:st.tm 6 = .osl Ld ud 0 l.length 2:=by rw [f.t 6 (by simp)];simp
 have f7:st.tm 7 = .int .i64 l.length:=by rw [f.t 7 (by simp)];simp
 have fd:st.df=[]:=by rw [f.d];simp
 have fr:st.ro=ub:=by rw [f.r];simp
 clear f
 by_cases hlt:i<l.length
 ·have hwi:=wrapU hlt (by omega)
  have i1:=idx2 (l:=Ld) (u:=ud) (off:=0) (n:=l.length) (kk:=.i64) (X:=(i:Int)) rfl hlt
  have l1:=ld2 hd hlt
  have e119:=ev119 l[i]
  have hsucc:(l.take (i+1)).filter valB=(l.take i).filter valB++if valB l[i] then [l[i]] else []:=by
   rw [List.take_succ_eq_append_getElem hlt,List.filter_append]
   simp only [List.filter_cons,List.filter_nil]
  have hWl:((l.take i).filter valB).length≤49:=by
   have h1:=List.length_filter_le valB (l.take i)
   rw [List.length_take] at h1
   omega
  rw [Nat.zero_add] at i1
  generalize (l.take i).filter valB=W at *
  generalize l[i]=x at *
  have n1:=hLd (st.nx+64+64+64) (by omega)
  have n2:ub≤(st.nx+64+64+64):=by omega
  have n4:splice [V.int .i64 0,V.int .i64 0] 0 (valC x)=valC x:=rfl
  have n6:(valC x).take 2=valC x:=rfl
  simp [h8,f6,f7,hlt,i1,l1,objCells,fr,n2,n4,n6]
  refine kS_ev e119 (by simp) rfl (by simp [valC]) ?_
  cases hb:valB x
  ·rw [hb] at hsucc
   simp only [Bool.false_eq_true,if_false,List.append_nil] at hsucc
   simp [h8,hwi]
   rw [hsucc]
   refine ⟨hlt,?_,by simp [n1,hd],by omega⟩
   rcases hv with hv | ⟨w0,u,hv1,hv2,hv3,hv4⟩
   ·exact .inl hv
   ·have q1:¬ 2 * u=2 * (st.nx+64+64+64):=by omega
    exact .inr ⟨w0,u,hv1,by simp [q1,hv2],hv3,by omega⟩
  ·rw [hb] at hsucc
   simp only [if_true] at hsucc
   simp [h8,objCells,n6]
   have m1:¬ Ld=2 * (st.nx+64+64+64+64+64+64+64+64+64)+1:=hLd _ (by omega)
   have m2:¬ Ld=2 * (st.nx+64+64+64+64+64+64+64+64+64+64)+1:=hLd _ (by omega)
   refine kS_buildSlO (cs:=valC x) (by simp [splice,valC]) rfl (by simp) ?_
   simp
   rcases hv with ⟨w0,w3⟩ | ⟨w0,u,hv1,hv2,hv3,hv4⟩
   ·refine kS_appendO_nil (n:=0) (cs:=[]) (ys:=valC x) (by simp [w3]) (by simp [slCells,objCells,n6]) (by simp [valC]) (by decide) (by simp) (by simp [valC]) (by simp [valC]) ?_
    simp [h8,hwi]
    refine ⟨hlt,?_,by simp [n1,m1,m2,hd],by omega⟩
    rw [hsucc,w0]
    exact .inr ⟨by simp,(st.nx+64+64+64+64+64+64+64+64+64+64),by simp [valC],by simp,by omega,by omega⟩
   ·have q1:¬ 2 * u=2 * (st.nx+64+64+64):=by omega
    have q2:¬ 2 * u=2 * (st.nx+64+64+64+64+64+64+64+64+64):=by omega
    have m3:=hLd u hv3
    refine kS_appendO (l:=2 * u+1) (u:=u) (n:=W.length) (cs:=W.flatMap valC) (ys:=valC x) (by simp [hv1]) (by simp [slCells,objCells,n6]) (by simp [q1,q2,hv2]) (by simp [valC]) (by simp [fr,hv3]) (by rw [flatMap_len valC_len];omega) (by decide) (by simp) (by simp [valC];omega) (by simp [valC];omega) ?_
    simp [h8,hwi]
    refine ⟨hlt,?_,by simp [n1,m1,m2,m3,hd],by omega⟩
    rw [hsucc]
    refine .inr ⟨by simp,(st.nx+64+64+64+64+64+64+64+64+64+64),by simp [valC],?_,by omega,by omega⟩
    simp
    exact List.take_of_length_le (by rw [flatMap_len valC_len];omega)
 ·have:i=l.length:=by omega
  subst this
  rw [List.take_length] at hv
  rcases hv with ⟨w0,_⟩ | ⟨w0,u,hv1,hv2,hv3,hv4⟩
  ·exact absurd w0 hne
  obtain ⟨L,hL⟩:=toVV (l.filter valB) fun x hx=>(List.mem_filter.1 hx).2
  have hLl:L.length=(l.filter valB).length:=by rw [← hL,List.length_map]
  have hWl:(l.filter valB).length≤49:=Nat.le_trans (List.length_filter_le _ _) hl
  rw [← hLl] at hv1
  rw [← hL,← vv_flat] at hv2
  simp [h8,f7]
  refine kS_callP (vs:=[.osl (2 * u+1) u 0 L.length 2,CF]) (by simp [hv1]) rfl (Vs.sv120 (by omega) (by simpa using hv2) (by simp [fr,hv3]) (fun m hm=>by first | omega | (simp at hm;omega)) (by simp [fr];omega)) ?_
  rintro v ob1 tk1 ub1 ⟨T,hT,hat⟩
  simp only at hat
  have hTl:T.length=L.length:=hT.1.length_eq.symm
  obtain ⟨T',hT'⟩:∃ T',T.map (·.1)=T':=⟨_,rfl⟩
  have hTl':T'.length=T.length:=by rw [← hT',List.length_map]
  have hat1:=hat.1
  rw [vv_flat,hT'] at hat1
  simp
  refine kS_callP (vs:=[.osl (2 * u+1) u 0 T'.length 2]) (by simp [hv1,hTl',hTl]) rfl (sv123 (T:=T') (by omega) (by simpa using hat1) (by simp [fr,hv3])) ?_
  rintro v2 ob2 tk2 ub2 ⟨hr1,⟨cs,hcs,hcl,hcn,hct⟩,hoth,htk2,hub2⟩
  simp only at hr1 hcs hct hcl hcn
  subst hr1
  simp
  have hC:compTo T' T'.length=sortV l:=sortedV_is ⟨L,T,hL,hT,by rw [hT']⟩
  rw [hC] at hct hcn ⊢
  refine kEnd_vals (L:=2 * u+1) (u:=u) (cs:=cs) (by simp [fd]) (by simp) (by simp [hcs]) (by simp [fr,hv3]) (by rw [hcl,hTl',hTl,hLl]) (by omega) ?_ hct
  have hne':sortV l≠[]:=by
   intro e
   cases hf:l.filter valB with
   | nil=>exact w0 hf
   | cons x r =>
    have h1:x∈l.filter valB:=by rw [hf];exact List.mem_cons_self ..
    have h2:=((sortV_strict l).2 x).2 (List.mem_filter.1 h1)
    rw [e] at h2
    cases h2
  exact List.length_pos_iff.2 hne'
end Go.Pv.T

/- What a lost read may have read: the program's walk. -/
namespace Go.Pv.T
open Go Go.Pv
def valsOf (P:List (Int × Val')):List Val':=⟨0,0⟩::P.map (·.2)
theorem valsOf_ne (P:List (Int × Val')):(valsOf P).filter valB≠[]:=by
 unfold valsOf
 rw [List.filter_cons,if_pos (by decide)]
 simp
theorem valsOf_perm {P R:List (Int × Val')} (h:P.Perm R):(valsOf P).Perm (valsOf R):=(h.map _).cons _
def valuesR (g:Hist') (a b:Int):V:=match opAt g a b with
 | some o=>if o.w then .sl none true 0 [] else valsV ((valsOf (othersOf g a o.key (writersH g o.key))).filter valB).length (sortV (valsOf (othersOf g a o.key (writersH g o.key))))
 | none=>.sl none true 0 []
def ValsP (ob:Nat→Option Obj') (p:Nat→Prop) (l:List Val') (v:V):Prop:=∃ u,v = .osl (2 * u+1) u 0 l.length 2∧ob (2 * u+1)=some ⟨u,.cells (l.flatMap valC)⟩∧p u
theorem ValsP.frame {ob ob':Nat→Option Obj'} {p p':Nat→Prop} {l:List Val'} {v:V} (h:ValsP ob p l v) (hf:∀ u,p u→ob' (2 * u+1)=ob (2 * u+1)) (hh:∀ u,p u→p' u):ValsP ob' p' l v:=by
 obtain ⟨u,h2,h3,h4⟩:=h
 exact ⟨u,h2,(hf u h4).trans h3,hh u h4⟩
theorem retVals {ub n:Nat} {C:List Val'} {K:Delta→Prop} (h:∀ t add,(t.isSome=(n == C.length))→(∀ p,t=some p→p=(ub,2)∧add=[ub])→K { v:=.sl t false C.length (C.flatMap valC),add:=add }):wpD (retA ub (valsV n C)) K:=by
 unfold valsV
 by_cases e:n=C.length
 ·rw [if_pos e]
  have:retA ub (.sl (some (0,2)) false C.length (C.flatMap valC))=some { v:=.sl (some (ub,2)) false C.length (C.flatMap valC),add:=[ub] }:=by simp [retA,toksRes,V.toks,V.tok,inRes,inTop,inLeaf,Nat.blt]
  rw [this,wpD_some]
  exact h _ _ (by simp [e]) (fun p hp=>by cases hp;exact ⟨rfl,rfl⟩)
 ·rw [if_neg e,retA_slnone,wpD_some]
  exact h _ _ (by simp [e]) (fun p hp=>by cases hp)
theorem endV_tokZ {n u m z:Nat} {st:St} {cs:List V} (hd:st.df=[]) (h:st.tm n = .sl (some (u,z)) false m cs) (ht:st.tk u=true):endV [.t n] (.ret,st)=some (.sl (some (0,z)) false m cs):=by
 simp only [endV,dfOk_of hd,noDf_of hd,if_true,List.mapM_cons,List.mapM_nil,resOf,h]
 simp [outRes,outTops,outTop,outLeaf,V.toks,V.tok,nodup,ht]
set_option maxRecDepth 100000 in
theorem ev30 {g:Hist'} (hs:Small g) (a b:Int):Ev E 30 [.agg (histC g),.agg (placeC (a,b))] (valuesR g a b):=by
 have e74:=ev74 hs a b
 refine Ev_wpK (af:=F30) rfl ?_
 unfold valuesR
 cases hop:opAt g a b with
 | none =>
  rw [hop] at e74
  simp [F30,histC,objCells,placeC]
  refine kS_ev e74 (by simp [histC,placeC]) rfl (by simp [histC,placeC]) ?_
  rw [retA_tupl (by simp [V.plain,opC])]
  simp [splice,opC,op0,objCells]
  exact endV_1 (by simp) (by simp) rfl
 | some o =>
  rw [hop] at e74
  simp only [Option.getD_some,Option.any_some] at e74
  have hmay:mayH g=true:=by
   unfold opAt at hop
   cases hm:mayH g
   ·rw [hm] at hop;cases hop
   ·rfl
  have hts:=may_ts hmay
  simp [F30,histC,objCells,placeC]
  refine kS_ev e74 (by simp [histC,placeC]) rfl (by simp [histC,placeC]) ?_
  rw [retA_tupl (by simp [V.plain,opC])]
  cases hw:o.w
  ·simp [splice,opC,objCells]
   obtain ⟨OTH,hOTH⟩:∃ l,othersOf g a o.key (writersH g o.key)=l:=⟨_,rfl⟩
   refine kS_buildSlO (cs:=valC ⟨0,0⟩) (by simp [splice,valC]) rfl (by simp) ?_
   simp [objCells]
   refine kS_callP (vs:=[.agg (histC g),.int .i64 a,.int .i64 o.key]) (by simp [histC]) rfl (sv75 hs hmay a o.key (by simp)) ?_
   rintro w ob1 tk1 ub1 ⟨M,U,ver,e1,e2,e3,e4,e5,e6,e7⟩
   simp only at e1 e3 e5 e6 e7
   subst e1
   simp
   refine kS_rangeMap (l:=2 * M+1) (u:=U) (ver:=ver) (by simp) (by simpa using e5) ?_
   simp
   refine wpC_gen fun st hst=>?_
   have hub0:1024≤ub1:=by first | omega | (simp at e7;omega)
   have hM0:1024≤M:=by first | omega | (simp at e2;omega)
   have hMu:M<ub1:=by first | omega | (simp at e3;omega)
   rw [hOTH] at e5 hst ⊢
   have g7:st.tm 7 = .osl 1921 960 0 1 2:=by rw [hst];simp
   have g26:st.tm 26 = .iter (2 * ub1+1) ub1:=by rw [hst];simp
   have gd:st.df=[]:=by rw [hst];simp
   have gr:st.ro=0:=by rw [hst];simp
   have gn:ub1<st.nx:=by rw [hst];simp
   have gf:∀ k,k≠2 * ub1+1→st.ob k=ob1 k:=by
    intro k hk
    rw [hst];simp [hk]
   have pi:st.ob (2 * ub1+1)=some ⟨ub1,.miter (2 * M+1) U ver (MP valV OTH) none⟩:=by rw [hst];simp
   have pm:st.ob (2 * M+1)=some ⟨U,.mp ver (MP valV OTH)⟩:=(gf _ (by omega)).trans e5
   have p7:st.ob 1921=some ⟨960,.cells (valC ⟨0,0⟩)⟩:=(gf _ (by omega)).trans ((e6 _ (fun m hm=>by first | omega | (simp at hm;omega))).trans (by simp))
   have pv:ValsP st.ob (fun u=>960≤u∧u≠M∧u≠ub1∧u<st.nx) (valsOf []) (.osl 1921 960 0 1 2):=⟨960,rfl,p7,by omega,by omega,by omega,by omega⟩
   clear hst e6 e5 p7
   obtain ⟨J,hJ⟩:∃ J:Nat→St→Prop,J=fun n s=>∃ (P m':List (Int × Val')) (v:V) (last:Option (V × V)),n=m'.length∧(P++m').Perm OTH∧s.tm 7=v∧ValsP s.ob (fun u=>960≤u∧u≠M∧u≠ub1∧u<s.nx) (valsOf P) v ∧
    s.ob (2 * ub1+1)=some ⟨ub1,.miter (2 * M+1) U ver (MP valV m') last⟩∧s.ob (2 * M+1)=some ⟨U,.mp ver (MP valV OTH)⟩∧ub1<s.nx:=⟨_,rfl⟩
   refine wp_loopF (n:=OTH.length) [(7,9),(27,34)] J rfl rfl (by rw [hJ];exact ⟨[],OTH,_,none,rfl,by simp,g7,pv,pi,pm,gn⟩) ?_
   clear g7 pv pi pm gn
   intro n s hJs f
   rw [hJ] at hJs
   obtain ⟨P,m',v,last,rfl,hperm,h7,⟨u,rfl,hu1,hu2,hu3,hu4,hu5⟩,oi,om,hn1⟩:=hJs
   have f26:s.tm 26 = .iter (2 * ub1+1) ub1:=by rw [f.t 26 (by simp)];exact g26
   have fd:s.df=[]:=by rw [f.d];exact gd
   have fr:s.ro=0:=by rw [f.r];exact gr
   clear f
   have hPl:(P++m').length≤40:=by
    rw [hperm.length_eq,← hOTH]
    unfold othersOf
    rw [List.length_map]
    have:=List.length_filter_le (fun i=>!(i == a)) (writersH g o.key)
    have:=writers_len g o.key
    omega
   rw [List.length_append] at hPl
   have hvl:(valsOf P).length=P.length+1:=by simp [valsOf]
   simp
   refine kS_nextMap (l:=2 * ub1+1) (u:=ub1) (l':=2 * M+1) (u':=U) (ver:=ver) (es:=MP valV OTH) (left:=MP valV m') (by simp [f26]) oi om (by simp [fr]) ?_ ?_
   ·intro hemp
    have hm0:m'=[]:=by
     unfold MP at hemp
     exact List.map_eq_nil_iff.1 hemp
    subst hm0
    rw [List.append_nil] at hperm
    have hpp:=valsOf_perm hperm
    rw [← sortV_perm hpp,← (hpp.filter valB).length_eq]
    simp [h7]
    have e79:=fun (ob:Nat→Option Obj') (tk:Nat→Bool) (base ub:Nat) (hub:u<ub) (ho:ob (2 * u+1)=some ⟨u,.cells ((valsOf P).flatMap valC)⟩)=>evo79 (tk:=tk) (base:=base) (ub:=ub) (l:=valsOf P) (by omega) (valsOf_ne P) (Ld:=2 * u+1) (ud:=u) (fun m hm=>by omega) ho
    refine kS_callO (vs:=[.osl (2 * u+1) u 0 (valsOf P).length 2]) (by simp) rfl rfl (e79 _ _ _ _ (by omega) (by simp [hu1])) ?_
    refine retVals fun t add ht hta=>?_
    simp
    cases t with
    | none =>
     have hn:¬ ((valsOf P).filter valB).length=(sortV (valsOf P)).length:=by
      intro e
      rw [e] at ht
      simp at ht
     unfold valsV
     rw [if_neg hn]
     exact endV_1 (by simp [fd]) (by simp) rfl
    | some p =>
     obtain ⟨rfl,rfl⟩:=hta p rfl
     have hn:((valsOf P).filter valB).length=(sortV (valsOf P)).length:=by simpa using ht.symm
     unfold valsV
     rw [if_pos hn]
     exact endV_tokZ (by simp [fd]) (by simp;rfl) (by simp [app_tk])
   ·intro A k w B hsp
    obtain ⟨A',q,B',rfl,rfl,rfl,rfl,rfl⟩:=MP_split hsp
    have hperm':((P++[q])++(A'++B')).Perm OTH:=by
     refine List.Perm.trans ?_ hperm
     rw [List.append_assoc]
     exact List.Perm.append_left _ (by simpa using List.perm_middle.symm)
    have nM:¬ 2 * M=2 * ub1:=by omega
    simp
    refine kS_entry (l:=2 * ub1+1) (u:=ub1) (l':=2 * M+1) (u':=U) (ver:=ver) (es:=MP valV OTH) (left:=MP valV A'++MP valV B') (k:=.int .i64 q.1) (v:=valV q.2) (by simp [f26]) (by simp) (by simp [nM,om]) ?_
    have hsv:splice [V.int .i64 0,V.int .i64 0] 0 (valC q.2)=valC q.2:=rfl
    have htv:(valC q.2).take 2=valC q.2:=rfl
    simp [valV,hsv,htv,fr,objCells]
    refine kS_buildSlO (cs:=valC q.2) (by simp [splice,valC]) rfl (by simp) ?_
    simp [h7]
    have a1:¬ 2 * u=2 * (s.nx+64+64+64+64):=by omega
    have a2:¬ 2 * u=2 * (s.nx+64+64+64+64+64+64+64+64):=by omega
    have a3:¬ 2 * u=2 * ub1:=by omega
    have b1:¬ 2 * ub1=2 * (s.nx+64+64+64+64):=by omega
    have b2:¬ 2 * ub1=2 * (s.nx+64+64+64+64+64+64+64+64):=by omega
    have b3:¬ 2 * ub1=2 * (s.nx+64+64+64+64+64+64+64+64+64):=by omega
    have b4:¬ 2 * ub1=2 * u:=by omega
    have c1:¬ 2 * M=2 * (s.nx+64+64+64+64):=by omega
    have c2:¬ 2 * M=2 * (s.nx+64+64+64+64+64+64+64+64):=by omega
    have c3:¬ 2 * M=2 * (s.nx+64+64+64+64+64+64+64+64+64):=by omega
    have c4:¬ 2 * M=2 * u:=by omega
    have hvs:valsOf (P++[q])=valsOf P++[q.2]:=by simp [valsOf]
    refine kS_appendO (l:=2 * u+1) (u:=u) (n:=(valsOf P).length) (cs:=(valsOf P).flatMap valC) (ys:=valC q.2) (by simp) (by simp [slCells,objCells,htv]) (by simp [a1,a2,a3,hu1]) (by simp [valC]) (by simp [fr]) (by rw [flatMap_len valC_len];omega) (by decide) (by simp) (by simp [valC];simp at hPl;omega) (by simp [valC];simp at hPl;omega) ?_
    simp
    refine ⟨(A'++B').length,by simp,?_⟩
    rw [hJ]
    refine ⟨P++[q],A'++B',_,some (.int .i64 q.1,valV q.2),rfl,hperm',by simp;rfl,⟨(s.nx+64+64+64+64+64+64+64+64+64),?_,?_,by omega,by omega,by omega,by simp⟩,?_,?_,by simp;omega⟩
    ·rw [hvs];simp [valC]
    ·rw [hvs]
     simp
     exact List.take_of_length_le (by rw [flatMap_len valC_len];omega)
    ·simp [b1,b2,b3,b4,MP_app,valV]
    ·simp [c1,c2,c3,c4,nM,om]
  ·simp [splice,opC,objCells]
   exact endV_1 (by simp) (by simp) rfl
end Go.Pv.T

/- What a lost read may have read: the reference's list. -/
namespace Go.Pv.T
open Go Go.Pv
def refVals (ts:List Txn') (a key:Int):Nat→List Val'
 | 0=>[⟨0,0⟩]
 | n+1=>refVals ts a key n++(match ts[n]? with | some t=>if (!((n:Int) == a) && (t.f != 2)) && (rawTo key t.ops t.ops.length).2 then [(rawTo key t.ops t.ops.length).1] else [] | none=>[])
theorem refVals_succ {ts:List Txn'} {a key:Int} {n:Nat} (h:n<ts.length):refVals ts a key (n+1)=refVals ts a key n++if (!((n:Int) == a) && (ts[n].f != 2)) && (rawTo key ts[n].ops ts[n].ops.length).2 then [(rawTo key ts[n].ops ts[n].ops.length).1] else []:=by
 simp [refVals,List.getElem?_eq_getElem h]
theorem refVals_len (ts:List Txn') (a key:Int):∀ n,(refVals ts a key n).length≤n+1
 | 0=>by simp [refVals]
 | n+1=>by
  have:=refVals_len ts a key n
  simp only [refVals,List.length_append]
  split
  ·split <;> simp <;> omega
  ·simp;omega
theorem refVals_eq {g:Hist'} (hm:mayH g=true) (a key:Int):∀ n,n≤g.ts.length→refVals g.ts a key n=⟨0,0⟩::((numsTo (wrB key) g.ts n).filter fun i=>!(i == a)).map fun i=>leaveOf g key i
 | 0,_=>by simp [refVals,numsTo]
 | n+1,h=>by
  rw [refVals_succ (by omega),numsTo_succ (by omega),List.filter_append,List.map_append,refVals_eq hm a key n (by omega),List.cons_append]
  congr 2
  have hr:=rawTo_any key (g.ts[n]).ops (g.ts[n]).ops.length (Nat.le_refl _)
  rw [List.take_length] at hr
  have hl:=leaveOf_at hm key (show n<g.ts.length by omega)
  unfold wrB
  rw [hr]
  cases h1:(g.ts[n].ops.any (wkB key)) <;> cases h2:(g.ts[n].f != 2) <;> cases h3:((n:Int) == a) <;> simp [List.filter_cons,h3,hl]
theorem refVals_others {g:Hist'} (hm:mayH g=true) (a key:Int):refVals g.ts a key g.ts.length=valsOf (othersOf g a key (writersH g key)):=by
 rw [refVals_eq hm a key _ (Nat.le_refl _)]
 unfold valsOf othersOf writersH
 rw [List.map_map]
 rfl
def valsH (g:Hist') (a b:Int):List Val':=match opAt g a b with
 | some o=>if o.w then [] else sortV (valsOf (othersOf g a o.key (writersH g o.key)))
 | none=>[]
set_option maxRecDepth 100000 in
theorem ev31 {g:Hist'} (hs:Small g) (a b:Int):∃ v,Ev E 31 [.agg (histC g),.agg (placeC (a,b))] v∧SlR v false (valsH g a b).length ((valsH g a b).flatMap valC):=by
 have e77:=ev77 hs a b
 refine Ev_wpE (af:=F31) rfl (by decide) ?_
 unfold valsH
 cases hop:opAt g a b with
 | none =>
  rw [hop] at e77
  simp [F31,histC,placeC,objCells]
  refine kS_ev e77 (by simp [histC,placeC]) rfl (by simp [histC,placeC]) ?_
  simp
  refine kS_buildSl (cs:=[]) rfl rfl rfl ?_
  simp
  exact slE (t:=some (448,2)) (nl:=false) (k:=0) (cs:=[]) (fun r h=>h) (by simp) (by simp)
 | some o =>
  rw [hop] at e77
  simp only [Option.any_some] at e77
  have hmay:mayH g=true:=by
   unfold opAt at hop
   cases hm:mayH g
   ·rw [hm] at hop;cases hop
   ·rfl
  have hts:=may_ts hmay
  simp [F31,histC,placeC,objCells]
  refine kS_ev e77 (by simp [histC,placeC]) rfl (by simp [histC,placeC]) ?_
  cases hw:o.w
  ·obtain ⟨i,j,rfl,rfl,hi,hj,ho⟩:=opAt_some hop
   have hl3:(g.ts.flatMap txnC)[i * 3+2]? = some (slOf (g.ts[i]).nl opC (g.ts[i]).ops):=by
    rw [fld_at txnC_len g.ts hi (by decide:2<3)];rfl
   have hl4:((g.ts[i]).ops.flatMap opC)[j * 4+1]? = some (.int .i64 o.key):=by
    rw [fld_at opC_len (g.ts[i]).ops hj (by decide:1<4),ho];rfl
   simp
   refine kS_buildSl (cs:=valC ⟨0,0⟩) (by simp [splice,valC]) rfl (by simp [valC]) ?_
   simp
   obtain ⟨a,ha⟩:∃ a:Int,(i:Int)=a:=⟨_,rfl⟩
   refine wp_loopUp [(5,8),(16,70)] g.ts.length (fun n s=>s.tm 6 = .int .i64 n∧s.ob 4=some ⟨0,.cells (histC g)⟩∧s.ob 6=some ⟨64,.cells [.int .i64 i,.int .i64 j]⟩∧GrowT s.tk s.nx valC 2 (refVals g.ts i o.key n) (s.tm 5)) rfl rfl ⟨by simp,by simp [histC],by simp,?_⟩ ?_
   ·exact ⟨512,by simp [refVals],by simp [app_tk,app_tk0],by simp⟩
   rintro n s' hn ⟨h6,o4,o6,hG⟩ f
   have f2:s'.tm 2 = .ptr 4 0 0:=by rw [f.t 2 (by simp)];simp
   have f3:s'.tm 3 = .ptr 6 64 0:=by rw [f.t 3 (by simp)];simp
   have fd:s'.df=[]:=by rw [f.d];simp
   have fb:s'.fb=0:=by rw [f.b];simp
   have fr:s'.ro=0:=by rw [f.r];simp
   clear f
   by_cases hlt:n<g.ts.length
   ·have hwn:=wrapU hlt (by omega)
    have hsn:=refVals_succ (a:=i) (key:=o.key) hlt
    obtain ⟨t,ht⟩:∃ t,g.ts[n]=t:=⟨_,rfl⟩
    rw [ht] at hsn
    have hos:=hs.os t (ht ▸ List.getElem_mem hlt)
    have hll:=refVals_len g.ts i o.key n
    have hff:(g.ts.flatMap txnC)[n * 3+1]? = some (.int .i64 t.f):=by
     rw [fld_at txnC_len g.ts hlt (by decide:1<3),ht];rfl
    have hfo:(g.ts.flatMap txnC)[n * 3+2]? = some (slOf t.nl opC t.ops):=by
     rw [fld_at txnC_len g.ts hlt (by decide:2<3),ht];rfl
    have e78:=ev78 t (by omega) o.key
    simp [h6,f2,f3,o4,o6,objCells,histC,hlt,hi,hj,idx_slOf txnC_len,idx_slOf opC_len,load_slOf txnC_len,ht,hfo,hl3,hl4]
    refine kD_ev e78 (by simp [txnC]) rfl (by simp [txnC]) ?_
    rw [retA_tupl (by simp [V.plain,valC])]
    generalize (rawTo o.key t.ops t.ops.length).1=rv at *
    generalize (rawTo o.key t.ops t.ops.length).2=rb at *
    generalize refVals g.ts i o.key n=R at *
    have o4':s'.ob 4=some ⟨0,.cells [slOf g.sn strC g.ss,slOf g.kn strC g.ks,slOf g.tn txnC g.ts]⟩:=o4
    have hsv:splice [V.int .i64 0,V.int .i64 0] 0 (valC rv)=valC rv:=rfl
    have htv:(valC rv).take 2=valC rv:=rfl
    simp [objCells,fb,fr,f3,o6,h6,hsv,htv]
    refine ⟨by simp [drawOk,indep,disj,fpOf,rdOb,rdTk,lOf,Delta.wo,Delta.wt];try decide,?_⟩
    cases h1:((n:Int) != i)
    ·have h1b:((n:Int) == i)=true:=by simpa [bne] using h1
     have hsk:refVals g.ts i o.key (n+1)=R:=by rw [hsn,h1b];simp
     simp [o4',o6,h6,hwn,hlt]
     rw [hsk];exact hG.mono (fun u _ h=>by simpa [app_tk0,app_tk] using h) (by omega)
    have h1b:((n:Int) == i)=false:=by simpa [bne] using h1
    cases h2:(t.f != 2)
    ·have hsk:refVals g.ts i o.key (n+1)=R:=by rw [hsn,h1b,h2];simp
     simp [h2,f2,o4',o6,h6,hwn,objCells,hlt,idx_slOf txnC_len,hff]
     rw [hsk];exact hG.mono (fun u _ h=>by simpa [app_tk0,app_tk] using h) (by omega)
    cases rb
    ·have hsk:refVals g.ts i o.key (n+1)=R:=by rw [hsn,h1b,h2];simp
     simp [h2,f2,o4',o6,h6,hwn,objCells,hlt,idx_slOf txnC_len,hff]
     rw [hsk];exact hG.mono (fun u _ h=>by simpa [app_tk0,app_tk] using h) (by omega)
    have hsn2:refVals g.ts i o.key (n+1)=R++[rv]:=by rw [hsn,h1b,h2];simp
    simp [h2,f2,o4',h6,objCells,hlt,idx_slOf txnC_len,hff,htv]
    refine kS_buildSl (cs:=valC rv) (by simp [splice,valC]) rfl (by simp [valC]) ?_
    simp
    refine kS_appendT (f:=valC) (hi:=s'.nx) (l:=R) (a:=rv) (v:=s'.tm 5) (hG.mono (fun u _ h=>by simp [app_tk,app_tk0,h]) (Nat.le_refl _)) (by simp) (by simp [slCells]) valC_len (by decide) (by simp [valC]) (by omega) (by omega) (fun del hdel=>?_)
    have hlen:R.length+1=(refVals g.ts i o.key (n+1)).length:=by rw [hsn2];simp
    rw [← hsn2,hlen]
    simp [h6,hwn,o4',o6]
    exact ⟨hlt,_,rfl,by simp [app_tk],by omega⟩
   ·have:n=g.ts.length:=by omega
    subst this
    obtain ⟨u,hv,_,_⟩:=hG
    have hlen:=refVals_len g.ts i o.key g.ts.length
    rw [refVals_others hmay] at hv hlen
    obtain ⟨v80,e80,hv80⟩:=ev80 (a:=false) (valsOf (othersOf g i o.key (writersH g o.key))) (by omega)
    simp [h6,f2,o4,objCells,histC,hv]
    refine kS_ev e80 (by simp [slOf]) rfl (by simp [slOf]) ?_
    refine retSl hv80 fun t8 add8=>?_
    simp
    exact slE (t:=t8) (nl:=false) (k:=(sortV (valsOf (othersOf g i o.key (writersH g o.key)))).length) (cs:=(sortV (valsOf (othersOf g i o.key (writersH g o.key)))).flatMap valC) (fun r h=>h) (by simp [fd]) (by simp)
  ·simp
   refine kS_buildSl (cs:=[]) rfl rfl rfl ?_
   simp
   exact slE (t:=some (448,2)) (nl:=false) (k:=0) (cs:=[]) (fun r h=>h) (by simp) (by simp)
end Go.Pv.T

/- WriterOf, but for its fixed example. -/
namespace Go.Pv.T
open Go Go.Pv
theorem vals_given (g:Hist') (a b:Int):∃ t nl,valuesR g a b = .sl t nl (valsH g a b).length ((valsH g a b).flatMap valC)∧(t=none∨t=some (0,2)):=by
 unfold valuesR valsH
 cases opAt g a b with
 | none=>exact ⟨none,true,rfl,.inl rfl⟩
 | some o =>
  simp only
  cases o.w
  ·simp only [Bool.false_eq_true,if_false,valsV]
   refine ⟨_,false,rfl,?_⟩
   split
   ·exact .inr rfl
   ·exact .inl rfl
  ·exact ⟨none,true,rfl,.inl rfl⟩
theorem sort_len (l:List Val'):(sortV l).length≤l.length:=by
 have:=sortTo_len l l.length (Nat.le_refl _)
 unfold sortTo at this
 rw [List.take_length] at this
 exact this
theorem valsH_len {g:Hist'} (a b:Int):(valsH g a b).length≤41:=by
 unfold valsH
 cases hop:opAt g a b with
 | none=>simp
 | some o =>
  simp only
  cases o.w
  ·have hmay:mayH g=true:=by
    unfold opAt at hop
    cases hm:mayH g
    ·rw [hm] at hop;cases hop
    ·rfl
   have hts:=may_ts hmay
   have h1:=sort_len (valsOf (othersOf g a o.key (writersH g o.key)))
   have h2:=refVals_len g.ts a o.key g.ts.length
   rw [refVals_others hmay] at h2
   simp only [Bool.false_eq_true,if_false]
   omega
  ·simp
theorem ofH_len' (g:Hist') (a b:Int):(ofH g a b).length≤41:=by
 cases hm:mayH g
 ·unfold ofH opAt
  simp [hm]
 ·exact ofH_len hm a b
set_option maxRecDepth 100000 in
theorem ev6_of (ev25:Ev E 25 [] (.bool true)) (h:Hist') (a b:Int):Ev E 6 [.agg (histC h),.agg [.int .i64 a,.int .i64 b]] (.bool true):=by
 obtain ⟨r,ev,hr⟩:=ev14 h
 obtain ⟨r2,ev2,hr2⟩:=ev14 (fewH h)
 rw [fewH_few] at hr2
 have hs:=small_few h
 generalize fewH h=g at *
 have e27:=ev27 hs a b
 obtain ⟨v28,e28,hv28⟩:=ev28' hs a b
 have e30:=ev30 hs a b
 obtain ⟨v31,e31,hv31⟩:=ev31 hs a b
 have hol:=ofH_len' g a b
 have hvl:=valsH_len (g:=g) a b
 obtain ⟨nl,hnum⟩:=numR_intsV (ofH g a b)
 obtain ⟨t,nl3,hgv,htv⟩:=vals_given g a b
 have h30:SlR (valuesR g a b) nl3 (valsH g a b).length ((valsH g a b).flatMap valC):=⟨t,hgv,fun p hp=>by
  rcases htv with rfl | rfl
  ·simp at hp
  ·simp at hp;subst hp;decide⟩
 have e26:=ev26 (a:=nl) (b:=false) (ofH g a b) (ofH g a b) (by omega) (by omega)
 have e29:=ev29 (a:=nl3) (b:=false) (valsH g a b) (valsH g a b) (by omega) (by omega)
 rw [beq_self_eq_true] at e26 e29
 refine Ev_wpK (af:=F6) rfl ?_
 simp [F6,histC,objCells]
 refine kS_ev ev (by simp [histC]) rfl (by simp [histC]) ?_
 refine retHist hr fun a1 b1 c1 add1=>?_
 simp [objCells,splice]
 refine kD_ev ev2 (by simp [histC,slOf]) rfl (by simp [histC]) ?_
 refine retHist hr2 fun a2 b2 c2 add2=>?_
 simp [objCells]
 refine kD_ev e27 (by simp [histC,slOf,placeC]) rfl (by simp [histC,placeC]) ?_
 refine retSl hnum fun t27 add27=>?_
 simp [objCells]
 refine kD_ev e28 (by simp [histC,slOf,placeC]) rfl (by simp [histC,placeC]) ?_
 refine retSl hv28 fun t28 add28=>?_
 simp
 refine kD_ev e26 (by simp [slOf]) rfl (by simp [slOf]) ?_
 simp [objCells]
 refine kD_ev ev2 (by simp [histC,slOf]) rfl (by simp [histC]) ?_
 refine retHist hr2 fun a3 b3 c3 add3=>?_
 simp [objCells]
 refine kD_ev e30 (by simp [histC,slOf,placeC]) rfl (by simp [histC,placeC]) ?_
 refine retSl h30 fun t30 add30=>?_
 simp [objCells]
 refine kD_ev e31 (by simp [histC,slOf,placeC]) rfl (by simp [histC,placeC]) ?_
 refine retSl hv31 fun t31 add31=>?_
 simp
 refine kD_ev e29 (by simp [slOf]) rfl (by simp [slOf]) ?_
 simp
 refine kD_ev ev25 (by simp) rfl (by simp) ?_
 simp
 exact endV_1 rfl (by simp) rfl
end Go.Pv.T

/- WriterOf: its fixed example, by the kernel. -/
namespace Go.Pv.T
open Go Go.Pv
theorem k25:(callers E 100 noY).d 25 []=some (.bool true):=by kernel_rfl
theorem ev6 (h:Hist') (a b:Int):Ev E 6 [.agg (histC h),.agg [.int .i64 a,.int .i64 b]] (.bool true):=ev6_of ⟨100,k25⟩ h a b
end Go.Pv.T

/- The environment is what the program's code says. -/
namespace Go.Pv.T
open Go Go.Pv Go.Proofs

theorem afOk_of {P:Program} {m r:Bool} {f:FuncId} {fn:Func} {af:AF} (h1:P.funcs[f]? = some fn) (h2:compF P m r fn=some af) (h3:(fn.name == "runtime.NumGoroutine")=false) (h4:af.body.dstOk fn.ntmps=true):AfOk P r f af:=by
  unfold compF at h2
  cases hb:fn.body with
  | none=>rw [hb] at h2;cases h2
  | some c =>
    rw [hb,Option.bind_some] at h2
    cases hc:comp P m r c with
    | none=>rw [hc] at h2;cases h2
    | some b =>
      rw [hc,Option.bind_some] at h2
      cases hr:fn.results.toList.mapM (compRes P) with
      | none=>rw [hr] at h2;cases h2
      | some res =>
        rw [hr] at h2
        cases h2
        exact ⟨m,fn,c,h1,hb,hc,hr,h3,h4⟩

theorem okc6:AfOk Tryz.prog false 6 F6:=afOk_of (m:=false) Tryz.func6 (by kernel_rfl) (by kernel_rfl) (by kernel_rfl)
theorem okc14:AfOk Tryz.prog false 14 F14:=afOk_of (m:=false) Tryz.func14 (by kernel_rfl) (by kernel_rfl) (by kernel_rfl)
theorem okc21:AfOk Tryz.prog false 21 F21:=afOk_of (m:=false) Tryz.func21 (by kernel_rfl) (by kernel_rfl) (by kernel_rfl)
theorem okc23:AfOk Tryz.prog false 23 F23:=afOk_of (m:=false) Tryz.func23 (by kernel_rfl) (by kernel_rfl) (by kernel_rfl)
theorem okc25:AfOk Tryz.prog false 25 F25:=afOk_of (m:=false) Tryz.func25 (by kernel_rfl) (by kernel_rfl) (by kernel_rfl)
theorem okc26:AfOk Tryz.prog false 26 F26:=afOk_of (m:=false) Tryz.func26 (by kernel_rfl) (by kernel_rfl) (by kernel_rfl)
theorem okc27:AfOk Tryz.prog false 27 F27:=afOk_of (m:=true) Tryz.func27 (by kernel_rfl) (by kernel_rfl) (by kernel_rfl)
theorem okc28:AfOk Tryz.prog false 28 F28:=afOk_of (m:=false) Tryz.func28 (by kernel_rfl) (by kernel_rfl) (by kernel_rfl)
theorem okc29:AfOk Tryz.prog false 29 F29:=afOk_of (m:=false) Tryz.func29 (by kernel_rfl) (by kernel_rfl) (by kernel_rfl)
theorem okc30:AfOk Tryz.prog false 30 F30:=afOk_of (m:=true) Tryz.func30 (by kernel_rfl) (by kernel_rfl) (by kernel_rfl)
theorem okc31:AfOk Tryz.prog false 31 F31:=afOk_of (m:=false) Tryz.func31 (by kernel_rfl) (by kernel_rfl) (by kernel_rfl)
theorem okc32:AfOk Tryz.prog false 32 F32:=afOk_of (m:=true) Tryz.func32 (by kernel_rfl) (by kernel_rfl) (by kernel_rfl)
theorem okc67:AfOk Tryz.prog false 67 F67:=afOk_of (m:=false) Tryz.func67 (by kernel_rfl) (by kernel_rfl) (by kernel_rfl)
theorem okc70:AfOk Tryz.prog false 70 F70:=afOk_of (m:=false) Tryz.func70 (by kernel_rfl) (by kernel_rfl) (by kernel_rfl)
theorem okc72:AfOk Tryz.prog false 72 F72:=afOk_of (m:=false) Tryz.func72 (by kernel_rfl) (by kernel_rfl) (by kernel_rfl)
theorem okc74:AfOk Tryz.prog false 74 F74:=afOk_of (m:=false) Tryz.func74 (by kernel_rfl) (by kernel_rfl) (by kernel_rfl)
theorem okc77:AfOk Tryz.prog false 77 F77:=afOk_of (m:=false) Tryz.func77 (by kernel_rfl) (by kernel_rfl) (by kernel_rfl)
theorem okc78:AfOk Tryz.prog false 78 F78:=afOk_of (m:=false) Tryz.func78 (by kernel_rfl) (by kernel_rfl) (by kernel_rfl)
theorem okc80:AfOk Tryz.prog false 80 F80:=afOk_of (m:=false) Tryz.func80 (by kernel_rfl) (by kernel_rfl) (by kernel_rfl)
theorem okc81:AfOk Tryz.prog false 81 F81:=afOk_of (m:=false) Tryz.func81 (by kernel_rfl) (by kernel_rfl) (by kernel_rfl)
theorem okc104:AfOk Tryz.prog false 104 F104:=afOk_of (m:=false) Tryz.func104 (by kernel_rfl) (by kernel_rfl) (by kernel_rfl)
theorem okc105:AfOk Tryz.prog false 105 F105:=afOk_of (m:=true) Tryz.func105 (by kernel_rfl) (by kernel_rfl) (by kernel_rfl)
theorem okc107:AfOk Tryz.prog false 107 F107:=afOk_of (m:=false) Tryz.func107 (by kernel_rfl) (by kernel_rfl) (by kernel_rfl)
theorem okc110:AfOk Tryz.prog false 110 F110:=afOk_of (m:=false) Tryz.func110 (by kernel_rfl) (by kernel_rfl) (by kernel_rfl)
theorem okc111:AfOk Tryz.prog false 111 F111:=afOk_of (m:=false) Tryz.func111 (by kernel_rfl) (by kernel_rfl) (by kernel_rfl)
theorem okc112:AfOk Tryz.prog false 112 F112:=afOk_of (m:=false) Tryz.func112 (by kernel_rfl) (by kernel_rfl) (by kernel_rfl)
theorem okc116:AfOk Tryz.prog false 116 F116:=afOk_of (m:=false) Tryz.func116 (by kernel_rfl) (by kernel_rfl) (by kernel_rfl)
theorem okc118:AfOk Tryz.prog false 118 F118:=afOk_of (m:=false) Tryz.func118 (by kernel_rfl) (by kernel_rfl) (by kernel_rfl)
theorem okc119:AfOk Tryz.prog false 119 F119:=afOk_of (m:=false) Tryz.func119 (by kernel_rfl) (by kernel_rfl) (by kernel_rfl)
theorem okc121:AfOk Tryz.prog false 121 F121:=afOk_of (m:=false) Tryz.func121 (by kernel_rfl) (by kernel_rfl) (by kernel_rfl)
theorem okc122:AfOk Tryz.prog false 122 F122:=afOk_of (m:=false) Tryz.func122 (by kernel_rfl) (by kernel_rfl) (by kernel_rfl)
theorem okc124:AfOk Tryz.prog false 124 F124:=afOk_of (m:=false) Tryz.func124 (by kernel_rfl) (by kernel_rfl) (by kernel_rfl)
theorem okc125:AfOk Tryz.prog false 125 F125:=afOk_of (m:=false) Tryz.func125 (by kernel_rfl) (by kernel_rfl) (by kernel_rfl)
theorem okc126:AfOk Tryz.prog false 126 F126:=afOk_of (m:=false) Tryz.func126 (by kernel_rfl) (by kernel_rfl) (by kernel_rfl)
theorem okc127:AfOk Tryz.prog false 127 F127:=afOk_of (m:=false) Tryz.func127 (by kernel_rfl) (by kernel_rfl) (by kernel_rfl)
theorem okc129:AfOk Tryz.prog false 129 F129:=afOk_of (m:=false) Tryz.func129 (by kernel_rfl) (by kernel_rfl) (by kernel_rfl)
theorem okc130:AfOk Tryz.prog false 130 F130:=afOk_of (m:=false) Tryz.func130 (by kernel_rfl) (by kernel_rfl) (by kernel_rfl)
theorem okc147:AfOk Tryz.prog false 147 F147:=afOk_of (m:=false) Tryz.func147 (by kernel_rfl) (by kernel_rfl) (by kernel_rfl)
theorem okc148:AfOk Tryz.prog false 148 F148:=afOk_of (m:=false) Tryz.func148 (by kernel_rfl) (by kernel_rfl) (by kernel_rfl)
theorem okc151:AfOk Tryz.prog false 151 F151:=afOk_of (m:=false) Tryz.func151 (by kernel_rfl) (by kernel_rfl) (by kernel_rfl)
theorem okc153:AfOk Tryz.prog false 153 F153:=afOk_of (m:=false) Tryz.func153 (by kernel_rfl) (by kernel_rfl) (by kernel_rfl)
theorem okc155:AfOk Tryz.prog false 155 F155:=afOk_of (m:=false) Tryz.func155 (by kernel_rfl) (by kernel_rfl) (by kernel_rfl)
theorem okc163:AfOk Tryz.prog false 163 F163:=afOk_of (m:=false) Tryz.func163 (by kernel_rfl) (by kernel_rfl) (by kernel_rfl)
theorem okc166:AfOk Tryz.prog false 166 F166:=afOk_of (m:=false) Tryz.func166 (by kernel_rfl) (by kernel_rfl) (by kernel_rfl)
theorem okc167:AfOk Tryz.prog false 167 F167:=afOk_of (m:=false) Tryz.func167 (by kernel_rfl) (by kernel_rfl) (by kernel_rfl)
theorem okc168:AfOk Tryz.prog false 168 F168:=afOk_of (m:=false) Tryz.func168 (by kernel_rfl) (by kernel_rfl) (by kernel_rfl)
theorem okc169:AfOk Tryz.prog false 169 F169:=afOk_of (m:=false) Tryz.func169 (by kernel_rfl) (by kernel_rfl) (by kernel_rfl)
theorem okc171:AfOk Tryz.prog false 171 F171:=afOk_of (m:=false) Tryz.func171 (by kernel_rfl) (by kernel_rfl) (by kernel_rfl)
theorem okc172:AfOk Tryz.prog false 172 F172:=afOk_of (m:=false) Tryz.func172 (by kernel_rfl) (by kernel_rfl) (by kernel_rfl)
theorem okc173:AfOk Tryz.prog false 173 F173:=afOk_of (m:=false) Tryz.func173 (by kernel_rfl) (by kernel_rfl) (by kernel_rfl)
theorem okc174:AfOk Tryz.prog false 174 F174:=afOk_of (m:=false) Tryz.func174 (by kernel_rfl) (by kernel_rfl) (by kernel_rfl)
theorem okc188:AfOk Tryz.prog false 188 F188:=afOk_of (m:=false) Tryz.func188 (by kernel_rfl) (by kernel_rfl) (by kernel_rfl)
theorem okc189:AfOk Tryz.prog false 189 F189:=afOk_of (m:=false) Tryz.func189 (by kernel_rfl) (by kernel_rfl) (by kernel_rfl)
theorem okc190:AfOk Tryz.prog false 190 F190:=afOk_of (m:=false) Tryz.func190 (by kernel_rfl) (by kernel_rfl) (by kernel_rfl)
theorem okc191:AfOk Tryz.prog false 191 F191:=afOk_of (m:=false) Tryz.func191 (by kernel_rfl) (by kernel_rfl) (by kernel_rfl)
theorem okc192:AfOk Tryz.prog false 192 F192:=afOk_of (m:=false) Tryz.func192 (by kernel_rfl) (by kernel_rfl) (by kernel_rfl)
theorem okc193:AfOk Tryz.prog false 193 F193:=afOk_of (m:=false) Tryz.func193 (by kernel_rfl) (by kernel_rfl) (by kernel_rfl)
theorem okc194:AfOk Tryz.prog false 194 F194:=afOk_of (m:=false) Tryz.func194 (by kernel_rfl) (by kernel_rfl) (by kernel_rfl)
theorem okc195:AfOk Tryz.prog false 195 F195:=afOk_of (m:=false) Tryz.func195 (by kernel_rfl) (by kernel_rfl) (by kernel_rfl)
theorem okc198:AfOk Tryz.prog false 198 F198:=afOk_of (m:=false) Tryz.func198 (by kernel_rfl) (by kernel_rfl) (by kernel_rfl)
theorem okc199:AfOk Tryz.prog false 199 F199:=afOk_of (m:=false) Tryz.func199 (by kernel_rfl) (by kernel_rfl) (by kernel_rfl)
theorem okc201:AfOk Tryz.prog false 201 F201:=afOk_of (m:=false) Tryz.func201 (by kernel_rfl) (by kernel_rfl) (by kernel_rfl)
theorem okc205:AfOk Tryz.prog false 205 F205:=afOk_of (m:=false) Tryz.func205 (by kernel_rfl) (by kernel_rfl) (by kernel_rfl)
theorem okc214:AfOk Tryz.prog false 214 F214:=afOk_of (m:=false) Tryz.func214 (by kernel_rfl) (by kernel_rfl) (by kernel_rfl)
theorem okc215:AfOk Tryz.prog false 215 F215:=afOk_of (m:=false) Tryz.func215 (by kernel_rfl) (by kernel_rfl) (by kernel_rfl)
theorem okc216:AfOk Tryz.prog false 216 F216:=afOk_of (m:=false) Tryz.func216 (by kernel_rfl) (by kernel_rfl) (by kernel_rfl)
theorem okc224:AfOk Tryz.prog false 224 F224:=afOk_of (m:=false) Tryz.func224 (by kernel_rfl) (by kernel_rfl) (by kernel_rfl)
theorem okc225:AfOk Tryz.prog false 225 F225:=afOk_of (m:=false) Tryz.func225 (by kernel_rfl) (by kernel_rfl) (by kernel_rfl)
theorem okc227:AfOk Tryz.prog false 227 F227:=afOk_of (m:=false) Tryz.func227 (by kernel_rfl) (by kernel_rfl) (by kernel_rfl)
theorem okc228:AfOk Tryz.prog false 228 F228:=afOk_of (m:=false) Tryz.func228 (by kernel_rfl) (by kernel_rfl) (by kernel_rfl)
theorem okc229:AfOk Tryz.prog false 229 F229:=afOk_of (m:=false) Tryz.func229 (by kernel_rfl) (by kernel_rfl) (by kernel_rfl)
theorem okc230:AfOk Tryz.prog false 230 F230:=afOk_of (m:=false) Tryz.func230 (by kernel_rfl) (by kernel_rfl) (by kernel_rfl)
theorem okc231:AfOk Tryz.prog false 231 F231:=afOk_of (m:=false) Tryz.func231 (by kernel_rfl) (by kernel_rfl) (by kernel_rfl)
theorem okc232:AfOk Tryz.prog false 232 F232:=afOk_of (m:=false) Tryz.func232 (by kernel_rfl) (by kernel_rfl) (by kernel_rfl)
theorem okc233:AfOk Tryz.prog false 233 F233:=afOk_of (m:=false) Tryz.func233 (by kernel_rfl) (by kernel_rfl) (by kernel_rfl)
theorem okc234:AfOk Tryz.prog false 234 F234:=afOk_of (m:=false) Tryz.func234 (by kernel_rfl) (by kernel_rfl) (by kernel_rfl)
theorem okc235:AfOk Tryz.prog false 235 F235:=afOk_of (m:=false) Tryz.func235 (by kernel_rfl) (by kernel_rfl) (by kernel_rfl)
theorem okc239:AfOk Tryz.prog false 239 F239:=afOk_of (m:=false) Tryz.func239 (by kernel_rfl) (by kernel_rfl) (by kernel_rfl)
theorem okc247:AfOk Tryz.prog false 247 F247:=afOk_of (m:=false) Tryz.func247 (by kernel_rfl) (by kernel_rfl) (by kernel_rfl)
theorem okc248:AfOk Tryz.prog false 248 F248:=afOk_of (m:=false) Tryz.func248 (by kernel_rfl) (by kernel_rfl) (by kernel_rfl)
theorem okc249:AfOk Tryz.prog false 249 F249:=afOk_of (m:=false) Tryz.func249 (by kernel_rfl) (by kernel_rfl) (by kernel_rfl)
theorem okc250:AfOk Tryz.prog false 250 F250:=afOk_of (m:=false) Tryz.func250 (by kernel_rfl) (by kernel_rfl) (by kernel_rfl)
theorem okc251:AfOk Tryz.prog false 251 F251:=afOk_of (m:=false) Tryz.func251 (by kernel_rfl) (by kernel_rfl) (by kernel_rfl)
theorem okc252:AfOk Tryz.prog false 252 F252:=afOk_of (m:=false) Tryz.func252 (by kernel_rfl) (by kernel_rfl) (by kernel_rfl)
theorem okc253:AfOk Tryz.prog false 253 F253:=afOk_of (m:=false) Tryz.func253 (by kernel_rfl) (by kernel_rfl) (by kernel_rfl)
theorem okc256:AfOk Tryz.prog false 256 F256:=afOk_of (m:=false) Tryz.func256 (by kernel_rfl) (by kernel_rfl) (by kernel_rfl)
theorem okc261:AfOk Tryz.prog false 261 F261:=afOk_of (m:=false) Tryz.func261 (by kernel_rfl) (by kernel_rfl) (by kernel_rfl)
theorem okc262:AfOk Tryz.prog false 262 F262:=afOk_of (m:=false) Tryz.func262 (by kernel_rfl) (by kernel_rfl) (by kernel_rfl)
theorem okc263:AfOk Tryz.prog false 263 F263:=afOk_of (m:=false) Tryz.func263 (by kernel_rfl) (by kernel_rfl) (by kernel_rfl)
theorem okc265:AfOk Tryz.prog false 265 F265:=afOk_of (m:=false) Tryz.func265 (by kernel_rfl) (by kernel_rfl) (by kernel_rfl)
theorem okc267:AfOk Tryz.prog false 267 F267:=afOk_of (m:=false) Tryz.func267 (by kernel_rfl) (by kernel_rfl) (by kernel_rfl)
theorem okc271:AfOk Tryz.prog false 271 F271:=afOk_of (m:=false) Tryz.func271 (by kernel_rfl) (by kernel_rfl) (by kernel_rfl)
theorem okc280:AfOk Tryz.prog false 280 F280:=afOk_of (m:=false) Tryz.func280 (by kernel_rfl) (by kernel_rfl) (by kernel_rfl)
theorem oks75:AfOk Tryz.prog true 75 S75:=afOk_of (m:=true) Tryz.func75 (by kernel_rfl) (by kernel_rfl) (by kernel_rfl)
theorem oks76:AfOk Tryz.prog true 76 S76:=afOk_of (m:=true) Tryz.func76 (by kernel_rfl) (by kernel_rfl) (by kernel_rfl)
theorem oks79:AfOk Tryz.prog true 79 S79:=afOk_of (m:=true) Tryz.func79 (by kernel_rfl) (by kernel_rfl) (by kernel_rfl)
theorem oks82:AfOk Tryz.prog true 82 S82:=afOk_of (m:=true) Tryz.func82 (by kernel_rfl) (by kernel_rfl) (by kernel_rfl)
theorem oks102:AfOk Tryz.prog true 102 S102:=afOk_of (m:=true) Tryz.func102 (by kernel_rfl) (by kernel_rfl) (by kernel_rfl)
theorem oks108:AfOk Tryz.prog true 108 S108:=afOk_of (m:=true) Tryz.func108 (by kernel_rfl) (by kernel_rfl) (by kernel_rfl)
theorem oks109:AfOk Tryz.prog true 109 S109:=afOk_of (m:=true) Tryz.func109 (by kernel_rfl) (by kernel_rfl) (by kernel_rfl)
theorem oks113:AfOk Tryz.prog true 113 S113:=afOk_of (m:=true) Tryz.func113 (by kernel_rfl) (by kernel_rfl) (by kernel_rfl)
theorem oks114:AfOk Tryz.prog true 114 S114:=afOk_of (m:=true) Tryz.func114 (by kernel_rfl) (by kernel_rfl) (by kernel_rfl)
theorem oks115:AfOk Tryz.prog true 115 S115:=afOk_of (m:=true) Tryz.func115 (by kernel_rfl) (by kernel_rfl) (by kernel_rfl)
theorem oks117:AfOk Tryz.prog true 117 S117:=afOk_of (m:=true) Tryz.func117 (by kernel_rfl) (by kernel_rfl) (by kernel_rfl)
theorem oks120:AfOk Tryz.prog true 120 S120:=afOk_of (m:=true) Tryz.func120 (by kernel_rfl) (by kernel_rfl) (by kernel_rfl)
theorem oks123:AfOk Tryz.prog true 123 S123:=afOk_of (m:=true) Tryz.func123 (by kernel_rfl) (by kernel_rfl) (by kernel_rfl)
theorem oks146:AfOk Tryz.prog true 146 S146:=afOk_of (m:=true) Tryz.func146 (by kernel_rfl) (by kernel_rfl) (by kernel_rfl)
theorem oks149:AfOk Tryz.prog true 149 S149:=afOk_of (m:=true) Tryz.func149 (by kernel_rfl) (by kernel_rfl) (by kernel_rfl)
theorem oks150:AfOk Tryz.prog true 150 S150:=afOk_of (m:=true) Tryz.func150 (by kernel_rfl) (by kernel_rfl) (by kernel_rfl)
theorem oks152:AfOk Tryz.prog true 152 S152:=afOk_of (m:=true) Tryz.func152 (by kernel_rfl) (by kernel_rfl) (by kernel_rfl)
theorem oks154:AfOk Tryz.prog true 154 S154:=afOk_of (m:=true) Tryz.func154 (by kernel_rfl) (by kernel_rfl) (by kernel_rfl)
theorem oks156:AfOk Tryz.prog true 156 S156:=afOk_of (m:=true) Tryz.func156 (by kernel_rfl) (by kernel_rfl) (by kernel_rfl)
theorem oks157:AfOk Tryz.prog true 157 S157:=afOk_of (m:=true) Tryz.func157 (by kernel_rfl) (by kernel_rfl) (by kernel_rfl)
theorem oks158:AfOk Tryz.prog true 158 S158:=afOk_of (m:=true) Tryz.func158 (by kernel_rfl) (by kernel_rfl) (by kernel_rfl)
theorem oks159:AfOk Tryz.prog true 159 S159:=afOk_of (m:=true) Tryz.func159 (by kernel_rfl) (by kernel_rfl) (by kernel_rfl)
theorem oks160:AfOk Tryz.prog true 160 S160:=afOk_of (m:=true) Tryz.func160 (by kernel_rfl) (by kernel_rfl) (by kernel_rfl)
theorem oks161:AfOk Tryz.prog true 161 S161:=afOk_of (m:=true) Tryz.func161 (by kernel_rfl) (by kernel_rfl) (by kernel_rfl)
theorem oks162:AfOk Tryz.prog true 162 S162:=afOk_of (m:=true) Tryz.func162 (by kernel_rfl) (by kernel_rfl) (by kernel_rfl)
theorem oks164:AfOk Tryz.prog true 164 S164:=afOk_of (m:=true) Tryz.func164 (by kernel_rfl) (by kernel_rfl) (by kernel_rfl)
theorem oks165:AfOk Tryz.prog true 165 S165:=afOk_of (m:=true) Tryz.func165 (by kernel_rfl) (by kernel_rfl) (by kernel_rfl)
theorem oks170:AfOk Tryz.prog true 170 S170:=afOk_of (m:=true) Tryz.func170 (by kernel_rfl) (by kernel_rfl) (by kernel_rfl)
theorem oks175:AfOk Tryz.prog true 175 S175:=afOk_of (m:=true) Tryz.func175 (by kernel_rfl) (by kernel_rfl) (by kernel_rfl)
theorem oks196:AfOk Tryz.prog true 196 S196:=afOk_of (m:=true) Tryz.func196 (by kernel_rfl) (by kernel_rfl) (by kernel_rfl)
theorem oks197:AfOk Tryz.prog true 197 S197:=afOk_of (m:=true) Tryz.func197 (by kernel_rfl) (by kernel_rfl) (by kernel_rfl)
theorem oks200:AfOk Tryz.prog true 200 S200:=afOk_of (m:=true) Tryz.func200 (by kernel_rfl) (by kernel_rfl) (by kernel_rfl)
theorem oks202:AfOk Tryz.prog true 202 S202:=afOk_of (m:=true) Tryz.func202 (by kernel_rfl) (by kernel_rfl) (by kernel_rfl)
theorem oks204:AfOk Tryz.prog true 204 S204:=afOk_of (m:=true) Tryz.func204 (by kernel_rfl) (by kernel_rfl) (by kernel_rfl)
theorem oks206:AfOk Tryz.prog true 206 S206:=afOk_of (m:=true) Tryz.func206 (by kernel_rfl) (by kernel_rfl) (by kernel_rfl)
theorem oks207:AfOk Tryz.prog true 207 S207:=afOk_of (m:=true) Tryz.func207 (by kernel_rfl) (by kernel_rfl) (by kernel_rfl)
theorem oks208:AfOk Tryz.prog true 208 S208:=afOk_of (m:=true) Tryz.func208 (by kernel_rfl) (by kernel_rfl) (by kernel_rfl)
theorem oks209:AfOk Tryz.prog true 209 S209:=afOk_of (m:=true) Tryz.func209 (by kernel_rfl) (by kernel_rfl) (by kernel_rfl)
theorem oks210:AfOk Tryz.prog true 210 S210:=afOk_of (m:=true) Tryz.func210 (by kernel_rfl) (by kernel_rfl) (by kernel_rfl)
theorem oks211:AfOk Tryz.prog true 211 S211:=afOk_of (m:=true) Tryz.func211 (by kernel_rfl) (by kernel_rfl) (by kernel_rfl)
theorem oks212:AfOk Tryz.prog true 212 S212:=afOk_of (m:=true) Tryz.func212 (by kernel_rfl) (by kernel_rfl) (by kernel_rfl)
theorem oks213:AfOk Tryz.prog true 213 S213:=afOk_of (m:=true) Tryz.func213 (by kernel_rfl) (by kernel_rfl) (by kernel_rfl)
theorem oks217:AfOk Tryz.prog true 217 S217:=afOk_of (m:=true) Tryz.func217 (by kernel_rfl) (by kernel_rfl) (by kernel_rfl)
theorem oks236:AfOk Tryz.prog true 236 S236:=afOk_of (m:=true) Tryz.func236 (by kernel_rfl) (by kernel_rfl) (by kernel_rfl)
theorem oks237:AfOk Tryz.prog true 237 S237:=afOk_of (m:=true) Tryz.func237 (by kernel_rfl) (by kernel_rfl) (by kernel_rfl)
theorem oks238:AfOk Tryz.prog true 238 S238:=afOk_of (m:=true) Tryz.func238 (by kernel_rfl) (by kernel_rfl) (by kernel_rfl)
theorem oks240:AfOk Tryz.prog true 240 S240:=afOk_of (m:=true) Tryz.func240 (by kernel_rfl) (by kernel_rfl) (by kernel_rfl)
theorem oks241:AfOk Tryz.prog true 241 S241:=afOk_of (m:=true) Tryz.func241 (by kernel_rfl) (by kernel_rfl) (by kernel_rfl)
theorem oks243:AfOk Tryz.prog true 243 S243:=afOk_of (m:=true) Tryz.func243 (by kernel_rfl) (by kernel_rfl) (by kernel_rfl)
theorem oks254:AfOk Tryz.prog true 254 S254:=afOk_of (m:=true) Tryz.func254 (by kernel_rfl) (by kernel_rfl) (by kernel_rfl)
theorem oks255:AfOk Tryz.prog true 255 S255:=afOk_of (m:=true) Tryz.func255 (by kernel_rfl) (by kernel_rfl) (by kernel_rfl)
theorem oks257:AfOk Tryz.prog true 257 S257:=afOk_of (m:=true) Tryz.func257 (by kernel_rfl) (by kernel_rfl) (by kernel_rfl)
theorem oks264:AfOk Tryz.prog true 264 S264:=afOk_of (m:=true) Tryz.func264 (by kernel_rfl) (by kernel_rfl) (by kernel_rfl)
theorem oks272:AfOk Tryz.prog true 272 S272:=afOk_of (m:=true) Tryz.func272 (by kernel_rfl) (by kernel_rfl) (by kernel_rfl)
set_option maxRecDepth 100000 in
theorem fcOk_1 {f:FuncId} {af:AF} (h:fc_1 f=some af):AfOk Tryz.prog false f af:=by
  unfold fc_1 at h
  split at h
  · cases h;exact okc174
  · cases h;exact okc188
  · cases h;exact okc189
  · cases h;exact okc190
  · cases h;exact okc191
  · cases h;exact okc192
  · cases h;exact okc193
  · cases h;exact okc194
  · cases h;exact okc195
  · cases h;exact okc198
  · cases h;exact okc199
  · cases h;exact okc201
  · cases h;exact okc205
  · cases h;exact okc214
  · cases h;exact okc215
  · cases h;exact okc216
  · cases h;exact okc224
  · cases h;exact okc225
  · cases h;exact okc227
  · cases h;exact okc228
  · cases h;exact okc229
  · cases h;exact okc230
  · cases h;exact okc231
  · cases h;exact okc232
  · cases h;exact okc233
  · cases h;exact okc234
  · cases h;exact okc235
  · cases h;exact okc239
  · cases h;exact okc247
  · cases h;exact okc248
  · cases h;exact okc249
  · cases h;exact okc250
  · cases h;exact okc251
  · cases h;exact okc252
  · cases h;exact okc253
  · cases h;exact okc256
  · cases h;exact okc261
  · cases h;exact okc262
  · cases h;exact okc263
  · cases h;exact okc265
  · cases h;exact okc267
  · cases h;exact okc271
  · cases h;exact okc280
  · cases h
set_option maxRecDepth 100000 in
theorem fcOk_0 {f:FuncId} {af:AF} (h:fc f=some af):AfOk Tryz.prog false f af:=by
  unfold fc at h
  split at h
  · cases h;exact okc6
  · cases h;exact okc14
  · cases h;exact okc21
  · cases h;exact okc23
  · cases h;exact okc25
  · cases h;exact okc26
  · cases h;exact okc27
  · cases h;exact okc28
  · cases h;exact okc29
  · cases h;exact okc30
  · cases h;exact okc31
  · cases h;exact okc32
  · cases h;exact okc67
  · cases h;exact okc70
  · cases h;exact okc72
  · cases h;exact okc74
  · cases h;exact okc77
  · cases h;exact okc78
  · cases h;exact okc80
  · cases h;exact okc81
  · cases h;exact okc104
  · cases h;exact okc105
  · cases h;exact okc107
  · cases h;exact okc110
  · cases h;exact okc111
  · cases h;exact okc112
  · cases h;exact okc116
  · cases h;exact okc118
  · cases h;exact okc119
  · cases h;exact okc121
  · cases h;exact okc122
  · cases h;exact okc124
  · cases h;exact okc125
  · cases h;exact okc126
  · cases h;exact okc127
  · cases h;exact okc129
  · cases h;exact okc130
  · cases h;exact okc147
  · cases h;exact okc148
  · cases h;exact okc151
  · cases h;exact okc153
  · cases h;exact okc155
  · cases h;exact okc163
  · cases h;exact okc166
  · cases h;exact okc167
  · cases h;exact okc168
  · cases h;exact okc169
  · cases h;exact okc171
  · cases h;exact okc172
  · cases h;exact okc173
  · exact fcOk_1 h
set_option maxRecDepth 100000 in
theorem fsOk_1 {f:FuncId} {af:AF} (h:fs_1 f=some af):AfOk Tryz.prog true f af:=by
  unfold fs_1 at h
  split at h
  · cases h;exact oks255
  · cases h;exact oks257
  · cases h;exact oks264
  · cases h;exact oks272
  · cases h
set_option maxRecDepth 100000 in
theorem fsOk_0 {f:FuncId} {af:AF} (h:fs f=some af):AfOk Tryz.prog true f af:=by
  unfold fs at h
  split at h
  · cases h;exact oks75
  · cases h;exact oks76
  · cases h;exact oks79
  · cases h;exact oks82
  · cases h;exact oks102
  · cases h;exact oks108
  · cases h;exact oks109
  · cases h;exact oks113
  · cases h;exact oks114
  · cases h;exact oks115
  · cases h;exact oks117
  · cases h;exact oks120
  · cases h;exact oks123
  · cases h;exact oks146
  · cases h;exact oks149
  · cases h;exact oks150
  · cases h;exact oks152
  · cases h;exact oks154
  · cases h;exact oks156
  · cases h;exact oks157
  · cases h;exact oks158
  · cases h;exact oks159
  · cases h;exact oks160
  · cases h;exact oks161
  · cases h;exact oks162
  · cases h;exact oks164
  · cases h;exact oks165
  · cases h;exact oks170
  · cases h;exact oks175
  · cases h;exact oks196
  · cases h;exact oks197
  · cases h;exact oks200
  · cases h;exact oks202
  · cases h;exact oks204
  · cases h;exact oks206
  · cases h;exact oks207
  · cases h;exact oks208
  · cases h;exact oks209
  · cases h;exact oks210
  · cases h;exact oks211
  · cases h;exact oks212
  · cases h;exact oks213
  · cases h;exact oks217
  · cases h;exact oks236
  · cases h;exact oks237
  · cases h;exact oks238
  · cases h;exact oks240
  · cases h;exact oks241
  · cases h;exact oks243
  · cases h;exact oks254
  · exact fsOk_1 h
theorem envOk:EnvOk Tryz.prog E:=⟨fun _ _ h=>fcOk_0 h,fun _ _ h=>fsOk_0 h⟩
end Go.Pv.T

/- The row's side, the same for every law of the seat. -/
namespace Go.Pv.T
open Go Go.Pv Go.Proofs Go.ChangeShapes Go.WideShapes Go.ChangeAt Go.RowKit Go.Proofs.YtopjfnbonjmnjaaGreatDoor

theorem own:ownKnob Tryz.prog.godebug=none:=by kernel_rfl
theorem laidOut:laidOutB Tryz.prog=true:=by kernel_rfl
theorem mixed:Tryz.prog.follows .mixedOrders=true:=by kernel_rfl

def laidL:List (String × DataW Unit):=[("unicode/utf8.acceptRanges",Rows.laid_unicode_utf8_acceptRanges),("deemster/event.words",Rows.laid_deemster_event_words),("unicode/utf8.first",Rows.laid_unicode_utf8_first)]

def litVal:V→Value
  | .int k n=>.int k n
  | .str s=>.string ⟨s.toArray⟩
  | _=>.nilFunc
def putCells (h:Array Obj) (g:Nat) (cs:Array Value):Array Obj:=h.modify g fun
    | .cells _ t frozen=>.cells cs t frozen
    | o=>o
def acceptCells:Array Value:=#[.int .u8 128,.int .u8 191,.int .u8 160,.int .u8 191,.int .u8 128,.int .u8 159,.int .u8 144,.int .u8 191,.int .u8 128,.int .u8 143,.int .u8 0,.int .u8 0,.int .u8 0,.int .u8 0,.int .u8 0,.int .u8 0,.int .u8 0,.int .u8 0,.int .u8 0,.int .u8 0,.int .u8 0,.int .u8 0,.int .u8 0,.int .u8 0,.int .u8 0,.int .u8 0,.int .u8 0,.int .u8 0,.int .u8 0,.int .u8 0,.int .u8 0,.int .u8 0]
noncomputable def laidWorld (os:Os):World :=
  let w0:=World.holding Tryz.prog os ⟨#[],#[],[]⟩
  { w0 with heap:=putCells (putCells (putCells w0.heap 0 (words.map litVal).toArray) 1 (utf8first.map litVal).toArray) 2 acceptCells }
set_option maxRecDepth 100000 in
theorem door_met (os:Os) (args:Array Value):laidMetH Tryz.prog laidL ((laidWorld os).forCall (fun _ _=>0) ⟨#[],args,[]⟩).memory:=by
  rw [MakeChecks.laidMetH_plain _ _ _ (by kernel_rfl)]
  exact laidMet_of_run' 8 (by kernel_rfl) (by kernel_rfl)

theorem gWords:Tryz.prog.globalNamed "deemster/event.words" = some 0:=by kernel_rfl
theorem gFirst:Tryz.prog.globalNamed "unicode/utf8.first" = some 1:=by kernel_rfl
theorem tWords:(Tryz.prog.globals[0]?).map (·.type)=some 274:=by kernel_rfl
theorem tFirst:(Tryz.prog.globals[1]?).map (·.type)=some 286:=by kernel_rfl

def cellsI (W:World):IMap:=fun b o=>W.cell? ⟨b,o,none⟩
theorem cellsI_ok (W:World):ImmOk (cellsI W) W:=fun _ _ _ h=>h

def litV:DataW Unit→V
  | .lit (.int k n)=>.int k n
  | .lit (.string s)=>.str s
  | _=>.undef

theorem arr_rep {W:World} {t e:TypeId} {n fuel:Nat} {cs:List Value} {ds:List (DataW Unit)} {p:List MemPlace} (ht:Tryz.prog.underlying t=some (.array n e)) (hc:Tryz.prog.cellsOf e=1)
    (he:Tryz.prog.underlying e=some .string∨∃ k,Tryz.prog.underlying e=some (.int k)) (h:DataW.trod (fun _=>()) Tryz.prog W 0 (fun _=>true) false fuel t cs=some (.agg ds,p)) (I:IMap) :
    ∀ (j:Nat) (d:DataW Unit),ds[j]? = some d→∃ x,cs[j]? = some x∧RepP I x (litV d):=by
  obtain ⟨xs,m,rfl,hx,hlen,hn,hel⟩:=DataW.trod_array ht h
  intro j d hd
  simp only [Prod.mk.injEq,DataW.agg.injEq] at hx
  rw [hx.1,List.getElem?_map] at hd
  cases hy:xs[j]? with
  | none=>simp [hy] at hd
  | some y =>
    rw [hy] at hd
    simp only [Option.map_some,Option.some.injEq] at hd
    have hj:j<n:=by rw [← hn];exact (List.getElem?_eq_some_iff.1 hy).1
    have:=hel j hj
    rw [hc,Nat.mul_one,hy] at this
    have one:∀ c,(cs.drop j).take 1=[c]→cs[j]? = some c:=by
      intro c hcc
      have:=congrArg List.head? hcc
      simpa [List.head?_take,List.head?_drop] using this
    rcases he with he | ⟨k,he⟩
    · obtain ⟨s,e1,e2,_⟩:=DataW.trod_string he this
      refine ⟨_,one _ e1,?_⟩
      rw [← hd,e2]
      exact RepP.str s
    · obtain ⟨s,e1,e2,_⟩:=DataW.trod_int he this
      refine ⟨_,one _ e1,?_⟩
      rw [← hd,e2]
      exact RepP.int k s

theorem gl_rep {W:World} {nm:String} {g:Nat} {cs:Array Value} {ds:List (DataW Unit)} (hg:Tryz.prog.globalNamed nm=some g) (hv:W.var? Tryz.prog nm=some cs) (hp:(ds.map litV).all V.pureLeaf=true)
    (h:∀ (j:Nat) (d:DataW Unit),ds[j]? = some d→∃ x,cs.toList[j]? = some x∧RepP (cellsI W) x (litV d)):RepP (cellsI W) (.pointer (some ⟨g,0,none⟩)) (.eptr (ds.map litV) 0):=by
  have hc:=World.var?_cell hg hv
  refine RepP.eptr g 0 0 (ds.map litV) (fun j=>(cs[j]?).getD .nilFunc) (fun j hj=>?_) (fun j v hj=>?_) (fun j v hj=>?_)
  · rw [List.length_map] at hj
    obtain ⟨x,hx,_⟩:=h j ds[j] (List.getElem?_eq_getElem hj)
    have hx':cs[j]? = some x:=by simpa using hx
    show W.cell? ⟨g,0+j,none⟩=_
    rw [Nat.zero_add,hc j,hx']
    rfl
  · exact List.all_eq_true.1 hp v (List.mem_of_getElem? hj)
  · rw [List.getElem?_map] at hj
    cases hd:ds[j]? with
    | none=>rw [hd] at hj;cases hj
    | some d =>
      rw [hd] at hj
      cases hj
      obtain ⟨x,hx,hr⟩:=h j d hd
      have hx':cs[j]? = some x:=by simpa using hx
      rw [hx']
      exact hr

def aggOf:DataW Unit→List (DataW Unit)
  | .agg l=>l
  | _=>[]
theorem words_eq:(aggOf Rows.laid_deemster_event_words).map litV=words:=by kernel_rfl
theorem first_eq:(aggOf Rows.laid_unicode_utf8_first).map litV=utf8first:=by kernel_rfl
theorem first_agg:Rows.laid_unicode_utf8_first = .agg (aggOf Rows.laid_unicode_utf8_first):=by kernel_rfl
theorem words_pure:((aggOf Rows.laid_deemster_event_words).map litV).all V.pureLeaf=true:=by kernel_rfl
theorem first_pure:((aggOf Rows.laid_unicode_utf8_first).map litV).all V.pureLeaf=true:=by kernel_rfl

theorem all_below {H:Type} {enc:TypeId × Value→H} {W W':World} (hb:Below W.heap.size W W'):∀ {ts:List TypeId} {vs:List Value} {ds:List (DataW H)} {ps:List MemPlace},
    (∀ t∈ts,Tryz.prog.readableRec t=true∧t<Tryz.prog.types.size)→(∀ x∈ps,x.block<W.heap.size) →
    DataW.TrodAll enc Tryz.prog W 0 (fun _=>true) true ts vs ds ps→DataW.TrodAll enc Tryz.prog W' 0 (fun b=>decide (b<W.heap.size)) true ts vs ds ps
  | [],[],[],_,_,_,h=>h
  | t::ts,v::vs,d::ds,_,ht,hlt,⟨p,q,h1,h2,e⟩=>by
    subst e
    exact ⟨p,q,Below.trod laidOut (ht t (List.mem_cons_self ..)).1 (ht t (List.mem_cons_self ..)).2 h1 hb (fun x hx=>hlt x (List.mem_append_left _ hx)),
      all_below hb (fun t' h'=>ht t' (List.mem_cons_of_mem _ h')) (fun x hx=>hlt x (List.mem_append_right _ hx)) h2,rfl⟩
  | [],_::_,_,_,_,_,h=>h.elim
  | [],[],_::_,_,_,_,h=>h.elim
  | _::_,[],_,_,_,_,h=>h.elim
  | _::_,_::_,[],_,_,_,h=>h.elim

theorem post_true {H:Type} {enc:TypeId × Value→H} {fn:Func} {s:ChangeSpec} {W W':World} {args:Array Value} {ds gs:List (DataW H)} {before:List MemPlace} (hW:DataW.Whole enc Tryz.prog fn.params.toList s.vars false W args.toList ds gs before)
    (hv:s.vars=[]) (hr:fn.resultTypes = #[4]) (hs:(s.fn H ds).results=[.lit (.bool true)]) (ha:(s.fn H ds).args=ds) (hvs:(s.fn H ds).vars=[])
    (ht:∀ t∈fn.params.toList,Tryz.prog.readableRec t=true∧t<Tryz.prog.types.size) (hg:W.grownBy W' none):s.post enc Tryz.prog fn false true false false W args (.bool true) W':=by
  have hb:Below W.heap.size W W':=(Below.refl _ W).grown hg (Nat.le_refl _) (fun _ h=>by cases h)
  have hW':=hW
  obtain ⟨p,q,hA,hV,rfl,_,_⟩:=hW
  rw [hv] at hV
  obtain ⟨rfl,rfl⟩:=trodVars_none hV
  have hlt:∀ x∈p,x.block<W.heap.size:=fun x hx=>by simpa using hW'.lt x (List.mem_append_left _ hx)
  refine ⟨ds,[],_,[],p,[],hW',?_,?_,?_,hb.frame _,fun h=>by cases h⟩
  · rw [List.append_nil,hs,hr]
    exact trodAll_mk1 (shut_bool Tryz.underlying4 _)
  · rw [List.append_nil,ha]
    exact all_below hb ht hlt hA
  · rw [List.append_nil,hvs,hv]
    rfl
end Go.Pv.T

/- Data that come in, of whatever plain type, as the interpreter has them. -/
namespace Go.Pv.T
open Go Go.Pv Go.Proofs Go.ChangeShapes Go.WideShapes Go.ChangeAt Go.RowKit
inductive Ty where
 | bool
 | int (k:IntKind)
 | str
 | unit
 | pair (a b:Ty)
 | slice (t:Ty)
def Ty.cells:Ty→Nat
 | .unit=>0
 | .pair a b=>a.cells+b.cells
 | _=>1
inductive Sh:Ty→List V→Prop where
 | bool (b:Bool):Sh .bool [.bool b]
 | int (k:IntKind) (n:Int):Sh (.int k) [.int k n]
 | str (s:List UInt8):Sh .str [.str s]
 | unit:Sh .unit []
 | pair {a b:Ty} {va vb:List V} (ha:Sh a va) (hb:Sh b vb):Sh (.pair a b) (va++vb)
 | nil {t:Ty}:Sh (.slice t) [.sl none true 0 []]
 | slice {t:Ty} (es:List (List V)) (hn:es.length≤maxLen) (h:∀ e∈es,Sh t e):Sh (.slice t) [.sl none false es.length es.flatten]
def fieldsTy (P:Program) (g:TypeId→Option Ty):List Field→Nat→Option Ty
 | [],_=>some .unit
 | f::r,off=>if f.offset=off then (g f.type).bind fun a=>if P.cellsOf f.type=a.cells then (fieldsTy P g r (off+a.cells)).map (.pair a) else none else none
def tyOf (P:Program):Nat→TypeId→Option Ty
 | 0,_=>none
 | n+1,t=>match P.underlying t with
  | some .bool=>some .bool
  | some (.int k)=>some (.int k)
  | some .string=>some .str
  | some (.slice e)=>(tyOf P n e).bind fun ty=>if P.cellsOf e=ty.cells then some (.slice ty) else none
  | some (.struct fs)=>(fieldsTy P (tyOf P n) fs.toList 0).bind fun ty=>if P.cellsOf t=ty.cells then some ty else none
  | _=>none
theorem Sh.len {t:Ty} {vs:List V} (h:Sh t vs):vs.length=t.cells:=by
 induction h with
 | pair _ _ iha ihb=>simp [Ty.cells,iha,ihb]
 | _=>rfl
theorem Sh.pure {t:Ty} {vs:List V} (h:Sh t vs):∀ v∈vs,v.pureLeaf=true:=by
 induction h with
 | pair _ _ iha ihb=>intro v hv;rcases List.mem_append.1 hv with h | h;exact iha v h;exact ihb v h
 | unit=>intro v hv;cases hv
 | _=>intro v hv;rw [List.mem_singleton] at hv;subst hv;rfl
def Reps (I:IMap) (cs:List Value) (vs:List V):Prop:=cs.length=vs.length∧∀ (j:Nat) (x:Value) (v:V),cs[j]? = some x→vs[j]? = some v→RepP I x v
theorem Reps.one {I:IMap} {x:Value} {v:V} (h:RepP I x v):Reps I [x] [v] :=
 ⟨rfl,fun j y u hj hu=>by
  match j,hj,hu with
  | 0,hj,hu=>cases hj;cases hu;exact h
  | j+1,hj,_=>simp at hj⟩
theorem flat_get {α:Type} {sz:Nat} (hs:0<sz):∀ (es:List (List α)),(∀ e∈es,e.length=sz)→∀ j,es.flatten[j]? = (es[j / sz]?).bind fun e=>e[j % sz]?
 | [],_,j=>by simp
 | e::es,h,j=>by
  have he:=h e (List.mem_cons_self ..)
  rw [List.flatten_cons,List.getElem?_append,he]
  split
  ·rename_i hlt
   rw [Nat.div_eq_of_lt hlt,Nat.mod_eq_of_lt hlt]
   rfl
  ·rename_i hge
   have hj:j=(j - sz)+sz:=by omega
   rw [flat_get hs es (fun e he=>h e (List.mem_cons_of_mem _ he)) (j - sz)]
   conv=>rhs;rw [hj,Nat.add_div_right _ hs,Nat.add_mod_right]
   rfl
theorem flat_len {α:Type} {sz:Nat}:∀ (es:List (List α)),(∀ e∈es,e.length=sz)→es.flatten.length=es.length * sz
 | [],_=>by simp
 | e::es,h=>by
  rw [List.flatten_cons,List.length_append,h e (List.mem_cons_self ..),flat_len es (fun e he=>h e (List.mem_cons_of_mem _ he)),List.length_cons,Nat.succ_mul]
  omega
section
variable {H:Type} {enc:TypeId × Value→H} {W:World} {P:Program}
theorem pick_list {α:Type} {p:Nat→α→Prop}:∀ (n:Nat),(∀ i,i<n→∃ a,p i a)→∃ l:List α,l.length=n∧∀ i a,l[i]? = some a→p i a
 | 0,_=>⟨[],rfl,fun i a h=>by simp at h⟩
 | n+1,h=>by
  obtain ⟨l,h1,h2⟩:=pick_list n (fun i hi=>h i (by omega))
  obtain ⟨a,ha⟩:=h n (by omega)
  refine ⟨l++[a],by simp [h1],fun i b hb=>?_⟩
  rw [List.getElem?_append] at hb
  split at hb
  ·exact h2 i b hb
  ·rename_i hge
   have:i=n:=by
    have:=(List.getElem?_eq_some_iff.1 hb).1
    simp at this
    omega
   subst this
   simp [h1] at hb
   subst hb
   exact ha
theorem fields_rep {g:TypeId→Option Ty} {n:Nat} {cs:List Value} (ih:∀ t ty,g t=some ty→∀ cs x,DataW.trod enc P W 0 (fun _=>true) true n t cs=some x→∃ vs,Sh ty vs∧Reps (cellsI W) cs vs) :
 ∀ (fs:List Field) (off:Nat) (ty:Ty),fieldsTy P g fs off=some ty→(∀ f∈fs,∃ x,DataW.trod enc P W 0 (fun _=>true) true n f.type ((cs.drop f.offset).take (P.cellsOf f.type))=some x)→cs.length=off+ty.cells →
  ∃ vs,Sh ty vs∧Reps (cellsI W) (cs.drop off) vs
 | [],off,ty,h,_,hl=>by
  simp only [fieldsTy,Option.some.injEq] at h
  subst h
  simp only [Ty.cells,Nat.add_zero] at hl
  exact ⟨[],.unit,by simp [hl],fun j x v _ hv=>by simp at hv⟩
 | f::r,off,ty,h,hx,hl=>by
  simp only [fieldsTy] at h
  split at h
  ·rename_i hoff
   cases hg:g f.type with
   | none=>rw [hg] at h;cases h
   | some a =>
    rw [hg,Option.bind_some] at h
    split at h
    ·rename_i hc
     cases hr:fieldsTy P g r (off+a.cells) with
     | none=>rw [hr] at h;cases h
     | some b =>
      rw [hr] at h
      cases h
      simp only [Ty.cells] at hl
      obtain ⟨x,hx0⟩:=hx f (List.mem_cons_self ..)
      obtain ⟨va,ha,hra⟩:=ih f.type a hg _ _ hx0
      obtain ⟨vb,hb,hrb⟩:=fields_rep ih r (off+a.cells) b hr (fun f' hf=>hx f' (List.mem_cons_of_mem _ hf)) (by omega)
      refine ⟨va++vb,.pair ha hb,?_,fun j y u hj hu=>?_⟩
      ·have:=ha.len;have:=hb.len
       simp only [List.length_drop,List.length_append]
       omega
      ·rw [hoff,hc] at hra
       rw [List.getElem?_append] at hu
       rw [ha.len] at hu
       rw [List.getElem?_drop] at hj
       split at hu
       ·rename_i hlt
        exact hra.2 j y u (by rw [List.getElem?_take,if_pos hlt,List.getElem?_drop];exact hj) hu
       ·rename_i hge
        exact hrb.2 (j - a.cells) y u (by rw [List.getElem?_drop,show off+a.cells+(j - a.cells)=off+j from by omega];exact hj) hu
    ·cases h
  ·cases h
theorem rep_of:∀ (n:Nat) (t:TypeId) (ty:Ty),tyOf P n t=some ty→∀ (fuel:Nat) (cs:List Value) (x:DataW H × List MemPlace),DataW.trod enc P W 0 (fun _=>true) true fuel t cs=some x→∃ vs,Sh ty vs∧Reps (cellsI W) cs vs
 | 0,_,_,h,_,_,_,_=>by cases h
 | n+1,t,ty,h,fuel,cs,x,hx=>by
  simp only [tyOf] at h
  split at h
  ·rename_i ht
   cases h
   obtain ⟨b,rfl,_⟩:=DataW.trod_bool ht hx
   exact ⟨_,.bool b,Reps.one (.bool b)⟩
  ·rename_i k ht
   cases h
   obtain ⟨b,rfl,_⟩:=DataW.trod_int ht hx
   exact ⟨_,.int k b,Reps.one (.int k b)⟩
  ·rename_i ht
   cases h
   obtain ⟨s,rfl,_⟩:=DataW.trod_string ht hx
   exact ⟨_,.str s.data.toList,Reps.one (.str s)⟩
  ·rename_i e ht
   cases he:tyOf P n e with
   | none=>rw [he] at h;cases h
   | some te =>
    rw [he,Option.bind_some] at h
    split at h
    ·rename_i hc
     cases h
     rcases DataW.trod_slice ht hx with ⟨rfl,_⟩ | ⟨a,len,cap,elems,rest,m,_,rfl,_,_,hl,hm,hlen,hel,_,_⟩
     ·exact ⟨_,.nil,Reps.one .slnil⟩
     ·have each:∀ i,i<len→∃ vs,Sh te vs∧∃ c,W.cells? 0 (a.add (i * te.cells)) te.cells=some c∧Reps (cellsI W) c vs:=by
       intro i hi
       have h1:=hel i hi
       rw [List.getElem?_eq_getElem (by omega),hc] at h1
       obtain ⟨c,hc1,hc2⟩:=Option.bind_eq_some_iff.1 h1
       obtain ⟨vs,h3,h4⟩:=rep_of n e te he m c _ hc2
       exact ⟨vs,h3,c,hc1,h4⟩
      obtain ⟨es,h1,h2⟩:=pick_list len each
      have hsh:∀ e∈es,Sh te e:=fun e he=>by
       obtain ⟨i,hi⟩:=List.getElem?_of_mem he
       exact (h2 i e hi).1
      have hsz:∀ e∈es,e.length=te.cells:=fun e he=>(hsh e he).len
      have key:∀ (j:Nat) (v:V),es.flatten[j]? = some v→0<te.cells∧j / te.cells<len∧∃ y,W.cell? ((a.add (j / te.cells * te.cells)).add (j % te.cells))=some y∧RepP (cellsI W) y v∧v.pureLeaf=true:=by
       intro j v hj
       have h0:0<te.cells:=by
        rcases Nat.eq_zero_or_pos te.cells with h | h
        ·have:=flat_len es hsz
         rw [h,Nat.mul_zero] at this
         rw [List.length_eq_zero_iff.1 this] at hj
         simp at hj
        ·exact h
       rw [flat_get h0 es hsz] at hj
       cases hee:es[j / te.cells]? with
       | none=>rw [hee] at hj;cases hj
       | some e =>
        rw [hee,Option.bind_some] at hj
        have hlt:j / te.cells<len:=by rw [← h1];exact (List.getElem?_eq_some_iff.1 hee).1
        obtain ⟨hse,c,hcc,hrr⟩:=h2 _ e hee
        have hme:=Nat.mod_lt j h0
        have hcell:=(World.cells?_some hcc).2.2 _ hme
        have hclen:c.length=te.cells:=by rw [hrr.1,hse.len]
        rw [List.getElem?_eq_getElem (by omega)] at hcell
        exact ⟨h0,hlt,_,hcell,hrr.2 _ _ v (List.getElem?_eq_getElem (by omega)) hj,hse.pure v (List.mem_of_getElem? hj)⟩
      have spot:es.flatten≠[]→a.spot=none:=by
       intro hne
       obtain ⟨v,hv⟩:∃ v,es.flatten[0]? = some v:=by
        cases hf:es.flatten with
        | nil=>exact absurd hf hne
        | cons v l=>exact ⟨v,rfl⟩
       obtain ⟨h0,_,y,hy,_⟩:=key 0 v hv
       rw [Nat.zero_div,Nat.zero_mod,Nat.zero_mul] at hy
       simpa [Addr.add] using World.cell?_spot hy
      have cellAt:∀ (j:Nat) (v:V),es.flatten[j]? = some v→∃ y,W.cell? ⟨a.block,a.off+j,none⟩=some y∧RepP (cellsI W) y v:=by
       intro j v hj
       obtain ⟨h0,_,y,hy,hr,_⟩:=key j v hj
       have hs:=spot (fun h=>by rw [h] at hj;simp at hj)
       obtain ⟨b,off,sp⟩:=a
       simp only at hs
       subst hs
       rw [add_plain,add_plain] at hy
       refine ⟨y,?_,hr⟩
       rw [← hy,Nat.add_assoc,Nat.div_add_mod']
      rw [← h1] at hl
      refine ⟨_,.slice es (Nat.le_trans hl hm) hsh,Reps.one ?_⟩
      rw [h1] at hl ⊢
      refine RepP.sl a len cap es.flatten (fun j=>(W.cell? ⟨a.block,a.off+j,none⟩).getD .nilFunc) spot hl hm (fun j hj=>?_) (fun j v hj=>?_) (fun j v hj=>?_)
      ·obtain ⟨y,hy,_⟩:=cellAt j _ (List.getElem?_eq_getElem hj)
       show W.cell? _=some ((W.cell? _).getD _)
       rw [hy]
       rfl
      ·exact (key j v hj).2.2.choose_spec.2.2
      ·obtain ⟨y,hy,hr⟩:=cellAt j v hj
       show RepP _ ((W.cell? _).getD _) v
       rw [hy]
       exact hr
    ·cases h
  ·rename_i fs ht
   cases hf:fieldsTy P (tyOf P n) fs.toList 0 with
   | none=>rw [hf] at h;cases h
   | some b =>
    rw [hf,Option.bind_some] at h
    split at h
    ·rename_i hc
     cases h
     obtain ⟨xs,m,rfl,_,hl,hn,hel⟩:=DataW.trod_struct ht hx
     have:=fields_rep (n:=m) (cs:=cs) (fun t ty h cs x hx=>rep_of n t ty h m cs x hx) fs.toList 0 ty hf (fun f hfm=>by
      obtain ⟨i,hi⟩:=List.getElem?_of_mem hfm
      have hi':fs[i]? = some f:=by simpa using hi
      have h1:=hel i f hi'
      have hlt:i<xs.length:=by rw [hn];exact (Array.getElem?_eq_some_iff.1 hi').1
      rw [List.getElem?_eq_getElem hlt] at h1
      exact ⟨_,h1⟩) (by rw [Nat.zero_add,hl,hc])
     simpa using this
    ·cases h
  ·cases h
end
end Go.Pv.T

/- The laid variables read as the interpreter has them; a call that answers true. -/
namespace Go.Pv.T
open Go Go.Pv Go.Proofs Go.ChangeShapes Go.WideShapes Go.ChangeAt Go.RowKit Go.Proofs.YtopjfnbonjmnjaaGreatDoor

theorem arr2_rep {W:World} {t e:TypeId} {n fuel:Nat} {cs:List Value} {ds:List (DataW Unit)} {p:List MemPlace} {f0 f1:Field} {k0 k1:IntKind} (ht:Tryz.prog.underlying t=some (.array n e)) (hc:Tryz.prog.cellsOf e=2)
    (he:Tryz.prog.underlying e=some (.struct #[f0,f1])) (o0:f0.offset=0) (o1:f1.offset=1) (c0:Tryz.prog.cellsOf f0.type=1) (c1:Tryz.prog.cellsOf f1.type=1)
    (u0:Tryz.prog.underlying f0.type=some (.int k0)) (u1:Tryz.prog.underlying f1.type=some (.int k1)) (h:DataW.trod (fun _=>()) Tryz.prog W 0 (fun _=>true) false fuel t cs=some (.agg ds,p)) (I:IMap) :
    ∀ (j:Nat) (d:DataW Unit),(ds.map aggOf).flatten[j]? = some d→∃ x,cs[j]? = some x∧RepP I x (litV d):=by
  obtain ⟨xs,m,rfl,hx,hlen,hn,hel⟩:=DataW.trod_array ht h
  simp only [Prod.mk.injEq,DataW.agg.injEq] at hx
  have one:∀ (l:List Value) (j:Nat) c,(l.drop j).take 1=[c]→l[j]? = some c:=by
    intro l j c hcc
    have:=congrArg List.head? hcc
    simpa [List.head?_take,List.head?_drop] using this
  have each:∀ (j:Nat) (y:DataW Unit × List MemPlace),xs[j]? = some y→∃ d0 d1 x0 x1,y.1 = .agg [d0,d1]∧cs[j * 2]? = some x0∧RepP I x0 (litV d0)∧cs[j * 2+1]? = some x1∧RepP I x1 (litV d1):=by
    intro j y hy
    have hj:j<n:=by rw [← hn];exact (List.getElem?_eq_some_iff.1 hy).1
    have h2:=hel j hj
    rw [hc,hy] at h2
    obtain ⟨y0,y1,m',e1,hl2,g0,g1⟩:=trod_struct2 he h2
    rw [o0,c0] at g0
    rw [o1,c1] at g1
    obtain ⟨z0,a0,b0,_⟩:=DataW.trod_int u0 g0
    obtain ⟨z1,a1,b1,_⟩:=DataW.trod_int u1 g1
    have q0:=one _ _ _ a0
    have q1:=one _ _ _ a1
    rw [List.getElem?_take,if_pos (by omega),List.getElem?_drop] at q0 q1
    refine ⟨y0.1,y1.1,_,_,by rw [e1],by simpa using q0,?_,q1,?_⟩
    · rw [b0];exact RepP.int k0 z0
    · rw [b1];exact RepP.int k1 z1
  have hds:ds=xs.map (·.1):=hx.1
  have len2:∀ e∈ds.map aggOf,e.length=2:=by
    intro e he
    rw [hds,List.map_map] at he
    obtain ⟨y,hy,rfl⟩:=List.mem_map.1 he
    obtain ⟨j,hj⟩:=List.getElem?_of_mem hy
    obtain ⟨d0,d1,x0,x1,e,_⟩:=each j y hj
    simp only [Function.comp,e,aggOf,List.length_cons,List.length_nil]
  intro k d hd
  rw [flat_get (by decide) _ len2] at hd
  rw [hds,List.map_map,List.getElem?_map] at hd
  cases hy:xs[k / 2]? with
  | none=>rw [hy] at hd;cases hd
  | some y =>
    rw [hy] at hd
    obtain ⟨d0,d1,x0,x1,e,g0,r0,g1,r1⟩:=each _ y hy
    simp only [Option.map_some,Option.bind_some,Function.comp,e,aggOf] at hd
    rcases Nat.mod_two_eq_zero_or_one k with hk | hk
    · rw [hk] at hd
      cases hd
      rw [show k / 2 * 2=k from by omega] at g0
      exact ⟨x0,g0,r0⟩
    · rw [hk] at hd
      cases hd
      rw [show k / 2 * 2+1=k from by omega] at g1
      exact ⟨x1,g1,r1⟩

def accD:List (DataW Unit):=((aggOf Rows.laid_unicode_utf8_acceptRanges).map aggOf).flatten
theorem gAcc:Tryz.prog.globalNamed "unicode/utf8.acceptRanges" = some 2:=by kernel_rfl
theorem acc_eq:accD.map litV=accR:=by kernel_rfl
theorem acc_agg:Rows.laid_unicode_utf8_acceptRanges = .agg (aggOf Rows.laid_unicode_utf8_acceptRanges):=by kernel_rfl
theorem acc_pure:(accD.map litV).all V.pureLeaf=true:=by kernel_rfl
theorem tAcc:(Tryz.prog.globals[2]?).map (·.type)=some 289:=by kernel_rfl

theorem glOk {W:World} (h:laidMetH Tryz.prog laidL W):GlOk E (cellsI W):=by
  rw [MakeChecks.laidMetH_plain _ _ _ (by kernel_rfl)] at h
  obtain ⟨ps,⟨g2,t2,cs2,f2,p2,q2,hg2,ht2,hv2,hd2,⟨g0,t0,cs0,f0,p0,q0,hg0,ht0,hv0,hd0,⟨g1,t1,cs1,f1,p1,q1,hg1,ht1,hv1,hd1,_,_⟩,_⟩,_⟩,_,_⟩:=h
  obtain rfl:=Option.some.inj (gWords.symm.trans hg0)
  obtain rfl:=Option.some.inj (gFirst.symm.trans hg1)
  obtain rfl:=Option.some.inj (tWords.symm.trans ht0)
  obtain rfl:=Option.some.inj (tFirst.symm.trans ht1)
  obtain rfl:=Option.some.inj (gAcc.symm.trans hg2)
  obtain rfl:=Option.some.inj (tAcc.symm.trans ht2)
  intro g cs hcs
  simp only [E] at hcs
  split at hcs
  · cases hcs
    rw [← words_eq]
    exact gl_rep gWords hv0 words_pure (arr_rep Tryz.underlying274 (by kernel_rfl) (Or.inl (by kernel_rfl)) hd0 _)
  · cases hcs
    rw [← first_eq]
    rw [first_agg] at hd1
    exact gl_rep gFirst hv1 first_pure (arr_rep Tryz.underlying286 (by kernel_rfl) (Or.inr ⟨.u8,by kernel_rfl⟩) hd1 _)
  · cases hcs
    rw [← acc_eq]
    rw [acc_agg] at hd2
    exact gl_rep gAcc hv2 acc_pure (arr2_rep (k0:=.u8) (k1:=.u8) Tryz.underlying289 (by kernel_rfl) Tryz.underlying288 rfl rfl (by kernel_rfl) (by kernel_rfl) (by kernel_rfl) (by kernel_rfl) hd2 _)
  · cases hcs


theorem calls_true {f:FuncId} {W:World} {args:Array Value} {vs:List V} (hL:laidMetH Tryz.prog laidL W) (hlen:args.size=vs.length) (hr:∀ (j:Nat) (x:Value) (v:V),args[j]? = some x→vs[j]? = some v→RepP (cellsI W) x v)
    (he:Ev E f vs (.bool true)):Calls Tryz.prog f args W fun e w'=>e = .returned (.bool true)∧W.grownBy w' none:=by
  refine (Ev.sound mixed envOk he W (cellsI W) args (cellsI_ok W) (glOk hL) hlen hr).mono fun e W' ⟨x,τ,I',h1,h2,_,_,_,h3,_⟩=>⟨?_,h2⟩
  rw [h1]
  have h4:RepP I' x (.bool true):=h3
  cases h4
  rfl
end Go.Pv.T

/- Histories and other arguments that come in. -/
namespace Go.Pv.T
open Go Go.Pv Go.Proofs Go.ChangeShapes Go.WideShapes Go.ChangeAt Go.RowKit Go.Proofs.YtopjfnbonjmnjaaGreatDoor
abbrev valTy:Ty:=.pair (.int .i64) (.pair (.int .i64) .unit)
abbrev opTy:Ty:=.pair .bool (.pair (.int .i64) (.pair valTy .unit))
abbrev txnTy:Ty:=.pair (.int .i64) (.pair (.int .i64) (.pair (.slice opTy) .unit))
abbrev histTy:Ty:=.pair (.slice .str) (.pair (.slice .str) (.pair (.slice txnTy) .unit))
abbrev placeTy:Ty:=.pair (.int .i64) (.pair (.int .i64) .unit)
theorem sh_slice {α:Type} {t:Ty} {f:α→List V} (hf:∀ e,Sh t e→∃ a,e=f a) {vs:List V} (h:Sh (.slice t) vs):∃ nl l,vs=[slOf nl f l]:=by
 cases h with
 | nil=>exact ⟨true,[],rfl⟩
 | slice es hn h =>
  have all:∀ es:List (List V),(∀ e∈es,Sh t e)→∃ l:List α,es=l.map f:=by
   intro es
   induction es with
   | nil=>intro _;exact ⟨[],rfl⟩
   | cons e es ih =>
    intro h
    obtain ⟨a,rfl⟩:=hf e (h e (List.mem_cons_self ..))
    obtain ⟨l,rfl⟩:=ih (fun e he=>h e (List.mem_cons_of_mem _ he))
    exact ⟨a::l,rfl⟩
  obtain ⟨l,rfl⟩:=all es h
  exact ⟨false,l,by simp [slOf,List.flatMap]⟩
theorem sh_val {vs:List V} (h:Sh valTy vs):∃ v:Val',vs=valC v:=by
 cases h with
 | pair ha hb=>cases ha with
  | int _ k=>cases hb with
   | pair hc hd=>cases hc with
    | int _ n=>cases hd;exact ⟨⟨k,n⟩,rfl⟩
theorem sh_op {vs:List V} (h:Sh opTy vs):∃ o:Op',vs=opC o:=by
 cases h with
 | pair ha hb=>cases ha with
  | bool w=>cases hb with
   | pair hc hd=>cases hc with
    | int _ k=>cases hd with
     | pair he hf =>
      obtain ⟨v,rfl⟩:=sh_val he
      cases hf
      exact ⟨⟨w,k,v⟩,rfl⟩
theorem sh_txn {vs:List V} (h:Sh txnTy vs):∃ t:Txn',vs=txnC t:=by
 cases h with
 | pair ha hb=>cases ha with
  | int _ s=>cases hb with
   | pair hc hd=>cases hc with
    | int _ f=>cases hd with
     | pair he hf =>
      obtain ⟨nl,l,rfl⟩:=sh_slice (f:=opC) (fun e=>sh_op) he
      cases hf
      exact ⟨⟨s,f,nl,l⟩,rfl⟩
theorem sh_str {vs:List V} (h:Sh .str vs):∃ s:List UInt8,vs=strC s:=by
 cases h with
 | str s=>exact ⟨s,rfl⟩
theorem sh_hist {vs:List V} (h:Sh histTy vs):∃ g:Hist',vs=histC g:=by
 cases h with
 | pair ha hb=>cases hb with
  | pair hc hd=>cases hd with
   | pair he hf =>
    obtain ⟨n0,l0,rfl⟩:=sh_slice (f:=strC) (fun e=>sh_str) ha
    obtain ⟨n1,l1,rfl⟩:=sh_slice (f:=strC) (fun e=>sh_str) hc
    obtain ⟨n2,l2,rfl⟩:=sh_slice (f:=txnC) (fun e=>sh_txn) he
    cases hf
    exact ⟨⟨n0,l0,n1,l1,n2,l2⟩,rfl⟩
theorem sh_place {vs:List V} (h:Sh placeTy vs):∃ a b:Int,vs=[.int .i64 a,.int .i64 b]:=by
 cases h with
 | pair ha hb=>cases ha with
  | int _ k=>cases hb with
   | pair hc hd=>cases hc with
    | int _ n=>cases hd;exact ⟨k,n,rfl⟩
theorem leaf_of_pure {v:V} (h:v.pureLeaf=true):v.leaf=true:=by cases v <;> first | rfl | cases h
section
variable {H:Type} {enc:TypeId × Value→H} {W:World} {v:Value} {d:DataW H} {p:List MemPlace} {base:Nat}
set_option maxRecDepth 100000 in
theorem struct_arg {t:TypeId} {fs:Array Field} {n:Nat} {ty:Ty} (ht:Tryz.prog.underlying t=some (.struct fs)) (hty:tyOf Tryz.prog n t=some ty) (hval:Value.okWide Tryz.prog W .any base t v)
 (h:DataW.Trod enc Tryz.prog W 0 (fun _=>true) true t v d p):∃ vs,Sh ty vs∧RepP (cellsI W) v (.agg vs):=by
 obtain ⟨cs,rfl,_⟩:=okWide_struct ht hval
 obtain ⟨fuel,hf⟩:=h
 obtain ⟨vs,hs,hr⟩:=rep_of n t ty hty fuel _ _ hf
 refine ⟨vs,hs,RepP.agg cs vs (by simpa [Value.cells] using hr.1) (fun j v hj=>leaf_of_pure (hs.pure v (List.mem_of_getElem? hj))) (fun j x v hx hv=>hr.2 j x v (by simpa [Value.cells] using hx) hv)⟩
theorem trodAll_two {s t:TypeId} {vs:List Value} {ds:List (DataW H)} {p:List MemPlace} (h:DataW.TrodAll enc Tryz.prog W 0 (fun _=>true) true [s,t] vs ds p) :
 ∃ v0 v1 d0 d1 p0 p1,vs=[v0,v1]∧ds=[d0,d1]∧DataW.Trod enc Tryz.prog W 0 (fun _=>true) true s v0 d0 p0∧DataW.Trod enc Tryz.prog W 0 (fun _=>true) true t v1 d1 p1:=by
 match vs,ds,h with
 | [v0,v1],[d0,d1],⟨p0,q,h0,⟨p1,q',h1,_,_⟩,_⟩=>exact ⟨v0,v1,d0,d1,p0,p1,rfl,rfl,h0,h1⟩
 | [],[],h=>exact h.elim
 | [v0],[d0],⟨_,_,_,h,_⟩=>exact h.elim
 | [],_::_,h=>exact h.elim
 | _::_,[],h=>exact h.elim
 | [_],_::_::_,⟨_,_,_,h,_⟩=>exact h.elim
 | _::_::_,[_],⟨_,_,_,h,_⟩=>exact h.elim
 | _::_::_::_,[_,_],⟨_,_,_,⟨_,_,_,h,_⟩,_⟩=>exact h.elim
 | [_,_],_::_::_::_,⟨_,_,_,⟨_,_,_,h,_⟩,_⟩=>exact h.elim
 | _::_::_::_,_::_::_::_,⟨_,_,_,⟨_,_,_,h,_⟩,_⟩=>exact h.elim
theorem read_ok (ts:List TypeId) (h:(ts.all fun t=>Tryz.prog.readableRec t && decide (t<Tryz.prog.types.size))=true) (t:TypeId) (ht:t∈ts):Tryz.prog.readableRec t=true∧t<Tryz.prog.types.size:=by
 have:=List.all_eq_true.1 h t ht
 simpa using this
set_option maxRecDepth 100000 in
theorem hist_arg (hval:Value.okWide Tryz.prog W .any base 25 v) (h:DataW.Trod enc Tryz.prog W 0 (fun _=>true) true 25 v d p):∃ g:Hist',RepP (cellsI W) v (.agg (histC g)):=by
 obtain ⟨vs,hs,hr⟩:=struct_arg (n:=8) (ty:=histTy) Tryz.underlying25 (by kernel_rfl) hval h
 obtain ⟨g,rfl⟩:=sh_hist hs
 exact ⟨g,hr⟩
set_option maxRecDepth 100000 in
theorem place_arg (hval:Value.okWide Tryz.prog W .any base 42 v) (h:DataW.Trod enc Tryz.prog W 0 (fun _=>true) true 42 v d p):∃ a b:Int,RepP (cellsI W) v (.agg [.int .i64 a,.int .i64 b]):=by
 obtain ⟨vs,hs,hr⟩:=struct_arg (n:=8) (ty:=placeTy) Tryz.underlying42 (by kernel_rfl) hval h
 obtain ⟨a,b,rfl⟩:=sh_place hs
 exact ⟨a,b,hr⟩
end
end Go.Pv.T
