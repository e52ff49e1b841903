/- Partitions of what is not less, by a function. -/
import Derived.Test.YtopjfnbonjmnjaaGreatDoorUsE
import Derived.Test.YtopjfnbonjmnjaaGreatDoorRows
import Derived.Test.YtopjfnbonjmnjaaGreatDoorTie
import Derived.ProofKit
import Derived.LaidMore
import Derived.OpenShut
import Derived.Stop.Joined
import Derived.SizedLaws
import Derived.Carry
import Derived.Handed
import Derived.ChangeSame
namespace Go.Pv.T.Vs
open Go Go.Pv Go.Pv.T Go.Sort
theorem WQ {lt:VV→VV→Bool} {a i j i2 j2:Nat} {d:Array VV} (_:1≤i) (h1:scanUp (fun x=>!lt d[a]! x) d j i=i2) (h2:scanDown (fun x=>lt d[a]! x) d i2 j=j2) :
 partEqLoop lt a i j d=if i2 > j2 then (i2,d) else partEqLoop lt a (i2+1) (j2 - 1) (swp d i2 j2):=by
 have g1:=(YA (fun x=>!lt d[a]! x) d j i).1
 have g2:=(Jm (fun x=>lt d[a]! x) d i2 j).1
 rw [partEqLoop]
 simp only [h1,h2]
 by_cases h:i2 > j2
 ·rw [if_pos h,if_pos h]
 ·rw [if_neg h,if_neg h,dif_pos (by omega)]
end Go.Pv.T.Vs

/- Breaking patterns, of values. -/
namespace Go.Pv.T.Vs
open Go Go.Pv Go.Pv.T Go.Sort
end Go.Pv.T.Vs

/- Partial insertion sort of few, by a function. -/
namespace Go.Pv.T.Vs
open Go Go.Pv Go.Pv.T Go.Sort
theorem Q5 {d:Array VV} {a b:Nat} (h:b - a<50):partialInsertionSort ju0 d a b=(d,decide (scanSorted ju0 d b (a+1)=b)):=by
 unfold partialInsertionSort
 rw [partialIns]
 simp only
 by_cases hb:scanSorted ju0 d b (a+1)=b
 ·rw [if_pos hb,decide_eq_true hb]
 ·rw [if_neg hb,if_pos h,decide_eq_false hb]
end Go.Pv.T.Vs

/- Sorting of few by a function: the recursion. -/
namespace Go.Pv.T.Vs
open Go Go.Pv Go.Pv.T Go.Sort
structure PQ (l u ro a b:Nat) (d:Array VV) (ob:Nat→Option Obj') (tk:Nat→Bool) (ub a1 b1:Nat) (d1:Array VV) (s:St):Prop where
 t0:s.tm 0 = .osl l u 0 d.size 2
 t1:s.tm 1 = .int .i64 a1
 t2:s.tm 2 = .int .i64 b1
 t10:s.tm 12 = .int .i64 ((b1:Int) - a1)
 tc:s.tm 4=CF
 df:s.df=[]
 ro:s.ro=ro
 mem:At l u (arr vvC d1) ob tk ub s.ob s.tk s.nx
 sz:d1.size=d.size
 bl:Below ju0 a1 b1 d1
 go:∀ R,PermIn a1 b1 d1 R→SortedIn ju0 a1 b1 R→PermIn a b d R∧SortedIn ju0 a b R
def Sorted (l u a b:Nat) (d:Array VV) (ob:Nat→Option Obj') (tk:Nat→Bool) (ub:Nat) (r:V × (Nat→Option Obj') × (Nat→Bool) × Nat):Prop:=∃ d',PermIn a b d d'∧SortedIn ju0 a b d'∧At l u (arr vvC d') ob tk ub r.2.1 r.2.2.1 r.2.2.2
theorem PQ.turn {l u ro a b:Nat} {d:Array VV} {ob:Nat→Option Obj'} {tk:Nat→Bool} {ub a1 b1:Nat} {d2 d3:Array VV} {s s':St} (hp:PQ l u ro a b d ob tk ub a1 b1 d2 s) (hb1:b1≤d.size) (h0:s'.tm 0=s.tm 0) (h1:s'.tm 1=s.tm 1) (h2:s'.tm 2=s.tm 2) (h10:s'.tm 12=s.tm 12) (hc:s'.tm 4=s.tm 4) (hd:s'.df=s.df) (hr:s'.ro=s.ro)
 (hm:At l u (arr vvC d3) ob tk ub s'.ob s'.tk s'.nx) (hpm:PermIn a1 b1 d2 d3):PQ l u ro a b d ob tk ub a1 b1 d3 s' :=
 ⟨h0.trans hp.t0,h1.trans hp.t1,h2.trans hp.t2,h10.trans hp.t10,hc.trans hp.tc,hd.trans hp.df,hr.trans hp.ro,hm,hpm.1.trans hp.sz,hp.bl.perm (by rw [hp.sz];exact hb1) hpm,fun R hR hs=>hp.go R (permIn_trans _ _ _ a1 b1 hpm hR) hs⟩
theorem PQ.mid {l u ro a b:Nat} {d:Array VV} {ob:Nat→Option Obj'} {tk:Nat→Bool} {ub a1 b1:Nat} {d2:Array VV} {s:St} (hp:PQ l u ro a b d ob tk ub a1 b1 d2 s) {cs:List V} {ob1:Nat→Option Obj'} {tk1:Nat→Bool} {ub0 ub1 ub2:Nat} (hat:At l u cs s.ob s.tk ub0 ob1 tk1 ub1) (h0:s.nx≤ub0) (h2:ub1≤ub2):At l u cs ob tk ub ob1 tk1 ub2:=(hp.mem.trans hat h0).same rfl rfl h2
end Go.Pv.T.Vs

/- slices.SortFunc of few values. -/
namespace Go.Pv.T.Vs
open Go Go.Pv Go.Pv.T Go.Sort
end Go.Pv.T.Vs

/- Lists of values: the same; the reference's sorting. -/
namespace Go.Pv.T
open Go Go.Pv
@[simp] theorem Y0 (v:Val'):(J1 v).length=2:=rfl
theorem js0 (ob:Nat→Option Obj') (l:List Val') {i:Nat} (h:i<l.length):YE ob (some 2) (.eptr (l.flatMap J1) (i * 2))=some (.agg (J1 l[i])):=ja Y0 ob l h
end Go.Pv.T

/- Where each member of a map jg5: wr.places. -/
namespace Go.Pv.T
open Go Go.Pv
end Go.Pv.T

/- Whether a list is a map: the given answer is the reference's. -/
namespace Go.Pv.T
open Go Go.Pv
theorem jyp {g:Hist'} (hw:jcc g=true):(choW g).map (·.2)=(choR g).map (·.2):=by
 unfold choW choR j0n
 rw [if_pos hw]
 simp [List.map_map,Function.comp_def]
end Go.Pv.T

/- WrTells, but for its fixed example. -/
namespace Go.Pv.T
open Go Go.Pv
@[simp] theorem j5j (ob:Nat→Option Obj') (neg a b:Bool):jvc ob neg .bool (.bool a) (.bool b)=some (.bool (xor neg (a == b))):=rfl
theorem jn6 {ub:Nat} {r:V} {g:Hist'} {K:Delta→Prop} (h:jj6 r g)
 (hK:∀ a b c add,K { v:=.agg [.sl a g.sn g.ss.length (g.ss.flatMap strC),.sl b g.kn g.ks.length (g.ks.flatMap strC),.sl c g.tn g.ts.length (g.ts.flatMap txnC)],add:=add }):wpD (Xh ub r) K:=by
 obtain ⟨a,b,c,add,hr⟩:=jl1 (ub:=ub) h
 rw [hr,jX]
 exact hK a b c add
theorem jg1 {α:Type} {f:α→List V} {k:Nat} (hf:∀ a,(f a).length=k):∀ (l:List α) (n:Nat),(l.flatMap f).take (n * k)=(l.take n).flatMap f
 | [],n=>by simp
 | a::l,0=>by simp
 | a::l,n+1=>by
  rw [List.flatMap_cons,List.take_succ_cons,List.flatMap_cons,Nat.succ_mul,Nat.add_comm,← hf a,List.take_length_add_append,hf a,jg1 hf l n]
end Go.Pv.T

/- The reference's sorting of values. -/
namespace Go.Pv.T
open Go Go.Pv
section
variable {E:Env} {st:St} {ub:Nat} {K:List FP→St→Prop} {d:Option Nat} {nm:Bool} {r:List AOpr}
theorem nbeq {a b:Nat} (h:a≠b):a.beq b=false:=by
 cases e:a.beq b
 ·rfl
 ·exact absurd (Nat.eq_of_beq_eq_true e) h
@[simp] theorem jvv (v:Val'):(J1 v).map V.strip1=J1 v:=rfl
theorem jx1 {sz bytes n:Nat} {t:Option (Nat × Nat)} {cs:List V} {s x:A} (hs:eval E st.tm s = .sl t false n cs) (hx:jO st.ob sz (eval E st.tm x)=some []) (hl:cs.length=n * sz)
 (h:WI E r K (eval E st.tm) (.append false sz bytes s x) st d ub { v:=.sl t false n cs }):jM E (⟨d,.append false sz bytes s x,none,nm⟩::r) st ub K:=by
 rw [Jh rfl]
 simp only [aop,hs,hx,Option.bind_some,if_true]
 rw [if_pos hl,Yp]
 exact h
theorem jx0 {sz bytes u n:Nat} {cs ys:List V} {s x:A} (hs:eval E st.tm s = .sl (some (u,sz)) false n cs) (htk:st.tk u=true) (hx:jO st.ob sz (eval E st.tm x)=some ys) (hne:ys≠[]) (hlen:cs.length=n * sz) (h0:0<sz)
 (hp:ys.all V.pureLeaf=true) (hb:(n+ys.length / sz) * bytes≤140737488355328) (hb2:n+ys.length / sz≤140737488355328) (h:WI E r K (eval E st.tm) (.append false sz bytes s x) st d ub { v:=.sl (some (ub,sz)) false (n+ys.length / sz) (cs++ys),del:=some u,add:=[ub] }) :
 jM E (⟨d,.append false sz bytes s x,none,nm⟩::r) st ub K:=by
 rw [Jh rfl]
 simp only [aop,hs,hx,Option.bind_some,if_neg hne,Bool.false_and,Bool.false_eq_true,if_false]
 rw [if_pos ⟨hlen,h0,hp,hb,hb2⟩,if_pos (by simp [htk]),jX]
 exact h
end
end Go.Pv.T

/- slices.Compact, of values of one's own. -/
namespace Go.Pv.T
open Go Go.Pv
theorem ld2 {ob:Nat→Option Obj'} {l u:Nat} {M:List Val'} {x:Nat} (ho:ob l=some ⟨u,.cells (M.flatMap J1)⟩) (hx:x<M.length):YE ob (some 2) (.ptr l u (x * 2))=some (.agg (J1 M[x])):=by
 have h:=js0 ob M hx
 rw [← h]
 simp only [YE,j6,ho,if_true,Option.bind_some]
theorem st2 {M:List Val'} {x:Nat} (hx:x<M.length) (v:Val'):jD (M.flatMap J1) (x * 2) (J1 v)=(M.set x v).flatMap J1:=jgf Y0 v M x hx
end Go.Pv.T

/- The reference's Raw, plain. -/
namespace Go.Pv.T
open Go Go.Pv
structure RwS where
 c:List Bool
 d:List Bool
 hop:Bool
 more:Bool
def RwS.left (r:RwS) (g:Hist') (t k:Nat):List Int:=(ofH g t k).filter fun x=>decide (x<0) || !(r.d.getD x.toNat false)
def RwS.sole (r:RwS) (g:Hist') (t:Nat) (l:List Op'):Nat→Bool × List Int
 | 0=>(false,[])
 | k+1=>match l[k]? with
  | some o =>
   if !XN g t k || o.v.kind == 2 then r.sole g t l k else
   ((r.sole g t l k).1 || (r.left g t k).length == 0,
    if (r.left g t k).length == 1 && decide (0≤(r.left g t k).headD 0) then (r.sole g t l k).2++[(r.left g t k).headD 0] else (r.sole g t l k).2)
  | none=>r.sole g t l k
def RwS.learn (r:RwS) (t:Nat):List Int→RwS
 | []=>r
 | x::xs=>if r.c.getD t false then (if r.c.getD x.toNat false then r.learn t xs else { r with c:=r.c.set x.toNat true,more:=true }.learn t xs) else r
def RwS.fails (r:RwS) (f:Int) (t:Nat):RwS :=
 if f=1 then { r with hop:=true } else if f=3 then (if r.d.getD t false then r else { r with d:=r.d.set t true,more:=true }) else r
def RwS.txn (r:RwS) (g:Hist') (t:Nat) (f:Int) (l:List Op'):RwS :=
 (if (r.sole g t l l.length).1 || !(badH g t).isEmpty then r.fails f t else r).learn t (r.sole g t l l.length).2
def Alike (n:Nat) (s:KnS) (r:RwS):Prop :=
 r.c.length=n∧r.d.length=n∧(∀ i,i<n→r.c.getD i false=decide (0<JC s.m i))∧(∀ i,i<n→r.d.getD i false=decide (0<JC s.n i))∧s.hop=r.hop∧s.more=r.more∧∀ x:Int,x<0→JC s.n x=0
theorem jo3 {g:Hist'} {t:Nat} {b x:Int} (h:x∈ofH g t b):x≠t:=by
 unfold ofH at h
 split at h
 ·split at h
  ·simp at h
  ·rename_i o _ _
   unfold ofL J5 at h
   rcases List.mem_append.1 h with h | h
   ·split at h
    ·simp at h
    ·simp at h;omega
   ·have:=(List.mem_filter.1 h).2
    simp only [Bool.and_eq_true,Bool.not_eq_true',beq_eq_false_iff_ne,ne_eq] at this
    exact this.1
 ·simp at h
theorem jmm {g:Hist'} {s:KnS} {r:RwS} {t k:Nat} (hd:∀ i,i<g.ts.length→i≠t→r.d.getD i false=decide (0<JC s.n i)) (hn:∀ x:Int,x<0→JC s.n x=0):s.left g t k=r.left g t k:=by
 unfold KnS.left RwS.left
 refine List.filter_congr fun x hx=>?_
 have hlt:=jo4 hx
 have hne:=jo3 hx
 by_cases h0:x<0
 ·simp [hn x h0,h0]
 ·obtain ⟨i,rfl⟩:∃ i:Nat,x=i:=⟨x.toNat,by omega⟩
  have:=hd i (by omega) (by omega)
  simp only [Int.toNat_natCast,this,h0,decide_false,Bool.false_or]
theorem Alike.fails {n:Nat} {s:KnS} {r:RwS} (h:Alike n s r) {f:Int} {t:Nat} (ht:t<n) (hp:0≤JC s.n t):Alike n (s.fails f t) (r.fails f t):=by
 obtain ⟨h1,h2,h3,h4,h5,h6,h7⟩:=h
 unfold KnS.fails RwS.fails
 by_cases f1:f=1
 ·simp only [f1,if_true]
  exact ⟨h1,h2,h3,h4,rfl,h6,h7⟩
 ·by_cases f3:f=3
  ·rw [if_neg f1,if_neg f1,if_pos f3,if_pos f3]
   unfold KnS.learnN
   by_cases h0:JC s.n t=0
   ·have hr:r.d.getD t false=false:=by rw [h4 t ht,h0];rfl
    rw [if_pos h0,hr]
    simp only [Bool.false_eq_true,if_false]
    refine ⟨h1,by simp [h2],h3,fun i hi=>?_,h5,rfl,fun x hx=>?_⟩
    ·simp only [J7]
     by_cases e:i=t
     ·subst e
      simp [List.getD_eq_getElem?_getD,List.getElem?_set,h2,hi]
     ·have e':¬ (i:Int)=t:=by omega
      have e2:¬ (t:Int)=i:=by omega
      have:=h4 i hi
      simp [e',e2,List.getD_eq_getElem?_getD,List.getElem?_set,Ne.symm e] at this ⊢
      exact this
    ·simp only [J7]
     rw [if_neg (by omega)]
     exact h7 x hx
   ·have hr:r.d.getD t false=true:=by rw [h4 t ht];simp;omega
    rw [if_neg h0,hr]
    simp only [if_true]
    exact ⟨h1,h2,h3,h4,h5,h6,h7⟩
  ·rw [if_neg f1,if_neg f1,if_neg f3,if_neg f3]
   exact ⟨h1,h2,h3,h4,h5,h6,h7⟩
def RwS.com (r:RwS) (x:Nat):RwS:=if r.c.getD x false then r else { r with c:=r.c.set x true,more:=true }
theorem Alike.learnM {n:Nat} {s:KnS} {r:RwS} (h:Alike n s r) {t:Nat} (ht:t<n) (hp:0≤JC s.m t):Alike n (s.learnM t) (r.com t):=by
 obtain ⟨h1,h2,h3,h4,h5,h6,h7⟩:=h
 unfold KnS.learnM RwS.com
 by_cases h0:JC s.m t=0
 ·have hr:r.c.getD t false=false:=by rw [h3 t ht,h0];rfl
  rw [if_pos h0,hr]
  simp only [Bool.false_eq_true,if_false]
  refine ⟨by simp [h1],h2,fun i hi=>?_,h4,h5,rfl,h7⟩
  simp only [J7]
  by_cases e:i=t
  ·subst e
   simp [List.getD_eq_getElem?_getD,List.getElem?_set,h1,hi]
  ·have e':¬ (i:Int)=t:=by omega
   have:=h3 i hi
   simp [e',List.getD_eq_getElem?_getD,List.getElem?_set,Ne.symm e] at this ⊢
   exact this
 ·have hr:r.c.getD t false=true:=by rw [h3 t ht];simp;omega
  rw [if_neg h0,hr]
  simp only [if_true]
  exact ⟨h1,h2,h3,h4,h5,h6,h7⟩
end Go.Pv.T

/- A transaction told in whatever order. -/
namespace Go.Pv.T
open Go Go.Pv
theorem KnS.fails_learnM (s:KnS) (f t x:Int):(s.learnM x).fails f t=(s.fails f t).learnM x:=by
 unfold KnS.fails KnS.learnM KnS.learnN
 by_cases f1:f=1
 ·simp only [f1,if_true]
  split <;> rfl
 ·by_cases f3:f=3
  ·rw [if_neg f1,if_neg f1,if_pos f3,if_pos f3]
   by_cases h0:JC s.m x=0 <;> by_cases h1:JC s.n t=0 <;> simp [h0,h1]
  ·rw [if_neg f1,if_neg f1,if_neg f3,if_neg f3]
theorem KnS.fails_fails (s:KnS) (f t:Int):(s.fails f t).fails f t=s.fails f t:=by
 unfold KnS.fails KnS.learnN
 by_cases f1:f=1
 ·simp [f1]
 ·by_cases f3:f=3
  ·rw [if_neg f1,if_pos f3]
   by_cases h1:JC s.n t=0
   ·simp [h1,f1,f3,J7]
   ·simp [h1,f1,f3]
  ·simp [f1,f3]
def KnS.learnAll (s:KnS):List Int→KnS
 | []=>s
 | x::xs=>(s.learnM x).learnAll xs
theorem KnS.learnAll_append (s:KnS) (x:Int):∀ xs:List Int,s.learnAll (xs++[x])=(s.learnAll xs).learnM x:=by
 intro xs
 induction xs generalizing s with
 | nil=>rfl
 | cons y ys ih=>exact ih (s.learnM y)
theorem KnS.fails_learnAll (f t:Int):∀ (xs:List Int) (s:KnS),(s.learnAll xs).fails f t=(s.fails f t).learnAll xs
 | [],_=>rfl
 | x::xs,s=>by
  show ((s.learnM x).learnAll xs).fails f t=((s.fails f t).learnM x).learnAll xs
  rw [KnS.fails_learnAll f t xs,KnS.fails_learnM]
theorem KnS.learnM_n (s:KnS) (x:Int):(s.learnM x).n=s.n:=by unfold KnS.learnM;split <;> rfl
theorem KnS.learnAll_n:∀ (xs:List Int) (s:KnS),(s.learnAll xs).n=s.n
 | [],_=>rfl
 | x::xs,s=>(KnS.learnAll_n xs (s.learnM x)).trans (s.learnM_n x)
theorem KnS.learnM_m (s:KnS) {x t:Int} (h:x≠t):JC (s.learnM x).m t=JC s.m t:=by
 unfold KnS.learnM
 split
 ·simp only [J7]
  rw [if_neg (Ne.symm h)]
 ·rfl
theorem KnS.learnAll_m {t:Int}:∀ (xs:List Int) (s:KnS),(∀ x∈xs,x≠t)→JC (s.learnAll xs).m t=JC s.m t
 | [],_,_=>rfl
 | x::xs,s,h=>(KnS.learnAll_m xs (s.learnM x) fun y hy=>h y (List.mem_cons_of_mem _ hy)).trans (s.learnM_m (h x (List.mem_cons_self ..)))
theorem KnS.fails_m (s:KnS) (f t:Int):(s.fails f t).m=s.m:=by
 unfold KnS.fails KnS.learnN
 split
 ·rfl
 ·split
  ·split <;> rfl
  ·rfl
theorem KnS.fails_n (s:KnS) (f t:Int) {x:Int} (h:x≠t):JC (s.fails f t).n x=JC s.n x:=by
 unfold KnS.fails KnS.learnN
 split
 ·rfl
 ·split
  ·split
   ·simp only [J7]
    rw [if_neg h]
   ·rfl
  ·rfl
theorem KnS.left_same {g:Hist'} {s s':KnS} {t k:Nat} (h:∀ x:Int,x≠t→JC s.n x=JC s'.n x):s.left g t k=s'.left g t k:=by
 unfold KnS.left
 refine List.filter_congr fun x hx=>?_
 rw [h x (jo3 hx)]
def KnS.told (s:KnS) (g:Hist') (t:Nat) (l:List Op'):Nat→Bool × List Int
 | 0=>(false,[])
 | k+1=>match l[k]? with
  | some o =>
   if o.v.kind == 2 || !XN g t k then s.told g t l k else
   if (s.left g t k).length=0 then (true,(s.told g t l k).2) else
   if (s.left g t k).length == 1 && decide (0≤(s.left g t k).headD 0) then ((s.told g t l k).1,(s.told g t l k).2++[(s.left g t k).headD 0]) else s.told g t l k
  | none=>s.told g t l k
theorem KnS.left_mem {g:Hist'} {s:KnS} {t k:Nat} (h:(s.left g t k).length≠0):(s.left g t k).headD 0≠t:=by
 cases hl:s.left g t k with
 | nil=>rw [hl] at h;exact absurd rfl h
 | cons x r =>
  have hm:x∈s.left g t k:=by rw [hl];exact List.mem_cons_self ..
  exact jo3 (List.mem_filter.1 hm).1
theorem KnS.told_ne {g:Hist'} {s:KnS} {t:Nat} {l:List Op'}:∀ k,∀ x∈(s.told g t l k).2,x≠t
 | 0,x,h=>by simp [KnS.told] at h
 | k+1,x,h=>by
  simp only [KnS.told] at h
  split at h
  ·split at h
   ·exact KnS.told_ne k x h
   ·split at h
    ·exact KnS.told_ne k x h
    ·rename_i h0
     split at h
     ·rcases List.mem_append.1 h with h | h
      ·exact KnS.told_ne k x h
      ·rw [List.mem_singleton.1 h]
       exact KnS.left_mem h0
     ·exact KnS.told_ne k x h
  ·exact KnS.told_ne k x h
theorem KnS.ops_told {g:Hist'} (s:KnS) (f:Int) (t:Nat) (l:List Op'):∀ k,s.ops g f t l k=(if (s.told g t l k).1 then s.fails f t else s).learnAll (if 0<JC s.m t then (s.told g t l k).2 else [])
 | 0=>by
  simp only [KnS.ops,KnS.told,Bool.false_eq_true,if_false]
  split <;> rfl
 | k+1=>by
  cases ho:l[k]? with
  | none =>
   simp only [KnS.ops,KnS.told,ho]
   exact KnS.ops_told s f t l k
  | some o =>
   simp only [KnS.ops,KnS.told,ho]
   rw [KnS.ops_told s f t l k]
   have hne:=KnS.told_ne (g:=g) (s:=s) (t:=t) (l:=l) k
   generalize hB:(if (s.told g t l k).1 then s.fails f t else s)=B
   generalize hL:(if 0<JC s.m t then (s.told g t l k).2 else [])=L
   have hBn:∀ x:Int,x≠t→JC B.n x=JC s.n x:=fun x hx=>by
    rw [← hB];split
    ·exact s.fails_n f t hx
    ·rfl
   have hBm:JC B.m t=JC s.m t:=by
    rw [← hB];split
    ·rw [s.fails_m]
    ·rfl
   have hLne:∀ x∈L,x≠(t:Int):=fun x hx=>by
    rw [← hL] at hx
    split at hx
    ·exact hne x hx
    ·simp at hx
   have hleft:(B.learnAll L).left g t k=s.left g t k:=KnS.left_same fun x hx=>by rw [KnS.learnAll_n];exact hBn x hx
   have hm:JC (B.learnAll L).m t=JC s.m t:=by rw [KnS.learnAll_m L B hLne];exact hBm
   have hBf:B.fails f t=s.fails f t:=by
    rw [← hB];split
    ·exact s.fails_fails f t
    ·rfl
   unfold KnS.op
   rw [hleft,hm]
   by_cases c0:(o.v.kind == 2 || !XN g t k)=true
   ·rw [if_pos c0,if_pos c0,hB,hL]
   ·rw [if_neg c0,if_neg c0]
    by_cases c1:(s.left g t k).length=0
    ·rw [if_pos c1,if_pos c1,KnS.fails_learnAll,hBf]
     simp only [if_true]
     rw [hL]
    ·rw [if_neg c1,if_neg c1]
     by_cases c2:((s.left g t k).length == 1 && decide (0≤(s.left g t k).headD 0))=true
     ·rw [if_pos c2]
      simp only [hB]
      simp only [Bool.and_eq_true] at c2
      by_cases c3:0<JC s.m t
      ·rw [if_pos (by simp only [c2.1,c2.2,c3,decide_true,Bool.and_self]),if_pos c3,← hL,if_pos c3,KnS.learnAll_append]
      ·rw [if_neg (by simp [c3]),if_neg c3,← hL,if_neg c3]
     ·rw [if_neg c2,hB,hL,if_neg ?_]
      intro h
      simp only [Bool.and_eq_true] at h c2
      exact c2 ⟨h.1,h.2.1⟩
theorem jg0 {g:Hist'} {s:KnS} {r:RwS} {t:Nat} (hd:∀ i,i<g.ts.length→i≠t→r.d.getD i false=decide (0<JC s.n i)) (hn:∀ x:Int,x<0→JC s.n x=0) (l:List Op'):∀ k,s.told g t l k=r.sole g t l k
 | 0=>rfl
 | k+1=>by
  have ih:=jg0 hd hn l k
  cases ho:l[k]? with
  | none=>simp only [KnS.told,RwS.sole,ho,ih]
  | some o =>
   have hl:=jmm (k:=k) hd hn
   simp only [KnS.told,RwS.sole,ho,ih,← hl]
   rw [Bool.or_comm (!XN g t k) (o.v.kind == 2)]
   by_cases c0:(o.v.kind == 2 || !XN g t k)=true
   ·rw [if_pos c0,if_pos c0]
   ·rw [if_neg c0,if_neg c0]
    by_cases c1:(s.left g t k).length=0
    ·rw [if_pos c1]
     simp [c1]
    ·rw [if_neg c1]
     have c1':((s.left g t k).length == 0)=false:=by simpa using c1
     rw [c1',Bool.or_false]
     split <;> rfl
end Go.Pv.T

/- Both learn the same. -/
namespace Go.Pv.T
open Go Go.Pv
def KnS.Pos (s:KnS):Prop:=∀ x:Int,0≤JC s.m x∧0≤JC s.n x
theorem KnS.Pos.learnM {s:KnS} (h:s.Pos) (t:Int):(s.learnM t).Pos:=by
 unfold KnS.learnM
 split
 ·intro x
  refine ⟨?_,(h x).2⟩
  simp only [J7]
  split
  ·decide
  ·exact (h x).1
 ·exact h
theorem KnS.Pos.learnN {s:KnS} (h:s.Pos) (t:Int):(s.learnN t).Pos:=by
 unfold KnS.learnN
 split
 ·intro x
  refine ⟨(h x).1,?_⟩
  simp only [J7]
  split
  ·decide
  ·exact (h x).2
 ·exact h
theorem KnS.Pos.fails {s:KnS} (h:s.Pos) (f t:Int):(s.fails f t).Pos:=by
 unfold KnS.fails
 split
 ·exact h
 ·split
  ·exact h.learnN t
  ·exact h
theorem KnS.Pos.learnAll:∀ (xs:List Int) {s:KnS},s.Pos→(s.learnAll xs).Pos
 | [],_,h=>h
 | x::xs,_,h=>KnS.Pos.learnAll xs (h.learnM x)
def RwS.comAll (r:RwS):List Int→RwS
 | []=>r
 | x::xs=>(r.com x.toNat).comAll xs
theorem RwS.com_c {r:RwS} {x t:Nat} (h:r.c.getD t false=true):(r.com x).c.getD t false=true:=by
 unfold RwS.com
 split
 ·exact h
 ·rw [List.getD_eq_getElem?_getD] at h
  simp only [List.getD_eq_getElem?_getD,List.getElem?_set]
  split
  ·rename_i e
   subst e
   split
   ·rfl
   ·rename_i e
    rw [List.getElem?_eq_none (by omega)] at h
    cases h
  ·exact h
theorem RwS.learn_all (t:Nat):∀ (xs:List Int) (r:RwS),r.learn t xs=if r.c.getD t false then r.comAll xs else r
 | [],r=>by simp [RwS.learn,RwS.comAll]
 | x::xs,r=>by
  simp only [RwS.learn,RwS.comAll]
  by_cases h:r.c.getD t false=true
  ·rw [if_pos h,if_pos h]
   have hc:=RwS.com_c (x:=x.toNat) h
   unfold RwS.com at hc ⊢
   by_cases h2:r.c.getD x.toNat false=true
   ·rw [if_pos h2,if_pos h2,RwS.learn_all t xs r,if_pos h]
   ·rw [if_neg h2] at hc
    rw [if_neg h2,if_neg h2,RwS.learn_all t xs,if_pos hc]
  ·rw [if_neg h,if_neg h]
theorem Alike.learnAll {n:Nat}:∀ (xs:List Int) {s:KnS} {r:RwS},Alike n s r→s.Pos→(∀ x∈xs,0≤x∧x<n)→Alike n (s.learnAll xs) (r.comAll xs)
 | [],_,_,h,_,_=>h
 | x::xs,s,r,h,hp,hx=>by
  obtain ⟨h0,h1⟩:=hx x (List.mem_cons_self ..)
  have hl:=h.learnM (t:=x.toNat) (by omega) (hp _).1
  have e:((x.toNat:Nat):Int)=x:=Int.toNat_of_nonneg h0
  rw [e] at hl
  exact Alike.learnAll xs hl (hp.learnM x) fun y hy=>hx y (List.mem_cons_of_mem _ hy)
theorem KnS.left_lt {g:Hist'} {s:KnS} {t k:Nat} (h:(s.left g t k).length≠0):(s.left g t k).headD 0<g.ts.length:=by
 cases hl:s.left g t k with
 | nil=>rw [hl] at h;exact absurd rfl h
 | cons x r =>
  have hm:x∈s.left g t k:=by rw [hl];exact List.mem_cons_self ..
  exact jo4 (List.mem_filter.1 hm).1
theorem KnS.told_lt {g:Hist'} {s:KnS} {t:Nat} {l:List Op'}:∀ k,∀ x∈(s.told g t l k).2,0≤x∧x<g.ts.length
 | 0,x,h=>by simp [KnS.told] at h
 | k+1,x,h=>by
  simp only [KnS.told] at h
  split at h
  ·split at h
   ·exact KnS.told_lt k x h
   ·split at h
    ·exact KnS.told_lt k x h
    ·rename_i h0
     split at h
     ·rename_i h1
      simp only [Bool.and_eq_true,decide_eq_true_eq] at h1
      rcases List.mem_append.1 h with h | h
      ·exact KnS.told_lt k x h
      ·rw [List.mem_singleton.1 h]
       exact ⟨h1.2,KnS.left_lt h0⟩
     ·exact KnS.told_lt k x h
  ·exact KnS.told_lt k x h
theorem Alike.txn {g:Hist'} {s:KnS} {r:RwS} (h:Alike g.ts.length s r) (hp:s.Pos) {t:Nat} (ht:t<g.ts.length) (f:Int) (l:List Op') :
 Alike g.ts.length (s.txn g t f l) (r.txn g t f l)∧(s.txn g t f l).Pos:=by
 unfold KnS.txn
 rw [KnS.ops_told]
 generalize hs1:(if (badH g t).isEmpty then s else s.fails f t)=s1
 have hn1:∀ x:Int,x≠t→JC s1.n x=JC s.n x:=fun x hx=>by
  rw [← hs1];split
  ·rfl
  ·exact s.fails_n f t hx
 have hm1:s1.m=s.m:=by
  rw [← hs1];split
  ·rfl
  ·rw [s.fails_m]
 have hsole:=jg0 (s:=s1) (r:=r) (t:=t) (g:=g) (fun i hi hne=>by rw [h.2.2.2.1 i hi,hn1 i (by omega)]) (fun x hx=>by rw [hn1 x (by omega)];exact h.2.2.2.2.2.2 x hx) l l.length
 have hlt:=KnS.told_lt (g:=g) (s:=s1) (t:=t) (l:=l) l.length
 rw [hsole] at hlt
 rw [hsole,hm1]
 unfold RwS.txn
 rw [RwS.learn_all]
 have base:(if (r.sole g t l l.length).1 then s1.fails f t else s1)=if (r.sole g t l l.length).1 || !(badH g t).isEmpty then s.fails f t else s:=by
  rw [← hs1]
  cases (badH g t).isEmpty <;> cases (r.sole g t l l.length).1 <;> simp [KnS.fails_fails]
 rw [base]
 generalize r.sole g t l l.length=q at hlt ⊢
 have hB:Alike g.ts.length (if q.1 || !(badH g t).isEmpty then s.fails f t else s) (if q.1 || !(badH g t).isEmpty then r.fails f t else r)∧(if q.1 || !(badH g t).isEmpty then s.fails f t else s).Pos∧(if q.1 || !(badH g t).isEmpty then s.fails f t else s).m=s.m:=by
  split
  ·exact ⟨h.fails ht (hp _).2,hp.fails f t,s.fails_m f t⟩
  ·exact ⟨h,hp,rfl⟩
 generalize (if q.1 || !(badH g t).isEmpty then s.fails f t else s)=B at hB ⊢
 generalize (if q.1 || !(badH g t).isEmpty then r.fails f t else r)=R at hB ⊢
 obtain ⟨hA,hP,hM⟩:=hB
 have hc:=hA.2.2.1 t ht
 rw [hM] at hc
 by_cases h0:0<JC s.m t
 ·have hc':R.c.getD t false=true:=by rw [hc];simp [h0]
  rw [if_pos h0,if_pos hc']
  exact ⟨hA.learnAll _ hP hlt,hP.learnAll _⟩
 ·have hc':¬ R.c.getD t false=true:=by rw [hc];simp [h0]
  rw [if_neg h0,if_neg hc']
  exact ⟨hA,hP⟩
def RwS.init (g:Hist'):RwS:=⟨g.ts.map fun t=>t.f == 1,g.ts.map fun t=>t.f == 2,false,true⟩
def RwS.round (r:RwS) (g:Hist'):Nat→RwS
 | 0=>{ r with more:=false }
 | i+1=>match g.ts[i]? with
  | some t=>(r.round g i).txn g i t.f t.ops
  | none=>r.round g i
def RwS.iter (g:Hist'):Nat→RwS→RwS
 | 0,r=>r
 | k+1,r=>if r.more then RwS.iter g k (r.round g g.ts.length) else r
def RwS.hopTo (r:RwS):Nat→Bool
 | 0=>r.hop
 | i+1=>r.hopTo i || (r.c.getD i false && r.d.getD i false)
theorem je7 (g:Hist'):∀ i,i≤g.ts.length→(KnS.init g i).Pos∧(∀ x:Int,x<0→JC (KnS.init g i).n x=0)∧(KnS.init g i).hop=false∧(KnS.init g i).more=true ∧
 ∀ j:Nat,j<i→∀ h:j<g.ts.length,((g.ts[j]).f == 1)=decide (0<JC (KnS.init g i).m j)∧((g.ts[j]).f == 2)=decide (0<JC (KnS.init g i).n j)
 | 0,_=>⟨fun _=>⟨Int.le_refl _,Int.le_refl _⟩,fun _ _=>rfl,rfl,rfl,fun j h=>absurd h (by omega)⟩
 | i+1,hi=>by
  obtain ⟨h1,h2,h3,h4,h5⟩:=je7 g i (by omega)
  have hz:=jc5 g i i (Int.le_refl _)
  simp only [KnS.init,List.getElem?_eq_getElem (show i<g.ts.length by omega)]
  have last:∀ j:Nat,j<i+1→j≠i→j<i:=fun j h hne=>by omega
  by_cases f1:(g.ts[i]).f=1
  ·rw [if_pos f1]
   refine ⟨fun x=>⟨?_,(h1 x).2⟩,h2,h3,h4,fun j hj hjn=>?_⟩
   ·simp only [J7]
    split
    ·decide
    ·exact (h1 x).1
   ·simp only [J7]
    by_cases e:j=i
    ·subst e
     simp [f1,hz.2]
    ·rw [if_neg (by omega)]
     exact h5 j (last j hj e) hjn
  ·rw [if_neg f1]
   by_cases f2:(g.ts[i]).f=2
   ·rw [if_pos f2]
    refine ⟨fun x=>⟨(h1 x).1,?_⟩,fun x hx=>?_,h3,h4,fun j hj hjn=>?_⟩
    ·simp only [J7]
     split
     ·decide
     ·exact (h1 x).2
    ·simp only [J7]
     rw [if_neg (by omega)]
     exact h2 x hx
    ·simp only [J7]
     by_cases e:j=i
     ·subst e
      simp [f2,hz.1]
     ·rw [if_neg (by omega)]
      exact h5 j (last j hj e) hjn
   ·rw [if_neg f2]
    refine ⟨h1,h2,h3,h4,fun j hj hjn=>?_⟩
    by_cases e:j=i
    ·subst e
     simp [f1,f2,hz.1,hz.2]
    ·exact h5 j (last j hj e) hjn
theorem Alike.init (g:Hist'):Alike g.ts.length (KnS.init g g.ts.length) (RwS.init g)∧(KnS.init g g.ts.length).Pos:=by
 obtain ⟨h1,h2,h3,h4,h5⟩:=je7 g g.ts.length (Nat.le_refl _)
 refine ⟨⟨by simp [RwS.init],by simp [RwS.init],fun i hi=>?_,fun i hi=>?_,h3,h4,h2⟩,h1⟩
 ·rw [← (h5 i hi hi).1]
  simp [RwS.init,List.getD_eq_getElem?_getD,hi]
 ·rw [← (h5 i hi hi).2]
  simp [RwS.init,List.getD_eq_getElem?_getD,hi]
theorem Alike.round {g:Hist'} {s:KnS} {r:RwS} (h:Alike g.ts.length s r) (hp:s.Pos):∀ i,i≤g.ts.length→Alike g.ts.length (s.round g i) (r.round g i)∧(s.round g i).Pos
 | 0,_=>⟨⟨h.1,h.2.1,h.2.2.1,h.2.2.2.1,h.2.2.2.2.1,rfl,h.2.2.2.2.2.2⟩,hp⟩
 | i+1,hi=>by
  obtain ⟨hA,hP⟩:=Alike.round h hp i (by omega)
  simp only [KnS.round,RwS.round,List.getElem?_eq_getElem (show i<g.ts.length by omega)]
  exact hA.txn hP (by omega) _ _
theorem Alike.iter {g:Hist'}:∀ (k:Nat) {s:KnS} {r:RwS},Alike g.ts.length s r→s.Pos→Alike g.ts.length (KnS.iter g k s) (RwS.iter g k r)∧(KnS.iter g k s).Pos
 | 0,_,_,h,hp=>⟨h,hp⟩
 | k+1,s,r,h,hp=>by
  simp only [KnS.iter,RwS.iter,← h.2.2.2.2.2.1]
  split
  ·obtain ⟨hA,hP⟩:=Alike.round h hp g.ts.length (Nat.le_refl _)
   exact Alike.iter k hA hP
  ·exact ⟨h,hp⟩
theorem Alike.hopTo {n:Nat} {s:KnS} {r:RwS} (h:Alike n s r):∀ i,i≤n→s.hopTo i=r.hopTo i
 | 0,_=>h.2.2.2.2.1
 | i+1,hi=>by
  simp only [KnS.hopTo,RwS.hopTo,KnS.both,Alike.hopTo h i (by omega),h.2.2.1 i (by omega),h.2.2.2.1 i (by omega)]
end Go.Pv.T

/- value.Sorted (an observer of a list of values). -/
namespace Go.Pv.T
open Go Go.Pv
@[simp] theorem jza (v:Val'):(J1 v).all V.leaf=true:=rfl
end Go.Pv.T

/- Sorted values: one list alone. -/
namespace Go.Pv.T
open Go Go.Pv
end Go.Pv.T

/- value.Sorted (an observer of a list of values): what it answers, exactly. -/
namespace Go.Pv.T
open Go Go.Pv
end Go.Pv.T

/- What a lost read may have read: the program's walk. -/
namespace Go.Pv.T
open Go Go.Pv
def ValsP (ob:Nat→Option Obj') (p:Nat→Prop) (l:List Val') (v:V):Prop:=∃ u,v = .osl (2 * u+1) u 0 l.length 2∧ob (2 * u+1)=some ⟨u,.cells (l.flatMap J1)⟩∧p u
theorem ValsP.frame {ob ob':Nat→Option Obj'} {p p':Nat→Prop} {l:List Val'} {v:V} (h:ValsP ob p l v) (hf:∀ u,p u→ob' (2 * u+1)=ob (2 * u+1)) (hh:∀ u,p u→p' u):ValsP ob' p' l v:=by
 obtain ⟨u,h2,h3,h4⟩:=h
 exact ⟨u,h2,(hf u h4).trans h3,hh u h4⟩
end Go.Pv.T

/- What a lost read may have read: the reference's list. -/
namespace Go.Pv.T
open Go Go.Pv
end Go.Pv.T

/- WriterOf, but for its fixed example. -/
namespace Go.Pv.T
open Go Go.Pv
end Go.Pv.T

/- A history made whole; plain. -/
namespace Go.Pv.T
open Go Go.Pv
def Q0 (g:Hist') (cs:List Bool) (i:Nat):Bool:=match g.ts[i]? with
 | some t=>if t.f=3 then cs.getD (numsTo jk g.ts i).length false else t.f == 1
 | none=>false
def opR (g:Hist') (lo:List Val') (i k:Nat) (o:Op'):Op':=if o.v.kind=2 then { o with v:=lo.getD (JD g i k).length ⟨0,0⟩ } else o
def txnR (g:Hist') (cs:List Bool) (lo:List Val') (i:Nat) (t:Txn'):Txn':={ s:=t.s,f:=if Q0 g cs i then 1 else 2,nl:=false,ops:=t.ops.mapIdx (opR g lo i) }
def rawH (g:Hist') (cs:List Bool) (lo:List Val'):Hist':=⟨false,g.ss,false,g.ks,g.ts.isEmpty,g.ts.mapIdx (txnR g cs lo)⟩
def loB (v:Val'):Bool:=v.kind == 1 || (v.kind == 0 && v.n == 0)
def mayW (g:Hist') (cs:List Bool) (lo:List Val'):Bool:=Jr g && (decide (cs.length=(jV g).length) && (decide (lo.length=(Wx g).length) && lo.all loB))
def JA (g:Hist'):Bool:=(numsTo Yh g.ts g.ts.length).any (fun i=>!(badH g i).isEmpty) || (choR g).any fun c=>c.2.isEmpty
section
variable {g:Hist'} {cs:List Bool} {lo:List Val'}
theorem Y1:(rawH g cs lo).ts.length=g.ts.length:=by simp [rawH]
theorem XM {i:Nat} (h:i<g.ts.length):(rawH g cs lo).ts[i]'(by rw [Y1];exact h)=txnR g cs lo i g.ts[i]:=by simp [rawH]
theorem XM? (i:Nat):(rawH g cs lo).ts[i]? = (g.ts[i]?).map (txnR g cs lo i):=by simp [rawH]
theorem Yt (i:Nat) (t:Txn'):(txnR g cs lo i t).ops.length=t.ops.length:=by simp [txnR]
theorem jwy (i k:Nat) (o:Op'):(opR g lo i k o).w=o.w:=by unfold opR;split <;> rfl
theorem jft (i k:Nat) (o:Op'):(opR g lo i k o).key=o.key:=by unfold opR;split <;> rfl
theorem jut (i k:Nat) (key:Int) (o:Op'):wkB key (opR g lo i k o)=wkB key o:=by unfold wkB;rw [jwy,jft]
theorem Qi {i k:Nat} {o:Op'} (h:¬ o.v.kind=2):opR g lo i k o=o:=by unfold opR;rw [if_neg h]
theorem jxb {v:Val'} (h:loB v=true):jgz v=true:=by
 unfold loB at h;unfold jgz
 revert h
 cases v.kind == 1 <;> cases v.kind == 0 <;> cases v.n == 0 <;> simp
theorem js1 {v:Val'} (h:loB v=true):¬ v.kind=2:=by
 unfold loB at h
 simp only [Bool.or_eq_true,Bool.and_eq_true,beq_iff_eq] at h
 omega
theorem jqi (hl:lo.all loB=true) (n:Nat):loB (lo.getD n ⟨0,0⟩)=true:=by
 rw [List.getD_eq_getElem?_getD]
 cases h:lo[n]? with
 | none=>rfl
 | some v=>exact List.all_eq_true.1 hl v (List.mem_of_getElem? h)
theorem jwz {i k:Nat} {o:Op'} (hl:lo.all loB=true) (h:jgz o.v=true):jgz (opR g lo i k o).v=true:=by
 unfold opR
 split
 ·exact jxb (jqi hl _)
 ·exact h
theorem jsf {i k:Nat} {o:Op'} (hl:lo.all loB=true):¬ (opR g lo i k o).v.kind=2:=by
 unfold opR
 split
 ·exact js1 (jqi hl _)
 ·assumption
theorem jfz {α β:Type} (f:α→β) (k:Nat→α→α) (h:∀ n x,f (k n x)=f x) (l:List α):(l.mapIdx k).map f=l.map f:=by
 apply List.ext_getElem?
 intro n
 rw [List.getElem?_map,List.getElem?_map,List.getElem?_mapIdx]
 cases l[n]? <;> simp [h]
theorem juz (hm:Jr g=true) {t:Txn'} {o:Op'} (ht:t∈g.ts) (ho:o∈t.ops):opB g o=true:=by
 unfold Jr at hm
 simp only [Bool.and_eq_true,List.all_eq_true] at hm
 exact hm.2.2.1 o (List.mem_flatMap.2 ⟨t,ht,ho⟩)
theorem jbz (hm:Jr g=true) (hl:lo.all loB=true):Jr (rawH g cs lo)=true:=by
 have hop:=fun t o=>@juz g hm t o
 unfold Jr at hm ⊢
 simp only [Bool.and_eq_true,List.all_eq_true] at hm ⊢
 obtain ⟨h1,h2,h3,h4⟩:=hm
 refine ⟨?_,?_,?_,?_⟩
 ·unfold Xn at h1 ⊢
  rw [Y1]
  exact h1
 ·intro x hx
  obtain ⟨i,hi⟩:=List.mem_iff_getElem?.1 hx
  rw [XM?] at hi
  obtain ⟨t,ht,rfl⟩:=Option.map_eq_some_iff.1 hi
  have:=h2 t (List.mem_of_getElem? ht)
  unfold jbx at this ⊢
  rw [Yt]
  simp only [Bool.and_eq_true,decide_eq_true_eq] at this ⊢
  refine ⟨this.1,?_,?_,this.2.2.2⟩ <;> (simp only [txnR];split <;> decide)
 ·intro x hx
  unfold QM at hx
  rw [List.mem_flatMap] at hx
  obtain ⟨y,hy,hx⟩:=hx
  obtain ⟨i,hi⟩:=List.mem_iff_getElem?.1 hy
  rw [XM?] at hi
  obtain ⟨t,ht,rfl⟩:=Option.map_eq_some_iff.1 hi
  obtain ⟨k,hk⟩:=List.mem_iff_getElem?.1 hx
  simp only [txnR,List.getElem?_mapIdx] at hk
  obtain ⟨o,ho,rfl⟩:=Option.map_eq_some_iff.1 hk
  have:=hop t o (List.mem_of_getElem? ht) (List.mem_of_getElem? ho)
  unfold opB at this ⊢
  simp only [Bool.and_eq_true] at this ⊢
  rw [jft,jwy]
  refine ⟨this.1,jwz hl this.2.1,?_⟩
  cases hw:o.w
  ·rfl
  ·rw [hw] at this
   have hk1:o.v.kind=1:=by simpa using this.2.2
   rw [Qi (by omega)]
   simp [hk1]
 ·unfold jiu at h4 ⊢
  have e1:usesS (rawH g cs lo)=usesS g:=jfz (fun t:Txn'=>t.s) (txnR g cs lo) (fun _ _=>rfl) g.ts
  have e2:usesK (rawH g cs lo)=usesK g:=by
   unfold usesK QM
   rw [List.map_flatMap,List.map_flatMap,List.flatMap_def,List.flatMap_def]
   congr 1
   exact jfz (fun t:Txn'=>t.ops.map (·.key)) (txnR g cs lo) (fun n t=>jfz (fun o:Op'=>o.key) (opR g lo n) (fun k o=>jft n k o) t.ops) g.ts
  rw [e1,e2]
  exact h4
end
end Go.Pv.T

/- Fresh numbers: the program's walk. -/
namespace Go.Pv.T
open Go Go.Pv
def Cnt (m:List (Int × Int)) (L:List Int):Prop:=∀ k,JC m k=(L.count k:Nat)
theorem Cnt.nil:Cnt [] []:=fun _=>rfl
theorem Cnt.le {m:List (Int × Int)} {L:List Int} (h:Cnt m L) (k:Int):0≤JC m k∧JC m k≤L.length:=by
 rw [h k]
 have:=List.count_le_length (a:=k) (l:=L)
 omega
theorem Cnt.pos {m:List (Int × Int)} {L:List Int} (h:Cnt m L) (k:Int):(0<JC m k) ↔ k∈L:=by
 rw [h k]
 exact ⟨fun hp=>List.count_pos_iff.1 (by omega),fun hm=>by have:=List.count_pos_iff.2 hm;omega⟩
end Go.Pv.T

/- Another value read at one place: what may have written it (plain). -/
namespace Go.Pv.T
open Go Go.Pv
def setT (t:Txn') (b:Nat) (v:Val'):Txn':={ t with nl:=false,ops:=t.ops.modify b fun o=>{ o with v:=v } }
theorem je0 {α:Type} {k:α→α} {y:α}:∀ {l:List α} {i:Nat},y∈l.modify i k→y∈l∨∃ x,l[i]? = some x∧y=k x
 | [],i,h=>by simp at h
 | x::l,0,h=>by
  rw [List.modify_cons] at h
  simp only [if_true,List.mem_cons] at h
  rcases h with rfl | h
  ·exact .inr ⟨x,rfl,rfl⟩
  ·exact .inl (List.mem_cons_of_mem _ h)
 | x::l,i+1,h=>by
  rw [List.modify_cons] at h
  simp only [Nat.add_one_ne_zero,if_false,Nat.add_sub_cancel,List.mem_cons] at h
  rcases h with rfl | h
  ·exact .inl (List.mem_cons_self ..)
  ·rcases je0 h with h | ⟨z,h1,h2⟩
   ·exact .inl (List.mem_cons_of_mem _ h)
   ·exact .inr ⟨z,by simpa using h1,h2⟩
theorem jjc {g:Hist'} {a b:Nat} {t:Txn'} {o:Op'} (hm:Jr g=true) (ht:g.ts[a]? = some t) (ho:t.ops[b]? = some o):opAt g a b=some o:=by
 obtain ⟨h1,h2⟩:=List.getElem?_eq_some_iff.1 ht
 obtain ⟨h3,h4⟩:=List.getElem?_eq_some_iff.1 ho
 unfold opAt
 simp only [Int.toNat_natCast]
 have hg:g.ts.getD a ⟨0,0,true,[]⟩=t:=by rw [JB h1,h2]
 have hlt:b<(g.ts.getD a ⟨0,0,true,[]⟩).ops.length:=by rw [hg];exact h3
 rw [hm,if_pos (by simp only [Bool.true_and,Bool.and_eq_true,decide_eq_true_eq];omega),hg]
 exact ho
end Go.Pv.T

/- A history made whole: what it says of its reads; plain. -/
namespace Go.Pv.T
open Go Go.Pv
section
variable {g:Hist'} {cs:List Bool} {lo:List Val'}
theorem mem_nums {p:Txn'→Bool} {l:List Txn'} {x:Int}:∀ {n:Nat},x∈numsTo p l n ↔ ∃ i:Nat,i<n∧x=i∧∃ t,l[i]? = some t∧p t=true
 | 0=>by simp [numsTo]
 | n+1=>by
  simp only [numsTo,List.mem_append,mem_nums (n:=n)]
  constructor
  ·rintro (⟨i,h1,h2⟩ | h)
   ·exact ⟨i,by omega,h2⟩
   ·cases hn:l[n]? with
    | none=>rw [hn] at h;simp at h
    | some t =>
     rw [hn] at h
     simp only at h
     split at h
     ·rename_i hp
      exact ⟨n,by omega,by simpa using h,t,hn,hp⟩
     ·simp at h
  ·rintro ⟨i,h1,h2,t,ht,hp⟩
   rcases Nat.lt_succ_iff_lt_or_eq.1 h1 with h | h
   ·exact .inl ⟨i,h,h2,t,ht,hp⟩
   ·subst h
    right
    rw [ht]
    simp [hp,h2]
theorem jo8 {p:Txn'→Bool} {l:List Txn'} {x:Int}:∀ {n k:Nat},(numsTo p l n)[k]? = some x→∃ i:Nat,i<n∧x=i∧(numsTo p l i).length=k∧∃ t,l[i]? = some t∧p t=true
 | 0,k,h=>by simp [numsTo] at h
 | n+1,k,h=>by
  simp only [numsTo] at h
  by_cases hk:k<(numsTo p l n).length
  ·rw [List.getElem?_append_left hk] at h
   obtain ⟨i,h1,h2⟩:=jo8 h
   exact ⟨i,by omega,h2⟩
  ·rw [List.getElem?_append_right (by omega)] at h
   cases hn:l[n]? with
   | none=>rw [hn] at h;simp at h
   | some t =>
    rw [hn] at h
    simp only at h
    split at h
    ·rename_i hp
     rw [List.getElem?_singleton] at h
     split at h
     ·refine ⟨n,by omega,by simpa using h.symm,by omega,t,hn,hp⟩
     ·cases h
    ·simp at h
theorem jr8 (i:Nat) (t:Txn'):(txnR g cs lo i t).f=if Q0 g cs i then 1 else 2:=rfl
theorem Qb (hm:Jr g=true) {i:Nat} {t:Txn'} (ht:t∈g.ts) (key:Int):∀ n,J3 key (txnR g cs lo i t).ops n=J3 key t.ops n
 | 0=>rfl
 | n+1=>by
  rw [J3,J3,Qb hm ht key n]
  simp only [txnR,List.getElem?_mapIdx]
  cases ho:t.ops[n]? with
  | none=>rfl
  | some o =>
   simp only [Option.map_some,jut]
   split
   ·rename_i hw
    have hb:=juz hm ht (List.mem_of_getElem? ho)
    unfold opB at hb
    unfold wkB at hw
    simp only [Bool.and_eq_true] at hw hb
    have hk:o.v.kind=1:=by simpa [hw.1] using hb.2.2
    rw [Qi (by omega)]
   ·rfl
theorem jwr {i:Nat} {t:Txn'} (key:Int):(txnR g cs lo i t).ops.any (wkB key)=t.ops.any (wkB key):=by
 have:(txnR g cs lo i t).ops.map (wkB key)=t.ops.map (wkB key):=jfz (wkB key) (opR g lo i) (fun n x=>jut i n key x) t.ops
 have h:=congrArg (fun l:List Bool=>l.any id) this
 simpa [List.any_map] using h
theorem ji5 {key x:Int} (h:x∈writersH (rawH g cs lo) key):x∈writersH g key∧∃ i:Nat,x=i∧Q0 g cs i=true:=by
 unfold writersH at h ⊢
 rw [Y1] at h
 obtain ⟨i,h1,h2,t',ht',hp⟩:=mem_nums.1 h
 rw [XM?] at ht'
 obtain ⟨t,ht,rfl⟩:=Option.map_eq_some_iff.1 ht'
 unfold wrB at hp
 rw [jwr,Bool.and_eq_true,jr8] at hp
 have hc:Q0 g cs i=true:=by
  cases hc:Q0 g cs i
  ·rw [hc] at hp;simp at hp
  ·rfl
 refine ⟨mem_nums.2 ⟨i,h1,h2,t,ht,?_⟩,i,h2,hc⟩
 unfold wrB
 rw [hp.2,Bool.and_true]
 unfold Q0 at hc
 rw [ht] at hc
 simp only at hc
 split at hc
 ·rename_i hf;simp [hf]
 ·have:t.f=1:=by simpa using hc
  simp [this]
theorem joe (hm:Jr g=true) (hl:lo.all loB=true) (key:Int) {i:Nat} (h:i<g.ts.length):XP (rawH g cs lo) key i=XP g key i:=by
 rw [jav (jbz hm hl) key (by rw [Y1];exact h),jav hm key h,XM h,Yt,Qb hm (List.getElem_mem h)]
theorem jkm (hm:Jr g=true) (hl:lo.all loB=true) {i k:Nat} {t:Txn'} {o:Op'} (ht:g.ts[i]? = some t) (ho:t.ops[k]? = some o):opAt (rawH g cs lo) i k=some (opR g lo i k o) :=
 jjc (jbz hm hl) (t:=txnR g cs lo i t) (by rw [XM?,ht];rfl) (by simp [txnR,ho])
theorem jod (hm:Jr g=true) (hl:lo.all loB=true) {i k:Nat} {t:Txn'} {o:Op'} (ht:g.ts[i]? = some t) (ho:t.ops[k]? = some o):XN (rawH g cs lo) i k=XN g i k:=by
 obtain ⟨h1,h2⟩:=List.getElem?_eq_some_iff.1 ht
 unfold XN jja
 rw [jkm hm hl ht ho,jjc hm ht ho]
 simp only [jwy,jft,Int.toNat_natCast]
 rw [JB (by rw [Y1];exact h1),JB h1,XM h1,Qb hm (List.getElem_mem h1)]
theorem j0o (hm:Jr g=true) (hl:lo.all loB=true) {i k:Nat} {t:Txn'} {o:Op'} (ht:g.ts[i]? = some t) (ho:t.ops[k]? = some o) (h2:¬ o.v.kind=2) {x:Int} (h:x∈ofH (rawH g cs lo) i k):x∈ofH g i k∧(x = -1∨∃ j:Nat,x=j∧Q0 g cs j=true):=by
 unfold ofH at h ⊢
 rw [jkm hm hl ht ho,Qi h2] at h
 rw [jjc hm ht ho]
 simp only at h ⊢
 split at h
 ·simp at h
 ·rename_i hw
  rw [if_neg hw]
  unfold ofL at h ⊢
  rw [List.mem_append] at h ⊢
  rcases h with h | h
  ·refine ⟨.inl h,.inl ?_⟩
   unfold J5 at h
   split at h
   ·simp at h
   ·simpa using h
  ·obtain ⟨hx,hf⟩:=List.mem_filter.1 h
   obtain ⟨hx',j,rfl,hc⟩:=ji5 hx
   have hj:j<g.ts.length:=by
    obtain ⟨i',h1,h2,_⟩:=mem_nums.1 hx'
    omega
   refine ⟨.inr (List.mem_filter.2 ⟨hx',?_⟩),.inr ⟨j,rfl,hc⟩⟩
   rw [joe hm hl _ hj] at hf
   exact hf
theorem badTo_mem {ops:List Op'} {x:Int}:∀ {n:Nat},x∈X5 ops n ↔ ∃ k:Nat,k<n∧x=k∧∃ o,ops[k]? = some o∧jyw ops k o=true
 | 0=>by simp [X5]
 | n+1=>by
  simp only [X5,List.mem_append,badTo_mem (n:=n)]
  constructor
  ·rintro (⟨i,h1,h2⟩ | h)
   ·exact ⟨i,by omega,h2⟩
   ·cases hn:ops[n]? with
    | none=>rw [hn] at h;simp at h
    | some t =>
     rw [hn] at h
     simp only at h
     split at h
     ·rename_i hp
      exact ⟨n,by omega,by simpa using h,t,hn,hp⟩
     ·simp at h
  ·rintro ⟨i,h1,h2,t,ht,hp⟩
   rcases Nat.lt_succ_iff_lt_or_eq.1 h1 with h | h
   ·exact .inl ⟨i,h,h2,t,ht,hp⟩
   ·subst h
    right
    rw [ht]
    simp [hp,h2]
theorem jqu (hm:Jr g=true) {i:Nat} {t:Txn'} (ht:g.ts[i]? = some t):badH g i=X5 t.ops t.ops.length:=by
 obtain ⟨h1,h2⟩:=List.getElem?_eq_some_iff.1 ht
 unfold badH Xr
 rw [hm,if_pos (by simp;omega)]
 simp only [Int.toNat_natCast]
 rw [JB h1,h2]
theorem jwq (hm:Jr g=true) (hl:lo.all loB=true) {i:Nat} {t:Txn'} (ht:g.ts[i]? = some t) (h:¬ badH g i=[]):¬ badH (rawH g cs lo) i=[]:=by
 rw [jqu hm ht] at h
 rw [jqu (jbz hm hl) (by rw [XM?,ht];rfl)]
 obtain ⟨x,hx⟩:=List.exists_mem_of_ne_nil _ h
 obtain ⟨k,h1,h2,o,ho,hb⟩:=badTo_mem.1 hx
 have:x∈X5 (txnR g cs lo i t).ops (txnR g cs lo i t).ops.length:=by
  refine badTo_mem.2 ⟨k,by rw [Yt];exact h1,h2,opR g lo i k o,by simp [txnR,ho],?_⟩
  have h2k:¬ o.v.kind=2:=by
   unfold jyw at hb
   simp only [Bool.and_eq_true] at hb
   simpa using hb.2.1
  rw [Qi h2k]
  unfold jyw at hb ⊢
  rw [Qb hm (List.mem_of_getElem? ht)]
  exact hb
 intro e
 rw [e] at this
 simp at this
theorem readIn_mem {i:Nat} {p:Int × Int}:∀ {n:Nat},p∈X3 g i n ↔ ∃ k:Nat,k<n∧p=((i:Int),(k:Int))∧XN g i k=true
 | 0=>by simp [X3]
 | n+1=>by
  simp only [X3,List.mem_append,readIn_mem (n:=n)]
  constructor
  ·rintro (⟨k,h1,h2⟩ | h)
   ·exact ⟨k,by omega,h2⟩
   ·split at h
    ·rename_i hp
     exact ⟨n,by omega,by simpa using h,hp⟩
    ·simp at h
  ·rintro ⟨k,h1,h2,hp⟩
   rcases Nat.lt_succ_iff_lt_or_eq.1 h1 with h | h
   ·exact .inl ⟨k,h,h2,hp⟩
   ·subst h
    right
    simp [hp,h2]
theorem jes {i k:Nat} {t:Txn'} (ht:g.ts[i]? = some t) (hc:Yh t=true) (hk:k<t.ops.length) (ho:XN g i k=true):∀ {n:Nat},i<n→((i:Int),(k:Int))∈XL g n
 | 0,h=>by omega
 | n+1,h=>by
  simp only [XL,List.mem_append]
  rcases Nat.lt_succ_iff_lt_or_eq.1 h with h | h
  ·exact .inl (jes ht hc hk ho h)
  ·subst h
   right
   rw [ht]
   simp only [hc,if_true]
   exact readIn_mem.2 ⟨k,hk,rfl,ho⟩
end
end Go.Pv.T

/- A world that is against what must be, made whole, is hopeless; plain. -/
namespace Go.Pv.T
open Go Go.Pv
section
variable {g:Hist'} {cs:List Bool} {lo:List Val'}
structure Snd (g:Hist') (cs:List Bool) (s:KnS):Prop where
 m:∀ x:Int,0<JC s.m x→∃ i:Nat,x=i∧Q0 g cs i=true
 n:∀ x:Int,0<JC s.n x→∃ i:Nat,x=i∧Q0 g cs i=false
 h:s.hop=false
theorem Snd.learnM {s:KnS} (h:Snd g cs s) {i:Nat} (hi:Q0 g cs i=true):Snd g cs (s.learnM i):=by
 unfold KnS.learnM
 split
 ·refine ⟨fun x hx=>?_,h.n,h.h⟩
  simp only [J7] at hx
  split at hx
  ·rename_i e;exact ⟨i,e,hi⟩
  ·exact h.m x hx
 ·exact h
theorem Snd.learnN {s:KnS} (h:Snd g cs s) {i:Nat} (hi:Q0 g cs i=false):Snd g cs (s.learnN i):=by
 unfold KnS.learnN
 split
 ·refine ⟨h.m,fun x hx=>?_,h.h⟩
  simp only [J7] at hx
  split at hx
  ·rename_i e;exact ⟨i,e,hi⟩
  ·exact h.n x hx
 ·exact h
theorem Snd.fails {s:KnS} (h:Snd g cs s) {i:Nat} {t:Txn'} (ht:g.ts[i]? = some t) (hi:Q0 g cs i=false):Snd g cs (s.fails t.f i):=by
 unfold KnS.fails
 split
 ·rename_i hf
  unfold Q0 at hi
  rw [ht] at hi
  simp [hf] at hi
 ·split
  ·exact h.learnN hi
  ·exact h
theorem hope (h:JA (rawH g cs lo)=false):(∀ i:Nat,i<g.ts.length→Q0 g cs i=true→badH (rawH g cs lo) i=[])∧∀ p∈readH (rawH g cs lo),¬ ofH (rawH g cs lo) p.1 p.2=[]:=by
 unfold JA at h
 rw [Bool.or_eq_false_iff,List.any_eq_false,List.any_eq_false] at h
 constructor
 ·intro i hi hc
  have:=h.1 (i:Int) (mem_nums.2 ⟨i,by rw [Y1];exact hi,rfl,txnR g cs lo i g.ts[i],by rw [XM?,List.getElem?_eq_getElem hi];rfl,by unfold Yh;rw [jr8,hc];rfl⟩)
  simpa using this
 ·intro p hp e
  have:=h.2 (false,ofH (rawH g cs lo) p.1 p.2) (List.mem_map.2 ⟨p,hp,rfl⟩)
  simp [e] at this
theorem jpo (hm:Jr g=true) (hl:lo.all loB=true) (hh:JA (rawH g cs lo)=false) {s:KnS} (h:Snd g cs s) {i k:Nat} {t:Txn'} {o:Op'} (ht:g.ts[i]? = some t) (ho:t.ops[k]? = some o) (h2:¬ o.v.kind=2) (hu:XN g i k=true) (hc:Q0 g cs i=true) :
 ∃ x∈s.left g i k,x = -1∨∃ j:Nat,x=j∧Q0 g cs j=true:=by
 have hne:=(hope hh).2 ((i:Int),(k:Int)) (jes (t:=txnR g cs lo i t) (by rw [XM?,ht];rfl) (by unfold Yh;rw [jr8,hc];rfl) (by rw [Yt];exact (List.getElem?_eq_some_iff.1 ho).1) (by rw [jod hm hl ht ho];exact hu) (by rw [Y1];exact (List.getElem?_eq_some_iff.1 ht).1))
 obtain ⟨x,hx⟩:=List.exists_mem_of_ne_nil _ hne
 obtain ⟨h3,h4⟩:=j0o hm hl ht ho h2 hx
 refine ⟨x,List.mem_filter.2 ⟨h3,?_⟩,h4⟩
 simp only [Bool.not_eq_true',decide_eq_false_iff_not]
 intro hn
 obtain ⟨j,hj,hjc⟩:=h.n x hn
 rcases h4 with e | ⟨j',e,hc'⟩
 ·omega
 ·have:j=j':=by omega
  subst this
  rw [hjc] at hc'
  cases hc'
theorem Snd.op (hm:Jr g=true) (hl:lo.all loB=true) (hh:JA (rawH g cs lo)=false) {s:KnS} (h:Snd g cs s) {i k:Nat} {t:Txn'} {o:Op'} (ht:g.ts[i]? = some t) (ho:t.ops[k]? = some o):Snd g cs (s.op g t.f i k o):=by
 unfold KnS.op
 split
 ·exact h
 ·rename_i hc
  simp only [Bool.or_eq_true,not_or,beq_iff_eq,Bool.not_eq_true',Bool.not_eq_false] at hc
  have key:=jpo hm hl hh h ht ho hc.1 hc.2
  split
  ·rename_i h0
   refine h.fails ht ?_
   cases hci:Q0 g cs i
   ·rfl
   ·obtain ⟨x,hx,_⟩:=key hci
    have:=List.length_pos_of_mem hx
    omega
  ·split
   ·rename_i h1
    simp only [Bool.and_eq_true,decide_eq_true_eq,beq_iff_eq] at h1
    obtain ⟨i',e,hci⟩:=h.m i h1.2.2
    have:i'=i:=by omega
    subst this
    obtain ⟨x,hx,hx2⟩:=key hci
    obtain ⟨y,hy⟩:=List.length_eq_one_iff.1 h1.1
    rw [hy] at hx h1 ⊢
    have hxy:x=y:=by simpa using hx
    subst hxy
    rcases hx2 with e | ⟨j,e,hj⟩
    ·have:=h1.2.1
     simp only [List.headD_cons] at this
     omega
    ·simp only [List.headD_cons]
     rw [e]
     exact h.learnM hj
   ·exact h
theorem Snd.ops (hm:Jr g=true) (hl:lo.all loB=true) (hh:JA (rawH g cs lo)=false) {s:KnS} (h:Snd g cs s) {i:Nat} {t:Txn'} (ht:g.ts[i]? = some t):∀ n,Snd g cs (s.ops g t.f i t.ops n)
 | 0=>h
 | n+1=>by
  simp only [KnS.ops]
  split
  ·rename_i o ho
   exact (Snd.ops hm hl hh h ht n).op hm hl hh ht ho
  ·exact Snd.ops hm hl hh h ht n
theorem Snd.txn (hm:Jr g=true) (hl:lo.all loB=true) (hh:JA (rawH g cs lo)=false) {s:KnS} (h:Snd g cs s) {i:Nat} {t:Txn'} (ht:g.ts[i]? = some t):Snd g cs (s.txn g i t.f t.ops):=by
 unfold KnS.txn
 refine Snd.ops hm hl hh ?_ ht _
 split
 ·exact h
 ·rename_i hb
  refine h.fails ht ?_
  cases hci:Q0 g cs i
  ·rfl
  ·have h1:=jwq (cs:=cs) hm hl ht (by simpa using hb)
   exact absurd ((hope hh).1 i (List.getElem?_eq_some_iff.1 ht).1 hci) h1
theorem Snd.round (hm:Jr g=true) (hl:lo.all loB=true) (hh:JA (rawH g cs lo)=false) {s:KnS} (h:Snd g cs s):∀ n,Snd g cs (s.round g n)
 | 0=>⟨h.m,h.n,h.h⟩
 | n+1=>by
  simp only [KnS.round]
  split
  ·rename_i t ht
   exact (Snd.round hm hl hh h n).txn hm hl hh ht
  ·exact Snd.round hm hl hh h n
theorem Snd.iter (hm:Jr g=true) (hl:lo.all loB=true) (hh:JA (rawH g cs lo)=false):∀ (n:Nat) {s:KnS},Snd g cs s→Snd g cs (KnS.iter g n s)
 | 0,_,h=>h
 | n+1,s,h=>by
  simp only [KnS.iter]
  split
  ·exact Snd.iter hm hl hh n (h.round hm hl hh _)
  ·exact h
theorem Snd.init:∀ n,Snd g cs (KnS.init g n)
 | 0=>⟨fun x h=>by simp [KnS.init,JC,Ju] at h,fun x h=>by simp [KnS.init,JC,Ju] at h,rfl⟩
 | n+1=>by
  have ih:=Snd.init n
  simp only [KnS.init]
  split
  ·rename_i t ht
   split
   ·rename_i hf
    refine ⟨fun x hx=>?_,ih.n,ih.h⟩
    simp only [J7] at hx
    split at hx
    ·rename_i e
     exact ⟨n,e,by unfold Q0;rw [ht];simp [hf]⟩
    ·exact ih.m x hx
   ·split
    ·rename_i hf
     refine ⟨ih.m,fun x hx=>?_,ih.h⟩
     simp only [J7] at hx
     split at hx
     ·rename_i e
      exact ⟨n,e,by unfold Q0;rw [ht];simp [hf]⟩
     ·exact ih.n x hx
    ·exact ih
  ·exact ih
theorem Snd.both {s:KnS} (h:Snd g cs s) (x:Int):s.both x=false:=by
 unfold KnS.both
 cases h1:decide (0<JC s.m x)
 ·rfl
 ·cases h2:decide (0<JC s.n x)
  ·rfl
  ·obtain ⟨i,e1,c1⟩:=h.m x (of_decide_eq_true h1)
   obtain ⟨j,e2,c2⟩:=h.n x (of_decide_eq_true h2)
   have:i=j:=by omega
   subst this
   rw [c1] at c2
   cases c2
theorem Snd.hopTo {s:KnS} (h:Snd g cs s):∀ n,s.hopTo n=false
 | 0=>h.h
 | n+1=>by rw [KnS.hopTo,Snd.hopTo h n,h.both];rfl
theorem Snd.known (hm:Jr g=true) (hl:lo.all loB=true) (hh:JA (rawH g cs lo)=false):Snd g cs (KnS.known g):=by
 have h:=Snd.iter hm hl hh (2 * g.ts.length+1) (Snd.init (g:=g) (cs:=cs) g.ts.length)
 exact ⟨h.m,h.n,h.hopTo _⟩
theorem jt8 {k:Nat} (hk:k<(jV g).length):∃ i:Nat,(jV g).getD k 0=i∧Q0 g cs i=cs.getD k false:=by
 unfold jV at hk ⊢
 obtain ⟨i,h1,h2,h3,t,ht,hp⟩:=jo8 (List.getElem?_eq_getElem hk)
 refine ⟨i,by rw [JB hk,h2],?_⟩
 unfold Q0
 rw [ht]
 unfold jk at hp
 simp only [beq_iff_eq] at hp
 simp only [hp,if_true,h3]
theorem Snd.ag {s:KnS} (h:Snd g cs s) {k:Nat} (hk:k<(jV g).length):s.ag ((jV g).getD k 0) (cs.getD k false)=false:=by
 obtain ⟨i,e,hc⟩:=jt8 (cs:=cs) hk
 rw [e,← hc]
 unfold KnS.ag
 cases hci:Q0 g cs i
 ·simp only [Bool.false_and,Bool.not_false,Bool.true_and,Bool.false_or,decide_eq_false_iff_not]
  intro h1
  obtain ⟨j,e1,c1⟩:=h.m i h1
  have:j=i:=by omega
  subst this
  rw [hci] at c1
  cases c1
 ·simp only [Bool.true_and,Bool.not_true,Bool.false_and,Bool.or_false,decide_eq_false_iff_not]
  intro h1
  obtain ⟨j,e1,c1⟩:=h.n i h1
  have:j=i:=by omega
  subst this
  rw [hci] at c1
  cases c1
theorem Snd.agTo {s:KnS} (h:Snd g cs s):∀ n,n≤(jV g).length→s.agTo (jV g) cs n=false
 | 0,_=>rfl
 | n+1,hn=>by rw [KnS.agTo,Snd.agTo h n (by omega),h.ag (by omega)];rfl
theorem jbv (hw:mayW g cs lo=true) (ha:(Xg g cs).1=true):JA (rawH g cs lo)=true:=by
 unfold mayW at hw
 simp only [Bool.and_eq_true,decide_eq_true_eq] at hw
 obtain ⟨hm,hc,_,hl⟩:=hw
 cases hh:JA (rawH g cs lo)
 ·have h:=Snd.known (cs:=cs) hm hl hh
  unfold Xg at ha
  rw [hm,if_pos rfl,if_pos hc] at ha
  simp only [h.agTo _ (Nat.le_of_eq hc),h.h,Bool.or_self] at ha
  cases ha
 ·rfl
theorem jm7 (hw:mayW g cs lo=true):(Xg g cs).2=0:=by
 unfold mayW at hw
 simp only [Bool.and_eq_true,decide_eq_true_eq] at hw
 unfold Xg
 rw [hw.1,if_pos rfl,if_pos hw.2.1]
theorem jc8 {i:Nat} {ops:List Op'} (h:∀ o∈ops,¬ o.v.kind=2):∀ n,WH i ops n=[]
 | 0=>rfl
 | n+1=>by
  rw [WH,jc8 h n]
  cases ho:ops[n]? with
  | none=>rfl
  | some o=>simp [h o (List.mem_of_getElem? ho)]
theorem jc6 {ts:List Txn'} (h:∀ t∈ts,∀ o∈t.ops,¬ o.v.kind=2):∀ n,WG ts n=[]
 | 0=>rfl
 | n+1=>by
  rw [WG,jc6 h n]
  cases ht:ts[n]? with
  | none=>rfl
  | some t=>simp [jc8 (h t (List.mem_of_getElem? ht))]
theorem job (hm:Jr g=true) (hl:lo.all loB=true):jcc (rawH g cs lo)=true:=by
 unfold jcc
 rw [jbz hm hl]
 have h1:jV (rawH g cs lo)=[]:=by
  rw [List.eq_nil_iff_forall_not_mem]
  intro x hx
  obtain ⟨i,_,_,t',ht',hp⟩:=mem_nums.1 hx
  rw [XM?] at ht'
  obtain ⟨t,ht,rfl⟩:=Option.map_eq_some_iff.1 ht'
  unfold jk at hp
  rw [jr8] at hp
  split at hp <;> simp at hp
 have h2:Wx (rawH g cs lo)=[]:=jc6 (fun t' ht' o' ho'=>by
  obtain ⟨i,hi⟩:=List.mem_iff_getElem?.1 ht'
  rw [XM?] at hi
  obtain ⟨t,ht,rfl⟩:=Option.map_eq_some_iff.1 hi
  obtain ⟨k,hk⟩:=List.mem_iff_getElem?.1 ho'
  simp only [txnR,List.getElem?_mapIdx] at hk
  obtain ⟨o,ho,rfl⟩:=Option.map_eq_some_iff.1 hk
  exact jsf hl) _
 rw [h1,h2]
 rfl
theorem joc (hs:Small g):Small (rawH g cs lo) where
 ss:=hs.ss
 sl:=hs.sl
 ks:=hs.ks
 kl:=hs.kl
 ts:=by rw [Y1];exact hs.ts
 os t' ht':=by
  obtain ⟨i,hi⟩:=List.mem_iff_getElem?.1 ht'
  rw [XM?] at hi
  obtain ⟨t,ht,rfl⟩:=Option.map_eq_some_iff.1 hi
  rw [Yt]
  exact hs.os t (List.mem_of_getElem? ht)
end
end Go.Pv.T

/- Maps of reads: the first, the next, how many, all: plain laws. -/
namespace Go.Pv.T
open Go Go.Pv
abbrev Cs':=List (Bool × List Int)
def hd1 (c:Bool × List Int):Int:=c.2.headD 0
def jfw:Cs'→List Int→Option (List Int)
 | c::cs,m::ms=>match jfw cs ms with
  | some r=>some (m::r)
  | none=>if idxI c.2 m 0+1<c.2.length then some (c.2.getD (idxI c.2 m 0+1).toNat 0::cs.map hd1) else none
 | _,_=>none
def jzn (n:Int):Int:=if 1000000<n then 1000000 else n
def QD:Cs'→Int→Int
 | [],n=>n
 | c::cs,n=>QD cs (jzn (n * c.2.length))
end Go.Pv.T

/- Maps of reads: the first, and how many: walks. -/
namespace Go.Pv.T
open Go Go.Pv
theorem min6 (n:Int):W5 false [.int .i64 n,.int .i64 1000000]=some (.int .i64 (jzn n)):=by
 by_cases h:(1000000:Int)<n <;> simp [W5,W6,jc4,jzn,h]
theorem jyt {n:Int} (h:0≤n):0≤jzn n∧jzn n≤1000000:=by unfold jzn;split <;> omega
theorem j39 {n:Int} {k:Nat} (h0:0≤n) (h1:n≤1000000) (hk:k≤41):0≤n * (k:Int)∧n * (k:Int)≤41000000:=by
 have h2:=Int.mul_nonneg h0 (show (0:Int)≤k by omega)
 have h3:n * (k:Int)≤1000000 * 41:=Int.mul_le_mul h1 (by omega) (by omega) (by omega)
 omega
theorem jyq {g:Hist'} (hw:jcc g=true):∀ x∈choR g,x.2.length≤41:=by
 intro x hx
 unfold choR at hx
 obtain ⟨p,_,rfl⟩:=List.mem_map.1 hx
 have hm:Jr g=true:=by unfold jcc at hw;simp only [Bool.and_eq_true] at hw;exact hw.1
 exact jo5 hm _ _
theorem jlc {g:Hist'} (hs:Small g):(choR g).length≤1000000:=by unfold choR;rw [List.length_map];exact jhb hs
theorem jfc:∀ {C D:Cs'} (n:Int),C.map (·.2)=D.map (·.2)→QD C n=QD D n
 | [],[],_,_=>rfl
 | c::C,d::D,n,h=>by
  simp only [List.map_cons,List.cons.injEq] at h
  simp only [QD,h.1]
  exact jfc _ h.2
 | [],_::_,_,h=>by simp at h
 | _::_,[],_,h=>by simp at h
theorem ev40 {g:Hist'} (hs:Small g) (hw:jcc g=true):Ev E 40 [.agg (j7 g)] (.int .i64 (QD (choW g) 1)):=by
 obtain ⟨vc,evc,hvc⟩:=ev45 hs
 have hCl:=jlc hs
 have hCs:=jyq hw
 rw [jfc 1 (jyp hw)]
 refine jc (af:=F40) rfl ?_
 obtain ⟨C,hC⟩:∃ C,choR g=C:=⟨_,rfl⟩
 rw [hC] at hvc hCl hCs ⊢
 obtain ⟨R,hR⟩:∃ R,QD C 1=R:=⟨_,rfl⟩
 simp [F40,j7,j6,hR]
 refine jf evc (by simp [j7]) rfl (by simp [j7]) ?_
 refine jcs hvc fun tc addc=>?_
 simp
 refine jL [(4,5),(8,21)] C.length (fun i s=>s.tm 5 = .int .i64 i∧∃ n,s.tm 4 = .int .i64 n∧0≤n∧n≤1000000∧QD (C.drop i) n=R) rfl rfl ⟨by simp,1,by simp,by omega,by omega,by simpa using hR⟩ ?_
 rintro i s hi ⟨h5,n,h4,n0,n1,hT⟩ f
 have f3:s.tm 3 = .sl tc false C.length (C.flatMap jkx):=by rw [f.t 3 (by simp)];simp
 have fd:s.df=[]:=by rw [f.d];simp
 clear f
 by_cases hlt:i<C.length
 ·have hw':=JJ hlt (by omega)
  have h1:=ju1 C hlt
  have hix:JZ 1 (.sl tc false C.length (C.flatMap jkx)) (.int .i64 (i:Int))=some (.eptr (C.flatMap jkx) (i * 1)):=by
   simp only [Yj,jE jb1]
   rw [if_pos (by simp;omega)]
   rfl
  rw [Nat.mul_one] at hix
  have hk:=hCs _ (List.getElem_mem hlt)
  rw [List.drop_eq_getElem_cons hlt,QD] at hT
  have hm:=j39 n0 n1 hk
  have hc:=jyt hm.1
  have hwm:=J4 (n:=n * ((C[i]).2.length:Int)) (by omega) (by omega)
  have h6:=min6 (n * ((C[i]).2.length:Int))
  generalize (C[i]).2.length=k at *
  simp [h5,f3,h4,hlt,hix,h1,hwm,h6,hw']
  first | exact ⟨hlt,hc.1,hc.2,hT⟩ | exact ⟨hc.1,hc.2,hT⟩
 ·have:i=C.length:=by omega
  subst this
  rw [List.drop_length,QD] at hT
  simp [h5,f3,h4]
  exact jC (by simp [fd]) (by simp [hT]) rfl
end Go.Pv.T

/- Who committed; whether a whole history is hopeless; what it then tells. -/
namespace Go.Pv.T
open Go Go.Pv
theorem ev138 (h:Hist') (hn:h.ts.length≤1000):Ev E 138 [.agg (j7 h)] (.sl (some (0,1)) false (numsTo Yh h.ts h.ts.length).length ((numsTo Yh h.ts h.ts.length).flatMap intC)):=by
 refine jc (af:=F138) rfl ?_
 simp [F138,j7]
 refine jT (cs:=[]) rfl rfl rfl ?_
 simp
 refine Xz (n:=h.ts.length) (fun k s=>∃ i u,k=h.ts.length - i∧i≤h.ts.length∧s.df=[]∧s.fb=0∧s.ro=0∧s.tm 1 = .ptr 2 0 0∧s.ob 2=some ⟨0,.cells (j7 h)⟩∧s.tm 4 = .int .i64 i∧s.tk u=true ∧
  s.tm 3 = .sl (some (u,1)) false (numsTo Yh h.ts i).length ((numsTo Yh h.ts i).flatMap intC))
  ⟨0,128,by simp [numsTo,j7]⟩ ?_
 rintro k s ⟨i,u,rfl,hi,hd,hfb,hro,h1,o2,h4,hu,h3⟩
 by_cases hlt:i<h.ts.length
 ·simp [h1,o2,h4,j6,j7,hlt,jF jH,ju jH,txnC]
  have hl:=J6 Yh h.ts i
  cases hf:h.ts[i].f == 1
  ·simp [h4]
   refine ⟨h.ts.length - (i+1),by omega,i+1,⟨rfl,by omega,hd,hfb,hro,h1,by simpa [j7] using o2,by rw [J4 (by omega) (by omega)];simp,u,hu,?_⟩⟩
   rw [h3,JT hlt,Yh,hf]
   simp
  ·simp [h3,h4]
   refine jT (cs:=[.int .i64 i]) (by simp [jD]) rfl rfl ?_
   simp
   refine XQ (u:=u) (nl:=false) (n:=(numsTo Yh h.ts i).length) (cs:=(numsTo Yh h.ts i).flatMap intC) (ys:=[.int .i64 i]) (by simp) (by simp [jv,hu]) (by simp [jO]) (by simp) (by rw [jE jR]) (by decide) rfl (by simp;omega) (by simp;omega) ?_
   simp [h4,hd,hfb,hro,h1,o2,j7]
   refine ⟨h.ts.length - (i+1),by omega,i+1,rfl,by omega,by rw [J4 (by omega) (by omega)];simp,Or.inl ?_⟩
   rw [JT hlt,Yh,hf]
   simp [intC]
 ·have:i=h.ts.length:=by omega
  subst this
  simp [h1,o2,h4,j6,j7]
  exact jdr (u:=u) (by simpa using hd) (by simp [h3]) (by simpa using hu)
def j54 (C:List (Bool × List Int)) (k:Nat):Bool:=(C.take k).any fun c=>c.2.isEmpty
set_option maxRecDepth 100000 in
theorem ev95 {g:Hist'} (hs:Small g):Ev E 95 [.agg (j7 g)] (.bool (JA g)):=by
 have e138:=ev138 g hs.ts
 obtain ⟨vc,evc,hvc⟩:=ev45 hs
 have hCl:=jlc hs
 have hnl:=J6 Yh g.ts g.ts.length
 have hts:=hs.ts
 obtain ⟨R,hR⟩:∃ R,JA g=R:=⟨_,rfl⟩
 rw [hR]
 unfold JA at hR
 refine jc (af:=F95) rfl ?_
 obtain ⟨C,hC⟩:∃ C,choR g=C:=⟨_,rfl⟩
 rw [hC] at hvc hCl hR
 obtain ⟨L,hL⟩:∃ L,numsTo Yh g.ts g.ts.length=L:=⟨_,rfl⟩
 rw [hL] at e138 hnl hR
 simp [F95,j7,j6]
 refine jf e138 (by simp [j7]) rfl (by simp [j7]) ?_
 refine jcs (nl:=false) (n:=L.length) (cs:=L.flatMap intC) ⟨some (0,1),rfl,by simp⟩ fun t8 add8=>?_
 simp
 refine jL [(2,2),(4,4),(9,22)] L.length (fun i s=>s.tm 4 = .int .i64 i∧s.ob 2=some ⟨0,.cells (j7 g)⟩∧(L.take i).any (fun i=>!(badH g i).isEmpty)=false) rfl rfl ⟨by simp,by simp [j7],by simp⟩ ?_
 rintro i s hi ⟨h4,o2,hno⟩ f
 have f1:s.tm 1 = .ptr 2 0 0:=by rw [f.t 1 (by simp)];simp
 have f3:s.tm 3 = .sl t8 false L.length (L.flatMap intC):=by rw [f.t 3 (by simp)];simp
 have fd:s.df=[]:=by rw [f.d];simp
 have fb:s.fb=0:=by rw [f.b];simp
 have fr:s.ro=0:=by rw [f.r];simp
 clear f
 by_cases hlt:i<L.length
 ·have hw:=JJ hlt (by omega)
  have hli:=Qw L hlt
  obtain ⟨vb,evb,hvb⟩:=ev137 hs L[i]
  have hst:(L.take (i+1)).any (fun i=>!(badH g i).isEmpty) = !(badH g L[i]).isEmpty:=by
   rw [List.take_succ_eq_append_getElem hlt,List.any_append,hno]
   simp
  have hix:=je8 jR t8 false L .i64 hlt
  rw [Nat.mul_one] at hix
  simp [h4,f1,f3,o2,j6,j7,hlt,hix,hli]
  refine Xt evb (by simp [j7]) rfl (by simp [j7]) ?_
  refine jcs hvb fun tb addb=>?_
  simp
  cases hb:(badH g L[i]).isEmpty
  ·have hpos:0<(badH g L[i]).length:=by
    cases hbl:badH g L[i] with
    | nil=>rw [hbl] at hb;cases hb
    | cons a l=>simp
   have hRt:R=true:=by
    rw [← hR,Bool.or_eq_true]
    exact .inl (List.any_eq_true.2 ⟨L[i],List.getElem_mem hlt,by rw [hb];rfl⟩)
   simp [hpos]
   exact jC (by simp [fd]) (by simp [hRt]) rfl
  ·have hpos:badH g L[i]=[]:=by simpa using hb
   simp [hpos,hw,h4,o2,j7]
   refine ⟨hlt,?_⟩
   have:=hst
   rw [hb] at this
   simpa using this
 ·have hiL:i=L.length:=by omega
  subst hiL
  rw [List.take_length] at hno
  rw [hno,Bool.false_or] at hR
  simp [h4,f1,f3,o2,j6,j7]
  refine jf evc (by simp [j7]) rfl (by simp [j7]) ?_
  refine jcs hvc fun tc addc=>?_
  simp
  refine jL [(2,2),(6,6),(25,36)] C.length (fun i s=>s.tm 6 = .int .i64 i∧j54 C i=false) rfl rfl ⟨by simp,by simp [j54]⟩ ?_
  rintro k s1 hk ⟨h6,hnk⟩ f
  have f5:s1.tm 5 = .sl tc false C.length (C.flatMap jkx):=by rw [f.t 5 (by simp)];simp
  have gd:s1.df=[]:=by rw [f.d];simp [fd]
  clear f
  by_cases hkt:k<C.length
  ·have hwk:=JJ hkt (by omega)
   have hl1:=ju1 C hkt
   have hix:JZ 1 (.sl tc false C.length (C.flatMap jkx)) (.int .i64 (k:Int))=some (.eptr (C.flatMap jkx) (k * 1)):=by
    simp only [Yj,jE jb1]
    rw [if_pos (by simp;omega)]
    rfl
   rw [Nat.mul_one] at hix
   have hst:j54 C (k+1)=(C[k]).2.isEmpty:=by
    unfold j54 at hnk ⊢
    rw [List.take_succ_eq_append_getElem hkt,List.any_append,hnk]
    simp
   have hz:=len0 (C[k]).2
   cases hb:(C[k]).2.isEmpty
   ·rw [hb] at hz
    simp [h6,f5,hkt,hix,hl1,hz,hwk]
    first | exact ⟨hkt,by rw [hst,hb]⟩ | (rw [hst,hb])
   ·rw [hb] at hz
    have hRt:R=true:=by
     rw [← hR]
     exact List.any_eq_true.2 ⟨C[k],List.getElem_mem hkt,hb⟩
    simp [h6,f5,hkt,hix,hl1,hz]
    exact jC (by simp [gd]) (by simp [hRt]) rfl
  ·have hkC:k=C.length:=by omega
   subst hkC
   unfold j54 at hnk
   rw [List.take_length] at hnk
   simp [h6,f5]
   exact jC (by simp [gd]) (by simp [← hR,hnk]) rfl
end Go.Pv.T

/- Who commits in a world; may it be. -/
namespace Go.Pv.T
open Go Go.Pv
def JL (cn:Bool) (cs:List Bool) (ln:Bool) (lo:List Val'):List V:=[jl cn blC cs,jl ln J1 lo]
def cmL (g:Hist') (cs:List Bool) (n:Nat):List Bool:=(List.range n).map (Q0 g cs)
theorem jt9 (g:Hist') (cs:List Bool) (n:Nat):cmL g cs (n+1)=cmL g cs n++[Q0 g cs n]:=by simp [cmL,List.range_succ]
theorem jhu {p:Txn'→Bool} {l:List Txn'}:∀ {n i:Nat},i≤n→(numsTo p l i).length≤(numsTo p l n).length
 | 0,i,h=>by
  have:i=0:=by omega
  rw [this];exact Nat.le_refl _
 | n+1,i,h=>by
  rcases Nat.lt_or_ge n i with h1 | h1
  ·have:i=n+1:=by omega
   rw [this];exact Nat.le_refl _
  ·have:=jhu (p:=p) (l:=l) h1
   simp only [numsTo,List.length_append]
   omega
set_option maxRecDepth 100000 in
theorem ev94 {g:Hist'} (hs:Small g) {cn ln:Bool} {cs:List Bool} {lo:List Val'} (hc:cs.length=(jV g).length):∃ v,Ev E 94 [.agg (j7 g),.agg (JL cn cs ln lo)] v∧SlR v false g.ts.length ((cmL g cs g.ts.length).flatMap blC):=by
 have hts:=hs.ts
 refine YV (af:=F94) rfl (by decide) ?_
 simp [F94,j7,JL]
 refine jT (cs:=[]) rfl rfl rfl ?_
 simp
 refine jL [(5,8),(10,41)] g.ts.length (fun i s=>s.tm 7 = .int .i64 i∧s.tm 6 = .int .i64 (numsTo jk g.ts i).length∧s.ob 4=some ⟨0,.cells (j7 g)⟩∧s.ob 6=some ⟨64,.cells [jl cn blC cs,jl ln J1 lo]⟩∧GrowT s.tk s.nx blC 1 (cmL g cs i) (s.tm 5)) rfl rfl ⟨by simp,by simp [numsTo],by simp [j7],by simp,?_⟩ ?_
 ·exact ⟨_,by simp [cmL];rfl,by simp [jv],by simp⟩
 rintro i s hi ⟨h7,h6,o2,o3,hG⟩ f
 have f2:s.tm 2 = .ptr 4 0 0:=by rw [f.t 2 (by simp)];simp
 have f3:s.tm 3 = .ptr 6 64 0:=by rw [f.t 3 (by simp)];simp
 have fd:s.df=[]:=by rw [f.d];simp
 have fb:s.fb=0:=by rw [f.b];simp
 have fr:s.ro=0:=by rw [f.r];simp
 clear f
 by_cases hlt:i<g.ts.length
 ·have hw:=JJ hlt (by omega)
  have hff:(g.ts.flatMap txnC)[i * 3+1]? = some (.int .i64 (g.ts[i]).f):=by rw [ju jH g.ts hlt (by decide:1<3)];rfl
  have hnn:=J6 jk g.ts i
  have hns:=JT (p:=jk) hlt
  have hml:(cmL g cs i).length=i:=by simp [cmL]
  have hcm:=jt9 g cs i
  simp [h7,f2,o2,j6,j7,hlt,jF jH,hff]
  cases hf:(g.ts[i]).f == 3
  ·have hcb:Q0 g cs i=((g.ts[i]).f == 1):=by
    unfold Q0
    rw [List.getElem?_eq_getElem hlt]
    simp only
    rw [if_neg (by simpa using hf)]
   have hnn':(numsTo jk g.ts (i+1)).length=(numsTo jk g.ts i).length:=by
    rw [hns];unfold jk;rw [hf];simp
   rw [← hcb]
   generalize Q0 g cs i=b at *
   simp
   refine jT (cs:=blC b) (by simp [jD,blC]) rfl rfl ?_
   simp [blC]
   refine XF (hi:=s.nx) (f:=blC) (l:=cmL g cs i) (a:=b) (v:=s.tm 5) (hG.mono (fun u _ h=>by simp [jv,h]) (Nat.le_refl _)) (by simp) (by simp [jO,blC]) Xw (by decide) (by simp [blC,V.pureLeaf]) (by omega) (by omega) (fun del hdel=>?_)
   rw [← hcm]
   have hlen:(cmL g cs i).length+1=(cmL g cs (i+1)).length:=by simp [cmL]
   rw [hlen]
   obtain ⟨M,hM⟩:∃ M,cmL g cs (i+1)=M:=⟨_,rfl⟩
   rw [hM]
   simp [h7,hw,h6,o2,o3,j7,hnn',hM]
   exact ⟨hlt,_,rfl,by simp [jv],by omega⟩
  ·have hf3:(g.ts[i]).f=3:=by simpa using hf
   have hnn':(numsTo jk g.ts (i+1)).length=(numsTo jk g.ts i).length+1:=by
    rw [hns];unfold jk;rw [hf];simp
   have hcl:(numsTo jk g.ts i).length<cs.length:=by
    have:=jhu (p:=jk) (l:=g.ts) (show i+1≤g.ts.length by omega)
    rw [hc]
    unfold jV
    omega
   have hcb:cs[(numsTo jk g.ts i).length]=Q0 g cs i:=by
    unfold Q0
    rw [List.getElem?_eq_getElem hlt]
    simp only
    rw [if_pos hf3,JB hcl]
   have hbl:=jyv cs hcl
   rw [hcb] at hbl
   have hix:=jF Xw cn cs .i64 hcl
   rw [Nat.mul_one] at hix
   have hw2:IntKind.i64.wrap (((numsTo jk g.ts i).length:Int)+1)=((numsTo jk g.ts i).length:Int)+1:=JJ hcl (by have:=J6 jk g.ts g.ts.length;rw [hc];unfold jV;omega)
   generalize (numsTo jk g.ts i).length=q at *
   generalize Q0 g cs i=b at *
   simp [f3,o3,j6,h6,hix,hbl,hw2]
   refine jT (cs:=blC b) (by simp [jD,blC]) rfl rfl ?_
   simp [blC]
   refine XF (hi:=s.nx) (f:=blC) (l:=cmL g cs i) (a:=b) (v:=s.tm 5) (hG.mono (fun u _ h=>by simp [jv,h]) (Nat.le_refl _)) (by simp) (by simp [jO,blC]) Xw (by decide) (by simp [blC,V.pureLeaf]) (by omega) (by omega) (fun del hdel=>?_)
   rw [← hcm]
   have hlen:(cmL g cs i).length+1=(cmL g cs (i+1)).length:=by simp [cmL]
   rw [hlen]
   obtain ⟨M,hM⟩:∃ M,cmL g cs (i+1)=M:=⟨_,rfl⟩
   rw [hM]
   simp [h7,hw,o2,o3,j7,hnn',hM]
   exact ⟨hlt,_,rfl,by simp [jv],by omega⟩
 ·have:i=g.ts.length:=by omega
  subst this
  simp [h7,f2,o2,j6,j7]
  obtain ⟨u,hu,_,_⟩:=hG
  have hml:(cmL g cs g.ts.length).length=g.ts.length:=by simp [cmL]
  rw [hml] at hu
  exact slE (t:=some (u,1)) (nl:=false) (k:=g.ts.length) (cs:=(cmL g cs g.ts.length).flatMap blC) (fun r h=>h) (by simp [fd]) (by simp [hu])
end Go.Pv.T

/- May a world be? -/
namespace Go.Pv.T
open Go Go.Pv
set_option maxRecDepth 100000 in
theorem ev56 {g:Hist'} (hs:Small g) {cn ln:Bool} {cs:List Bool} {lo:List Val'} (hcl:cs.length≤1000000) (hll:lo.length≤1000000):Ev E 56 [.agg (j7 g),.agg (JL cn cs ln lo)] (.bool (mayW g cs lo)):=by
 have hts:=hs.ts
 have e32:=ev32 hs
 have e52:=ev52 g hts
 obtain ⟨v66,e66,nl66,h66⟩:=ev66 hs
 obtain ⟨R,hR⟩:∃ R,mayW g cs lo=R:=⟨_,rfl⟩
 rw [hR]
 unfold mayW at hR
 have hil:(jV g).length≤1000:=by
  have:=J6 jk g.ts g.ts.length
  unfold jV
  omega
 have hbad:R=false→∀ {s:St},s.df=[]→s.tm 4 = .bool false→jtn [.t 4] (.bool R) .ret s:=fun h s hd h4=>by
  rw [h];exact jC hd h4 rfl
 refine jc (af:=F56) rfl ?_
 simp [F56,j7,JL,j6]
 refine Xt e32 (by simp [j7]) rfl (by simp [j7]) ?_
 cases hm:Jr g
 ·rw [WT hm]
  rw [hm] at hR
  simp
  exact hbad (by simpa using hR.symm) (by simp) (by simp)
 rw [YD hm]
 rw [hm] at hR
 simp [j6]
 refine Xt e52 (by simp [j7]) rfl (by simp [j7]) ?_
 refine jcs (nl:=false) (n:=(jV g).length) (cs:=(jV g).flatMap intC) ⟨some (0,1),rfl,by simp⟩ fun t52 add52=>?_
 simp
 by_cases hc':¬ cs.length=(jV g).length
 ·have hc:((cs.length:Int) != ((jV g).length:Int))=true:=by simp;omega
  simp [hc]
  exact hbad (by rw [← hR];simp [hc']) (by simp) (by simp)
 have hc':cs.length=(jV g).length:=by omega
 have hc:((cs.length:Int) != ((jV g).length:Int))=false:=by simp;omega
 rw [hc]
 simp [j6]
 refine Xt e66 (by simp [j7]) rfl (by simp [j7]) ?_
 refine jcs h66 fun t66 add66=>?_
 simp
 by_cases hl':¬ lo.length=(Wx g).length
 ·have hl:((lo.length:Int) != ((Wx g).length:Int))=true:=by simp;omega
  simp [hl]
  exact hbad (by rw [← hR];simp [hl']) (by simp) (by simp)
 have hl':lo.length=(Wx g).length:=by omega
 have hl:((lo.length:Int) != ((Wx g).length:Int))=false:=by simp;omega
 rw [hl]
 have hRR:R=lo.all loB:=by rw [← hR];simp [hc',hl']
 simp
 refine jL [(4,6),(28,52)] lo.length (fun i s=>s.tm 5 = .int .i64 i∧s.ob 6=some ⟨64,.cells [jl cn blC cs,jl ln J1 lo]⟩∧(lo.take i).all loB=true) rfl rfl ⟨by simp,by simp,by simp⟩ ?_
 rintro i s hi ⟨h5,o3,hall⟩ f
 have f3:s.tm 3 = .ptr 6 64 0:=by rw [f.t 3 (by simp)];simp
 have fd:s.df=[]:=by rw [f.d];simp
 have fb:s.fb=0:=by rw [f.b];simp
 have fr:s.ro=0:=by rw [f.r];simp
 clear f
 by_cases hlt:i<lo.length
 ·have hw:=JJ hlt (by omega)
  obtain ⟨v,hv⟩:∃ v,lo[i]=v:=⟨_,rfl⟩
  have hld:=ja Y0 s.ob lo hlt
  rw [hv] at hld
  have hst:(lo.take (i+1)).all loB=loB v:=by
   rw [List.take_succ_eq_append_getElem hlt,List.all_append,hall,hv]
   simp
  have hlo:loB v=true∨R=false:=by
   cases h:loB v
   ·right
    rw [hRR]
    exact List.all_eq_false.2 ⟨v,hv ▸ List.getElem_mem hlt,by simp [h]⟩
   ·exact .inl rfl
  simp [h5,f3,o3,j6,hlt,jF Y0,hld,jD,J1,fb,fr]
  have good:loB v=true→lo.take (i+1)=lo.take (i+1)∧(lo.take (i+1)).all loB=true:=fun h=>⟨rfl,by rw [hst,h]⟩
  cases h1:(v.kind != 1)
  ·have hk:loB v=true:=by
    unfold loB
    have:v.kind=1:=by simpa using h1
    simp [this]
   obtain ⟨_,hg⟩:=good hk
   simp [h5,hw,o3]
   exact ⟨hlt,fun x hx=>List.all_eq_true.1 hg x hx⟩
  cases h2:(v.kind != 0)
  ·cases h3:(v.n != 0)
   ·have hk:loB v=true:=by
     unfold loB
     have e1:v.kind=0:=by simpa using h2
     have e2:v.n=0:=by simpa using h3
     simp [e1,e2]
    obtain ⟨_,hg⟩:=good hk
    simp [j6,h2,h3,h5,hw,o3]
    exact ⟨hlt,fun x hx=>List.all_eq_true.1 hg x hx⟩
   ·have hk:loB v=false:=by
     unfold loB
     have e1:(v.kind == 1)=false:=by simpa [bne] using h1
     have e2:(v.n == 0)=false:=by simpa [bne] using h3
     simp [e1,e2]
    simp [j6,h2,h3]
    exact hbad (by rcases hlo with h | h;exact absurd (h.symm.trans hk) (by decide);exact h) (by simp [fd]) (by simp)
  ·have hk:loB v=false:=by
    unfold loB
    have e1:(v.kind == 1)=false:=by simpa [bne] using h1
    have e2:(v.kind == 0)=false:=by simpa [bne] using h2
    simp [e1,e2]
   simp [j6,h2]
   exact hbad (by rcases hlo with h | h;exact absurd (h.symm.trans hk) (by decide);exact h) (by simp [fd]) (by simp)
 ·have:i=lo.length:=by omega
  subst this
  rw [List.take_length] at hall
  simp [h5,f3,o3,j6]
  exact jC (by simp [fd]) (by simp [hRR,hall]) rfl
end Go.Pv.T

/- What a hopeless whole history tells; a world of not too many parts. -/
namespace Go.Pv.T
open Go Go.Pv
theorem ev58 {g:Hist'} (hs:Small g) (hh:JA g=true) (lv mo:Int) (hmo:(mo == 0)=false):Ev E 58 [.int .i64 lv,.agg (j7 g),.int .i64 mo] (.tup [.agg [.sl none true 0 [],.sl none true 0 []],.bool false,.int .i64 1,.bool false]):=by
 have e95:=ev95 hs
 rw [hh] at e95
 refine jc (af:=F58) rfl ?_
 simp [F58,j7,j6]
 refine jf e95 (by simp [j7]) rfl (by simp [j7]) ?_
 simp [hmo,j6]
 exact JM (by simp) (l:=[.agg [.sl none true 0 [],.sl none true 0 []],.bool false,.int .i64 1,.bool false]) (by simp [jw,j6]) rfl rfl
section
variable {E:Env} {st:St} {ub:Nat} {K:List FP→St→Prop} {d:Option Nat} {nm:Bool} {r:List AOpr}
theorem Q9 {α:Type} {f:α→List V} {sz bytes u:Nat} {l:List α} {s x:A} (hs:eval E st.tm s = .sl (some (u,sz)) false 0 []) (hu:st.tk u=true) (hx:jO st.ob sz (eval E st.tm x)=some (l.flatMap f)) (hf:∀ a,(f a).length=sz) (h0:0<sz)
 (hp:(l.flatMap f).all V.pureLeaf=true) (hb:l.length * bytes≤140737488355328) (hb2:l.length≤140737488355328)
 (h:∀ b:Bool,WI E r K (eval E st.tm) (.append false sz bytes s x) st d ub { v:=.sl (some (if b then u else ub,sz)) false l.length (l.flatMap f),del:=if b then none else some u,add:=if b then [] else [ub] }):jM E (⟨d,.append false sz bytes s x,none,nm⟩::r) st ub K:=by
 cases l with
 | nil=>exact jx1 hs hx (by simp) (h true)
 | cons a l =>
  have h1:((a::l).flatMap f).length / sz=(a::l).length:=by rw [jE hf];exact Nat.mul_div_cancel _ h0
  have hne:(a::l).flatMap f≠[]:=fun e=>by have:=congrArg List.length e;rw [jE hf] at this;have:=Nat.mul_pos (show 0<(a::l).length by simp) h0;simp_all
  refine jx0 hs hu hx hne (by simp) h0 hp (by rw [h1,Nat.zero_add];exact hb) (by rw [h1,Nat.zero_add];exact hb2) ?_
  rw [h1,Nat.zero_add,List.nil_append]
  exact h false
end
theorem jfm {α:Type} {f:α→List V} {k:Nat} (hf:∀ a,(f a).length=k) (nl:Bool) (l:List α) (n:Nat) (kk:IntKind):QX k none (some (.int kk ((min l.length n:Nat):Int))) (jl nl f l)=some (.sl none nl (min l.length n) ((l.take n).flatMap f)):=by
 have h1:=jiz (kk:=kk) (t:=none) (nl:=nl) (sz:=k) (cs:=l.flatMap f) (n:=l.length) (k:=min l.length n) (Nat.min_le_left _ _) (jE hf _)
 refine Eq.trans h1 ?_
 rw [jg1 hf]
 congr 2
 rcases Nat.le_total l.length n with h | h
 ·rw [Nat.min_eq_left h,List.take_length,List.take_of_length_le h]
 ·rw [Nat.min_eq_right h]
def WorR (cs:List Bool) (lo:List Val') (v:V):Prop:=∃ a b:Option (Nat × Nat),v = .agg [.sl a false cs.length (cs.flatMap blC),.sl b false lo.length (lo.flatMap J1)]∧∀ p∈a.toList++b.toList,p.1<64
theorem endW {st:St} {p l u:Nat} {x y:V} {cs:List Bool} {lo:List Val'} (hd:st.df=[]) (hp:st.tm p = .ptr l u 0) (ho:st.ob l=some ⟨u,.cells [x,y]⟩)
 (hx:jba st x false cs.length (cs.flatMap blC)) (hy:jba st y false lo.length (lo.flatMap J1)):jeb [.cell p (some 2)] (WorR cs lo) .ret st:=by
 have h1:(j6 st.ob l u)=some [x,y]:=by simp [j6,ho]
 have hres:[ARes.cell p (some 2)].mapM (jw st)=some [.agg [x,y]]:=by
  simp [jw,hp,h1]
 obtain ⟨a,ha,ha'⟩:=hx (nodup (List.flatMap V.toks [.agg [x,y]])) 0
 obtain ⟨b,hb,hb'⟩:=hy (nodup (List.flatMap V.toks [.agg [x,y]])) 1
 refine ⟨.agg [.sl a false cs.length (cs.flatMap blC),.sl b false lo.length (lo.flatMap J1)],?_,a,b,rfl,?_⟩
 ·simp only [Wr,Xv hd,Xs hd,if_true,hres,Option.bind_some,YB]
  generalize nodup (List.flatMap V.toks [.agg [x,y]])=keep at *
  simp only [JG,X4,XO,ha,hb,Nat.zero_add,Option.bind_some,Option.map_some]
  have hnd:nodup (List.flatMap V.toks [.agg [.sl a false cs.length (cs.flatMap blC),.sl b false lo.length (lo.flatMap J1)]])=true:=by
   have e:∀ x y:V,List.flatMap V.toks [.agg [x,y]]=x.tok++y.tok:=fun x y=>by simp [V.toks]
   rw [e,jai,jai]
   rcases ha' with rfl | ⟨_,rfl⟩ <;> rcases hb' with rfl | ⟨_,rfl⟩ <;> rfl
  show (if nodup (List.flatMap V.toks [.agg [.sl a false cs.length (cs.flatMap blC),.sl b false lo.length (lo.flatMap J1)]])=true then some (V.agg [.sl a false cs.length (cs.flatMap blC),.sl b false lo.length (lo.flatMap J1)]) else none)=_
  rw [if_pos hnd]
 ·intro p hp
  simp only [List.mem_append] at hp
  rcases hp with hp | hp
  ·rcases ha' with rfl | ⟨_,rfl⟩
   ·simp at hp
   ·simp at hp;subst hp;simp
  ·rcases hb' with rfl | ⟨_,rfl⟩
   ·simp at hp
   ·simp at hp;subst hp;simp
theorem ev55 {cn ln:Bool} {cs:List Bool} {lo:List Val'}:∃ v,Ev E 55 [.agg (JL cn cs ln lo)] v∧WorR (cs.take 50) (lo.take 50) v:=by
 refine YV (af:=F55) rfl (by decide) ?_
 have hm1:W5 false [.int .i64 (cs.length:Int),.int .i64 50]=some (.int .i64 ((min cs.length 50:Nat):Int)):=jaq cs.length 50
 have hm2:W5 false [.int .i64 (lo.length:Int),.int .i64 50]=some (.int .i64 ((min lo.length 50:Nat):Int)):=jaq lo.length 50
 have hs1:=jfm Xw cn cs 50 .i64
 have hs2:=jfm Y0 ln lo 50 .i64
 have hl1:(cs.take 50).length=min cs.length 50:=by rw [List.length_take,Nat.min_comm]
 have hl2:(lo.take 50).length=min lo.length 50:=by rw [List.length_take,Nat.min_comm]
 rw [← hl1] at hs1 hm1
 rw [← hl2] at hs2 hm2
 generalize cs.take 50=C at *
 generalize lo.take 50=L at *
 simp [F55,JL]
 refine jay (cs:=[]) rfl rfl rfl ?_
 simp [j6,hm1,hs1]
 refine Q9 (f:=blC) (l:=C) (u:=128) (by simp) (by simp [jv]) (by simp [jO,jE Xw]) Xw (by decide) ?_ (by omega) (by omega) fun b1=>?_
 ·simp [List.all_flatMap,blC,V.pureLeaf]
 simp
 refine jay (cs:=[]) rfl rfl rfl ?_
 simp [j6,hm2,hs2]
 refine Q9 (f:=J1) (l:=L) (u:=704) (by simp) (by cases b1 <;> simp [jv]) (by simp [jO,jE Y0]) Y0 (by decide) ?_ (by omega) (by omega) fun b2=>?_
 ·simp [List.all_flatMap,J1,V.pureLeaf]
 simp [j6,jD]
 refine ⟨?_,?_⟩
 ·cases b1 <;> cases b2 <;> (simp [Jw,WJ,jbn,Qx,rdOb,rdTk,lOf,Delta.wo,Delta.wt];try decide)
 exact endW (l:=4) (u:=64) (x:=.sl (some (if b1=true then 128 else 640,1)) false C.length (C.flatMap blC)) (y:=.sl (some (if b2=true then 704 else 1216,2)) false L.length (L.flatMap J1)) (by simp) (by simp) (by simp) (Yw _ _ _ _ _) (Yw _ _ _ _ _)
end Go.Pv.T

/- Transactions that are one's own, in a slice that is one's own. -/
namespace Go.Pv.T
open Go Go.Pv
theorem jlv {st:St} {k:Nat} {v:V} (h:v.pureLeaf=true):Jj st (k+1) v=some v:=by
 cases v with
 | sl t nl n cs=>cases t with
  | none=>rfl
  | some t=>cases h
 | osl l u a n s=>cases h
 | _=>simp [Jj,h]
theorem jcg {st:St} {k:Nat}:∀ {l:List V},l.all V.pureLeaf=true→l.mapM (Jj st (k+1))=some l
 | [],_=>rfl
 | v::l,h=>by
  rw [List.all_cons,Bool.and_eq_true] at h
  rw [List.mapM_cons,jlv h.1,jcg h.2]
  rfl
theorem js4 (l:List Op'):(l.flatMap opC).all V.pureLeaf=true:=by
 rw [List.all_flatMap,List.all_eq_true]
 intro t _
 rfl
theorem jkw {f:V→Option V}:∀ {l m l' m':List V},l.mapM f=some l'→m.mapM f=some m'→(l++m).mapM f=some (l'++m')
 | [],m,l',m',h,h'=>by
  cases (show some []=some l' from h)
  exact h'
 | v::l,m,l',m',h,h'=>by
  rw [List.mapM_cons] at h
  rw [List.cons_append,List.mapM_cons]
  cases hv:f v with
  | none=>rw [hv] at h;cases h
  | some v' =>
   rw [hv] at h
   cases hl:l.mapM f with
   | none=>rw [hl] at h;cases h
   | some r =>
    rw [hl] at h
    cases (show some (v'::r)=some l' from h)
    rw [jkw hl h']
    rfl
def txU (p:Txn' × Nat):List V:=[.int .i64 p.1.s,.int .i64 p.1.f,.osl (2 * p.2+1) p.2 0 p.1.ops.length 4]
@[simp] theorem Yu (p:Txn' × Nat):(txU p).length=3:=rfl
structure InO (ob:Nat→Option Obj') (lo hi:Nat) (p:Txn' × Nat):Prop where
 nl:p.1.nl=false
 lo:lo≤p.2
 hi:p.2<hi
 ob:∃ X,ob (2 * p.2+1)=some ⟨p.2,.cells X⟩∧p.1.ops.length * 4≤X.length∧X.take (p.1.ops.length * 4)=p.1.ops.flatMap opC
theorem InO.frame {ob ob':Nat→Option Obj'} {lo hi hi':Nat} {p:Txn' × Nat} (h:InO ob lo hi p) (ho:ob' (2 * p.2+1)=ob (2 * p.2+1)) (hh:hi≤hi'):InO ob' lo hi' p :=
 ⟨h.nl,h.lo,by have:=h.hi;omega,by rw [ho];exact h.ob⟩
def TsO (ob:Nat→Option Obj') (lo hi:Nat) (P:List (Txn' × Nat)) (v:V):Prop :=
 (∀ p∈P,InO ob lo hi p)∧((P=[]∧v = .sl none true 0 [])∨(P≠[]∧∃ u,lo≤u∧u<hi∧(∀ p∈P,p.2≠u)∧v = .osl (2 * u+1) u 0 P.length 3∧ob (2 * u+1)=some ⟨u,.cells (P.flatMap txU)⟩))
theorem TsO.frame {ob ob':Nat→Option Obj'} {lo hi hi':Nat} {P:List (Txn' × Nat)} {v:V} (h:TsO ob lo hi P v) (ho:∀ u,lo≤u→u<hi→ob' (2 * u+1)=ob (2 * u+1)) (hh:hi≤hi'):TsO ob' lo hi' P v:=by
 refine ⟨fun p hp=>(h.1 p hp).frame (ho _ (h.1 p hp).lo (h.1 p hp).hi) hh,?_⟩
 rcases h.2 with h2 | ⟨hne,u,h1,h2,h3,h4,h5⟩
 ·exact .inl h2
 ·exact .inr ⟨hne,u,h1,by omega,h3,h4,by rw [ho u h1 h2];exact h5⟩
theorem jry {st:St} {lo hi:Nat} {p:Txn' × Nat} (h:InO st.ob lo hi p) (hr:st.ro≤lo):Jj st 5 (.osl (2 * p.2+1) p.2 0 p.1.ops.length 4)=some (jl p.1.nl opC p.1.ops):=by
 obtain ⟨X,h1,h2,h3⟩:=h.ob
 have hlo:=h.lo
 have hoc:j6 st.ob (2 * p.2+1) p.2=some X:=by simp [j6,h1]
 show ((j6 st.ob (2 * p.2+1) p.2).bind fun cs=>if Nat.ble st.ro p.2=true∧0+p.1.ops.length * 4≤cs.length then (((cs.drop 0).take (p.1.ops.length * 4)).mapM (Jj st 4)).map fun cs'=>V.sl none false p.1.ops.length cs' else none)=_
 rw [hoc,Option.bind_some,if_pos ⟨Nat.ble_eq ▸ (by omega),by omega⟩,List.drop_zero,h3,jcg (js4 _),h.nl]
 rfl
theorem jg6 {st:St} {lo hi:Nat} (hr:st.ro≤lo):∀ {P:List (Txn' × Nat)},(∀ p∈P,InO st.ob lo hi p)→(P.flatMap txU).mapM (Jj st 5)=some ((P.map (·.1)).flatMap txnC)
 | [],_=>rfl
 | p::P,h=>by
  rw [List.flatMap_cons,List.map_cons,List.flatMap_cons]
  refine jkw ?_ (jg6 hr fun q hq=>h q (List.mem_cons_of_mem _ hq))
  have:=jry (h p (List.mem_cons_self ..)) hr
  show [V.int .i64 p.1.s,.int .i64 p.1.f,.osl (2 * p.2+1) p.2 0 p.1.ops.length 4].mapM (Jj st 5)=_
  rw [List.mapM_cons,List.mapM_cons,List.mapM_cons,this]
  rfl
theorem TsO.out {st:St} {lo hi:Nat} {P:List (Txn' × Nat)} {v:V} (h:TsO st.ob lo hi P v) (hr:st.ro≤lo):jba st v P.isEmpty P.length ((P.map (·.1)).flatMap txnC):=by
 rcases h.2 with ⟨rfl,rfl⟩ | ⟨hne,u,h1,h2,h3,rfl,h5⟩
 ·exact Yw _ none true 0 []
 ·intro keep i
  have hoc:j6 st.ob (2 * u+1) u=some (P.flatMap txU):=by simp [j6,h5]
  have hs:Jj st 6 (.osl (2 * u+1) u 0 P.length 3)=some (.sl none false P.length ((P.map (·.1)).flatMap txnC)):=by
   show ((j6 st.ob (2 * u+1) u).bind fun cs=>if Nat.ble st.ro u=true∧0+P.length * 3≤cs.length then (((cs.drop 0).take (P.length * 3)).mapM (Jj st 5)).map fun cs'=>V.sl none false P.length cs' else none)=_
   rw [hoc,Option.bind_some,if_pos ⟨Nat.ble_eq ▸ (by omega),by rw [jE Yu];omega⟩,List.drop_zero,← jE Yu P,List.take_length,jg6 hr h.1]
   rfl
  have he:P.isEmpty=false:=by cases P <;> simp_all
  rw [he]
  refine ⟨_,by simp only [jx,hs,Option.bind_some,hoc,Option.map_some];rfl,?_⟩
  split
  ·exact .inr ⟨_,rfl⟩
  ·exact .inl rfl
section
variable {Yf:YF} {st:St} {ub:Nat} {K:St→Nat→Prop} {d:Nat}
theorem jk1 {α:Type} {f:α→List V} {l:List α} {z sz bytes:Nat} {s x:A} (hs:eval E st.tm s = .osl (2 * z+1) z 0 0 sz) (ho:st.ob (2 * z+1)=some ⟨z,.cells []⟩) (hro:st.ro≤z)
 (hx:jO st.ob sz (eval E st.tm x)=some (l.flatMap f)) (hf:∀ a,(f a).length=sz) (h0:0<sz) (hp:(l.flatMap f).all V.leaf=true) (hb:l.length * bytes≤140737488355328) (hb2:l.length≤140737488355328)
 (h:∀ (s1:St) (u:Nat),(u=z∨u=ub)→s1.ob (2 * u+1)=some ⟨u,.cells (l.flatMap f)⟩→(∀ key,key≠2 * z+1→key≠2 * ub+1→s1.ob key=st.ob key)→(∀ t,s1.tm t=if t=d then .osl (2 * u+1) u 0 l.length sz else st.tm t)→s1.df=st.df→s1.ro=st.ro→s1.fb=st.fb→s1.tk=st.tk→K s1 (ub+64)) :
 jG E Yf ⟨some d,.append true sz bytes s x,none,true⟩ st ub K:=by
 cases l with
 | nil =>
  rw [je _ rfl rfl]
  simp only [aop,hs,hx,Option.bind_some,List.flatMap_nil,if_true]
  have hoc:j6 st.ob (2 * z+1) z=some []:=by simp [j6,ho]
  rw [hoc,Option.bind_some,Yp]
  show jae K st (some d) ub _
  rw [Qt]
  exact h _ z (.inl rfl) (by simpa using ho) (fun key _ _=>by simp) (fun t=>by rw [jif];rfl) rfl rfl rfl (by simp)
 | cons a l =>
  have h1:((a::l).flatMap f).length / sz=(a::l).length:=by rw [jE hf];exact Nat.mul_div_cancel _ h0
  have hne:(a::l).flatMap f≠[]:=fun e=>by have:=congrArg List.length e;rw [jE hf] at this;have:=Nat.mul_pos (show 0<(a::l).length by simp) h0;simp_all
  refine jaw (l:=2 * z+1) (u:=z) (n:=0) (cs:=[]) (ys:=(a::l).flatMap f) hs hx ho hne hro (by simp) h0 hp (by rw [h1,Nat.zero_add];exact hb) (by rw [h1,Nat.zero_add];exact hb2) ?_
  rw [Qt,h1,Nat.zero_add]
  refine h _ ub (.inr rfl) ?_ (fun key k1 k2=>?_) (fun t=>by rw [jif];rfl) rfl rfl rfl ?_
  ·simp [jY]
  ·simp [jY,k1,k2]
  ·rfl
theorem jdg {lo hi:Nat} {P:List (Txn' × Nat)} {p:Txn' × Nat} {s x:A} (hT:TsO st.ob lo hi P (eval E st.tm s)) (hle:hi≤ub) (hro:st.ro≤lo) (hx:jO st.ob 3 (eval E st.tm x)=some (txU p)) (hp:InO st.ob hi ub p) (hlh:lo≤hi) (hlen:P.length≤100000)
 (h:∀ (s1:St) (v':V),TsO s1.ob lo (ub+64) (P++[p]) v'→(∀ key,(∀ u,lo≤u→u<hi→key≠2 * u+1)→key≠2 * ub+1→s1.ob key=st.ob key)→(∀ t,s1.tm t=if t=d then v' else st.tm t)→s1.df=st.df→s1.ro=st.ro→s1.fb=st.fb→s1.tk=st.tk→K s1 (ub+64)) :
 jG E Yf ⟨some d,.append true 3 40 s x,none,true⟩ st ub K:=by
 have hpl:=hp.lo
 have hph:=hp.hi
 rcases hT.2 with ⟨rfl,h0⟩ | ⟨hne,u,h1,h2,h3,h4,h5⟩
 ·refine Q8 (n:=0) (cs:=[]) (ys:=txU p) h0 hx (by simp [txU]) (by decide) rfl (by simp) (by simp) ?_
  rw [Qt,show (txU p).length / 3=1 by rw [Yu]]
  refine h _ (.osl (2 * ub+1) ub 0 1 3) ⟨?_,.inr ⟨by simp,ub,by omega,by omega,?_,by simp,?_⟩⟩ (fun key k1 k2=>?_) (fun t=>by rw [jif];rfl) rfl rfl rfl ?_
  ·intro q hq
   simp only [List.nil_append,List.mem_singleton] at hq
   subst hq
   refine ⟨hp.nl,by omega,by omega,?_⟩
   have:¬ 2 * q.2=2 * ub:=by omega
   simpa [jY,Jq,this] using hp.ob
  ·intro q hq
   simp only [List.nil_append,List.mem_singleton] at hq
   subst hq
   omega
  ·simp [jY,Jq]
  ·simp [jY,Jq,k2]
  ·rfl
 ·refine jaw (l:=2 * u+1) (u:=u) (n:=P.length) (cs:=P.flatMap txU) (ys:=txU p) h4 hx h5 (by simp [txU]) (by omega) (by rw [jE Yu];omega) (by decide) rfl (by simp;omega) (by simp;omega) ?_
  rw [Qt,show (txU p).length / 3=1 by rw [Yu]]
  refine h _ (.osl (2 * ub+1) ub 0 (P.length+1) 3) ⟨?_,.inr ⟨by simp,ub,by omega,by omega,?_,by simp,?_⟩⟩ (fun key k1 k2=>?_) (fun t=>by rw [jif];rfl) rfl rfl rfl ?_
  ·intro q hq
   rw [List.mem_append,List.mem_singleton] at hq
   rcases hq with hq | rfl
   ·have hi:=hT.1 q hq
    refine ⟨hi.nl,hi.lo,by have:=hi.hi;omega,?_⟩
    have e1:¬ 2 * q.2=2 * ub:=by have:=hi.hi;omega
    have e2:¬ 2 * q.2=2 * u:=by have:=h3 q hq;omega
    simpa [jY,e1,e2] using hi.ob
   ·refine ⟨hp.nl,by omega,by omega,?_⟩
    have e1:¬ 2 * q.2=2 * ub:=by omega
    have e2:¬ 2 * q.2=2 * u:=by omega
    simpa [jY,e1,e2] using hp.ob
  ·intro q hq
   rw [List.mem_append,List.mem_singleton] at hq
   rcases hq with hq | rfl
   ·have:=(hT.1 q hq).hi;omega
   ·omega
  ·simp [jY]
   exact List.take_of_length_le (by rw [jE Yu];omega)
  ·have e:=k1 u h1 h2
   simp [jY,e,k2]
  ·rfl
end
end Go.Pv.T

/- A history made whole: the reference's walk. -/
namespace Go.Pv.T
open Go Go.Pv
section
variable {E:Env} {st:St} {ub:Nat} {K:List FP→St→Prop} {d:Option Nat} {r:List AOpr}
theorem YH {sz n:Nat} {zero:List V} {parts:List (Nat × Nat × A)} {cs:List V} (hf:fill zero (J2 (eval E st.tm) parts)=some cs) (hl:cs.length=n * sz) (hp:cs.all V.leaf=true)
 (h:WI E r K (eval E st.tm) (.buildSl true sz zero parts n) st d ub { v:=.osl (2 * ub+1) ub 0 n sz,obs:=[(2 * ub+1,⟨ub,.cells cs⟩)] }):jM E (⟨d,.buildSl true sz zero parts n,none,true⟩::r) st ub K:=by
 rw [Jh rfl]
 simp only [aop,hf,Option.bind_some,if_true]
 rw [if_pos ⟨hl,hp⟩,Jt,jX]
 exact h
theorem jf8 {α:Type} {f:α→List V} {l:List α} {z sz bytes:Nat} {s x:A} (hs:eval E st.tm s = .osl (2 * z+1) z 0 0 sz) (ho:st.ob (2 * z+1)=some ⟨z,.cells []⟩) (hro:st.ro≤z)
 (hx:jO st.ob sz (eval E st.tm x)=some (l.flatMap f)) (hf:∀ a,(f a).length=sz) (h0:0<sz) (hp:(l.flatMap f).all V.leaf=true) (hb:l.length * bytes≤140737488355328) (hb2:l.length≤140737488355328)
 (h:∀ b:Bool,(b=true→l=[])→WI E r K (eval E st.tm) (.append true sz bytes s x) st d ub { v:=.osl (if b then 2 * z+1 else 2 * ub+1) (if b then z else ub) 0 l.length sz,obs:=if b then [] else [(2 * ub+1,⟨ub,.cells (l.flatMap f)⟩)],kill:=if b then [] else [2 * z+1] }) :
 jM E (⟨d,.append true sz bytes s x,none,true⟩::r) st ub K:=by
 rw [Jh rfl]
 have hoc:j6 st.ob (2 * z+1) z=some []:=by simp [j6,ho]
 cases l with
 | nil =>
  simp only [aop,hs,hx,Option.bind_some,List.flatMap_nil,if_true,hoc,Yp]
  exact h true fun _=>rfl
 | cons a l =>
  have h1:((a::l).flatMap f).length / sz=(a::l).length:=by rw [jE hf];exact Nat.mul_div_cancel _ h0
  have hne:(a::l).flatMap f≠[]:=fun e=>by have:=congrArg List.length e;rw [jE hf] at this;have:=Nat.mul_pos (show 0<(a::l).length by simp) h0;simp_all
  simp only [aop,hs,hx,Option.bind_some,hoc,if_neg hne]
  rw [if_pos ⟨Nat.ble_eq ▸ hro,trivial,trivial,by simp,h0,hp,by rw [h1,Nat.zero_add];exact hb,by rw [h1,Nat.zero_add];exact hb2⟩,jX,h1,Nat.zero_add]
  simp only [Nat.zero_mul,List.take_zero,List.nil_append]
  exact h false (fun e=>by cases e)
end
theorem jc9 {i:Nat} {ops:List Op'}:∀ {n k:Nat},k≤n→(WH i ops k).length≤(WH i ops n).length
 | 0,k,h=>by
  have:k=0:=by omega
  rw [this];exact Nat.le_refl _
 | n+1,k,h=>by
  rcases Nat.lt_or_ge n k with h1 | h1
  ·have:k=n+1:=by omega
   rw [this];exact Nat.le_refl _
  ·have:=jc9 (i:=i) (ops:=ops) h1
   simp only [WH,List.length_append]
   omega
theorem jc7 {ts:List Txn'}:∀ {n i:Nat},i≤n→(WG ts i).length≤(WG ts n).length
 | 0,i,h=>by
  have:i=0:=by omega
  rw [this];exact Nat.le_refl _
 | n+1,i,h=>by
  rcases Nat.lt_or_ge n i with h1 | h1
  ·have:i=n+1:=by omega
   rw [this];exact Nat.le_refl _
  ·have:=jc7 (ts:=ts) h1
   simp only [WG,List.length_append]
   omega
theorem jpn {g:Hist'} {i k:Nat} (hi:i<g.ts.length) (hk:k≤(g.ts[i]).ops.length):(JD g i k).length≤(Wx g).length:=by
 have h1:=jc7 (ts:=g.ts) (show i+1≤g.ts.length by omega)
 have h2:=jc9 (i:=i) (ops:=(g.ts[i]).ops) hk
 unfold Wx
 refine Nat.le_trans ?_ h1
 simp only [JD,WG,List.getElem?_eq_getElem hi,List.length_append]
 omega
def jfy (g:Hist') (lo:List Val') (i:Nat) (l:List Op') (k:Nat):List Op':=l.mapIdx fun j o=>if j<k then opR g lo i j o else o
theorem jkv {g:Hist'} {lo:List Val'} {i:Nat} {l:List Op'} {k:Nat}:(jfy g lo i l k).length=l.length:=by simp [jfy]
theorem jpd {g:Hist'} {lo:List Val'} {i:Nat} {l:List Op'}:jfy g lo i l 0=l:=by
 apply List.ext_getElem?
 intro n
 simp [jfy]
theorem jsy {g:Hist'} {lo:List Val'} {i:Nat} {l:List Op'}:jfy g lo i l l.length=l.mapIdx (opR g lo i):=by
 apply List.ext_getElem?
 intro n
 simp only [jfy,List.getElem?_mapIdx]
 cases h:l[n]? with
 | none=>rfl
 | some o =>
  have:=(List.getElem?_eq_some_iff.1 h).1
  simp [this]
theorem jw9 {g:Hist'} {lo:List Val'} {i:Nat} {l:List Op'} {k:Nat} (h:k<l.length):(jfy g lo i l k)[k]'(by rw [jkv];exact h)=l[k]:=by simp [jfy]
theorem jpf {g:Hist'} {lo:List Val'} {i:Nat} {l:List Op'} {k:Nat} (h:k<l.length) (h2:¬ (l[k]).v.kind=2):jfy g lo i l (k+1)=jfy g lo i l k:=by
 apply List.ext_getElem?
 intro n
 simp only [jfy,List.getElem?_mapIdx]
 cases hn:l[n]? with
 | none=>rfl
 | some o =>
  simp only [Option.map_some,Option.some.injEq]
  by_cases h1:n<k
  ·rw [if_pos h1,if_pos (by omega)]
  ·by_cases h3:n=k
   ·subst h3
    rw [if_pos (by omega),if_neg h1]
    obtain ⟨_,e⟩:=List.getElem?_eq_some_iff.1 hn
    rw [Qi (by rw [← e];exact h2)]
   ·rw [if_neg (by omega),if_neg h1]
theorem jpe {g:Hist'} {lo:List Val'} {i:Nat} {l:List Op'} {k:Nat} (h:k<l.length) (h2:(l[k]).v.kind=2):jfy g lo i l (k+1)=(jfy g lo i l k).modify k fun o=>{ o with v:=lo.getD (JD g i k).length ⟨0,0⟩ }:=by
 apply List.ext_getElem?
 intro n
 simp only [jfy,List.getElem?_mapIdx,List.getElem?_modify]
 cases hn:l[n]? with
 | none=>simp
 | some o =>
  simp only [Option.map_some,Option.map_eq_map]
  by_cases h3:k=n
  ·subst h3
   obtain ⟨_,e⟩:=List.getElem?_eq_some_iff.1 hn
   simp only [if_true,Nat.lt_irrefl,if_false]
   rw [if_pos (by omega),opR,if_pos (by rw [← e];exact h2)]
  ·simp only [if_neg h3]
   by_cases h1:n<k
   ·rw [if_pos h1,if_pos (by omega)]
   ·rw [if_neg (by omega),if_neg h1]
theorem jom {v:Val'}:∀ {l:List Op'} {j:Nat},j<l.length→jD (l.flatMap opC) (j * 4+2) (J1 v)=(l.modify j fun o=>{ o with v:=v }).flatMap opC
 | [],_,h=>by simp at h
 | o::l,0,_=>by simp [List.modify_cons,jD,opC,J1]
 | o::l,j+1,h=>by
  have ih:=jom (v:=v) (l:=l) (j:=j) (by simpa using h)
  simp only [List.modify_cons,Nat.add_one_ne_zero,if_false,Nat.add_sub_cancel,List.flatMap_cons]
  rw [← ih]
  have:(j+1) * 4+2=(opC o).length+(j * 4+2):=by simp [opC];omega
  rw [this]
  simp only [jD,Nat.add_assoc]
  rw [List.take_length_add_append,List.drop_length_add_append]
  simp only [List.append_assoc]
theorem QO {α β:Type} {l:List α} {m:List β} (h:l.length=m.length):l.isEmpty=m.isEmpty:=by
 cases l <;> cases m <;> simp_all
set_option maxRecDepth 100000 in
theorem ev57 {g:Hist'} (hs:Small g) {cs:List Bool} {lo:List Val'} {cn ln:Bool} (hw:mayW g cs lo=true):∃ v,Ev E 57 [.agg (j7 g),.agg (JL cn cs ln lo)] v∧jj6 v (rawH g cs lo):=by
 have hw0:=hw
 unfold mayW at hw0
 simp only [Bool.and_eq_true,decide_eq_true_eq] at hw0
 obtain ⟨hm,hc,hl,hb⟩:=hw0
 obtain ⟨v94,e94,h94⟩:=ev94 hs (cn:=cn) (ln:=ln) (lo:=lo) hc
 have hts:=hs.ts
 have hss:=hs.ss
 have hks:=hs.ks
 have hlf1:(g.ss.flatMap strC).all V.leaf=true:=by rw [List.all_flatMap,List.all_eq_true];intro _ _;rfl
 have hlf2:(g.ks.flatMap strC).all V.leaf=true:=by rw [List.all_flatMap,List.all_eq_true];intro _ _;rfl
 refine YV (af:=F57) rfl (by decide) ?_
 simp [F57,j7,JL]
 generalize hK:jea E Xx _ _=K
 have rest:∀ (st:St) (uA uB:Nat),(128<uA∧uA<768)→(128<uB∧uB<768)→st.tm 2 = .ptr 1 0 0→st.tm 3 = .ptr 129 64 0→st.tm 4 = .ptr 257 128 0→st.tm 5 = .ptr 1537 768 0→st.df=[]→st.ro=0→st.fb=0→st.nx=896 →
  st.ob 1=some ⟨0,.cells (j7 g)⟩→st.ob 129=some ⟨64,.cells (JL cn cs ln lo)⟩→st.ob 257=some ⟨128,.cells [.sl none true 0 [],.sl none true 0 [],.sl none true 0 []]⟩ →
  st.ob 1537=some ⟨768,.cells [.osl (2 * uA+1) uA 0 g.ss.length 1,.osl (2 * uB+1) uB 0 g.ks.length 1,.sl none true 0 []]⟩→st.ob (2 * uA+1)=some ⟨uA,.cells (g.ss.flatMap strC)⟩→st.ob (2 * uB+1)=some ⟨uB,.cells (g.ks.flatMap strC)⟩→K .nrm st:=by
  rintro st uA uB ⟨hA1,hA2⟩ ⟨hB1,hB2⟩ g2 g3 g4 g5 gd gr gb gn p1 p2 p3 p4 pA pB
  rw [← hK,X6]
  clear hK
  simp [g2,g3,p1,p2,j6,j7,JL]
  refine jf e94 (by simp [j7,JL]) rfl (by simp [j7,JL]) ?_
  refine jcs h94 fun t94 add94=>?_
  simp
  obtain ⟨R,hR⟩:∃ R,(rawH g cs lo).ts=R:=⟨_,rfl⟩
  have hRl:R.length=g.ts.length:=by rw [← hR,Y1]
  refine jL [(7,10),(23,78)] g.ts.length (fun i s=>s.tm 8 = .int .i64 i∧s.tm 7 = .int .i64 (JD g i 0).length∧s.ob 1=some ⟨0,.cells (j7 g)⟩∧s.ob 129=some ⟨64,.cells (JL cn cs ln lo)⟩∧s.ob 257=some ⟨128,.cells [.sl none true 0 [],.sl none true 0 [],.sl none true 0 []]⟩ ∧
   s.ob (2 * uA+1)=some ⟨uA,.cells (g.ss.flatMap strC)⟩∧s.ob (2 * uB+1)=some ⟨uB,.cells (g.ks.flatMap strC)⟩∧1000≤s.nx ∧
   ∃ P Tv,P.map (·.1)=R.take i∧TsO s.ob 1000 s.nx P Tv∧s.ob 1537=some ⟨768,.cells [.osl (2 * uA+1) uA 0 g.ss.length 1,.osl (2 * uB+1) uB 0 g.ks.length 1,Tv]⟩) rfl rfl ?_ ?_
  ·refine ⟨by simp,by simp [jda],by simp [p1,j7],by simp [p2,JL],by simp [p3],by simp [pA],by simp [pB],by simp [gn],[],.sl none true 0 [],by simp,⟨by simp,.inl ⟨rfl,rfl⟩⟩,by simp [p4]⟩
  rintro i s hi ⟨h8,h7,o1,o2,o3,oA,oB,hnx,P,Tv,hP,hT,o5⟩ f
  have f2:s.tm 2 = .ptr 1 0 0:=by rw [f.t 2 (by simp)];simp [g2]
  have f3:s.tm 3 = .ptr 129 64 0:=by rw [f.t 3 (by simp)];simp [g3]
  have f4:s.tm 4 = .ptr 257 128 0:=by rw [f.t 4 (by simp)];simp [g4]
  have f5:s.tm 5 = .ptr 1537 768 0:=by rw [f.t 5 (by simp)];simp [g5]
  have f6:s.tm 6 = .sl t94 false g.ts.length ((cmL g cs g.ts.length).flatMap blC):=by rw [f.t 6 (by simp)];simp
  have fd:s.df=[]:=by rw [f.d];simp [gd]
  have fb:s.fb=0:=by rw [f.b];simp [gb]
  have fr:s.ro=0:=by rw [f.r];simp [gr]
  clear f
  by_cases hlt:i<g.ts.length
  ·have hw:=JJ hlt (by omega)
   obtain ⟨T,hTi⟩:∃ T,g.ts[i]=T:=⟨_,rfl⟩
   have hos:=hs.os T (hTi ▸ List.getElem_mem hlt)
   have hlfO:(T.ops.flatMap opC).all V.leaf=true:=by rw [List.all_flatMap,List.all_eq_true];intro _ _;rfl
   have o1':s.ob 1=some ⟨0,.cells [jl g.sn strC g.ss,jl g.kn strC g.ks,jl g.tn txnC g.ts]⟩:=o1
   obtain ⟨z,hz⟩:∃ z,s.nx=z:=⟨_,rfl⟩
   rw [hz] at hT hnx
   simp [h8,f2,o1',j6,hlt,jF jH,ja jH,hTi,txnC,jD,hz,fr]
   refine XY (cs:=[]) rfl rfl rfl ?_
   simp [j6]
   obtain ⟨zB,hB⟩:∃ y,(z+64+64+64+64+64+64+64+64+64+64+64+64)=y:=⟨_,rfl⟩
   obtain ⟨zA,hA⟩:∃ y,(z+64+64+64+64+64+64+64+64+64+64)=y:=⟨_,rfl⟩
   have hAB:zB=zA+128:=by omega
   have hA0:z+640=zA:=by omega
   have w1:¬ 2 * zA=0:=by omega
   have w2:¬ 2 * zA=2 * uA:=by omega
   have w3:¬ 2 * zA=128:=by omega
   have w4:¬ 128=2 * zA:=by omega
   have w5:¬ 2 * zA=256:=by omega
   have w6:¬ 256=2 * zA:=by omega
   have w7:¬ 2 * zA=1536:=by omega
   have w8:¬ 1536=2 * zA:=by omega
   have w9:¬ 2 * zB=0:=by omega
   have w10:¬ 2 * zB=2 * uA:=by omega
   have w11:¬ 2 * zB=128:=by omega
   have w12:¬ 128=2 * zB:=by omega
   have w13:¬ 2 * zB=256:=by omega
   have w14:¬ 256=2 * zB:=by omega
   have w15:¬ 2 * zB=1536:=by omega
   have w16:¬ 1536=2 * zB:=by omega
   have w17:¬ 2 * zA=2 * zB:=by omega
   have w18:¬ 2 * zB=2 * zA:=by omega
   rw [hB,hA]
   simp [w17]
   refine jk1 (f:=opC) (l:=T.ops) (z:=zB) (by simp) (by simp) (by simp [fr]) (by simp [jl,jO,jE jK]) jK (by decide) hlfO (by omega) (by omega) ?_
   intro s1 u hu c0 cf ct cd cr cb ck
   have hu1:zB≤u:=by omega
   have hu2:u≤zB+192:=by omega
   have cA:s1.ob (2 * zA+1)=some ⟨zA,.cells [.int .i64 T.s,.int .i64 T.f,jl T.nl opC T.ops]⟩:=by
    rw [cf _ (by omega) (by omega)];simp [w17]
   have cO:∀ key,key≠2 * zA+1→key≠2 * zB+1→key≠2 * (zB+192)+1→s1.ob key=s.ob key:=by
    intro key k1 k2 k3
    rw [cf _ k2 (by omega)]
    simp [k1,k2]
   simp [ct,j6,cA,cr,fr,jD]
   have hbl:((cmL g cs g.ts.length).flatMap blC)[i]? = some (.bool (Q0 g cs i)):=by
    rw [jyv _ (by simp [cmL];exact hlt)]
    simp [cmL]
   have hlen6:(cmL g cs g.ts.length).length=g.ts.length:=by simp [cmL]
   have hix:JZ 1 (.sl t94 false g.ts.length ((cmL g cs g.ts.length).flatMap blC)) (.int .i64 (i:Int))=some (.eptr ((cmL g cs g.ts.length).flatMap blC) (i * 1)):=by
    simp only [Yj,jE Xw,hlen6]
    rw [if_pos (by simp;omega)]
    rfl
   rw [Nat.mul_one] at hix
   have hRi:R[i]? = some (txnR g cs lo i T):=by rw [← hR,XM?,List.getElem?_eq_getElem hlt,hTi];rfl
   generalize hcb:Q0 g cs i=b at *
   simp [f6,h8,hix,hbl]
   generalize hK2:jea E Xx (C.seq (sr [qm 10 0] _) _) _=K2
   have rest2:∀ (s2:St) (F:Int),F=(if b then 1 else 2)→s2.tm 2 = .ptr 1 0 0→s2.tm 3 = .ptr 129 64 0→s2.tm 4 = .ptr 257 128 0→s2.tm 5 = .ptr 1537 768 0→s2.tm 7 = .int .i64 (JD g i 0).length→s2.tm 8 = .int .i64 i→s2.tm 9 = .ptr (2 * zA+1) zA 0 →
    s2.ob (2 * zA+1)=some ⟨zA,.cells [.int .i64 T.s,.int .i64 F,.osl (2 * u+1) u 0 T.ops.length 4]⟩→s2.ob (2 * u+1)=some ⟨u,.cells (T.ops.flatMap opC)⟩→(∀ key,key≠2 * zA+1→key≠2 * zB+1→key≠2 * (zB+192)+1→s2.ob key=s.ob key) →
    s2.df=[]→s2.ro=0→s2.fb=0→zB+192<s2.nx→K2 .nrm s2:=by
    intro s2 F hF k2 k3 k4 k5 k7 k8 k9 d9 du dk kd kr kb kn
    rw [← hK2,X6]
    clear hK2
    have m1:¬ 2 * zA=2 * u:=by omega
    have m2:¬ 2 * u=2 * zA:=by omega
    have d2:s2.ob 129=some ⟨64,.cells [jl cn blC cs,jl ln J1 lo]⟩:=(dk 129 (by omega) (by omega) (by omega)).trans o2
    simp
    refine jL [(7,7),(10,10),(46,72)] T.ops.length (fun k s=>s.tm 10 = .int .i64 k∧s.tm 7 = .int .i64 (JD g i k).length∧s.ob (2 * zA+1)=some ⟨zA,.cells [.int .i64 T.s,.int .i64 F,.osl (2 * u+1) u 0 T.ops.length 4]⟩ ∧
     s.ob (2 * u+1)=some ⟨u,.cells ((jfy g lo i T.ops k).flatMap opC)⟩∧(∀ key,key≠2 * u+1→s.ob key=s2.ob key)∧s2.nx≤s.nx) rfl rfl
     ⟨by simp,by simp [k7],by simp [d9],by simp [du,jpd],fun key _=>by simp,by simp⟩ ?_
    rintro k s3 hk ⟨h10,h7',e9,eu,ek,en⟩ f
    have j2:s3.tm 2 = .ptr 1 0 0:=by rw [f.t 2 (by simp)];simp [k2]
    have j3:s3.tm 3 = .ptr 129 64 0:=by rw [f.t 3 (by simp)];simp [k3]
    have j4:s3.tm 4 = .ptr 257 128 0:=by rw [f.t 4 (by simp)];simp [k4]
    have j5:s3.tm 5 = .ptr 1537 768 0:=by rw [f.t 5 (by simp)];simp [k5]
    have j8:s3.tm 8 = .int .i64 i:=by rw [f.t 8 (by simp)];simp [k8]
    have j9:s3.tm 9 = .ptr (2 * zA+1) zA 0:=by rw [f.t 9 (by simp)];simp [k9]
    have jd:s3.df=[]:=by rw [f.d];simp [kd]
    have jr:s3.ro=0:=by rw [f.r];simp [kr]
    have jb:s3.fb=0:=by rw [f.b];simp [kb]
    clear f
    by_cases hkt:k<T.ops.length
    ·have hwk:=JJ hkt (by omega)
     have hixk:JZ 4 (.osl (2 * u+1) u 0 T.ops.length 4) (.int .i64 (k:Int))=some (.ptr (2 * u+1) u (k * 4)):=by simp [JZ,hkt]
     have hml:(jfy g lo i T.ops k).length=T.ops.length:=jkv
     have hkd:((jfy g lo i T.ops k).flatMap opC)[k * 4+2]? = some (.int .i64 (T.ops[k]).v.kind):=by
      rw [ju jK _ (by rw [hml];exact hkt) (by decide:2<4),jw9 hkt]
      rfl
     have hstep:=jdb (h:=g) hlt (k:=k) (by rw [hTi];exact hkt)
     simp only [hTi] at hstep
     cases hk2:((T.ops[k]).v.kind == 2)
     ·have hkn:¬ (T.ops[k]).v.kind=2:=by simpa using hk2
      rw [hk2] at hstep
      have hmx:=jpf (g:=g) (lo:=lo) (i:=i) hkt hkn
      have hl0:(JD g i (k+1)).length=(JD g i k).length:=by rw [hstep];simp
      simp [h10,j9,e9,eu,j6,hkt,hixk,hkd,hk2,hwk,hmx,hl0,h7']
      exact ⟨fun key e=>ek key e,by omega⟩
     ·have hkn:(T.ops[k]).v.kind=2:=by simpa using hk2
      rw [hk2] at hstep
      have hl0:(JD g i (k+1)).length=(JD g i k).length+1:=by rw [hstep];simp
      have hnl:(JD g i k).length<lo.length:=by
       have:=jpn (g:=g) hlt (k:=k+1) (by rw [hTi];omega)
       omega
      have hmx:=jpe (g:=g) (lo:=lo) (i:=i) hkt hkn
      rw [JB hnl] at hmx
      have hsp:=jom (v:=lo[(JD g i k).length]) (l:=jfy g lo i T.ops k) (j:=k) (by rw [hml];exact hkt)
      rw [← hmx] at hsp
      have hlo2:k * 4+2+2≤((jfy g lo i T.ops k).flatMap opC).length:=by rw [jE jK,hml];omega
      have hixn:=jF Y0 ln lo .i64 hnl
      have hldn:=ja Y0 s3.ob lo hnl
      have hwn:=JJ hnl (by have:=jar hs.os g.ts.length;have:g.ts.length * 1000≤1000 * 1000:=Nat.mul_le_mul_right _ hts;rw [hl];unfold Wx;omega)
      have e2:s3.ob 129=some ⟨64,.cells [jl cn blC cs,jl ln J1 lo]⟩:=(ek 129 (by omega)).trans d2
      generalize lo[(JD g i k).length]=v at *
      generalize (JD g i k).length=q at *
      have hv2:(J1 v).take 2=J1 v:=rfl
      simp [h10,j9,e9,eu,j6,hkt,hixk,hkd,hk2,j3,e2,h7',hixn,hldn,jr]
      refine ⟨by have:=hlo2;simp only [List.length_flatMap,jK] at this;exact this,hwk,by rw [hwn,hl0];simp,fun e=>absurd e m1,hsp,fun key e=>by simp [e];exact ek key e,by omega⟩
    ·have:k=T.ops.length:=by omega
     subst this
     have e5:s3.ob 1537=some ⟨768,.cells [.osl (2 * uA+1) uA 0 g.ss.length 1,.osl (2 * uB+1) uB 0 g.ks.length 1,Tv]⟩:=((ek 1537 (by omega)).trans (dk 1537 (by omega) (by omega) (by omega))).trans o5
     rw [jsy] at eu
     obtain ⟨p,hp⟩:∃ p,(txnR g cs lo i T,u)=p:=⟨_,rfl⟩
     have hpu:txU p=[.int .i64 T.s,.int .i64 F,.osl (2 * u+1) u 0 T.ops.length 4]:=by
      rw [← hp,hF]
      simp [txU,txnR,hcb]
     simp [h10,j9,e9,j6,j5,e5]
     refine XY (cs:=txU p) (by rw [hpu];simp [jD]) rfl (by rw [hpu];rfl) ?_
     simp
     have hPl:P.length=i:=by
      have:=congrArg List.length hP
      rw [List.length_map,List.length_take] at this
      omega
     have hp2:p.2=u:=by rw [← hp]
     have hp1:p.1=txnR g cs lo i T:=by rw [← hp]
     have hsame:∀ y,1000≤y→y<z→s3.ob (2 * y+1)=s.ob (2 * y+1):=fun y y1 y2=>(ek _ (by omega)).trans (dk _ (by omega) (by omega) (by omega))
     refine jdg (lo:=1000) (hi:=z) (P:=P) (p:=p) ?_ (by omega) (by simp [jr]) (by simp [jO,j6];rfl) ?_ hnx (by omega) ?_
     ·simp
      refine hT.frame (fun y y1 y2=>?_) (Nat.le_refl _)
      have e1:¬ 2 * y=2 * (s3.nx+64+64+64+64+64+64+64+64):=by omega
      simp [e1]
      exact hsame y y1 y2
     ·refine ⟨by rw [hp1];rfl,by rw [hp2];omega,by rw [hp2];omega,(T.ops.mapIdx (opR g lo i)).flatMap opC,?_,?_,?_⟩
      ·rw [hp2]
       have e1:¬ 2 * u=2 * (s3.nx+64+64+64+64+64+64+64+64):=by omega
       simp [e1]
       exact eu
      ·rw [hp1,Yt,jE jK];simp
      ·rw [hp1]
       refine List.take_of_length_le ?_
       rw [jE jK,Yt]
       simp
     intro s4 v4 hT4 x4 xt xd xr xb xk
     have hlf4:v4.leaf=true:=by rcases hT4.2 with ⟨_,rfl⟩ | ⟨_,y,_,_,_,rfl,_⟩ <;> rfl
     have hc4:v4.cells=[v4]:=by rcases hT4.2 with ⟨_,rfl⟩ | ⟨_,y,_,_,_,rfl,_⟩ <;> rfl
     have x5:∀ key,key<2000→s4.ob key=s3.ob key:=by
      intro key hkk
      rw [x4 key (fun y y1 y2=>by omega) (by omega)]
      have e1:¬ key=2 * (s3.nx+64+64+64+64+64+64+64+64)+1:=by omega
      simp [e1]
     have x6:∀ key,key<2000→key≠2 * u+1→s3.ob key=s.ob key:=fun key q1 q2=>(ek key q2).trans (dk key (by omega) (by omega) (by omega))
     have x7:s4.ob 1537=some ⟨768,.cells [.osl (2 * uA+1) uA 0 g.ss.length 1,.osl (2 * uB+1) uB 0 g.ks.length 1,Tv]⟩:=(x5 1537 (by omega)).trans e5
     have hln:=jdc (h:=g) hlt
     simp only [hTi] at hln
     have hP1:(P++[p]).map (·.1)=R.take (i+1):=by
      rw [List.map_append,hP,List.take_add_one,hRi,← hp]
      rfl
     rw [hln] at h7'
     simp [xt,j5,x7,j6,xr,jr,jD,j8,hlf4,hc4,hw,h7']
     have y1:¬ 2 * uA=1536:=by omega
     have y2:¬ 2 * uB=1536:=by omega
     simp only [y1,y2,if_false]
     refine ⟨hlt,(x5 1 (by omega)).trans ((x6 1 (by omega) (by omega)).trans o1),(x5 129 (by omega)).trans ((x6 129 (by omega) (by omega)).trans o2),(x5 257 (by omega)).trans ((x6 257 (by omega) (by omega)).trans o3),
      (x5 _ (by omega)).trans ((x6 _ (by omega) (by omega)).trans oA),(x5 _ (by omega)).trans ((x6 _ (by omega) (by omega)).trans oB),by omega,P++[p],hP1,?_⟩
     refine hT4.frame (fun y q1 q2=>?_) (by omega)
     have e1:¬ 2 * y=1536:=by omega
     simp [e1]
   have n1:¬ 2 * u=2 * zA:=by omega
   have n2:¬ 2 * zA=2 * u:=by omega
   cases b
   ·simp
    exact rest2 _ 2 rfl (by simp [ct,f2]) (by simp [ct,f3]) (by simp [ct,f4]) (by simp [ct,f5]) (by simp [ct,h7]) (by simp [ct,h8]) (by simp [ct]) (by simp) (by simp [n1,c0]) (fun key e1 e2 e3=>by simp [e1];exact cO key e1 e2 e3) (by simp [cd,fd]) (by simp [cr,fr]) (by simp [cb,fb]) (by simp)
   ·simp [ct,j6,cr,fr,jD]
    exact rest2 _ 1 rfl (by simp [ct,f2]) (by simp [ct,f3]) (by simp [ct,f4]) (by simp [ct,f5]) (by simp [ct,h7]) (by simp [ct,h8]) (by simp [ct]) (by simp) (by simp [n1,c0]) (fun key e1 e2 e3=>by simp [e1];exact cO key e1 e2 e3) (by simp [cd,fd]) (by simp [cr,fr]) (by simp [cb,fb]) (by simp)
  ·have:i=g.ts.length:=by omega
   subst this
   have hlf:Tv.leaf=true:=by rcases hT.2 with ⟨_,rfl⟩ | ⟨_,u,_,_,_,rfl,_⟩ <;> rfl
   simp [h8,f2,f5,o1,o5,j6,j7,f4,o3,jD,fr,hlf]
   rw [← hRl,List.take_length] at hP
   have hPl:P.length=R.length:=by rw [← hP,List.length_map]
   have hPe:P.isEmpty=(rawH g cs lo).tn:=QO (hPl.trans hRl)
   have q1:¬ 2 * uA=256:=by omega
   have q2:¬ 2 * uB=256:=by omega
   have hlA:((rawH g cs lo).ss.flatMap strC).all V.pureLeaf=true:=by rw [List.all_flatMap,List.all_eq_true];intro _ _;rfl
   have hlB:((rawH g cs lo).ks.flatMap strC).all V.pureLeaf=true:=by rw [List.all_flatMap,List.all_eq_true];intro _ _;rfl
   refine kE1 (g:=rawH g cs lo) (l:=257) (u:=128) (x:=.osl (2 * uA+1) uA 0 g.ss.length 1) (y:=.osl (2 * uB+1) uB 0 g.ks.length 1) (z:=Tv) (by simp [fd]) (by simp [f4]) (by simp) (jch (by simp [q1];exact oA) (by rw [jE JP,Nat.mul_one];rfl) (by simp [fr]) hlA) (jch (by simp [q2];exact oB) (by rw [jE JP,Nat.mul_one];rfl) (by simp [fr]) hlB) ?_
   rw [hR,← hP,← hPe,hP,← hPl,← hP]
   refine TsO.out (lo:=1000) (hi:=s.nx) (hT.frame (fun u h1 h2=>?_) (Nat.le_refl _)) (by simp [fr])
   have:¬ 2 * u=256:=by omega
   simp [this]
 refine YH (cs:=[]) rfl rfl rfl ?_
 simp [j6]
 refine jf8 (f:=strC) (l:=g.ss) (z:=192) (by simp) (by simp) (by simp) (by simp [jl,jO,jE JP]) JP (by decide) hlf1 (by omega) (by omega) fun b1 hb1=>?_
 cases b1
 ·simp
  refine YH (cs:=[]) rfl rfl rfl ?_
  simp [j6]
  refine jf8 (f:=strC) (l:=g.ks) (z:=448) (by simp) (by simp) (by simp) (by simp [jl,jO,jE JP]) JP (by decide) hlf2 (by omega) (by omega) fun b2 hb2=>?_
  cases b2
  ·simp [j6,jD]
   refine ⟨by simp [Jw,WJ,jbn,Qx,rdOb,rdTk,lOf,Delta.wo,Delta.wt,jl];try decide,?_⟩
   exact rest _ 384 640 (by decide) (by decide) (by simp) (by simp) (by simp) (by simp) (by simp) (by simp) (by simp) (by simp) (by simp [j7]) (by simp [JL]) (by simp) (by simp) (by simp) (by simp)
  ·have hb2:=hb2 rfl
   simp [j6,jD]
   refine ⟨by simp [Jw,WJ,jbn,Qx,rdOb,rdTk,lOf,Delta.wo,Delta.wt,jl];try decide,?_⟩
   exact rest _ 384 448 (by decide) (by decide) (by simp) (by simp) (by simp) (by simp) (by simp) (by simp) (by simp) (by simp) (by simp [j7]) (by simp [JL]) (by simp) (by simp) (by simp) (by simp [hb2])
 ·simp
  refine YH (cs:=[]) rfl rfl rfl ?_
  simp [j6]
  refine jf8 (f:=strC) (l:=g.ks) (z:=448) (by simp) (by simp) (by simp) (by simp [jl,jO,jE JP]) JP (by decide) hlf2 (by omega) (by omega) fun b2 hb2=>?_
  cases b2
  ·have hb1:=hb1 rfl
   simp [j6,jD]
   refine ⟨by simp [Jw,WJ,jbn,Qx,rdOb,rdTk,lOf,Delta.wo,Delta.wt,jl];try decide,?_⟩
   exact rest _ 192 640 (by decide) (by decide) (by simp) (by simp) (by simp) (by simp) (by simp) (by simp) (by simp) (by simp) (by simp [j7]) (by simp [JL]) (by simp) (by simp) (by simp [hb1]) (by simp)
  ·have hb1:=hb1 rfl
   have hb2:=hb2 rfl
   simp [j6,jD]
   refine ⟨by simp [Jw,WJ,jbn,Qx,rdOb,rdTk,lOf,Delta.wo,Delta.wt,jl];try decide,?_⟩
   exact rest _ 192 448 (by decide) (by decide) (by simp) (by simp) (by simp) (by simp) (by simp) (by simp) (by simp) (by simp) (by simp [j7]) (by simp [JL]) (by simp) (by simp) (by simp [hb1]) (by simp [hb2])
end Go.Pv.T

/- Few of a history, as one's own: the sessions, the keys. -/
namespace Go.Pv.T
open Go Go.Pv
def StO (ob:Nat→Option Obj') (lo hi:Nat) (l:List (List UInt8)) (v:V):Prop :=
 (l=[]∧v = .sl none true 0 [])∨(l≠[]∧∃ u,lo≤u∧u<hi∧v = .osl (2 * u+1) u 0 l.length 1∧ob (2 * u+1)=some ⟨u,.cells (l.flatMap strC)⟩)
theorem StO.frame {ob ob':Nat→Option Obj'} {lo hi lo' hi':Nat} {l:List (List UInt8)} {v:V} (h:StO ob lo hi l v) (ho:∀ u,lo≤u→u<hi→ob' (2 * u+1)=ob (2 * u+1)) (hl:lo'≤lo) (hh:hi≤hi'):StO ob' lo' hi' l v:=by
 rcases h with h | ⟨hne,u,h1,h2,h3,h4⟩
 ·exact .inl h
 ·exact .inr ⟨hne,u,by omega,by omega,h3,by rw [ho u h1 h2];exact h4⟩
theorem StO.leaf {ob:Nat→Option Obj'} {lo hi:Nat} {l:List (List UInt8)} {v:V} (h:StO ob lo hi l v):v.leaf=true∧v.cells=[v]:=by
 rcases h with ⟨_,rfl⟩ | ⟨_,u,_,_,rfl,_⟩ <;> exact ⟨rfl,rfl⟩
theorem TsO.leaf {ob:Nat→Option Obj'} {lo hi:Nat} {P:List (Txn' × Nat)} {v:V} (h:TsO ob lo hi P v):v.leaf=true∧v.cells=[v]:=by
 rcases h.2 with ⟨_,rfl⟩ | ⟨_,u,_,_,_,rfl,_⟩ <;> exact ⟨rfl,rfl⟩
theorem StO.out {st:St} {lo hi:Nat} {l:List (List UInt8)} {v:V} (h:StO st.ob lo hi l v) (hr:st.ro≤lo):jba st v l.isEmpty l.length (l.flatMap strC):=by
 rcases h with ⟨rfl,rfl⟩ | ⟨hne,u,h1,h2,rfl,h4⟩
 ·exact Yw _ none true 0 []
 ·have he:l.isEmpty=false:=by cases l <;> simp_all
  rw [he]
  exact jch h4 (by rw [jE JP,Nat.mul_one]) (by omega) (by rw [List.all_flatMap,List.all_eq_true];intro _ _;rfl)
theorem XU (st:St) (d:Option Nat) (v:V) (l k:Nat) (o':Obj') (ks:List Nat):(st.app d { v:=v,obs:=[(l,o')],kill:=ks }).ob k=if k=l then some o' else if ks.any (Nat.beq k) then none else st.ob k:=by
 simp [St.app,Jb,jB]
theorem jdi {E:Env} {st:St} {ub:Nat} {K:List FP→St→Prop} {d:Option Nat} {r:List AOpr} {lo hi:Nat} {l:List (List UInt8)} {c:List UInt8} {s x:A} (hS:StO st.ob lo hi l (eval E st.tm s)) (hx:jO st.ob 1 (eval E st.tm x)=some (strC c)) (hro:st.ro≤lo) (hlen:l.length≤1000)
 (h:∀ ks:List Nat,(∀ k∈ks,∃ u,lo≤u∧u<hi∧k=2 * u+1)→WI E r K (eval E st.tm) (.append true 1 16 s x) st d ub { v:=.osl (2 * ub+1) ub 0 (l.length+1) 1,obs:=[(2 * ub+1,⟨ub,.cells ((l++[c]).flatMap strC)⟩)],kill:=ks }) :
 jM E (⟨d,.append true 1 16 s x,none,true⟩::r) st ub K:=by
 rw [Jh rfl]
 rcases hS with ⟨rfl,h0⟩ | ⟨hne,u,h1,h2,h3,h4⟩
 ·simp only [aop,h0,hx,Option.bind_some]
  rw [if_neg (by simp [strC]),if_pos (show (true && true)=true from rfl),if_pos ⟨by decide,rfl,by simp [strC],by simp [strC]⟩,Jt,jX]
  have:=h [] (fun k hk=>by cases hk)
  have e:([]++[c]).flatMap strC=strC c:=by simp
  rw [e] at this
  have e2:(strC c).length / 1=1:=by simp [strC]
  rw [e2]
  exact this
 ·have hoc:j6 st.ob (2 * u+1) u=some (l.flatMap strC):=by simp [j6,h4]
  simp only [aop,h3,hx,Option.bind_some,hoc]
  have hll:(l.flatMap strC).length=l.length:=by rw [jE JP,Nat.mul_one]
  rw [if_neg (by simp [strC]),if_pos ⟨Nat.ble_eq ▸ (by omega),trivial,trivial,by rw [hll];omega,by decide,rfl,by simp [strC];omega,by simp [strC];omega⟩,jX]
  have:=h [2 * u+1] (fun k hk=>by simp only [List.mem_singleton] at hk;exact ⟨u,h1,h2,hk⟩)
  have e:(l++[c]).flatMap strC=(l.flatMap strC).take (l.length * 1)++strC c:=by
   rw [List.take_of_length_le (by rw [hll];omega),List.flatMap_append]
   simp
  rw [e] at this
  have e2:(strC c).length / 1=1:=by simp [strC]
  rw [e2]
  exact this
theorem jvh {ks:List Nat} {key:Nat} (h:∀ k∈ks,key≠k):ks.any (Nat.beq key)=false:=by
 rw [List.any_eq_false]
 intro k hk he
 exact h k hk (Nat.eq_of_beq_eq_true he)
def jee:C:=tlC (tlC S14.body)
def jed:C:=tlC jee
def jgh:C:=tlC jed
def jt1:C:=tlC jgh
structure FewO (h:Hist') (ob0:Nat→Option Obj') (ub ro:Nat) (s:St) (a b N1 N2:Nat) (Sv Kv Tv:V) (P:List (Txn' × Nat)):Prop where
 t1:s.tm 1 = .ptr (2 * ub+1) ub 0
 t2:s.tm 2 = .ptr (2 * (ub+64)+1) (ub+64) 0
 t3:s.tm 3 = .ptr (2 * (ub+192)+1) (ub+192) 0
 d:s.df=[]
 ro:s.ro=ro
 o1:s.ob (2 * ub+1)=some ⟨ub,.cells (j7 h)⟩
 o2:s.ob (2 * (ub+64)+1)=some ⟨ub+64,.cells [.sl none true 0 [],.sl none true 0 [],.sl none true 0 []]⟩
 o3:s.ob (2 * (ub+192)+1)=some ⟨ub+192,.cells [Sv,Kv,Tv]⟩
 gS:StO s.ob (ub+256) N1 (Ya a h.ss) Sv
 gK:StO s.ob N1 N2 (Ya b h.ks) Kv
 gT:TsO s.ob N2 s.nx P Tv
 n0:ub+256≤N1
 n1:N1≤N2
 n2:N2≤s.nx
 fr:∀ key,(∀ m,ub≤m→key≠2 * m+1)→s.ob key=ob0 key
set_option maxRecDepth 100000 in
theorem few0S {h:Hist'} {Yf:YF} {ob:Nat→Option Obj'} {tk:Nat→Bool} {ro base ub:Nat} {Q:Ex→St→Prop} (hro:ro≤ub) (hrest:∀ s,FewO h ob ub ro s 0 0 s.nx s.nx (.sl none true 0 []) (.sl none true 0 []) (.sl none true 0 []) []→wpC E Yf jee s Q) :
 wpC E Yf S14.body (Jl [.agg (j7 h)] ob tk ro base ub) Q:=by
 have e:S14.body = .seq (hdC S14.body) (.seq (hdC (tlC S14.body)) jee):=rfl
 rw [e]
 simp [hdC,tlC,S14,j7,j6,jD]
 have a1:¬ 2 * ub=2 * (ub+64):=by omega
 have a2:¬ 2 * ub=2 * (ub+64+64+64):=by omega
 have a3:¬ 2 * (ub+64)=2 * (ub+64+64+64):=by omega
 refine ⟨by omega,hrest _ ⟨by simp,by simp,by simp,by simp,by simp,by simp [j7,a1,a2],by simp [a3],by simp,.inl ⟨rfl,rfl⟩,.inl ⟨rfl,rfl⟩,⟨by simp,.inl ⟨rfl,rfl⟩⟩,by simp,Nat.le_refl _,Nat.le_refl _,fun key hk=>?_⟩⟩
 have e1:=hk ub (Nat.le_refl _)
 have e2:=hk (ub+64) (by omega)
 have e3:=hk (ub+64+64+64) (by omega)
 simp [e1,e2,e3]
theorem jt4:jee = .seq (hdC jee) jed:=rfl
set_option maxRecDepth 100000 in
theorem few1O {h:Hist'} {Yf:YF} {ob0:Nat→Option Obj'} {ub ro:Nat} {s0:St} {Q:Ex→St→Prop} (hru:ro≤ub) (hs:FewO h ob0 ub ro s0 0 0 s0.nx s0.nx (.sl none true 0 []) (.sl none true 0 []) (.sl none true 0 []) [])
 (hrest:∀ s Sv,FewO h ob0 ub ro s 25 0 s.nx s.nx Sv (.sl none true 0 []) (.sl none true 0 []) []→wpC E Yf jed s Q):wpC E Yf jee s0 Q:=by
 rw [jt4]
 obtain ⟨f1,f2,f3,fd,fr,o1,o2,o3,gS,gK,gT,n0,n1,n2,ff⟩:=hs
 simp [hdC,jee,tlC,S14]
 refine jL [(4,4),(9,37)] 25 (fun i s=>s.tm 4 = .int .i64 i∧i≤h.ss.length∧∃ Sv,FewO h ob0 ub ro s i 0 s.nx s.nx Sv (.sl none true 0 []) (.sl none true 0 []) []) rfl rfl ?_ ?_
 ·refine ⟨by simp,by simp,.sl none true 0 [],⟨by simp [f1],by simp [f2],by simp [f3],by simp [fd],by simp [fr],by simp [o1],by simp [o2],by simp [o3],.inl ⟨rfl,rfl⟩,.inl ⟨rfl,rfl⟩,⟨by simp,.inl ⟨rfl,rfl⟩⟩,by simp;omega,Nat.le_refl _,Nat.le_refl _,fun key hk=>by simp [ff key hk]⟩⟩
 rintro i s hi ⟨h4,hle,Sv,f1,f2,f3,fd,fr,o1,o2,o3,gS,gK,gT,n0,n1,n2,ff⟩ f
 clear f
 have hend:¬ (i<h.ss.length∧i<25)→∀ s':St,(s'.tm 1=s.tm 1∧s'.tm 2=s.tm 2∧s'.tm 3=s.tm 3)→s'.df=s.df→s'.ro=s.ro→s'.ob=s.ob→s.nx≤s'.nx→wpC E Yf jed s' Q:=by
  intro hx s' ⟨q1,q2,q3⟩ e2 e3 e4 e5
  refine hrest s' Sv ⟨q1.trans f1,q2.trans f2,q3.trans f3,by rw [e2];exact fd,by rw [e3];exact fr,by rw [e4];exact o1,by rw [e4];exact o2,by rw [e4];exact o3,?_,.inl ⟨rfl,rfl⟩,⟨by simp,.inl ⟨rfl,rfl⟩⟩,by omega,Nat.le_refl _,Nat.le_refl _,fun key hk=>by rw [e4];exact ff key hk⟩
  rw [← jk9 hle hi hx,e4]
  exact gS.frame (fun _ _ _=>rfl) (Nat.le_refl _) e5
 have o1':s.ob (2 * ub+1)=some ⟨ub,.cells [jl h.sn strC h.ss,jl h.kn strC h.ks,jl h.tn txnC h.ts]⟩:=o1
 by_cases hlt:i<h.ss.length
 ·by_cases hl5:i<25
  ·have hw:=JJ hl5 (by omega)
   have hl5':(i:Int)<25:=by omega
   obtain ⟨c,hc⟩:∃ c,h.ss[i]=c:=⟨_,rfl⟩
   have hsi:=jek h.ss hlt
   have hsn:=jic hlt hl5
   rw [hc] at hsi hsn
   have hmn:=jaq c.length 100
   have hst:=jkg (l:=c) (kk:=.i64) (Nat.min_le_left c.length 100)
   have htk:=jce c
   rw [htk] at hst
   rw [show ((100:Nat):Int)=100 from rfl] at hmn
   simp [hmn,hst,h4,f1,o1',j6,hlt,hl5',f3,o3,jF JP,hsi]
   refine YH (cs:=[.str (c.take 100)]) (by simp [jD]) rfl rfl ?_
   simp
   have e24:s.nx≤(s.nx+64+64+64+64+64+64+64+64+64+64+64+64+64+64+64+64+64+64+64+64+64+64+64+64):=by omega
   have e25:s.nx≤(s.nx+64+64+64+64+64+64+64+64+64+64+64+64+64+64+64+64+64+64+64+64+64+64+64+64+64):=by omega
   have e26:(s.nx+64+64+64+64+64+64+64+64+64+64+64+64+64+64+64+64+64+64+64+64+64+64+64+64)<(s.nx+64+64+64+64+64+64+64+64+64+64+64+64+64+64+64+64+64+64+64+64+64+64+64+64+64):=by omega
   have hll:=jk8 i h.ss
   refine jdi (lo:=ub+256) (hi:=s.nx) (l:=Ya i h.ss) (c:=c.take 100) ?_ (by simp [jO,j6];rfl) (by simp [fr];omega) (by omega) fun ks hks=>?_
   ·simp
    refine gS.frame (fun u h1 h2=>?_) (Nat.le_refl _) (Nat.le_refl _)
    have e1:¬ 2 * u=2 * (s.nx+64+64+64+64+64+64+64+64+64+64+64+64+64+64+64+64+64+64+64+64+64+64+64+64):=by omega
    simp [e1]
   rw [← hsn]
   have hlen:(Ya i h.ss).length+1=(Ya (i+1) h.ss).length:=by rw [hsn];simp
   rw [hlen]
   have hno:∀ key,(∀ u,ub+256≤u→u<s.nx→key≠2 * u+1)→ks.any (Nat.beq key)=false:=fun key hk=>jvh fun k hkk=>by
    obtain ⟨u,h1,h2,h3⟩:=hks k hkk
    rw [h3];exact hk u h1 h2
   have hn1:=hno (2 * ub+1) (fun u _ _=>by omega)
   have hn2:=hno (2 * (ub+64)+1) (fun u _ _=>by omega)
   have hn3:=hno (2 * (ub+192)+1) (fun u _ _=>by omega)
   have w1:¬ 2 * ub=2 * (s.nx+64+64+64+64+64+64+64+64+64+64+64+64+64+64+64+64+64+64+64+64+64+64+64+64+64):=by omega
   have w2:¬ 2 * (ub+64)=2 * (s.nx+64+64+64+64+64+64+64+64+64+64+64+64+64+64+64+64+64+64+64+64+64+64+64+64+64):=by omega
   have w3:¬ 2 * (ub+192)=2 * (s.nx+64+64+64+64+64+64+64+64+64+64+64+64+64+64+64+64+64+64+64+64+64+64+64+64+64):=by omega
   have w4:¬ 2 * ub=2 * (s.nx+64+64+64+64+64+64+64+64+64+64+64+64+64+64+64+64+64+64+64+64+64+64+64+64):=by omega
   have w5:¬ 2 * (ub+64)=2 * (s.nx+64+64+64+64+64+64+64+64+64+64+64+64+64+64+64+64+64+64+64+64+64+64+64+64):=by omega
   have w6:¬ 2 * (ub+192)=2 * (s.nx+64+64+64+64+64+64+64+64+64+64+64+64+64+64+64+64+64+64+64+64+64+64+64+64):=by omega
   have w7:¬ 2 * (s.nx+64+64+64+64+64+64+64+64+64+64+64+64+64+64+64+64+64+64+64+64+64+64+64+64+64)=2 * (ub+192):=by omega
   have w8:¬ 2 * ub=2 * (ub+192):=by omega
   have w9:¬ 2 * (ub+64)=2 * (ub+192):=by omega
   simp [f3,j6,XU,hn3,w3,w6,o3,fr,jD,h4,hw]
   refine ⟨by omega,?_,?_⟩
   ·simp [Jw,WJ,jbn,Qx,rdOb,rdTk,lOf,Delta.wo,Delta.wt]
    exact nbeq (by omega)
   have hne:Ya (i+1) h.ss≠[]:=by rw [hsn];simp
   refine ⟨hl5,by omega,.osl (2 * (s.nx+64+64+64+64+64+64+64+64+64+64+64+64+64+64+64+64+64+64+64+64+64+64+64+64+64)+1) (s.nx+64+64+64+64+64+64+64+64+64+64+64+64+64+64+64+64+64+64+64+64+64+64+64+64+64) 0 (Ya (i+1) h.ss).length 1,⟨by simp [f1],by simp [f2],by simp [f3],by simp [fd],by simp [fr],by simp [XU,hn1,w1,w4,w8,o1],by simp [XU,hn2,w2,w5,w9,o2],by simp,
    .inr ⟨hne,(s.nx+64+64+64+64+64+64+64+64+64+64+64+64+64+64+64+64+64+64+64+64+64+64+64+64+64),by omega,by simp,rfl,by simp [XU,w7]⟩,.inl ⟨rfl,rfl⟩,⟨by simp,.inl ⟨rfl,rfl⟩⟩,by simp;omega,Nat.le_refl _,Nat.le_refl _,fun key hk=>?_⟩⟩
   have k1:=hk (ub+192) (by omega)
   have k2:=hk (s.nx+64+64+64+64+64+64+64+64+64+64+64+64+64+64+64+64+64+64+64+64+64+64+64+64+64) (by omega)
   have k3:=hk (s.nx+64+64+64+64+64+64+64+64+64+64+64+64+64+64+64+64+64+64+64+64+64+64+64+64) (by omega)
   have k4:=hno key (fun u h1 h2=>hk u (by omega))
   simp [XU,k1,k2,k3,k4]
   exact ff key hk
  ·have hl5':¬ (i:Int)<25:=by omega
   simp [h4,f1,o1',j6,hlt,hl5']
   exact hend (by omega) _ ⟨by simp,by simp,by simp⟩ (by simp) (by simp) (by funext k;simp) (by simp;omega)
 ·simp [h4,f1,o1',j6,hlt]
  exact hend (by omega) _ ⟨by simp,by simp,by simp⟩ (by simp) (by simp) (by funext k;simp) (by simp;omega)
theorem jt3:jed = .seq (hdC jed) jgh:=rfl
set_option maxRecDepth 100000 in
theorem few2O {h:Hist'} {Yf:YF} {ob0:Nat→Option Obj'} {ub ro:Nat} {s0:St} {Q:Ex→St→Prop} {N1:Nat} {S0:V} (hru:ro≤ub) (hs:FewO h ob0 ub ro s0 25 0 N1 s0.nx S0 (.sl none true 0 []) (.sl none true 0 []) [])
 (hrest:∀ s Kv,FewO h ob0 ub ro s 25 45 N1 s.nx S0 Kv (.sl none true 0 []) []→wpC E Yf jgh s Q):wpC E Yf jed s0 Q:=by
 rw [jt3]
 obtain ⟨f1,f2,f3,fd,fr,o1,o2,o3,gS,gK,gT,n0,n1,n2,ff⟩:=hs
 simp [hdC,jed,jee,tlC,S14]
 refine jL [(5,5),(38,66)] 45 (fun i s=>s.tm 5 = .int .i64 i∧i≤h.ks.length∧∃ Kv,FewO h ob0 ub ro s 25 i N1 s.nx S0 Kv (.sl none true 0 []) []) rfl rfl ?_ ?_
 ·refine ⟨by simp,by simp,.sl none true 0 [],⟨by simp [f1],by simp [f2],by simp [f3],by simp [fd],by simp [fr],by simp [o1],by simp [o2],by simp [o3],gS.frame (fun _ _ _=>by simp) (Nat.le_refl _) (Nat.le_refl _),.inl ⟨rfl,rfl⟩,⟨by simp,.inl ⟨rfl,rfl⟩⟩,n0,by simp;omega,Nat.le_refl _,fun key hk=>by simp [ff key hk]⟩⟩
 rintro i s hi ⟨h4,hle,Kv,f1,f2,f3,fd,fr,o1,o2,o3,gS,gK,gT,n0,n1,n2,ff⟩ f
 clear f
 have hend:¬ (i<h.ks.length∧i<45)→∀ s':St,(s'.tm 1=s.tm 1∧s'.tm 2=s.tm 2∧s'.tm 3=s.tm 3)→s'.df=s.df→s'.ro=s.ro→s'.ob=s.ob→s.nx≤s'.nx→wpC E Yf jgh s' Q:=by
  intro hx s' ⟨q1,q2,q3⟩ e2 e3 e4 e5
  refine hrest s' Kv ⟨q1.trans f1,q2.trans f2,q3.trans f3,by rw [e2];exact fd,by rw [e3];exact fr,by rw [e4];exact o1,by rw [e4];exact o2,by rw [e4];exact o3,by rw [e4];exact gS,?_,⟨by simp,.inl ⟨rfl,rfl⟩⟩,n0,by omega,Nat.le_refl _,fun key hk=>by rw [e4];exact ff key hk⟩
  rw [← jk9 hle hi hx,e4]
  exact gK.frame (fun _ _ _=>rfl) (Nat.le_refl _) e5
 have o1':s.ob (2 * ub+1)=some ⟨ub,.cells [jl h.sn strC h.ss,jl h.kn strC h.ks,jl h.tn txnC h.ts]⟩:=o1
 by_cases hlt:i<h.ks.length
 ·by_cases hl5:i<45
  ·have hw:=JJ hl5 (by omega)
   have hl5':(i:Int)<45:=by omega
   obtain ⟨c,hc⟩:∃ c,h.ks[i]=c:=⟨_,rfl⟩
   have hsi:=jek h.ks hlt
   have hsn:=jic hlt hl5
   rw [hc] at hsi hsn
   have hmn:=jaq c.length 100
   have hst:=jkg (l:=c) (kk:=.i64) (Nat.min_le_left c.length 100)
   have htk:=jce c
   rw [htk] at hst
   rw [show ((100:Nat):Int)=100 from rfl] at hmn
   simp [hmn,hst,h4,f1,o1',j6,hlt,hl5',f3,o3,jF JP,hsi]
   refine YH (cs:=[.str (c.take 100)]) (by simp [jD]) rfl rfl ?_
   simp
   have e24:s.nx≤(s.nx+64+64+64+64+64+64+64+64+64+64+64+64+64+64+64+64+64+64+64+64+64+64+64+64):=by omega
   have e25:s.nx≤(s.nx+64+64+64+64+64+64+64+64+64+64+64+64+64+64+64+64+64+64+64+64+64+64+64+64+64):=by omega
   have e26:(s.nx+64+64+64+64+64+64+64+64+64+64+64+64+64+64+64+64+64+64+64+64+64+64+64+64)<(s.nx+64+64+64+64+64+64+64+64+64+64+64+64+64+64+64+64+64+64+64+64+64+64+64+64+64):=by omega
   have hll:=jk8 i h.ks
   refine jdi (lo:=N1) (hi:=s.nx) (l:=Ya i h.ks) (c:=c.take 100) ?_ (by simp [jO,j6];rfl) (by simp [fr];omega) (by omega) fun ks hks=>?_
   ·simp
    refine gK.frame (fun u h1 h2=>?_) (Nat.le_refl _) (Nat.le_refl _)
    have e1:¬ 2 * u=2 * (s.nx+64+64+64+64+64+64+64+64+64+64+64+64+64+64+64+64+64+64+64+64+64+64+64+64):=by omega
    simp [e1]
   rw [← hsn]
   have hlen:(Ya i h.ks).length+1=(Ya (i+1) h.ks).length:=by rw [hsn];simp
   rw [hlen]
   have hno:∀ key,(∀ u,N1≤u→u<s.nx→key≠2 * u+1)→ks.any (Nat.beq key)=false:=fun key hk=>jvh fun k hkk=>by
    obtain ⟨u,h1,h2,h3⟩:=hks k hkk
    rw [h3];exact hk u h1 h2
   have hn1:=hno (2 * ub+1) (fun u _ _=>by omega)
   have hn2:=hno (2 * (ub+64)+1) (fun u _ _=>by omega)
   have hn3:=hno (2 * (ub+192)+1) (fun u _ _=>by omega)
   have w1:¬ 2 * ub=2 * (s.nx+64+64+64+64+64+64+64+64+64+64+64+64+64+64+64+64+64+64+64+64+64+64+64+64+64):=by omega
   have w2:¬ 2 * (ub+64)=2 * (s.nx+64+64+64+64+64+64+64+64+64+64+64+64+64+64+64+64+64+64+64+64+64+64+64+64+64):=by omega
   have w3:¬ 2 * (ub+192)=2 * (s.nx+64+64+64+64+64+64+64+64+64+64+64+64+64+64+64+64+64+64+64+64+64+64+64+64+64):=by omega
   have w4:¬ 2 * ub=2 * (s.nx+64+64+64+64+64+64+64+64+64+64+64+64+64+64+64+64+64+64+64+64+64+64+64+64):=by omega
   have w5:¬ 2 * (ub+64)=2 * (s.nx+64+64+64+64+64+64+64+64+64+64+64+64+64+64+64+64+64+64+64+64+64+64+64+64):=by omega
   have w6:¬ 2 * (ub+192)=2 * (s.nx+64+64+64+64+64+64+64+64+64+64+64+64+64+64+64+64+64+64+64+64+64+64+64+64):=by omega
   have w7:¬ 2 * (s.nx+64+64+64+64+64+64+64+64+64+64+64+64+64+64+64+64+64+64+64+64+64+64+64+64+64)=2 * (ub+192):=by omega
   have w8:¬ 2 * ub=2 * (ub+192):=by omega
   have w9:¬ 2 * (ub+64)=2 * (ub+192):=by omega
   simp [f3,j6,XU,hn3,w3,w6,o3,fr,jD,h4,hw]
   refine ⟨by omega,?_,?_⟩
   ·simp [Jw,WJ,jbn,Qx,rdOb,rdTk,lOf,Delta.wo,Delta.wt]
    exact nbeq (by omega)
   have hne:Ya (i+1) h.ks≠[]:=by rw [hsn];simp
   refine ⟨hl5,by omega,.osl (2 * (s.nx+64+64+64+64+64+64+64+64+64+64+64+64+64+64+64+64+64+64+64+64+64+64+64+64+64)+1) (s.nx+64+64+64+64+64+64+64+64+64+64+64+64+64+64+64+64+64+64+64+64+64+64+64+64+64) 0 (Ya (i+1) h.ks).length 1,⟨by simp [f1],by simp [f2],by simp [f3],by simp [fd],by simp [fr],by simp [XU,hn1,w1,w4,w8,o1],by simp [XU,hn2,w2,w5,w9,o2],by simp,
    gS.frame (fun u h1 h2=>?_) (Nat.le_refl _) (Nat.le_refl _),.inr ⟨hne,(s.nx+64+64+64+64+64+64+64+64+64+64+64+64+64+64+64+64+64+64+64+64+64+64+64+64+64),by omega,by simp,rfl,by simp [XU,w7]⟩,⟨by simp,.inl ⟨rfl,rfl⟩⟩,n0,by first | omega | (simp;omega),Nat.le_refl _,fun key hk=>?_⟩⟩
   ·have k1:¬ 2 * u=2 * (ub+192):=by omega
    have k2:¬ 2 * u=2 * (s.nx+64+64+64+64+64+64+64+64+64+64+64+64+64+64+64+64+64+64+64+64+64+64+64+64+64):=by omega
    have k3:¬ 2 * u=2 * (s.nx+64+64+64+64+64+64+64+64+64+64+64+64+64+64+64+64+64+64+64+64+64+64+64+64):=by omega
    have k4:=hno (2 * u+1) (fun u' _ _=>by omega)
    simp [XU,k1,k2,k3,k4]
   have k1:=hk (ub+192) (by omega)
   have k2:=hk (s.nx+64+64+64+64+64+64+64+64+64+64+64+64+64+64+64+64+64+64+64+64+64+64+64+64+64) (by omega)
   have k3:=hk (s.nx+64+64+64+64+64+64+64+64+64+64+64+64+64+64+64+64+64+64+64+64+64+64+64+64) (by omega)
   have k4:=hno key (fun u h1 h2=>hk u (by omega))
   simp [XU,k1,k2,k3,k4]
   exact ff key hk
  ·have hl5':¬ (i:Int)<45:=by omega
   simp [h4,f1,o1',j6,hlt,hl5']
   exact hend (by omega) _ ⟨by simp,by simp,by simp⟩ (by simp) (by simp) (by funext k;simp) (by simp;omega)
 ·simp [h4,f1,o1',j6,hlt]
  exact hend (by omega) _ ⟨by simp,by simp,by simp⟩ (by simp) (by simp) (by funext k;simp) (by simp;omega)
end Go.Pv.T

/- Few of a history, as one's own: the transactions; whole. -/
namespace Go.Pv.T
open Go Go.Pv
theorem jt2:jgh = .seq (hdC jgh) jt1:=rfl
set_option maxRecDepth 100000 in
theorem few3O {h:Hist'} {Yf:YF} {ob0:Nat→Option Obj'} {ub ro:Nat} {s0:St} {Q:Ex→St→Prop} {N1 N2:Nat} {S0 K0:V} (hru:ro≤ub) (hs:FewO h ob0 ub ro s0 25 45 N1 N2 S0 K0 (.sl none true 0 []) [])
 (hrest:∀ s Tv P,P.map (·.1)=(h.ts.take 45).map fewT→FewO h ob0 ub ro s 25 45 N1 N2 S0 K0 Tv P→wpC E Yf jt1 s Q):wpC E Yf jgh s0 Q:=by
 rw [jt2]
 obtain ⟨f1,f2,f3,fd,fr,o1,o2,o3,gS,gK,gT,n0,n1,n2,ff⟩:=hs
 simp [hdC,jgh,jed,jee,tlC,S14]
 refine jL [(6,7),(67,98)] 45 (fun i s=>s.tm 6 = .int .i64 i∧i≤h.ts.length∧∃ Tv P,P.map (·.1)=(h.ts.take i).map fewT∧FewO h ob0 ub ro s 25 45 N1 N2 S0 K0 Tv P) rfl rfl ?_ ?_
 ·refine ⟨by simp,by simp,.sl none true 0 [],[],by simp,⟨by simp [f1],by simp [f2],by simp [f3],by simp [fd],by simp [fr],by simp [o1],by simp [o2],by simp [o3],gS.frame (fun _ _ _=>by simp) (Nat.le_refl _) (Nat.le_refl _),gK.frame (fun _ _ _=>by simp) (Nat.le_refl _) (Nat.le_refl _),⟨by simp,.inl ⟨rfl,rfl⟩⟩,n0,n1,by simp;omega,fun key hk=>by simp [ff key hk]⟩⟩
 rintro i s hi ⟨h4,hle,Tv,P,hP,f1,f2,f3,fd,fr,o1,o2,o3,gS,gK,gT,n0,n1,n2,ff⟩ f
 clear f
 have hend:¬ (i<h.ts.length∧i<45)→∀ s':St,(s'.tm 1=s.tm 1∧s'.tm 2=s.tm 2∧s'.tm 3=s.tm 3)→s'.df=s.df→s'.ro=s.ro→s'.ob=s.ob→s.nx≤s'.nx→wpC E Yf jt1 s' Q:=by
  intro hx s' ⟨q1,q2,q3⟩ e2 e3 e4 e5
  refine hrest s' Tv P (hP.trans (jyb hle hi hx)) ⟨q1.trans f1,q2.trans f2,q3.trans f3,by rw [e2];exact fd,by rw [e3];exact fr,by rw [e4];exact o1,by rw [e4];exact o2,by rw [e4];exact o3,by rw [e4];exact gS,by rw [e4];exact gK,?_,n0,n1,by omega,fun key hk=>by rw [e4];exact ff key hk⟩
  exact gT.frame (fun _ _ _=>by rw [e4]) e5
 have o1':s.ob (2 * ub+1)=some ⟨ub,.cells [jl h.sn strC h.ss,jl h.kn strC h.ks,jl h.tn txnC h.ts]⟩:=o1
 by_cases hlt:i<h.ts.length
 ·by_cases hl5:i<45
  ·have hw:=JJ hl5 (by omega)
   have hl5':(i:Int)<45:=by omega
   obtain ⟨t,ht⟩:∃ t,h.ts[i]=t:=⟨_,rfl⟩
   have hmn:=jaq t.ops.length 25
   rw [show ((25:Nat):Int)=25 from rfl] at hmn
   have hss:=jfm jK t.nl t.ops 25 .i64
   have hmm:min t.ops.length 25=(t.ops.take 25).length:=by rw [List.length_take,Nat.min_comm]
   rw [hmm] at hss hmn
   generalize hL:t.ops.take 25=L at *
   have hLl:L.length≤25:=by rw [← hL,List.length_take];omega
   have hlfO:(L.flatMap opC).all V.leaf=true:=by rw [List.all_flatMap,List.all_eq_true];intro _ _;rfl
   obtain ⟨z,hz⟩:∃ z,s.nx=z:=⟨_,rfl⟩
   simp [h4,f1,o1',j6,hlt,hl5',jF jH,ja jH,ht,txnC,fr,jD,hz]
   refine ⟨by omega,?_⟩
   refine XY (cs:=[]) rfl rfl rfl ?_
   simp [j6]
   obtain ⟨zB,hB⟩:∃ y,(z+64+64+64+64+64+64+64+64+64+64+64+64+64+64+64+64)=y:=⟨_,rfl⟩
   obtain ⟨zA,hA⟩:∃ y,(z+64+64+64+64+64+64+64+64+64+64+64+64+64+64)=y:=⟨_,rfl⟩
   have hAB:zB=zA+128:=by omega
   have hA0:z+896=zA:=by omega
   rw [hB,hA]
   have w1:¬ 2 * zA=2 * zB:=by omega
   have w2:¬ 2 * zB=2 * zA:=by omega
   simp [j6,w1,hmn,hss]
   refine jk1 (f:=opC) (l:=L) (z:=zB) (by simp) (by simp) (by simp [fr];omega) (by simp [jl,jO,jE jK]) jK (by decide) hlfO (by omega) (by omega) ?_
   intro s1 u hu c0 cf ct cd cr cb ck
   have hu1:zB≤u:=by omega
   have hu2:u≤zB+512:=by omega
   have cA:s1.ob (2 * zA+1)=some ⟨zA,.cells [.int .i64 t.s,.int .i64 t.f,jl t.nl opC t.ops]⟩:=by
    rw [cf _ (by omega) (by omega)];simp [w1]
   have cO:∀ key,key≠2 * zA+1→key≠2 * zB+1→key≠2 * (zB+512)+1→s1.ob key=s.ob key:=by
    intro key k1 k2 k3
    rw [cf _ k2 (by omega)]
    simp [k1,k2]
   have v1:¬ 2 * zA=2 * (ub+192):=by omega
   have v2:¬ 2 * (ub+192)=2 * zA:=by omega
   have c3:s1.ob (2 * (ub+192)+1)=some ⟨ub+192,.cells [S0,K0,Tv]⟩:=(cO _ (by omega) (by omega) (by omega)).trans o3
   have hra:ro≤zA:=by omega
   simp [ct,j6,cA,cr,fr,jD,f3,c3,v2,hra]
   obtain ⟨p,hp⟩:∃ p,(fewT t,u)=p:=⟨_,rfl⟩
   have hpu:txU p=[.int .i64 t.s,.int .i64 t.f,.osl (2 * u+1) u 0 L.length 4]:=by
    rw [← hp]
    simp [txU,fewT,← hL]
   refine XY (cs:=txU p) (by rw [hpu];simp [jD]) rfl (by rw [hpu];rfl) ?_
   simp
   obtain ⟨zE,hE⟩:∃ y,(zB+64+64+64+64+64+64+64+64+64+64+64+64+64+64)=y:=⟨_,rfl⟩
   have hE0:zB+896=zE:=by omega
   rw [hE]
   have hPl:P.length=i:=by
    have:=congrArg List.length hP
    rw [List.length_map,List.length_map,List.length_take] at this
    omega
   have hp2:p.2=u:=by rw [← hp]
   have hp1:p.1=fewT t:=by rw [← hp]
   have hpo:p.1.ops=L:=by rw [hp1];exact hL
   rw [hz] at gT n2
   have hsame:∀ y,y<z→s1.ob (2 * y+1)=s.ob (2 * y+1):=fun y y2=>cO _ (by omega) (by omega) (by omega)
   refine jdg (lo:=N2) (hi:=z) (P:=P) (p:=p) ?_ (by omega) (by simp [cr,fr];omega) (by simp [jO,j6];rfl) ?_ n2 (by omega) ?_
   ·simp
    refine gT.frame (fun y y1 y2=>?_) (Nat.le_refl _)
    have e1:¬ 2 * y=2 * zE:=by omega
    have e2:¬ 2 * y=2 * zA:=by omega
    simp [e1,e2]
    exact hsame y y2
   ·refine ⟨by rw [hp1];rfl,by rw [hp2];omega,by rw [hp2];omega,L.flatMap opC,?_,?_,?_⟩
    ·rw [hp2]
     have e1:¬ 2 * u=2 * zE:=by omega
     have e2:¬ 2 * u=2 * zA:=by omega
     simp [e1,e2]
     exact c0
    ·rw [hpo,jE jK];exact Nat.le_refl _
    ·rw [hpo,← jE jK,List.take_length]
   intro s4 v4 hT4 x4 xt xd xr xb xk
   obtain ⟨hlf4,hc4⟩:=hT4.leaf
   have x5:∀ y,(y<N2)→s4.ob (2 * y+1)=s.ob (2 * y+1):=by
    intro y hy
    rw [x4 _ (fun y y1 y2=>by omega) (by omega)]
    have e1:¬ 2 * y=2 * zE:=by omega
    have e2:¬ 2 * y=2 * zA:=by omega
    simp [e1,e2]
    exact hsame y (by omega)
   have x3:=(x5 (ub+192) (by omega)).trans o3
   have hP1:(P++[p]).map (·.1)=(h.ts.take (i+1)).map fewT:=by
    rw [List.map_append,hP,List.take_succ_eq_append_getElem hlt,List.map_append,ht,← hp]
    rfl
   simp [xt,ct,f3,j6,x3,xr,cr,fr,jD,hlf4,hc4,h4,hw]
   have b1:¬ 2 * ub=2 * (ub+192):=by omega
   have b2:¬ 2 * (ub+64)=2 * (ub+192):=by omega
   refine ⟨by omega,hl5,by omega,v4,P++[p],by rw [hP1,List.map_take],⟨by simp [xt,ct,f1],by simp [xt,ct,f2],by simp [xt,ct,f3],by simp [xd,cd,fd],by simp [xr,cr,fr],by simp [b1];exact (x5 ub (by omega)).trans o1,by simp [b2];exact (x5 (ub+64) (by omega)).trans o2,by simp,
    gS.frame (fun y h1 h2=>?_) (Nat.le_refl _) (Nat.le_refl _),gK.frame (fun y h1 h2=>?_) (Nat.le_refl _) (Nat.le_refl _),hT4.frame (fun y h1 h2=>?_) (by simp <;> omega),n0,n1,by simp <;> omega,fun key hk=>?_⟩⟩
   ·have e1:¬ 2 * y=2 * (ub+192):=by omega
    simp [e1]
    exact x5 y (by omega)
   ·have e1:¬ 2 * y=2 * (ub+192):=by omega
    simp [e1]
    exact x5 y (by omega)
   ·have e1:¬ 2 * y=2 * (ub+192):=by omega
    simp [e1]
   ·have e1:=hk (ub+192) (by omega)
    have e2:=hk zE (by omega)
    have e3:=hk zA (by omega)
    simp [e1]
    rw [x4 _ (fun y y1 y2=>hk y (by omega)) (hk _ (by omega))]
    simp [e2,e3]
    exact (cO key e3 (hk zB (by omega)) (hk (zB+512) (by omega))).trans (ff key hk)
  ·have hl5':¬ (i:Int)<45:=by omega
   simp [h4,f1,o1',j6,hlt,hl5']
   exact hend (by omega) _ ⟨by simp,by simp,by simp⟩ (by simp) (by simp) (by funext k;simp) (by simp;omega)
 ·simp [h4,f1,o1',j6,hlt]
  exact hend (by omega) _ ⟨by simp,by simp,by simp⟩ (by simp) (by simp) (by funext k;simp) (by simp;omega)
def FewP (h:Hist') (ob:Nat→Option Obj') (ub:Nat) (r:V × (Nat→Option Obj') × (Nat→Bool) × Nat):Prop :=
 ∃ Sv Kv Tv P N1 N2,r.1 = .agg [Sv,Kv,Tv]∧StO r.2.1 (ub+256) N1 (Ya 25 h.ss) Sv∧StO r.2.1 N1 N2 (Ya 45 h.ks) Kv∧TsO r.2.1 N2 r.2.2.2 P Tv∧P.map (·.1)=(h.ts.take 45).map fewT∧ub+256≤N1∧N1≤N2∧N2≤r.2.2.2 ∧
  ∀ key,(∀ m,ub≤m→key≠2 * m+1)→r.2.1 key=ob key
theorem sv14 {Yf:YF} {h:Hist'} {ob:Nat→Option Obj'} {tk:Nat→Bool} {ro base ub:Nat} (hro:ro≤ub):∃ r,EvS E Yf.y 14 [.agg (j7 h)] ob tk ro base ub r∧FewP h ob ub r:=by
 refine J8 (af:=S14) rfl (by decide) ?_
 show wpC E Yf S14.body _ (JY S14.res _)
 refine few0S hro fun s1 h1=>?_
 refine few1O hro h1 fun s2 Sv h2=>?_
 refine few2O hro h2 fun s3 Kv h3=>?_
 refine few3O hro h3 fun s4 Tv P hP h4=>?_
 obtain ⟨f1,f2,f3,fd,fr,o1,o2,o3,gS,gK,gT,n0,n1,n2,ff⟩:=h4
 obtain ⟨lS,cS⟩:=gS.leaf
 obtain ⟨lK,cK⟩:=gK.leaf
 obtain ⟨lT,cT⟩:=gT.leaf
 have b1:¬ 2 * (ub+192)=2 * (ub+64):=by omega
 have hre:S14.res=[.cell 2 (some 3)]:=rfl
 rw [hre]
 generalize hP':JY [.cell 2 (some 3)] (FewP h ob ub)=Q
 simp [jt1,jgh,jed,jee,tlC,S14,f2,f3,o2,o3,j6,fr,jD,lS,lK,lT]
 refine ⟨by omega,?_⟩
 rw [← hP']
 refine ⟨(.agg [Sv,Kv,Tv],_,_,_),by simp [endS,fd,jw,f2,j6];exact ⟨rfl,rfl,rfl⟩,Sv,Kv,Tv,P,_,_,rfl,gS.frame (fun y h1 h2=>?_) (Nat.le_refl _) (Nat.le_refl _),gK.frame (fun y h1 h2=>?_) (Nat.le_refl _) (Nat.le_refl _),gT.frame (fun y h1 h2=>?_) ?_,hP,n0,n1,?_,fun key hk=>?_⟩
 ·have e1:¬ 2 * y=2 * (ub+64):=by omega
  simp [e1]
 ·have e1:¬ 2 * y=2 * (ub+64):=by omega
  simp [e1]
 ·have e1:¬ 2 * y=2 * (ub+64):=by omega
  simp [e1]
 ·simp;omega
 ·simp;omega
 ·have e1:=hk (ub+64) (by omega)
  simp [e1]
  exact ff key hk
end Go.Pv.T

/- Few of a history for the greater laws: at most 8 transactions, of at most 6 ops. -/
namespace Go.Pv.T
open Go Go.Pv
def jg7 (t:Txn'):Txn':={ t with ops:=t.ops.take 6 }
def jd5 (h:Hist'):Hist':=if 8<(jzl h).ts.length then { jzl h with tn:=true,ts:=[] } else { jzl h with ts:=(jzl h).ts.map jg7 }
def mixT (P:List (Txn' × Nat)) (i:Nat):List (Txn' × Nat):=P.mapIdx fun j p=>if j<i then (jg7 p.1,p.2) else p
theorem W4 {P:List (Txn' × Nat)} {i:Nat}:(mixT P i).length=P.length:=by simp [mixT]
theorem jpc {P:List (Txn' × Nat)}:mixT P 0=P:=by
 apply List.ext_getElem?
 intro n
 simp [mixT]
theorem jsx {P:List (Txn' × Nat)}:(mixT P P.length).map (·.1)=(P.map (·.1)).map jg7:=by
 apply List.ext_getElem?
 intro n
 simp only [mixT,List.getElem?_map,List.getElem?_mapIdx]
 cases h:P[n]? with
 | none=>rfl
 | some o =>
  have:=(List.getElem?_eq_some_iff.1 h).1
  simp [this]
theorem jjl {P:List (Txn' × Nat)} {i:Nat} (h:i<P.length):(mixT P i)[i]'(by rw [W4];exact h)=P[i]:=by simp [mixT]
theorem jhx {P:List (Txn' × Nat)} {i:Nat} (h:i<P.length):mixT P (i+1)=(mixT P i).modify i fun p=>(jg7 p.1,p.2):=by
 apply List.ext_getElem?
 intro n
 simp only [mixT,List.getElem?_mapIdx,List.getElem?_modify]
 cases hn:P[n]? with
 | none=>simp
 | some o =>
  simp only [Option.map_some,Option.map_eq_map]
  by_cases h3:i=n
  ·subst h3
   simp
  ·simp only [if_neg h3]
   by_cases h1:n<i
   ·rw [if_pos h1,if_pos (by omega)]
   ·rw [if_neg (by omega),if_neg h1]
theorem jno:∀ {P:List (Txn' × Nat)} {i:Nat} (h:i<P.length),jD (P.flatMap txU) (i * 3+2) [.osl (2 * (P[i]).2+1) (P[i]).2 0 (jg7 (P[i]).1).ops.length 4]=(P.modify i fun p=>(jg7 p.1,p.2)).flatMap txU
 | [],_,h=>by simp at h
 | p::P,0,_=>by simp [List.modify_cons,jD,txU,jg7]
 | p::P,i+1,h=>by
  have ih:=jno (P:=P) (i:=i) (by simpa using h)
  simp only [List.modify_cons,Nat.add_one_ne_zero,if_false,Nat.add_sub_cancel,List.flatMap_cons,List.getElem_cons_succ]
  rw [← ih]
  have:(i+1) * 3+2=(txU p).length+(i * 3+2):=by simp;omega
  rw [this]
  simp only [jD,Nat.add_assoc]
  rw [List.take_length_add_append,List.drop_length_add_append]
  simp only [List.append_assoc]
theorem InO.six {ob:Nat→Option Obj'} {lo hi:Nat} {p:Txn' × Nat} (h:InO ob lo hi p):InO ob lo hi (jg7 p.1,p.2):=by
 obtain ⟨X,h1,h2,h3⟩:=h.ob
 refine ⟨h.nl,h.lo,h.hi,X,h1,?_,?_⟩
 ·simp only [jg7,List.length_take];omega
 ·have e:X.take ((jg7 p.1).ops.length * 4)=(X.take (p.1.ops.length * 4)).take ((jg7 p.1).ops.length * 4):=by
   rw [List.take_take]
   congr 1
   simp only [jg7,List.length_take]
   omega
  rw [e,h3,jrp]
  congr 1
  simp only [jg7,List.length_take]
  rcases Nat.le_total p.1.ops.length 6 with h' | h'
  ·rw [Nat.min_eq_right h',List.take_length,List.take_of_length_le h']
  ·rw [Nat.min_eq_left h']
theorem jr0 {L u n i:Nat} (h:i≤n):QX 4 none (some (.int .i64 (i:Int))) (.osl L u 0 n 4)=some (.osl L u 0 i 4):=by
 simp [QX,Jx,h]
theorem TsO.len {ob:Nat→Option Obj'} {lo hi:Nat} {P:List (Txn' × Nat)} {v:V} (h:TsO ob lo hi P v):jdd v=some (.int .i64 P.length):=by
 rcases h.2 with ⟨rfl,rfl⟩ | ⟨_,u,_,_,_,rfl,_⟩ <;> rfl
set_option maxRecDepth 100000 in
theorem ev54 (h:Hist'):∃ v,Ev E 54 [.agg (j7 h)] v∧jj6 v (jd5 h):=by
 refine YV (af:=F54) rfl (by decide) ?_
 generalize hPP:(jeb [.cell 2 (some 3)] fun r=>jj6 r (jd5 h))=PP
 simp [F54,j7,j6,hPP]
 refine jQ (vs:=[.agg (j7 h)]) (by simp [j7]) rfl (sv14 (h:=h) (Nat.zero_le _)) ?_
 rintro v ob1 tk1 ub1 ⟨Sv,Kv,Tv,P,N1,N2,hv,gS,gK,gT,hP,n0,n1,n2,ff⟩
 simp only at hv gS gK gT hP n0 n1 n2 ff
 subst hv
 obtain ⟨lS,cS⟩:=gS.leaf
 obtain ⟨lK,cK⟩:=gK.leaf
 obtain ⟨lT,cT⟩:=gT.leaf
 have hTl:=gT.len
 have b1:ob1 1=some ⟨0,.cells (j7 h)⟩:=by rw [ff 1 (fun m hm=>by omega)];simp [j7]
 have b2:ob1 129=some ⟨64,.cells [.sl none true 0 [],.sl none true 0 [],.sl none true 0 []]⟩:=by rw [ff 129 (fun m hm=>by omega)];simp
 have e1:(jd5 h).ss=Ya 25 h.ss:=by unfold jd5;split <;> rfl
 have e2:(jd5 h).sn=(Ya 25 h.ss).isEmpty:=by unfold jd5;split <;> rfl
 have e3:(jd5 h).ks=Ya 45 h.ks:=by unfold jd5;split <;> rfl
 have e4:(jd5 h).kn=(Ya 45 h.ks).isEmpty:=by unfold jd5;split <;> rfl
 have hPl:(jzl h).ts.length=P.length:=by
  show ((h.ts.take 45).map fewT).length=P.length
  rw [← hP,List.length_map]
 simp [b1,j6,j7,jD]
 generalize hK:jea E Xx _ PP=K
 have rest:∀ (s:St) (P':List (Txn' × Nat)) (Tv':V),P'.length≤8→(jd5 h).ts=(P'.map (·.1)).map jg7→(jd5 h).tn=P'.isEmpty→s.tm 1 = .ptr 1 0 0→s.tm 2 = .ptr 129 64 0→s.df=[]→s.ro=0→s.fb=0→ub1≤s.nx →
  s.ob 1=some ⟨0,.cells [Sv,Kv,Tv']⟩→s.ob 129=some ⟨64,.cells [.sl none true 0 [],.sl none true 0 [],.sl none true 0 []]⟩→StO s.ob (192+256) N1 (Ya 25 h.ss) Sv→StO s.ob N1 N2 (Ya 45 h.ks) Kv→TsO s.ob N2 ub1 P' Tv'→K .nrm s:=by
  intro s P' Tv' hl8 ht8 hn8 g1 g2 gd gr gb gn p1 p2 gS gK gT
  rw [← hK,X6]
  clear hK
  have lT':=gT.leaf
  simp
  refine jL [(3,3),(11,37)] P'.length (fun i s=>s.tm 3 = .int .i64 i∧s.ob 1=some ⟨0,.cells [Sv,Kv,Tv']⟩∧s.ob 129=some ⟨64,.cells [.sl none true 0 [],.sl none true 0 [],.sl none true 0 []]⟩∧StO s.ob (192+256) N1 (Ya 25 h.ss) Sv∧StO s.ob N1 N2 (Ya 45 h.ks) Kv∧TsO s.ob N2 ub1 (mixT P' i) Tv') rfl rfl
   ⟨by simp,by simp [p1],by simp [p2],gS.frame (fun _ _ _=>by simp) (Nat.le_refl _) (Nat.le_refl _),gK.frame (fun _ _ _=>by simp) (Nat.le_refl _) (Nat.le_refl _),by rw [jpc];exact gT.frame (fun _ _ _=>by simp) (Nat.le_refl _)⟩ ?_
  clear gS gK
  rintro i s1 hi ⟨h3,o1,o2,gS,gK,gX⟩ f
  have f1:s1.tm 1 = .ptr 1 0 0:=by rw [f.t 1 (by simp)];simp [g1]
  have f2:s1.tm 2 = .ptr 129 64 0:=by rw [f.t 2 (by simp)];simp [g2]
  have fd:s1.df=[]:=by rw [f.d];simp [gd]
  have fb:s1.fb=0:=by rw [f.b];simp [gb]
  have fr:s1.ro=0:=by rw [f.r];simp [gr]
  clear f
  have hXl:=gX.len
  rw [W4] at hXl
  by_cases hlt:i<P'.length
  ·have hw:=JJ hlt (by omega)
   have hl3:i<(mixT P' i).length:=by rw [W4];exact hlt
   rcases gX.2 with ⟨he,_⟩ | ⟨hne,u,h1,h2,h4,rfl,h5⟩
   ·rw [he] at hl3;simp at hl3
   have hin:=gX.1 (P'[i]) (by rw [← jjl hlt];exact List.getElem_mem hl3)
   have hixT:JZ 3 (.osl (2 * u+1) u 0 (mixT P' i).length 3) (.int .i64 (i:Int))=some (.ptr (2 * u+1) u (i * 3)):=by simp [JZ,hl3]
   have hcell:((mixT P' i).flatMap txU)[i * 3+2]? = some (.osl (2 * (P'[i]).2+1) (P'[i]).2 0 (P'[i]).1.ops.length 4):=by
    rw [ju Yu _ hl3 (by decide:2<3),jjl hlt]
    rfl
   have hset:=jno (P:=mixT P' i) (i:=i) hl3
   rw [← jhx hlt] at hset
   simp only [jjl hlt] at hset
   have hmn:=jaq (P'[i]).1.ops.length 6
   rw [show ((6:Nat):Int)=6 from rfl] at hmn
   have hsl:=fun L u=>jr0 (L:=L) (u:=u) (n:=(P'[i]).1.ops.length) (i:=min (P'[i]).1.ops.length 6) (Nat.min_le_left _ _)
   have hs6:(jg7 (P'[i]).1).ops.length=min (P'[i]).1.ops.length 6:=by simp only [jg7,List.length_take,Nat.min_comm]
   rw [hs6] at hset
   have n1':¬ 2 * u=0:=by omega
   have n2':¬ 2 * u=128:=by omega
   have hlen:i * 3+2+1≤((mixT P' i).flatMap txU).length:=by rw [jE Yu];omega
   simp [h3,f1,o1,j6,hXl,hlt,hixT,h5,hcell,hmn,hsl,fr,n1',n2',hset]
   have hq:∀ q∈mixT P' (i+1),InO s1.ob N2 ub1 q∧q.2≠u:=by
    intro q hq
    rw [jhx hlt] at hq
    rcases je0 hq with hq | ⟨x,hx,rfl⟩
    ·exact ⟨gX.1 q hq,h4 q hq⟩
    ·have hx':=List.mem_of_getElem? hx
     exact ⟨(gX.1 x hx').six,h4 x hx'⟩
   have hll:(mixT P' (i+1)).length=(mixT P' i).length:=by rw [W4,W4]
   refine ⟨by have:=hlen;simp only [List.length_flatMap,Yu] at this;exact this,hw,o2,gS.frame (fun y y1 y2=>?_) (Nat.le_refl _) (Nat.le_refl _),gK.frame (fun y y1 y2=>?_) (Nat.le_refl _) (Nat.le_refl _),fun q hqm=>?_,.inr ⟨?_,u,h1,h2,fun q hqm=>(hq q hqm).2,by rw [hll],by simp⟩⟩
   ·have w:¬ 2 * y=2 * u:=by omega
    simp [w]
   ·have w:¬ 2 * y=2 * u:=by omega
    simp [w]
   ·obtain ⟨a,b⟩:=hq q hqm
    have w:¬ 2 * q.2=2 * u:=by omega
    exact a.frame (by simp [w]) (Nat.le_refl _)
   ·intro e
    rw [e] at hll
    simp at hll
    omega
  ·have:i=P'.length:=by omega
   subst this
   simp [h3,f1,o1,j6,hXl,f2,o2,jD,fr,gS.leaf.1,gK.leaf.1,lT'.1]
   rw [← hPP]
   have hml:(mixT P' P'.length).isEmpty=(jd5 h).tn:=by rw [hn8];exact QO W4
   refine kE1 (g:=jd5 h) (l:=129) (u:=64) (x:=Sv) (y:=Kv) (z:=Tv') (by simp [fd]) (by simp [f2]) (by simp) ?_ ?_ ?_
   ·rw [e1,e2]
    refine StO.out (lo:=192+256) (hi:=N1) (gS.frame (fun y q1 q2=>?_) (Nat.le_refl _) (Nat.le_refl _)) (by simp [fr])
    have w:¬ 2 * y=128:=by omega
    simp [w]
   ·rw [e3,e4]
    refine StO.out (lo:=N1) (hi:=N2) (gK.frame (fun y q1 q2=>?_) (Nat.le_refl _) (Nat.le_refl _)) (by simp [fr])
    have w:¬ 2 * y=128:=by omega
    simp [w]
   ·have hl9:(jd5 h).ts.length=(mixT P' P'.length).length:=by rw [ht8,W4];simp
    rw [hl9,← hml,ht8,← jsx]
    refine TsO.out (lo:=N2) (hi:=ub1) (gX.frame (fun y q1 q2=>?_) (Nat.le_refl _)) (by simp [fr])
    have w:¬ 2 * y=128:=by omega
    simp [w]
 refine ⟨⟨lS,lK,lT⟩,?_⟩
 simp [hTl]
 have q1:∀ y,192≤y→¬ 2 * y=0:=fun y hy=>by omega
 by_cases h8:8<P.length
 ·have h8':(8:Int)<(P.length:Int):=by omega
  simp [h8',j6,jD]
  exact rest _ [] (.sl none true 0 []) (by simp) (by unfold jd5;rw [if_pos (by rw [hPl];exact h8)];rfl) (by unfold jd5;rw [if_pos (by rw [hPl];exact h8)];rfl) (by simp) (by simp) (by simp) (by simp) (by simp) (by simp <;> omega) (by simp) (by simp [b2])
   (gS.frame (fun y y1 y2=>by simp [q1 y (by omega)]) (Nat.le_refl _) (Nat.le_refl _)) (gK.frame (fun y y1 y2=>by simp [q1 y (by omega)]) (Nat.le_refl _) (Nat.le_refl _)) ⟨by simp,.inl ⟨rfl,rfl⟩⟩
 ·have h8':¬ (8:Int)<(P.length:Int):=by omega
  simp [h8']
  exact rest _ P Tv (by omega) (by unfold jd5;rw [if_neg (by rw [hPl];exact h8),hP];rfl) (by unfold jd5;rw [if_neg (by rw [hPl];exact h8)];show ((h.ts.take 45).map fewT).isEmpty=_;rw [← hP];exact QO (by simp)) (by simp) (by simp) (by simp) (by simp) (by simp) (by simp <;> omega) (by simp) (by simp [b2])
   (gS.frame (fun y y1 y2=>by simp [q1 y (by omega)]) (Nat.le_refl _) (Nat.le_refl _)) (gK.frame (fun y y1 y2=>by simp [q1 y (by omega)]) (Nat.le_refl _) (Nat.le_refl _)) (gT.frame (fun y y1 y2=>by simp [q1 y (by omega)]) (Nat.le_refl _))
end Go.Pv.T

/- The reference's sole: an observer of what is doomed. -/
namespace Go.Pv.T
open Go Go.Pv
end Go.Pv.T

/- The reference's Raw, walked. -/
namespace Go.Pv.T
open Go Go.Pv
structure RwAt (g:Hist') (r:RwS) (st:St):Prop where
 cl:r.c.length=g.ts.length
 dl:r.d.length=g.ts.length
 h:st.ob 2=some ⟨0,.cells (j7 g)⟩
 c:st.ob 36=some ⟨448,.cells (r.c.map V.bool)⟩
 d:st.ob 44=some ⟨704,.cells (r.d.map V.bool)⟩
 t1:st.tm 1 = .ptr 2 0 0
 t5:st.tm 5 = .osl 36 448 0 g.ts.length 1
 t6:st.tm 6 = .osl 44 704 0 g.ts.length 1
 t8:st.tm 8 = .bool r.hop
 t9:st.tm 9 = .bool r.more
 df:st.df=[]
 ro:st.ro=0
 nx:768≤st.nx
end Go.Pv.T

/- The reference's Raw of no transactions; its Must. -/
namespace Go.Pv.T
open Go Go.Pv
end Go.Pv.T

/- The reference's Against; both say the same. -/
namespace Go.Pv.T
open Go Go.Pv
end Go.Pv.T

/- A fixed text is read, by the kernel: unit's example. -/
namespace Go.Pv.T
open Go Go.Pv
def jzx:List UInt8:=[98,101,103,105,110,32,115,10,119,114,105,116,101,32,115,32,120,32,49,10,105,110,102,111,32,115,10,98,101,103,105,110,32,116,10,114,101,97,100,32,116,32,120,32,49,10,111,107,32,116]
def H49:Hist':=⟨false,[[115],[116]],false,[[120]],false,[⟨0,3,false,[⟨true,0,⟨1,1⟩⟩]⟩,⟨1,1,false,[⟨false,0,⟨1,1⟩⟩]⟩]⟩
theorem k67u:(jZ E 100 noY).d 67 [.str jzx]=some (.tup [(.agg [(.sl (some (0,1)) false 2 [(.str [115]),(.str [116])]),(.sl (some (1,1)) false 1 [(.str [120])]),(.sl (some (2,3)) false 2 [(.int .i64 0),(.int .i64 3),(.sl none false 1 [(.bool true),(.int .i64 0),(.int .i64 1),(.int .i64 1)]),(.int .i64 1),(.int .i64 1),(.sl none false 1 [(.bool false),(.int .i64 0),(.int .i64 1),(.int .i64 1)])])]),(.int .i64 0),(.int .i64 0)]):=by kernel_rfl
end Go.Pv.T

/- The fixed example of unit. -/
namespace Go.Pv.T
open Go Go.Pv
theorem map4 {α β:Type} {f:α→β} {ws:List α} {a b c d:β} (h:ws.map f=[a,b,c,d]):∃ x y z w,ws=[x,y,z,w]∧f x=a∧f y=b∧f z=c∧f w=d:=by
 match ws with
 | [x,y,z,w]=>simp only [List.map_cons,List.map_nil,List.cons.injEq,and_true] at h;exact ⟨x,y,z,w,rfl,h.1,h.2.1,h.2.2.1,h.2.2.2⟩
 | []=>simp at h
 | [_]=>simp at h
 | [_,_]=>simp at h
 | [_,_,_]=>simp at h
 | _::_::_::_::_::_=>simp at h
theorem jwm {ub:Nat} {v:V} {a1 a2 b:Bool} {n1 n2:Nat} {c1 c2:List V} {k:IntKind} {e:Int} {K:Delta→Prop} (hv:jue [.sl none a1 n1 c1,.sl none a2 n2 c2,.bool b,.int k e] v)
 (h:∀ t1 t2 add,K { v:=.tup [.sl t1 a1 n1 c1,.sl t2 a2 n2 c2,.bool b,.int k e],add:=add }):wpD (Xh ub v) K:=by
 refine j0k hv rfl fun ws add hw=>?_
 obtain ⟨x,y,z,w,rfl,h1,h2,h3,h4⟩:=map4 hw
 obtain ⟨t1,rfl⟩:=jg2 h1
 obtain ⟨t2,rfl⟩:=jg2 h2
 obtain rfl:=jiw h3
 obtain rfl:=jlu h4
 exact h t1 t2 add
theorem jnz:Small H49:=⟨by decide,by decide,by decide,by decide,by decide,by decide⟩
theorem may49:Jr H49=true:=by decide +kernel
theorem hop49:(KnS.known H49).hop=false:=by decide +kernel
theorem m49:(jV H49).filter (fun t=>!(JC (KnS.known H49).m t == 0))=[0]:=by decide +kernel
theorem n49:(jV H49).filter (fun t=>!(JC (KnS.known H49).n t == 0))=[]:=by decide +kernel
theorem ag49:Xg H49 [false]=(true,0):=by decide +kernel
set_option maxRecDepth 100000 in
theorem ev49:Ev E 49 [] (.bool true):=by
 obtain ⟨v48,e48,hv48⟩:=ev48 jnz
 have e51:=ev51 jnz (nl:=false) [false] (by decide)
 unfold jgo at hv48
 rw [may49,hop49,m49,n49] at hv48
 simp only [if_true,Bool.false_eq_true,if_false] at hv48
 rw [ag49] at e51
 obtain ⟨a,b,hv48⟩:=hv48
 have e1:=ev26 (a:=a) (b:=false) [0] [0] (by decide) (by decide)
 have e67:Ev E 67 [.str jzx] _:=⟨100,k67u⟩
 refine jc (af:=F49) rfl ?_
 simp [F49]
 refine jf e67 rfl rfl rfl ?_
 simp [Xh,toksRes,V.toks,V.tok,ja1,ja0,Xy,Nat.blt,j6,jD]
 refine jf e48 (by simp [j7,H49,jl,strC,txnC,opC,V.strip,V.strip1]) rfl (by simp [j7]) ?_
 refine jwm hv48 fun t1 t2 add1=>?_
 simp [j6]
 refine jT (cs:=[.bool false]) (by simp [jD]) rfl rfl ?_
 simp
 refine jf e51 (by simp [j7,H49,jl,strC,txnC,opC,V.strip,V.strip1,blC]) rfl (by simp [j7,jl,blC]) ?_
 rw [JR rfl]
 simp
 refine jT (cs:=[.int .i64 0]) (by simp [jD]) rfl rfl ?_
 simp
 refine jf e1 (by simp [jl,intC]) rfl (by simp [jl,intC]) ?_
 simp
 exact jC rfl (by simp) rfl
end Go.Pv.T

/- UnitSound, but for its fixed example. -/
namespace Go.Pv.T
open Go Go.Pv
theorem j0d (h:Hist'):Small (jd5 h):=by
 have hs:=jny h
 unfold jd5
 split
 ·exact ⟨hs.ss,hs.sl,hs.ks,hs.kl,by simp,by simp⟩
 ·refine ⟨hs.ss,hs.sl,hs.ks,hs.kl,by simpa using hs.ts,fun t ht=>?_⟩
  simp only [List.mem_map] at ht
  obtain ⟨t',ht',rfl⟩:=ht
  have:=hs.os t' ht'
  simp only [jg7,List.length_take]
  omega
theorem j0j {ub:Nat} {r:V} {cs:List Bool} {lo:List Val'} {K:Delta→Prop} (h:WorR cs lo r) (hK:∀ a b add,K { v:=.agg [.sl a false cs.length (cs.flatMap blC),.sl b false lo.length (lo.flatMap J1)],add:=add }):wpD (Xh ub r) K:=by
 obtain ⟨a,b,rfl,hlt⟩:=h
 have e:∀ x y:V,toksRes (.agg [x,y])=x.tok++y.tok:=fun x y=>by simp [toksRes,V.toks]
 have hall:(toksRes (.agg [.sl a false cs.length (cs.flatMap blC),.sl b false lo.length (lo.flatMap J1)])).all (fun i=>Nat.blt i 64)=true:=by
  rw [e,List.all_eq_true]
  intro i hi
  rw [List.mem_append] at hi
  rcases hi with hi | hi
  ·cases a with
   | none=>simp [V.tok] at hi
   | some p =>
    simp [V.tok] at hi
    subst hi
    rw [Nat.blt_eq]
    exact hlt p (by simp)
  ·cases b with
   | none=>simp [V.tok] at hi
   | some p =>
    simp [V.tok] at hi
    subst hi
    rw [Nat.blt_eq]
    exact hlt p (by simp)
 simp only [Xh,hall,if_true,jX]
 cases a with
 | none=>cases b with
  | none=>exact hK none none _
  | some q=>exact hK none (some (ub+q.1,q.2)) _
 | some p=>cases b with
  | none=>exact hK (some (ub+p.1,p.2)) none _
  | some q=>exact hK (some (ub+p.1,p.2)) (some (ub+q.1,q.2)) _
set_option maxRecDepth 100000 in
theorem jyi (ev49:Ev E 49 [] (.bool true)) (h:Hist') {cn ln:Bool} {cs:List Bool} {lo:List Val'}:Ev E 13 [.agg (j7 h),.agg (JL cn cs ln lo)] (.bool true):=by
 obtain ⟨r,ev,hr⟩:=ev54 h
 obtain ⟨rw',evw,hrw⟩:=ev55 (cn:=cn) (ln:=ln) (cs:=cs) (lo:=lo)
 have hs:=j0d h
 generalize jd5 h=g at *
 have hC:(cs.take 50).length≤50:=by rw [List.length_take];omega
 have hL:(lo.take 50).length≤50:=by rw [List.length_take];omega
 generalize cs.take 50=C at *
 generalize lo.take 50=L at *
 have e56:=ev56 hs (cn:=false) (ln:=false) (cs:=C) (lo:=L) (by omega) (by omega)
 have e51:=ev51 hs (nl:=false) C (by omega)
 refine jc (af:=F13) rfl ?_
 simp [F13,j7,JL]
 refine jf ev49 (by simp) rfl (by simp) ?_
 simp [j6]
 refine Xt ev (by simp [j7]) rfl (by simp [j7]) ?_
 refine jn6 hr fun a1 b1 c1 add1=>?_
 simp [j6]
 refine Xt evw (by simp [JL]) rfl (by simp [JL]) ?_
 refine j0j hrw fun a2 b2 add2=>?_
 simp [j6,jD]
 refine jf e56 (by simp [j7,JL,jl]) rfl (by simp [j7,JL]) ?_
 cases hw:mayW g C L
 ·simp
  exact jC rfl (by simp) rfl
 have hok:=jm7 hw
 have hww:=hw
 unfold mayW at hww
 simp only [Bool.and_eq_true,decide_eq_true_eq] at hww
 obtain ⟨hm,_,_,hl⟩:=hww
 obtain ⟨v57,e57,h57⟩:=ev57 hs (cn:=false) (ln:=false) hw
 have hsr:=joc (cs:=C) (lo:=L) hs
 have hwr:=job (cs:=C) (lo:=L) hm hl
 have e40:=ev40 hsr hwr
 simp [j6]
 refine jf e51 (by simp [j7,jl]) rfl (by simp [j7]) ?_
 rw [hok,JR (by simp [V.plain])]
 simp [j6]
 refine jf e57 (by simp [j7,JL,jl]) rfl (by simp [j7,JL]) ?_
 have hag:=jbv (cs:=C) (lo:=L) hw
 have e58:=fun (hh:JA (rawH g C L)=true) (lv:Int)=>ev58 hsr hh lv 1099511627776 rfl
 generalize rawH g C L=G at *
 generalize QD (choW G) 1=cnt at *
 generalize (Xg g C).1=is at *
 refine jn6 h57 fun a3 b3 c3 add3=>?_
 simp [j6,jD]
 refine XJ fun st hst=>?_
 obtain ⟨u7,g7,p7⟩:∃ u,st.tm 7 = .ptr 14 u 0∧st.ob 14=some ⟨u,.cells [.sl a3 G.sn G.ss.length (G.ss.flatMap strC),.sl b3 G.kn G.ks.length (G.ks.flatMap strC),.sl c3 G.tn G.ts.length (G.ts.flatMap txnC)]⟩:=⟨_,by rw [hst];simp;rfl,by rw [hst];simp⟩
 have g5:st.tm 5 = .bool is:=by rw [hst];simp
 have g8:st.tm 8 = .int .i64 1:=by rw [hst];simp
 have gd:st.df=[]:=by rw [hst];simp
 have gr:st.ro=0:=by rw [hst];simp
 have gb:st.fb=0:=by rw [hst];simp
 clear hst
 refine jL [(4,4),(8,12),(35,55)] 3 (fun n s=>s.tm 8 = .int .i64 ((n+1:Nat):Int)∧s.ob 14=some ⟨u7,.cells [.sl a3 G.sn G.ss.length (G.ss.flatMap strC),.sl b3 G.kn G.ks.length (G.ks.flatMap strC),.sl c3 G.tn G.ts.length (G.ts.flatMap txnC)]⟩) rfl rfl ⟨by simp [g8],p7⟩ ?_
 rintro n s hn ⟨h8,o7⟩ f
 have f5:s.tm 5 = .bool is:=by rw [f.t 5 (by simp),g5]
 have f7:s.tm 7 = .ptr 14 u7 0:=by rw [f.t 7 (by simp),g7]
 have fd:s.df=[]:=by rw [f.d,gd]
 have fr:s.ro=0:=by rw [f.r,gr]
 have fb:s.fb=0:=by rw [f.b,gb]
 clear f
 obtain ⟨m,hmn⟩:∃ m:Int,((n+1:Nat):Int)=m:=⟨_,rfl⟩
 rw [hmn] at h8
 by_cases h3:m≤3
 ·cases is
  ·simp [h8,h3,f5]
   exact jC (by simp [fd]) (by simp) rfl
  ·have hh:=hag rfl
   have e58':=e58 hh m
   simp [h8,h3,f5,f7,o7,j6]
   refine jf e40 (by simp [j7,jl]) rfl (by simp [j7]) ?_
   simp
   by_cases hc:cnt≤100
   ·simp [hc,j6,f7,o7,h8]
    refine jf e58' (by simp [j7,jl]) rfl (by simp [j7]) ?_
    rw [JR (by simp [V.plain])]
    simp [j6,jD,fb,fr,h8]
    exact ⟨by omega,by rw [J4 (by omega) (by omega)];omega,o7⟩
   ·simp [hc]
    exact jC (by simp [fd]) (by simp) rfl
 ·simp [h8,h3]
  exact jC (by simp [fd]) (by simp) rfl
theorem ev13 (h:Hist') (cn ln:Bool) (cs:List Bool) (lo:List Val'):Ev E 13 [.agg (j7 h),.agg (JL cn cs ln lo)] (.bool true):=jyi ev49 h
end Go.Pv.T

/- The environment is what the program's code says. -/
namespace Go.Pv.T
open Go Go.Pv Go.Proofs

theorem jA {P:Program} {m r:Bool} {f:FuncId} {fn:Func} {af:AF} (h1:P.funcs[f]? = some fn) (h2:j5o P m r fn=some af) (h3:(fn.name == "runtime.NumGoroutine")=false) (h4:af.body.dstOk fn.ntmps=true):jj P r f af:=by
  unfold j5o at h2
  cases hb:fn.body with
  | none=>rw [hb] at h2;cases h2
  | some c =>
    rw [hb,Option.bind_some] at h2
    cases hc:comp P m r c with
    | none=>rw [hc] at h2;cases h2
    | some b =>
      rw [hc,Option.bind_some] at h2
      cases hr:fn.results.toList.mapM (YM P) with
      | none=>rw [hr] at h2;cases h2
      | some res =>
        rw [hr] at h2
        cases h2
        exact ⟨m,fn,c,h1,hb,hc,hr,h3,h4⟩

theorem okc13:jj Tryz.prog false 13 F13:=jA (m:=false) Tryz.func13 (by kernel_rfl) (by kernel_rfl) (by kernel_rfl)
theorem okc26:jj Tryz.prog false 26 F26:=jA (m:=false) Tryz.func26 (by kernel_rfl) (by kernel_rfl) (by kernel_rfl)
theorem okc27:jj Tryz.prog false 27 F27:=jA (m:=true) Tryz.func27 (by kernel_rfl) (by kernel_rfl) (by kernel_rfl)
theorem okc28:jj Tryz.prog false 28 F28:=jA (m:=false) Tryz.func28 (by kernel_rfl) (by kernel_rfl) (by kernel_rfl)
theorem okc32:jj Tryz.prog false 32 F32:=jA (m:=true) Tryz.func32 (by kernel_rfl) (by kernel_rfl) (by kernel_rfl)
theorem okc40:jj Tryz.prog false 40 F40:=jA (m:=false) Tryz.func40 (by kernel_rfl) (by kernel_rfl) (by kernel_rfl)
theorem okc45:jj Tryz.prog false 45 F45:=jA (m:=false) Tryz.func45 (by kernel_rfl) (by kernel_rfl) (by kernel_rfl)
theorem okc47:jj Tryz.prog false 47 F47:=jA (m:=false) Tryz.func47 (by kernel_rfl) (by kernel_rfl) (by kernel_rfl)
theorem okc48:jj Tryz.prog false 48 F48:=jA (m:=false) Tryz.func48 (by kernel_rfl) (by kernel_rfl) (by kernel_rfl)
theorem okc49:jj Tryz.prog false 49 F49:=jA (m:=false) Tryz.func49 (by kernel_rfl) (by kernel_rfl) (by kernel_rfl)
theorem okc51:jj Tryz.prog false 51 F51:=jA (m:=false) Tryz.func51 (by kernel_rfl) (by kernel_rfl) (by kernel_rfl)
theorem okc52:jj Tryz.prog false 52 F52:=jA (m:=false) Tryz.func52 (by kernel_rfl) (by kernel_rfl) (by kernel_rfl)
theorem okc54:jj Tryz.prog false 54 F54:=jA (m:=true) Tryz.func54 (by kernel_rfl) (by kernel_rfl) (by kernel_rfl)
theorem okc55:jj Tryz.prog false 55 F55:=jA (m:=false) Tryz.func55 (by kernel_rfl) (by kernel_rfl) (by kernel_rfl)
theorem okc56:jj Tryz.prog false 56 F56:=jA (m:=false) Tryz.func56 (by kernel_rfl) (by kernel_rfl) (by kernel_rfl)
theorem okc57:jj Tryz.prog false 57 F57:=jA (m:=true) Tryz.func57 (by kernel_rfl) (by kernel_rfl) (by kernel_rfl)
theorem okc58:jj Tryz.prog false 58 F58:=jA (m:=false) Tryz.func58 (by kernel_rfl) (by kernel_rfl) (by kernel_rfl)
theorem okc61:jj Tryz.prog false 61 F61:=jA (m:=false) Tryz.func61 (by kernel_rfl) (by kernel_rfl) (by kernel_rfl)
theorem okc66:jj Tryz.prog false 66 F66:=jA (m:=false) Tryz.func66 (by kernel_rfl) (by kernel_rfl) (by kernel_rfl)
theorem okc67:jj Tryz.prog false 67 F67:=jA (m:=false) Tryz.func67 (by kernel_rfl) (by kernel_rfl) (by kernel_rfl)
theorem okc70:jj Tryz.prog false 70 F70:=jA (m:=false) Tryz.func70 (by kernel_rfl) (by kernel_rfl) (by kernel_rfl)
theorem okc72:jj Tryz.prog false 72 F72:=jA (m:=false) Tryz.func72 (by kernel_rfl) (by kernel_rfl) (by kernel_rfl)
theorem okc74:jj Tryz.prog false 74 F74:=jA (m:=false) Tryz.func74 (by kernel_rfl) (by kernel_rfl) (by kernel_rfl)
theorem okc77:jj Tryz.prog false 77 F77:=jA (m:=false) Tryz.func77 (by kernel_rfl) (by kernel_rfl) (by kernel_rfl)
theorem okc78:jj Tryz.prog false 78 F78:=jA (m:=false) Tryz.func78 (by kernel_rfl) (by kernel_rfl) (by kernel_rfl)
theorem okc81:jj Tryz.prog false 81 F81:=jA (m:=false) Tryz.func81 (by kernel_rfl) (by kernel_rfl) (by kernel_rfl)
theorem okc89:jj Tryz.prog false 89 F89:=jA (m:=false) Tryz.func89 (by kernel_rfl) (by kernel_rfl) (by kernel_rfl)
theorem okc90:jj Tryz.prog false 90 F90:=jA (m:=false) Tryz.func90 (by kernel_rfl) (by kernel_rfl) (by kernel_rfl)
theorem okc94:jj Tryz.prog false 94 F94:=jA (m:=false) Tryz.func94 (by kernel_rfl) (by kernel_rfl) (by kernel_rfl)
theorem okc95:jj Tryz.prog false 95 F95:=jA (m:=false) Tryz.func95 (by kernel_rfl) (by kernel_rfl) (by kernel_rfl)
theorem j34:jj Tryz.prog false 100 F100:=jA (m:=false) Tryz.func100 (by kernel_rfl) (by kernel_rfl) (by kernel_rfl)
theorem j33:jj Tryz.prog false 101 F101:=jA (m:=false) Tryz.func101 (by kernel_rfl) (by kernel_rfl) (by kernel_rfl)
theorem j32:jj Tryz.prog false 104 F104:=jA (m:=false) Tryz.func104 (by kernel_rfl) (by kernel_rfl) (by kernel_rfl)
theorem j31:jj Tryz.prog false 105 F105:=jA (m:=true) Tryz.func105 (by kernel_rfl) (by kernel_rfl) (by kernel_rfl)
theorem j30:jj Tryz.prog false 107 F107:=jA (m:=false) Tryz.func107 (by kernel_rfl) (by kernel_rfl) (by kernel_rfl)
theorem j3z:jj Tryz.prog false 110 F110:=jA (m:=false) Tryz.func110 (by kernel_rfl) (by kernel_rfl) (by kernel_rfl)
theorem j3y:jj Tryz.prog false 111 F111:=jA (m:=false) Tryz.func111 (by kernel_rfl) (by kernel_rfl) (by kernel_rfl)
theorem j3x:jj Tryz.prog false 112 F112:=jA (m:=false) Tryz.func112 (by kernel_rfl) (by kernel_rfl) (by kernel_rfl)
theorem j3w:jj Tryz.prog false 116 F116:=jA (m:=false) Tryz.func116 (by kernel_rfl) (by kernel_rfl) (by kernel_rfl)
theorem j3v:jj Tryz.prog false 118 F118:=jA (m:=false) Tryz.func118 (by kernel_rfl) (by kernel_rfl) (by kernel_rfl)
theorem j3u:jj Tryz.prog false 119 F119:=jA (m:=false) Tryz.func119 (by kernel_rfl) (by kernel_rfl) (by kernel_rfl)
theorem j3t:jj Tryz.prog false 124 F124:=jA (m:=false) Tryz.func124 (by kernel_rfl) (by kernel_rfl) (by kernel_rfl)
theorem j3s:jj Tryz.prog false 126 F126:=jA (m:=false) Tryz.func126 (by kernel_rfl) (by kernel_rfl) (by kernel_rfl)
theorem j3r:jj Tryz.prog false 127 F127:=jA (m:=false) Tryz.func127 (by kernel_rfl) (by kernel_rfl) (by kernel_rfl)
theorem j3q:jj Tryz.prog false 129 F129:=jA (m:=false) Tryz.func129 (by kernel_rfl) (by kernel_rfl) (by kernel_rfl)
theorem j3p:jj Tryz.prog false 130 F130:=jA (m:=false) Tryz.func130 (by kernel_rfl) (by kernel_rfl) (by kernel_rfl)
theorem j3o:jj Tryz.prog false 131 F131:=jA (m:=false) Tryz.func131 (by kernel_rfl) (by kernel_rfl) (by kernel_rfl)
theorem j3n:jj Tryz.prog false 132 F132:=jA (m:=false) Tryz.func132 (by kernel_rfl) (by kernel_rfl) (by kernel_rfl)
theorem j3m:jj Tryz.prog false 137 F137:=jA (m:=false) Tryz.func137 (by kernel_rfl) (by kernel_rfl) (by kernel_rfl)
theorem j3l:jj Tryz.prog false 138 F138:=jA (m:=false) Tryz.func138 (by kernel_rfl) (by kernel_rfl) (by kernel_rfl)
theorem j3k:jj Tryz.prog false 147 F147:=jA (m:=false) Tryz.func147 (by kernel_rfl) (by kernel_rfl) (by kernel_rfl)
theorem j3j:jj Tryz.prog false 148 F148:=jA (m:=false) Tryz.func148 (by kernel_rfl) (by kernel_rfl) (by kernel_rfl)
theorem j3i:jj Tryz.prog false 151 F151:=jA (m:=false) Tryz.func151 (by kernel_rfl) (by kernel_rfl) (by kernel_rfl)
theorem j3h:jj Tryz.prog false 153 F153:=jA (m:=false) Tryz.func153 (by kernel_rfl) (by kernel_rfl) (by kernel_rfl)
theorem j3g:jj Tryz.prog false 155 F155:=jA (m:=false) Tryz.func155 (by kernel_rfl) (by kernel_rfl) (by kernel_rfl)
theorem j3f:jj Tryz.prog false 163 F163:=jA (m:=false) Tryz.func163 (by kernel_rfl) (by kernel_rfl) (by kernel_rfl)
theorem j3e:jj Tryz.prog false 166 F166:=jA (m:=false) Tryz.func166 (by kernel_rfl) (by kernel_rfl) (by kernel_rfl)
theorem j3d:jj Tryz.prog false 167 F167:=jA (m:=false) Tryz.func167 (by kernel_rfl) (by kernel_rfl) (by kernel_rfl)
theorem j3c:jj Tryz.prog false 168 F168:=jA (m:=false) Tryz.func168 (by kernel_rfl) (by kernel_rfl) (by kernel_rfl)
theorem j3b:jj Tryz.prog false 169 F169:=jA (m:=false) Tryz.func169 (by kernel_rfl) (by kernel_rfl) (by kernel_rfl)
theorem j3a:jj Tryz.prog false 172 F172:=jA (m:=false) Tryz.func172 (by kernel_rfl) (by kernel_rfl) (by kernel_rfl)
theorem j29:jj Tryz.prog false 173 F173:=jA (m:=false) Tryz.func173 (by kernel_rfl) (by kernel_rfl) (by kernel_rfl)
theorem j28:jj Tryz.prog false 174 F174:=jA (m:=false) Tryz.func174 (by kernel_rfl) (by kernel_rfl) (by kernel_rfl)
theorem j27:jj Tryz.prog false 176 F176:=jA (m:=false) Tryz.func176 (by kernel_rfl) (by kernel_rfl) (by kernel_rfl)
theorem j26:jj Tryz.prog false 188 F188:=jA (m:=false) Tryz.func188 (by kernel_rfl) (by kernel_rfl) (by kernel_rfl)
theorem j25:jj Tryz.prog false 189 F189:=jA (m:=false) Tryz.func189 (by kernel_rfl) (by kernel_rfl) (by kernel_rfl)
theorem j24:jj Tryz.prog false 190 F190:=jA (m:=false) Tryz.func190 (by kernel_rfl) (by kernel_rfl) (by kernel_rfl)
theorem j23:jj Tryz.prog false 191 F191:=jA (m:=false) Tryz.func191 (by kernel_rfl) (by kernel_rfl) (by kernel_rfl)
theorem j22:jj Tryz.prog false 192 F192:=jA (m:=false) Tryz.func192 (by kernel_rfl) (by kernel_rfl) (by kernel_rfl)
theorem j21:jj Tryz.prog false 193 F193:=jA (m:=false) Tryz.func193 (by kernel_rfl) (by kernel_rfl) (by kernel_rfl)
theorem j20:jj Tryz.prog false 194 F194:=jA (m:=false) Tryz.func194 (by kernel_rfl) (by kernel_rfl) (by kernel_rfl)
theorem j2z:jj Tryz.prog false 195 F195:=jA (m:=false) Tryz.func195 (by kernel_rfl) (by kernel_rfl) (by kernel_rfl)
theorem j2y:jj Tryz.prog false 198 F198:=jA (m:=false) Tryz.func198 (by kernel_rfl) (by kernel_rfl) (by kernel_rfl)
theorem j2x:jj Tryz.prog false 199 F199:=jA (m:=false) Tryz.func199 (by kernel_rfl) (by kernel_rfl) (by kernel_rfl)
theorem j2w:jj Tryz.prog false 201 F201:=jA (m:=false) Tryz.func201 (by kernel_rfl) (by kernel_rfl) (by kernel_rfl)
theorem j2v:jj Tryz.prog false 205 F205:=jA (m:=false) Tryz.func205 (by kernel_rfl) (by kernel_rfl) (by kernel_rfl)
theorem j2u:jj Tryz.prog false 216 F216:=jA (m:=false) Tryz.func216 (by kernel_rfl) (by kernel_rfl) (by kernel_rfl)
theorem j2t:jj Tryz.prog false 224 F224:=jA (m:=false) Tryz.func224 (by kernel_rfl) (by kernel_rfl) (by kernel_rfl)
theorem j2s:jj Tryz.prog false 225 F225:=jA (m:=false) Tryz.func225 (by kernel_rfl) (by kernel_rfl) (by kernel_rfl)
theorem j2r:jj Tryz.prog false 227 F227:=jA (m:=false) Tryz.func227 (by kernel_rfl) (by kernel_rfl) (by kernel_rfl)
theorem j2q:jj Tryz.prog false 228 F228:=jA (m:=false) Tryz.func228 (by kernel_rfl) (by kernel_rfl) (by kernel_rfl)
theorem j2p:jj Tryz.prog false 229 F229:=jA (m:=false) Tryz.func229 (by kernel_rfl) (by kernel_rfl) (by kernel_rfl)
theorem j2o:jj Tryz.prog false 230 F230:=jA (m:=false) Tryz.func230 (by kernel_rfl) (by kernel_rfl) (by kernel_rfl)
theorem j2n:jj Tryz.prog false 231 F231:=jA (m:=false) Tryz.func231 (by kernel_rfl) (by kernel_rfl) (by kernel_rfl)
theorem j2m:jj Tryz.prog false 232 F232:=jA (m:=false) Tryz.func232 (by kernel_rfl) (by kernel_rfl) (by kernel_rfl)
theorem j2l:jj Tryz.prog false 233 F233:=jA (m:=false) Tryz.func233 (by kernel_rfl) (by kernel_rfl) (by kernel_rfl)
theorem j2k:jj Tryz.prog false 234 F234:=jA (m:=false) Tryz.func234 (by kernel_rfl) (by kernel_rfl) (by kernel_rfl)
theorem j2j:jj Tryz.prog false 235 F235:=jA (m:=false) Tryz.func235 (by kernel_rfl) (by kernel_rfl) (by kernel_rfl)
theorem j2i:jj Tryz.prog false 239 F239:=jA (m:=false) Tryz.func239 (by kernel_rfl) (by kernel_rfl) (by kernel_rfl)
theorem j2h:jj Tryz.prog false 247 F247:=jA (m:=false) Tryz.func247 (by kernel_rfl) (by kernel_rfl) (by kernel_rfl)
theorem j2g:jj Tryz.prog false 248 F248:=jA (m:=false) Tryz.func248 (by kernel_rfl) (by kernel_rfl) (by kernel_rfl)
theorem j2f:jj Tryz.prog false 249 F249:=jA (m:=false) Tryz.func249 (by kernel_rfl) (by kernel_rfl) (by kernel_rfl)
theorem j2e:jj Tryz.prog false 250 F250:=jA (m:=false) Tryz.func250 (by kernel_rfl) (by kernel_rfl) (by kernel_rfl)
theorem j2d:jj Tryz.prog false 251 F251:=jA (m:=false) Tryz.func251 (by kernel_rfl) (by kernel_rfl) (by kernel_rfl)
theorem j2c:jj Tryz.prog false 252 F252:=jA (m:=false) Tryz.func252 (by kernel_rfl) (by kernel_rfl) (by kernel_rfl)
theorem j2b:jj Tryz.prog false 253 F253:=jA (m:=false) Tryz.func253 (by kernel_rfl) (by kernel_rfl) (by kernel_rfl)
theorem j2a:jj Tryz.prog false 256 F256:=jA (m:=false) Tryz.func256 (by kernel_rfl) (by kernel_rfl) (by kernel_rfl)
theorem j19:jj Tryz.prog false 261 F261:=jA (m:=false) Tryz.func261 (by kernel_rfl) (by kernel_rfl) (by kernel_rfl)
theorem j18:jj Tryz.prog false 262 F262:=jA (m:=false) Tryz.func262 (by kernel_rfl) (by kernel_rfl) (by kernel_rfl)
theorem j17:jj Tryz.prog false 263 F263:=jA (m:=false) Tryz.func263 (by kernel_rfl) (by kernel_rfl) (by kernel_rfl)
theorem j16:jj Tryz.prog false 265 F265:=jA (m:=false) Tryz.func265 (by kernel_rfl) (by kernel_rfl) (by kernel_rfl)
theorem j15:jj Tryz.prog false 267 F267:=jA (m:=false) Tryz.func267 (by kernel_rfl) (by kernel_rfl) (by kernel_rfl)
theorem j14:jj Tryz.prog false 271 F271:=jA (m:=false) Tryz.func271 (by kernel_rfl) (by kernel_rfl) (by kernel_rfl)
theorem j13:jj Tryz.prog false 280 F280:=jA (m:=false) Tryz.func280 (by kernel_rfl) (by kernel_rfl) (by kernel_rfl)
theorem oks14:jj Tryz.prog true 14 S14:=jA (m:=true) Tryz.func14 (by kernel_rfl) (by kernel_rfl) (by kernel_rfl)
theorem oks75:jj Tryz.prog true 75 S75:=jA (m:=true) Tryz.func75 (by kernel_rfl) (by kernel_rfl) (by kernel_rfl)
theorem oks76:jj Tryz.prog true 76 S76:=jA (m:=true) Tryz.func76 (by kernel_rfl) (by kernel_rfl) (by kernel_rfl)
theorem oks82:jj Tryz.prog true 82 S82:=jA (m:=true) Tryz.func82 (by kernel_rfl) (by kernel_rfl) (by kernel_rfl)
theorem oks91:jj Tryz.prog true 91 S91:=jA (m:=true) Tryz.func91 (by kernel_rfl) (by kernel_rfl) (by kernel_rfl)
theorem oks92:jj Tryz.prog true 92 S92:=jA (m:=true) Tryz.func92 (by kernel_rfl) (by kernel_rfl) (by kernel_rfl)
theorem j12:jj Tryz.prog true 102 S102:=jA (m:=true) Tryz.func102 (by kernel_rfl) (by kernel_rfl) (by kernel_rfl)
theorem j11:jj Tryz.prog true 106 S106:=jA (m:=true) Tryz.func106 (by kernel_rfl) (by kernel_rfl) (by kernel_rfl)
theorem j10:jj Tryz.prog true 108 S108:=jA (m:=true) Tryz.func108 (by kernel_rfl) (by kernel_rfl) (by kernel_rfl)
theorem j1z:jj Tryz.prog true 109 S109:=jA (m:=true) Tryz.func109 (by kernel_rfl) (by kernel_rfl) (by kernel_rfl)
theorem j1y:jj Tryz.prog true 113 S113:=jA (m:=true) Tryz.func113 (by kernel_rfl) (by kernel_rfl) (by kernel_rfl)
theorem j1x:jj Tryz.prog true 114 S114:=jA (m:=true) Tryz.func114 (by kernel_rfl) (by kernel_rfl) (by kernel_rfl)
theorem j1w:jj Tryz.prog true 115 S115:=jA (m:=true) Tryz.func115 (by kernel_rfl) (by kernel_rfl) (by kernel_rfl)
theorem j1v:jj Tryz.prog true 117 S117:=jA (m:=true) Tryz.func117 (by kernel_rfl) (by kernel_rfl) (by kernel_rfl)
theorem j1u:jj Tryz.prog true 133 S133:=jA (m:=true) Tryz.func133 (by kernel_rfl) (by kernel_rfl) (by kernel_rfl)
theorem j1t:jj Tryz.prog true 134 S134:=jA (m:=true) Tryz.func134 (by kernel_rfl) (by kernel_rfl) (by kernel_rfl)
theorem j1s:jj Tryz.prog true 135 S135:=jA (m:=true) Tryz.func135 (by kernel_rfl) (by kernel_rfl) (by kernel_rfl)
theorem j1r:jj Tryz.prog true 146 S146:=jA (m:=true) Tryz.func146 (by kernel_rfl) (by kernel_rfl) (by kernel_rfl)
theorem j1q:jj Tryz.prog true 149 S149:=jA (m:=true) Tryz.func149 (by kernel_rfl) (by kernel_rfl) (by kernel_rfl)
theorem j1p:jj Tryz.prog true 150 S150:=jA (m:=true) Tryz.func150 (by kernel_rfl) (by kernel_rfl) (by kernel_rfl)
theorem j1o:jj Tryz.prog true 152 S152:=jA (m:=true) Tryz.func152 (by kernel_rfl) (by kernel_rfl) (by kernel_rfl)
theorem j1n:jj Tryz.prog true 154 S154:=jA (m:=true) Tryz.func154 (by kernel_rfl) (by kernel_rfl) (by kernel_rfl)
theorem j1m:jj Tryz.prog true 156 S156:=jA (m:=true) Tryz.func156 (by kernel_rfl) (by kernel_rfl) (by kernel_rfl)
theorem j1l:jj Tryz.prog true 157 S157:=jA (m:=true) Tryz.func157 (by kernel_rfl) (by kernel_rfl) (by kernel_rfl)
theorem j1k:jj Tryz.prog true 158 S158:=jA (m:=true) Tryz.func158 (by kernel_rfl) (by kernel_rfl) (by kernel_rfl)
theorem j1j:jj Tryz.prog true 159 S159:=jA (m:=true) Tryz.func159 (by kernel_rfl) (by kernel_rfl) (by kernel_rfl)
theorem j1i:jj Tryz.prog true 160 S160:=jA (m:=true) Tryz.func160 (by kernel_rfl) (by kernel_rfl) (by kernel_rfl)
theorem j1h:jj Tryz.prog true 161 S161:=jA (m:=true) Tryz.func161 (by kernel_rfl) (by kernel_rfl) (by kernel_rfl)
theorem j1g:jj Tryz.prog true 162 S162:=jA (m:=true) Tryz.func162 (by kernel_rfl) (by kernel_rfl) (by kernel_rfl)
theorem j1f:jj Tryz.prog true 164 S164:=jA (m:=true) Tryz.func164 (by kernel_rfl) (by kernel_rfl) (by kernel_rfl)
theorem j1e:jj Tryz.prog true 165 S165:=jA (m:=true) Tryz.func165 (by kernel_rfl) (by kernel_rfl) (by kernel_rfl)
theorem j1d:jj Tryz.prog true 175 S175:=jA (m:=true) Tryz.func175 (by kernel_rfl) (by kernel_rfl) (by kernel_rfl)
theorem j1c:jj Tryz.prog true 177 S177:=jA (m:=true) Tryz.func177 (by kernel_rfl) (by kernel_rfl) (by kernel_rfl)
theorem j1b:jj Tryz.prog true 178 S178:=jA (m:=true) Tryz.func178 (by kernel_rfl) (by kernel_rfl) (by kernel_rfl)
theorem j1a:jj Tryz.prog true 179 S179:=jA (m:=true) Tryz.func179 (by kernel_rfl) (by kernel_rfl) (by kernel_rfl)
theorem j09:jj Tryz.prog true 196 S196:=jA (m:=true) Tryz.func196 (by kernel_rfl) (by kernel_rfl) (by kernel_rfl)
theorem j08:jj Tryz.prog true 197 S197:=jA (m:=true) Tryz.func197 (by kernel_rfl) (by kernel_rfl) (by kernel_rfl)
theorem j07:jj Tryz.prog true 200 S200:=jA (m:=true) Tryz.func200 (by kernel_rfl) (by kernel_rfl) (by kernel_rfl)
theorem j06:jj Tryz.prog true 202 S202:=jA (m:=true) Tryz.func202 (by kernel_rfl) (by kernel_rfl) (by kernel_rfl)
theorem j05:jj Tryz.prog true 204 S204:=jA (m:=true) Tryz.func204 (by kernel_rfl) (by kernel_rfl) (by kernel_rfl)
theorem j04:jj Tryz.prog true 217 S217:=jA (m:=true) Tryz.func217 (by kernel_rfl) (by kernel_rfl) (by kernel_rfl)
theorem j03:jj Tryz.prog true 218 S218:=jA (m:=true) Tryz.func218 (by kernel_rfl) (by kernel_rfl) (by kernel_rfl)
theorem j02:jj Tryz.prog true 236 S236:=jA (m:=true) Tryz.func236 (by kernel_rfl) (by kernel_rfl) (by kernel_rfl)
theorem j01:jj Tryz.prog true 237 S237:=jA (m:=true) Tryz.func237 (by kernel_rfl) (by kernel_rfl) (by kernel_rfl)
theorem j00:jj Tryz.prog true 238 S238:=jA (m:=true) Tryz.func238 (by kernel_rfl) (by kernel_rfl) (by kernel_rfl)
theorem j0z:jj Tryz.prog true 240 S240:=jA (m:=true) Tryz.func240 (by kernel_rfl) (by kernel_rfl) (by kernel_rfl)
theorem j0y:jj Tryz.prog true 254 S254:=jA (m:=true) Tryz.func254 (by kernel_rfl) (by kernel_rfl) (by kernel_rfl)
theorem j0x:jj Tryz.prog true 255 S255:=jA (m:=true) Tryz.func255 (by kernel_rfl) (by kernel_rfl) (by kernel_rfl)
theorem j0w:jj Tryz.prog true 264 S264:=jA (m:=true) Tryz.func264 (by kernel_rfl) (by kernel_rfl) (by kernel_rfl)
theorem j0v:jj Tryz.prog true 272 S272:=jA (m:=true) Tryz.func272 (by kernel_rfl) (by kernel_rfl) (by kernel_rfl)
set_option maxRecDepth 100000 in
theorem j4w {f:FuncId} {af:AF} (h:fc_2 f=some af):jj Tryz.prog false f af:=by
  unfold fc_2 at h
  split at h
  · cases h;exact j16
  · cases h;exact j15
  · cases h;exact j14
  · cases h;exact j13
  · cases h
set_option maxRecDepth 100000 in
theorem j4x {f:FuncId} {af:AF} (h:fc_1 f=some af):jj Tryz.prog false f af:=by
  unfold fc_1 at h
  split at h
  · cases h;exact j3k
  · cases h;exact j3j
  · cases h;exact j3i
  · cases h;exact j3h
  · cases h;exact j3g
  · cases h;exact j3f
  · cases h;exact j3e
  · cases h;exact j3d
  · cases h;exact j3c
  · cases h;exact j3b
  · cases h;exact j3a
  · cases h;exact j29
  · cases h;exact j28
  · cases h;exact j27
  · cases h;exact j26
  · cases h;exact j25
  · cases h;exact j24
  · cases h;exact j23
  · cases h;exact j22
  · cases h;exact j21
  · cases h;exact j20
  · cases h;exact j2z
  · cases h;exact j2y
  · cases h;exact j2x
  · cases h;exact j2w
  · cases h;exact j2v
  · cases h;exact j2u
  · cases h;exact j2t
  · cases h;exact j2s
  · cases h;exact j2r
  · cases h;exact j2q
  · cases h;exact j2p
  · cases h;exact j2o
  · cases h;exact j2n
  · cases h;exact j2m
  · cases h;exact j2l
  · cases h;exact j2k
  · cases h;exact j2j
  · cases h;exact j2i
  · cases h;exact j2h
  · cases h;exact j2g
  · cases h;exact j2f
  · cases h;exact j2e
  · cases h;exact j2d
  · cases h;exact j2c
  · cases h;exact j2b
  · cases h;exact j2a
  · cases h;exact j19
  · cases h;exact j18
  · cases h;exact j17
  · exact j4w h
set_option maxRecDepth 100000 in
theorem j4y {f:FuncId} {af:AF} (h:fc f=some af):jj Tryz.prog false f af:=by
  unfold fc at h
  split at h
  · cases h;exact okc13
  · cases h;exact okc26
  · cases h;exact okc27
  · cases h;exact okc28
  · cases h;exact okc32
  · cases h;exact okc40
  · cases h;exact okc45
  · cases h;exact okc47
  · cases h;exact okc48
  · cases h;exact okc49
  · cases h;exact okc51
  · cases h;exact okc52
  · cases h;exact okc54
  · cases h;exact okc55
  · cases h;exact okc56
  · cases h;exact okc57
  · cases h;exact okc58
  · cases h;exact okc61
  · cases h;exact okc66
  · cases h;exact okc67
  · cases h;exact okc70
  · cases h;exact okc72
  · cases h;exact okc74
  · cases h;exact okc77
  · cases h;exact okc78
  · cases h;exact okc81
  · cases h;exact okc89
  · cases h;exact okc90
  · cases h;exact okc94
  · cases h;exact okc95
  · cases h;exact j34
  · cases h;exact j33
  · cases h;exact j32
  · cases h;exact j31
  · cases h;exact j30
  · cases h;exact j3z
  · cases h;exact j3y
  · cases h;exact j3x
  · cases h;exact j3w
  · cases h;exact j3v
  · cases h;exact j3u
  · cases h;exact j3t
  · cases h;exact j3s
  · cases h;exact j3r
  · cases h;exact j3q
  · cases h;exact j3p
  · cases h;exact j3o
  · cases h;exact j3n
  · cases h;exact j3m
  · cases h;exact j3l
  · exact j4x h
set_option maxRecDepth 100000 in
theorem j4t {f:FuncId} {af:AF} (h:fs f=some af):jj Tryz.prog true f af:=by
  unfold fs at h
  split at h
  · cases h;exact oks14
  · cases h;exact oks75
  · cases h;exact oks76
  · cases h;exact oks82
  · cases h;exact oks91
  · cases h;exact oks92
  · cases h;exact j12
  · cases h;exact j11
  · cases h;exact j10
  · cases h;exact j1z
  · cases h;exact j1y
  · cases h;exact j1x
  · cases h;exact j1w
  · cases h;exact j1v
  · cases h;exact j1u
  · cases h;exact j1t
  · cases h;exact j1s
  · cases h;exact j1r
  · cases h;exact j1q
  · cases h;exact j1p
  · cases h;exact j1o
  · cases h;exact j1n
  · cases h;exact j1m
  · cases h;exact j1l
  · cases h;exact j1k
  · cases h;exact j1j
  · cases h;exact j1i
  · cases h;exact j1h
  · cases h;exact j1g
  · cases h;exact j1f
  · cases h;exact j1e
  · cases h;exact j1d
  · cases h;exact j1c
  · cases h;exact j1b
  · cases h;exact j1a
  · cases h;exact j09
  · cases h;exact j08
  · cases h;exact j07
  · cases h;exact j06
  · cases h;exact j05
  · cases h;exact j04
  · cases h;exact j03
  · cases h;exact j02
  · cases h;exact j01
  · cases h;exact j00
  · cases h;exact j0z
  · cases h;exact j0y
  · cases h;exact j0x
  · cases h;exact j0w
  · cases h;exact j0v
  · cases h
theorem envOk:EnvOk Tryz.prog E:=⟨fun _ _ h=>j4y h,fun _ _ h=>j4t h⟩
end Go.Pv.T

/- The row's side, the same for every law of the seat. -/
namespace Go.Pv.T
open Go Go.Pv Go.Proofs Go.ChangeShapes Go.WideShapes Go.ChangeAt Go.RowKit Go.Proofs.YtopjfnbonjmnjaaGreatDoor

theorem own:ownKnob Tryz.prog.godebug=none:=by kernel_rfl
theorem jpq:laidOutB Tryz.prog=true:=by kernel_rfl
theorem mixed:Tryz.prog.follows .mixedOrders=true:=by kernel_rfl

def jmo:List (String × DataW Unit):=[("unicode/utf8.acceptRanges",Rows.laid_unicode_utf8_acceptRanges),("deemster/event.words",Rows.laid_deemster_event_words),("unicode/utf8.first",Rows.laid_unicode_utf8_first)]

def ju3:V→Value
  | .int k n=>.int k n
  | .str s=>.string ⟨s.toArray⟩
  | _=>.nilFunc
def jfq      (h:Array Obj) (g:Nat) (cs:Array Value):Array Obj:=h.modify g fun
    | .cells _ t frozen=>.cells cs t frozen
    | o=>o
def jj5:Array Value:=#[.int .u8 128,.int .u8 191,.int .u8 160,.int .u8 191,.int .u8 128,.int .u8 159,.int .u8 144,.int .u8 191,.int .u8 128,.int .u8 143,.int .u8 0,.int .u8 0,.int .u8 0,.int .u8 0,.int .u8 0,.int .u8 0,.int .u8 0,.int .u8 0,.int .u8 0,.int .u8 0,.int .u8 0,.int .u8 0,.int .u8 0,.int .u8 0,.int .u8 0,.int .u8 0,.int .u8 0,.int .u8 0,.int .u8 0,.int .u8 0,.int .u8 0,.int .u8 0]
noncomputable def laidWorld (os:Os):World :=
  let w0:=World.holding Tryz.prog os ⟨#[],#[],[]⟩
  { w0 with heap:=jfq (jfq (jfq w0.heap 0 (words.map ju3).toArray) 1 (utf8first.map ju3).toArray) 2 jj5 }
set_option maxRecDepth 100000 in
theorem jt6 (os:Os) (args:Array Value):laidMetH Tryz.prog jmo ((laidWorld os).forCall (fun _ _=>0) ⟨#[],args,[]⟩).memory:=by
  rw [MakeChecks.laidMetH_plain _ _ _ (by kernel_rfl)]
  exact laidMet_of_run' 8 (by kernel_rfl) (by kernel_rfl)

theorem gWords:Tryz.prog.globalNamed "deemster/event.words" = some 0:=by kernel_rfl
theorem gFirst:Tryz.prog.globalNamed "unicode/utf8.first" = some 1:=by kernel_rfl
theorem tWords:(Tryz.prog.globals[0]?).map (·.type)=some 274:=by kernel_rfl
theorem tFirst:(Tryz.prog.globals[1]?).map (·.type)=some 286:=by kernel_rfl

def YO (W:World):IMap:=fun b o=>W.cell? ⟨b,o,none⟩
theorem jqp (W:World):jim (YO W) W:=fun _ _ _ h=>h

def jky:DataW Unit→V
  | .lit (.int k n)=>.int k n
  | .lit (.string s)=>.str s
  | _=>.undef

theorem jqv     {W:World} {t e:TypeId} {n fuel:Nat} {cs:List Value} {ds:List (DataW Unit)} {p:List MemPlace} (ht:Tryz.prog.underlying t=some (.array n e)) (hc:Tryz.prog.cellsOf e=1)
    (he:Tryz.prog.underlying e=some .string∨∃ k,Tryz.prog.underlying e=some (.int k)) (h:DataW.trod (fun _=>()) Tryz.prog W 0 (fun _=>true) false fuel t cs=some (.agg ds,p)) (I:IMap) :
    ∀ (j:Nat) (d:DataW Unit),ds[j]? = some d→∃ x,cs[j]? = some x∧RepP I x (jky d):=by
  obtain ⟨xs,m,rfl,hx,hlen,hn,hel⟩:=DataW.trod_array ht h
  intro j d hd
  simp only [Prod.mk.injEq,DataW.agg.injEq] at hx
  rw [hx.1,List.getElem?_map] at hd
  cases hy:xs[j]? with
  | none=>simp [hy] at hd
  | some y =>
    rw [hy] at hd
    simp only [Option.map_some,Option.some.injEq] at hd
    have hj:j<n:=by rw [← hn];exact (List.getElem?_eq_some_iff.1 hy).1
    have:=hel j hj
    rw [hc,Nat.mul_one,hy] at this
    have one:∀ c,(cs.drop j).take 1=[c]→cs[j]? = some c:=by
      intro c hcc
      have:=congrArg List.head? hcc
      simpa [List.head?_take,List.head?_drop] using this
    rcases he with he | ⟨k,he⟩
    · obtain ⟨s,e1,e2,_⟩:=DataW.trod_string he this
      refine ⟨_,one _ e1,?_⟩
      rw [← hd,e2]
      exact RepP.str s
    · obtain ⟨s,e1,e2,_⟩:=DataW.trod_int he this
      refine ⟨_,one _ e1,?_⟩
      rw [← hd,e2]
      exact RepP.int k s

theorem jqh    {W:World} {nm:String} {g:Nat} {cs:Array Value} {ds:List (DataW Unit)} (hg:Tryz.prog.globalNamed nm=some g) (hv:W.var? Tryz.prog nm=some cs) (hp:(ds.map jky ).all V.pureLeaf=true)
    (h:∀ (j:Nat) (d:DataW Unit),ds[j]? = some d→∃ x,cs.toList[j]? = some x∧RepP (YO W) x (jky d)):RepP (YO W) (.pointer (some ⟨g,0,none⟩)) (.eptr (ds.map jky) 0):=by
  have hc:=World.var?_cell hg hv
  refine RepP.eptr g 0 0 (ds.map jky) (fun j=>(cs[j]?).getD .nilFunc) (fun j hj=>?_) (fun j v hj=>?_) (fun j v hj=>?_)
  · rw [List.length_map] at hj
    obtain ⟨x,hx,_⟩:=h j ds[j] (List.getElem?_eq_getElem hj)
    have hx':cs[j]? = some x:=by simpa using hx
    show W.cell? ⟨g,0+j,none⟩=_
    rw [Nat.zero_add,hc j,hx']
    rfl
  · exact List.all_eq_true.1 hp v (List.mem_of_getElem? hj)
  · rw [List.getElem?_map] at hj
    cases hd:ds[j]? with
    | none=>rw [hd] at hj;cases hj
    | some d =>
      rw [hd] at hj
      cases hj
      obtain ⟨x,hx,hr⟩:=h j d hd
      have hx':cs[j]? = some x:=by simpa using hx
      rw [hx']
      exact hr

def aggOf:DataW Unit→List (DataW Unit)
  | .agg l=>l
  | _=>[]
theorem jrn:(aggOf Rows.laid_deemster_event_words).map jky=words:=by kernel_rfl
theorem jtz:(aggOf Rows.laid_unicode_utf8_first).map jky=utf8first:=by kernel_rfl
theorem jqj:Rows.laid_unicode_utf8_first = .agg (aggOf Rows.laid_unicode_utf8_first):=by kernel_rfl
theorem jlr:((aggOf Rows.laid_deemster_event_words).map jky).all V.pureLeaf=true:=by kernel_rfl
theorem jmy:((aggOf Rows.laid_unicode_utf8_first).map jky).all V.pureLeaf=true:=by kernel_rfl

theorem jig       {H:Type} {enc:TypeId × Value→H} {W W':World} (hb:Below W.heap.size W W'):∀ {ts:List TypeId} {vs:List Value} {ds:List (DataW H)} {ps:List MemPlace},
    (∀ t∈ts,Tryz.prog.readableRec t=true∧t<Tryz.prog.types.size)→(∀ x∈ps,x.block<W.heap.size) →
    DataW.TrodAll enc Tryz.prog W 0 (fun _=>true) true ts vs ds ps→DataW.TrodAll enc Tryz.prog W' 0 (fun b=>decide (b<W.heap.size)) true ts vs ds ps
  | [],[],[],_,_,_,h=>h
  | t::ts,v::vs,d::ds,_,ht,hlt,⟨p,q,h1,h2,e⟩=>by
    subst e
    exact ⟨p,q,Below.trod jpq (ht t (List.mem_cons_self ..)).1 (ht t (List.mem_cons_self ..)).2 h1 hb (fun x hx=>hlt x (List.mem_append_left _ hx)),
      jig hb (fun t' h'=>ht t' (List.mem_cons_of_mem _ h')) (fun x hx=>hlt x (List.mem_append_right _ hx)) h2,rfl⟩
  | [],_::_,_,_,_,_,h=>h.elim
  | [],[],_::_,_,_,_,h=>h.elim
  | _::_,[],_,_,_,_,h=>h.elim
  | _::_,_::_,[],_,_,_,h=>h.elim

theorem jog       {H:Type} {enc:TypeId × Value→H} {fn:Func} {s:ChangeSpec} {W W':World} {args:Array Value} {ds gs:List (DataW H)} {before:List MemPlace} (hW:DataW.Whole enc Tryz.prog fn.params.toList s.vars false W args.toList ds gs before)
    (hv:s.vars=[]) (hr:fn.resultTypes = #[4]) (hs:(s.fn H ds).results=[.lit (.bool true)]) (ha:(s.fn H ds).args=ds) (hvs:(s.fn H ds).vars=[])
    (ht:∀ t∈fn.params.toList,Tryz.prog.readableRec t=true∧t<Tryz.prog.types.size) (hg:W.grownBy W' none):s.post enc Tryz.prog fn false true false false W args (.bool true) W':=by
  have hb:Below W.heap.size W W':=(Below.refl _ W).grown hg (Nat.le_refl _) (fun _ h=>by cases h)
  have hW':=hW
  obtain ⟨p,q,hA,hV,rfl,_,_⟩:=hW
  rw [hv] at hV
  obtain ⟨rfl,rfl⟩:=trodVars_none hV
  have hlt:∀ x∈p,x.block<W.heap.size:=fun x hx=>by simpa using hW'.lt x (List.mem_append_left _ hx)
  refine ⟨ds,[],_,[],p,[],hW',?_,?_,?_,hb.frame _,fun h=>by cases h⟩
  · rw [List.append_nil,hs,hr]
    exact trodAll_mk1 (shut_bool Tryz.underlying4 _)
  · rw [List.append_nil,ha]
    exact jig hb ht hlt hA
  · rw [List.append_nil,hvs,hv]
    rfl
end Go.Pv.T

/- Data that come in, of whatever plain type, as the interpreter has them. -/
namespace Go.Pv.T
open Go Go.Pv Go.Proofs Go.ChangeShapes Go.WideShapes Go.ChangeAt Go.RowKit
inductive Ty where
 | bool
 | int (k:IntKind)
 | str
 | unit
 | pair (a b:Ty)
 | slice (t:Ty)
def Ty.cells:Ty→Nat
 | .unit=>0
 | .pair a b=>a.cells+b.cells
 | _=>1
inductive Sh:Ty→List V→Prop where
 | bool (b:Bool):Sh .bool [.bool b]
 | int (k:IntKind) (n:Int):Sh (.int k) [.int k n]
 | str (s:List UInt8):Sh .str [.str s]
 | unit:Sh .unit []
 | pair {a b:Ty} {va vb:List V} (ha:Sh a va) (hb:Sh b vb):Sh (.pair a b) (va++vb)
 | nil {t:Ty}:Sh (.slice t) [.sl none true 0 []]
 | slice {t:Ty} (es:List (List V)) (hn:es.length≤maxLen) (h:∀ e∈es,Sh t e):Sh (.slice t) [.sl none false es.length es.flatten]
def W9 (P:Program) (g:TypeId→Option Ty):List Field→Nat→Option Ty
 | [],_=>some .unit
 | f::r,off=>if f.offset=off then (g f.type).bind fun a=>if P.cellsOf f.type=a.cells then (W9 P g r (off+a.cells)).map (.pair a) else none else none
def jv0 (P:Program):Nat→TypeId→Option Ty
 | 0,_=>none
 | n+1,t=>match P.underlying t with
  | some .bool=>some .bool
  | some (.int k)=>some (.int k)
  | some .string=>some .str
  | some (.slice e)=>(jv0 P n e).bind fun ty=>if P.cellsOf e=ty.cells then some (.slice ty) else none
  | some (.struct fs)=>(W9 P (jv0 P n) fs.toList 0).bind fun ty=>if P.cellsOf t=ty.cells then some ty else none
  | _=>none
theorem Sh.len {t:Ty} {vs:List V} (h:Sh t vs):vs.length=t.cells:=by
 induction h with
 | pair _ _ iha ihb=>simp [Ty.cells,iha,ihb]
 | _=>rfl
theorem Sh.pure {t:Ty} {vs:List V} (h:Sh t vs):∀ v∈vs,v.pureLeaf=true:=by
 induction h with
 | pair _ _ iha ihb=>intro v hv;rcases List.mem_append.1 hv with h | h;exact iha v h;exact ihb v h
 | unit=>intro v hv;cases hv
 | _=>intro v hv;rw [List.mem_singleton] at hv;subst hv;rfl
def Reps (I:IMap) (cs:List Value) (vs:List V):Prop:=cs.length=vs.length∧∀ (j:Nat) (x:Value) (v:V),cs[j]? = some x→vs[j]? = some v→RepP I x v
theorem Reps.one {I:IMap} {x:Value} {v:V} (h:RepP I x v):Reps I [x] [v] :=
 ⟨rfl,fun j y u hj hu=>by
  match j,hj,hu with
  | 0,hj,hu=>cases hj;cases hu;exact h
  | j+1,hj,_=>simp at hj⟩
theorem jgg {α:Type} {sz:Nat} (hs:0<sz):∀ (es:List (List α)),(∀ e∈es,e.length=sz)→∀ j,es.flatten[j]? = (es[j / sz]?).bind fun e=>e[j % sz]?
 | [],_,j=>by simp
 | e::es,h,j=>by
  have he:=h e (List.mem_cons_self ..)
  rw [List.flatten_cons,List.getElem?_append,he]
  split
  ·rename_i hlt
   rw [Nat.div_eq_of_lt hlt,Nat.mod_eq_of_lt hlt]
   rfl
  ·rename_i hge
   have hj:j=(j - sz)+sz:=by omega
   rw [jgg hs es (fun e he=>h e (List.mem_cons_of_mem _ he)) (j - sz)]
   conv=>rhs;rw [hj,Nat.add_div_right _ hs,Nat.add_mod_right]
   rfl
theorem jk7 {α:Type} {sz:Nat}:∀ (es:List (List α)),(∀ e∈es,e.length=sz)→es.flatten.length=es.length * sz
 | [],_=>by simp
 | e::es,h=>by
  rw [List.flatten_cons,List.length_append,h e (List.mem_cons_self ..),jk7 es (fun e he=>h e (List.mem_cons_of_mem _ he)),List.length_cons,Nat.succ_mul]
  omega
section
variable {H:Type} {enc:TypeId × Value→H} {W:World} {P:Program}
theorem jhg {α:Type} {p:Nat→α→Prop}:∀ (n:Nat),(∀ i,i<n→∃ a,p i a)→∃ l:List α,l.length=n∧∀ i a,l[i]? = some a→p i a
 | 0,_=>⟨[],rfl,fun i a h=>by simp at h⟩
 | n+1,h=>by
  obtain ⟨l,h1,h2⟩:=jhg n (fun i hi=>h i (by omega))
  obtain ⟨a,ha⟩:=h n (by omega)
  refine ⟨l++[a],by simp [h1],fun i b hb=>?_⟩
  rw [List.getElem?_append] at hb
  split at hb
  ·exact h2 i b hb
  ·rename_i hge
   have:i=n:=by
    have:=(List.getElem?_eq_some_iff.1 hb).1
    simp at this
    omega
   subst this
   simp [h1] at hb
   subst hb
   exact ha
theorem jfb {g:TypeId→Option Ty} {n:Nat} {cs:List Value} (ih:∀ t ty,g t=some ty→∀ cs x,DataW.trod enc P W 0 (fun _=>true) true n t cs=some x→∃ vs,Sh ty vs∧Reps (YO W) cs vs) :
 ∀ (fs:List Field) (off:Nat) (ty:Ty),W9 P g fs off=some ty→(∀ f∈fs,∃ x,DataW.trod enc P W 0 (fun _=>true) true n f.type ((cs.drop f.offset).take (P.cellsOf f.type))=some x)→cs.length=off+ty.cells →
  ∃ vs,Sh ty vs∧Reps (YO W) (cs.drop off) vs
 | [],off,ty,h,_,hl=>by
  simp only [W9,Option.some.injEq] at h
  subst h
  simp only [Ty.cells,Nat.add_zero] at hl
  exact ⟨[],.unit,by simp [hl],fun j x v _ hv=>by simp at hv⟩
 | f::r,off,ty,h,hx,hl=>by
  simp only [W9] at h
  split at h
  ·rename_i hoff
   cases hg:g f.type with
   | none=>rw [hg] at h;cases h
   | some a =>
    rw [hg,Option.bind_some] at h
    split at h
    ·rename_i hc
     cases hr:W9 P g r (off+a.cells) with
     | none=>rw [hr] at h;cases h
     | some b =>
      rw [hr] at h
      cases h
      simp only [Ty.cells] at hl
      obtain ⟨x,hx0⟩:=hx f (List.mem_cons_self ..)
      obtain ⟨va,ha,hra⟩:=ih f.type a hg _ _ hx0
      obtain ⟨vb,hb,hrb⟩:=jfb ih r (off+a.cells) b hr (fun f' hf=>hx f' (List.mem_cons_of_mem _ hf)) (by omega)
      refine ⟨va++vb,.pair ha hb,?_,fun j y u hj hu=>?_⟩
      ·have:=ha.len;have:=hb.len
       simp only [List.length_drop,List.length_append]
       omega
      ·rw [hoff,hc] at hra
       rw [List.getElem?_append] at hu
       rw [ha.len] at hu
       rw [List.getElem?_drop] at hj
       split at hu
       ·rename_i hlt
        exact hra.2 j y u (by rw [List.getElem?_take,if_pos hlt,List.getElem?_drop];exact hj) hu
       ·rename_i hge
        exact hrb.2 (j - a.cells) y u (by rw [List.getElem?_drop,show off+a.cells+(j - a.cells)=off+j from by omega];exact hj) hu
    ·cases h
  ·cases h
theorem jn8:∀ (n:Nat) (t:TypeId) (ty:Ty),jv0 P n t=some ty→∀ (fuel:Nat) (cs:List Value) (x:DataW H × List MemPlace),DataW.trod enc P W 0 (fun _=>true) true fuel t cs=some x→∃ vs,Sh ty vs∧Reps (YO W) cs vs
 | 0,_,_,h,_,_,_,_=>by cases h
 | n+1,t,ty,h,fuel,cs,x,hx=>by
  simp only [jv0] at h
  split at h
  ·rename_i ht
   cases h
   obtain ⟨b,rfl,_⟩:=DataW.trod_bool ht hx
   exact ⟨_,.bool b,Reps.one (.bool b)⟩
  ·rename_i k ht
   cases h
   obtain ⟨b,rfl,_⟩:=DataW.trod_int ht hx
   exact ⟨_,.int k b,Reps.one (.int k b)⟩
  ·rename_i ht
   cases h
   obtain ⟨s,rfl,_⟩:=DataW.trod_string ht hx
   exact ⟨_,.str s.data.toList,Reps.one (.str s)⟩
  ·rename_i e ht
   cases he:jv0 P n e with
   | none=>rw [he] at h;cases h
   | some te =>
    rw [he,Option.bind_some] at h
    split at h
    ·rename_i hc
     cases h
     rcases DataW.trod_slice ht hx with ⟨rfl,_⟩ | ⟨a,len,cap,elems,rest,m,_,rfl,_,_,hl,hm,hlen,hel,_,_⟩
     ·exact ⟨_,.nil,Reps.one .slnil⟩
     ·have each:∀ i,i<len→∃ vs,Sh te vs∧∃ c,W.cells? 0 (a.add (i * te.cells)) te.cells=some c∧Reps (YO W) c vs:=by
       intro i hi
       have h1:=hel i hi
       rw [List.getElem?_eq_getElem (by omega),hc] at h1
       obtain ⟨c,hc1,hc2⟩:=Option.bind_eq_some_iff.1 h1
       obtain ⟨vs,h3,h4⟩:=jn8 n e te he m c _ hc2
       exact ⟨vs,h3,c,hc1,h4⟩
      obtain ⟨es,h1,h2⟩:=jhg len each
      have hsh:∀ e∈es,Sh te e:=fun e he=>by
       obtain ⟨i,hi⟩:=List.getElem?_of_mem he
       exact (h2 i e hi).1
      have hsz:∀ e∈es,e.length=te.cells:=fun e he=>(hsh e he).len
      have key:∀ (j:Nat) (v:V),es.flatten[j]? = some v→0<te.cells∧j / te.cells<len∧∃ y,W.cell? ((a.add (j / te.cells * te.cells)).add (j % te.cells))=some y∧RepP (YO W) y v∧v.pureLeaf=true:=by
       intro j v hj
       have h0:0<te.cells:=by
        rcases Nat.eq_zero_or_pos te.cells with h | h
        ·have:=jk7 es hsz
         rw [h,Nat.mul_zero] at this
         rw [List.length_eq_zero_iff.1 this] at hj
         simp at hj
        ·exact h
       rw [jgg h0 es hsz] at hj
       cases hee:es[j / te.cells]? with
       | none=>rw [hee] at hj;cases hj
       | some e =>
        rw [hee,Option.bind_some] at hj
        have hlt:j / te.cells<len:=by rw [← h1];exact (List.getElem?_eq_some_iff.1 hee).1
        obtain ⟨hse,c,hcc,hrr⟩:=h2 _ e hee
        have hme:=Nat.mod_lt j h0
        have hcell:=(World.cells?_some hcc).2.2 _ hme
        have hclen:c.length=te.cells:=by rw [hrr.1,hse.len]
        rw [List.getElem?_eq_getElem (by omega)] at hcell
        exact ⟨h0,hlt,_,hcell,hrr.2 _ _ v (List.getElem?_eq_getElem (by omega)) hj,hse.pure v (List.mem_of_getElem? hj)⟩
      have spot:es.flatten≠[]→a.spot=none:=by
       intro hne
       obtain ⟨v,hv⟩:∃ v,es.flatten[0]? = some v:=by
        cases hf:es.flatten with
        | nil=>exact absurd hf hne
        | cons v l=>exact ⟨v,rfl⟩
       obtain ⟨h0,_,y,hy,_⟩:=key 0 v hv
       rw [Nat.zero_div,Nat.zero_mod,Nat.zero_mul] at hy
       simpa [Addr.add] using World.cell?_spot hy
      have cellAt:∀ (j:Nat) (v:V),es.flatten[j]? = some v→∃ y,W.cell? ⟨a.block,a.off+j,none⟩=some y∧RepP (YO W) y v:=by
       intro j v hj
       obtain ⟨h0,_,y,hy,hr,_⟩:=key j v hj
       have hs:=spot (fun h=>by rw [h] at hj;simp at hj)
       obtain ⟨b,off,sp⟩:=a
       simp only at hs
       subst hs
       rw [add_plain,add_plain] at hy
       refine ⟨y,?_,hr⟩
       rw [← hy,Nat.add_assoc,Nat.div_add_mod']
      rw [← h1] at hl
      refine ⟨_,.slice es (Nat.le_trans hl hm) hsh,Reps.one ?_⟩
      rw [h1] at hl ⊢
      refine RepP.sl a len cap es.flatten (fun j=>(W.cell? ⟨a.block,a.off+j,none⟩).getD .nilFunc) spot hl hm (fun j hj=>?_) (fun j v hj=>?_) (fun j v hj=>?_)
      ·obtain ⟨y,hy,_⟩:=cellAt j _ (List.getElem?_eq_getElem hj)
       show W.cell? _=some ((W.cell? _).getD _)
       rw [hy]
       rfl
      ·exact (key j v hj).2.2.choose_spec.2.2
      ·obtain ⟨y,hy,hr⟩:=cellAt j v hj
       show RepP _ ((W.cell? _).getD _) v
       rw [hy]
       exact hr
    ·cases h
  ·rename_i fs ht
   cases hf:W9 P (jv0 P n) fs.toList 0 with
   | none=>rw [hf] at h;cases h
   | some b =>
    rw [hf,Option.bind_some] at h
    split at h
    ·rename_i hc
     cases h
     obtain ⟨xs,m,rfl,_,hl,hn,hel⟩:=DataW.trod_struct ht hx
     have:=jfb (n:=m) (cs:=cs) (fun t ty h cs x hx=>jn8 n t ty h m cs x hx) fs.toList 0 ty hf (fun f hfm=>by
      obtain ⟨i,hi⟩:=List.getElem?_of_mem hfm
      have hi':fs[i]? = some f:=by simpa using hi
      have h1:=hel i f hi'
      have hlt:i<xs.length:=by rw [hn];exact (Array.getElem?_eq_some_iff.1 hi').1
      rw [List.getElem?_eq_getElem hlt] at h1
      exact ⟨_,h1⟩) (by rw [Nat.zero_add,hl,hc])
     simpa using this
    ·cases h
  ·cases h
end
end Go.Pv.T

/- The laid variables read as the interpreter has them; a call that answers true. -/
namespace Go.Pv.T
open Go Go.Pv Go.Proofs Go.ChangeShapes Go.WideShapes Go.ChangeAt Go.RowKit Go.Proofs.YtopjfnbonjmnjaaGreatDoor

theorem jub      {W:World} {t e:TypeId} {n fuel:Nat} {cs:List Value} {ds:List (DataW Unit)} {p:List MemPlace} {f0 f1:Field} {k0 k1:IntKind} (ht:Tryz.prog.underlying t=some (.array n e)) (hc:Tryz.prog.cellsOf e=2)
    (he:Tryz.prog.underlying e=some (.struct #[f0,f1])) (o0:f0.offset=0) (o1:f1.offset=1) (c0:Tryz.prog.cellsOf f0.type=1) (c1:Tryz.prog.cellsOf f1.type=1)
    (u0:Tryz.prog.underlying f0.type=some (.int k0)) (u1:Tryz.prog.underlying f1.type=some (.int k1)) (h:DataW.trod (fun _=>()) Tryz.prog W 0 (fun _=>true) false fuel t cs=some (.agg ds,p)) (I:IMap) :
    ∀ (j:Nat) (d:DataW Unit),(ds.map aggOf).flatten[j]? = some d→∃ x,cs[j]? = some x∧RepP I x (jky d):=by
  obtain ⟨xs,m,rfl,hx,hlen,hn,hel⟩:=DataW.trod_array ht h
  simp only [Prod.mk.injEq,DataW.agg.injEq] at hx
  have one:∀ (l:List Value) (j:Nat) c,(l.drop j).take 1=[c]→l[j]? = some c:=by
    intro l j c hcc
    have:=congrArg List.head? hcc
    simpa [List.head?_take,List.head?_drop] using this
  have each:∀ (j:Nat) (y:DataW Unit × List MemPlace),xs[j]? = some y→∃ d0 d1 x0 x1,y.1 = .agg [d0,d1]∧cs[j * 2]? = some x0∧RepP I x0 (jky d0)∧cs[j * 2+1]? = some x1∧RepP I x1 (jky d1):=by
    intro j y hy
    have hj:j<n:=by rw [← hn];exact (List.getElem?_eq_some_iff.1 hy).1
    have h2:=hel j hj
    rw [hc,hy] at h2
    obtain ⟨y0,y1,m',e1,hl2,g0,g1⟩:=trod_struct2 he h2
    rw [o0,c0] at g0
    rw [o1,c1] at g1
    obtain ⟨z0,a0,b0,_⟩:=DataW.trod_int u0 g0
    obtain ⟨z1,a1,b1,_⟩:=DataW.trod_int u1 g1
    have q0:=one _ _ _ a0
    have q1:=one _ _ _ a1
    rw [List.getElem?_take,if_pos (by omega),List.getElem?_drop] at q0 q1
    refine ⟨y0.1,y1.1,_,_,by rw [e1],by simpa using q0,?_,q1,?_⟩
    · rw [b0];exact RepP.int k0 z0
    · rw [b1];exact RepP.int k1 z1
  have hds:ds=xs.map (·.1):=hx.1
  have len2:∀ e∈ds.map aggOf,e.length=2:=by
    intro e he
    rw [hds,List.map_map] at he
    obtain ⟨y,hy,rfl⟩:=List.mem_map.1 he
    obtain ⟨j,hj⟩:=List.getElem?_of_mem hy
    obtain ⟨d0,d1,x0,x1,e,_⟩:=each j y hj
    simp only [Function.comp,e,aggOf,List.length_cons,List.length_nil]
  intro k d hd
  rw [jgg (by decide) _ len2] at hd
  rw [hds,List.map_map,List.getElem?_map] at hd
  cases hy:xs[k / 2]? with
  | none=>rw [hy] at hd;cases hd
  | some y =>
    rw [hy] at hd
    obtain ⟨d0,d1,x0,x1,e,g0,r0,g1,r1⟩:=each _ y hy
    simp only [Option.map_some,Option.bind_some,Function.comp,e,aggOf] at hd
    rcases Nat.mod_two_eq_zero_or_one k with hk | hk
    · rw [hk] at hd
      cases hd
      rw [show k / 2 * 2=k from by omega] at g0
      exact ⟨x0,g0,r0⟩
    · rw [hk] at hd
      cases hd
      rw [show k / 2 * 2+1=k from by omega] at g1
      exact ⟨x1,g1,r1⟩

def accD:List (DataW Unit):=((aggOf Rows.laid_unicode_utf8_acceptRanges).map aggOf).flatten
theorem gAcc:Tryz.prog.globalNamed "unicode/utf8.acceptRanges" = some 2:=by kernel_rfl
theorem j57:accD.map jky=accR:=by kernel_rfl
theorem jy1:Rows.laid_unicode_utf8_acceptRanges = .agg (aggOf Rows.laid_unicode_utf8_acceptRanges):=by kernel_rfl
theorem jud:(accD.map jky).all V.pureLeaf=true:=by kernel_rfl
theorem tAcc:(Tryz.prog.globals[2]?).map (·.type)=some 289:=by kernel_rfl

theorem glOk {W:World} (h:laidMetH Tryz.prog jmo W):GlOk E (YO W):=by
  rw [MakeChecks.laidMetH_plain _ _ _ (by kernel_rfl)] at h
  obtain ⟨ps,⟨g2,t2,cs2,f2,p2,q2,hg2,ht2,hv2,hd2,⟨g0,t0,cs0,f0,p0,q0,hg0,ht0,hv0,hd0,⟨g1,t1,cs1,f1,p1,q1,hg1,ht1,hv1,hd1,_,_⟩,_⟩,_⟩,_,_⟩:=h
  obtain rfl:=Option.some.inj (gWords.symm.trans hg0)
  obtain rfl:=Option.some.inj (gFirst.symm.trans hg1)
  obtain rfl:=Option.some.inj (tWords.symm.trans ht0)
  obtain rfl:=Option.some.inj (tFirst.symm.trans ht1)
  obtain rfl:=Option.some.inj (gAcc.symm.trans hg2)
  obtain rfl:=Option.some.inj (tAcc.symm.trans ht2)
  intro g cs hcs
  simp only [E] at hcs
  split at hcs
  · cases hcs
    rw [← jrn]
    exact jqh gWords hv0 jlr (jqv Tryz.underlying274 (by kernel_rfl) (Or.inl (by kernel_rfl)) hd0 _)
  · cases hcs
    rw [← jtz]
    rw [jqj] at hd1
    exact jqh gFirst hv1 jmy (jqv Tryz.underlying286 (by kernel_rfl) (Or.inr ⟨.u8,by kernel_rfl⟩) hd1 _)
  · cases hcs
    rw [← j57]
    rw [jy1] at hd2
    exact jqh gAcc hv2 jud (jub (k0:=.u8) (k1:=.u8) Tryz.underlying289 (by kernel_rfl) Tryz.underlying288 rfl rfl (by kernel_rfl) (by kernel_rfl) (by kernel_rfl) (by kernel_rfl) hd2 _)
  · cases hcs


theorem jm3        {f:FuncId} {W:World} {args:Array Value} {vs:List V} (hL:laidMetH Tryz.prog jmo   W) (hlen:args.size=vs.length) (hr:∀ (j:Nat) (x:Value) (v:V),args[j]? = some x→vs[j]? = some v→RepP (YO     W) x v)
    (he:Ev E f vs (.bool true)):Calls Tryz.prog f args W fun e w'=>e = .returned (.bool true)∧W.grownBy w' none:=by
  refine (Ev.sound mixed envOk he W (YO W) args (jqp W) (glOk hL) hlen hr).mono fun e W' ⟨x,τ,I',h1,h2,_,_,_,h3,_⟩=>⟨?_,h2⟩
  rw [h1]
  have h4:RepP I' x (.bool true):=h3
  cases h4
  rfl
end Go.Pv.T

/- Histories and other arguments that come in. -/
namespace Go.Pv.T
open Go Go.Pv Go.Proofs Go.ChangeShapes Go.WideShapes Go.ChangeAt Go.RowKit Go.Proofs.YtopjfnbonjmnjaaGreatDoor
abbrev jvu:Ty:=.pair (.int .i64) (.pair (.int .i64) .unit)
abbrev opTy:Ty:=.pair .bool (.pair (.int .i64) (.pair jvu .unit))
abbrev jzy:Ty:=.pair (.int .i64) (.pair (.int .i64) (.pair (.slice opTy) .unit))
abbrev ju8:Ty:=.pair (.slice .str) (.pair (.slice .str) (.pair (.slice jzy) .unit))
theorem Wf {α:Type} {t:Ty} {f:α→List V} (hf:∀ e,Sh t e→∃ a,e=f a) {vs:List V} (h:Sh (.slice t) vs):∃ nl l,vs=[jl nl f l]:=by
 cases h with
 | nil=>exact ⟨true,[],rfl⟩
 | slice es hn h =>
  have all:∀ es:List (List V),(∀ e∈es,Sh t e)→∃ l:List α,es=l.map f:=by
   intro es
   induction es with
   | nil=>intro _;exact ⟨[],rfl⟩
   | cons e es ih =>
    intro h
    obtain ⟨a,rfl⟩:=hf e (h e (List.mem_cons_self ..))
    obtain ⟨l,rfl⟩:=ih (fun e he=>h e (List.mem_cons_of_mem _ he))
    exact ⟨a::l,rfl⟩
  obtain ⟨l,rfl⟩:=all es h
  exact ⟨false,l,by simp [jl,List.flatMap]⟩
theorem jun {vs:List V} (h:Sh jvu vs):∃ v:Val',vs=J1 v:=by
 cases h with
 | pair ha hb=>cases ha with
  | int _ k=>cases hb with
   | pair hc hd=>cases hc with
    | int _ n=>cases hd;exact ⟨⟨k,n⟩,rfl⟩
theorem sh_op {vs:List V} (h:Sh opTy vs):∃ o:Op',vs=opC o:=by
 cases h with
 | pair ha hb=>cases ha with
  | bool w=>cases hb with
   | pair hc hd=>cases hc with
    | int _ k=>cases hd with
     | pair he hf =>
      obtain ⟨v,rfl⟩:=jun he
      cases hf
      exact ⟨⟨w,k,v⟩,rfl⟩
theorem j0h {vs:List V} (h:Sh jzy vs):∃ t:Txn',vs=txnC t:=by
 cases h with
 | pair ha hb=>cases ha with
  | int _ s=>cases hb with
   | pair hc hd=>cases hc with
    | int _ f=>cases hd with
     | pair he hf =>
      obtain ⟨nl,l,rfl⟩:=Wf (f:=opC) (fun e=>sh_op) he
      cases hf
      exact ⟨⟨s,f,nl,l⟩,rfl⟩
theorem juo {vs:List V} (h:Sh .str vs):∃ s:List UInt8,vs=strC s:=by
 cases h with
 | str s=>exact ⟨s,rfl⟩
theorem jwc {vs:List V} (h:Sh ju8 vs):∃ g:Hist',vs=j7 g:=by
 cases h with
 | pair ha hb=>cases hb with
  | pair hc hd=>cases hd with
   | pair he hf =>
    obtain ⟨n0,l0,rfl⟩:=Wf (f:=strC) (fun e=>juo) ha
    obtain ⟨n1,l1,rfl⟩:=Wf (f:=strC) (fun e=>juo) hc
    obtain ⟨n2,l2,rfl⟩:=Wf (f:=txnC) (fun e=>j0h) he
    cases hf
    exact ⟨⟨n0,l0,n1,l1,n2,l2⟩,rfl⟩
theorem jh3 {v:V} (h:v.pureLeaf=true):v.leaf=true:=by cases v <;> first | rfl | cases h
section
variable {H:Type} {enc:TypeId × Value→H} {W:World} {v:Value} {d:DataW H} {p:List MemPlace} {base:Nat}
set_option maxRecDepth 100000 in
theorem jei {t:TypeId} {fs:Array Field} {n:Nat} {ty:Ty} (ht:Tryz.prog.underlying t=some (.struct fs)) (hty:jv0 Tryz.prog n t=some ty) (hval:Value.okWide Tryz.prog W .any base t v)
 (h:DataW.Trod enc Tryz.prog W 0 (fun _=>true) true t v d p):∃ vs,Sh ty vs∧RepP (YO W) v (.agg vs):=by
 obtain ⟨cs,rfl,_⟩:=okWide_struct ht hval
 obtain ⟨fuel,hf⟩:=h
 obtain ⟨vs,hs,hr⟩:=jn8 n t ty hty fuel _ _ hf
 refine ⟨vs,hs,RepP.agg cs vs (by simpa [Value.cells] using hr.1) (fun j v hj=>jh3 (hs.pure v (List.mem_of_getElem? hj))) (fun j x v hx hv=>hr.2 j x v (by simpa [Value.cells] using hx) hv)⟩
theorem jiv {s t:TypeId} {vs:List Value} {ds:List (DataW H)} {p:List MemPlace} (h:DataW.TrodAll enc Tryz.prog W 0 (fun _=>true) true [s,t] vs ds p) :
 ∃ v0 v1 d0 d1 p0 p1,vs=[v0,v1]∧ds=[d0,d1]∧DataW.Trod enc Tryz.prog W 0 (fun _=>true) true s v0 d0 p0∧DataW.Trod enc Tryz.prog W 0 (fun _=>true) true t v1 d1 p1:=by
 match vs,ds,h with
 | [v0,v1],[d0,d1],⟨p0,q,h0,⟨p1,q',h1,_,_⟩,_⟩=>exact ⟨v0,v1,d0,d1,p0,p1,rfl,rfl,h0,h1⟩
 | [],[],h=>exact h.elim
 | [v0],[d0],⟨_,_,_,h,_⟩=>exact h.elim
 | [],_::_,h=>exact h.elim
 | _::_,[],h=>exact h.elim
 | [_],_::_::_,⟨_,_,_,h,_⟩=>exact h.elim
 | _::_::_,[_],⟨_,_,_,h,_⟩=>exact h.elim
 | _::_::_::_,[_,_],⟨_,_,_,⟨_,_,_,h,_⟩,_⟩=>exact h.elim
 | [_,_],_::_::_::_,⟨_,_,_,⟨_,_,_,h,_⟩,_⟩=>exact h.elim
 | _::_::_::_,_::_::_::_,⟨_,_,_,⟨_,_,_,h,_⟩,_⟩=>exact h.elim
theorem jwp (ts:List TypeId) (h:(ts.all fun t=>Tryz.prog.readableRec t && decide (t<Tryz.prog.types.size))=true) (t:TypeId) (ht:t∈ts):Tryz.prog.readableRec t=true∧t<Tryz.prog.types.size:=by
 have:=List.all_eq_true.1 h t ht
 simpa using this
set_option maxRecDepth 100000 in
theorem jtu (hval:Value.okWide Tryz.prog W .any base 25 v) (h:DataW.Trod enc Tryz.prog W 0 (fun _=>true) true 25 v d p):∃ g:Hist',RepP (YO W) v (.agg (j7 g)):=by
 obtain ⟨vs,hs,hr⟩:=jei (n:=8) (ty:=ju8) Tryz.underlying25 (by kernel_rfl) hval h
 obtain ⟨g,rfl⟩:=jwc hs
 exact ⟨g,hr⟩
end
end Go.Pv.T

/- Slices of bools that come in. -/
namespace Go.Pv.T
open Go Go.Pv Go.Proofs Go.ChangeShapes Go.WideShapes Go.ChangeAt Go.RowKit Go.Proofs.YtopjfnbonjmnjaaGreatDoor
section
variable {H:Type} {enc:TypeId × Value→H} {W:World} {v:Value} {d:DataW H} {p:List MemPlace} {base:Nat}
end
end Go.Pv.T

/- Worlds that come in. -/
namespace Go.Pv.T
open Go Go.Pv Go.Proofs Go.ChangeShapes Go.WideShapes Go.ChangeAt Go.RowKit Go.Proofs.YtopjfnbonjmnjaaGreatDoor
abbrev jnl:Ty:=.pair (.slice .bool) (.pair (.slice jvu) .unit)
theorem jr2 {vs:List V} (h:Sh jnl vs):∃ (cn:Bool) (cs:List Bool) (ln:Bool) (lo:List Val'),vs=JL cn cs ln lo:=by
 cases h with
 | pair ha hb=>cases hb with
  | pair hc hd =>
   obtain ⟨n0,l0,rfl⟩:=Wf (f:=blC) (fun e he=>by cases he with | bool k=>exact ⟨k,rfl⟩) ha
   obtain ⟨n1,l1,rfl⟩:=Wf (f:=J1) (fun e=>jun) hc
   cases hd
   exact ⟨n0,l0,n1,l1,rfl⟩
section
variable {H:Type} {enc:TypeId × Value→H} {W:World} {v:Value} {d:DataW H} {p:List MemPlace} {base:Nat}
set_option maxRecDepth 100000 in
theorem jnk (hval:Value.okWide Tryz.prog W .any base 77 v) (h:DataW.Trod enc Tryz.prog W 0 (fun _=>true) true 77 v d p):∃ (cn:Bool) (cs:List Bool) (ln:Bool) (lo:List Val'),RepP (YO W) v (.agg (JL cn cs ln lo)):=by
 obtain ⟨vs,hs,hr⟩:=jei (n:=8) (ty:=jnl) Tryz.underlying77 (by kernel_rfl) hval h
 obtain ⟨cn,cs,ln,lo,rfl⟩:=jr2 hs
 exact ⟨cn,cs,ln,lo,hr⟩
end
end Go.Pv.T
