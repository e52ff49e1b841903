/- The knower: what is known; plain. -/
import Derived.Test.YtopjfnbonjmnjaaGreatDoorWhE
import Derived.Test.YtopjfnbonjmnjaaGreatDoorRows
import Derived.Test.YtopjfnbonjmnjaaGreatDoorTie
import Derived.ProofKit
import Derived.LaidMore
import Derived.OpenShut
import Derived.Stop.Joined
import Derived.SizedLaws
import Derived.Carry
import Derived.Handed
import Derived.ChangeSame
namespace Go.Pv.T
open Go Go.Pv
def KnS.init (g:Hist'):Nat→KnS
 | 0=>⟨[],[],false,true⟩
 | i+1=>match g.ts[i]? with
  | some t=>if t.f=1 then { KnS.init g i with m:=mset (KnS.init g i).m i 1 } else if t.f=2 then { KnS.init g i with n:=mset (KnS.init g i).n i 1 } else KnS.init g i
  | none=>KnS.init g i
def KnS.round (s:KnS) (g:Hist'):Nat→KnS
 | 0=>{ s with more:=false }
 | i+1=>match g.ts[i]? with
  | some t=>(s.round g i).txn g i t.f t.ops
  | none=>s.round g i
def KnS.iter (g:Hist'):Nat→KnS→KnS
 | 0,s=>s
 | k+1,s=>if s.more then KnS.iter g k (s.round g g.ts.length) else s
def KnS.both (s:KnS) (i:Int):Bool:=decide (0<mcnt s.m i) && decide (0<mcnt s.n i)
def KnS.hopTo (s:KnS):Nat→Bool
 | 0=>s.hop
 | i+1=>s.hopTo i || s.both i
def KnS.known (g:Hist'):KnS:=let s:=KnS.iter g (2 * g.ts.length+1) (KnS.init g g.ts.length);{ s with hop:=s.hopTo g.ts.length }
theorem mcnt_init (g:Hist'):∀ (i:Nat) (j:Int),(i:Int)≤j→mcnt (KnS.init g i).m j=0∧mcnt (KnS.init g i).n j=0
 | 0,j,_=>⟨rfl,rfl⟩
 | i+1,j,h=>by
  have ih:=mcnt_init g i j (by omega)
  simp only [KnS.init]
  split
  ·split
   ·simp only [mcnt_set]
    rw [if_neg (by omega)]
    exact ih
   ·split
    ·simp only [mcnt_set]
     rw [if_neg (by omega)]
     exact ih
    ·exact ih
  ·exact ih
def freeM (m:List (Int × Int)):Nat→Nat
 | 0=>0
 | i+1=>freeM m i+if mcnt m i=0 then 1 else 0
theorem freeM_set {m:List (Int × Int)} {t:Int} (h0:mcnt m t=0):∀ n:Nat,(freeM (mset m t 1) n≤freeM m n)∧(0≤t→t<n→freeM (mset m t 1) n+1≤freeM m n)
 | 0=>⟨Nat.le_refl _,fun h1 h2=>by omega⟩
 | i+1=>by
  have ih:=freeM_set h0 i
  simp only [freeM,mcnt_set]
  by_cases hit:(i:Int)=t
  ·rw [if_pos hit,hit,if_pos h0,if_neg (by decide)]
   exact ⟨by omega,fun _ _=>by omega⟩
  ·rw [if_neg hit]
   refine ⟨by omega,fun h1 h2=>?_⟩
   have:=ih.2 h1 (by omega)
   omega
def KnS.free (s:KnS) (n:Nat):Nat:=freeM s.m n+freeM s.n n
def Less (n:Nat) (s s':KnS):Prop:=s'.free n≤s.free n∧(s'.more=true→s.more=true∨s'.free n+1≤s.free n)∧(s.more=true→s'.more=true)
theorem Less.rfl' (n:Nat) (s:KnS):Less n s s:=⟨Nat.le_refl _,fun h=>.inl h,fun h=>h⟩
theorem Less.trans {n:Nat} {a b c:KnS} (h:Less n a b) (h':Less n b c):Less n a c :=
 ⟨Nat.le_trans h'.1 h.1,fun hm=>by
  rcases h'.2.1 hm with h1 | h1
  ·rcases h.2.1 h1 with h2 | h2
   ·exact .inl h2
   ·exact .inr (by have:=h'.1;omega)
  ·exact .inr (by have:=h.1;omega),fun hm=>h'.2.2 (h.2.2 hm)⟩
theorem Less.learnM {n:Nat} {s:KnS} {t:Int} (h1:0≤t) (h2:t<n):Less n s (s.learnM t):=by
 unfold KnS.learnM
 split
 ·rename_i h0
  have:=freeM_set h0 n
  have:=this.2 h1 h2
  exact ⟨by simp only [KnS.free];omega,fun _=>.inr (by simp only [KnS.free];omega),fun _=>rfl⟩
 ·exact .rfl' n s
theorem Less.learnN {n:Nat} {s:KnS} {t:Int} (h1:0≤t) (h2:t<n):Less n s (s.learnN t):=by
 unfold KnS.learnN
 split
 ·rename_i h0
  have:=freeM_set h0 n
  have:=this.2 h1 h2
  exact ⟨by simp only [KnS.free];omega,fun _=>.inr (by simp only [KnS.free];omega),fun _=>rfl⟩
 ·exact .rfl' n s
theorem Less.fails {n:Nat} {s:KnS} {f t:Int} (h1:0≤t) (h2:t<n):Less n s (s.fails f t):=by
 unfold KnS.fails
 split
 ·exact ⟨Nat.le_refl _,fun h=>.inl h,fun h=>h⟩
 ·split
  ·exact .learnN h1 h2
  ·exact .rfl' n s
theorem ofH_lt {g:Hist'} {a b x:Int} (h:x∈ofH g a b):x<g.ts.length:=by
 unfold ofH at h
 split at h
 ·split at h
  ·simp at h
  ·rename_i o _ _
   unfold ofL ofStart at h
   rcases List.mem_append.1 h with h | h
   ·split at h
    ·simp at h
    ·simp at h;omega
   ·have:=numsTo_lt (p:=wrB o.key) (ts:=g.ts) g.ts.length (Nat.le_refl _)
    exact (this.1 x (List.mem_filter.1 h).1).2
 ·simp at h
theorem Less.op {g:Hist'} {s:KnS} {f:Int} {t k:Nat} {o:Op'} (ht:t<g.ts.length):Less g.ts.length s (s.op g f t k o):=by
 unfold KnS.op
 split
 ·exact .rfl' _ s
 ·split
  ·exact .fails (by omega) (by omega)
  ·rename_i h0
   split
   ·rename_i h1
    simp only [Bool.and_eq_true,decide_eq_true_eq] at h1
    refine .learnM h1.2.1 ?_
    cases hl:s.left g t k with
    | nil=>rw [hl] at h0;simp at h0
    | cons x r =>
     have hm:x∈s.left g t k:=by rw [hl];exact List.mem_cons_self ..
     exact ofH_lt (List.mem_filter.1 hm).1
   ·exact .rfl' _ s
theorem Less.ops {g:Hist'} {s:KnS} {f:Int} {t:Nat} {l:List Op'} (ht:t<g.ts.length):∀ k,Less g.ts.length s (s.ops g f t l k)
 | 0=>.rfl' _ s
 | k+1=>by
  simp only [KnS.ops]
  split
  ·exact (Less.ops ht k).trans (.op ht)
  ·exact Less.ops ht k
theorem Less.txn {g:Hist'} {s:KnS} {f:Int} {t:Nat} {l:List Op'} (ht:t<g.ts.length):Less g.ts.length s (s.txn g t f l):=by
 unfold KnS.txn
 refine Less.trans ?_ (.ops ht _)
 split
 ·exact .rfl' _ s
 ·exact .fails (by omega) (by omega)
theorem Less.round {g:Hist'} {s:KnS}:∀ i,i≤g.ts.length→Less g.ts.length { s with more:=false } (s.round g i)
 | 0,_=>.rfl' _ _
 | i+1,h=>by
  simp only [KnS.round,List.getElem?_eq_getElem (show i<g.ts.length by omega)]
  exact (Less.round i (by omega)).trans (.txn (by omega))
end Go.Pv.T

/- The knower: what is known. -/
namespace Go.Pv.T
open Go Go.Pv
structure KnRun (g:Hist') (ub:Nat) (ob:Nat→Option Obj') (ro:Nat) (uK um un:Nat) (s:KnS) (st:St):Prop where
 kn:Kn g uK um un s st.ob st.nx
 t1:st.tm 1 = .ptr (2 * ub+1) ub 0
 t3:st.tm 3 = .ptr (2 * uK+1) uK 0
 df:st.df=[]
 ro:st.ro=ro
 h:st.ob (2 * ub+1)=some ⟨ub,.cells (histC g)⟩
 old:∀ key,(∀ m,ub≤m→key≠2 * m+1)→st.ob key=ob key
theorem KnRun.up {g:Hist'} {ub:Nat} {ob:Nat→Option Obj'} {ro uK um un:Nat} {s:KnS} {st st':St} (k:KnRun g ub ob ro uK um un s st) (ho:st'.ob=st.ob) (hn:st.nx≤st'.nx) (h1:st'.tm 1=st.tm 1) (h3:st'.tm 3=st.tm 3) (hd:st'.df=st.df) (hr:st'.ro=st.ro):KnRun g ub ob ro uK um un s st' :=
 ⟨k.kn.up ho hn,h1.trans k.t1,h3.trans k.t3,hd.trans k.df,hr.trans k.ro,by rw [ho];exact k.h,by rw [ho];exact k.old⟩
end Go.Pv.T

/- Infos as a list that may be made one's own. -/
namespace Go.Pv.T
open Go Go.Pv
end Go.Pv.T

/- The knower: what of the infos is known (an observer). -/
namespace Go.Pv.T
open Go Go.Pv
end Go.Pv.T

/- Several results, some of them slices; slices that are made; a copy of numbers. -/
namespace Go.Pv.T
open Go Go.Pv
def OutOk (st:St) (v w:V):Prop:=∀ keep i,∃ a,outTop st keep i v=some a∧a.strip1=w∧(a.toks=[]∨a.toks=[i])
def OutAll (st:St):List V→List V→Prop
 | [],[]=>True
 | v::vs,w::ws=>OutOk st v w∧OutAll st vs ws
 | _,_=>False
theorem outTops_ok {st:St} {keep:Bool}:∀ {vs ls:List V} {i:Nat},OutAll st vs ls→∃ as1,outTops st keep i vs=some as1∧as1.map V.strip1=ls∧(∀ p∈as1.flatMap V.toks,i≤p∧p<i+16 * vs.length)∧nodup (as1.flatMap V.toks)=true
 | [],[],i,_=>⟨[],rfl,rfl,by simp,rfl⟩
 | v::vs,w::ws,i,h=>by
  obtain ⟨a,h1,h2,h3⟩:=h.1 keep i
  obtain ⟨as1,k1,k2,k3,k4⟩:=outTops_ok (keep:=keep) (i:=i+16) h.2
  refine ⟨a::as1,by simp only [outTops,h1,Option.bind_some,k1,Option.map_some],by rw [List.map_cons,h2,k2],fun p hp=>?_,?_⟩
  ·rw [List.flatMap_cons,List.mem_append] at hp
   simp only [List.length_cons]
   rcases hp with hp | hp
   ·rcases h3 with h3 | h3 <;> rw [h3] at hp <;> simp at hp
    omega
   ·have:=k3 p hp;omega
  ·rw [List.flatMap_cons]
   rcases h3 with h3 | h3 <;> rw [h3]
   ·exact k4
   ·simp only [List.singleton_append,nodup,Bool.and_eq_true,k4,and_true,Bool.not_eq_true']
    rw [Bool.eq_false_iff]
    intro hc
    obtain ⟨p,hp,he⟩:=List.any_eq_true.1 hc
    have:=Nat.eq_of_beq_eq_true he
    have:=k3 p hp
    omega
 | [],_::_,_,h=>h.elim
 | _::_,[],_,h=>h.elim
section
variable {E:Env} {Yf:YF} {st:St} {ub:Nat} {K:St→Nat→Prop} {d:Option Nat} {nm:Bool}
end
def Upto (n i:Nat) (J:List Int) (cs:List V):Prop:=cs.length=n∧(∀ j,j<i→cs[j]? = (J.flatMap intC)[j]?)∧cs.all V.pureLeaf=true
theorem Upto.set {n i:Nat} {J:List Int} {cs:List V} (h:Upto n i J cs) (hi:i<n) {x:Int} (hx:J[i]? = some x):Upto n (i+1) J (splice cs i [.int .i64 x]):=by
 obtain ⟨h1,h2,h3⟩:=h
 have hs:splice cs i [.int .i64 x]=cs.set i (.int .i64 x):=by
  unfold splice
  rw [List.set_eq_take_append_cons_drop,if_pos (by omega),List.append_assoc]
  rfl
 rw [hs]
 refine ⟨by rw [List.length_set];exact h1,fun j hj=>?_,?_⟩
 ·by_cases hji:j=i
  ·subst hji
   have hJ:=(List.getElem?_eq_some_iff.1 hx)
   rw [List.getElem?_set_self (by omega),int_at J hJ.1,hJ.2]
  ·rw [List.getElem?_set_ne (fun e=>hji e.symm)]
   exact h2 j (by omega)
 ·refine List.all_eq_true.2 fun y hy=>?_
  rcases List.mem_or_eq_of_mem_set hy with hy | rfl
  ·exact List.all_eq_true.1 h3 y hy
  ·rfl
theorem Upto.whole {n:Nat} {J:List Int} {cs:List V} (h:Upto n n J cs) (hJ:J.length=n):cs=J.flatMap intC:=by
 apply List.ext_getElem?
 intro j
 by_cases hj:j<n
 ·exact h.2.1 j hj
 ·rw [List.getElem?_eq_none (by rw [h.1];omega),List.getElem?_eq_none (by rw [flatMap_len intC_len];omega)]
theorem Upto.zero (n:Nat) (J:List Int):Upto n 0 J (repl n [.int .i64 0]):=by
 refine ⟨by simp [repl],fun j hj=>by omega,?_⟩
 refine List.all_eq_true.2 fun y hy=>?_
 simp only [repl,List.mem_map] at hy
 obtain ⟨i,_,rfl⟩:=hy
 simp [V.pureLeaf,Nat.mod_one]
end Go.Pv.T

/- Must, as it is given. -/
namespace Go.Pv.T
open Go Go.Pv
end Go.Pv.T

/- Against, as it is given. -/
namespace Go.Pv.T
open Go Go.Pv
def blC (b:Bool):List V:=[.bool b]
@[simp] theorem blC_len (b:Bool):(blC b).length=1:=rfl
end Go.Pv.T

/- Lists of values: the same; the reference's sorting. -/
namespace Go.Pv.T
open Go Go.Pv
@[simp] theorem valC_len (v:Val'):(valC v).length=2:=rfl
theorem val_eq (a b:Val'):(a == b)=(a.kind == b.kind && a.n == b.n):=by
 obtain ⟨a1,a2⟩:=a
 obtain ⟨b1,b2⟩:=b
 rw [Bool.eq_iff_iff]
 simp
theorem load_val (ob:Nat→Option Obj') (l:List Val') {i:Nat} (h:i<l.length):loadV ob (some 2) (.eptr (l.flatMap valC) (i * 2))=some (.agg (valC l[i])):=load_slOf valC_len ob l h
def posV (v:Val'):List Val'→Nat
 | []=>0
 | x::l=>if lessV x v then posV v l+1 else 0
def insV (l:List Val') (v:Val'):List Val':=if l[posV v l]? = some v then l else l.take (posV v l)++v::l.drop (posV v l)
def sortV (l:List Val'):List Val':=(l.filter valB).foldl insV []
end Go.Pv.T

/- Where each member of a map stands: wr.places. -/
namespace Go.Pv.T
open Go Go.Pv
end Go.Pv.T

/- Whether a list is a map: the given answer is the reference's. -/
namespace Go.Pv.T
open Go Go.Pv
end Go.Pv.T

/- WrTells, but for its fixed example. -/
namespace Go.Pv.T
open Go Go.Pv
@[simp] theorem eqVV_bool (ob:Nat→Option Obj') (neg a b:Bool):eqVV ob neg .bool (.bool a) (.bool b)=some (.bool (xor neg (a == b))):=rfl
theorem retHist {ub:Nat} {r:V} {g:Hist'} {K:Delta→Prop} (h:HistR r g)
 (hK:∀ a b c add,K { v:=.agg [.sl a g.sn g.ss.length (g.ss.flatMap strC),.sl b g.kn g.ks.length (g.ks.flatMap strC),.sl c g.tn g.ts.length (g.ts.flatMap txnC)],add:=add }):wpD (retA ub r) K:=by
 obtain ⟨a,b,c,add,hr⟩:=retA_hist1 (ub:=ub) h
 rw [hr,wpD_some]
 exact hK a b c add
theorem take_flat {α:Type} {f:α→List V} {k:Nat} (hf:∀ a,(f a).length=k):∀ (l:List α) (n:Nat),(l.flatMap f).take (n * k)=(l.take n).flatMap f
 | [],n=>by simp
 | a::l,0=>by simp
 | a::l,n+1=>by
  rw [List.flatMap_cons,List.take_succ_cons,List.flatMap_cons,Nat.succ_mul,Nat.add_comm,← hf a,List.take_length_add_append,hf a,take_flat hf l n]
end Go.Pv.T

/- The reference's sorting of values. -/
namespace Go.Pv.T
open Go Go.Pv
section
variable {E:Env} {st:St} {ub:Nat} {K:List FP→St→Prop} {d:Option Nat} {nm:Bool} {r:List AOpr}
theorem nbeq {a b:Nat} (h:a≠b):a.beq b=false:=by
 cases e:a.beq b
 ·rfl
 ·exact absurd (Nat.eq_of_beq_eq_true e) h
@[simp] theorem valC_strip1 (v:Val'):(valC v).map V.strip1=valC v:=rfl
end
theorem posV_le (v:Val'):∀ l:List Val',posV v l≤l.length
 | []=>Nat.le_refl _
 | x::l=>by
  have:=posV_le v l
  simp only [posV,List.length_cons]
  split <;> omega
theorem insV_len (l:List Val') (v:Val'):(insV l v).length≤l.length+1:=by
 have:=posV_le v l
 unfold insV
 split
 ·omega
 ·simp;omega
def sortTo (l:List Val') (i:Nat):List Val':=((l.take i).filter valB).foldl insV []
theorem sortTo_succ (l:List Val') {i:Nat} (h:i<l.length):sortTo l (i+1)=if valB l[i] then insV (sortTo l i) l[i] else sortTo l i:=by
 unfold sortTo
 rw [List.take_succ_eq_append_getElem h,List.filter_append,List.foldl_append]
 simp only [List.filter_cons,List.filter_nil]
 split <;> rfl
theorem sortTo_len (l:List Val'):∀ i,i≤l.length→(sortTo l i).length≤i
 | 0,_=>by simp [sortTo]
 | i+1,h=>by
  have ih:=sortTo_len l i (by omega)
  rw [sortTo_succ l (by omega)]
  split
  ·have:=insV_len (sortTo l i) (l[i]'(by omega))
   omega
  ·omega
theorem val_pure (l:List Val'):(l.flatMap valC).all V.pureLeaf=true:=by
 rw [List.all_eq_true]
 intro v hv
 obtain ⟨n,_,hn⟩:=List.mem_flatMap.1 hv
 simp only [valC,List.mem_cons,List.not_mem_nil,or_false] at hn
 rcases hn with rfl | rfl <;> rfl
end Go.Pv.T

/- slices.Compact, of values of one's own. -/
namespace Go.Pv.T
open Go Go.Pv
theorem slSl2_from {L u n i:Nat} (h:i≤n):slSlV 2 (some (.int .i64 (i:Int))) none (.osl L u 0 n 2)=some (.osl L u (i * 2) (n - i) 2):=by
 have h':(i:Int)≤n:=by omega
 simp [slSlV,bounds]
 omega
theorem slSl2_to {L u n i:Nat} (h:i≤n):slSlV 2 none (some (.int .i64 (i:Int))) (.osl L u 0 n 2)=some (.osl L u 0 i 2):=by
 have h':(i:Int)≤n:=by omega
 simp [slSlV,bounds,h']
theorem idx2 {l u off n x:Nat} {kk:IntKind} {X:Int} (hX:X=(x:Nat)) (hx:x<n):idxSlV 2 (.osl l u off n 2) (.int kk X)=some (.ptr l u (off+x * 2)):=by
 subst hX
 have:(x:Int)<n:=by omega
 simp [idxSlV,this]
theorem ld2 {ob:Nat→Option Obj'} {l u:Nat} {M:List Val'} {x:Nat} (ho:ob l=some ⟨u,.cells (M.flatMap valC)⟩) (hx:x<M.length):loadV ob (some 2) (.ptr l u (x * 2))=some (.agg (valC M[x])):=by
 have h:=load_val ob M hx
 rw [← h]
 simp only [loadV,objCells,ho,if_true,Option.bind_some]
theorem st2 {M:List Val'} {x:Nat} (hx:x<M.length) (v:Val'):splice (M.flatMap valC) (x * 2) (valC v)=(M.set x v).flatMap valC:=flat_set valC_len v M x hx
def compTo (T:List Val'):Nat→List Val'
 | 0=>[]
 | j+1=>compTo T j++(if 0<j∧T[j - 1]? = T[j]? then [] else T[j]?.toList)
theorem compTo_len (T:List Val'):∀ j,j≤T.length→(compTo T j).length≤j
 | 0,_=>by simp [compTo]
 | j+1,h=>by
  have:=compTo_len T j (by omega)
  simp only [compTo,List.length_append,List.getElem?_eq_getElem (show j<T.length by omega)]
  split <;> simp <;> omega
theorem compTo_eq {T:List Val'} {j:Nat} (h0:0<j) (h:j<T.length) (he:T[j]=T[j - 1]):compTo T (j+1)=compTo T j:=by
 simp only [compTo]
 rw [if_pos ⟨h0,by rw [List.getElem?_eq_getElem (by omega),List.getElem?_eq_getElem h,he]⟩,List.append_nil]
theorem compTo_ne {T:List Val'} {j:Nat} (h:j<T.length) (he:0<j→T[j]≠T[j - 1]):compTo T (j+1)=compTo T j++[T[j]]:=by
 simp only [compTo]
 rw [if_neg,List.getElem?_eq_getElem h]
 ·rfl
 ·rintro ⟨h0,h1⟩
  rw [List.getElem?_eq_getElem (by omega),List.getElem?_eq_getElem h] at h1
  exact he h0 (Option.some.inj h1).symm
def CompP (l u n:Nat) (C:List Val') (ob:Nat→Option Obj') (tk:Nat→Bool) (ub:Nat) (r:V × (Nat→Option Obj') × (Nat→Bool) × Nat):Prop :=
 r.1 = .osl l u 0 C.length 2∧(∃ cs,r.2.1 l=some ⟨u,.cells cs⟩∧cs.length=n * 2∧C.length≤n∧cs.take (C.length * 2)=C.flatMap valC)∧(∀ key,key≠l→r.2.1 key=ob key)∧r.2.2.1=tk∧ub≤r.2.2.2
set_option maxRecDepth 100000 in
theorem sv123 {Yf:YF} {l u:Nat} {T:List Val'} (hT:T.length≤100000) {ob:Nat→Option Obj'} {tk:Nat→Bool} {ro base ub:Nat} (ho:ob l=some ⟨u,.cells (T.flatMap valC)⟩) (hro:ro≤u) :
 ∃ r,EvS E Yf.y 123 [.osl l u 0 T.length 2] ob tk ro base ub r∧CompP l u T.length (compTo T T.length) ob tk ub r:=by
 refine EvS_wp (af:=S123) rfl (by decide) ?_
 show wpC E Yf S123.body _ (kEndS S123.res _)
 have hTl:=flatMap_len valC_len T
 by_cases h2:T.length<2
 ·have hc:compTo T T.length=T:=by
   match T,h2 with
   | [],_=>rfl
   | [x],_=>rfl
   | _::_::_,h=>simp at h;omega
  have h2':(T.length:Int)<2:=by omega
  rw [hc]
  simp [S123,h2']
  exact endS_1 (by simp) ⟨by simp,⟨_,by simpa using ho,hTl,Nat.le_refl _,List.take_of_length_le (by omega)⟩,fun key h=>by simp,by simp,by simp;omega⟩
 have h2':¬ (T.length:Int)<2:=by omega
 simp [S123,h2']
 refine wp_loopUp [(2,5),(10,59)] (T.length - 1) (fun k s=>s.tm 3 = .int .i64 ((1+k:Nat):Int)∧compTo T (1+k)=T.take (1+k)∧s.ob=ob∧s.tk=tk∧ub≤s.nx) rfl rfl ⟨by simp,?_,by simp,by simp,by simp;omega⟩ ?_
 ·rw [Nat.add_zero,compTo_ne (T:=T) (j:=0) (by omega) (fun h=>absurd h (by omega)),List.take_succ_eq_append_getElem (by omega)]
  rfl
 rintro k s hk ⟨h3,hct,hob,hst,hnx⟩ f
 have f0:s.tm 0 = .osl l u 0 T.length 2:=by rw [f.t 0 (by simp)];simp
 have fd:s.df=[]:=by rw [f.d];simp
 have fr:s.ro=ro:=by rw [f.r];simp
 clear f
 obtain ⟨q,hq⟩:∃ q,1+k=q:=⟨_,rfl⟩
 rw [hq] at h3 hct
 by_cases hlt:q<T.length
 ·have hqi:(q:Int)<T.length:=by omega
  have hw:=wrapU hlt (by omega)
  have hw1:IntKind.i64.wrap ((q:Int) - 1)=((q - 1:Nat):Int):=by rw [wrapN (by omega) (by omega)];omega
  have i1:=idx2 (l:=l) (u:=u) (off:=0) (n:=T.length) (kk:=.i64) (X:=(q:Int)) rfl hlt
  have i0:=idx2 (l:=l) (u:=u) (off:=0) (n:=T.length) (kk:=.i64) (X:=((q - 1:Nat):Int)) rfl (by omega)
  have l1:=ld2 ho hlt
  have l0:=ld2 ho (show q - 1<T.length by omega)
  have hcs:T[q]=T[q - 1]→compTo T (q+1)=compTo T q:=compTo_eq (by omega) hlt
  have hcn:T[q]≠T[q - 1]→compTo T (q+1)=compTo T q++[T[q]]:=fun h=>compTo_ne hlt fun _=>h
  have htk:T.take (q+1)=T.take q++[T[q]]:=List.take_succ_eq_append_getElem hlt
  have hve:=val_eq T[q] (T[q - 1]'(by omega))
  rw [Nat.zero_add] at i1 i0
  generalize hx:T[q]=x at *
  generalize hy:T[q - 1]'(by omega)=y at *
  generalize hQ1:((q - 1:Nat):Int)=Q1 at *
  cases hxy:(x == y)
  ·have hne:x≠y:=by simpa using hxy
   rw [hxy] at hve
   simp [h3,f0,hqi,hw1,i1,i0,hob,l1,l0]
   simp [valC,← hve,h3,hw]
   refine ⟨by omega,by omega,?_,hob,hst,by omega⟩
   rw [show 1+(k+1)=q+1 by omega,hcn hne,hct,htk]
  ·have he:x=y:=by simpa using hxy
   rw [hxy] at hve
   simp [h3,f0,hqi,hw1,i1,i0,hob,l1,l0]
   have hsf:=slSl2_from (L:=l) (u:=u) (n:=T.length) (i:=q) (by omega)
   simp [valC,← hve,h3,f0,hsf]
   refine wp_loopUp [(3,3),(5,5),(29,53)] (T.length - q - 1) (fun j s=>s.tm 5 = .int .i64 ((1+j:Nat):Int)∧∃ w:Nat,s.tm 3 = .int .i64 (w:Int)∧w=(compTo T (q+1+j)).length ∧
    (∃ M:List Val',s.ob l=some ⟨u,.cells (M.flatMap valC)⟩∧M.length=T.length∧M.take w=compTo T (q+1+j)∧∀ m,q+j≤m→M[m]? = T[m]?)∧(∀ key,key≠l→s.ob key=ob key)∧s.tk=tk∧ub≤s.nx) rfl rfl
    ⟨by simp,q,by simp [h3],?_,⟨T,by simp [hob,ho],rfl,?_,fun _ _=>rfl⟩,fun key h=>by simp [hob],by simp [hst],by simp;omega⟩ ?_
   ·rw [Nat.add_zero,hcs he,hct,List.length_take];omega
   ·rw [Nat.add_zero,hcs he,hct]
   clear hnx hst hob h3
   rintro j s1 hj ⟨g5,w,g3,hwl,⟨M,gM,hMl,hMt,hMr⟩,goth,gtk,gnx⟩ f
   have g0:s1.tm 0 = .osl l u 0 T.length 2:=by rw [f.t 0 (by simp)];simp [f0]
   have g4:s1.tm 4 = .osl l u (q * 2) (T.length - q) 2:=by rw [f.t 4 (by simp)];simp
   have gd:s1.df=[]:=by rw [f.d];simp [fd]
   have gr:s1.ro=ro:=by rw [f.r];simp [fr]
   clear f
   obtain ⟨p,hp⟩:∃ p,1+j=p:=⟨_,rfl⟩
   rw [hp] at g5
   rw [show q+1+j=q+p by omega] at hwl hMt
   have hwle:=compTo_len T (q+p) (by omega)
   have hwlt:w≤q+j:=by
    have e1:compTo T (q+1)=T.take q:=by rw [hcs he,hct]
    have key:∀ j,q+1+j≤T.length→(compTo T (q+1+j)).length≤q+j:=by
     intro j
     induction j with
     | zero=>intro _;rw [Nat.add_zero,e1,List.length_take];omega
     | succ j ih =>
      intro h
      have:=ih (by omega)
      rw [← Nat.add_assoc]
      simp only [compTo,List.length_append,List.getElem?_eq_getElem (show q+1+j<T.length by omega)]
      split <;> simp <;> omega
    have:=key j (by omega)
    rw [show q+1+j=q+p by omega] at this
    omega
   by_cases hlt2:p<T.length - q
   ·have hqp:q+p<T.length:=by omega
    have hpi:(p:Int)<((T.length - q:Nat):Int):=by omega
    have hwp:=wrapU (i:=p) (N:=T.length) (by omega) (by omega)
    have hwp1:IntKind.i64.wrap ((p:Int) - 1)=((p - 1:Nat):Int):=by rw [wrapN (by omega) (by omega)];omega
    have hww:=wrapU (i:=w) (N:=T.length) (by omega) (by omega)
    have k1:=idx2 (l:=l) (u:=u) (off:=q * 2) (n:=T.length - q) (kk:=.i64) (X:=(p:Int)) rfl hlt2
    have k0:=idx2 (l:=l) (u:=u) (off:=q * 2) (n:=T.length - q) (kk:=.i64) (X:=((p - 1:Nat):Int)) rfl (by omega)
    have kw:=idx2 (l:=l) (u:=u) (off:=0) (n:=T.length) (kk:=.i64) (X:=(w:Int)) rfl (by omega)
    rw [show q * 2+p * 2=(q+p) * 2 by omega] at k1
    rw [show q * 2+(p - 1) * 2=(q+p - 1) * 2 by omega] at k0
    rw [Nat.zero_add] at kw
    have hM1:M[q+p]'(by omega)=T[q+p]:=by
     have:=hMr (q+p) (by omega)
     rw [List.getElem?_eq_getElem (by omega),List.getElem?_eq_getElem hqp] at this
     exact Option.some.inj this
    have hM0:M[q+p - 1]'(by omega)=T[q+p - 1]'(by omega):=by
     have:=hMr (q+p - 1) (by omega)
     rw [List.getElem?_eq_getElem (by omega),List.getElem?_eq_getElem (by omega)] at this
     exact Option.some.inj this
    have m1:=ld2 gM (show q+p<M.length by omega)
    have m0:=ld2 gM (show q+p - 1<M.length by omega)
    rw [hM1] at m1
    rw [hM0] at m0
    have hMf:=flatMap_len valC_len M
    have hss:=st2 (M:=M) (x:=w) (by omega) T[q+p]
    have hcs2:T[q+p]=T[q+p - 1]'(by omega)→compTo T (q+p+1)=compTo T (q+p):=compTo_eq (by omega) hqp
    have hcn2:T[q+p]≠T[q+p - 1]'(by omega)→compTo T (q+p+1)=compTo T (q+p)++[T[q+p]]:=fun h=>compTo_ne hqp fun _=>h
    have hve2:=val_eq T[q+p] (T[q+p - 1]'(by omega))
    have hle:w * 2+2≤T.length * 2:=by omega
    generalize hx2:T[q+p]=x2 at *
    generalize hy2:T[q+p - 1]'(by omega)=y2 at *
    generalize hQ2:((p - 1:Nat):Int)=Q2 at *
    generalize hQ3:((T.length - q:Nat):Int)=Q3 at *
    cases hxy2:(x2 == y2)
    ·have hne2:x2≠y2:=by simpa using hxy2
     rw [hxy2] at hve2
     simp [g5,g4,hQ3,hpi,hwp1,k1,k0,m1,m0]
     simp [valC] at hss
     simp [valC,← hve2,g5,g4,g3,g0,hwp,hww,k1,m1,kw,objCells,gM,hMf,hMl,hle,gr,hro,hss]
     refine ⟨by omega,by omega,w+1,rfl,?_,⟨M.set w x2,rfl,by simp [hMl],?_,fun m hm=>?_⟩,fun key h=>by simp [h,goth],by simp [app_tk0,gtk],by omega⟩
     ·rw [show q+1+(j+1)=q+p+1 by omega,hcn2 hne2,List.length_append,← hwl];rfl
     ·rw [show q+1+(j+1)=q+p+1 by omega,hcn2 hne2,← hMt]
      rw [List.take_set,List.take_succ_eq_append_getElem (show w<M.length by omega),List.set_append_right _ _ (by rw [List.length_take];omega),List.length_take,Nat.min_eq_left (by omega),Nat.sub_self]
      rfl
     ·rw [List.getElem?_set_ne (by omega)]
      exact hMr m (by omega)
    ·have he2:x2=y2:=by simpa using hxy2
     rw [hxy2] at hve2
     simp [g5,g4,hQ3,hpi,hwp1,k1,k0,m1,m0]
     simp [valC,← hve2,g5,hwp]
     exact ⟨by omega,by omega,w,g3,by rw [show q+1+(j+1)=q+p+1 by omega,hcs2 he2];exact hwl,⟨M,gM,hMl,by rw [show q+1+(j+1)=q+p+1 by omega,hcs2 he2];exact hMt,fun m hm=>hMr m (by omega)⟩,goth,gtk,by omega⟩
   ·have hpe:q+p=T.length:=by omega
    rw [hpe] at hwl hMt
    have hpi:¬ (p:Int)<((T.length - q:Nat):Int):=by omega
    generalize hQ3:((T.length - q:Nat):Int)=Q3 at *
    have hwn:w≤T.length:=by omega
    have hsf2:=slSl2_from (L:=l) (u:=u) hwn
    have hst2:=slSl2_to (L:=l) (u:=u) hwn
    have hMf:=flatMap_len valC_len M
    simp [g5,g4,hQ3,hpi,g0,g3,hsf2]
    refine kS_clear (l:=l) (u:=u) (off:=w * 2) (n:=T.length - w) (cs:=M.flatMap valC) (by simp) (by simp [gM]) (by simp [gr,hro]) rfl (by rw [hMf];omega) ?_
    simp [g0,g3,hst2]
    refine endS_1 (by simp [gd]) ⟨by simp [hwl],⟨_,by simp;rfl,?_,by omega,?_⟩,fun key h=>by simp [h,goth],by simp [app_tk0,gtk],by simp;omega⟩
    ·unfold splice
     have hrl:(repl (T.length - w) [V.int .i64 0,V.int .i64 0]).length=(T.length - w) * 2:=by simp [repl]
     simp only [List.length_append,List.length_take,List.length_drop,hMf,hrl]
     omega
    ·rw [← hwl,← hMt]
     unfold splice
     rw [List.append_assoc,List.take_append_of_le_length (by rw [List.length_take,hMf];omega),List.take_take,Nat.min_self]
     exact take_flat valC_len M w
 ·have:q=T.length:=by omega
  subst this
  simp [h3,f0]
  rw [List.take_length] at hct
  rw [hct]
  exact endS_1 (by simp [fd]) ⟨by simp,⟨_,by simp [hob,ho],hTl,Nat.le_refl _,List.take_of_length_le (by omega)⟩,fun key h=>by simp [hob],by simp [hst],by simp;omega⟩
end Go.Pv.T

/- The reference's Raw, plain. -/
namespace Go.Pv.T
open Go Go.Pv
structure RwS where
 c:List Bool
 d:List Bool
 hop:Bool
 more:Bool
def RwS.left (r:RwS) (g:Hist') (t k:Nat):List Int:=(ofH g t k).filter fun x=>decide (x<0) || !(r.d.getD x.toNat false)
def RwS.sole (r:RwS) (g:Hist') (t:Nat) (l:List Op'):Nat→Bool × List Int
 | 0=>(false,[])
 | k+1=>match l[k]? with
  | some o =>
   if !outerB g t k || o.v.kind == 2 then r.sole g t l k else
   ((r.sole g t l k).1 || (r.left g t k).length == 0,
    if (r.left g t k).length == 1 && decide (0≤(r.left g t k).headD 0) then (r.sole g t l k).2++[(r.left g t k).headD 0] else (r.sole g t l k).2)
  | none=>r.sole g t l k
def RwS.learn (r:RwS) (t:Nat):List Int→RwS
 | []=>r
 | x::xs=>if r.c.getD t false then (if r.c.getD x.toNat false then r.learn t xs else { r with c:=r.c.set x.toNat true,more:=true }.learn t xs) else r
def RwS.fails (r:RwS) (f:Int) (t:Nat):RwS :=
 if f=1 then { r with hop:=true } else if f=3 then (if r.d.getD t false then r else { r with d:=r.d.set t true,more:=true }) else r
def RwS.txn (r:RwS) (g:Hist') (t:Nat) (f:Int) (l:List Op'):RwS :=
 (if (r.sole g t l l.length).1 || !(badH g t).isEmpty then r.fails f t else r).learn t (r.sole g t l l.length).2
def Alike (n:Nat) (s:KnS) (r:RwS):Prop :=
 r.c.length=n∧r.d.length=n∧(∀ i,i<n→r.c.getD i false=decide (0<mcnt s.m i))∧(∀ i,i<n→r.d.getD i false=decide (0<mcnt s.n i))∧s.hop=r.hop∧s.more=r.more∧∀ x:Int,x<0→mcnt s.n x=0
theorem ofH_ne {g:Hist'} {t:Nat} {b x:Int} (h:x∈ofH g t b):x≠t:=by
 unfold ofH at h
 split at h
 ·split at h
  ·simp at h
  ·rename_i o _ _
   unfold ofL ofStart at h
   rcases List.mem_append.1 h with h | h
   ·split at h
    ·simp at h
    ·simp at h;omega
   ·have:=(List.mem_filter.1 h).2
    simp only [Bool.and_eq_true,Bool.not_eq_true',beq_eq_false_iff_ne,ne_eq] at this
    exact this.1
 ·simp at h
theorem left_alike {g:Hist'} {s:KnS} {r:RwS} {t k:Nat} (hd:∀ i,i<g.ts.length→i≠t→r.d.getD i false=decide (0<mcnt s.n i)) (hn:∀ x:Int,x<0→mcnt s.n x=0):s.left g t k=r.left g t k:=by
 unfold KnS.left RwS.left
 refine List.filter_congr fun x hx=>?_
 have hlt:=ofH_lt hx
 have hne:=ofH_ne hx
 by_cases h0:x<0
 ·simp [hn x h0,h0]
 ·obtain ⟨i,rfl⟩:∃ i:Nat,x=i:=⟨x.toNat,by omega⟩
  have:=hd i (by omega) (by omega)
  simp only [Int.toNat_natCast,this,h0,decide_false,Bool.false_or]
theorem Alike.fails {n:Nat} {s:KnS} {r:RwS} (h:Alike n s r) {f:Int} {t:Nat} (ht:t<n) (hp:0≤mcnt s.n t):Alike n (s.fails f t) (r.fails f t):=by
 obtain ⟨h1,h2,h3,h4,h5,h6,h7⟩:=h
 unfold KnS.fails RwS.fails
 by_cases f1:f=1
 ·simp only [f1,if_true]
  exact ⟨h1,h2,h3,h4,rfl,h6,h7⟩
 ·by_cases f3:f=3
  ·rw [if_neg f1,if_neg f1,if_pos f3,if_pos f3]
   unfold KnS.learnN
   by_cases h0:mcnt s.n t=0
   ·have hr:r.d.getD t false=false:=by rw [h4 t ht,h0];rfl
    rw [if_pos h0,hr]
    simp only [Bool.false_eq_true,if_false]
    refine ⟨h1,by simp [h2],h3,fun i hi=>?_,h5,rfl,fun x hx=>?_⟩
    ·simp only [mcnt_set]
     by_cases e:i=t
     ·subst e
      simp [List.getD_eq_getElem?_getD,List.getElem?_set,h2,hi]
     ·have e':¬ (i:Int)=t:=by omega
      have e2:¬ (t:Int)=i:=by omega
      have:=h4 i hi
      simp [e',e2,List.getD_eq_getElem?_getD,List.getElem?_set,Ne.symm e] at this ⊢
      exact this
    ·simp only [mcnt_set]
     rw [if_neg (by omega)]
     exact h7 x hx
   ·have hr:r.d.getD t false=true:=by rw [h4 t ht];simp;omega
    rw [if_neg h0,hr]
    simp only [if_true]
    exact ⟨h1,h2,h3,h4,h5,h6,h7⟩
  ·rw [if_neg f1,if_neg f1,if_neg f3,if_neg f3]
   exact ⟨h1,h2,h3,h4,h5,h6,h7⟩
def RwS.com (r:RwS) (x:Nat):RwS:=if r.c.getD x false then r else { r with c:=r.c.set x true,more:=true }
theorem Alike.learnM {n:Nat} {s:KnS} {r:RwS} (h:Alike n s r) {t:Nat} (ht:t<n) (hp:0≤mcnt s.m t):Alike n (s.learnM t) (r.com t):=by
 obtain ⟨h1,h2,h3,h4,h5,h6,h7⟩:=h
 unfold KnS.learnM RwS.com
 by_cases h0:mcnt s.m t=0
 ·have hr:r.c.getD t false=false:=by rw [h3 t ht,h0];rfl
  rw [if_pos h0,hr]
  simp only [Bool.false_eq_true,if_false]
  refine ⟨by simp [h1],h2,fun i hi=>?_,h4,h5,rfl,h7⟩
  simp only [mcnt_set]
  by_cases e:i=t
  ·subst e
   simp [List.getD_eq_getElem?_getD,List.getElem?_set,h1,hi]
  ·have e':¬ (i:Int)=t:=by omega
   have:=h3 i hi
   simp [e',List.getD_eq_getElem?_getD,List.getElem?_set,Ne.symm e] at this ⊢
   exact this
 ·have hr:r.c.getD t false=true:=by rw [h3 t ht];simp;omega
  rw [if_neg h0,hr]
  simp only [if_true]
  exact ⟨h1,h2,h3,h4,h5,h6,h7⟩
end Go.Pv.T

/- A transaction told in whatever order. -/
namespace Go.Pv.T
open Go Go.Pv
theorem KnS.fails_learnM (s:KnS) (f t x:Int):(s.learnM x).fails f t=(s.fails f t).learnM x:=by
 unfold KnS.fails KnS.learnM KnS.learnN
 by_cases f1:f=1
 ·simp only [f1,if_true]
  split <;> rfl
 ·by_cases f3:f=3
  ·rw [if_neg f1,if_neg f1,if_pos f3,if_pos f3]
   by_cases h0:mcnt s.m x=0 <;> by_cases h1:mcnt s.n t=0 <;> simp [h0,h1]
  ·rw [if_neg f1,if_neg f1,if_neg f3,if_neg f3]
theorem KnS.fails_fails (s:KnS) (f t:Int):(s.fails f t).fails f t=s.fails f t:=by
 unfold KnS.fails KnS.learnN
 by_cases f1:f=1
 ·simp [f1]
 ·by_cases f3:f=3
  ·rw [if_neg f1,if_pos f3]
   by_cases h1:mcnt s.n t=0
   ·simp [h1,f1,f3,mcnt_set]
   ·simp [h1,f1,f3]
  ·simp [f1,f3]
def KnS.learnAll (s:KnS):List Int→KnS
 | []=>s
 | x::xs=>(s.learnM x).learnAll xs
theorem KnS.learnAll_append (s:KnS) (x:Int):∀ xs:List Int,s.learnAll (xs++[x])=(s.learnAll xs).learnM x:=by
 intro xs
 induction xs generalizing s with
 | nil=>rfl
 | cons y ys ih=>exact ih (s.learnM y)
theorem KnS.fails_learnAll (f t:Int):∀ (xs:List Int) (s:KnS),(s.learnAll xs).fails f t=(s.fails f t).learnAll xs
 | [],_=>rfl
 | x::xs,s=>by
  show ((s.learnM x).learnAll xs).fails f t=((s.fails f t).learnM x).learnAll xs
  rw [KnS.fails_learnAll f t xs,KnS.fails_learnM]
theorem KnS.learnM_n (s:KnS) (x:Int):(s.learnM x).n=s.n:=by unfold KnS.learnM;split <;> rfl
theorem KnS.learnAll_n:∀ (xs:List Int) (s:KnS),(s.learnAll xs).n=s.n
 | [],_=>rfl
 | x::xs,s=>(KnS.learnAll_n xs (s.learnM x)).trans (s.learnM_n x)
theorem KnS.learnM_m (s:KnS) {x t:Int} (h:x≠t):mcnt (s.learnM x).m t=mcnt s.m t:=by
 unfold KnS.learnM
 split
 ·simp only [mcnt_set]
  rw [if_neg (Ne.symm h)]
 ·rfl
theorem KnS.learnAll_m {t:Int}:∀ (xs:List Int) (s:KnS),(∀ x∈xs,x≠t)→mcnt (s.learnAll xs).m t=mcnt s.m t
 | [],_,_=>rfl
 | x::xs,s,h=>(KnS.learnAll_m xs (s.learnM x) fun y hy=>h y (List.mem_cons_of_mem _ hy)).trans (s.learnM_m (h x (List.mem_cons_self ..)))
theorem KnS.fails_m (s:KnS) (f t:Int):(s.fails f t).m=s.m:=by
 unfold KnS.fails KnS.learnN
 split
 ·rfl
 ·split
  ·split <;> rfl
  ·rfl
theorem KnS.fails_n (s:KnS) (f t:Int) {x:Int} (h:x≠t):mcnt (s.fails f t).n x=mcnt s.n x:=by
 unfold KnS.fails KnS.learnN
 split
 ·rfl
 ·split
  ·split
   ·simp only [mcnt_set]
    rw [if_neg h]
   ·rfl
  ·rfl
theorem KnS.left_same {g:Hist'} {s s':KnS} {t k:Nat} (h:∀ x:Int,x≠t→mcnt s.n x=mcnt s'.n x):s.left g t k=s'.left g t k:=by
 unfold KnS.left
 refine List.filter_congr fun x hx=>?_
 rw [h x (ofH_ne hx)]
def KnS.told (s:KnS) (g:Hist') (t:Nat) (l:List Op'):Nat→Bool × List Int
 | 0=>(false,[])
 | k+1=>match l[k]? with
  | some o =>
   if o.v.kind == 2 || !outerB g t k then s.told g t l k else
   if (s.left g t k).length=0 then (true,(s.told g t l k).2) else
   if (s.left g t k).length == 1 && decide (0≤(s.left g t k).headD 0) then ((s.told g t l k).1,(s.told g t l k).2++[(s.left g t k).headD 0]) else s.told g t l k
  | none=>s.told g t l k
theorem KnS.left_mem {g:Hist'} {s:KnS} {t k:Nat} (h:(s.left g t k).length≠0):(s.left g t k).headD 0≠t:=by
 cases hl:s.left g t k with
 | nil=>rw [hl] at h;exact absurd rfl h
 | cons x r =>
  have hm:x∈s.left g t k:=by rw [hl];exact List.mem_cons_self ..
  exact ofH_ne (List.mem_filter.1 hm).1
theorem KnS.told_ne {g:Hist'} {s:KnS} {t:Nat} {l:List Op'}:∀ k,∀ x∈(s.told g t l k).2,x≠t
 | 0,x,h=>by simp [KnS.told] at h
 | k+1,x,h=>by
  simp only [KnS.told] at h
  split at h
  ·split at h
   ·exact KnS.told_ne k x h
   ·split at h
    ·exact KnS.told_ne k x h
    ·rename_i h0
     split at h
     ·rcases List.mem_append.1 h with h | h
      ·exact KnS.told_ne k x h
      ·rw [List.mem_singleton.1 h]
       exact KnS.left_mem h0
     ·exact KnS.told_ne k x h
  ·exact KnS.told_ne k x h
theorem KnS.ops_told {g:Hist'} (s:KnS) (f:Int) (t:Nat) (l:List Op'):∀ k,s.ops g f t l k=(if (s.told g t l k).1 then s.fails f t else s).learnAll (if 0<mcnt s.m t then (s.told g t l k).2 else [])
 | 0=>by
  simp only [KnS.ops,KnS.told,Bool.false_eq_true,if_false]
  split <;> rfl
 | k+1=>by
  cases ho:l[k]? with
  | none =>
   simp only [KnS.ops,KnS.told,ho]
   exact KnS.ops_told s f t l k
  | some o =>
   simp only [KnS.ops,KnS.told,ho]
   rw [KnS.ops_told s f t l k]
   have hne:=KnS.told_ne (g:=g) (s:=s) (t:=t) (l:=l) k
   generalize hB:(if (s.told g t l k).1 then s.fails f t else s)=B
   generalize hL:(if 0<mcnt s.m t then (s.told g t l k).2 else [])=L
   have hBn:∀ x:Int,x≠t→mcnt B.n x=mcnt s.n x:=fun x hx=>by
    rw [← hB];split
    ·exact s.fails_n f t hx
    ·rfl
   have hBm:mcnt B.m t=mcnt s.m t:=by
    rw [← hB];split
    ·rw [s.fails_m]
    ·rfl
   have hLne:∀ x∈L,x≠(t:Int):=fun x hx=>by
    rw [← hL] at hx
    split at hx
    ·exact hne x hx
    ·simp at hx
   have hleft:(B.learnAll L).left g t k=s.left g t k:=KnS.left_same fun x hx=>by rw [KnS.learnAll_n];exact hBn x hx
   have hm:mcnt (B.learnAll L).m t=mcnt s.m t:=by rw [KnS.learnAll_m L B hLne];exact hBm
   have hBf:B.fails f t=s.fails f t:=by
    rw [← hB];split
    ·exact s.fails_fails f t
    ·rfl
   unfold KnS.op
   rw [hleft,hm]
   by_cases c0:(o.v.kind == 2 || !outerB g t k)=true
   ·rw [if_pos c0,if_pos c0,hB,hL]
   ·rw [if_neg c0,if_neg c0]
    by_cases c1:(s.left g t k).length=0
    ·rw [if_pos c1,if_pos c1,KnS.fails_learnAll,hBf]
     simp only [if_true]
     rw [hL]
    ·rw [if_neg c1,if_neg c1]
     by_cases c2:((s.left g t k).length == 1 && decide (0≤(s.left g t k).headD 0))=true
     ·rw [if_pos c2]
      simp only [hB]
      simp only [Bool.and_eq_true] at c2
      by_cases c3:0<mcnt s.m t
      ·rw [if_pos (by simp only [c2.1,c2.2,c3,decide_true,Bool.and_self]),if_pos c3,← hL,if_pos c3,KnS.learnAll_append]
      ·rw [if_neg (by simp [c3]),if_neg c3,← hL,if_neg c3]
     ·rw [if_neg c2,hB,hL,if_neg ?_]
      intro h
      simp only [Bool.and_eq_true] at h c2
      exact c2 ⟨h.1,h.2.1⟩
theorem told_sole {g:Hist'} {s:KnS} {r:RwS} {t:Nat} (hd:∀ i,i<g.ts.length→i≠t→r.d.getD i false=decide (0<mcnt s.n i)) (hn:∀ x:Int,x<0→mcnt s.n x=0) (l:List Op'):∀ k,s.told g t l k=r.sole g t l k
 | 0=>rfl
 | k+1=>by
  have ih:=told_sole hd hn l k
  cases ho:l[k]? with
  | none=>simp only [KnS.told,RwS.sole,ho,ih]
  | some o =>
   have hl:=left_alike (k:=k) hd hn
   simp only [KnS.told,RwS.sole,ho,ih,← hl]
   rw [Bool.or_comm (!outerB g t k) (o.v.kind == 2)]
   by_cases c0:(o.v.kind == 2 || !outerB g t k)=true
   ·rw [if_pos c0,if_pos c0]
   ·rw [if_neg c0,if_neg c0]
    by_cases c1:(s.left g t k).length=0
    ·rw [if_pos c1]
     simp [c1]
    ·rw [if_neg c1]
     have c1':((s.left g t k).length == 0)=false:=by simpa using c1
     rw [c1',Bool.or_false]
     split <;> rfl
end Go.Pv.T

/- Both learn the same. -/
namespace Go.Pv.T
open Go Go.Pv
def KnS.Pos (s:KnS):Prop:=∀ x:Int,0≤mcnt s.m x∧0≤mcnt s.n x
theorem KnS.Pos.learnM {s:KnS} (h:s.Pos) (t:Int):(s.learnM t).Pos:=by
 unfold KnS.learnM
 split
 ·intro x
  refine ⟨?_,(h x).2⟩
  simp only [mcnt_set]
  split
  ·decide
  ·exact (h x).1
 ·exact h
theorem KnS.Pos.learnN {s:KnS} (h:s.Pos) (t:Int):(s.learnN t).Pos:=by
 unfold KnS.learnN
 split
 ·intro x
  refine ⟨(h x).1,?_⟩
  simp only [mcnt_set]
  split
  ·decide
  ·exact (h x).2
 ·exact h
theorem KnS.Pos.fails {s:KnS} (h:s.Pos) (f t:Int):(s.fails f t).Pos:=by
 unfold KnS.fails
 split
 ·exact h
 ·split
  ·exact h.learnN t
  ·exact h
theorem KnS.Pos.learnAll:∀ (xs:List Int) {s:KnS},s.Pos→(s.learnAll xs).Pos
 | [],_,h=>h
 | x::xs,_,h=>KnS.Pos.learnAll xs (h.learnM x)
def RwS.comAll (r:RwS):List Int→RwS
 | []=>r
 | x::xs=>(r.com x.toNat).comAll xs
theorem RwS.com_c {r:RwS} {x t:Nat} (h:r.c.getD t false=true):(r.com x).c.getD t false=true:=by
 unfold RwS.com
 split
 ·exact h
 ·rw [List.getD_eq_getElem?_getD] at h
  simp only [List.getD_eq_getElem?_getD,List.getElem?_set]
  split
  ·rename_i e
   subst e
   split
   ·rfl
   ·rename_i e
    rw [List.getElem?_eq_none (by omega)] at h
    cases h
  ·exact h
theorem RwS.learn_all (t:Nat):∀ (xs:List Int) (r:RwS),r.learn t xs=if r.c.getD t false then r.comAll xs else r
 | [],r=>by simp [RwS.learn,RwS.comAll]
 | x::xs,r=>by
  simp only [RwS.learn,RwS.comAll]
  by_cases h:r.c.getD t false=true
  ·rw [if_pos h,if_pos h]
   have hc:=RwS.com_c (x:=x.toNat) h
   unfold RwS.com at hc ⊢
   by_cases h2:r.c.getD x.toNat false=true
   ·rw [if_pos h2,if_pos h2,RwS.learn_all t xs r,if_pos h]
   ·rw [if_neg h2] at hc
    rw [if_neg h2,if_neg h2,RwS.learn_all t xs,if_pos hc]
  ·rw [if_neg h,if_neg h]
theorem Alike.learnAll {n:Nat}:∀ (xs:List Int) {s:KnS} {r:RwS},Alike n s r→s.Pos→(∀ x∈xs,0≤x∧x<n)→Alike n (s.learnAll xs) (r.comAll xs)
 | [],_,_,h,_,_=>h
 | x::xs,s,r,h,hp,hx=>by
  obtain ⟨h0,h1⟩:=hx x (List.mem_cons_self ..)
  have hl:=h.learnM (t:=x.toNat) (by omega) (hp _).1
  have e:((x.toNat:Nat):Int)=x:=Int.toNat_of_nonneg h0
  rw [e] at hl
  exact Alike.learnAll xs hl (hp.learnM x) fun y hy=>hx y (List.mem_cons_of_mem _ hy)
theorem KnS.left_lt {g:Hist'} {s:KnS} {t k:Nat} (h:(s.left g t k).length≠0):(s.left g t k).headD 0<g.ts.length:=by
 cases hl:s.left g t k with
 | nil=>rw [hl] at h;exact absurd rfl h
 | cons x r =>
  have hm:x∈s.left g t k:=by rw [hl];exact List.mem_cons_self ..
  exact ofH_lt (List.mem_filter.1 hm).1
theorem KnS.told_lt {g:Hist'} {s:KnS} {t:Nat} {l:List Op'}:∀ k,∀ x∈(s.told g t l k).2,0≤x∧x<g.ts.length
 | 0,x,h=>by simp [KnS.told] at h
 | k+1,x,h=>by
  simp only [KnS.told] at h
  split at h
  ·split at h
   ·exact KnS.told_lt k x h
   ·split at h
    ·exact KnS.told_lt k x h
    ·rename_i h0
     split at h
     ·rename_i h1
      simp only [Bool.and_eq_true,decide_eq_true_eq] at h1
      rcases List.mem_append.1 h with h | h
      ·exact KnS.told_lt k x h
      ·rw [List.mem_singleton.1 h]
       exact ⟨h1.2,KnS.left_lt h0⟩
     ·exact KnS.told_lt k x h
  ·exact KnS.told_lt k x h
theorem Alike.txn {g:Hist'} {s:KnS} {r:RwS} (h:Alike g.ts.length s r) (hp:s.Pos) {t:Nat} (ht:t<g.ts.length) (f:Int) (l:List Op') :
 Alike g.ts.length (s.txn g t f l) (r.txn g t f l)∧(s.txn g t f l).Pos:=by
 unfold KnS.txn
 rw [KnS.ops_told]
 generalize hs1:(if (badH g t).isEmpty then s else s.fails f t)=s1
 have hn1:∀ x:Int,x≠t→mcnt s1.n x=mcnt s.n x:=fun x hx=>by
  rw [← hs1];split
  ·rfl
  ·exact s.fails_n f t hx
 have hm1:s1.m=s.m:=by
  rw [← hs1];split
  ·rfl
  ·rw [s.fails_m]
 have hsole:=told_sole (s:=s1) (r:=r) (t:=t) (g:=g) (fun i hi hne=>by rw [h.2.2.2.1 i hi,hn1 i (by omega)]) (fun x hx=>by rw [hn1 x (by omega)];exact h.2.2.2.2.2.2 x hx) l l.length
 have hlt:=KnS.told_lt (g:=g) (s:=s1) (t:=t) (l:=l) l.length
 rw [hsole] at hlt
 rw [hsole,hm1]
 unfold RwS.txn
 rw [RwS.learn_all]
 have base:(if (r.sole g t l l.length).1 then s1.fails f t else s1)=if (r.sole g t l l.length).1 || !(badH g t).isEmpty then s.fails f t else s:=by
  rw [← hs1]
  cases (badH g t).isEmpty <;> cases (r.sole g t l l.length).1 <;> simp [KnS.fails_fails]
 rw [base]
 generalize r.sole g t l l.length=q at hlt ⊢
 have hB:Alike g.ts.length (if q.1 || !(badH g t).isEmpty then s.fails f t else s) (if q.1 || !(badH g t).isEmpty then r.fails f t else r)∧(if q.1 || !(badH g t).isEmpty then s.fails f t else s).Pos∧(if q.1 || !(badH g t).isEmpty then s.fails f t else s).m=s.m:=by
  split
  ·exact ⟨h.fails ht (hp _).2,hp.fails f t,s.fails_m f t⟩
  ·exact ⟨h,hp,rfl⟩
 generalize (if q.1 || !(badH g t).isEmpty then s.fails f t else s)=B at hB ⊢
 generalize (if q.1 || !(badH g t).isEmpty then r.fails f t else r)=R at hB ⊢
 obtain ⟨hA,hP,hM⟩:=hB
 have hc:=hA.2.2.1 t ht
 rw [hM] at hc
 by_cases h0:0<mcnt s.m t
 ·have hc':R.c.getD t false=true:=by rw [hc];simp [h0]
  rw [if_pos h0,if_pos hc']
  exact ⟨hA.learnAll _ hP hlt,hP.learnAll _⟩
 ·have hc':¬ R.c.getD t false=true:=by rw [hc];simp [h0]
  rw [if_neg h0,if_neg hc']
  exact ⟨hA,hP⟩
def RwS.init (g:Hist'):RwS:=⟨g.ts.map fun t=>t.f == 1,g.ts.map fun t=>t.f == 2,false,true⟩
def RwS.round (r:RwS) (g:Hist'):Nat→RwS
 | 0=>{ r with more:=false }
 | i+1=>match g.ts[i]? with
  | some t=>(r.round g i).txn g i t.f t.ops
  | none=>r.round g i
def RwS.iter (g:Hist'):Nat→RwS→RwS
 | 0,r=>r
 | k+1,r=>if r.more then RwS.iter g k (r.round g g.ts.length) else r
def RwS.hopTo (r:RwS):Nat→Bool
 | 0=>r.hop
 | i+1=>r.hopTo i || (r.c.getD i false && r.d.getD i false)
theorem init_alike (g:Hist'):∀ i,i≤g.ts.length→(KnS.init g i).Pos∧(∀ x:Int,x<0→mcnt (KnS.init g i).n x=0)∧(KnS.init g i).hop=false∧(KnS.init g i).more=true ∧
 ∀ j:Nat,j<i→∀ h:j<g.ts.length,((g.ts[j]).f == 1)=decide (0<mcnt (KnS.init g i).m j)∧((g.ts[j]).f == 2)=decide (0<mcnt (KnS.init g i).n j)
 | 0,_=>⟨fun _=>⟨Int.le_refl _,Int.le_refl _⟩,fun _ _=>rfl,rfl,rfl,fun j h=>absurd h (by omega)⟩
 | i+1,hi=>by
  obtain ⟨h1,h2,h3,h4,h5⟩:=init_alike g i (by omega)
  have hz:=mcnt_init g i i (Int.le_refl _)
  simp only [KnS.init,List.getElem?_eq_getElem (show i<g.ts.length by omega)]
  have last:∀ j:Nat,j<i+1→j≠i→j<i:=fun j h hne=>by omega
  by_cases f1:(g.ts[i]).f=1
  ·rw [if_pos f1]
   refine ⟨fun x=>⟨?_,(h1 x).2⟩,h2,h3,h4,fun j hj hjn=>?_⟩
   ·simp only [mcnt_set]
    split
    ·decide
    ·exact (h1 x).1
   ·simp only [mcnt_set]
    by_cases e:j=i
    ·subst e
     simp [f1,hz.2]
    ·rw [if_neg (by omega)]
     exact h5 j (last j hj e) hjn
  ·rw [if_neg f1]
   by_cases f2:(g.ts[i]).f=2
   ·rw [if_pos f2]
    refine ⟨fun x=>⟨(h1 x).1,?_⟩,fun x hx=>?_,h3,h4,fun j hj hjn=>?_⟩
    ·simp only [mcnt_set]
     split
     ·decide
     ·exact (h1 x).2
    ·simp only [mcnt_set]
     rw [if_neg (by omega)]
     exact h2 x hx
    ·simp only [mcnt_set]
     by_cases e:j=i
     ·subst e
      simp [f2,hz.1]
     ·rw [if_neg (by omega)]
      exact h5 j (last j hj e) hjn
   ·rw [if_neg f2]
    refine ⟨h1,h2,h3,h4,fun j hj hjn=>?_⟩
    by_cases e:j=i
    ·subst e
     simp [f1,f2,hz.1,hz.2]
    ·exact h5 j (last j hj e) hjn
theorem Alike.init (g:Hist'):Alike g.ts.length (KnS.init g g.ts.length) (RwS.init g)∧(KnS.init g g.ts.length).Pos:=by
 obtain ⟨h1,h2,h3,h4,h5⟩:=init_alike g g.ts.length (Nat.le_refl _)
 refine ⟨⟨by simp [RwS.init],by simp [RwS.init],fun i hi=>?_,fun i hi=>?_,h3,h4,h2⟩,h1⟩
 ·rw [← (h5 i hi hi).1]
  simp [RwS.init,List.getD_eq_getElem?_getD,hi]
 ·rw [← (h5 i hi hi).2]
  simp [RwS.init,List.getD_eq_getElem?_getD,hi]
theorem Alike.round {g:Hist'} {s:KnS} {r:RwS} (h:Alike g.ts.length s r) (hp:s.Pos):∀ i,i≤g.ts.length→Alike g.ts.length (s.round g i) (r.round g i)∧(s.round g i).Pos
 | 0,_=>⟨⟨h.1,h.2.1,h.2.2.1,h.2.2.2.1,h.2.2.2.2.1,rfl,h.2.2.2.2.2.2⟩,hp⟩
 | i+1,hi=>by
  obtain ⟨hA,hP⟩:=Alike.round h hp i (by omega)
  simp only [KnS.round,RwS.round,List.getElem?_eq_getElem (show i<g.ts.length by omega)]
  exact hA.txn hP (by omega) _ _
theorem Alike.iter {g:Hist'}:∀ (k:Nat) {s:KnS} {r:RwS},Alike g.ts.length s r→s.Pos→Alike g.ts.length (KnS.iter g k s) (RwS.iter g k r)∧(KnS.iter g k s).Pos
 | 0,_,_,h,hp=>⟨h,hp⟩
 | k+1,s,r,h,hp=>by
  simp only [KnS.iter,RwS.iter,← h.2.2.2.2.2.1]
  split
  ·obtain ⟨hA,hP⟩:=Alike.round h hp g.ts.length (Nat.le_refl _)
   exact Alike.iter k hA hP
  ·exact ⟨h,hp⟩
theorem Alike.hopTo {n:Nat} {s:KnS} {r:RwS} (h:Alike n s r):∀ i,i≤n→s.hopTo i=r.hopTo i
 | 0,_=>h.2.2.2.2.1
 | i+1,hi=>by
  simp only [KnS.hopTo,RwS.hopTo,KnS.both,Alike.hopTo h i (by omega),h.2.2.1 i (by omega),h.2.2.2.1 i (by omega)]
end Go.Pv.T

/- value.Sorted (an observer of a list of values). -/
namespace Go.Pv.T
open Go Go.Pv
@[simp] theorem valC_leafs (v:Val'):(valC v).all V.leaf=true:=rfl
theorem toVV:∀ W:List Val',(∀ x∈W,valB x=true)→∃ L:List VV,L.map (·.1)=W
 | [],_=>⟨[],rfl⟩
 | x::W,h=>by
  obtain ⟨L,hL⟩:=toVV W fun y hy=>h y (List.mem_cons_of_mem _ hy)
  exact ⟨⟨x,h x (List.mem_cons_self ..)⟩::L,by rw [List.map_cons,hL]⟩
theorem vv_flat (L:List VV):L.flatMap vvC=(L.map (·.1)).flatMap valC:=by
 induction L with
 | nil=>rfl
 | cons a L ih=>rw [List.flatMap_cons,List.map_cons,List.flatMap_cons,ih];rfl
def ValsO (ob:Nat→Option Obj') (lo hi:Nat) (l:List Val') (v:V):Prop :=
 (l=[]∧v = .sl none true 0 [])∨(l≠[]∧∃ u,v = .osl (2 * u+1) u 0 l.length 2∧ob (2 * u+1)=some ⟨u,.cells (l.flatMap valC)⟩∧lo≤u∧u<hi)
def SortedV (l C:List Val'):Prop:=∃ L T:List VV,L.map (·.1)=l.filter valB∧Vs.SortsTo L T∧C=compTo (T.map (·.1)) (T.map (·.1)).length
end Go.Pv.T

/- Sorted values: one list alone. -/
namespace Go.Pv.T
open Go Go.Pv
theorem lessV_iff (a b:Val'):lessV a b=true ↔ (a.kind<b.kind∨(a.kind=b.kind∧a.kind=1∧a.n<b.n)):=by
 unfold lessV
 split
 ·simp;omega
 ·simp;omega
theorem lessV_tri {a b:Val'} (ha:valB a=true) (hb:valB b=true):lessV a b=true∨a=b∨lessV b a=true:=by
 have k1:=val_kind ha
 have k2:=val_kind hb
 rw [lessV_iff,lessV_iff]
 obtain ⟨ak,an⟩:=a
 obtain ⟨bk,bn⟩:=b
 simp only [Val'.mk.injEq] at *
 omega
theorem lessV_trans {a b c:Val'} (h1:lessV a b=true) (h2:lessV b c=true):lessV a c=true:=by
 rw [lessV_iff] at *
 omega
theorem lessV_irr (a:Val'):¬ lessV a a=true:=by
 rw [lessV_iff]
 omega
def StrictV (l:List Val'):Prop:=l.Pairwise fun a b=>lessV a b=true
theorem strict_ext:∀ {l m:List Val'},StrictV l→StrictV m→(∀ x,x∈l ↔ x∈m)→l=m
 | [],[],_,_,_=>rfl
 | [],b::m,_,_,h=>absurd ((h b).2 (List.mem_cons_self ..)) (by simp)
 | a::l,[],_,_,h=>absurd ((h a).1 (List.mem_cons_self ..)) (by simp)
 | a::l,b::m,hl,hm,h=>by
  have hl':=List.pairwise_cons.1 hl
  have hm':=List.pairwise_cons.1 hm
  have hab:a=b:=by
   rcases List.mem_cons.1 ((h a).1 (List.mem_cons_self ..)) with e | e
   ·exact e
   ·rcases List.mem_cons.1 ((h b).2 (List.mem_cons_self ..)) with e' | e'
    ·exact e'.symm
    ·exact absurd (lessV_trans (hl'.1 b e') (hm'.1 a e)) (lessV_irr a)
  subst hab
  have:l=m:=strict_ext hl'.2 hm'.2 fun x=>by
   constructor
   ·intro hx
    rcases List.mem_cons.1 ((h x).1 (List.mem_cons_of_mem _ hx)) with e | e
    ·subst e;exact absurd (hl'.1 x hx) (lessV_irr x)
    ·exact e
   ·intro hx
    rcases List.mem_cons.1 ((h x).2 (List.mem_cons_of_mem _ hx)) with e | e
    ·subst e;exact absurd (hm'.1 x hx) (lessV_irr x)
    ·exact e
  rw [this]
theorem insV_nil (x:Val'):insV [] x=[x]:=by simp [insV,posV]
theorem insV_cons (y x:Val') (S:List Val'):insV (y::S) x=if lessV y x then y::insV S x else if y=x then y::S else x::y::S:=by
 by_cases h:lessV y x=true
 ·have hp:posV x (y::S)=posV x S+1:=by rw [posV,if_pos h]
  rw [if_pos h]
  simp only [insV,hp,List.getElem?_cons_succ,List.take_succ_cons,List.drop_succ_cons,List.cons_append]
  split <;> rfl
 ·have hp:posV x (y::S)=0:=by rw [posV,if_neg h]
  rw [if_neg h]
  simp only [insV,hp,List.getElem?_cons_zero,Option.some.injEq,List.take_zero,List.drop_zero,List.nil_append]
theorem insV_mem (x:Val'):∀ S:List Val',∀ z,z∈insV S x ↔ z∈S∨z=x
 | [],z=>by simp [insV_nil]
 | y::S,z=>by
  rw [insV_cons]
  split
  ·simp only [List.mem_cons,insV_mem x S z,or_assoc]
  ·split
   ·rename_i e
    subst e
    simp only [List.mem_cons]
    constructor
    ·exact .inl
    ·rintro (h | h)
     ·exact h
     ·exact .inl h
   ·simp only [List.mem_cons]
    constructor
    ·rintro (h | h | h)
     ·exact .inr h
     ·exact .inl (.inl h)
     ·exact .inl (.inr h)
    ·rintro ((h | h) | h)
     ·exact .inr (.inl h)
     ·exact .inr (.inr h)
     ·exact .inl h
theorem insV_strict {x:Val'} (hx:valB x=true):∀ S:List Val',(∀ y∈S,valB y=true)→StrictV S→StrictV (insV S x)
 | [],_,_=>by rw [insV_nil];exact List.pairwise_singleton _ _
 | y::S,hv,hs=>by
  have hs':=List.pairwise_cons.1 hs
  rw [insV_cons]
  split
  ·rename_i h
   refine List.pairwise_cons.2 ⟨fun z hz=>?_,insV_strict hx S (fun z hz=>hv z (List.mem_cons_of_mem _ hz)) hs'.2⟩
   rcases (insV_mem x S z).1 hz with h' | rfl
   ·exact hs'.1 z h'
   ·exact h
  ·rename_i h
   split
   ·exact hs
   ·rename_i h2
    have hxy:lessV x y=true:=by
     rcases lessV_tri (hv y (List.mem_cons_self ..)) hx with h3 | h3 | h3
     ·exact absurd h3 h
     ·exact absurd h3 h2
     ·exact h3
    refine List.pairwise_cons.2 ⟨fun z hz=>?_,hs⟩
    rcases List.mem_cons.1 hz with rfl | hz
    ·exact hxy
    ·exact lessV_trans hxy (hs'.1 z hz)
theorem foldV:∀ (l S:List Val'),(∀ y∈l,valB y=true)→(∀ y∈S,valB y=true)→StrictV S→StrictV (l.foldl insV S)∧∀ z,z∈l.foldl insV S ↔ z∈S∨z∈l
 | [],S,_,_,h=>⟨h,fun z=>by simp⟩
 | x::l,S,hl,hS,h=>by
  have hx:=hl x (List.mem_cons_self ..)
  have hm:=insV_mem x S
  obtain ⟨h1,h2⟩:=foldV l (insV S x) (fun y hy=>hl y (List.mem_cons_of_mem _ hy)) (fun y hy=>by
   rcases (hm y).1 hy with h' | rfl
   ·exact hS y h'
   ·exact hx) (insV_strict hx S hS h)
  refine ⟨h1,fun z=>?_⟩
  rw [List.foldl_cons,h2,hm,List.mem_cons,or_assoc]
theorem sortV_strict (l:List Val'):StrictV (sortV l)∧∀ z,z∈sortV l ↔ z∈l∧valB z=true:=by
 obtain ⟨h1,h2⟩:=foldV (l.filter valB) [] (fun y hy=>(List.mem_filter.1 hy).2) (by simp) List.Pairwise.nil
 refine ⟨h1,fun z=>?_⟩
 unfold sortV
 rw [h2,List.mem_filter]
 simp
theorem sortV_perm {l m:List Val'} (h:l.Perm m):sortV l=sortV m:=by
 obtain ⟨a1,a2⟩:=sortV_strict l
 obtain ⟨b1,b2⟩:=sortV_strict m
 exact strict_ext a1 b1 fun z=>by rw [a2,b2,h.mem_iff]
theorem comp_strict {T:List Val'} (hv:∀ x∈T,valB x=true) (hs:T.Pairwise fun x y=>lessV y x=false):∀ j,j≤T.length→StrictV (compTo T j)∧(∀ z,z∈compTo T j ↔ z∈T.take j)
 | 0,_=>⟨by simp [compTo,StrictV],fun z=>by simp [compTo]⟩
 | j+1,h=>by
  have hlt:j<T.length:=by omega
  obtain ⟨h1,h2⟩:=comp_strict hv hs j (by omega)
  have htk:=List.take_succ_eq_append_getElem hlt
  have hpw:=List.pairwise_iff_getElem.1 hs
  by_cases he:0<j∧T[j]=T[j - 1]'(by omega)
  ·rw [compTo_eq he.1 hlt he.2]
   refine ⟨h1,fun z=>?_⟩
   rw [h2,htk,List.mem_append,List.mem_singleton]
   constructor
   ·exact .inl
   ·rintro (h' | rfl)
    ·exact h'
    ·rw [he.2]
     exact List.mem_take_iff_getElem.2 ⟨j - 1,by omega,rfl⟩
  ·rw [compTo_ne hlt fun h0 e=>he ⟨h0,e⟩]
   refine ⟨List.pairwise_append.2 ⟨h1,List.pairwise_singleton _ _,fun x hx y hy=>?_⟩,fun z=>by rw [List.mem_append,h2,htk,List.mem_append]⟩
   rw [List.mem_singleton.1 hy]
   obtain ⟨i,hi,rfl⟩:=List.mem_take_iff_getElem.1 ((h2 x).1 hx)
   have hij:i<j:=by omega
   have hne:T[j]≠T[j - 1]'(by omega):=fun e=>he ⟨by omega,e⟩
   have v1:=hv T[j] (List.getElem_mem _)
   have v2:=hv (T[j - 1]'(by omega)) (List.getElem_mem _)
   have v3:=hv (T[i]'(by omega)) (List.getElem_mem _)
   have l1:lessV (T[j - 1]'(by omega)) T[j]=true:=by
    rcases lessV_tri v2 v1 with h3 | h3 | h3
    ·exact h3
    ·exact absurd h3.symm hne
    ·have:=hpw (j - 1) j (by omega) hlt (by omega)
     rw [this] at h3;cases h3
   rcases Nat.lt_or_ge i (j - 1) with h4 | h4
   ·have h5:=hpw i (j - 1) (by omega) (by omega) h4
    rcases lessV_tri v3 v2 with h3 | h3 | h3
    ·exact lessV_trans h3 l1
    ·rw [h3];exact l1
    ·rw [h5] at h3;cases h3
   ·have:i=j - 1:=by omega
    subst this
    exact l1
theorem sortedV_is {l C:List Val'} (h:SortedV l C):C=sortV l:=by
 obtain ⟨L,T,hL,⟨hp,hs⟩,rfl⟩:=h
 obtain ⟨a1,a2⟩:=sortV_strict l
 have hv:∀ x∈T.map (·.1),valB x=true:=by
  intro x hx
  obtain ⟨y,_,rfl⟩:=List.mem_map.1 hx
  exact y.2
 have hs':(T.map (·.1)).Pairwise fun x y=>lessV y x=false:=by
  rw [List.pairwise_map]
  exact hs.imp fun {x y} h=>by rw [← ltVV_eq];exact h
 obtain ⟨b1,b2⟩:=comp_strict hv hs' (T.map (·.1)).length (Nat.le_refl _)
 refine strict_ext b1 a1 fun z=>?_
 rw [b2,List.take_length,a2,← List.mem_filter,← hL]
 exact ((hp.map _).mem_iff).symm
end Go.Pv.T

/- value.Sorted (an observer of a list of values): what it answers, exactly. -/
namespace Go.Pv.T
open Go Go.Pv
def valsV (n:Nat) (C:List Val'):V:=.sl (if n=C.length then some (0,2) else none) false C.length (C.flatMap valC)
theorem kEnd_vals {st:St} {n L u m:Nat} {C:List Val'} {cs:List V} (hd:st.df=[]) (hv:st.tm n = .osl L u 0 C.length 2) (hob:st.ob L=some ⟨u,.cells cs⟩) (hro:st.ro≤u) (hl:cs.length=m * 2) (hm:C.length≤m) (h0:0<C.length) (ht:cs.take (C.length * 2)=C.flatMap valC):kEnd [.t n] (valsV m C) .ret st:=by
 show endV [.t n] (.ret,st)=some (valsV m C)
 have hoc:objCells st.ob L u=some cs:=by simp [objCells,hob]
 have hmm:∀ (k:Nat) (l:List V),l.all V.pureLeaf=true→l.mapM (solid st (k+1))=some l:=by
  intro k l
  induction l with
  | nil=>intro _;rfl
  | cons a l ih =>
   intro h
   simp only [List.all_cons,Bool.and_eq_true] at h
   rw [List.mapM_cons,ih h.2]
   have:solid st (k+1) a=some a:=by
    have:=outLeaf_pure (st:=st) (keep:=false) (i:=0) h.1
    cases a with
    | sl t nl n cs=>cases t with
     | none=>rfl
     | some t=>cases h.1
    | osl=>cases h.1
    | _=>simp only [solid,h.1,if_true]
   rw [this]
   rfl
 have hs:solid st 6 (.osl L u 0 C.length 2)=some (.sl none false C.length (C.flatMap valC)):=by
  show ((objCells st.ob L u).bind fun cs=>if Nat.ble st.ro u=true∧0+C.length * 2≤cs.length then (((cs.drop 0).take (C.length * 2)).mapM (solid st 5)).map fun cs'=>V.sl none false C.length cs' else none)=_
  rw [hoc,Option.bind_some,if_pos ⟨Nat.ble_eq ▸ hro,by omega⟩,List.drop_zero,ht,hmm 4 _ (val_pure C)]
  rfl
 have ho:outLeaf st true 0 (.osl L u 0 C.length 2)=some (valsV m C):=by
  simp only [outLeaf,hs,Option.bind_some,hoc,Option.map_some,valsV]
  have hb:(true && Nat.beq 0 0 && Nat.blt 0 C.length && Nat.beq (C.length * 2) cs.length)=decide (m=C.length):=by
   rw [hl,show Nat.blt 0 C.length=true by rw [Nat.blt_eq];exact h0,Nat.beq_refl,Bool.and_self,Bool.and_self,Bool.true_and,Bool.eq_iff_iff,Nat.beq_eq,decide_eq_true_eq]
   omega
  rw [hb]
  by_cases e:m=C.length
  ·simp [e]
  ·simp [e]
 have hto:outTop st true 0 (.osl L u 0 C.length 2)=some (valsV m C):=ho
 have hr:[ARes.t n].mapM (resOf st)=some [.osl L u 0 C.length 2]:=by simp [resOf,hv]
 simp only [endV,dfOk_of hd,noDf_of hd,if_true,hr,Option.bind_some,outRes]
 have hn:nodup ([V.osl L u 0 C.length 2].flatMap V.toks)=true:=rfl
 rw [hn]
 simp only [outTops,hto,Option.bind_some,Option.map_some]
 have hnd:nodup (List.flatMap V.toks [valsV m C])=true:=by
  unfold valsV
  split <;> rfl
 show (if nodup (List.flatMap V.toks [valsV m C])=true then some (valsV m C) else none)=_
 rw [if_pos hnd]
set_option maxRecDepth 100000 in
theorem evo79 {l:List Val'} (hl:l.length≤49) (hne:l.filter valB≠[]) {Ld ud:Nat} {ob:Nat→Option Obj'} {tk:Nat→Bool} {base ub:Nat} (hLd:∀ m,ub≤m→Ld≠2 * m+1) (hob:ob Ld=some ⟨ud,.cells (l.flatMap valC)⟩) :
 EvO E 79 [.osl Ld ud 0 l.length 2] ob tk base ub (valsV (l.filter valB).length (sortV l)):=by
 refine EvO_wpK (af:=S79) rfl ?_
 simp [S79]
 have hft:∀ i,(l.take i).filter valB=(l.filter valB).take ((l.take i).filter valB).length:=by
  intro i
  have:l.filter valB=(l.take i).filter valB++(l.drop i).filter valB:=by rw [← List.filter_append,List.take_append_drop]
  rw [this,List.take_left]
 refine wp_loopUp [(3,3),(5,5),(8,18)] l.length (fun i st=>st.tm 8 = .int .i64 i∧ValsO st.ob ub st.nx ((l.take i).filter valB) (st.tm 3)∧st.ob Ld=some ⟨ud,.cells (l.flatMap valC)⟩∧ub≤st.nx) rfl rfl
  ⟨by simp,.inl ⟨by simp,by simp⟩,by simp [hob],by simp;omega⟩ ?_
 rintro i st hi ⟨h8,hv,hd,hnx⟩ f
 have f6:st.tm 6 = .osl Ld ud 0 l.length 2:=by rw [f.t 6 (by simp)];simp
 have f7:st.tm 7 = .int .i64 l.length:=by rw [f.t 7 (by simp)];simp
 have fd:st.df=[]:=by rw [f.d];simp
 have fr:st.ro=ub:=by rw [f.r];simp
 clear f
 by_cases hlt:i<l.length
 ·have hwi:=wrapU hlt (by omega)
  have i1:=idx2 (l:=Ld) (u:=ud) (off:=0) (n:=l.length) (kk:=.i64) (X:=(i:Int)) rfl hlt
  have l1:=ld2 hd hlt
  have e119:=ev119 l[i]
  have hsucc:(l.take (i+1)).filter valB=(l.take i).filter valB++if valB l[i] then [l[i]] else []:=by
   rw [List.take_succ_eq_append_getElem hlt,List.filter_append]
   simp only [List.filter_cons,List.filter_nil]
  have hWl:((l.take i).filter valB).length≤49:=by
   have h1:=List.length_filter_le valB (l.take i)
   rw [List.length_take] at h1
   omega
  rw [Nat.zero_add] at i1
  generalize (l.take i).filter valB=W at *
  generalize l[i]=x at *
  have n1:=hLd (st.nx+64+64+64) (by omega)
  have n2:ub≤(st.nx+64+64+64):=by omega
  have n4:splice [V.int .i64 0,V.int .i64 0] 0 (valC x)=valC x:=rfl
  have n6:(valC x).take 2=valC x:=rfl
  simp [h8,f6,f7,hlt,i1,l1,objCells,fr,n2,n4,n6]
  refine kS_ev e119 (by simp) rfl (by simp [valC]) ?_
  cases hb:valB x
  ·rw [hb] at hsucc
   simp only [Bool.false_eq_true,if_false,List.append_nil] at hsucc
   simp [h8,hwi]
   rw [hsucc]
   refine ⟨hlt,?_,by simp [n1,hd],by omega⟩
   rcases hv with hv | ⟨w0,u,hv1,hv2,hv3,hv4⟩
   ·exact .inl hv
   ·have q1:¬ 2 * u=2 * (st.nx+64+64+64):=by omega
    exact .inr ⟨w0,u,hv1,by simp [q1,hv2],hv3,by omega⟩
  ·rw [hb] at hsucc
   simp only [if_true] at hsucc
   simp [objCells,n6]
   have m1:¬ Ld=2 * (st.nx+64+64+64+64+64+64+64+64+64)+1:=hLd _ (by omega)
   have m2:¬ Ld=2 * (st.nx+64+64+64+64+64+64+64+64+64+64)+1:=hLd _ (by omega)
   refine kS_buildSlO (cs:=valC x) (by simp [splice,valC]) rfl (by simp) ?_
   simp
   rcases hv with ⟨w0,w3⟩ | ⟨w0,u,hv1,hv2,hv3,hv4⟩
   ·refine kS_appendO_nil (n:=0) (cs:=[]) (ys:=valC x) (by simp [w3]) (by simp [slCells,objCells,n6]) (by simp [valC]) (by decide) (by simp) (by simp [valC]) (by simp [valC]) ?_
    simp [h8,hwi]
    refine ⟨hlt,?_,by simp [n1,m1,m2,hd],by omega⟩
    rw [hsucc,w0]
    exact .inr ⟨by simp,(st.nx+64+64+64+64+64+64+64+64+64+64),by simp,by simp,by omega,by omega⟩
   ·have q1:¬ 2 * u=2 * (st.nx+64+64+64):=by omega
    have q2:¬ 2 * u=2 * (st.nx+64+64+64+64+64+64+64+64+64):=by omega
    have m3:=hLd u hv3
    refine kS_appendO (l:=2 * u+1) (u:=u) (n:=W.length) (cs:=W.flatMap valC) (ys:=valC x) (by simp [hv1]) (by simp [slCells,objCells,n6]) (by simp [q1,q2,hv2]) (by simp [valC]) (by simp [fr,hv3]) (by rw [flatMap_len valC_len];omega) (by decide) (by simp) (by simp [valC];omega) (by simp [valC];omega) ?_
    simp [h8,hwi]
    refine ⟨hlt,?_,by simp [n1,m1,m2,m3,hd],by omega⟩
    rw [hsucc]
    refine .inr ⟨by simp,(st.nx+64+64+64+64+64+64+64+64+64+64),by simp,?_,by omega,by omega⟩
    simp
    exact List.take_of_length_le (by rw [flatMap_len valC_len];omega)
 ·have:i=l.length:=by omega
  subst this
  rw [List.take_length] at hv
  rcases hv with ⟨w0,_⟩ | ⟨w0,u,hv1,hv2,hv3,hv4⟩
  ·exact absurd w0 hne
  obtain ⟨L,hL⟩:=toVV (l.filter valB) fun x hx=>(List.mem_filter.1 hx).2
  have hLl:L.length=(l.filter valB).length:=by rw [← hL,List.length_map]
  have hWl:(l.filter valB).length≤49:=Nat.le_trans (List.length_filter_le _ _) hl
  rw [← hLl] at hv1
  rw [← hL,← vv_flat] at hv2
  simp [h8,f7]
  refine kS_callP (vs:=[.osl (2 * u+1) u 0 L.length 2,CF]) (by simp [hv1]) rfl (Vs.sv120 (by omega) (by simpa using hv2) (by simp [fr,hv3]) (fun m hm=>by first | omega | (simp at hm;omega)) (by simp [fr];omega)) ?_
  rintro v ob1 tk1 ub1 ⟨T,hT,hat⟩
  simp only at hat
  have hTl:T.length=L.length:=hT.1.length_eq.symm
  obtain ⟨T',hT'⟩:∃ T',T.map (·.1)=T':=⟨_,rfl⟩
  have hTl':T'.length=T.length:=by rw [← hT',List.length_map]
  have hat1:=hat.1
  rw [vv_flat,hT'] at hat1
  simp
  refine kS_callP (vs:=[.osl (2 * u+1) u 0 T'.length 2]) (by simp [hv1,hTl',hTl]) rfl (sv123 (T:=T') (by omega) (by simpa using hat1) (by simp [fr,hv3])) ?_
  rintro v2 ob2 tk2 ub2 ⟨hr1,⟨cs,hcs,hcl,hcn,hct⟩,hoth,htk2,hub2⟩
  simp only at hr1 hcs hct hcl hcn
  subst hr1
  simp
  have hC:compTo T' T'.length=sortV l:=sortedV_is ⟨L,T,hL,hT,by rw [hT']⟩
  rw [hC] at hct hcn ⊢
  refine kEnd_vals (L:=2 * u+1) (u:=u) (cs:=cs) (by simp [fd]) (by simp) (by simp [hcs]) (by simp [fr,hv3]) (by rw [hcl,hTl',hTl,hLl]) (by omega) ?_ hct
  have hne':sortV l≠[]:=by
   intro e
   cases hf:l.filter valB with
   | nil=>exact w0 hf
   | cons x r =>
    have h1:x∈l.filter valB:=by rw [hf];exact List.mem_cons_self ..
    have h2:=((sortV_strict l).2 x).2 (List.mem_filter.1 h1)
    rw [e] at h2
    cases h2
  exact List.length_pos_iff.2 hne'
end Go.Pv.T

/- What a lost read may have read: the program's walk. -/
namespace Go.Pv.T
open Go Go.Pv
def valsOf (P:List (Int × Val')):List Val':=⟨0,0⟩::P.map (·.2)
theorem valsOf_ne (P:List (Int × Val')):(valsOf P).filter valB≠[]:=by
 unfold valsOf
 rw [List.filter_cons,if_pos (by decide)]
 simp
theorem valsOf_perm {P R:List (Int × Val')} (h:P.Perm R):(valsOf P).Perm (valsOf R):=(h.map _).cons _
def valuesR (g:Hist') (a b:Int):V:=match opAt g a b with
 | some o=>if o.w then .sl none true 0 [] else valsV ((valsOf (othersOf g a o.key (writersH g o.key))).filter valB).length (sortV (valsOf (othersOf g a o.key (writersH g o.key))))
 | none=>.sl none true 0 []
def ValsP (ob:Nat→Option Obj') (p:Nat→Prop) (l:List Val') (v:V):Prop:=∃ u,v = .osl (2 * u+1) u 0 l.length 2∧ob (2 * u+1)=some ⟨u,.cells (l.flatMap valC)⟩∧p u
theorem ValsP.frame {ob ob':Nat→Option Obj'} {p p':Nat→Prop} {l:List Val'} {v:V} (h:ValsP ob p l v) (hf:∀ u,p u→ob' (2 * u+1)=ob (2 * u+1)) (hh:∀ u,p u→p' u):ValsP ob' p' l v:=by
 obtain ⟨u,h2,h3,h4⟩:=h
 exact ⟨u,h2,(hf u h4).trans h3,hh u h4⟩
theorem retVals {ub n:Nat} {C:List Val'} {K:Delta→Prop} (h:∀ t add,(t.isSome=(n == C.length))→(∀ p,t=some p→p=(ub,2)∧add=[ub])→K { v:=.sl t false C.length (C.flatMap valC),add:=add }):wpD (retA ub (valsV n C)) K:=by
 unfold valsV
 by_cases e:n=C.length
 ·rw [if_pos e]
  have:retA ub (.sl (some (0,2)) false C.length (C.flatMap valC))=some { v:=.sl (some (ub,2)) false C.length (C.flatMap valC),add:=[ub] }:=by simp [retA,toksRes,V.toks,V.tok,inRes,inTop,inLeaf,Nat.blt]
  rw [this,wpD_some]
  exact h _ _ (by simp [e]) (fun p hp=>by cases hp;exact ⟨rfl,rfl⟩)
 ·rw [if_neg e,retA_slnone,wpD_some]
  exact h _ _ (by simp [e]) (fun p hp=>by cases hp)
theorem endV_tokZ {n u m z:Nat} {st:St} {cs:List V} (hd:st.df=[]) (h:st.tm n = .sl (some (u,z)) false m cs) (ht:st.tk u=true):endV [.t n] (.ret,st)=some (.sl (some (0,z)) false m cs):=by
 simp only [endV,dfOk_of hd,noDf_of hd,if_true,List.mapM_cons,List.mapM_nil,resOf,h]
 simp [outRes,outTops,outTop,outLeaf,V.toks,V.tok,nodup,ht]
set_option maxRecDepth 100000 in
theorem ev30 {g:Hist'} (hs:Small g) (a b:Int):Ev E 30 [.agg (histC g),.agg (placeC (a,b))] (valuesR g a b):=by
 have e74:=ev74 hs a b
 refine Ev_wpK (af:=F30) rfl ?_
 unfold valuesR
 cases hop:opAt g a b with
 | none =>
  rw [hop] at e74
  simp [F30,histC,objCells,placeC]
  refine kS_ev e74 (by simp [histC,placeC]) rfl (by simp [histC,placeC]) ?_
  rw [retA_tupl (by simp [V.plain,opC])]
  simp [splice,opC,op0,objCells]
  exact endV_1 (by simp) (by simp) rfl
 | some o =>
  rw [hop] at e74
  simp only [Option.getD_some,Option.any_some] at e74
  have hmay:mayH g=true:=by
   unfold opAt at hop
   cases hm:mayH g
   ·rw [hm] at hop;cases hop
   ·rfl
  have hts:=may_ts hmay
  simp [F30,histC,objCells,placeC]
  refine kS_ev e74 (by simp [histC,placeC]) rfl (by simp [histC,placeC]) ?_
  rw [retA_tupl (by simp [V.plain,opC])]
  cases hw:o.w
  ·simp [splice,opC,objCells]
   obtain ⟨OTH,hOTH⟩:∃ l,othersOf g a o.key (writersH g o.key)=l:=⟨_,rfl⟩
   refine kS_buildSlO (cs:=valC ⟨0,0⟩) (by simp [splice,valC]) rfl (by simp) ?_
   simp [objCells]
   refine kS_callP (vs:=[.agg (histC g),.int .i64 a,.int .i64 o.key]) (by simp [histC]) rfl (sv75 hs hmay a o.key (by simp)) ?_
   rintro w ob1 tk1 ub1 ⟨M,U,ver,e1,e2,e3,e4,e5,e6,e7⟩
   simp only at e1 e3 e5 e6 e7
   subst e1
   simp
   refine kS_rangeMap (l:=2 * M+1) (u:=U) (ver:=ver) (by simp) (by simpa using e5) ?_
   simp
   refine wpC_gen fun st hst=>?_
   have hub0:1024≤ub1:=by first | omega | (simp at e7;omega)
   have hM0:1024≤M:=by first | omega | (simp at e2;omega)
   have hMu:M<ub1:=by first | omega | (simp at e3;omega)
   rw [hOTH] at e5 hst ⊢
   have g7:st.tm 7 = .osl 1921 960 0 1 2:=by rw [hst];simp
   have g26:st.tm 26 = .iter (2 * ub1+1) ub1:=by rw [hst];simp
   have gd:st.df=[]:=by rw [hst];simp
   have gr:st.ro=0:=by rw [hst];simp
   have gn:ub1<st.nx:=by rw [hst];simp
   have gf:∀ k,k≠2 * ub1+1→st.ob k=ob1 k:=by
    intro k hk
    rw [hst];simp [hk]
   have pi:st.ob (2 * ub1+1)=some ⟨ub1,.miter (2 * M+1) U ver (MP valV OTH) none⟩:=by rw [hst];simp
   have pm:st.ob (2 * M+1)=some ⟨U,.mp ver (MP valV OTH)⟩:=(gf _ (by omega)).trans e5
   have p7:st.ob 1921=some ⟨960,.cells (valC ⟨0,0⟩)⟩:=(gf _ (by omega)).trans ((e6 _ (fun m hm=>by first | omega | (simp at hm;omega))).trans (by simp))
   have pv:ValsP st.ob (fun u=>960≤u∧u≠M∧u≠ub1∧u<st.nx) (valsOf []) (.osl 1921 960 0 1 2):=⟨960,rfl,p7,by omega,by omega,by omega,by omega⟩
   clear hst e6 e5 p7
   obtain ⟨J,hJ⟩:∃ J:Nat→St→Prop,J=fun n s=>∃ (P m':List (Int × Val')) (v:V) (last:Option (V × V)),n=m'.length∧(P++m').Perm OTH∧s.tm 7=v∧ValsP s.ob (fun u=>960≤u∧u≠M∧u≠ub1∧u<s.nx) (valsOf P) v ∧
    s.ob (2 * ub1+1)=some ⟨ub1,.miter (2 * M+1) U ver (MP valV m') last⟩∧s.ob (2 * M+1)=some ⟨U,.mp ver (MP valV OTH)⟩∧ub1<s.nx:=⟨_,rfl⟩
   refine wp_loopF (n:=OTH.length) [(7,9),(27,34)] J rfl rfl (by rw [hJ];exact ⟨[],OTH,_,none,rfl,by simp,g7,pv,pi,pm,gn⟩) ?_
   clear g7 pv pi pm gn
   intro n s hJs f
   rw [hJ] at hJs
   obtain ⟨P,m',v,last,rfl,hperm,h7,⟨u,rfl,hu1,hu2,hu3,hu4,hu5⟩,oi,om,hn1⟩:=hJs
   have f26:s.tm 26 = .iter (2 * ub1+1) ub1:=by rw [f.t 26 (by simp)];exact g26
   have fd:s.df=[]:=by rw [f.d];exact gd
   have fr:s.ro=0:=by rw [f.r];exact gr
   clear f
   have hPl:(P++m').length≤40:=by
    rw [hperm.length_eq,← hOTH]
    unfold othersOf
    rw [List.length_map]
    have:=List.length_filter_le (fun i=>!(i == a)) (writersH g o.key)
    have:=writers_len g o.key
    omega
   rw [List.length_append] at hPl
   have hvl:(valsOf P).length=P.length+1:=by simp [valsOf]
   simp
   refine kS_nextMap (l:=2 * ub1+1) (u:=ub1) (l':=2 * M+1) (u':=U) (ver:=ver) (es:=MP valV OTH) (left:=MP valV m') (by simp [f26]) oi om (by simp [fr]) ?_ ?_
   ·intro hemp
    have hm0:m'=[]:=by
     unfold MP at hemp
     exact List.map_eq_nil_iff.1 hemp
    subst hm0
    rw [List.append_nil] at hperm
    have hpp:=valsOf_perm hperm
    rw [← sortV_perm hpp,← (hpp.filter valB).length_eq]
    simp [h7]
    have e79:=fun (ob:Nat→Option Obj') (tk:Nat→Bool) (base ub:Nat) (hub:u<ub) (ho:ob (2 * u+1)=some ⟨u,.cells ((valsOf P).flatMap valC)⟩)=>evo79 (tk:=tk) (base:=base) (ub:=ub) (l:=valsOf P) (by omega) (valsOf_ne P) (Ld:=2 * u+1) (ud:=u) (fun m hm=>by omega) ho
    refine kS_callO (vs:=[.osl (2 * u+1) u 0 (valsOf P).length 2]) (by simp) rfl rfl (e79 _ _ _ _ (by omega) (by simp [hu1])) ?_
    refine retVals fun t add ht hta=>?_
    simp
    cases t with
    | none =>
     have hn:¬ ((valsOf P).filter valB).length=(sortV (valsOf P)).length:=by
      intro e
      rw [e] at ht
      simp at ht
     unfold valsV
     rw [if_neg hn]
     exact endV_1 (by simp [fd]) (by simp) rfl
    | some p =>
     obtain ⟨rfl,rfl⟩:=hta p rfl
     have hn:((valsOf P).filter valB).length=(sortV (valsOf P)).length:=by simpa using ht.symm
     unfold valsV
     rw [if_pos hn]
     exact endV_tokZ (by simp [fd]) (by simp;rfl) (by simp [app_tk])
   ·intro A k w B hsp
    obtain ⟨A',q,B',rfl,rfl,rfl,rfl,rfl⟩:=MP_split hsp
    have hperm':((P++[q])++(A'++B')).Perm OTH:=by
     refine List.Perm.trans ?_ hperm
     rw [List.append_assoc]
     exact List.Perm.append_left _ (by simpa using List.perm_middle.symm)
    have nM:¬ 2 * M=2 * ub1:=by omega
    simp
    refine kS_entry (l:=2 * ub1+1) (u:=ub1) (l':=2 * M+1) (u':=U) (ver:=ver) (es:=MP valV OTH) (left:=MP valV A'++MP valV B') (k:=.int .i64 q.1) (v:=valV q.2) (by simp [f26]) (by simp) (by simp [nM,om]) ?_
    have hsv:splice [V.int .i64 0,V.int .i64 0] 0 (valC q.2)=valC q.2:=rfl
    have htv:(valC q.2).take 2=valC q.2:=rfl
    simp [valV,hsv,htv,fr,objCells]
    refine kS_buildSlO (cs:=valC q.2) (by simp [splice,valC]) rfl (by simp) ?_
    simp [h7]
    have a1:¬ 2 * u=2 * (s.nx+64+64+64+64):=by omega
    have a2:¬ 2 * u=2 * (s.nx+64+64+64+64+64+64+64+64):=by omega
    have a3:¬ 2 * u=2 * ub1:=by omega
    have b1:¬ 2 * ub1=2 * (s.nx+64+64+64+64):=by omega
    have b2:¬ 2 * ub1=2 * (s.nx+64+64+64+64+64+64+64+64):=by omega
    have b3:¬ 2 * ub1=2 * (s.nx+64+64+64+64+64+64+64+64+64):=by omega
    have b4:¬ 2 * ub1=2 * u:=by omega
    have c1:¬ 2 * M=2 * (s.nx+64+64+64+64):=by omega
    have c2:¬ 2 * M=2 * (s.nx+64+64+64+64+64+64+64+64):=by omega
    have c3:¬ 2 * M=2 * (s.nx+64+64+64+64+64+64+64+64+64):=by omega
    have c4:¬ 2 * M=2 * u:=by omega
    have hvs:valsOf (P++[q])=valsOf P++[q.2]:=by simp [valsOf]
    refine kS_appendO (l:=2 * u+1) (u:=u) (n:=(valsOf P).length) (cs:=(valsOf P).flatMap valC) (ys:=valC q.2) (by simp) (by simp [slCells,objCells,htv]) (by simp [a1,a2,a3,hu1]) (by simp [valC]) (by simp [fr]) (by rw [flatMap_len valC_len];omega) (by decide) (by simp) (by simp [valC];simp at hPl;omega) (by simp [valC];simp at hPl;omega) ?_
    simp
    refine ⟨(A'++B').length,by simp,?_⟩
    rw [hJ]
    refine ⟨P++[q],A'++B',_,some (.int .i64 q.1,valV q.2),rfl,hperm',by simp;rfl,⟨(s.nx+64+64+64+64+64+64+64+64+64),?_,?_,by omega,by omega,by omega,by simp⟩,?_,?_,by simp;omega⟩
    ·rw [hvs];simp
    ·rw [hvs]
     simp
     exact List.take_of_length_le (by rw [flatMap_len valC_len];omega)
    ·simp [b1,b2,b3,b4,MP_app,valV]
    ·simp [c1,c2,c3,c4,nM,om]
  ·simp [splice,opC,objCells]
   exact endV_1 (by simp) (by simp) rfl
end Go.Pv.T

/- What a lost read may have read: the reference's list. -/
namespace Go.Pv.T
open Go Go.Pv
def refVals (ts:List Txn') (a key:Int):Nat→List Val'
 | 0=>[⟨0,0⟩]
 | n+1=>refVals ts a key n++(match ts[n]? with | some t=>if (!((n:Int) == a) && (t.f != 2)) && (rawTo key t.ops t.ops.length).2 then [(rawTo key t.ops t.ops.length).1] else [] | none=>[])
theorem refVals_succ {ts:List Txn'} {a key:Int} {n:Nat} (h:n<ts.length):refVals ts a key (n+1)=refVals ts a key n++if (!((n:Int) == a) && (ts[n].f != 2)) && (rawTo key ts[n].ops ts[n].ops.length).2 then [(rawTo key ts[n].ops ts[n].ops.length).1] else []:=by
 simp [refVals,List.getElem?_eq_getElem h]
theorem refVals_len (ts:List Txn') (a key:Int):∀ n,(refVals ts a key n).length≤n+1
 | 0=>by simp [refVals]
 | n+1=>by
  have:=refVals_len ts a key n
  simp only [refVals,List.length_append]
  split
  ·split <;> simp <;> omega
  ·simp;omega
theorem refVals_eq {g:Hist'} (hm:mayH g=true) (a key:Int):∀ n,n≤g.ts.length→refVals g.ts a key n=⟨0,0⟩::((numsTo (wrB key) g.ts n).filter fun i=>!(i == a)).map fun i=>leaveOf g key i
 | 0,_=>by simp [refVals,numsTo]
 | n+1,h=>by
  rw [refVals_succ (by omega),numsTo_succ (by omega),List.filter_append,List.map_append,refVals_eq hm a key n (by omega),List.cons_append]
  congr 2
  have hr:=rawTo_any key (g.ts[n]).ops (g.ts[n]).ops.length (Nat.le_refl _)
  rw [List.take_length] at hr
  have hl:=leaveOf_at hm key (show n<g.ts.length by omega)
  unfold wrB
  rw [hr]
  cases h1:(g.ts[n].ops.any (wkB key)) <;> cases h2:(g.ts[n].f != 2) <;> cases h3:((n:Int) == a) <;> simp [h3,hl]
theorem refVals_others {g:Hist'} (hm:mayH g=true) (a key:Int):refVals g.ts a key g.ts.length=valsOf (othersOf g a key (writersH g key)):=by
 rw [refVals_eq hm a key _ (Nat.le_refl _)]
 unfold valsOf othersOf writersH
 rw [List.map_map]
 rfl
def valsH (g:Hist') (a b:Int):List Val':=match opAt g a b with
 | some o=>if o.w then [] else sortV (valsOf (othersOf g a o.key (writersH g o.key)))
 | none=>[]
end Go.Pv.T

/- WriterOf, but for its fixed example. -/
namespace Go.Pv.T
open Go Go.Pv
theorem vals_given (g:Hist') (a b:Int):∃ t nl,valuesR g a b = .sl t nl (valsH g a b).length ((valsH g a b).flatMap valC)∧(t=none∨t=some (0,2)):=by
 unfold valuesR valsH
 cases opAt g a b with
 | none=>exact ⟨none,true,rfl,.inl rfl⟩
 | some o =>
  simp only
  cases o.w
  ·simp only [Bool.false_eq_true,if_false,valsV]
   refine ⟨_,false,rfl,?_⟩
   split
   ·exact .inr rfl
   ·exact .inl rfl
  ·exact ⟨none,true,rfl,.inl rfl⟩
theorem sort_len (l:List Val'):(sortV l).length≤l.length:=by
 have:=sortTo_len l l.length (Nat.le_refl _)
 unfold sortTo at this
 rw [List.take_length] at this
 exact this
theorem valsH_len {g:Hist'} (a b:Int):(valsH g a b).length≤41:=by
 unfold valsH
 cases hop:opAt g a b with
 | none=>simp
 | some o =>
  simp only
  cases o.w
  ·have hmay:mayH g=true:=by
    unfold opAt at hop
    cases hm:mayH g
    ·rw [hm] at hop;cases hop
    ·rfl
   have hts:=may_ts hmay
   have h1:=sort_len (valsOf (othersOf g a o.key (writersH g o.key)))
   have h2:=refVals_len g.ts a o.key g.ts.length
   rw [refVals_others hmay] at h2
   simp only [Bool.false_eq_true,if_false]
   omega
  ·simp
theorem ofH_len' (g:Hist') (a b:Int):(ofH g a b).length≤41:=by
 cases hm:mayH g
 ·unfold ofH opAt
  simp [hm]
 ·exact ofH_len hm a b
end Go.Pv.T

/- WriterOf: its fixed example, by the kernel. -/
namespace Go.Pv.T
open Go Go.Pv
theorem k25:(callers E 100 noY).d 25 []=some (.bool true):=by kernel_rfl
end Go.Pv.T

/- Fresh numbers: the program's walk. -/
namespace Go.Pv.T
open Go Go.Pv
theorem mset_cons {α:Type} (k0:Int) (b:α) (m:List (Int × α)) (k:Int) (a:α):mset ((k0,b)::m) k a=if k=k0 then (k,a)::m else (k0,b)::mset m k a:=by
 unfold mset
 rw [mfind]
 by_cases h:k=k0
 ·simp [h]
 ·rw [if_neg h,if_neg h]
  cases mfind m k <;> simp
theorem mval_mset {α:Type} (k:Int) (a:α) (k':Int):∀ m:List (Int × α),(mfind (mset m k a) k').map (·.2)=if k'=k then some a else (mfind m k').map (·.2)
 | []=>by
  by_cases h:k'=k <;> simp [mset,mfind,h]
 | (k0,b)::m=>by
  rw [mset_cons]
  have ih:=mval_mset k a k' m
  by_cases h:k=k0
  ·subst h
   rw [if_pos rfl,mfind,mfind]
   by_cases h':k'=k <;> simp [h']
  ·rw [if_neg h,mfind,mfind]
   by_cases h':k'=k0
   ·subst h'
    simp [show ¬ k'=k from fun e=>h e.symm]
   ·rw [if_neg h',if_neg h']
    simp only [Option.map_map]
    have e:((fun x:Nat × α=>x.2) ∘ fun p:Nat × α=>(p.1+1,p.2))=fun x=>x.2:=rfl
    rw [e]
    exact ih
theorem mcnt_mset (m:List (Int × Int)) (k a k':Int):mcnt (mset m k a) k'=if k'=k then a else mcnt m k':=by
 unfold mcnt
 rw [mval_mset]
 split <;> rfl
def Cnt (m:List (Int × Int)) (L:List Int):Prop:=∀ k,mcnt m k=(L.count k:Nat)
theorem Cnt.nil:Cnt [] []:=fun _=>rfl
theorem Cnt.snoc {m:List (Int × Int)} {L:List Int} (h:Cnt m L) (k:Int):Cnt (mset m k (mcnt m k+1)) (L++[k]):=fun k'=>by
 rw [mcnt_mset,h k',h k,List.count_append]
 by_cases e:k'=k
 ·subst e;simp
 ·rw [if_neg e]
  have:List.count k' [k]=0:=List.count_eq_zero.2 (by simpa using e)
  omega
theorem Cnt.le {m:List (Int × Int)} {L:List Int} (h:Cnt m L) (k:Int):0≤mcnt m k∧mcnt m k≤L.length:=by
 rw [h k]
 have:=List.count_le_length (a:=k) (l:=L)
 omega
theorem Cnt.pos {m:List (Int × Int)} {L:List Int} (h:Cnt m L) (k:Int):(0<mcnt m k) ↔ k∈L:=by
 rw [h k]
 exact ⟨fun hp=>List.count_pos_iff.1 (by omega),fun hm=>by have:=List.count_pos_iff.2 hm;omega⟩
theorem wrTo_le {h:Hist'} (hs:Small h) (key:Int) (i k:Nat) (hi:i<h.ts.length):(wrTo h key i k).length≤1000000+1000:=by
 unfold wrTo opsTo
 rw [List.length_map]
 refine Nat.le_trans (List.length_filter_le _ _) ?_
 rw [List.length_append]
 have h1:((h.ts.take i).flatMap (·.ops)).length≤(h.ts.take i).length * 1000:=flat_le fun t ht=>hs.os t (List.mem_of_mem_take ht)
 rw [List.length_take] at h1
 have h2:((h.ts.getD i ⟨0,0,true,[]⟩).ops.take k).length≤1000:=by
  rw [List.length_take,getD_lt hi]
  have:=hs.os _ (List.getElem_mem hi)
  omega
 have h3:=hs.ts
 omega
theorem ev21 {h:Hist'} (hs:Small h) (key:Int):Ev E 21 [.agg (histC h),.int .i64 key] (.agg (valC (freshH h key))):=by
 have e70:=ev70 hs
 have hks:=hs.ks
 have hts:=hs.ts
 have hwl:=wrL_len hs key
 refine Ev_wpK (af:=F21) rfl ?_
 obtain ⟨R,hR⟩:∃ R,freshH h key=R:=⟨_,rfl⟩
 rw [hR]
 unfold freshH at hR
 simp [F21,histC,objCells]
 refine kS_ev e70 (by simp [histC]) rfl (by simp [histC]) ?_
 cases hm:mayH h
 ·rw [may_bad hm]
  rw [hm] at hR
  subst hR
  simp [objCells,splice]
  exact kEnd_of (by simp) (l:=[.agg (valC ⟨0,0⟩)]) (by simp [resOf,objCells,valC]) rfl rfl
 rw [hm] at hR
 rw [may_err hm]
 by_cases k1:key<0
 ·rw [if_neg (by simp;omega)] at hR
  subst hR
  simp [k1,objCells,splice]
  exact kEnd_of (by simp) (l:=[.agg (valC ⟨0,0⟩)]) (by simp [resOf,objCells,valC]) rfl rfl
 by_cases k2:(h.ks.length:Int)≤key
 ·rw [if_neg (by simp;omega)] at hR
  subst hR
  simp [k1,k2,objCells,splice]
  exact kEnd_of (by simp) (l:=[.agg (valC ⟨0,0⟩)]) (by simp [resOf,objCells,valC]) rfl rfl
 rw [if_pos (by simp;omega)] at hR
 simp [k1,k2,objCells]
 refine wpC_gen fun st hst=>?_
 have g1:st.tm 1 = .int .i64 key:=by rw [hst];simp
 have g2:st.tm 2 = .ptr 4 0 0:=by rw [hst];simp
 have g4:st.tm 4 = .ptr 8 64 0:=by rw [hst];simp
 obtain ⟨u,g5,p52⟩:∃ u,st.tm 5 = .map 52 u∧st.ob 52=some ⟨u,.mp 0 []⟩:=⟨_,by rw [hst];simp;rfl,by rw [hst];simp⟩
 have g28:st.tm 28=slOf h.tn txnC h.ts:=by rw [hst];simp
 have g29:st.tm 29 = .int .i64 h.ts.length:=by rw [hst];simp
 have g30:st.tm 30 = .int .i64 0:=by rw [hst];simp
 have p4:st.ob 4=some ⟨0,.cells (histC h)⟩:=by rw [hst];simp [histC]
 have p8:st.ob 8=some ⟨64,.cells [.int .i64 0,.int .i64 0]⟩:=by rw [hst];simp
 have gd:st.df=[]:=by rw [hst];simp
 have gb:st.fb=0:=by rw [hst];simp
 have gr:st.ro=0:=by rw [hst];simp
 clear hst
 refine wp_loopUp [(7,9),(30,56)] h.ts.length (fun i s=>s.tm 30 = .int .i64 i∧s.ob 8=some ⟨64,.cells [.int .i64 0,.int .i64 0]⟩∧∃ ver m,s.ob 52=some ⟨u,.mp ver (MP intV m)⟩∧Cnt m (wrTo h key i 0)) rfl rfl
  ⟨by simp [g30],p8,0,[],by simp [MP,p52],by simp [wrTo,opsTo_zero,Cnt.nil]⟩ ?_
 rintro i s hi ⟨h30,o8,ver,m,o52,hcnt⟩ f
 have f1:s.tm 1 = .int .i64 key:=by rw [f.t 1 (by simp),g1]
 have f5:s.tm 5 = .map 52 u:=by rw [f.t 5 (by simp),g5]
 have f4:s.tm 4 = .ptr 8 64 0:=by rw [f.t 4 (by simp),g4]
 have f28:s.tm 28=slOf h.tn txnC h.ts:=by rw [f.t 28 (by simp),g28]
 have f29:s.tm 29 = .int .i64 h.ts.length:=by rw [f.t 29 (by simp),g29]
 have fd:s.df=[]:=by rw [f.d,gd]
 have fb:s.fb=0:=by rw [f.b,gb]
 have fr:s.ro=0:=by rw [f.r,gr]
 clear f
 by_cases hlt:i<h.ts.length
 ·have hw:=wrapU hlt (by omega)
  obtain ⟨t,ht⟩:∃ t,h.ts[i]=t:=⟨_,rfl⟩
  have hos:=hs.os t (ht ▸ List.getElem_mem hlt)
  simp [h30,f28,f29,hlt,idx_slOf txnC_len,load_slOf txnC_len,ht,txnC,objCells,fb,fr,splice]
  refine wp_loopUp [(9,9),(37,55)] t.ops.length (fun k s'=>s'.tm 37 = .int .i64 k∧s'.ob 8=some ⟨64,.cells [.int .i64 0,.int .i64 0]⟩∧∃ ver m,s'.ob 52=some ⟨u,.mp ver (MP intV m)⟩∧Cnt m (wrTo h key i k)) rfl rfl
   ⟨by simp,by simp [o8],ver,m,by simp [o52],hcnt⟩ ?_
  rintro k s1 hk ⟨k37,q8,ver1,m1,q52,hc1⟩ f
  have n1:s1.tm 1 = .int .i64 key:=by rw [f.t 1 (by simp)];simp [f1]
  have n5:s1.tm 5 = .map 52 u:=by rw [f.t 5 (by simp)];simp [f5]
  have n30:s1.tm 30 = .int .i64 i:=by rw [f.t 30 (by simp)];simp [h30]
  have n35:s1.tm 35=slOf t.nl opC t.ops:=by rw [f.t 35 (by simp)];simp
  have n36:s1.tm 36 = .int .i64 t.ops.length:=by rw [f.t 36 (by simp)];simp
  have md:s1.df=[]:=by rw [f.d];simp [fd]
  have mb:s1.fb=0:=by rw [f.b];simp [fb]
  have mr:s1.ro=0:=by rw [f.r];simp [fr]
  clear f
  by_cases hkt:k<t.ops.length
  ·have hwk:=wrapU hkt (by omega)
   obtain ⟨o,ho⟩:∃ o,t.ops[k]=o:=⟨_,rfl⟩
   have hstep:wrTo h key i (k+1)=wrTo h key i k++(if wkB key o then [o.v.n] else []):=by
    have:=wrTo_step (h:=h) hlt (k:=k) (by rw [ht];exact hkt) key
    simp only [ht,ho] at this
    exact this
   have hskip:wkB key o=false→Cnt m1 (wrTo h key i (k+1)):=fun hw=>by rw [hstep,hw];simpa using hc1
   have hl4:=load_slOf opC_len s1.ob t.ops hkt
   rw [ho] at hl4
   simp [k37,n35,n36,hkt,idx_slOf opC_len,load_slOf opC_len,ho,opC,objCells,mb,mr,splice]
   cases hw1:o.w
   ·simp [k37,hwk,q8,q52]
    exact ⟨hkt,ver1,m1,⟨rfl,rfl⟩,hskip (by unfold wkB;rw [hw1];rfl)⟩
   ·cases hk1:(o.key == key)
    ·simp [k37,hwk,q8,q52,n1,hk1,objCells]
     exact ⟨hkt,ver1,m1,⟨rfl,rfl⟩,hskip (by unfold wkB;rw [hw1,hk1];rfl)⟩
    ·have hwt:wkB key o=true:=by unfold wkB;rw [hw1,hk1];rfl
     have hle:=hc1.le o.v.n
     have hwl:=wrTo_le hs key i k hlt
     have hwr:IntKind.i64.wrap (mcnt m1 o.v.n+1)=mcnt m1 o.v.n+1:=wrap64' (by omega) (by omega)
     simp [n1,hk1,objCells,n5,lookupV_MI m1,objMap,q52,hwr]
     refine kS_mapSet (f:=intV) (a:=mcnt m1 o.v.n+1) (ver:=ver1) (l:=52) (u:=u) (k:=o.v.n) m1 (by simp) (by simp) (by simp [intV]) (by simp [q52]) (by simp [mr]) ?_
     simp [k37,hwk,q8]
     refine ⟨hkt,ver1+1,mset m1 o.v.n (mcnt m1 o.v.n+1),by simp,?_⟩
     rw [hstep,hwt]
     exact hc1.snoc _
  ·have:k=t.ops.length:=by omega
   subst this
   have:=wrTo_next (h:=h) hlt key
   rw [ht] at this
   rw [this] at hc1
   simp [k37,n36,hw,n30,q8,q52]
   exact ⟨hlt,ver1,m1,⟨rfl,rfl⟩,hc1⟩
 ·have:i=h.ts.length:=by omega
  subst this
  rw [wrTo_end] at hcnt
  simp [h30,f29]
  refine wp_loopUp [(10,10),(57,62)] 1000000 (fun n s'=>s'.tm 10 = .int .i64 n∧s'.ob=s.ob∧∀ j:Nat,j<n→(j:Int)∈wrL h key) rfl rfl ⟨by simp,by simp,by simp⟩ ?_
  rintro n s1 hn ⟨h10,ho,hall⟩ f
  have n5:s1.tm 5 = .map 52 u:=by rw [f.t 5 (by simp)];simp [f5]
  have n4:s1.tm 4 = .ptr 8 64 0:=by rw [f.t 4 (by simp)];simp [f4]
  have md:s1.df=[]:=by rw [f.d];simp [fd]
  have mr:s1.ro=0:=by rw [f.r];simp [fr]
  clear f
  by_cases hin:(n:Int)∈wrL h key
  ·have hlt:n<1000000:=by
    have:=mex_le (n+1) (wrL h key) (fun j hj=>by rcases Nat.lt_succ_iff_lt_or_eq.1 hj with h | h;exact hall j h;rw [h];exact hin)
    omega
   have hw:=wrapU (i:=n) (N:=1000000) hlt (by omega)
   have hpos:=(hcnt.pos (n:Int)).2 hin
   simp [h10,n5,ho,lookupV_MI m,objMap,o52,hpos,hw]
   refine ⟨hlt,fun j hj=>?_⟩
   rcases Nat.lt_succ_iff_lt_or_eq.1 hj with h | h
   ·exact hall j h
   ·rw [h];exact hin
  ·have hpos:¬ 0<mcnt m n:=fun h=>hin ((hcnt.pos (n:Int)).1 h)
   rw [mex_of hin hall] at hR
   subst hR
   simp [h10,n5,ho,lookupV_MI m,objMap,o52,hpos,o8,n4,objCells,splice,mr]
   exact kEnd_of (by simp [md]) (l:=[.agg (valC ⟨1,n⟩)]) (by simp [resOf,objCells,valC,n4]) rfl rfl
end Go.Pv.T

/- Another value read at one place: what may have written it (plain). -/
namespace Go.Pv.T
open Go Go.Pv
theorem mex_not (l:List Int):((mex l:Nat):Int) ∉ l:=by
 unfold mex
 cases hf:(List.range (l.length+1)).find? fun (n:Nat)=>!decide ((n:Int)∈l) with
 | some n =>
  have:=List.find?_some hf
  simpa using this
 | none =>
  exfalso
  rw [List.find?_eq_none] at hf
  have:=mex_le (l.length+1) l fun j hj=>by
   have:=hf j (List.mem_range.2 hj)
   simpa using this
  omega
def setT (t:Txn') (b:Nat) (v:Val'):Txn':={ t with nl:=false,ops:=t.ops.modify b fun o=>{ o with v:=v } }
def setH (g:Hist') (a b:Nat) (v:Val'):Hist':={ g with tn:=false,ts:=g.ts.modify a fun t=>setT t b v }
theorem setH_len (g:Hist') (a b:Nat) (v:Val'):(setH g a b v).ts.length=g.ts.length:=by simp [setH]
theorem setT_len (t:Txn') (b:Nat) (v:Val'):(setT t b v).ops.length=t.ops.length:=by simp [setT]
theorem setH_at {g:Hist'} {a b:Nat} {v:Val'} {i:Nat} (hi:i<g.ts.length):(setH g a b v).ts[i]'(by rw [setH_len];exact hi)=if a=i then setT g.ts[i] b v else g.ts[i]:=by
 simp only [setH,List.getElem_modify]
theorem map_modify {α β:Type} (f:α→β) (k:α→α) (h:∀ x,f (k x)=f x):∀ (l:List α) (i:Nat),(l.modify i k).map f=l.map f
 | [],i=>by simp
 | x::l,0=>by simp [List.modify_cons,h]
 | x::l,i+1=>by simp [map_modify f k h l i]
theorem flat_modify {α β:Type} (f:α→List β) (k:α→α) (h:∀ x,f (k x)=f x):∀ (l:List α) (i:Nat),(l.modify i k).flatMap f=l.flatMap f
 | [],i=>by simp
 | x::l,0=>by simp [List.modify_cons,h]
 | x::l,i+1=>by simp [flat_modify f k h l i]
theorem any_modify {α:Type} (p:α→Bool) (k:α→α) (h:∀ x,p (k x)=p x):∀ (l:List α) (i:Nat),(l.modify i k).any p=l.any p
 | [],i=>by simp
 | x::l,0=>by simp [List.modify_cons,h]
 | x::l,i+1=>by simp [any_modify p k h l i]
theorem mem_modify {α:Type} {k:α→α} {y:α}:∀ {l:List α} {i:Nat},y∈l.modify i k→y∈l∨∃ x,l[i]? = some x∧y=k x
 | [],i,h=>by simp at h
 | x::l,0,h=>by
  rw [List.modify_cons] at h
  simp only [if_true,List.mem_cons] at h
  rcases h with rfl | h
  ·exact .inr ⟨x,rfl,rfl⟩
  ·exact .inl (List.mem_cons_of_mem _ h)
 | x::l,i+1,h=>by
  rw [List.modify_cons] at h
  simp only [Nat.add_one_ne_zero,if_false,Nat.add_sub_cancel,List.mem_cons] at h
  rcases h with rfl | h
  ·exact .inl (List.mem_cons_self ..)
  ·rcases mem_modify h with h | ⟨z,h1,h2⟩
   ·exact .inl (List.mem_cons_of_mem _ h)
   ·exact .inr ⟨z,by simpa using h1,h2⟩
theorem setT_key (t:Txn') (b:Nat) (v:Val'):(setT t b v).ops.map (·.key)=t.ops.map (·.key):=map_modify (·.key) (fun o:Op'=>{ o with v:=v }) (fun _=>rfl) _ _
theorem setH_usesK (g:Hist') (a b:Nat) (v:Val'):usesK (setH g a b v)=usesK g:=by
 unfold usesK opsOf
 rw [List.map_flatMap,List.map_flatMap]
 exact flat_modify _ _ (fun t=>setT_key t b v) _ _
theorem setH_usesS (g:Hist') (a b:Nat) (v:Val'):usesS (setH g a b v)=usesS g:=map_modify (fun t:Txn'=>t.s) (fun t=>setT t b v) (fun _=>rfl) g.ts a
theorem setH_may {g:Hist'} {a b:Nat} {v:Val'} {t:Txn'} {o:Op'} (hm:mayH g=true) (ht:g.ts[a]? = some t) (ho:t.ops[b]? = some o) (hw:o.w=false) (hv:valB v=true):mayH (setH g a b v)=true:=by
 unfold mayH at hm ⊢
 simp only [Bool.and_eq_true,List.all_eq_true] at hm ⊢
 obtain ⟨h1,h2,h3,h4⟩:=hm
 refine ⟨?_,?_,?_,?_⟩
 ·unfold headsB at h1 ⊢
  rw [setH_len]
  exact h1
 ·intro x hx
  rcases mem_modify hx with hx | ⟨y,hy,rfl⟩
  ·exact h2 x hx
  ·have:=h2 y (List.mem_of_getElem? hy)
   unfold txnB at this ⊢
   rw [setT_len]
   exact this
 ·intro x hx
  unfold opsOf at hx h3
  rw [List.mem_flatMap] at hx
  obtain ⟨y,hy,hx⟩:=hx
  rcases mem_modify hy with hy | ⟨z,hz,rfl⟩
  ·exact h3 x (List.mem_flatMap.2 ⟨y,hy,hx⟩)
  ·rw [ht] at hz
   cases hz
   have hmt:=List.mem_of_getElem? ht
   rcases mem_modify hx with hx | ⟨q,hq,rfl⟩
   ·exact h3 x (List.mem_flatMap.2 ⟨_,hmt,hx⟩)
   ·rw [ho] at hq
    cases hq
    have:=h3 o (List.mem_flatMap.2 ⟨_,hmt,List.mem_of_getElem? ho⟩)
    unfold opB at this ⊢
    simp only [Bool.and_eq_true] at this ⊢
    exact ⟨this.1,hv,by simp [hw]⟩
 ·unfold usedB at h4 ⊢
  rw [setH_usesK,setH_usesS]
  exact h4
theorem setT_wk {t:Txn'} {b:Nat} {v:Val'} (k:Int):(setT t b v).ops.any (wkB k)=t.ops.any (wkB k):=any_modify (wkB k) (fun o:Op'=>{ o with v:=v }) (fun _=>rfl) _ _
theorem setH_wrB {g:Hist'} {a b:Nat} {v:Val'} {k:Int}:∀ n,n≤g.ts.length→numsTo (wrB k) (setH g a b v).ts n=numsTo (wrB k) g.ts n
 | 0,_=>rfl
 | n+1,h=>by
  rw [numsTo_succ (by rw [setH_len];omega),numsTo_succ (by omega),setH_wrB n (by omega),setH_at (by omega)]
  congr 1
  split
  ·unfold wrB
   rw [setT_wk]
   rfl
  ·rfl
theorem setH_writers {g:Hist'} {a b:Nat} {v:Val'} (k:Int):writersH (setH g a b v) k=writersH g k:=by
 unfold writersH
 rw [setH_len]
 exact setH_wrB _ (Nat.le_refl _)
theorem setH_leave {g:Hist'} {a b:Nat} {v:Val'} (hm:mayH g=true) (hm':mayH (setH g a b v)=true) {k:Int} {i:Int} (hi:(i == (a:Int))=false):leaveOf (setH g a b v) k i=leaveOf g k i:=by
 unfold leaveOf opsAt
 rw [hm,hm',setH_len]
 by_cases h:0≤i∧i<g.ts.length
 ·obtain ⟨n,rfl⟩:=Int.eq_ofNat_of_zero_le h.1
  have hn:n<g.ts.length:=by omega
  rw [if_pos (by simp;omega),if_pos (by simp;omega)]
  simp only [Int.toNat_natCast]
  rw [getD_lt (by rw [setH_len];exact hn),getD_lt hn,setH_at hn,if_neg (by simp at hi;omega)]
 ·rw [if_neg (by simp;omega),if_neg (by simp;omega)]
theorem opAt_of {g:Hist'} {a b:Nat} {t:Txn'} {o:Op'} (hm:mayH g=true) (ht:g.ts[a]? = some t) (ho:t.ops[b]? = some o):opAt g a b=some o:=by
 obtain ⟨h1,h2⟩:=List.getElem?_eq_some_iff.1 ht
 obtain ⟨h3,h4⟩:=List.getElem?_eq_some_iff.1 ho
 unfold opAt
 simp only [Int.toNat_natCast]
 have hg:g.ts.getD a ⟨0,0,true,[]⟩=t:=by rw [getD_lt h1,h2]
 have hlt:b<(g.ts.getD a ⟨0,0,true,[]⟩).ops.length:=by rw [hg];exact h3
 rw [hm,if_pos (by simp only [Bool.true_and,Bool.and_eq_true,decide_eq_true_eq];omega),hg]
 exact ho
theorem setH_opAt {g:Hist'} {a b:Nat} {v:Val'} {t:Txn'} {o:Op'} (hm:mayH (setH g a b v)=true) (ht:g.ts[a]? = some t) (ho:t.ops[b]? = some o):opAt (setH g a b v) a b=some { o with v:=v } :=
 opAt_of hm (t:=setT t b v) (by simp [setH,ht]) (by simp [setT,ho])
theorem mem_insV {l:List Val'} {v x:Val'}:x∈insV l v ↔ x=v∨x∈l:=by
 unfold insV
 split
 ·rename_i h
  have:=List.mem_of_getElem? h
  constructor
  ·exact .inr
  ·rintro (rfl | h)
   ·exact this
   ·exact h
 ·rw [List.mem_append,List.mem_cons]
  have:x∈l ↔ x∈l.take (posV v l)∨x∈l.drop (posV v l):=by
   rw [← List.mem_append,List.take_append_drop]
  rw [this]
  constructor
  ·rintro (h | h | h)
   ·exact .inr (.inl h)
   ·exact .inl h
   ·exact .inr (.inr h)
  ·rintro (h | h | h)
   ·exact .inr (.inl h)
   ·exact .inl h
   ·exact .inr (.inr h)
theorem mem_foldV:∀ {l m:List Val'} {x:Val'},x∈l.foldl insV m ↔ x∈l∨x∈m
 | [],m,x=>by simp
 | v::l,m,x=>by
  rw [List.foldl_cons,mem_foldV,mem_insV,List.mem_cons]
  constructor
  ·rintro (h | h | h)
   ·exact .inl (.inr h)
   ·exact .inl (.inl h)
   ·exact .inr h
  ·rintro ((h | h) | h)
   ·exact .inr (.inl h)
   ·exact .inl h
   ·exact .inr (.inr h)
theorem mem_sortV {l:List Val'} {x:Val'}:x∈sortV l ↔ x∈l∧valB x=true:=by
 unfold sortV
 rw [mem_foldV,List.mem_filter]
 simp
theorem set_in {g:Hist'} {a b:Nat} {v:Val'} {t:Txn'} {o:Op'} (hm:mayH g=true) (ht:g.ts[a]? = some t) (ho:t.ops[b]? = some o) (hw:o.w=false) (hv:v∈valsH g a b):ofH (setH g a b v) a b≠[]:=by
 unfold valsH at hv
 rw [opAt_of hm ht ho] at hv
 simp only [hw,Bool.false_eq_true,if_false] at hv
 rw [mem_sortV] at hv
 obtain ⟨hv,hb⟩:=hv
 have hm':=setH_may hm ht ho hw hb
 unfold ofH
 rw [setH_opAt hm' ht ho]
 simp only [hw,Bool.false_eq_true,if_false]
 unfold ofL ofStart
 by_cases hk:v.kind=1
 ·unfold valsOf othersOf at hv
  rw [List.mem_cons,List.map_map,List.mem_map] at hv
  rcases hv with rfl | ⟨i,hi,rfl⟩
  ·simp at hk
  ·rw [List.mem_filter] at hi
   intro hn
   have:=(List.append_eq_nil_iff.1 hn).2
   rw [List.filter_eq_nil_iff] at this
   refine this i (by rw [setH_writers];exact hi.1) ?_
   have hia:(i == (a:Int))=false:=by simpa using hi.2
   rw [hia,setH_leave hm hm' hia]
   simp [fitsR]
 ·simp [hk]
theorem rawTo_mem (k:Int) (ops:List Op'):∀ n,(rawTo k ops n).1.kind=1→∃ o∈ops,wkB k o=true∧o.v=(rawTo k ops n).1
 | 0,h=>by simp [rawTo] at h
 | n+1,h=>by
  rw [rawTo] at h ⊢
  cases ho:ops[n]? with
  | none=>rw [ho] at h;exact rawTo_mem k ops n h
  | some o =>
   rw [ho] at h
   simp only at h ⊢
   cases hw:wkB k o
   ·rw [hw] at h
    exact rawTo_mem k ops n h
   ·exact ⟨o,List.mem_of_getElem? ho,hw,rfl⟩
theorem set_fresh {g:Hist'} {a b:Nat} {t:Txn'} {o:Op'} (hm:mayH g=true) (ht:g.ts[a]? = some t) (ho:t.ops[b]? = some o) (hw:o.w=false):ofH (setH g a b ⟨1,(mex (wrL g o.key):Nat)⟩) a b=[]:=by
 have hm':=setH_may (v:=⟨1,(mex (wrL g o.key):Nat)⟩) hm ht ho hw rfl
 unfold ofH
 rw [setH_opAt hm' ht ho]
 simp only [hw,Bool.false_eq_true,if_false]
 unfold ofL ofStart
 simp only [if_true,List.nil_append]
 rw [List.filter_eq_nil_iff]
 intro i hi
 simp only [Bool.and_eq_true,Bool.not_eq_true',not_and]
 intro hia
 rw [setH_leave hm hm' hia]
 simp only [fitsR,Bool.or_eq_true,Bool.and_eq_true,beq_iff_eq]
 rintro (h | ⟨h1,h2⟩)
 ·exact absurd h (by decide)
 ·have:=rawTo_mem o.key (opsAt g i).2 _ h1
  obtain ⟨q,hq,hk,hqv⟩:=this
  refine mex_not (wrL g o.key) ?_
  rw [← h2]
  unfold leaveOf lastW
  rw [← hqv]
  unfold wrL
  refine List.mem_map_of_mem (List.mem_filter.2 ⟨?_,hk⟩)
  unfold opsAt at hq
  split at hq
  ·rename_i hc
   simp only [Bool.and_eq_true,decide_eq_true_eq] at hc
   have hlt:i.toNat<g.ts.length:=by omega
   rw [getD_lt hlt] at hq
   exact List.mem_flatMap.2 ⟨_,List.getElem_mem hlt,hq⟩
  ·simp at hq
theorem vals_read {g:Hist'} {a b:Int} (h:valsH g a b≠[]):∃ o,opAt g a b=some o∧o.w=false:=by
 unfold valsH at h
 cases hop:opAt g a b with
 | none=>rw [hop] at h;exact absurd rfl h
 | some o =>
  rw [hop] at h
  refine ⟨o,rfl,?_⟩
  cases hw:o.w
  ·rfl
  ·simp [hw] at h
theorem vals_none {g:Hist'} {a b:Int} (h:valsH g a b=[]):ofH g a b=[]:=by
 unfold valsH at h
 unfold ofH
 cases hop:opAt g a b with
 | none=>rfl
 | some o =>
  rw [hop] at h
  simp only at h ⊢
  cases hw:o.w
  ·rw [hw] at h
   simp only [Bool.false_eq_true,if_false] at h
   have:(⟨0,0⟩:Val')∈sortV (valsOf (othersOf g a o.key (writersH g o.key))):=mem_sortV.2 ⟨by unfold valsOf;exact List.mem_cons_self ..,rfl⟩
   rw [h] at this
   simp at this
  ·rfl
end Go.Pv.T

/- WriterHas, but for its fixed example. -/
namespace Go.Pv.T
open Go Go.Pv
theorem setH_small {g:Hist'} (hs:Small g) (a b:Nat) (v:Val'):Small (setH g a b v) where
 ss:=hs.ss
 sl:=hs.sl
 ks:=hs.ks
 kl:=hs.kl
 ts:=by rw [setH_len];exact hs.ts
 os t ht:=by
  rcases mem_modify ht with h | ⟨y,hy,rfl⟩
  ·exact hs.os t h
  ·rw [setT_len]
   exact hs.os y (List.mem_of_getElem? hy)
theorem sv27 {Yf:YF} {g:Hist'} (hs:Small g) (a b:Int) {args:List V} {ob:Nat→Option Obj'} {tk:Nat→Bool} {ro base ub:Nat} (ha:args.mapM (frzTop ob)=some [.agg (histC g),.agg (placeC (a,b))]) :
 ∃ r,EvS E Yf.y 27 args ob tk ro base ub r∧(lenSlV r.1=some (.int .i64 (ofH g a b).length)∧(∀ key,key≠2 * ub+1→r.2.1 key=ob key)∧r.2.2.1=tk∧r.2.2.2=ub+64):=by
 have e27:=ev27 hs a b
 obtain ⟨l,hl⟩:∃ l,ofH g a b=l:=⟨_,rfl⟩
 rw [hl] at e27 ⊢
 cases l with
 | nil=>exact ⟨(.sl none true 0 [],ob,tk,ub+64),EvS_tw rfl ha e27 rfl,rfl,fun _ _=>rfl,rfl,rfl⟩
 | cons x T =>
  have hc:((x::T).flatMap intC).all V.scal=true:=by
   rw [List.all_eq_true]
   intro v hv
   obtain ⟨n,_,hn⟩:=List.mem_flatMap.1 hv
   simp only [intC,List.mem_singleton] at hn
   rw [hn];rfl
  refine ⟨(.osl (2 * ub+1) ub 0 (x::T).length 1,upd ob (2 * ub+1) (some ⟨ub,.cells ((x::T).flatMap intC)⟩),tk,ub+64),EvS_tw rfl ha e27 ?_,rfl,fun key h=>?_,rfl,rfl⟩
  ·simp only [intsV,List.isEmpty_cons,Bool.false_eq_true,if_false,thawR,hc,if_true]
  ·have hb:key.beq (2 * ub+1)=false:=by
    cases e:key.beq (2 * ub+1)
    ·rfl
    ·exact absurd (Nat.eq_of_beq_eq_true e) h
   simp [upd,hb]
theorem frz_histT (ob:Nat→Option Obj') (g:Hist') (a1 b1 c1:Option (Nat × Nat)) (a b:Int):[V.agg [.sl a1 g.sn g.ss.length (g.ss.flatMap strC),.sl b1 g.kn g.ks.length (g.ks.flatMap strC),.sl c1 g.tn g.ts.length (g.ts.flatMap txnC)],.agg [.int .i64 a,.int .i64 b]].mapM (frzTop ob)=some [.agg (histC g),.agg (placeC (a,b))]:=by
 cases a1 <;> cases b1 <;> cases c1 <;> rfl
theorem solid_leaf {st:St} {k:Nat} {v:V} (h:v.pureLeaf=true):solid st (k+1) v=some v:=by
 cases v with
 | sl t nl n cs=>cases t with
  | none=>rfl
  | some t=>cases h
 | osl l u a n s=>cases h
 | _=>simp [solid,h]
theorem solid_leafs {st:St} {k:Nat}:∀ {l:List V},l.all V.pureLeaf=true→l.mapM (solid st (k+1))=some l
 | [],_=>rfl
 | v::l,h=>by
  rw [List.all_cons,Bool.and_eq_true] at h
  rw [List.mapM_cons,solid_leaf h.1,solid_leafs h.2]
  rfl
theorem leaf_txns (l:List Txn'):(l.flatMap txnC).all V.pureLeaf=true:=by
 rw [List.all_flatMap,List.all_eq_true]
 intro t _
 rfl
theorem leaf_ops (l:List Op'):(l.flatMap opC).all V.pureLeaf=true:=by
 rw [List.all_flatMap,List.all_eq_true]
 intro t _
 rfl
theorem mapM_app {f:V→Option V}:∀ {l m l' m':List V},l.mapM f=some l'→m.mapM f=some m'→(l++m).mapM f=some (l'++m')
 | [],m,l',m',h,h'=>by
  cases (show some []=some l' from h)
  exact h'
 | v::l,m,l',m',h,h'=>by
  rw [List.mapM_cons] at h
  rw [List.cons_append,List.mapM_cons]
  cases hv:f v with
  | none=>rw [hv] at h;cases h
  | some v' =>
   rw [hv] at h
   cases hl:l.mapM f with
   | none=>rw [hl] at h;cases h
   | some r =>
    rw [hl] at h
    cases (show some (v'::r)=some l' from h)
    rw [mapM_app hl h']
    rfl
theorem ts_set {v:List V} (hv:v.length=3):∀ {l:List Txn'} {i:Nat} ,i<l.length→splice (l.flatMap txnC) (i * 3) v=(l.take i).flatMap txnC++(v++(l.drop (i+1)).flatMap txnC)
 | [],_,h=>by simp at h
 | t::l,0,_=>by
  simp only [splice,List.flatMap_cons,Nat.zero_mul,List.take_zero,List.nil_append,List.flatMap_nil,hv,Nat.zero_add,List.drop_succ_cons,List.drop_zero]
  rw [show (3:Nat)=(txnC t).length from rfl,List.drop_left]
 | t::l,i+1,h=>by
  have ih:=ts_set hv (l:=l) (i:=i) (by simpa using h)
  simp only [List.take_succ_cons,List.drop_succ_cons,List.flatMap_cons,List.append_assoc]
  rw [← ih]
  have:(i+1) * 3=(txnC t).length+i * 3:=by simp;omega
  rw [this]
  simp only [splice,Nat.add_assoc]
  rw [List.take_length_add_append,List.drop_length_add_append]
  simp only [List.append_assoc]
theorem frz_set {ob:Nat→Option Obj'} {g:Hist'} {a1 b1:Option (Nat × Nat)} {i j:Nat} {w:Val'} {T:Txn'} {L u:Nat} (hi:i<g.ts.length) (hT:g.ts[i]=T)
 (h1:ob L=some ⟨u,.cells (splice (g.ts.flatMap txnC) (i * 3) [.int .i64 T.s,.int .i64 T.f,.osl 3969 1984 0 T.ops.length 4])⟩) (h2:ob 3969=some ⟨1984,.cells ((setT T j w).ops.flatMap opC)⟩) :
 [V.agg [.sl a1 g.sn g.ss.length (g.ss.flatMap strC),.sl b1 g.kn g.ks.length (g.ks.flatMap strC),.osl L u 0 g.ts.length 3],.agg [.int .i64 i,.int .i64 j]].mapM (frzTop ob)=some [.agg (histC (setH g i j w)),.agg (placeC (i,j))]:=by
 obtain ⟨st,hst⟩:∃ st,startS [] ob (fun _=>false) 0 0 0=st:=⟨_,rfl⟩
 have sob:st.ob=ob:=by rw [← hst];rfl
 have sro:st.ro=0:=by rw [← hst];rfl
 have q2:solid st 5 (.osl 3969 1984 0 T.ops.length 4)=some (slOf false opC (setT T j w).ops):=by
  have hoc:objCells st.ob 3969 1984=some ((setT T j w).ops.flatMap opC):=by simp [objCells,sob,h2]
  have hl:((setT T j w).ops.flatMap opC).length=T.ops.length * 4:=by rw [flatMap_len opC_len,setT_len]
  show ((objCells st.ob 3969 1984).bind fun cs=>if Nat.ble st.ro 1984=true∧0+T.ops.length * 4≤cs.length then (((cs.drop 0).take (T.ops.length * 4)).mapM (solid st 4)).map fun cs'=>V.sl none false T.ops.length cs' else none)=_
  rw [hoc,Option.bind_some,if_pos ⟨by rw [sro];rfl,by omega⟩,List.drop_zero,← hl,List.take_length,solid_leafs (leaf_ops _)]
  simp [slOf,setT_len]
 have q1:solid st 6 (.osl L u 0 g.ts.length 3)=some (slOf false txnC (setH g i j w).ts):=by
  rw [ts_set rfl hi] at h1
  obtain ⟨cs,hcs⟩:∃ cs,(g.ts.take i).flatMap txnC++([.int .i64 T.s,.int .i64 T.f,.osl 3969 1984 0 T.ops.length 4]++(g.ts.drop (i+1)).flatMap txnC)=cs:=⟨_,rfl⟩
  rw [hcs] at h1
  have hoc:objCells st.ob L u=some cs:=by simp [objCells,sob,h1]
  have hl:cs.length=g.ts.length * 3:=by
   rw [← hcs]
   simp only [List.length_append,flatMap_len txnC_len,List.length_take,List.length_drop,List.length_cons,List.length_nil]
   omega
  show ((objCells st.ob L u).bind fun cs=>if Nat.ble st.ro u=true∧0+g.ts.length * 3≤cs.length then (((cs.drop 0).take (g.ts.length * 3)).mapM (solid st 5)).map fun cs'=>V.sl none false g.ts.length cs' else none)=_
  rw [hoc,Option.bind_some,if_pos ⟨by rw [sro];exact Nat.ble_eq ▸ Nat.zero_le _,by omega⟩,List.drop_zero,← hl,List.take_length,← hcs]
  have hmid:[V.int .i64 T.s,.int .i64 T.f,.osl 3969 1984 0 T.ops.length 4].mapM (solid st 5)=some (txnC (setT T j w)):=by
   rw [List.mapM_cons,List.mapM_cons,List.mapM_cons,q2]
   rfl
  rw [mapM_app (solid_leafs (leaf_txns _)) (mapM_app hmid (solid_leafs (leaf_txns _)))]
  simp only [Option.map_some,slOf,setH]
  rw [List.modify_eq_take_cons_drop hi,hT,List.flatMap_append,List.flatMap_cons]
  simp
  omega
 have h0:∀ t nl (l:List (List UInt8)),solid st 6 (.sl t nl l.length (l.flatMap strC))=some (slOf nl strC l):=fun t nl l=>by cases t <;> rfl
 have ha:frzTop ob (.agg [.sl a1 g.sn g.ss.length (g.ss.flatMap strC),.sl b1 g.kn g.ks.length (g.ks.flatMap strC),.osl L u 0 g.ts.length 3])=some (.agg (histC (setH g i j w))):=by
  show (List.mapM (solid (startS [] ob (fun _=>false) 0 0 0) 6) _).map V.agg=_
  rw [hst,List.mapM_cons,List.mapM_cons,List.mapM_cons,q1,h0,h0]
  rfl
 rw [List.mapM_cons,ha]
 rfl
theorem ops_set {v v':Val'}:∀ {l:List Op'} {j:Nat},j<l.length→splice ((l.modify j fun o=>{ o with v:=v }).flatMap opC) (j * 4+2) (valC v')=(l.modify j fun o=>{ o with v:=v' }).flatMap opC
 | [],_,h=>by simp at h
 | o::l,0,_=>by simp [List.modify_cons,splice,opC,valC]
 | o::l,j+1,h=>by
  have ih:=ops_set (v:=v) (v':=v') (l:=l) (j:=j) (by simpa using h)
  simp only [List.modify_cons,Nat.add_one_ne_zero,if_false,Nat.add_sub_cancel,List.flatMap_cons]
  rw [← ih]
  have:(j+1) * 4+2=(opC o).length+(j * 4+2):=by simp [opC];omega
  rw [this]
  simp only [splice,Nat.add_assoc]
  rw [List.take_length_add_append,List.drop_length_add_append]
  simp only [List.append_assoc]
theorem ops_same (l:List Op') (j:Nat) (o:Op') (h:l[j]? = some o):(l.modify j fun x=>{ x with v:=o.v })=l:=by
 apply List.ext_getElem?
 intro n
 rw [List.getElem?_modify]
 split
 ·rename_i hn
  subst hn
  rw [h]
  rfl
 ·simp
set_option maxRecDepth 100000 in
theorem ev7_of (ev25:Ev E 25 [] (.bool true)) (h:Hist') (a b:Int):Ev E 7 [.agg (histC h),.agg [.int .i64 a,.int .i64 b]] (.bool true):=by
 obtain ⟨r,ev,hr⟩:=ev14 h
 have hs:=small_few h
 generalize fewH h=g at *
 have e30:=ev30 hs a b
 have e32:=ev32 hs
 have hol:=ofH_len' g a b
 have hvl:=valsH_len (g:=g) a b
 obtain ⟨t,nl3,hgv,htv⟩:=vals_given g a b
 have h30:SlR (valuesR g a b) nl3 (valsH g a b).length ((valsH g a b).flatMap valC):=⟨t,hgv,fun p hp=>by
  rcases htv with rfl | rfl
  ·simp at hp
  ·simp at hp;subst hp;decide⟩
 refine Ev_wpK (af:=F7) rfl ?_
 simp [F7,histC]
 refine kS_ev ev25 (by simp) rfl (by simp) ?_
 simp [objCells]
 refine kS_ev ev (by simp [histC]) rfl (by simp [histC]) ?_
 refine retHist hr fun a1 b1 c1 add1=>?_
 simp [objCells,splice]
 refine kS_ev e30 (by simp [histC,slOf,placeC]) rfl (by simp [histC,placeC]) ?_
 refine retSl h30 fun t30 add30=>?_
 simp [objCells]
 refine kS_ev e32 (by simp [histC,slOf]) rfl (by simp [histC]) ?_
 have hend:∀ {c:C} {s:St},s.df=[]→ofH g a b=[]→True:=fun _ _=>trivial
 cases hm:mayH g
 ·rw [may_bad hm]
  have hz:ofH g a b=[]:=by unfold ofH opAt;simp [hm]
  simp [objCells]
  refine kS_callP (vs:=[.agg [.sl a1 g.sn g.ss.length (g.ss.flatMap strC),.sl b1 g.kn g.ks.length (g.ks.flatMap strC),.sl c1 g.tn g.ts.length (g.ts.flatMap txnC)],.agg [.int .i64 a,.int .i64 b]]) (by simp) rfl (sv27 hs a b ?_) ?_
  ·exact frz_histT _ g a1 b1 c1 a b
  rintro v ob1 tk1 ub1 ⟨hlen,hoth,htk,hub⟩
  simp only at hlen hoth htk hub
  rw [hz] at hlen
  simp [hlen]
  exact endV_1 (by simp) (by simp) rfl
 rw [may_err hm]
 by_cases hne:valsH g a b=[]
 ·have hz:=vals_none hne
  simp [objCells,hne]
  refine kS_callP (vs:=[.agg [.sl a1 g.sn g.ss.length (g.ss.flatMap strC),.sl b1 g.kn g.ks.length (g.ks.flatMap strC),.sl c1 g.tn g.ts.length (g.ts.flatMap txnC)],.agg [.int .i64 a,.int .i64 b]]) (by simp) rfl (sv27 hs a b ?_) ?_
  ·exact frz_histT _ g a1 b1 c1 a b
  rintro v ob1 tk1 ub1 ⟨hlen,hoth,htk,hub⟩
  simp only at hlen hoth htk hub
  rw [hz] at hlen
  simp [hlen]
  exact endV_1 (by simp) (by simp) rfl
 obtain ⟨o,hop,how⟩:=vals_read hne
 obtain ⟨i,j,rfl,rfl,hi,hj,ho⟩:=opAt_some hop
 have hn0:¬ ((valsH g i j).length:Int)=0:=by
  have:=List.length_pos_iff.2 hne
  omega
 have hts:=may_ts hm
 have e21:=ev21 hs o.key
 obtain ⟨T,hT⟩:∃ T,g.ts[i]=T:=⟨_,rfl⟩
 simp only [hT] at hj ho
 have hos:=hs.os T (hT ▸ List.getElem_mem hi)
 have hb0:(((valsH g i j).length:Int) == 0)=false:=by simpa using hne
 simp [objCells,hb0,idx_sl txnC_len,load_slOf txnC_len,hi,hT,txnC,splice]
 refine kS_buildSlO (cs:=[]) rfl rfl rfl ?_
 simp [objCells]
 have hx0:T.ops.flatMap opC≠[]:=fun e=>by
  have:=congrArg List.length e
  rw [flatMap_len opC_len] at this
  simp at this
  omega
 have hlf:(T.ops.flatMap opC).all V.leaf=true:=by
  rw [List.all_eq_true]
  intro v hv
  obtain ⟨o,_,hv⟩:=List.mem_flatMap.1 hv
  simp only [opC,List.mem_cons,List.not_mem_nil,or_false] at hv
  rcases hv with rfl | rfl | rfl | rfl <;> rfl
 have hl4:(T.ops.flatMap opC).length / 4=T.ops.length:=by rw [flatMap_len opC_len];omega
 refine kS_appendO (l:=3585) (u:=1792) (n:=0) (cs:=[]) (ys:=T.ops.flatMap opC) (by simp) (by simp [slOf,slCells,flatMap_len opC_len]) (by simp) hx0 (by simp) (by simp) (by omega) hlf (by rw [hl4];omega) (by rw [hl4];omega) ?_
 rw [hl4]
 simp [objCells,splice]
 refine wpC_gen fun st hst=>?_
 have g2:st.tm 2 = .ptr 1 0 0:=by rw [hst];simp
 have g3:st.tm 3 = .ptr 129 64 0:=by rw [hst];simp
 have g5:st.tm 5 = .sl t30 nl3 (valsH g i j).length ((valsH g i j).flatMap valC):=by rw [hst];simp
 have g6:st.tm 6 = .ptr 3329 1664 0:=by rw [hst];simp
 have g7:st.tm 7 = .int .i64 0:=by rw [hst];simp
 have p1:st.ob 1=some ⟨0,.cells [.sl a1 g.sn g.ss.length (g.ss.flatMap strC),.sl b1 g.kn g.ks.length (g.ks.flatMap strC),.sl c1 g.tn g.ts.length (g.ts.flatMap txnC)]⟩:=by rw [hst];simp
 have p2:st.ob 129=some ⟨64,.cells [.int .i64 i,.int .i64 j]⟩:=by rw [hst];simp
 have p3:st.ob 3329=some ⟨1664,.cells [.int .i64 T.s,.int .i64 T.f,.osl 3969 1984 0 T.ops.length 4]⟩:=by rw [hst];simp
 have p4:st.ob 3969=some ⟨1984,.cells ((setT T j o.v).ops.flatMap opC)⟩:=by
  rw [hst]
  simp only [setT]
  rw [ops_same T.ops j o (by rw [List.getElem?_eq_getElem hj,ho])]
  simp
 have gn:st.nx=2240:=by rw [hst];simp
 have gd:st.df=[]:=by rw [hst];simp
 have gb:st.fb=0:=by rw [hst];simp
 have gr:st.ro=0:=by rw [hst];simp
 clear hst
 obtain ⟨L,hL⟩:∃ L,valsH g i j=L:=⟨_,rfl⟩
 rw [hL] at g5
 have hL41:L.length≤41:=hL ▸ hvl
 refine wp_loopUp [(4,4),(7,9),(41,92)] (L.length+1) (fun n s=>s.tm 7 = .int .i64 n∧s.ob 1=some ⟨0,.cells [.sl a1 g.sn g.ss.length (g.ss.flatMap strC),.sl b1 g.kn g.ks.length (g.ks.flatMap strC),.sl c1 g.tn g.ts.length (g.ts.flatMap txnC)]⟩ ∧
  s.ob 129=some ⟨64,.cells [.int .i64 i,.int .i64 j]⟩∧s.ob 3329=some ⟨1664,.cells [.int .i64 T.s,.int .i64 T.f,.osl 3969 1984 0 T.ops.length 4]⟩∧(∃ v,s.ob 3969=some ⟨1984,.cells ((setT T j v).ops.flatMap opC)⟩)∧2240≤s.nx) rfl rfl
  ⟨g7,p1,p2,p3,⟨_,p4⟩,by omega⟩ ?_
 rintro n s hn ⟨h7,o1,o2,o3,⟨v0,o4⟩,hnx⟩ f
 have f2:s.tm 2 = .ptr 1 0 0:=by rw [f.t 2 (by simp),g2]
 have f3:s.tm 3 = .ptr 129 64 0:=by rw [f.t 3 (by simp),g3]
 have f5:s.tm 5 = .sl t30 nl3 L.length (L.flatMap valC):=by rw [f.t 5 (by simp),g5]
 have f6:s.tm 6 = .ptr 3329 1664 0:=by rw [f.t 6 (by simp),g6]
 have fd:s.df=[]:=by rw [f.d,gd]
 have fb:s.fb=0:=by rw [f.b,gb]
 have fr:s.ro=0:=by rw [f.r,gr]
 clear f
 have h45:(setT T j v0).ops.length=T.ops.length:=setT_len _ _ _
 by_cases hle:n≤L.length
 ·have hw:=wrapU (i:=n) (N:=L.length+1) (by omega) (by omega)
  have hky:((setT T j v0).ops.flatMap opC)[j * 4+1]? = some (.int .i64 o.key):=by
   rw [fld_at opC_len _ (by rw [h45];exact hj) (by decide:1<4)]
   simp [setT,ho,opC]
  have hidx:idxSlV 4 (.osl 3969 1984 0 T.ops.length 4) (.int .i64 j)=some (.ptr 3969 1984 (j * 4)):=by simp [idxSlV,hj]
  simp [h7,f2,f3,f5,f6,o1,o2,o3,o4,hle,objCells,hidx,hky]
  refine kD_ev e21 (by simp [histC,slOf]) rfl (by simp [histC]) ?_
  have hwf:freshH g o.key=⟨1,(mex (wrL g o.key):Nat)⟩:=by
   have hob:opB g o=true:=by
    unfold mayH at hm
    simp only [Bool.and_eq_true,List.all_eq_true] at hm
    refine hm.2.2.1 o (List.mem_flatMap.2 ⟨T,hT ▸ List.getElem_mem hi,ho ▸ List.getElem_mem hj⟩)
   unfold opB at hob
   simp only [Bool.and_eq_true] at hob
   have:=within_iff.1 hob.1
   unfold freshH
   rw [hm,if_pos (by simp only [Bool.true_and,Bool.and_eq_true,decide_eq_true_eq];omega)]
  generalize freshH g o.key=w at *
  rw [retA_plain (by simp [V.plain,valC])]
  have hsv:splice [V.int .i64 0,V.int .i64 0] 0 (valC w)=valC w:=rfl
  simp [objCells,hsv,fr]
  obtain ⟨z,hz⟩:∃ z,(s.nx+64+64+64+64+64+64+64+64+64+64+64+64+64)=z:=⟨_,rfl⟩
  have hz0:2240≤z:=by omega
  rw [hz]
  refine ⟨by simp [drawOk,indep,disj,fpOf,rdOb,rdTk,lOf,Delta.wo,Delta.wt,f2];exact ⟨nbeq (by omega),nbeq (by omega),nbeq (by omega),nbeq (by omega)⟩,?_⟩
  simp [h7,f5]
  refine kIf_gen fun st1 hst1=>?_
  have n1:¬ 2 * z=0:=by omega
  have n2:¬ 129=2 * z+1:=by omega
  have n3:¬ 3329=2 * z+1:=by omega
  have n4:¬ 3969=2 * z+1:=by omega
  have k2:st1.tm 2 = .ptr 1 0 0:=by rw [hst1];simp [f2]
  have k3:st1.tm 3 = .ptr 129 64 0:=by rw [hst1];simp [f3]
  have k5:st1.tm 5 = .sl t30 nl3 L.length (L.flatMap valC):=by rw [hst1];simp [f5]
  have k6:st1.tm 6 = .ptr 3329 1664 0:=by rw [hst1];simp [f6]
  have k7:st1.tm 7 = .int .i64 n:=by rw [hst1];simp [h7]
  have k8:st1.tm 8 = .ptr (2 * z+1) z 0:=by rw [hst1];simp
  have d1:st1.ob 1=some ⟨0,.cells [.sl a1 g.sn g.ss.length (g.ss.flatMap strC),.sl b1 g.kn g.ks.length (g.ks.flatMap strC),.sl c1 g.tn g.ts.length (g.ts.flatMap txnC)]⟩:=by rw [hst1];simp [o1,n1]
  have d2:st1.ob 129=some ⟨64,.cells [.int .i64 i,.int .i64 j]⟩:=by rw [hst1];simp [o2,n2]
  have d3:st1.ob 3329=some ⟨1664,.cells [.int .i64 T.s,.int .i64 T.f,.osl 3969 1984 0 T.ops.length 4]⟩:=by rw [hst1];simp [o3,n3]
  have d4:st1.ob 3969=some ⟨1984,.cells ((setT T j v0).ops.flatMap opC)⟩:=by rw [hst1];simp [o4,n4]
  have d8:st1.ob (2 * z+1)=some ⟨z,.cells (valC w)⟩:=by rw [hst1];simp
  have kd:st1.df=[]:=by rw [hst1];simp [fd]
  have kb:st1.fb=0:=by rw [hst1];simp [fb]
  have kr:st1.ro=0:=by rw [hst1];simp [fr]
  have kn:z<st1.nx:=by rw [hst1];simp;omega
  clear hst1
  generalize hK:kSeq E noYF (sr _ _) (kBlk 1 _)=K
  have rest:∀ (s2:St) (x:Val'),(∀ h:n<L.length,x=L[n])→(¬ n<L.length→x=w)→s2.tm 2 = .ptr 1 0 0→s2.tm 3 = .ptr 129 64 0→s2.tm 5 = .sl t30 nl3 L.length (L.flatMap valC)→s2.tm 6 = .ptr 3329 1664 0 →
   s2.tm 7 = .int .i64 n→s2.tm 8 = .ptr (2 * z+1) z 0→s2.ob 1=some ⟨0,.cells [.sl a1 g.sn g.ss.length (g.ss.flatMap strC),.sl b1 g.kn g.ks.length (g.ks.flatMap strC),.sl c1 g.tn g.ts.length (g.ts.flatMap txnC)]⟩ →
   s2.ob 129=some ⟨64,.cells [.int .i64 i,.int .i64 j]⟩→s2.ob 3329=some ⟨1664,.cells [.int .i64 T.s,.int .i64 T.f,.osl 3969 1984 0 T.ops.length 4]⟩→s2.ob 3969=some ⟨1984,.cells ((setT T j v0).ops.flatMap opC)⟩ →
   s2.ob (2 * z+1)=some ⟨z,.cells (valC x)⟩→s2.df=[]→s2.fb=0→s2.ro=0→z<s2.nx→K .nrm s2:=by
   intro s2 x hx1 hx2 k2 k3 k5 k6 k7 k8 d1 d2 d3 d4 d8 kd kb kr kn
   rw [← hK,kSeq_nrm]
   clear hK
   have hidx:idxSlV 4 (.osl 3969 1984 0 T.ops.length 4) (.int .i64 j)=some (.ptr 3969 1984 (j * 4)):=by simp [idxSlV,hj]
   have hsp:splice ((setT T j v0).ops.flatMap opC) (j * 4+2) (valC x)=(setT T j x).ops.flatMap opC:=ops_set hj
   have hlo:j * 4+2+2≤((setT T j v0).ops.flatMap opC).length:=by rw [flatMap_len opC_len,h45];omega
   have hv2:(valC x).take 2=valC x:=rfl
   simp [k2,k3,k6,k8,d1,d2,d3,d4,d8,kr,objCells,hidx,hsp,hv2]
   refine ⟨by have:=hlo;simp only [List.length_flatMap,opC_len] at this;exact this,?_⟩
   refine kS_buildSlO (cs:=[]) rfl rfl rfl ?_
   simp [objCells,k2,d1]
   have hy0:g.ts.flatMap txnC≠[]:=fun e=>by
    have:=congrArg List.length e
    rw [flatMap_len txnC_len] at this
    simp at this
    omega
   have hyl:(g.ts.flatMap txnC).all V.leaf=true:=by
    rw [List.all_flatMap,List.all_eq_true]
    intro t _
    rfl
   have hy3:(g.ts.flatMap txnC).length / 3=g.ts.length:=by rw [flatMap_len txnC_len];omega
   refine kS_appendO (l:=2 * (s2.nx+64+64+64+64+64+64+64+64+64+64+64)+1) (u:=(s2.nx+64+64+64+64+64+64+64+64+64+64+64)) (n:=0) (cs:=[]) (ys:=g.ts.flatMap txnC) (by simp) (by simp [slCells,flatMap_len txnC_len]) (by simp) hy0 (by simp [kr]) (by simp) (by omega) hyl (by rw [hy3];omega) (by rw [hy3];omega) ?_
   rw [hy3]
   have hidy:∀ l u,idxSlV 3 (.osl l u 0 g.ts.length 3) (.int .i64 i)=some (.ptr l u (i * 3)):=fun l u=>by simp [idxSlV,hi]
   have hly:i * 3+3≤(g.ts.flatMap txnC).length:=by rw [flatMap_len txnC_len];omega
   obtain ⟨zC,hC⟩:∃ z,(s2.nx+64+64+64+64+64+64+64+64+64+64+64+64+64+64)=z:=⟨_,rfl⟩
   obtain ⟨zB,hB⟩:∃ z,(s2.nx+64+64+64+64+64+64+64+64+64+64+64)=z:=⟨_,rfl⟩
   obtain ⟨zA,hA⟩:∃ z,(s2.nx+64+64+64+64+64+64+64+64+64)=z:=⟨_,rfl⟩
   have hAB:zB=zA+128:=by omega
   have hAC:zC=zA+320:=by omega
   have hA0:2240<zA:=by omega
   rw [hC,hB,hA]
   have w1:¬ 2 * zA=0:=by omega
   have w2:¬ 128=2 * zA:=by omega
   have w3:¬ 129=2 * zA+1:=by omega
   have w4:¬ 3328=2 * zA:=by omega
   have w5:¬ 3329=2 * zA+1:=by omega
   have w6:¬ 3968=2 * zA:=by omega
   have w7:¬ 3969=2 * zA+1:=by omega
   have w8:¬ 2 * zB=0:=by omega
   have w9:¬ 128=2 * zB:=by omega
   have w10:¬ 129=2 * zB+1:=by omega
   have w11:¬ 3328=2 * zB:=by omega
   have w12:¬ 3329=2 * zB+1:=by omega
   have w13:¬ 3968=2 * zB:=by omega
   have w14:¬ 3969=2 * zB+1:=by omega
   have w15:¬ 2 * zC=0:=by omega
   have w16:¬ 128=2 * zC:=by omega
   have w17:¬ 129=2 * zC+1:=by omega
   have w18:¬ 3328=2 * zC:=by omega
   have w19:¬ 3329=2 * zC+1:=by omega
   have w20:¬ 3968=2 * zC:=by omega
   have w21:¬ 3969=2 * zC+1:=by omega
   have w22:¬ 2 * zA=2 * zB:=by omega
   have w23:¬ 2 * zB=2 * zA:=by omega
   have w24:¬ 2 * zA=2 * zC:=by omega
   have w25:¬ 2 * zC=2 * zA:=by omega
   have w26:¬ 2 * zB=2 * zC:=by omega
   have w27:¬ 2 * zC=2 * zB:=by omega
   simp [objCells,splice,k3,k6,d2,d3,kr,hidy,w3,w5,w10,w12,w17,w19,w22,w24,w25]
   refine ⟨by have:=hly;simp only [List.length_flatMap,txnC_len] at this;exact this,?_⟩
   have hy:(ofH (setH g i j x) i j).length=0 ↔ ¬ n<L.length:=by
    rw [List.length_eq_zero_iff]
    by_cases hlt:n<L.length
    ·have hx:x∈valsH g i j:=by rw [hL,hx1 hlt];exact List.getElem_mem hlt
     have:=set_in hm (by rw [List.getElem?_eq_getElem hi,hT]) (by rw [List.getElem?_eq_getElem hj,ho]) how hx
     exact ⟨fun e=>absurd e this,fun e=>absurd hlt e⟩
    ·have:=set_fresh hm (by rw [List.getElem?_eq_getElem hi,hT]) (by rw [List.getElem?_eq_getElem hj,ho]) how
     rw [hx2 hlt,hwf]
     exact ⟨fun _=>hlt,fun _=>this⟩
   refine kS_callP (vs:=[.agg [.sl a1 g.sn g.ss.length (g.ss.flatMap strC),.sl b1 g.kn g.ks.length (g.ks.flatMap strC),.osl (2 * zC+1) zC 0 g.ts.length 3],.agg [.int .i64 i,.int .i64 j]]) (by simp) rfl (sv27 (setH_small hs i j x) i j ?_) ?_
   ·refine frz_set hi hT ?_ ?_
    ·simp [splice]
    ·simp [w7,w14,w21]
   rintro v ob1 tk1 ub1 ⟨hlen,hoth,htk,hub⟩
   simp only at hlen hoth htk hub
   have hsame:decide (0<(ofH (setH g i j x) i j).length)=decide (n<L.length):=by
    by_cases hlt:n<L.length
    ·have:¬ (ofH (setH g i j x) i j).length=0:=fun e=>hy.1 e hlt
     simp only [hlt,decide_true,decide_eq_true_eq]
     omega
    ·have:=hy.2 hlt
     simp [hlt,this]
   generalize ofH (setH g i j x) i j=Q at *
   simp [hlen,k5,k7,hsame,hw]
   refine ⟨by omega,?_,?_,?_,⟨x,?_⟩,by omega⟩
   ·rw [hoth _ (by omega)];simp [d1,w1,w8,w15]
   ·rw [hoth _ (by omega)];simp [d2,w3,w10,w17]
   ·rw [hoth _ (by omega)];simp [d3,w5,w12,w19]
   ·rw [hoth _ (by omega)];simp [w7,w14,w21]
  by_cases hlt:n<L.length
  ·simp [hlt,k5,k7,k8,idx_sl valC_len,load_slOf valC_len,d8,objCells,kr]
   have hsw:splice (valC w) 0 (valC L[n])=valC L[n]:=rfl
   exact rest _ L[n] (fun _=>rfl) (fun h=>absurd hlt h) (by simp [k2]) (by simp [k3]) (by simp [k5]) (by simp [k6]) (by simp [k7]) (by simp [k8]) (by simp [d1,n1]) (by simp [d2,n2]) (by simp [d3,n3]) (by simp [d4,n4]) (by simp [hsw]) (by simp [kd]) (by simp [kb]) (by simp [kr]) (by simp;omega)
  ·simp [hlt]
   exact rest st1 w (fun h=>absurd h hlt) (fun _=>rfl) k2 k3 k5 k6 k7 k8 d1 d2 d3 d4 d8 kd kb kr kn
 ·simp [h7,f5,hle]
  exact endV_1 (by simp [fd]) (by simp) rfl
end Go.Pv.T

/- WriterHas answers true. -/
namespace Go.Pv.T
open Go Go.Pv
theorem ev7 (h:Hist') (a b:Int):Ev E 7 [.agg (histC h),.agg [.int .i64 a,.int .i64 b]] (.bool true):=ev7_of ⟨100,k25⟩ h a b
end Go.Pv.T

/- The environment is what the program's code says. -/
namespace Go.Pv.T
open Go Go.Pv Go.Proofs

theorem afOk_of {P:Program} {m r:Bool} {f:FuncId} {fn:Func} {af:AF} (h1:P.funcs[f]? = some fn) (h2:compF P m r fn=some af) (h3:(fn.name == "runtime.NumGoroutine")=false) (h4:af.body.dstOk fn.ntmps=true):AfOk P r f af:=by
  unfold compF at h2
  cases hb:fn.body with
  | none=>rw [hb] at h2;cases h2
  | some c =>
    rw [hb,Option.bind_some] at h2
    cases hc:comp P m r c with
    | none=>rw [hc] at h2;cases h2
    | some b =>
      rw [hc,Option.bind_some] at h2
      cases hr:fn.results.toList.mapM (compRes P) with
      | none=>rw [hr] at h2;cases h2
      | some res =>
        rw [hr] at h2
        cases h2
        exact ⟨m,fn,c,h1,hb,hc,hr,h3,h4⟩

theorem okc7:AfOk Tryz.prog false 7 F7:=afOk_of (m:=true) Tryz.func7 (by kernel_rfl) (by kernel_rfl) (by kernel_rfl)
theorem okc14:AfOk Tryz.prog false 14 F14:=afOk_of (m:=false) Tryz.func14 (by kernel_rfl) (by kernel_rfl) (by kernel_rfl)
theorem okc21:AfOk Tryz.prog false 21 F21:=afOk_of (m:=false) Tryz.func21 (by kernel_rfl) (by kernel_rfl) (by kernel_rfl)
theorem okc23:AfOk Tryz.prog false 23 F23:=afOk_of (m:=false) Tryz.func23 (by kernel_rfl) (by kernel_rfl) (by kernel_rfl)
theorem okc25:AfOk Tryz.prog false 25 F25:=afOk_of (m:=false) Tryz.func25 (by kernel_rfl) (by kernel_rfl) (by kernel_rfl)
theorem okc26:AfOk Tryz.prog false 26 F26:=afOk_of (m:=false) Tryz.func26 (by kernel_rfl) (by kernel_rfl) (by kernel_rfl)
theorem okc27:AfOk Tryz.prog false 27 F27:=afOk_of (m:=true) Tryz.func27 (by kernel_rfl) (by kernel_rfl) (by kernel_rfl)
theorem okc30:AfOk Tryz.prog false 30 F30:=afOk_of (m:=true) Tryz.func30 (by kernel_rfl) (by kernel_rfl) (by kernel_rfl)
theorem okc32:AfOk Tryz.prog false 32 F32:=afOk_of (m:=true) Tryz.func32 (by kernel_rfl) (by kernel_rfl) (by kernel_rfl)
theorem okc67:AfOk Tryz.prog false 67 F67:=afOk_of (m:=false) Tryz.func67 (by kernel_rfl) (by kernel_rfl) (by kernel_rfl)
theorem okc70:AfOk Tryz.prog false 70 F70:=afOk_of (m:=false) Tryz.func70 (by kernel_rfl) (by kernel_rfl) (by kernel_rfl)
theorem okc72:AfOk Tryz.prog false 72 F72:=afOk_of (m:=false) Tryz.func72 (by kernel_rfl) (by kernel_rfl) (by kernel_rfl)
theorem okc74:AfOk Tryz.prog false 74 F74:=afOk_of (m:=false) Tryz.func74 (by kernel_rfl) (by kernel_rfl) (by kernel_rfl)
theorem okc81:AfOk Tryz.prog false 81 F81:=afOk_of (m:=false) Tryz.func81 (by kernel_rfl) (by kernel_rfl) (by kernel_rfl)
theorem okc104:AfOk Tryz.prog false 104 F104:=afOk_of (m:=false) Tryz.func104 (by kernel_rfl) (by kernel_rfl) (by kernel_rfl)
theorem okc105:AfOk Tryz.prog false 105 F105:=afOk_of (m:=true) Tryz.func105 (by kernel_rfl) (by kernel_rfl) (by kernel_rfl)
theorem okc107:AfOk Tryz.prog false 107 F107:=afOk_of (m:=false) Tryz.func107 (by kernel_rfl) (by kernel_rfl) (by kernel_rfl)
theorem okc110:AfOk Tryz.prog false 110 F110:=afOk_of (m:=false) Tryz.func110 (by kernel_rfl) (by kernel_rfl) (by kernel_rfl)
theorem okc111:AfOk Tryz.prog false 111 F111:=afOk_of (m:=false) Tryz.func111 (by kernel_rfl) (by kernel_rfl) (by kernel_rfl)
theorem okc112:AfOk Tryz.prog false 112 F112:=afOk_of (m:=false) Tryz.func112 (by kernel_rfl) (by kernel_rfl) (by kernel_rfl)
theorem okc116:AfOk Tryz.prog false 116 F116:=afOk_of (m:=false) Tryz.func116 (by kernel_rfl) (by kernel_rfl) (by kernel_rfl)
theorem okc118:AfOk Tryz.prog false 118 F118:=afOk_of (m:=false) Tryz.func118 (by kernel_rfl) (by kernel_rfl) (by kernel_rfl)
theorem okc119:AfOk Tryz.prog false 119 F119:=afOk_of (m:=false) Tryz.func119 (by kernel_rfl) (by kernel_rfl) (by kernel_rfl)
theorem okc121:AfOk Tryz.prog false 121 F121:=afOk_of (m:=false) Tryz.func121 (by kernel_rfl) (by kernel_rfl) (by kernel_rfl)
theorem okc122:AfOk Tryz.prog false 122 F122:=afOk_of (m:=false) Tryz.func122 (by kernel_rfl) (by kernel_rfl) (by kernel_rfl)
theorem okc124:AfOk Tryz.prog false 124 F124:=afOk_of (m:=false) Tryz.func124 (by kernel_rfl) (by kernel_rfl) (by kernel_rfl)
theorem okc126:AfOk Tryz.prog false 126 F126:=afOk_of (m:=false) Tryz.func126 (by kernel_rfl) (by kernel_rfl) (by kernel_rfl)
theorem okc127:AfOk Tryz.prog false 127 F127:=afOk_of (m:=false) Tryz.func127 (by kernel_rfl) (by kernel_rfl) (by kernel_rfl)
theorem okc129:AfOk Tryz.prog false 129 F129:=afOk_of (m:=false) Tryz.func129 (by kernel_rfl) (by kernel_rfl) (by kernel_rfl)
theorem okc130:AfOk Tryz.prog false 130 F130:=afOk_of (m:=false) Tryz.func130 (by kernel_rfl) (by kernel_rfl) (by kernel_rfl)
theorem okc147:AfOk Tryz.prog false 147 F147:=afOk_of (m:=false) Tryz.func147 (by kernel_rfl) (by kernel_rfl) (by kernel_rfl)
theorem okc148:AfOk Tryz.prog false 148 F148:=afOk_of (m:=false) Tryz.func148 (by kernel_rfl) (by kernel_rfl) (by kernel_rfl)
theorem okc151:AfOk Tryz.prog false 151 F151:=afOk_of (m:=false) Tryz.func151 (by kernel_rfl) (by kernel_rfl) (by kernel_rfl)
theorem okc153:AfOk Tryz.prog false 153 F153:=afOk_of (m:=false) Tryz.func153 (by kernel_rfl) (by kernel_rfl) (by kernel_rfl)
theorem okc155:AfOk Tryz.prog false 155 F155:=afOk_of (m:=false) Tryz.func155 (by kernel_rfl) (by kernel_rfl) (by kernel_rfl)
theorem okc163:AfOk Tryz.prog false 163 F163:=afOk_of (m:=false) Tryz.func163 (by kernel_rfl) (by kernel_rfl) (by kernel_rfl)
theorem okc166:AfOk Tryz.prog false 166 F166:=afOk_of (m:=false) Tryz.func166 (by kernel_rfl) (by kernel_rfl) (by kernel_rfl)
theorem okc167:AfOk Tryz.prog false 167 F167:=afOk_of (m:=false) Tryz.func167 (by kernel_rfl) (by kernel_rfl) (by kernel_rfl)
theorem okc168:AfOk Tryz.prog false 168 F168:=afOk_of (m:=false) Tryz.func168 (by kernel_rfl) (by kernel_rfl) (by kernel_rfl)
theorem okc169:AfOk Tryz.prog false 169 F169:=afOk_of (m:=false) Tryz.func169 (by kernel_rfl) (by kernel_rfl) (by kernel_rfl)
theorem okc171:AfOk Tryz.prog false 171 F171:=afOk_of (m:=false) Tryz.func171 (by kernel_rfl) (by kernel_rfl) (by kernel_rfl)
theorem okc172:AfOk Tryz.prog false 172 F172:=afOk_of (m:=false) Tryz.func172 (by kernel_rfl) (by kernel_rfl) (by kernel_rfl)
theorem okc173:AfOk Tryz.prog false 173 F173:=afOk_of (m:=false) Tryz.func173 (by kernel_rfl) (by kernel_rfl) (by kernel_rfl)
theorem okc174:AfOk Tryz.prog false 174 F174:=afOk_of (m:=false) Tryz.func174 (by kernel_rfl) (by kernel_rfl) (by kernel_rfl)
theorem okc188:AfOk Tryz.prog false 188 F188:=afOk_of (m:=false) Tryz.func188 (by kernel_rfl) (by kernel_rfl) (by kernel_rfl)
theorem okc189:AfOk Tryz.prog false 189 F189:=afOk_of (m:=false) Tryz.func189 (by kernel_rfl) (by kernel_rfl) (by kernel_rfl)
theorem okc190:AfOk Tryz.prog false 190 F190:=afOk_of (m:=false) Tryz.func190 (by kernel_rfl) (by kernel_rfl) (by kernel_rfl)
theorem okc191:AfOk Tryz.prog false 191 F191:=afOk_of (m:=false) Tryz.func191 (by kernel_rfl) (by kernel_rfl) (by kernel_rfl)
theorem okc192:AfOk Tryz.prog false 192 F192:=afOk_of (m:=false) Tryz.func192 (by kernel_rfl) (by kernel_rfl) (by kernel_rfl)
theorem okc193:AfOk Tryz.prog false 193 F193:=afOk_of (m:=false) Tryz.func193 (by kernel_rfl) (by kernel_rfl) (by kernel_rfl)
theorem okc194:AfOk Tryz.prog false 194 F194:=afOk_of (m:=false) Tryz.func194 (by kernel_rfl) (by kernel_rfl) (by kernel_rfl)
theorem okc195:AfOk Tryz.prog false 195 F195:=afOk_of (m:=false) Tryz.func195 (by kernel_rfl) (by kernel_rfl) (by kernel_rfl)
theorem okc198:AfOk Tryz.prog false 198 F198:=afOk_of (m:=false) Tryz.func198 (by kernel_rfl) (by kernel_rfl) (by kernel_rfl)
theorem okc199:AfOk Tryz.prog false 199 F199:=afOk_of (m:=false) Tryz.func199 (by kernel_rfl) (by kernel_rfl) (by kernel_rfl)
theorem okc201:AfOk Tryz.prog false 201 F201:=afOk_of (m:=false) Tryz.func201 (by kernel_rfl) (by kernel_rfl) (by kernel_rfl)
theorem okc205:AfOk Tryz.prog false 205 F205:=afOk_of (m:=false) Tryz.func205 (by kernel_rfl) (by kernel_rfl) (by kernel_rfl)
theorem okc214:AfOk Tryz.prog false 214 F214:=afOk_of (m:=false) Tryz.func214 (by kernel_rfl) (by kernel_rfl) (by kernel_rfl)
theorem okc215:AfOk Tryz.prog false 215 F215:=afOk_of (m:=false) Tryz.func215 (by kernel_rfl) (by kernel_rfl) (by kernel_rfl)
theorem okc216:AfOk Tryz.prog false 216 F216:=afOk_of (m:=false) Tryz.func216 (by kernel_rfl) (by kernel_rfl) (by kernel_rfl)
theorem okc224:AfOk Tryz.prog false 224 F224:=afOk_of (m:=false) Tryz.func224 (by kernel_rfl) (by kernel_rfl) (by kernel_rfl)
theorem okc225:AfOk Tryz.prog false 225 F225:=afOk_of (m:=false) Tryz.func225 (by kernel_rfl) (by kernel_rfl) (by kernel_rfl)
theorem okc227:AfOk Tryz.prog false 227 F227:=afOk_of (m:=false) Tryz.func227 (by kernel_rfl) (by kernel_rfl) (by kernel_rfl)
theorem okc228:AfOk Tryz.prog false 228 F228:=afOk_of (m:=false) Tryz.func228 (by kernel_rfl) (by kernel_rfl) (by kernel_rfl)
theorem okc229:AfOk Tryz.prog false 229 F229:=afOk_of (m:=false) Tryz.func229 (by kernel_rfl) (by kernel_rfl) (by kernel_rfl)
theorem okc230:AfOk Tryz.prog false 230 F230:=afOk_of (m:=false) Tryz.func230 (by kernel_rfl) (by kernel_rfl) (by kernel_rfl)
theorem okc231:AfOk Tryz.prog false 231 F231:=afOk_of (m:=false) Tryz.func231 (by kernel_rfl) (by kernel_rfl) (by kernel_rfl)
theorem okc232:AfOk Tryz.prog false 232 F232:=afOk_of (m:=false) Tryz.func232 (by kernel_rfl) (by kernel_rfl) (by kernel_rfl)
theorem okc233:AfOk Tryz.prog false 233 F233:=afOk_of (m:=false) Tryz.func233 (by kernel_rfl) (by kernel_rfl) (by kernel_rfl)
theorem okc234:AfOk Tryz.prog false 234 F234:=afOk_of (m:=false) Tryz.func234 (by kernel_rfl) (by kernel_rfl) (by kernel_rfl)
theorem okc235:AfOk Tryz.prog false 235 F235:=afOk_of (m:=false) Tryz.func235 (by kernel_rfl) (by kernel_rfl) (by kernel_rfl)
theorem okc239:AfOk Tryz.prog false 239 F239:=afOk_of (m:=false) Tryz.func239 (by kernel_rfl) (by kernel_rfl) (by kernel_rfl)
theorem okc247:AfOk Tryz.prog false 247 F247:=afOk_of (m:=false) Tryz.func247 (by kernel_rfl) (by kernel_rfl) (by kernel_rfl)
theorem okc248:AfOk Tryz.prog false 248 F248:=afOk_of (m:=false) Tryz.func248 (by kernel_rfl) (by kernel_rfl) (by kernel_rfl)
theorem okc249:AfOk Tryz.prog false 249 F249:=afOk_of (m:=false) Tryz.func249 (by kernel_rfl) (by kernel_rfl) (by kernel_rfl)
theorem okc250:AfOk Tryz.prog false 250 F250:=afOk_of (m:=false) Tryz.func250 (by kernel_rfl) (by kernel_rfl) (by kernel_rfl)
theorem okc251:AfOk Tryz.prog false 251 F251:=afOk_of (m:=false) Tryz.func251 (by kernel_rfl) (by kernel_rfl) (by kernel_rfl)
theorem okc252:AfOk Tryz.prog false 252 F252:=afOk_of (m:=false) Tryz.func252 (by kernel_rfl) (by kernel_rfl) (by kernel_rfl)
theorem okc253:AfOk Tryz.prog false 253 F253:=afOk_of (m:=false) Tryz.func253 (by kernel_rfl) (by kernel_rfl) (by kernel_rfl)
theorem okc256:AfOk Tryz.prog false 256 F256:=afOk_of (m:=false) Tryz.func256 (by kernel_rfl) (by kernel_rfl) (by kernel_rfl)
theorem okc261:AfOk Tryz.prog false 261 F261:=afOk_of (m:=false) Tryz.func261 (by kernel_rfl) (by kernel_rfl) (by kernel_rfl)
theorem okc262:AfOk Tryz.prog false 262 F262:=afOk_of (m:=false) Tryz.func262 (by kernel_rfl) (by kernel_rfl) (by kernel_rfl)
theorem okc263:AfOk Tryz.prog false 263 F263:=afOk_of (m:=false) Tryz.func263 (by kernel_rfl) (by kernel_rfl) (by kernel_rfl)
theorem okc265:AfOk Tryz.prog false 265 F265:=afOk_of (m:=false) Tryz.func265 (by kernel_rfl) (by kernel_rfl) (by kernel_rfl)
theorem okc267:AfOk Tryz.prog false 267 F267:=afOk_of (m:=false) Tryz.func267 (by kernel_rfl) (by kernel_rfl) (by kernel_rfl)
theorem okc271:AfOk Tryz.prog false 271 F271:=afOk_of (m:=false) Tryz.func271 (by kernel_rfl) (by kernel_rfl) (by kernel_rfl)
theorem okc280:AfOk Tryz.prog false 280 F280:=afOk_of (m:=false) Tryz.func280 (by kernel_rfl) (by kernel_rfl) (by kernel_rfl)
theorem oks75:AfOk Tryz.prog true 75 S75:=afOk_of (m:=true) Tryz.func75 (by kernel_rfl) (by kernel_rfl) (by kernel_rfl)
theorem oks76:AfOk Tryz.prog true 76 S76:=afOk_of (m:=true) Tryz.func76 (by kernel_rfl) (by kernel_rfl) (by kernel_rfl)
theorem oks79:AfOk Tryz.prog true 79 S79:=afOk_of (m:=true) Tryz.func79 (by kernel_rfl) (by kernel_rfl) (by kernel_rfl)
theorem oks82:AfOk Tryz.prog true 82 S82:=afOk_of (m:=true) Tryz.func82 (by kernel_rfl) (by kernel_rfl) (by kernel_rfl)
theorem oks102:AfOk Tryz.prog true 102 S102:=afOk_of (m:=true) Tryz.func102 (by kernel_rfl) (by kernel_rfl) (by kernel_rfl)
theorem oks108:AfOk Tryz.prog true 108 S108:=afOk_of (m:=true) Tryz.func108 (by kernel_rfl) (by kernel_rfl) (by kernel_rfl)
theorem oks109:AfOk Tryz.prog true 109 S109:=afOk_of (m:=true) Tryz.func109 (by kernel_rfl) (by kernel_rfl) (by kernel_rfl)
theorem oks113:AfOk Tryz.prog true 113 S113:=afOk_of (m:=true) Tryz.func113 (by kernel_rfl) (by kernel_rfl) (by kernel_rfl)
theorem oks114:AfOk Tryz.prog true 114 S114:=afOk_of (m:=true) Tryz.func114 (by kernel_rfl) (by kernel_rfl) (by kernel_rfl)
theorem oks115:AfOk Tryz.prog true 115 S115:=afOk_of (m:=true) Tryz.func115 (by kernel_rfl) (by kernel_rfl) (by kernel_rfl)
theorem oks117:AfOk Tryz.prog true 117 S117:=afOk_of (m:=true) Tryz.func117 (by kernel_rfl) (by kernel_rfl) (by kernel_rfl)
theorem oks120:AfOk Tryz.prog true 120 S120:=afOk_of (m:=true) Tryz.func120 (by kernel_rfl) (by kernel_rfl) (by kernel_rfl)
theorem oks123:AfOk Tryz.prog true 123 S123:=afOk_of (m:=true) Tryz.func123 (by kernel_rfl) (by kernel_rfl) (by kernel_rfl)
theorem oks146:AfOk Tryz.prog true 146 S146:=afOk_of (m:=true) Tryz.func146 (by kernel_rfl) (by kernel_rfl) (by kernel_rfl)
theorem oks149:AfOk Tryz.prog true 149 S149:=afOk_of (m:=true) Tryz.func149 (by kernel_rfl) (by kernel_rfl) (by kernel_rfl)
theorem oks150:AfOk Tryz.prog true 150 S150:=afOk_of (m:=true) Tryz.func150 (by kernel_rfl) (by kernel_rfl) (by kernel_rfl)
theorem oks152:AfOk Tryz.prog true 152 S152:=afOk_of (m:=true) Tryz.func152 (by kernel_rfl) (by kernel_rfl) (by kernel_rfl)
theorem oks154:AfOk Tryz.prog true 154 S154:=afOk_of (m:=true) Tryz.func154 (by kernel_rfl) (by kernel_rfl) (by kernel_rfl)
theorem oks156:AfOk Tryz.prog true 156 S156:=afOk_of (m:=true) Tryz.func156 (by kernel_rfl) (by kernel_rfl) (by kernel_rfl)
theorem oks157:AfOk Tryz.prog true 157 S157:=afOk_of (m:=true) Tryz.func157 (by kernel_rfl) (by kernel_rfl) (by kernel_rfl)
theorem oks158:AfOk Tryz.prog true 158 S158:=afOk_of (m:=true) Tryz.func158 (by kernel_rfl) (by kernel_rfl) (by kernel_rfl)
theorem oks159:AfOk Tryz.prog true 159 S159:=afOk_of (m:=true) Tryz.func159 (by kernel_rfl) (by kernel_rfl) (by kernel_rfl)
theorem oks160:AfOk Tryz.prog true 160 S160:=afOk_of (m:=true) Tryz.func160 (by kernel_rfl) (by kernel_rfl) (by kernel_rfl)
theorem oks161:AfOk Tryz.prog true 161 S161:=afOk_of (m:=true) Tryz.func161 (by kernel_rfl) (by kernel_rfl) (by kernel_rfl)
theorem oks162:AfOk Tryz.prog true 162 S162:=afOk_of (m:=true) Tryz.func162 (by kernel_rfl) (by kernel_rfl) (by kernel_rfl)
theorem oks164:AfOk Tryz.prog true 164 S164:=afOk_of (m:=true) Tryz.func164 (by kernel_rfl) (by kernel_rfl) (by kernel_rfl)
theorem oks165:AfOk Tryz.prog true 165 S165:=afOk_of (m:=true) Tryz.func165 (by kernel_rfl) (by kernel_rfl) (by kernel_rfl)
theorem oks170:AfOk Tryz.prog true 170 S170:=afOk_of (m:=true) Tryz.func170 (by kernel_rfl) (by kernel_rfl) (by kernel_rfl)
theorem oks175:AfOk Tryz.prog true 175 S175:=afOk_of (m:=true) Tryz.func175 (by kernel_rfl) (by kernel_rfl) (by kernel_rfl)
theorem oks196:AfOk Tryz.prog true 196 S196:=afOk_of (m:=true) Tryz.func196 (by kernel_rfl) (by kernel_rfl) (by kernel_rfl)
theorem oks197:AfOk Tryz.prog true 197 S197:=afOk_of (m:=true) Tryz.func197 (by kernel_rfl) (by kernel_rfl) (by kernel_rfl)
theorem oks200:AfOk Tryz.prog true 200 S200:=afOk_of (m:=true) Tryz.func200 (by kernel_rfl) (by kernel_rfl) (by kernel_rfl)
theorem oks202:AfOk Tryz.prog true 202 S202:=afOk_of (m:=true) Tryz.func202 (by kernel_rfl) (by kernel_rfl) (by kernel_rfl)
theorem oks204:AfOk Tryz.prog true 204 S204:=afOk_of (m:=true) Tryz.func204 (by kernel_rfl) (by kernel_rfl) (by kernel_rfl)
theorem oks206:AfOk Tryz.prog true 206 S206:=afOk_of (m:=true) Tryz.func206 (by kernel_rfl) (by kernel_rfl) (by kernel_rfl)
theorem oks207:AfOk Tryz.prog true 207 S207:=afOk_of (m:=true) Tryz.func207 (by kernel_rfl) (by kernel_rfl) (by kernel_rfl)
theorem oks208:AfOk Tryz.prog true 208 S208:=afOk_of (m:=true) Tryz.func208 (by kernel_rfl) (by kernel_rfl) (by kernel_rfl)
theorem oks209:AfOk Tryz.prog true 209 S209:=afOk_of (m:=true) Tryz.func209 (by kernel_rfl) (by kernel_rfl) (by kernel_rfl)
theorem oks210:AfOk Tryz.prog true 210 S210:=afOk_of (m:=true) Tryz.func210 (by kernel_rfl) (by kernel_rfl) (by kernel_rfl)
theorem oks211:AfOk Tryz.prog true 211 S211:=afOk_of (m:=true) Tryz.func211 (by kernel_rfl) (by kernel_rfl) (by kernel_rfl)
theorem oks212:AfOk Tryz.prog true 212 S212:=afOk_of (m:=true) Tryz.func212 (by kernel_rfl) (by kernel_rfl) (by kernel_rfl)
theorem oks213:AfOk Tryz.prog true 213 S213:=afOk_of (m:=true) Tryz.func213 (by kernel_rfl) (by kernel_rfl) (by kernel_rfl)
theorem oks217:AfOk Tryz.prog true 217 S217:=afOk_of (m:=true) Tryz.func217 (by kernel_rfl) (by kernel_rfl) (by kernel_rfl)
theorem oks236:AfOk Tryz.prog true 236 S236:=afOk_of (m:=true) Tryz.func236 (by kernel_rfl) (by kernel_rfl) (by kernel_rfl)
theorem oks237:AfOk Tryz.prog true 237 S237:=afOk_of (m:=true) Tryz.func237 (by kernel_rfl) (by kernel_rfl) (by kernel_rfl)
theorem oks238:AfOk Tryz.prog true 238 S238:=afOk_of (m:=true) Tryz.func238 (by kernel_rfl) (by kernel_rfl) (by kernel_rfl)
theorem oks240:AfOk Tryz.prog true 240 S240:=afOk_of (m:=true) Tryz.func240 (by kernel_rfl) (by kernel_rfl) (by kernel_rfl)
theorem oks241:AfOk Tryz.prog true 241 S241:=afOk_of (m:=true) Tryz.func241 (by kernel_rfl) (by kernel_rfl) (by kernel_rfl)
theorem oks243:AfOk Tryz.prog true 243 S243:=afOk_of (m:=true) Tryz.func243 (by kernel_rfl) (by kernel_rfl) (by kernel_rfl)
theorem oks254:AfOk Tryz.prog true 254 S254:=afOk_of (m:=true) Tryz.func254 (by kernel_rfl) (by kernel_rfl) (by kernel_rfl)
theorem oks255:AfOk Tryz.prog true 255 S255:=afOk_of (m:=true) Tryz.func255 (by kernel_rfl) (by kernel_rfl) (by kernel_rfl)
theorem oks257:AfOk Tryz.prog true 257 S257:=afOk_of (m:=true) Tryz.func257 (by kernel_rfl) (by kernel_rfl) (by kernel_rfl)
theorem oks264:AfOk Tryz.prog true 264 S264:=afOk_of (m:=true) Tryz.func264 (by kernel_rfl) (by kernel_rfl) (by kernel_rfl)
theorem oks272:AfOk Tryz.prog true 272 S272:=afOk_of (m:=true) Tryz.func272 (by kernel_rfl) (by kernel_rfl) (by kernel_rfl)
set_option maxRecDepth 100000 in
theorem fcOk_1 {f:FuncId} {af:AF} (h:fc_1 f=some af):AfOk Tryz.prog false f af:=by
  unfold fc_1 at h
  split at h
  · cases h;exact okc194
  · cases h;exact okc195
  · cases h;exact okc198
  · cases h;exact okc199
  · cases h;exact okc201
  · cases h;exact okc205
  · cases h;exact okc214
  · cases h;exact okc215
  · cases h;exact okc216
  · cases h;exact okc224
  · cases h;exact okc225
  · cases h;exact okc227
  · cases h;exact okc228
  · cases h;exact okc229
  · cases h;exact okc230
  · cases h;exact okc231
  · cases h;exact okc232
  · cases h;exact okc233
  · cases h;exact okc234
  · cases h;exact okc235
  · cases h;exact okc239
  · cases h;exact okc247
  · cases h;exact okc248
  · cases h;exact okc249
  · cases h;exact okc250
  · cases h;exact okc251
  · cases h;exact okc252
  · cases h;exact okc253
  · cases h;exact okc256
  · cases h;exact okc261
  · cases h;exact okc262
  · cases h;exact okc263
  · cases h;exact okc265
  · cases h;exact okc267
  · cases h;exact okc271
  · cases h;exact okc280
  · cases h
set_option maxRecDepth 100000 in
theorem fcOk_0 {f:FuncId} {af:AF} (h:fc f=some af):AfOk Tryz.prog false f af:=by
  unfold fc at h
  split at h
  · cases h;exact okc7
  · cases h;exact okc14
  · cases h;exact okc21
  · cases h;exact okc23
  · cases h;exact okc25
  · cases h;exact okc26
  · cases h;exact okc27
  · cases h;exact okc30
  · cases h;exact okc32
  · cases h;exact okc67
  · cases h;exact okc70
  · cases h;exact okc72
  · cases h;exact okc74
  · cases h;exact okc81
  · cases h;exact okc104
  · cases h;exact okc105
  · cases h;exact okc107
  · cases h;exact okc110
  · cases h;exact okc111
  · cases h;exact okc112
  · cases h;exact okc116
  · cases h;exact okc118
  · cases h;exact okc119
  · cases h;exact okc121
  · cases h;exact okc122
  · cases h;exact okc124
  · cases h;exact okc126
  · cases h;exact okc127
  · cases h;exact okc129
  · cases h;exact okc130
  · cases h;exact okc147
  · cases h;exact okc148
  · cases h;exact okc151
  · cases h;exact okc153
  · cases h;exact okc155
  · cases h;exact okc163
  · cases h;exact okc166
  · cases h;exact okc167
  · cases h;exact okc168
  · cases h;exact okc169
  · cases h;exact okc171
  · cases h;exact okc172
  · cases h;exact okc173
  · cases h;exact okc174
  · cases h;exact okc188
  · cases h;exact okc189
  · cases h;exact okc190
  · cases h;exact okc191
  · cases h;exact okc192
  · cases h;exact okc193
  · exact fcOk_1 h
set_option maxRecDepth 100000 in
theorem fsOk_1 {f:FuncId} {af:AF} (h:fs_1 f=some af):AfOk Tryz.prog true f af:=by
  unfold fs_1 at h
  split at h
  · cases h;exact oks255
  · cases h;exact oks257
  · cases h;exact oks264
  · cases h;exact oks272
  · cases h
set_option maxRecDepth 100000 in
theorem fsOk_0 {f:FuncId} {af:AF} (h:fs f=some af):AfOk Tryz.prog true f af:=by
  unfold fs at h
  split at h
  · cases h;exact oks75
  · cases h;exact oks76
  · cases h;exact oks79
  · cases h;exact oks82
  · cases h;exact oks102
  · cases h;exact oks108
  · cases h;exact oks109
  · cases h;exact oks113
  · cases h;exact oks114
  · cases h;exact oks115
  · cases h;exact oks117
  · cases h;exact oks120
  · cases h;exact oks123
  · cases h;exact oks146
  · cases h;exact oks149
  · cases h;exact oks150
  · cases h;exact oks152
  · cases h;exact oks154
  · cases h;exact oks156
  · cases h;exact oks157
  · cases h;exact oks158
  · cases h;exact oks159
  · cases h;exact oks160
  · cases h;exact oks161
  · cases h;exact oks162
  · cases h;exact oks164
  · cases h;exact oks165
  · cases h;exact oks170
  · cases h;exact oks175
  · cases h;exact oks196
  · cases h;exact oks197
  · cases h;exact oks200
  · cases h;exact oks202
  · cases h;exact oks204
  · cases h;exact oks206
  · cases h;exact oks207
  · cases h;exact oks208
  · cases h;exact oks209
  · cases h;exact oks210
  · cases h;exact oks211
  · cases h;exact oks212
  · cases h;exact oks213
  · cases h;exact oks217
  · cases h;exact oks236
  · cases h;exact oks237
  · cases h;exact oks238
  · cases h;exact oks240
  · cases h;exact oks241
  · cases h;exact oks243
  · cases h;exact oks254
  · exact fsOk_1 h
theorem envOk:EnvOk Tryz.prog E:=⟨fun _ _ h=>fcOk_0 h,fun _ _ h=>fsOk_0 h⟩
end Go.Pv.T

/- The row's side, the same for every law of the seat. -/
namespace Go.Pv.T
open Go Go.Pv Go.Proofs Go.ChangeShapes Go.WideShapes Go.ChangeAt Go.RowKit Go.Proofs.YtopjfnbonjmnjaaGreatDoor

theorem own:ownKnob Tryz.prog.godebug=none:=by kernel_rfl
theorem laidOut:laidOutB Tryz.prog=true:=by kernel_rfl
theorem mixed:Tryz.prog.follows .mixedOrders=true:=by kernel_rfl

def laidL:List (String × DataW Unit):=[("unicode/utf8.acceptRanges",Rows.laid_unicode_utf8_acceptRanges),("deemster/event.words",Rows.laid_deemster_event_words),("unicode/utf8.first",Rows.laid_unicode_utf8_first)]

def litVal:V→Value
  | .int k n=>.int k n
  | .str s=>.string ⟨s.toArray⟩
  | _=>.nilFunc
def putCells (h:Array Obj) (g:Nat) (cs:Array Value):Array Obj:=h.modify g fun
    | .cells _ t frozen=>.cells cs t frozen
    | o=>o
def acceptCells:Array Value:=#[.int .u8 128,.int .u8 191,.int .u8 160,.int .u8 191,.int .u8 128,.int .u8 159,.int .u8 144,.int .u8 191,.int .u8 128,.int .u8 143,.int .u8 0,.int .u8 0,.int .u8 0,.int .u8 0,.int .u8 0,.int .u8 0,.int .u8 0,.int .u8 0,.int .u8 0,.int .u8 0,.int .u8 0,.int .u8 0,.int .u8 0,.int .u8 0,.int .u8 0,.int .u8 0,.int .u8 0,.int .u8 0,.int .u8 0,.int .u8 0,.int .u8 0,.int .u8 0]
noncomputable def laidWorld (os:Os):World :=
  let w0:=World.holding Tryz.prog os ⟨#[],#[],[]⟩
  { w0 with heap:=putCells (putCells (putCells w0.heap 0 (words.map litVal).toArray) 1 (utf8first.map litVal).toArray) 2 acceptCells }
set_option maxRecDepth 100000 in
theorem door_met (os:Os) (args:Array Value):laidMetH Tryz.prog laidL ((laidWorld os).forCall (fun _ _=>0) ⟨#[],args,[]⟩).memory:=by
  rw [MakeChecks.laidMetH_plain _ _ _ (by kernel_rfl)]
  exact laidMet_of_run' 8 (by kernel_rfl) (by kernel_rfl)

theorem gWords:Tryz.prog.globalNamed "deemster/event.words" = some 0:=by kernel_rfl
theorem gFirst:Tryz.prog.globalNamed "unicode/utf8.first" = some 1:=by kernel_rfl
theorem tWords:(Tryz.prog.globals[0]?).map (·.type)=some 274:=by kernel_rfl
theorem tFirst:(Tryz.prog.globals[1]?).map (·.type)=some 286:=by kernel_rfl

def cellsI (W:World):IMap:=fun b o=>W.cell? ⟨b,o,none⟩
theorem cellsI_ok (W:World):ImmOk (cellsI W) W:=fun _ _ _ h=>h

def litV:DataW Unit→V
  | .lit (.int k n)=>.int k n
  | .lit (.string s)=>.str s
  | _=>.undef

theorem arr_rep {W:World} {t e:TypeId} {n fuel:Nat} {cs:List Value} {ds:List (DataW Unit)} {p:List MemPlace} (ht:Tryz.prog.underlying t=some (.array n e)) (hc:Tryz.prog.cellsOf e=1)
    (he:Tryz.prog.underlying e=some .string∨∃ k,Tryz.prog.underlying e=some (.int k)) (h:DataW.trod (fun _=>()) Tryz.prog W 0 (fun _=>true) false fuel t cs=some (.agg ds,p)) (I:IMap) :
    ∀ (j:Nat) (d:DataW Unit),ds[j]? = some d→∃ x,cs[j]? = some x∧RepP I x (litV d):=by
  obtain ⟨xs,m,rfl,hx,hlen,hn,hel⟩:=DataW.trod_array ht h
  intro j d hd
  simp only [Prod.mk.injEq,DataW.agg.injEq] at hx
  rw [hx.1,List.getElem?_map] at hd
  cases hy:xs[j]? with
  | none=>simp [hy] at hd
  | some y =>
    rw [hy] at hd
    simp only [Option.map_some,Option.some.injEq] at hd
    have hj:j<n:=by rw [← hn];exact (List.getElem?_eq_some_iff.1 hy).1
    have:=hel j hj
    rw [hc,Nat.mul_one,hy] at this
    have one:∀ c,(cs.drop j).take 1=[c]→cs[j]? = some c:=by
      intro c hcc
      have:=congrArg List.head? hcc
      simpa [List.head?_take,List.head?_drop] using this
    rcases he with he | ⟨k,he⟩
    · obtain ⟨s,e1,e2,_⟩:=DataW.trod_string he this
      refine ⟨_,one _ e1,?_⟩
      rw [← hd,e2]
      exact RepP.str s
    · obtain ⟨s,e1,e2,_⟩:=DataW.trod_int he this
      refine ⟨_,one _ e1,?_⟩
      rw [← hd,e2]
      exact RepP.int k s

theorem gl_rep {W:World} {nm:String} {g:Nat} {cs:Array Value} {ds:List (DataW Unit)} (hg:Tryz.prog.globalNamed nm=some g) (hv:W.var? Tryz.prog nm=some cs) (hp:(ds.map litV).all V.pureLeaf=true)
    (h:∀ (j:Nat) (d:DataW Unit),ds[j]? = some d→∃ x,cs.toList[j]? = some x∧RepP (cellsI W) x (litV d)):RepP (cellsI W) (.pointer (some ⟨g,0,none⟩)) (.eptr (ds.map litV) 0):=by
  have hc:=World.var?_cell hg hv
  refine RepP.eptr g 0 0 (ds.map litV) (fun j=>(cs[j]?).getD .nilFunc) (fun j hj=>?_) (fun j v hj=>?_) (fun j v hj=>?_)
  · rw [List.length_map] at hj
    obtain ⟨x,hx,_⟩:=h j ds[j] (List.getElem?_eq_getElem hj)
    have hx':cs[j]? = some x:=by simpa using hx
    show W.cell? ⟨g,0+j,none⟩=_
    rw [Nat.zero_add,hc j,hx']
    rfl
  · exact List.all_eq_true.1 hp v (List.mem_of_getElem? hj)
  · rw [List.getElem?_map] at hj
    cases hd:ds[j]? with
    | none=>rw [hd] at hj;cases hj
    | some d =>
      rw [hd] at hj
      cases hj
      obtain ⟨x,hx,hr⟩:=h j d hd
      have hx':cs[j]? = some x:=by simpa using hx
      rw [hx']
      exact hr

def aggOf:DataW Unit→List (DataW Unit)
  | .agg l=>l
  | _=>[]
theorem words_eq:(aggOf Rows.laid_deemster_event_words).map litV=words:=by kernel_rfl
theorem first_eq:(aggOf Rows.laid_unicode_utf8_first).map litV=utf8first:=by kernel_rfl
theorem first_agg:Rows.laid_unicode_utf8_first = .agg (aggOf Rows.laid_unicode_utf8_first):=by kernel_rfl
theorem words_pure:((aggOf Rows.laid_deemster_event_words).map litV).all V.pureLeaf=true:=by kernel_rfl
theorem first_pure:((aggOf Rows.laid_unicode_utf8_first).map litV).all V.pureLeaf=true:=by kernel_rfl

theorem all_below {H:Type} {enc:TypeId × Value→H} {W W':World} (hb:Below W.heap.size W W'):∀ {ts:List TypeId} {vs:List Value} {ds:List (DataW H)} {ps:List MemPlace},
    (∀ t∈ts,Tryz.prog.readableRec t=true∧t<Tryz.prog.types.size)→(∀ x∈ps,x.block<W.heap.size) →
    DataW.TrodAll enc Tryz.prog W 0 (fun _=>true) true ts vs ds ps→DataW.TrodAll enc Tryz.prog W' 0 (fun b=>decide (b<W.heap.size)) true ts vs ds ps
  | [],[],[],_,_,_,h=>h
  | t::ts,v::vs,d::ds,_,ht,hlt,⟨p,q,h1,h2,e⟩=>by
    subst e
    exact ⟨p,q,Below.trod laidOut (ht t (List.mem_cons_self ..)).1 (ht t (List.mem_cons_self ..)).2 h1 hb (fun x hx=>hlt x (List.mem_append_left _ hx)),
      all_below hb (fun t' h'=>ht t' (List.mem_cons_of_mem _ h')) (fun x hx=>hlt x (List.mem_append_right _ hx)) h2,rfl⟩
  | [],_::_,_,_,_,_,h=>h.elim
  | [],[],_::_,_,_,_,h=>h.elim
  | _::_,[],_,_,_,_,h=>h.elim
  | _::_,_::_,[],_,_,_,h=>h.elim

theorem post_true {H:Type} {enc:TypeId × Value→H} {fn:Func} {s:ChangeSpec} {W W':World} {args:Array Value} {ds gs:List (DataW H)} {before:List MemPlace} (hW:DataW.Whole enc Tryz.prog fn.params.toList s.vars false W args.toList ds gs before)
    (hv:s.vars=[]) (hr:fn.resultTypes = #[4]) (hs:(s.fn H ds).results=[.lit (.bool true)]) (ha:(s.fn H ds).args=ds) (hvs:(s.fn H ds).vars=[])
    (ht:∀ t∈fn.params.toList,Tryz.prog.readableRec t=true∧t<Tryz.prog.types.size) (hg:W.grownBy W' none):s.post enc Tryz.prog fn false true false false W args (.bool true) W':=by
  have hb:Below W.heap.size W W':=(Below.refl _ W).grown hg (Nat.le_refl _) (fun _ h=>by cases h)
  have hW':=hW
  obtain ⟨p,q,hA,hV,rfl,_,_⟩:=hW
  rw [hv] at hV
  obtain ⟨rfl,rfl⟩:=trodVars_none hV
  have hlt:∀ x∈p,x.block<W.heap.size:=fun x hx=>by simpa using hW'.lt x (List.mem_append_left _ hx)
  refine ⟨ds,[],_,[],p,[],hW',?_,?_,?_,hb.frame _,fun h=>by cases h⟩
  · rw [List.append_nil,hs,hr]
    exact trodAll_mk1 (shut_bool Tryz.underlying4 _)
  · rw [List.append_nil,ha]
    exact all_below hb ht hlt hA
  · rw [List.append_nil,hvs,hv]
    rfl
end Go.Pv.T

/- Data that come in, of whatever plain type, as the interpreter has them. -/
namespace Go.Pv.T
open Go Go.Pv Go.Proofs Go.ChangeShapes Go.WideShapes Go.ChangeAt Go.RowKit
inductive Ty where
 | bool
 | int (k:IntKind)
 | str
 | unit
 | pair (a b:Ty)
 | slice (t:Ty)
def Ty.cells:Ty→Nat
 | .unit=>0
 | .pair a b=>a.cells+b.cells
 | _=>1
inductive Sh:Ty→List V→Prop where
 | bool (b:Bool):Sh .bool [.bool b]
 | int (k:IntKind) (n:Int):Sh (.int k) [.int k n]
 | str (s:List UInt8):Sh .str [.str s]
 | unit:Sh .unit []
 | pair {a b:Ty} {va vb:List V} (ha:Sh a va) (hb:Sh b vb):Sh (.pair a b) (va++vb)
 | nil {t:Ty}:Sh (.slice t) [.sl none true 0 []]
 | slice {t:Ty} (es:List (List V)) (hn:es.length≤maxLen) (h:∀ e∈es,Sh t e):Sh (.slice t) [.sl none false es.length es.flatten]
def fieldsTy (P:Program) (g:TypeId→Option Ty):List Field→Nat→Option Ty
 | [],_=>some .unit
 | f::r,off=>if f.offset=off then (g f.type).bind fun a=>if P.cellsOf f.type=a.cells then (fieldsTy P g r (off+a.cells)).map (.pair a) else none else none
def tyOf (P:Program):Nat→TypeId→Option Ty
 | 0,_=>none
 | n+1,t=>match P.underlying t with
  | some .bool=>some .bool
  | some (.int k)=>some (.int k)
  | some .string=>some .str
  | some (.slice e)=>(tyOf P n e).bind fun ty=>if P.cellsOf e=ty.cells then some (.slice ty) else none
  | some (.struct fs)=>(fieldsTy P (tyOf P n) fs.toList 0).bind fun ty=>if P.cellsOf t=ty.cells then some ty else none
  | _=>none
theorem Sh.len {t:Ty} {vs:List V} (h:Sh t vs):vs.length=t.cells:=by
 induction h with
 | pair _ _ iha ihb=>simp [Ty.cells,iha,ihb]
 | _=>rfl
theorem Sh.pure {t:Ty} {vs:List V} (h:Sh t vs):∀ v∈vs,v.pureLeaf=true:=by
 induction h with
 | pair _ _ iha ihb=>intro v hv;rcases List.mem_append.1 hv with h | h;exact iha v h;exact ihb v h
 | unit=>intro v hv;cases hv
 | _=>intro v hv;rw [List.mem_singleton] at hv;subst hv;rfl
def Reps (I:IMap) (cs:List Value) (vs:List V):Prop:=cs.length=vs.length∧∀ (j:Nat) (x:Value) (v:V),cs[j]? = some x→vs[j]? = some v→RepP I x v
theorem Reps.one {I:IMap} {x:Value} {v:V} (h:RepP I x v):Reps I [x] [v] :=
 ⟨rfl,fun j y u hj hu=>by
  match j,hj,hu with
  | 0,hj,hu=>cases hj;cases hu;exact h
  | j+1,hj,_=>simp at hj⟩
theorem flat_get {α:Type} {sz:Nat} (hs:0<sz):∀ (es:List (List α)),(∀ e∈es,e.length=sz)→∀ j,es.flatten[j]? = (es[j / sz]?).bind fun e=>e[j % sz]?
 | [],_,j=>by simp
 | e::es,h,j=>by
  have he:=h e (List.mem_cons_self ..)
  rw [List.flatten_cons,List.getElem?_append,he]
  split
  ·rename_i hlt
   rw [Nat.div_eq_of_lt hlt,Nat.mod_eq_of_lt hlt]
   rfl
  ·rename_i hge
   have hj:j=(j - sz)+sz:=by omega
   rw [flat_get hs es (fun e he=>h e (List.mem_cons_of_mem _ he)) (j - sz)]
   conv=>rhs;rw [hj,Nat.add_div_right _ hs,Nat.add_mod_right]
   rfl
theorem flat_len {α:Type} {sz:Nat}:∀ (es:List (List α)),(∀ e∈es,e.length=sz)→es.flatten.length=es.length * sz
 | [],_=>by simp
 | e::es,h=>by
  rw [List.flatten_cons,List.length_append,h e (List.mem_cons_self ..),flat_len es (fun e he=>h e (List.mem_cons_of_mem _ he)),List.length_cons,Nat.succ_mul]
  omega
section
variable {H:Type} {enc:TypeId × Value→H} {W:World} {P:Program}
theorem pick_list {α:Type} {p:Nat→α→Prop}:∀ (n:Nat),(∀ i,i<n→∃ a,p i a)→∃ l:List α,l.length=n∧∀ i a,l[i]? = some a→p i a
 | 0,_=>⟨[],rfl,fun i a h=>by simp at h⟩
 | n+1,h=>by
  obtain ⟨l,h1,h2⟩:=pick_list n (fun i hi=>h i (by omega))
  obtain ⟨a,ha⟩:=h n (by omega)
  refine ⟨l++[a],by simp [h1],fun i b hb=>?_⟩
  rw [List.getElem?_append] at hb
  split at hb
  ·exact h2 i b hb
  ·rename_i hge
   have:i=n:=by
    have:=(List.getElem?_eq_some_iff.1 hb).1
    simp at this
    omega
   subst this
   simp [h1] at hb
   subst hb
   exact ha
theorem fields_rep {g:TypeId→Option Ty} {n:Nat} {cs:List Value} (ih:∀ t ty,g t=some ty→∀ cs x,DataW.trod enc P W 0 (fun _=>true) true n t cs=some x→∃ vs,Sh ty vs∧Reps (cellsI W) cs vs) :
 ∀ (fs:List Field) (off:Nat) (ty:Ty),fieldsTy P g fs off=some ty→(∀ f∈fs,∃ x,DataW.trod enc P W 0 (fun _=>true) true n f.type ((cs.drop f.offset).take (P.cellsOf f.type))=some x)→cs.length=off+ty.cells →
  ∃ vs,Sh ty vs∧Reps (cellsI W) (cs.drop off) vs
 | [],off,ty,h,_,hl=>by
  simp only [fieldsTy,Option.some.injEq] at h
  subst h
  simp only [Ty.cells,Nat.add_zero] at hl
  exact ⟨[],.unit,by simp [hl],fun j x v _ hv=>by simp at hv⟩
 | f::r,off,ty,h,hx,hl=>by
  simp only [fieldsTy] at h
  split at h
  ·rename_i hoff
   cases hg:g f.type with
   | none=>rw [hg] at h;cases h
   | some a =>
    rw [hg,Option.bind_some] at h
    split at h
    ·rename_i hc
     cases hr:fieldsTy P g r (off+a.cells) with
     | none=>rw [hr] at h;cases h
     | some b =>
      rw [hr] at h
      cases h
      simp only [Ty.cells] at hl
      obtain ⟨x,hx0⟩:=hx f (List.mem_cons_self ..)
      obtain ⟨va,ha,hra⟩:=ih f.type a hg _ _ hx0
      obtain ⟨vb,hb,hrb⟩:=fields_rep ih r (off+a.cells) b hr (fun f' hf=>hx f' (List.mem_cons_of_mem _ hf)) (by omega)
      refine ⟨va++vb,.pair ha hb,?_,fun j y u hj hu=>?_⟩
      ·have:=ha.len;have:=hb.len
       simp only [List.length_drop,List.length_append]
       omega
      ·rw [hoff,hc] at hra
       rw [List.getElem?_append] at hu
       rw [ha.len] at hu
       rw [List.getElem?_drop] at hj
       split at hu
       ·rename_i hlt
        exact hra.2 j y u (by rw [List.getElem?_take,if_pos hlt,List.getElem?_drop];exact hj) hu
       ·rename_i hge
        exact hrb.2 (j - a.cells) y u (by rw [List.getElem?_drop,show off+a.cells+(j - a.cells)=off+j from by omega];exact hj) hu
    ·cases h
  ·cases h
theorem rep_of:∀ (n:Nat) (t:TypeId) (ty:Ty),tyOf P n t=some ty→∀ (fuel:Nat) (cs:List Value) (x:DataW H × List MemPlace),DataW.trod enc P W 0 (fun _=>true) true fuel t cs=some x→∃ vs,Sh ty vs∧Reps (cellsI W) cs vs
 | 0,_,_,h,_,_,_,_=>by cases h
 | n+1,t,ty,h,fuel,cs,x,hx=>by
  simp only [tyOf] at h
  split at h
  ·rename_i ht
   cases h
   obtain ⟨b,rfl,_⟩:=DataW.trod_bool ht hx
   exact ⟨_,.bool b,Reps.one (.bool b)⟩
  ·rename_i k ht
   cases h
   obtain ⟨b,rfl,_⟩:=DataW.trod_int ht hx
   exact ⟨_,.int k b,Reps.one (.int k b)⟩
  ·rename_i ht
   cases h
   obtain ⟨s,rfl,_⟩:=DataW.trod_string ht hx
   exact ⟨_,.str s.data.toList,Reps.one (.str s)⟩
  ·rename_i e ht
   cases he:tyOf P n e with
   | none=>rw [he] at h;cases h
   | some te =>
    rw [he,Option.bind_some] at h
    split at h
    ·rename_i hc
     cases h
     rcases DataW.trod_slice ht hx with ⟨rfl,_⟩ | ⟨a,len,cap,elems,rest,m,_,rfl,_,_,hl,hm,hlen,hel,_,_⟩
     ·exact ⟨_,.nil,Reps.one .slnil⟩
     ·have each:∀ i,i<len→∃ vs,Sh te vs∧∃ c,W.cells? 0 (a.add (i * te.cells)) te.cells=some c∧Reps (cellsI W) c vs:=by
       intro i hi
       have h1:=hel i hi
       rw [List.getElem?_eq_getElem (by omega),hc] at h1
       obtain ⟨c,hc1,hc2⟩:=Option.bind_eq_some_iff.1 h1
       obtain ⟨vs,h3,h4⟩:=rep_of n e te he m c _ hc2
       exact ⟨vs,h3,c,hc1,h4⟩
      obtain ⟨es,h1,h2⟩:=pick_list len each
      have hsh:∀ e∈es,Sh te e:=fun e he=>by
       obtain ⟨i,hi⟩:=List.getElem?_of_mem he
       exact (h2 i e hi).1
      have hsz:∀ e∈es,e.length=te.cells:=fun e he=>(hsh e he).len
      have key:∀ (j:Nat) (v:V),es.flatten[j]? = some v→0<te.cells∧j / te.cells<len∧∃ y,W.cell? ((a.add (j / te.cells * te.cells)).add (j % te.cells))=some y∧RepP (cellsI W) y v∧v.pureLeaf=true:=by
       intro j v hj
       have h0:0<te.cells:=by
        rcases Nat.eq_zero_or_pos te.cells with h | h
        ·have:=flat_len es hsz
         rw [h,Nat.mul_zero] at this
         rw [List.length_eq_zero_iff.1 this] at hj
         simp at hj
        ·exact h
       rw [flat_get h0 es hsz] at hj
       cases hee:es[j / te.cells]? with
       | none=>rw [hee] at hj;cases hj
       | some e =>
        rw [hee,Option.bind_some] at hj
        have hlt:j / te.cells<len:=by rw [← h1];exact (List.getElem?_eq_some_iff.1 hee).1
        obtain ⟨hse,c,hcc,hrr⟩:=h2 _ e hee
        have hme:=Nat.mod_lt j h0
        have hcell:=(World.cells?_some hcc).2.2 _ hme
        have hclen:c.length=te.cells:=by rw [hrr.1,hse.len]
        rw [List.getElem?_eq_getElem (by omega)] at hcell
        exact ⟨h0,hlt,_,hcell,hrr.2 _ _ v (List.getElem?_eq_getElem (by omega)) hj,hse.pure v (List.mem_of_getElem? hj)⟩
      have spot:es.flatten≠[]→a.spot=none:=by
       intro hne
       obtain ⟨v,hv⟩:∃ v,es.flatten[0]? = some v:=by
        cases hf:es.flatten with
        | nil=>exact absurd hf hne
        | cons v l=>exact ⟨v,rfl⟩
       obtain ⟨h0,_,y,hy,_⟩:=key 0 v hv
       rw [Nat.zero_div,Nat.zero_mod,Nat.zero_mul] at hy
       simpa [Addr.add] using World.cell?_spot hy
      have cellAt:∀ (j:Nat) (v:V),es.flatten[j]? = some v→∃ y,W.cell? ⟨a.block,a.off+j,none⟩=some y∧RepP (cellsI W) y v:=by
       intro j v hj
       obtain ⟨h0,_,y,hy,hr,_⟩:=key j v hj
       have hs:=spot (fun h=>by rw [h] at hj;simp at hj)
       obtain ⟨b,off,sp⟩:=a
       simp only at hs
       subst hs
       rw [add_plain,add_plain] at hy
       refine ⟨y,?_,hr⟩
       rw [← hy,Nat.add_assoc,Nat.div_add_mod']
      rw [← h1] at hl
      refine ⟨_,.slice es (Nat.le_trans hl hm) hsh,Reps.one ?_⟩
      rw [h1] at hl ⊢
      refine RepP.sl a len cap es.flatten (fun j=>(W.cell? ⟨a.block,a.off+j,none⟩).getD .nilFunc) spot hl hm (fun j hj=>?_) (fun j v hj=>?_) (fun j v hj=>?_)
      ·obtain ⟨y,hy,_⟩:=cellAt j _ (List.getElem?_eq_getElem hj)
       show W.cell? _=some ((W.cell? _).getD _)
       rw [hy]
       rfl
      ·exact (key j v hj).2.2.choose_spec.2.2
      ·obtain ⟨y,hy,hr⟩:=cellAt j v hj
       show RepP _ ((W.cell? _).getD _) v
       rw [hy]
       exact hr
    ·cases h
  ·rename_i fs ht
   cases hf:fieldsTy P (tyOf P n) fs.toList 0 with
   | none=>rw [hf] at h;cases h
   | some b =>
    rw [hf,Option.bind_some] at h
    split at h
    ·rename_i hc
     cases h
     obtain ⟨xs,m,rfl,_,hl,hn,hel⟩:=DataW.trod_struct ht hx
     have:=fields_rep (n:=m) (cs:=cs) (fun t ty h cs x hx=>rep_of n t ty h m cs x hx) fs.toList 0 ty hf (fun f hfm=>by
      obtain ⟨i,hi⟩:=List.getElem?_of_mem hfm
      have hi':fs[i]? = some f:=by simpa using hi
      have h1:=hel i f hi'
      have hlt:i<xs.length:=by rw [hn];exact (Array.getElem?_eq_some_iff.1 hi').1
      rw [List.getElem?_eq_getElem hlt] at h1
      exact ⟨_,h1⟩) (by rw [Nat.zero_add,hl,hc])
     simpa using this
    ·cases h
  ·cases h
end
end Go.Pv.T

/- The laid variables read as the interpreter has them; a call that answers true. -/
namespace Go.Pv.T
open Go Go.Pv Go.Proofs Go.ChangeShapes Go.WideShapes Go.ChangeAt Go.RowKit Go.Proofs.YtopjfnbonjmnjaaGreatDoor

theorem arr2_rep {W:World} {t e:TypeId} {n fuel:Nat} {cs:List Value} {ds:List (DataW Unit)} {p:List MemPlace} {f0 f1:Field} {k0 k1:IntKind} (ht:Tryz.prog.underlying t=some (.array n e)) (hc:Tryz.prog.cellsOf e=2)
    (he:Tryz.prog.underlying e=some (.struct #[f0,f1])) (o0:f0.offset=0) (o1:f1.offset=1) (c0:Tryz.prog.cellsOf f0.type=1) (c1:Tryz.prog.cellsOf f1.type=1)
    (u0:Tryz.prog.underlying f0.type=some (.int k0)) (u1:Tryz.prog.underlying f1.type=some (.int k1)) (h:DataW.trod (fun _=>()) Tryz.prog W 0 (fun _=>true) false fuel t cs=some (.agg ds,p)) (I:IMap) :
    ∀ (j:Nat) (d:DataW Unit),(ds.map aggOf).flatten[j]? = some d→∃ x,cs[j]? = some x∧RepP I x (litV d):=by
  obtain ⟨xs,m,rfl,hx,hlen,hn,hel⟩:=DataW.trod_array ht h
  simp only [Prod.mk.injEq,DataW.agg.injEq] at hx
  have one:∀ (l:List Value) (j:Nat) c,(l.drop j).take 1=[c]→l[j]? = some c:=by
    intro l j c hcc
    have:=congrArg List.head? hcc
    simpa [List.head?_take,List.head?_drop] using this
  have each:∀ (j:Nat) (y:DataW Unit × List MemPlace),xs[j]? = some y→∃ d0 d1 x0 x1,y.1 = .agg [d0,d1]∧cs[j * 2]? = some x0∧RepP I x0 (litV d0)∧cs[j * 2+1]? = some x1∧RepP I x1 (litV d1):=by
    intro j y hy
    have hj:j<n:=by rw [← hn];exact (List.getElem?_eq_some_iff.1 hy).1
    have h2:=hel j hj
    rw [hc,hy] at h2
    obtain ⟨y0,y1,m',e1,hl2,g0,g1⟩:=trod_struct2 he h2
    rw [o0,c0] at g0
    rw [o1,c1] at g1
    obtain ⟨z0,a0,b0,_⟩:=DataW.trod_int u0 g0
    obtain ⟨z1,a1,b1,_⟩:=DataW.trod_int u1 g1
    have q0:=one _ _ _ a0
    have q1:=one _ _ _ a1
    rw [List.getElem?_take,if_pos (by omega),List.getElem?_drop] at q0 q1
    refine ⟨y0.1,y1.1,_,_,by rw [e1],by simpa using q0,?_,q1,?_⟩
    · rw [b0];exact RepP.int k0 z0
    · rw [b1];exact RepP.int k1 z1
  have hds:ds=xs.map (·.1):=hx.1
  have len2:∀ e∈ds.map aggOf,e.length=2:=by
    intro e he
    rw [hds,List.map_map] at he
    obtain ⟨y,hy,rfl⟩:=List.mem_map.1 he
    obtain ⟨j,hj⟩:=List.getElem?_of_mem hy
    obtain ⟨d0,d1,x0,x1,e,_⟩:=each j y hj
    simp only [Function.comp,e,aggOf,List.length_cons,List.length_nil]
  intro k d hd
  rw [flat_get (by decide) _ len2] at hd
  rw [hds,List.map_map,List.getElem?_map] at hd
  cases hy:xs[k / 2]? with
  | none=>rw [hy] at hd;cases hd
  | some y =>
    rw [hy] at hd
    obtain ⟨d0,d1,x0,x1,e,g0,r0,g1,r1⟩:=each _ y hy
    simp only [Option.map_some,Option.bind_some,Function.comp,e,aggOf] at hd
    rcases Nat.mod_two_eq_zero_or_one k with hk | hk
    · rw [hk] at hd
      cases hd
      rw [show k / 2 * 2=k from by omega] at g0
      exact ⟨x0,g0,r0⟩
    · rw [hk] at hd
      cases hd
      rw [show k / 2 * 2+1=k from by omega] at g1
      exact ⟨x1,g1,r1⟩

def accD:List (DataW Unit):=((aggOf Rows.laid_unicode_utf8_acceptRanges).map aggOf).flatten
theorem gAcc:Tryz.prog.globalNamed "unicode/utf8.acceptRanges" = some 2:=by kernel_rfl
theorem acc_eq:accD.map litV=accR:=by kernel_rfl
theorem acc_agg:Rows.laid_unicode_utf8_acceptRanges = .agg (aggOf Rows.laid_unicode_utf8_acceptRanges):=by kernel_rfl
theorem acc_pure:(accD.map litV).all V.pureLeaf=true:=by kernel_rfl
theorem tAcc:(Tryz.prog.globals[2]?).map (·.type)=some 289:=by kernel_rfl

theorem glOk {W:World} (h:laidMetH Tryz.prog laidL W):GlOk E (cellsI W):=by
  rw [MakeChecks.laidMetH_plain _ _ _ (by kernel_rfl)] at h
  obtain ⟨ps,⟨g2,t2,cs2,f2,p2,q2,hg2,ht2,hv2,hd2,⟨g0,t0,cs0,f0,p0,q0,hg0,ht0,hv0,hd0,⟨g1,t1,cs1,f1,p1,q1,hg1,ht1,hv1,hd1,_,_⟩,_⟩,_⟩,_,_⟩:=h
  obtain rfl:=Option.some.inj (gWords.symm.trans hg0)
  obtain rfl:=Option.some.inj (gFirst.symm.trans hg1)
  obtain rfl:=Option.some.inj (tWords.symm.trans ht0)
  obtain rfl:=Option.some.inj (tFirst.symm.trans ht1)
  obtain rfl:=Option.some.inj (gAcc.symm.trans hg2)
  obtain rfl:=Option.some.inj (tAcc.symm.trans ht2)
  intro g cs hcs
  simp only [E] at hcs
  split at hcs
  · cases hcs
    rw [← words_eq]
    exact gl_rep gWords hv0 words_pure (arr_rep Tryz.underlying274 (by kernel_rfl) (Or.inl (by kernel_rfl)) hd0 _)
  · cases hcs
    rw [← first_eq]
    rw [first_agg] at hd1
    exact gl_rep gFirst hv1 first_pure (arr_rep Tryz.underlying286 (by kernel_rfl) (Or.inr ⟨.u8,by kernel_rfl⟩) hd1 _)
  · cases hcs
    rw [← acc_eq]
    rw [acc_agg] at hd2
    exact gl_rep gAcc hv2 acc_pure (arr2_rep (k0:=.u8) (k1:=.u8) Tryz.underlying289 (by kernel_rfl) Tryz.underlying288 rfl rfl (by kernel_rfl) (by kernel_rfl) (by kernel_rfl) (by kernel_rfl) hd2 _)
  · cases hcs


theorem calls_true {f:FuncId} {W:World} {args:Array Value} {vs:List V} (hL:laidMetH Tryz.prog laidL W) (hlen:args.size=vs.length) (hr:∀ (j:Nat) (x:Value) (v:V),args[j]? = some x→vs[j]? = some v→RepP (cellsI W) x v)
    (he:Ev E f vs (.bool true)):Calls Tryz.prog f args W fun e w'=>e = .returned (.bool true)∧W.grownBy w' none:=by
  refine (Ev.sound mixed envOk he W (cellsI W) args (cellsI_ok W) (glOk hL) hlen hr).mono fun e W' ⟨x,τ,I',h1,h2,_,_,_,h3,_⟩=>⟨?_,h2⟩
  rw [h1]
  have h4:RepP I' x (.bool true):=h3
  cases h4
  rfl
end Go.Pv.T

/- Histories and other arguments that come in. -/
namespace Go.Pv.T
open Go Go.Pv Go.Proofs Go.ChangeShapes Go.WideShapes Go.ChangeAt Go.RowKit Go.Proofs.YtopjfnbonjmnjaaGreatDoor
abbrev valTy:Ty:=.pair (.int .i64) (.pair (.int .i64) .unit)
abbrev opTy:Ty:=.pair .bool (.pair (.int .i64) (.pair valTy .unit))
abbrev txnTy:Ty:=.pair (.int .i64) (.pair (.int .i64) (.pair (.slice opTy) .unit))
abbrev histTy:Ty:=.pair (.slice .str) (.pair (.slice .str) (.pair (.slice txnTy) .unit))
abbrev placeTy:Ty:=.pair (.int .i64) (.pair (.int .i64) .unit)
theorem sh_slice {α:Type} {t:Ty} {f:α→List V} (hf:∀ e,Sh t e→∃ a,e=f a) {vs:List V} (h:Sh (.slice t) vs):∃ nl l,vs=[slOf nl f l]:=by
 cases h with
 | nil=>exact ⟨true,[],rfl⟩
 | slice es hn h =>
  have all:∀ es:List (List V),(∀ e∈es,Sh t e)→∃ l:List α,es=l.map f:=by
   intro es
   induction es with
   | nil=>intro _;exact ⟨[],rfl⟩
   | cons e es ih =>
    intro h
    obtain ⟨a,rfl⟩:=hf e (h e (List.mem_cons_self ..))
    obtain ⟨l,rfl⟩:=ih (fun e he=>h e (List.mem_cons_of_mem _ he))
    exact ⟨a::l,rfl⟩
  obtain ⟨l,rfl⟩:=all es h
  exact ⟨false,l,by simp [slOf,List.flatMap]⟩
theorem sh_val {vs:List V} (h:Sh valTy vs):∃ v:Val',vs=valC v:=by
 cases h with
 | pair ha hb=>cases ha with
  | int _ k=>cases hb with
   | pair hc hd=>cases hc with
    | int _ n=>cases hd;exact ⟨⟨k,n⟩,rfl⟩
theorem sh_op {vs:List V} (h:Sh opTy vs):∃ o:Op',vs=opC o:=by
 cases h with
 | pair ha hb=>cases ha with
  | bool w=>cases hb with
   | pair hc hd=>cases hc with
    | int _ k=>cases hd with
     | pair he hf =>
      obtain ⟨v,rfl⟩:=sh_val he
      cases hf
      exact ⟨⟨w,k,v⟩,rfl⟩
theorem sh_txn {vs:List V} (h:Sh txnTy vs):∃ t:Txn',vs=txnC t:=by
 cases h with
 | pair ha hb=>cases ha with
  | int _ s=>cases hb with
   | pair hc hd=>cases hc with
    | int _ f=>cases hd with
     | pair he hf =>
      obtain ⟨nl,l,rfl⟩:=sh_slice (f:=opC) (fun e=>sh_op) he
      cases hf
      exact ⟨⟨s,f,nl,l⟩,rfl⟩
theorem sh_str {vs:List V} (h:Sh .str vs):∃ s:List UInt8,vs=strC s:=by
 cases h with
 | str s=>exact ⟨s,rfl⟩
theorem sh_hist {vs:List V} (h:Sh histTy vs):∃ g:Hist',vs=histC g:=by
 cases h with
 | pair ha hb=>cases hb with
  | pair hc hd=>cases hd with
   | pair he hf =>
    obtain ⟨n0,l0,rfl⟩:=sh_slice (f:=strC) (fun e=>sh_str) ha
    obtain ⟨n1,l1,rfl⟩:=sh_slice (f:=strC) (fun e=>sh_str) hc
    obtain ⟨n2,l2,rfl⟩:=sh_slice (f:=txnC) (fun e=>sh_txn) he
    cases hf
    exact ⟨⟨n0,l0,n1,l1,n2,l2⟩,rfl⟩
theorem sh_place {vs:List V} (h:Sh placeTy vs):∃ a b:Int,vs=[.int .i64 a,.int .i64 b]:=by
 cases h with
 | pair ha hb=>cases ha with
  | int _ k=>cases hb with
   | pair hc hd=>cases hc with
    | int _ n=>cases hd;exact ⟨k,n,rfl⟩
theorem leaf_of_pure {v:V} (h:v.pureLeaf=true):v.leaf=true:=by cases v <;> first | rfl | cases h
section
variable {H:Type} {enc:TypeId × Value→H} {W:World} {v:Value} {d:DataW H} {p:List MemPlace} {base:Nat}
set_option maxRecDepth 100000 in
theorem struct_arg {t:TypeId} {fs:Array Field} {n:Nat} {ty:Ty} (ht:Tryz.prog.underlying t=some (.struct fs)) (hty:tyOf Tryz.prog n t=some ty) (hval:Value.okWide Tryz.prog W .any base t v)
 (h:DataW.Trod enc Tryz.prog W 0 (fun _=>true) true t v d p):∃ vs,Sh ty vs∧RepP (cellsI W) v (.agg vs):=by
 obtain ⟨cs,rfl,_⟩:=okWide_struct ht hval
 obtain ⟨fuel,hf⟩:=h
 obtain ⟨vs,hs,hr⟩:=rep_of n t ty hty fuel _ _ hf
 refine ⟨vs,hs,RepP.agg cs vs (by simpa [Value.cells] using hr.1) (fun j v hj=>leaf_of_pure (hs.pure v (List.mem_of_getElem? hj))) (fun j x v hx hv=>hr.2 j x v (by simpa [Value.cells] using hx) hv)⟩
theorem trodAll_two {s t:TypeId} {vs:List Value} {ds:List (DataW H)} {p:List MemPlace} (h:DataW.TrodAll enc Tryz.prog W 0 (fun _=>true) true [s,t] vs ds p) :
 ∃ v0 v1 d0 d1 p0 p1,vs=[v0,v1]∧ds=[d0,d1]∧DataW.Trod enc Tryz.prog W 0 (fun _=>true) true s v0 d0 p0∧DataW.Trod enc Tryz.prog W 0 (fun _=>true) true t v1 d1 p1:=by
 match vs,ds,h with
 | [v0,v1],[d0,d1],⟨p0,q,h0,⟨p1,q',h1,_,_⟩,_⟩=>exact ⟨v0,v1,d0,d1,p0,p1,rfl,rfl,h0,h1⟩
 | [],[],h=>exact h.elim
 | [v0],[d0],⟨_,_,_,h,_⟩=>exact h.elim
 | [],_::_,h=>exact h.elim
 | _::_,[],h=>exact h.elim
 | [_],_::_::_,⟨_,_,_,h,_⟩=>exact h.elim
 | _::_::_,[_],⟨_,_,_,h,_⟩=>exact h.elim
 | _::_::_::_,[_,_],⟨_,_,_,⟨_,_,_,h,_⟩,_⟩=>exact h.elim
 | [_,_],_::_::_::_,⟨_,_,_,⟨_,_,_,h,_⟩,_⟩=>exact h.elim
 | _::_::_::_,_::_::_::_,⟨_,_,_,⟨_,_,_,h,_⟩,_⟩=>exact h.elim
theorem read_ok (ts:List TypeId) (h:(ts.all fun t=>Tryz.prog.readableRec t && decide (t<Tryz.prog.types.size))=true) (t:TypeId) (ht:t∈ts):Tryz.prog.readableRec t=true∧t<Tryz.prog.types.size:=by
 have:=List.all_eq_true.1 h t ht
 simpa using this
set_option maxRecDepth 100000 in
theorem hist_arg (hval:Value.okWide Tryz.prog W .any base 25 v) (h:DataW.Trod enc Tryz.prog W 0 (fun _=>true) true 25 v d p):∃ g:Hist',RepP (cellsI W) v (.agg (histC g)):=by
 obtain ⟨vs,hs,hr⟩:=struct_arg (n:=8) (ty:=histTy) Tryz.underlying25 (by kernel_rfl) hval h
 obtain ⟨g,rfl⟩:=sh_hist hs
 exact ⟨g,hr⟩
set_option maxRecDepth 100000 in
theorem place_arg (hval:Value.okWide Tryz.prog W .any base 42 v) (h:DataW.Trod enc Tryz.prog W 0 (fun _=>true) true 42 v d p):∃ a b:Int,RepP (cellsI W) v (.agg [.int .i64 a,.int .i64 b]):=by
 obtain ⟨vs,hs,hr⟩:=struct_arg (n:=8) (ty:=placeTy) Tryz.underlying42 (by kernel_rfl) hval h
 obtain ⟨a,b,rfl⟩:=sh_place hs
 exact ⟨a,b,hr⟩
end
end Go.Pv.T
