/- What a function hands back. -/
import Derived.Test.YtphecmnehkdihaaGreatDoorCB
import Derived.RangeFuncLeaves
import Derived.KernelRfl
import Derived.Test.YtphecmnehkdihaaGreatDoorRows
import Derived.Laws.BitsLemmas
set_option maxRecDepth 100000
namespace Go.Pv
open Go
def jp9 (γ:Nat→Option Place) (x:Value):V→Option Place
 | .sl (some (u,_)) _ _ _=>γ u
 | .osl _ u _ n sz=>match γ u,x with
  | some (.obj b _),.slice _ _ cap=>some (.tok b n cap sz)
  | _,_=>none
 | _=>none
def jcf (st:St) (keep:Bool) (l u off n sz:Nat):Bool :=
 match j1 st.ob l u with
 | some cs0=>keep && Nat.beq off 0 && Nat.blt 0 n && Nat.beq (n * sz) cs0.length
 | none=>false
def plLeaf (γ:Nat→Option Place) (st:St) (keep:Bool) (i:Nat) (x:Value):V→List (Nat × Nat × Option Place)
 | .sl (some (u,z)) nl n cs=>if keep && st.tk u then [(i,u,jp9 γ x (.sl (some (u,z)) nl n cs))] else []
 | .osl l u off n sz=>if jcf st keep l u off n sz then [(i,u,jp9 γ x (.osl l u off n sz))] else []
 | _=>[]
def plList (γ:Nat→Option Place) (st:St) (keep:Bool):Nat→List Value→List V→List (Nat × Nat × Option Place)
 | i,x::xs,v::vs=>plLeaf γ st keep i x v++plList γ st keep (i+1) xs vs
 | _,_,_=>[]
def aggL:Value→List Value
 | .agg xs=>xs.toList
 | _=>[]
def plTop (γ:Nat→Option Place) (st:St) (keep:Bool) (i:Nat) (x:Value):V→List (Nat × Nat × Option Place)
 | .agg cs=>plList γ st keep i (aggL x) cs
 | v=>plLeaf γ st keep i x v
def plTops (γ:Nat→Option Place) (st:St) (keep:Bool):Nat→List Value→List V→List (Nat × Nat × Option Place)
 | i,x::xs,v::vs=>plTop γ st keep i x v++plTops γ st keep (i+16) xs vs
 | _,_,_=>[]
theorem QA:∀ {l:List Nat},nodup l=true→l.Nodup
 | [],_=>List.nodup_nil
 | a::l,h=>by
  simp only [nodup,Bool.and_eq_true,Bool.not_eq_true'] at h
  refine List.nodup_cons.2 ⟨fun hm=>?_,QA h.2⟩
  have:(l.any fun b=>Nat.beq a b)=true:=List.any_eq_true.2 ⟨a,hm,Nat.beq_refl a⟩
  rw [h.1] at this
  cases this
section
variable {P:Program} {E:Env} {w0 w:World} {I0:IMap} {nt:Nat} {γ τ:Nat→Option Place} {I I':IMap} {st:St} {a:Act} {B:Nat} {Ω:Nat→Option Owner} {keep:Bool}
def PlOk (γ:Nat→Option Place) (_:IMap) (st:St) (keep:Bool) (p:Nat × Nat × Option Place):Prop :=
 keep=true∧((st.tk p.2.1=true∧p.2.2=γ p.2.1) ∨
  ∃ l cs b k n cap sz,st.ob l=some ⟨p.2.1,.cells cs⟩∧γ p.2.1=some (.obj b k)∧p.2.2=some (.tok b n cap sz)∧0<n∧n * sz=cs.length∧n≤cap∧cap≤maxLen∧cap * sz≤k.size∧Nat.ble st.ro p.2.1=true)
theorem jd4 (i:Nat) {x:Value} {v v':V} (hx:Rep γ I x v) (hv:jr st keep i v=some v'):((plLeaf γ st keep i x v).map (·.2.1)).Sublist v.tok∧∀ p∈plLeaf γ st keep i x v,PlOk γ I st keep p:=by
 unfold plLeaf
 split
 ·split
  ·rename_i h
   simp only [Bool.and_eq_true] at h
   exact ⟨List.Sublist.refl _,fun p hp=>by rw [List.mem_singleton.1 hp];exact ⟨h.1,.inl ⟨h.2,rfl⟩⟩⟩
  ·exact ⟨List.nil_sublist _,fun p hp=>by cases hp⟩
 ·rename_i l u off n sz
  split
  ·rename_i h
   refine ⟨List.Sublist.refl _,fun p hp=>?_⟩
   rw [List.mem_singleton.1 hp]
   unfold jcf at h
   split at h
   case h_2=>cases h
   rename_i cs0 hcs
   simp only [Bool.and_eq_true] at h
   obtain ⟨⟨⟨h1,h2⟩,h3⟩,h4⟩:=h
   have h2:=Nat.eq_of_beq_eq_true h2
   have h3:0<n:=by simpa [Nat.blt_eq] using h3
   have h4:=Nat.eq_of_beq_eq_true h4
   subst h2
   obtain ⟨b,k,ad,cap,hu,rfl,ha,hc,hm⟩:=Xb hx
   have hro:Nat.ble st.ro u=true:=by
    simp only [jr] at hv
    obtain ⟨q,hq,_⟩:=bind_some hv
    simp only [JW,hcs,Option.bind_some,Option.ite_none_right_eq_some] at hq
    exact hq.1.1
   refine ⟨h1,.inr ⟨l,cs0,b,k,n,cap,sz,jf hcs,hu,by simp only [jp9,hu],h3,h4,hc,hm,?_,hro⟩⟩
   have:=(ha (by omega)).2
   omega
  ·exact ⟨List.nil_sublist _,fun p hp=>by cases hp⟩
 ·exact ⟨List.nil_sublist _,fun p hp=>by cases hp⟩
theorem jd3:∀ (i:Nat) (xs:List Value) (vs vs':List V),xs.length=vs.length→(∀ (j:Nat) (x:Value) (v:V),xs[j]? = some x→vs[j]? = some v→Rep γ I x v)→XN st keep i vs=some vs' →
 ((plList γ st keep i xs vs).map (·.2.1)).Sublist (vs.flatMap V.tok)∧∀ p∈plList γ st keep i xs vs,PlOk γ I st keep p
 | _,[],[],_,_,_,_=>⟨List.Sublist.refl _,fun p hp=>by cases hp⟩
 | i,x::xs,v::vs,vs',hl,hr,ho=>by
  simp only [XN] at ho
  obtain ⟨q,hq,ho⟩:=bind_some ho
  obtain ⟨r,hr',rfl⟩:=map_some ho
  obtain ⟨h1,h2⟩:=jd4 i (hr 0 x v rfl rfl) hq
  obtain ⟨h3,h4⟩:=jd3 (i+1) xs vs r (by simpa using hl) (fun j x v hx hv=>hr (j+1) x v (by simpa using hx) (by simpa using hv)) hr'
  simp only [plList,List.map_append,List.flatMap_cons]
  exact ⟨h1.append h3,fun p hp=>(List.mem_append.1 hp).elim (h2 p) (h4 p)⟩
 | _,[],_::_,_,h,_,_=>by simp at h
 | _,_::_,[],_,h,_,_=>by simp at h
theorem jol (i:Nat) {x:Value} {v v':V} (hx:Rep γ I x v) (hv:XM st keep i v=some v'):((plTop γ st keep i x v).map (·.2.1)).Sublist v.toks∧∀ p∈plTop γ st keep i x v,PlOk γ I st keep p:=by
 cases v with
 | agg cs =>
  obtain ⟨xs,rfl,h1,h2,h3⟩:=Xz hx
  simp only [XM] at hv
  obtain ⟨r,hr,rfl⟩:=map_some hv
  exact jd3 i xs.toList cs r (by simpa using h1) (fun j x v hx hv=>h3 j x v (by simpa using hx) hv) hr
 | fn f asg bs=>exact ⟨List.nil_sublist _,fun p hp=>by cases hp⟩
 | _=>exact jd4 i hx hv
theorem jd2:∀ (i:Nat) (xs:List Value) (vs vs':List V),xs.length=vs.length→(∀ (j:Nat) (x:Value) (v:V),xs[j]? = some x→vs[j]? = some v→Rep γ I x v)→JD st keep i vs=some vs' →
 ((plTops γ st keep i xs vs).map (·.2.1)).Sublist (vs.flatMap V.toks)∧∀ p∈plTops γ st keep i xs vs,PlOk γ I st keep p
 | _,[],[],_,_,_,_=>⟨List.Sublist.refl _,fun p hp=>by cases hp⟩
 | i,x::xs,v::vs,vs',hl,hr,ho=>by
  simp only [JD] at ho
  obtain ⟨q,hq,ho⟩:=bind_some ho
  obtain ⟨r,hr',rfl⟩:=map_some ho
  obtain ⟨h1,h2⟩:=jol i (hr 0 x v rfl rfl) hq
  obtain ⟨h3,h4⟩:=jd2 (i+16) xs vs r (by simpa using hl) (fun j x v hx hv=>hr (j+1) x v (by simpa using hx) (by simpa using hv)) hr'
  simp only [plTops,List.map_append,List.flatMap_cons]
  exact ⟨h1.append h3,fun p hp=>(List.mem_append.1 hp).elim (h2 p) (h4 p)⟩
 | _,[],_::_,_,h,_,_=>by simp at h
 | _,_::_,[],_,h,_,_=>by simp at h
theorem WQ {i:Nat} {x:Value} {v v':V} (hv:jr st keep i v=some v'):v'.leaf=true∧v'.tok=(plLeaf γ st keep i x v).map (·.1):=by
 have other:∀ k,JW st (k+1) v=(if v.pureLeaf then some v else none)→jr st keep i v=JW st (k+1) v→v.tok=[]→plLeaf γ st keep i x v=[]→v'.leaf=true∧v'.tok=(plLeaf γ st keep i x v).map (·.1):=by
  intro k h1 h2 h3 h4
  rw [h2,h1] at hv
  simp only [Option.ite_none_right_eq_some,Option.some.injEq] at hv
  obtain ⟨hp,rfl⟩:=hv
  exact ⟨jah hp,by rw [h4,h3];rfl⟩
 cases v with
 | sl t nl n cs =>
  cases t with
  | none=>exact other 5 rfl rfl rfl rfl
  | some q =>
   obtain ⟨u,z⟩:=q
   simp only [jr,Option.some.injEq] at hv
   subst hv
   refine ⟨rfl,?_⟩
   cases hk:(keep && st.tk u) <;> simp [V.tok,plLeaf,hk]
 | osl l u off n sz =>
  simp only [jr] at hv
  obtain ⟨q,hq,hv⟩:=bind_some hv
  split at hv
  case h_2=>cases hv
  rename_i t nl n' cs
  obtain ⟨cs0,hcs,rfl⟩:=map_some hv
  refine ⟨rfl,?_⟩
  have hk:jcf st keep l u off n sz=(keep && Nat.beq off 0 && Nat.blt 0 n && Nat.beq (n * sz) cs0.length):=by simp only [jcf,hcs]
  rw [← hk]
  cases hkk:jcf st keep l u off n sz <;> simp [V.tok,plLeaf,hkk]
 | agg | tup | undef =>
  simp only [jr,JW,V.pureLeaf,Bool.false_eq_true,if_false,reduceCtorEq] at hv
 | _=>exact other 5 rfl rfl rfl rfl
theorem jgb (ho:Own γ I B st w Ω) (hz:jco γ B st w I I') {x:Value} {v v':V} {i:Nat} (hx:Rep γ I x v) (hv:jr st keep i v=some v') (hτ:∀ p∈plLeaf γ st keep i x v,τ p.1=p.2.2) :
 jt6 τ I' x v':=by
 have other:jr st keep i v=JW st 6 v→jt6 τ I' x v':=by
  intro h
  rw [h] at hv
  obtain ⟨h1,h2⟩:=Qy ho hz 6 x v v' hx hv
  cases v' with
  | sl t nl n cs =>
   cases t with
   | none=>exact h1
   | some q=>simp [V.pureLeaf] at h2
  | _=>exact h1
 cases v with
 | sl t nl n cs =>
  cases t with
  | none=>exact other rfl
  | some q =>
   obtain ⟨u,z⟩:=q
   simp only [jr,Option.some.injEq] at hv
   subst hv
   cases hk:(keep && st.tk u) with
   | true =>
    have hm:(i,u,γ u)∈plLeaf γ st keep i x (.sl (some (u,z)) nl n cs):=by simp [plLeaf,hk,jp9]
    have ht:=hτ _ hm
    simp only [if_true]
    have:=hx.mono (γ':=γ) (fun _ _ h=>h) hz.1
    cases this with
    | tsl _ b _ cap _ _ xs hu hlen hc hm' hi hl hr=>exact Rep.tsl i b n cap z cs xs (ht.trans hu) hlen hc hm' hi hl hr
    | pure _ _ h=>cases h
   | false =>
    simp only [Bool.false_eq_true,if_false]
    exact (Yo hx (by simp [V.strip1,V.pureLeaf])).mono hz.1
 | osl l u off n sz =>
  simp only [jr] at hv
  obtain ⟨q,hq,hv⟩:=bind_some hv
  obtain ⟨hrep,hpl⟩:=Qy ho hz 6 x _ q hx hq
  split at hv
  case h_2=>cases hv
  rename_i t nl n' cs
  have htn:t=none:=by cases t <;> simp_all [V.pureLeaf]
  subst htn
  obtain ⟨cs0,hcs,rfl⟩:=map_some hv
  have hk:jcf st keep l u off n sz=(keep && Nat.beq off 0 && Nat.blt 0 n && Nat.beq (n * sz) cs0.length):=by simp only [jcf,hcs]
  rw [← hk]
  cases hkk:jcf st keep l u off n sz with
  | false=>exact hrep
  | true =>
   simp only [if_true]
   rw [hkk] at hk
   have hk:=hk.symm
   simp only [Bool.and_eq_true] at hk
   obtain ⟨⟨⟨h1,h2⟩,h3⟩,h4⟩:=hk
   have h2:=Nat.eq_of_beq_eq_true h2
   have h3:0<n:=by simpa [Nat.blt_eq] using h3
   have h4:=Nat.eq_of_beq_eq_true h4
   subst h2
   obtain ⟨b,kb,ad,cap,hu,rfl,ha,hc,hm⟩:=Xb hx
   have hmem:(i,u,some (Place.tok b n cap sz))∈plLeaf γ st keep i (.slice (some ad) n cap) (.osl l u 0 n sz):=by simp [plLeaf,hkk,jp9,hu]
   have ht:=hτ _ hmem
   have hada:=(ha (by omega)).1
   subst hada
   -- the form of what is JW
   simp only [JW,hcs,Option.bind_some,Option.ite_none_right_eq_some] at hq
   obtain ⟨_,hq⟩:=hq
   obtain ⟨cs',hcs',he⟩:=map_some hq
   simp only [V.sl.injEq,true_and] at he
   obtain ⟨rfl,rfl,rfl⟩:=he
   have hlen:cs'.length=n * sz:=by
    have:=(jy hcs').1
    rw [this]
    simp only [List.length_take,List.length_drop];omega
   cases hrep with
   | sl _ _ _ _ xs hs hc' hm' hi hl hr=>exact Rep.tsl i b n cap sz cs' xs ht hlen hc hm (by simpa using hi) hl hr
 | agg | tup | undef =>
  simp only [jr,JW,V.pureLeaf,Bool.false_eq_true,if_false,reduceCtorEq] at hv
 | _=>exact other rfl
theorem jga (ho:Own γ I B st w Ω) (hz:jco γ B st w I I'):∀ (xs:List Value) (vs vs':List V) (i:Nat),xs.length=vs.length→(∀ (j:Nat) (x:Value) (v:V),xs[j]? = some x→vs[j]? = some v→Rep γ I x v) →
 XN st keep i vs=some vs'→(∀ p∈plList γ st keep i xs vs,τ p.1=p.2.2) →
 vs'.length=vs.length∧(∀ (j:Nat) (x:Value) (v':V),xs[j]? = some x→vs'[j]? = some v'→v'.leaf=true∧jt6 τ I' x v')
 | [],[],vs',i,_,_,h,_=>by
  simp only [XN,Option.some.injEq] at h
  subst h
  exact ⟨rfl,fun j x v' h=>by simp at h⟩
 | x::xs,v::vs,vs',i,hl,hr,h,hτ=>by
  simp only [XN] at h
  obtain ⟨q,hq,h⟩:=bind_some h
  obtain ⟨r,hr',rfl⟩:=map_some h
  simp only [plList] at hτ
  obtain ⟨h1,h2⟩:=jga ho hz xs vs r (i+1) (by simpa using hl) (fun j x v hx hv=>hr (j+1) x v (by simpa using hx) (by simpa using hv)) hr' (fun p hp=>hτ p (List.mem_append_right _ hp))
  have hleaf:=jgb ho hz (hr 0 x v rfl rfl) hq (fun p hp=>hτ p (List.mem_append_left _ hp))
  have hpos:=WQ (γ:=γ) (x:=x) hq
  refine ⟨by simp [h1],fun j y u' hy hu'=>?_⟩
  cases j with
  | zero =>
   simp only [List.getElem?_cons_zero,Option.some.injEq] at hy hu'
   subst hy;subst hu'
   exact ⟨hpos.1,hleaf⟩
  | succ j=>exact h2 j y u' (by simpa using hy) (by simpa using hu')
 | [],_::_,_,_,h,_,_,_=>by simp at h
 | _::_,[],_,_,h,_,_,_=>by simp at h
theorem jsh {x:Value} {v:V} (h:jt6 τ I x v) (hl:v.leaf=true):jps τ I x v∧(∀ vs,v≠.tup vs):=by
 cases v with
 | agg | tup | undef=>cases hl
 | _=>exact ⟨h,fun _ h=>by cases h⟩
theorem jrg (ho:Own γ I B st w Ω) (hz:jco γ B st w I I') {x:Value} {v v':V} {i:Nat} (hx:Rep γ I x v) (hv:XM st keep i v=some v') (hτ:∀ p∈plTop γ st keep i x v,τ p.1=p.2.2) :
 jps τ I' x v'∧(∀ vs,v'≠.tup vs):=by
 have leafCase:jr st keep i v=some v'→plTop γ st keep i x v=plLeaf γ st keep i x v→jps τ I' x v'∧(∀ vs,v'≠.tup vs):=by
  intro h1 h2
  rw [h2] at hτ
  exact jsh (jgb ho hz hx h1 hτ) (WQ (γ:=γ) (x:=x) h1).1
 cases v with
 | agg cs =>
  simp only [XM] at hv
  obtain ⟨r,hr,rfl⟩:=map_some hv
  obtain ⟨xs,rfl,h1,h2,h3⟩:=Xz hx
  obtain ⟨k1,k2⟩:=jga ho hz xs.toList cs r i (by simpa using h1) (fun j x v hx hv=>h3 j x v (by simpa using hx) hv) hr hτ
  refine ⟨⟨xs,rfl,h1.trans k1.symm,fun j u hu=>?_,fun j y u hy hu=>(k2 j y u (by simpa using hy) hu).2⟩,(fun vs h=>by cases h)⟩
  have hj:j<xs.size:=by have:=(List.getElem?_eq_some_iff.1 hu).1;omega
  exact (k2 j xs[j] u (by rw [Array.getElem?_toList];exact Array.getElem?_eq_getElem hj) hu).1
 | fn f asg bs =>
  simp only [XM,Option.ite_none_right_eq_some,Option.some.injEq] at hv
  obtain ⟨hp,rfl⟩:=hv
  exact ⟨(jft hx hp).mono hz.1,(fun vs h=>by simp [V.strip] at h)⟩
 | _=>exact leafCase hv rfl
theorem W0 (ho:Own γ I B st w Ω) (hz:jco γ B st w I I'):∀ (xs:List Value) (vs vs':List V) (i:Nat),xs.length=vs.length→(∀ (j:Nat) (x:Value) (v:V),xs[j]? = some x→vs[j]? = some v→Rep γ I x v) →
 JD st keep i vs=some vs'→(∀ p∈plTops γ st keep i xs vs,τ p.1=p.2.2) →
 vs'.length=vs.length∧(∀ (j:Nat) (x:Value) (v':V),xs[j]? = some x→vs'[j]? = some v'→jps τ I' x v'∧∀ vs,v'≠.tup vs)
 | [],[],vs',i,_,_,h,_=>by
  simp only [JD,Option.some.injEq] at h
  subst h
  exact ⟨rfl,fun j x v' h=>by simp at h⟩
 | x::xs,v::vs,vs',i,hl,hr,h,hτ=>by
  simp only [JD] at h
  obtain ⟨q,hq,h⟩:=bind_some h
  obtain ⟨r,hr',rfl⟩:=map_some h
  simp only [plTops] at hτ
  obtain ⟨h1,h2⟩:=W0 ho hz xs vs r (i+16) (by simpa using hl) (fun j x v hx hv=>hr (j+1) x v (by simpa using hx) (by simpa using hv)) hr' (fun p hp=>hτ p (List.mem_append_right _ hp))
  have htop:=jrg ho hz (hr 0 x v rfl rfl) hq (fun p hp=>hτ p (List.mem_append_left _ hp))
  refine ⟨by simp [h1],fun j y u' hy hu'=>?_⟩
  cases j with
  | zero =>
   simp only [List.getElem?_cons_zero,Option.some.injEq] at hy hu'
   subst hy;subst hu'
   exact htop
  | succ j=>exact h2 j y u' (by simpa using hy) (by simpa using hu')
 | [],_::_,_,_,h,_,_,_=>by simp at h
 | _::_,[],_,_,h,_,_,_=>by simp at h
theorem jsk {v:V} (h:v.leaf=true):v.toks=v.tok:=by
 cases v with
 | agg | tup | undef=>cases h
 | _=>rfl
theorem jd7:∀ (xs:List Value) (vs vs':List V) (i:Nat),xs.length=vs.length→XN st keep i vs=some vs'→vs'.flatMap V.tok=(plList γ st keep i xs vs).map (·.1)
 | [],[],vs',i,_,h=>by
  simp only [XN,Option.some.injEq] at h
  subst h
  rfl
 | x::xs,v::vs,vs',i,hl,h=>by
  simp only [XN] at h
  obtain ⟨q,hq,h⟩:=bind_some h
  obtain ⟨r,hr,rfl⟩:=map_some h
  simp only [plList,List.map_append,List.flatMap_cons,(WQ (γ:=γ) (x:=x) hq).2,jd7 xs vs r (i+1) (by simpa using hl) hr]
 | [],_::_,_,_,h,_=>by simp at h
 | _::_,[],_,_,h,_=>by simp at h
theorem joo {x:Value} {v v':V} {i:Nat} (hx:Rep γ I x v) (hv:XM st keep i v=some v'):v'.toks=(plTop γ st keep i x v).map (·.1):=by
 have leafCase:jr st keep i v=some v'→plTop γ st keep i x v=plLeaf γ st keep i x v→v'.toks=(plTop γ st keep i x v).map (·.1):=fun h1 h2=>by
  obtain ⟨h3,h4⟩:=WQ (γ:=γ) (x:=x) h1
  rw [h2,jsk h3,h4]
 cases v with
 | agg cs =>
  simp only [XM] at hv
  obtain ⟨r,hr,rfl⟩:=map_some hv
  obtain ⟨xs,rfl,h1,h2,h3⟩:=Xz hx
  exact jd7 xs.toList cs r i (by simpa using h1) hr
 | fn f asg bs =>
  simp only [XM,Option.ite_none_right_eq_some,Option.some.injEq] at hv
  obtain ⟨hp,rfl⟩:=hv
  rfl
 | _=>exact leafCase hv rfl
theorem jd6:∀ (xs:List Value) (vs vs':List V) (i:Nat),xs.length=vs.length→(∀ (j:Nat) (x:Value) (v:V),xs[j]? = some x→vs[j]? = some v→Rep γ I x v)→JD st keep i vs=some vs' →
 vs'.flatMap V.toks=(plTops γ st keep i xs vs).map (·.1)
 | [],[],vs',i,_,_,h=>by
  simp only [JD,Option.some.injEq] at h
  subst h
  rfl
 | x::xs,v::vs,vs',i,hl,hr,h=>by
  simp only [JD] at h
  obtain ⟨q,hq,h⟩:=bind_some h
  obtain ⟨r,hr',rfl⟩:=map_some h
  simp only [plTops,List.map_append,List.flatMap_cons,joo (hr 0 x v rfl rfl) hq,jd6 xs vs r (i+16) (by simpa using hl) (fun j x v hx hv=>hr (j+1) x v (by simpa using hx) (by simpa using hv)) hr']
 | [],_::_,_,_,h,_,_=>by simp at h
 | _::_,[],_,_,h,_,_=>by simp at h
def jmo (xs:List Value):Value :=
 match xs with
 | [x]=>x
 | xs=>.tuple xs.toArray
end
section
variable {P:Program} {E:Env} {w0 w:World} {I0:IMap} {nt:Nat} {γ τ:Nat→Option Place} {I I':IMap} {st:St} {a:Act} {B:Nat} {Ω:Nat→Option Owner}
def jmp (tmps:Array Value):ResultVar→Sem Value
 | .tmp t=>pure (tmps.getD t undef)
 | .cell a t=>do loadVar t (← asAddr (tmps.getD a undef))
theorem jqy (hR:R E w0 I0 nt γ I st a w) {rv:ResultVar} {r:ARes} {v:V} (hc:YX P rv=some r) (hv:jm st r=some v):∃ x,(jmp a.tmps rv).run P w = .ok x w∧Rep γ I x v:=by
 cases rv with
 | tmp t =>
  simp only [YX,Option.some.injEq] at hc
  subst hc
  simp only [jm,Option.some.injEq] at hv
  subst hv
  exact ⟨_,rfl,hR.tm t⟩
 | cell n t =>
  simp only [YX] at hc
  obtain ⟨g,hg,rfl⟩:=map_some hc
  simp only [jm] at hv
  split at hv
  ·rename_i l u off he
   have hr:=hR.tm n
   rw [he] at hr
   obtain ⟨b,kb,hu,hx'⟩:=YR hr
   obtain ⟨cs,hcs,hpk⟩:=bind_some hv
   obtain ⟨arr,e,m1,m2,m4,m3⟩:=Wn hR (jf hcs) hu
   have hget:∀ j,off+j<cs.length→arr[off+j]? = some (arr.getD (off+j) undef):=by
    intro j hj
    have:off+j<arr.size:=by omega
    simp [this]
   obtain ⟨h4,h5⟩:=jhh (γ:=γ) (I:=I) hpk (fun j=>arr.getD (off+j) undef) (fun j u hj hu=>m3 _ _ _ (hget j (List.getElem?_eq_some_iff.1 hu).1) hu)
   refine ⟨_,?_,h5⟩
   simp only [jmp,hx',asAddr,Sem.run_bind,Sem.run_pure,Result.andThen_ok]
   exact Qi hg (fun j=>arr.getD (off+j) undef) _ rfl (fun j hj=>by
    simp only [World.cell?,m1,Option.isSome_none,Bool.false_eq_true,if_false]
    exact hget j (h4 j hj))
  ·cases hv
theorem jf3 (hR:R E w0 I0 nt γ I st a w):∀ (rvs:List ResultVar) (rs:List ARes) (vs:List V),rvs.mapM (YX P)=some rs→rs.mapM (jm st)=some vs →
 ∃ xs:List Value,xs.length=vs.length∧(rvs.mapM (jmp a.tmps)).run P w = .ok xs w∧∀ (j:Nat) (x:Value) (v:V),xs[j]? = some x→vs[j]? = some v→Rep γ I x v
 | [],rs,vs,h1,h2=>by
  simp at h1
  subst h1
  simp at h2
  subst h2
  exact ⟨[],rfl,rfl,fun j x v h=>by simp at h⟩
 | rv::rvs,rs,vs,h1,h2=>by
  simp only [List.mapM_cons] at h1
  cases ha:YX P rv with
  | none=>simp [ha] at h1
  | some r =>
   cases hl:rvs.mapM (YX P) with
   | none=>simp [ha,hl] at h1
   | some rs' =>
    simp [ha,hl] at h1
    subst h1
    simp only [List.mapM_cons] at h2
    cases hv:jm st r with
    | none=>simp [hv] at h2
    | some v =>
     cases hvl:rs'.mapM (jm st) with
     | none=>simp [hv,hvl] at h2
     | some vs' =>
      simp [hv,hvl] at h2
      subst h2
      obtain ⟨x,k1,k2⟩:=jqy hR ha hv
      obtain ⟨xs,k3,k4,k5⟩:=jf3 hR rvs rs' vs' hl hvl
      refine ⟨x::xs,by simp [k3],?_,fun j y u hy hu=>?_⟩
      ·simp only [List.mapM_cons,Sem.run_bind,k1,Result.andThen_ok,k4,Sem.run_pure]
      ·cases j with
       | zero =>
        simp only [List.getElem?_cons_zero,Option.some.injEq] at hy hu
        subst hy;subst hu
        exact k2
       | succ j=>exact k5 j y u (by simpa using hy) (by simpa using hu)
theorem jf2 (hR:R E w0 I0 nt γ I st a w) {fn:Func} {rs:List ARes} {vs:List V} (h1:fn.results.toList.mapM (YX P)=some rs) (h2:rs.mapM (jm st)=some vs) :
 ∃ xs:List Value,xs.length=vs.length∧(results fn a.tmps).run P w = .ok (jmo xs) w∧∀ (j:Nat) (x:Value) (v:V),xs[j]? = some x→vs[j]? = some v→Rep γ I x v:=by
 obtain ⟨xs,k1,k2,k3⟩:=jf3 hR _ _ _ h1 h2
 refine ⟨xs,k1,?_,k3⟩
 have he:(results fn a.tmps)=(fn.results.mapM (jmp a.tmps) >>= fun vs=>pure (if h:vs.size=1 then vs[0] else .tuple vs)):=by
  unfold results
  congr 1
 rw [he,Array.mapM_eq_mapM_toList]
 simp only [map_eq_pure_bind,Sem.run_bind,k2,Result.andThen_ok,Sem.run_pure]
 congr 1
 match xs with
 | []=>rfl
 | [x]=>rfl
 | x::y::r=>simp [jmo]
theorem jpq {β:Type} {l:List (Nat × β)} (hn:(l.map (·.1)).Nodup) {i:Nat} {u:β} (hm:(i,u)∈l):(l.find? fun p=>Nat.beq p.1 i)=some (i,u):=by
 induction l with
 | nil=>cases hm
 | cons p l ih =>
  obtain ⟨j,v⟩:=p
  simp only [List.map_cons,List.nodup_cons] at hn
  rcases List.mem_cons.1 hm with he | hm
  ·cases he
   simp [List.find?,Nat.beq_refl]
  ·have hne:¬ j=i:=fun e=>hn.1 (List.mem_map.2 ⟨_,hm,e.symm⟩)
   have:Nat.beq j i=false:=by
    cases h:Nat.beq j i with
    | false=>rfl
    | true=>exact absurd (Nat.eq_of_beq_eq_true h) hne
   simp only [List.find?,this]
   exact ih hn.2 hm
theorem j4n (hR:R E w0 I0 nt γ I st a w) {xs:List Value} {vs:List V} {r:V} (hlen:xs.length=vs.length) (hr:∀ (j:Nat) (x:Value) (v:V),xs[j]? = some x→vs[j]? = some v→Rep γ I x v)
 (ho:Yh st vs=some r) :
 ∃ τ I',(∀ b o x,I b o=some x→I' b o=some x)∧jkd I' w∧(∀ b o,b<w0.heap.size→I' b o=I b o)∧jt4 τ I' (jmo xs) r∧jkb w0.heap.size τ I' w r:=by
 classical
 obtain ⟨Ω,hown⟩:=hR.own
 let C:Nat→Nat→Prop:=fun b o=>w0.heap.size≤b∧∃ l u cs k,st.ob l=some ⟨u,.cells cs⟩∧γ u=some (.obj b k)∧o<cs.length
 let I':IMap:=fun b o=>match I b o with
  | some x=>some x
  | none=>if C b o then w.cell? ⟨b,o,none⟩ else none
 have hmono:∀ b o x,I b o=some x→I' b o=some x:=by
  intro b o x h
  simp only [I',h]
 have hz:jco γ w0.heap.size st w I I':=⟨hmono,fun b k o x l u cs hb hl hu hlt hc=>by
  obtain ⟨b',k',k1,_,_,_,k5⟩:=hown.ob l _ hl
  rw [hu] at k1
  cases k1
  simp only [I',k5]
  rw [if_pos ⟨hb,l,u,cs,k,hl,hu,hlt⟩]
  exact hc⟩
 have himm:jkd I' w:=by
  intro b o x h
  simp only [I'] at h
  split at h
  ·rename_i y hy
   cases h
   exact hR.imm _ _ _ hy
  ·split at h
   ·exact h
   ·cases h
 have hold:∀ b o,b<w0.heap.size→I' b o=I b o:=by
  intro b o hb
  simp only [I']
  split
  ·rename_i y hy;exact hy.symm
  ·rename_i hy
   rw [if_neg (fun h=>Nat.not_lt_of_le h.1 hb)]
   exact hy.symm
 unfold Yh at ho
 obtain ⟨l,hl,ho⟩:=bind_some ho
 simp only [Option.ite_none_right_eq_some] at ho
 obtain ⟨hnd,hre⟩:=ho
 generalize hkeep:nodup (vs.flatMap V.toks)=keep at hl
 let pl:=plTops γ st keep 0 xs vs
 let τ:Nat→Option Place:=fun i=>(pl.find? fun p=>Nat.beq p.1 i).bind fun p=>p.2.2
 obtain ⟨hsub,hpk⟩:=jd2 (γ:=γ) (I:=I) 0 xs vs l hlen hr hl
 have hpos:=jd6 (γ:=γ) (I:=I) xs vs l 0 hlen hr hl
 have hfst:(pl.map (·.1)).Nodup:=by
  rw [← hpos]
  exact QA hnd
 have hτ:∀ p∈pl,τ p.1=p.2.2:=by
  intro p hp
  obtain ⟨i,u⟩:=p
  simp only [τ,jpq hfst hp,Option.bind_some]
 obtain ⟨h1,h2⟩:=W0 (τ:=τ) hown hz xs vs l 0 hlen hr hl hτ
 have htoks:toksRes r=pl.map (·.1):=by
  rw [← hpos]
  match l,h2,hre with
  | [],_,rfl=>rfl
  | [v],h2,rfl =>
   match xs,hlen,h1 with
   | [x],_,_ =>
    have:=(h2 0 x v rfl rfl).2
    simp only [List.flatMap_cons,List.flatMap_nil,List.append_nil]
    cases v <;> first | rfl | exact absurd rfl (this _)
   | [],e1,e2=>simp at e1 e2;omega
   | _::_::_,e1,e2=>simp at e1 e2;omega
  | v::v'::l',_,rfl=>rfl
 have hrep:jt4 τ I' (jmo xs) r:=by
  have hll:xs.length=l.length:=hlen.trans h1.symm
  match l,xs,hll,h2,hre with
  | [],[],_,_,rfl=>exact ⟨#[],rfl,rfl,fun j y u hy=>by simp at hy⟩
  | [v],[x],_,h2,rfl =>
   obtain ⟨k1,k2⟩:=h2 0 x v rfl rfl
   cases v <;> first | exact k1 | exact absurd rfl (k2 _)
  | v::v'::l',x::x'::xs',e,h2,rfl=>exact ⟨(x::x'::xs').toArray,rfl,by simpa using e,fun j y u hy hu=>(h2 j y u (by simpa using hy) hu).1⟩
 refine ⟨τ,I',hmono,himm,hold,hrep,?_⟩
 have hsnd:keep=true→(pl.map (·.2.1)).Nodup:=fun hk=>hsub.nodup (QA (by rw [hkeep,hk]))
 -- whose block it is
 have hwho:∀ p∈pl,∃ b n cap sz,p.2.2=some (.tok b n cap sz)∧w0.heap.size≤b∧b<w.heap.size∧j20 w.heap[b]? n cap sz∧(∀ j,n * sz≤j→I' b j=none) ∧
  (Ω b=some (.tk p.2.1)∨∃ l cs k,Ω b=some (.ob l)∧st.ob l=some ⟨p.2.1,.cells cs⟩∧γ p.2.1=some (.obj b k)):=by
  intro p hp
  obtain ⟨hk,hu | ⟨l,cs,b,k,n,cap,sz,q1,q2,q3,q4,q5,q6,q7,q8,q9⟩⟩:=hpk p hp
  ·obtain ⟨b,n,cap,sz,q1,q2,q3,q4,q5⟩:=hown.tk p.2.1 hu.1
   refine ⟨b,n,cap,sz,hu.2.trans q1,q3,hown.lt _ _ q2,q4,fun j hj=>?_,.inl q2⟩
   have hn:=q5 j hj
   simp only [I',hn]
   rw [if_neg]
   rintro ⟨_,l',u',cs',k',r1,r2,_⟩
   obtain ⟨b',k'',t1,t2,_⟩:=hown.ob l' _ r1
   rw [r2] at t1
   cases t1
   rw [q2] at t2
   cases t2
  ·obtain ⟨b',k',t1,t2,t3,⟨arr,e,g1,g2,g3,g4⟩,t5⟩:=hown.ob l _ q1
   rw [q2] at t1
   cases t1
   refine ⟨b,n,cap,sz,q3,t3 (by simpa [Nat.ble_eq] using q9),hown.lt _ _ t2,⟨arr,e,g1,by rw [g2];exact q8,q6,q7⟩,fun j hj=>?_,.inr ⟨l,cs,k,t2,q1,q2⟩⟩
   simp only [I',t5]
   rw [if_neg]
   rintro ⟨_,l',u',cs',k',r1,r2,r3⟩
   obtain ⟨b',k'',s1,s2,_⟩:=hown.ob l' _ r1
   rw [r2] at s1
   cases s1
   rw [t2] at s2
   cases s2
   rw [q1] at r1
   cases r1
   omega
 intro i hi
 rw [htoks] at hi
 obtain ⟨⟨i',u,pp⟩,hp,rfl⟩:=List.mem_map.1 hi
 obtain ⟨b,n,cap,sz,q1,q2,q3,q4,q5,q6⟩:=hwho _ hp
 refine ⟨b,n,cap,sz,(hτ _ hp).trans q1,q2,q3,q4,q5,fun i2 hi2 n' c' s' he=>?_⟩
 rw [htoks] at hi2
 obtain ⟨⟨i3,u3,pp3⟩,hp3,rfl⟩:=List.mem_map.1 hi2
 obtain ⟨b3,n3,cap3,sz3,r1,r2,r3,r4,r5,r6⟩:=hwho _ hp3
 have e3:=(hτ _ hp3).symm.trans he
 simp only at e3
 simp only at r1
 rw [r1] at e3
 cases e3
 have hk:=(hpk _ hp).1
 have huu:u3=u:=by
  simp only at q6 r6
  rcases q6 with q6 | ⟨l,cs,k,q6,q7,q8⟩ <;> rcases r6 with r6 | ⟨l',cs',k',r6,r7,r8⟩
  ·rw [q6] at r6;cases r6;rfl
  ·rw [q6] at r6;cases r6
  ·rw [q6] at r6;cases r6
  ·rw [q6] at r6;cases r6
   rw [q7] at r7;cases r7;rfl
 subst huu
 have:=hsnd hk
 obtain ⟨k,hk1,hk2⟩:=List.getElem_of_mem hp
 obtain ⟨k',hk3,hk4⟩:=List.getElem_of_mem hp3
 have hkk:k'=k:=by
  refine (List.getElem_inj (xs:=pl.map (·.2.1)) (h₀:=by simpa using hk3) (h₁:=by simpa using hk1) this).1 ?_
  simp [hk2,hk4]
 subst hkk
 rw [hk2] at hk4
 cases hk4
 rfl
end
section
variable {P:Program} {E:Env} {τ:Nat→Option Place} {I I' I1:IMap} {B:Nat}
theorem jjx (hII:∀ b o,B≤b→I' b o=I1 b o) {x:Value} {v:V} (h:jt6 τ I1 x v) (hf:v.freeL=true) (ht:∀ i∈v.tok,∃ b n cap sz,τ i=some (.tok b n cap sz)∧B≤b):jt6 τ I' x v:=by
 cases v with
 | sl t nl n cs =>
  cases t with
  | none=>exact jab (show RepP I1 x _ from h) hf
  | some q =>
   obtain ⟨u,z⟩:=q
   have h':Rep τ I1 x (.sl (some (u,z)) nl n cs):=h
   cases h' with
   | pure _ _ h=>cases h
   | tsl _ b _ cap _ _ xs hu hlen hc hm hi hl hr =>
    obtain ⟨b',n',cap',sz',k1,k2⟩:=ht u (by simp [V.tok])
    rw [hu] at k1
    cases k1
    refine Rep.tsl u b n cap z cs xs hu hlen hc hm (fun j hj=>(hII _ _ k2).trans (hi j hj)) hl (fun j v hv=>jab (hr j v hv) ?_)
    exact List.all_eq_true.1 (show cs.all V.scal=true from hf) v (List.mem_of_getElem? hv)
 | osl l u off n sz=>cases hf
 | _=>first | (cases hf;done) | exact jab (show RepP I1 x _ from h) hf
theorem jut {x:Value} {v:V} (h:∀ cs,v≠.agg cs):jps τ I x v=jt6 τ I x v:=by
 cases v <;> first | rfl | exact absurd rfl (h _)
theorem jva {x:Value} {v:V} (h:∀ cs,v≠.tup cs):jt4 τ I x v=jps τ I x v:=by
 cases v <;> first | rfl | exact absurd rfl (h _)
theorem jnk (hII:∀ b o,B≤b→I' b o=I1 b o) {x:Value} {v:V} (h:jps τ I1 x v) (hf:v.freeT=true) (ht:∀ i∈v.toks,∃ b n cap sz,τ i=some (.tok b n cap sz)∧B≤b):jps τ I' x v:=by
 cases v with
 | agg cs =>
  obtain ⟨xs,rfl,h1,h2,h3⟩:=h
  refine ⟨xs,rfl,h1,h2,fun j y u hy hu=>?_⟩
  have hm:=List.mem_of_getElem? hu
  exact jjx hII (h3 j y u hy hu) (List.all_eq_true.1 (show cs.all V.freeL=true from hf) u hm) (fun i hi=>ht i (List.mem_flatMap.2 ⟨u,hm,hi⟩))
 | _=>rw [jut (fun _ h=>by cases h)] at h ⊢;exact jjx hII h hf ht
theorem jxc (hII:∀ b o,B≤b→I' b o=I1 b o) {x:Value} {v:V} (h:jt4 τ I1 x v) (hf:v.freeR=true) (ht:∀ i∈toksRes v,∃ b n cap sz,τ i=some (.tok b n cap sz)∧B≤b):jt4 τ I' x v:=by
 cases v with
 | tup vs =>
  obtain ⟨xs,rfl,h1,h2⟩:=h
  refine ⟨xs,rfl,h1,fun j y u hy hu=>?_⟩
  have hm:=List.mem_of_getElem? hu
  exact jnk hII (h2 j y u hy hu) (List.all_eq_true.1 (show vs.all V.freeT=true from hf) u hm) (fun i hi=>ht i (List.mem_flatMap.2 ⟨u,hm,hi⟩))
 | _=>rw [jva (fun _ h=>by cases h)] at h ⊢;exact jnk hII h hf ht
theorem j8m {f:FuncId} {args args':List V} {ob:ZO} {ub:Nat} {r:V} (hp:jkc P E f args' r) (ha:args.mapM (W8 ob)=some args') (hr:r.freeR=true):j99 P E f args ob ub r:=by
 intro w0 w I0 I γ xs st hob hSh hfr hsz hrep
 obtain ⟨hlen,hget⟩:=jnj hob hSh ha hrep
 have hlt:∀ b o x,I b o=some x→b<w.heap.size:=by
  intro b o x hx
  have:=hSh.imm b o x hx
  apply Classical.byContradiction
  intro hn
  have hb:w.heap[b]? = none:=Array.getElem?_eq_none (by omega)
  simp [World.cell?,hb] at this
 refine (hp w (fun b o=>w.cell? ⟨b,o,none⟩) xs (fun _ _ _ h=>h) (fun g cs hg=>(hSh.gl g cs hg).mono hSh.imm) (hsz.trans hlen.symm) hget).mono fun e w' he=>?_
 ·obtain ⟨x,τ,I1,rfl,hg,hI,him,hold,hx,ht⟩:=he
  have hge:∀ b o,w.heap.size≤b→(fun b o=>if b<w.heap.size then I b o else I1 b o) b o=I1 b o:=fun b o h=>if_neg (by omega)
  refine ⟨x,τ,fun b o=>if b<w.heap.size then I b o else I1 b o,rfl,hg,fun b o y hy=>?_,fun b o y hy=>?_,fun b o hb=>if_pos hb,jxc hge hx hr (fun i hi=>?_),fun i hi=>?_⟩
  ·simp only [hlt b o y hy,if_true];exact hy
  ·simp only at hy
   split at hy
   ·exact him b o y (hI b o y (hSh.imm b o y hy))
   ·exact him b o y hy
  ·obtain ⟨b,n,cap,sz,k1,k2,_⟩:=ht i hi
   exact ⟨b,n,cap,sz,k1,k2⟩
  ·obtain ⟨b,n,cap,sz,k1,k2,k3,k4,k5,k6⟩:=ht i hi
   exact ⟨b,n,cap,sz,k1,k2,k3,k4,fun j hj=>(hge b j k2).trans (k5 j hj),k6⟩
end
end Go.Pv
namespace Go.Pv
open Go Go.Sort
theorem jet (x:Int):∀ l:List Int,(j1w x l).Perm (x::l)
 | []=>List.Perm.refl _
 | y::r=>by
  unfold j1w
  split
  ·exact List.Perm.refl _
  ·exact ((jet x r).cons y).trans (List.Perm.swap x y r)
theorem XW:∀ l:List Int,(Yv l).Perm l
 | []=>List.Perm.refl _
 | x::r=>(jet x (Yv r)).trans ((XW r).cons x)
theorem jtf (x:Int):∀ {l:List Int},l.Pairwise (·≤·)→(j1w x l).Pairwise (·≤·)
 | [],_=>by simp [j1w]
 | y::r,h=>by
  unfold j1w
  rw [List.pairwise_cons] at h
  split
  ·rename_i hxy
   exact List.pairwise_cons.2 ⟨fun z hz=>by
    rcases List.mem_cons.1 hz with rfl | hz
    ·exact hxy
    ·exact Int.le_trans hxy (h.1 z hz),List.pairwise_cons.2 h⟩
  ·refine List.pairwise_cons.2 ⟨fun z hz=>?_,jtf x h.2⟩
   rcases List.mem_cons.1 ((jet x r).mem_iff.1 hz) with rfl | hz
   ·omega
   ·exact h.1 z hz
theorem Qx:∀ l:List Int,(Yv l).Pairwise (·≤·)
 | []=>List.Pairwise.nil
 | x::r=>jtf x (Qx r)
theorem jha:∀ {S C:List Int},S.Perm C→S.Pairwise (·≤·)→C.Pairwise (·≤·)→S=C
 | [],C,h,_,_=>(List.nil_perm.1 h).symm
 | x::r,C,h,hs,hc=>by
  cases C with
  | nil=>exact absurd h.length_eq (by simp)
  | cons y q =>
   rw [List.pairwise_cons] at hs hc
   have e:x=y:=by
    rcases List.mem_cons.1 (h.mem_iff.1 (List.mem_cons_self ..)) with h1 | h1
    ·exact h1
    ·rcases List.mem_cons.1 (h.mem_iff.2 (List.mem_cons_self (l:=q))) with h2 | h2
     ·exact h2.symm
     ·have:=hs.1 y h2
      have:=hc.1 x h1
      omega
   subst e
   rw [jha ((List.perm_cons x).1 h) hs.2 hc.2]
theorem jkp (l:List Int):l.mergeSort (fun x y=>decide (x≤y))=Yv l:=by
 refine jha ((List.mergeSort_perm l _).trans (XW l).symm) ?_ (Qx l)
 have:=List.pairwise_mergeSort (le:=fun x y:Int=>decide (x≤y)) (fun a b c h1 h2=>by simp at *;omega) (fun a b=>by simp;omega) l
 exact this.imp fun h=>by simpa using h
section
variable {P:Program} {E:Env} {w0 w:World} {I0:IMap} {γ:Nat→Option Place} {I:IMap} {st:St}
theorem Sh.turnG (h:Sh E w0 I0 γ I st w) {l u b:Nat} {k:Kd} {body:OBody} (hl:st.ob l=some ⟨u,body⟩) (hu:γ u=some (.obj b k)) (hro:Nat.ble st.ro u=true) {o':Obj} {w':World} {body':OBody}
 (hos:w'.os=w.os∧w'.tape=w.tape∧w'.output=w.output) (hsz:w.heap.size≤w'.heap.size) (hk:∀ j,j<w.heap.size→j≠b→w'.heap[j]? = w.heap[j]?) (hb:w'.heap[b]? = some o')
 (hbody:ObjOk γ I st.ob w.heap k (some o') body') (hnm:∀ v es,body'≠.mp v es) :
 Sh E w0 I0 γ I { st with ob:=upd st.ob l (some ⟨u,body'⟩) } w':=by
 obtain ⟨Ω,ho⟩:=h.own
 obtain ⟨b',k',h1,h2,h3,_,h5⟩:=ho.ob l _ hl
 rw [hu] at h1
 cases h1
 have hkeep:Xk γ st.ob (upd st.ob l (some ⟨u,body'⟩)) w.heap w'.heap:=by
  intro l2 u2 ver' es' mb mk hu2 hl2
  rw [j6] at hl2
  split at hl2
  ·simp only [Option.some.injEq,Obj'.mk.injEq] at hl2
   exact absurd hl2.2 (hnm _ _)
  ·rename_i hne
   refine .inl ⟨hl2,fun m c hm=>?_⟩
   obtain ⟨b2,k2,q1,q2,_⟩:=ho.ob l2 _ hl2
   rw [hu2] at q1
   cases q1
   rw [hk _ (ho.lt _ _ q2) (fun e=>by
    subst e
    rw [h2] at q2
    cases q2
    exact hne rfl)]
   exact hm
 refine ⟨fun b2 o2 x hx=>?_,h.gl,⟨Ω,⟨fun l2 x hl2=>?_,fun u2 hu2=>?_,fun b2 ow hb2=>?_⟩⟩,?_,h.old⟩
 ·have hne:b2≠b:=fun e=>by rw [e,h5] at hx;cases hx
  have hc:=h.imm _ _ _ hx
  rw [World.cell?_of_block (w:=w) (w':=w') (a:=⟨b2,o2,none⟩) (hk b2 (World.block_lt_of_cell? _ _ hc) hne)]
  exact hc
 ·simp only at hl2
  rw [j6] at hl2
  split at hl2
  ·rename_i e
   subst e
   cases hl2
   refine ⟨b,k,hu,h2,h3,?_,h5⟩
   rw [hb]
   exact hbody.keep hkeep
  ·rename_i hne
   obtain ⟨b2,k2,q1,q2,q3,q4,q5⟩:=ho.ob l2 x hl2
   have hbb:b2≠b:=fun e=>by
    subst e
    rw [h2] at q2
    cases q2
    exact hne rfl
   exact ⟨b2,k2,q1,q2,q3,by rw [hk _ (ho.lt _ _ q2) hbb];exact q4.keep hkeep,q5⟩
 ·obtain ⟨b2,n,cap,sz,q1,q2,q3,q4,q5⟩:=ho.tk u2 hu2
  have hbb:b2≠b:=fun e=>by subst e;rw [h2] at q2;cases q2
  exact ⟨b2,n,cap,sz,q1,q2,q3,by rw [hk _ (ho.lt _ _ q2) hbb];exact q4,q5⟩
 ·exact Nat.lt_of_lt_of_le (ho.lt _ _ hb2) hsz
 ·exact Grow.frame h.fr (T:=fun k=>k=b) ⟨hos.1,hos.2.1,hos.2.2,hsz,fun k hk' hne=>hk k hk' hne,fun k hk'=>hk' ▸ h3 (by simpa [Nat.ble_eq] using hro)⟩
theorem jw5 {l:List V} {zs:List Int} (h:l.mapM int64? = some zs):l=zs.map (.int .i64):=by
 obtain ⟨h1,h2⟩:=jy h
 apply List.ext_getElem?
 intro j
 rcases Nat.lt_or_ge j l.length with hj | hj
 ·have hj':j<zs.length:=by omega
  have:=h2 j _ _ (List.getElem?_eq_getElem hj) (List.getElem?_eq_getElem hj')
  rw [List.getElem?_map,List.getElem?_eq_getElem hj',List.getElem?_eq_getElem hj]
  unfold int64? at this
  split at this
  ·rename_i n e;cases this;rw [e];rfl
  ·cases this
 ·rw [List.getElem?_eq_none hj,List.getElem?_eq_none (by simp;omega)]
theorem jzq {γ0:Nat→Option Place} {Iy:IMap} {f:FuncId} {args:List V} {ob ob':ZO} {tk tk':Nat→Bool} {ro ub ub':Nat} {r:V} (hl:jmb P f) (h:jqk ob tk ro ub args=some (r,ob',tk',ub')) :
 jh5 P E γ0 Iy f args ob tk ro ub [(r,ob',tk',ub')]:=by
 intro w0 w I0 I γ xs st hg0 hI0 hob htk hro hSh hfr hsz hrep
 subst hob htk hro
 have nothing:∀ {p cap},xs = #[.slice p 0 cap]→Calls P f xs w fun e w'=>∃ r∈[(V.tup [],st.ob,st.tk,ub)],WD E w0 I0 γ I st.ro r.1 r.2.1 r.2.2.1 r.2.2.2 e w':=by
  rintro p cap rfl
  refine (hl.2.1 p cap w).mono ?_
  rintro e w' ⟨rfl,rfl⟩
  exact ⟨_,List.mem_singleton.2 rfl,_,γ,I,rfl,fun st' h1 h2 h3=>hSh.congr h1 h2 h3,.tup _ _ rfl (fun j x v hx=>by simp at hx),SubG.refl _,SubI.refl _,hfr⟩
 unfold jqk at h
 split at h
 ·rename_i l u off n sz
  obtain ⟨cs,hcs,hq⟩:=bind_some h
  simp only [Option.ite_none_right_eq_some] at hq
  obtain ⟨⟨hr,hz1,hle,hbig⟩,hq⟩:=hq
  obtain ⟨zs,hzs,he⟩:=map_some hq
  simp only [Prod.mk.injEq] at he
  clear h hq
  obtain ⟨rfl,rfl,rfl,rfl⟩:=he
  subst hz1
  have hob:=jf hcs
  have hx1:xs.size=1:=hsz
  obtain ⟨x,rfl⟩:∃ x,xs = #[x]:=⟨xs[0],by
   apply Array.ext
   ·simp [hx1]
   ·intro i h1 h2
    have:i=0:=by simp at h2;omega
    subst this
    rfl⟩
  have hcell:=jw5 hzs
  have hlen:zs.length=n:=by
   have:=congrArg List.length hcell
   simp at this
   omega
  rcases Nat.eq_zero_or_pos n with h0 | h0
  ·subst h0
   have hz0:zs=[]:=List.length_eq_zero_iff.1 hlen
   subst hz0
   have hsame:upd st.ob l (some ⟨u,.cells (j7 cs off ((Yv []).map (.int .i64)))⟩)=st.ob:=by
    funext k
    rw [j6]
    split
    ·rename_i e;subst e;rw [hob];simp [j7,Yv]
    ·rfl
   rw [hsame]
   cases hrep 0 x _ rfl rfl with
   | pure _ _ h=>cases h
   | osl l u off n sz cap b k a hu ha hc hm=>exact nothing rfl
  ·cases hrep 0 x _ rfl rfl with
   | pure _ _ h=>cases h
   | osl l u off n sz cap b k a hu ha hc hm =>
    obtain ⟨rfl,hak⟩:=ha (by omega)
    obtain ⟨arr,e,hw,hsize,hcl,hels⟩:=jge hSh hob hu
    have hblt:b<w.heap.size:=(Array.getElem?_eq_some_iff.1 hw).1
    have hint:∀ j (hj:j<zs.length),arr[off+j]? = some (.int .i64 zs[j]):=fun j hj=>by
     have h1:off+j<arr.size:=by omega
     have h2:cs[off+j]? = some (.int .i64 zs[j]):=by
      have:=congrArg (fun l=>l[j]?) hcell
      simp only [List.getElem?_map,List.getElem?_eq_getElem hj,Option.map_some] at this
      rw [List.getElem?_take_of_lt (by omega),List.getElem?_drop] at this
      exact this
     have h3:=(hels (off+j) _ _ (Array.getElem?_eq_getElem h1) h2).2
     rw [Array.getElem?_eq_getElem h1]
     generalize arr[off+j]=y at h3
     cases h3 with
     | pure _ _ h=>cases h;rfl
    have hH:Holds (Value.int .i64) w b off zs.toArray:=fun j hj=>by
     have hj':j<zs.length:=by simpa using hj
     refine ⟨?_,by simp [World.frozen?,hw]⟩
     simp only [World.cell?,hw]
     simp only [Option.isSome_none,Bool.false_eq_true,if_false]
     rw [hint j hj']
     simp [hj']
    have hmax:zs.length<4611686018427387904:=by omega
    have hcall:=hl.2.2 b off cap zs w hH hblt hmax
    rw [hlen] at hcall
    refine hcall.mono ?_
    rintro e' w' ⟨rfl,m,os,rfl⟩
    rw [jkp]
    have hsl:(Yv zs).length=zs.length:=(XW zs).length_eq
    refine ⟨_,List.mem_singleton.2 rfl,_,γ,I,rfl,fun st' h1 h2 h3=>?_,.tup _ _ rfl (fun j x v hx=>by simp at hx),SubG.refl _,SubI.refl _,hfr⟩
    have hheap:∀ j,j<w.heap.size→(grow (putRow (Value.int .i64) (Go.Sort.ahead w m) b off (Yv zs).toArray) os).heap[j]? = if j=b then some (.cells (putCells (Value.int .i64) off (Yv zs).toArray arr) e (0,0)) else w.heap[j]?:=fun j hj=>by
     simp only [grow,putRow,mapBlock,Go.Sort.ahead]
     rw [Array.getElem?_append_left (by simpa using hj),Array.getElem?_modify]
     by_cases hjb:b=j
     ·subst hjb
      simp [hw,onCells]
     ·have:¬ j=b:=fun e=>hjb e.symm
      simp [hjb,this]
    refine Sh.congr (st:={ st with ob:=upd st.ob l (some ⟨u,.cells (j7 cs off ((Yv zs).map (.int .i64)))⟩) }) (hSh.turnG hob hu hr (o':=.cells (putCells (Value.int .i64) off (Yv zs).toArray arr) e (0,0)) ⟨rfl,rfl,rfl⟩ (by simp [Go.Sort.ahead]) (fun j hj hne=>by rw [hheap j hj,if_neg hne]) (by rw [hheap b hblt,if_pos rfl]) ?_ (fun v es h=>by cases h)) h1 h2 h3
    have hspl:(j7 cs off ((Yv zs).map (.int .i64))).length=cs.length:=by
     simp [j7]
     omega
    refine ⟨_,e,rfl,by simpa [putCells] using hsize,by omega,fun j y v hy hv=>?_⟩
    simp only [putCells,Array.getElem?_mapIdx] at hy
    have hszz:(Yv zs).toArray.size=zs.length:=by simpa using hsl
    obtain ⟨y0,hy0,hy1⟩:=map_some hy
    by_cases hin:off≤j∧j<off+zs.length
    ·rw [if_pos (by rw [hszz];exact hin)] at hy1
     have hjz:j - off<(Yv zs).length:=by omega
     have hv':v = .int .i64 (Yv zs)[j - off]:=by
      rw [j7,List.append_assoc,List.getElem?_append_right (by simp;omega),List.getElem?_append_left (by simp;omega)] at hv
      simp only [List.length_take,List.getElem?_map] at hv
      rw [show j - min off cs.length=j - off by omega,List.getElem?_eq_getElem hjz] at hv
      simpa using hv.symm
     subst hv' hy1
     refine ⟨rfl,?_⟩
     have:(Yv zs).toArray[j - off]! = (Yv zs)[j - off]:=by simp [hjz]
     rw [this]
     exact .pure _ _ (.int _ _)
    ·rw [if_neg (by rw [hszz];exact hin)] at hy1
     subst hy1
     refine hels j y0 v hy0 ?_
     rw [← hv,j7]
     rcases Nat.lt_or_ge j off with hj | hj
     ·rw [List.append_assoc,List.getElem?_append_left (by simp;omega),List.getElem?_take_of_lt hj]
     ·rw [List.getElem?_append_right (by simp;omega),List.getElem?_drop]
      congr 1
      simp
      omega
 ·rename_i tk2 nl
  cases h
  have hx1:xs.size=1:=hsz
  obtain ⟨x,rfl⟩:∃ x,xs = #[x]:=⟨xs[0],by
   apply Array.ext
   ·simp [hx1]
   ·intro i h1 h2
    have:i=0:=by simp at h2;omega
    subst this
    rfl⟩
  cases hrep 0 x _ rfl rfl with
  | pure _ _ h=>cases h <;> exact nothing rfl
  | tsl u b n cap sz cs xs hu hlen hc hm hi hl hr=>exact nothing rfl
 ·cases h
end
end Go.Pv
namespace Go.Pv
open Go
theorem jby {n m:Nat} (h:n≤m):∀ c:C,c.dstOk n=true→c.dstOk m=true:=by
 have one:∀ ops:List AOpr,(ops.all fun o=>match o.dst with | some d=>Nat.blt d n | none=>true)=true→(ops.all fun o=>match o.dst with | some d=>Nat.blt d m | none=>true)=true:=by
  intro ops hd
  refine List.all_eq_true.2 fun o ho=>?_
  have:=List.all_eq_true.1 hd o ho
  split
  ·rename_i d hdd
   simp only [hdd,Nat.blt_eq] at this
   simp only [Nat.blt_eq]
   omega
  ·rfl
 intro c
 induction c with
 | region ops=>exact one ops
 | draw ops f=>exact one ops
 | pin o fs=>exact one (o::fs)
 | seq a b iha ihb=>simp only [C.dstOk,Bool.and_eq_true];exact fun ⟨h1,h2⟩=>⟨iha h1,ihb h2⟩
 | cond q a b iha ihb=>simp only [C.dstOk,Bool.and_eq_true];exact fun ⟨h1,h2⟩=>⟨iha h1,ihb h2⟩
 | block i a ih=>exact ih
 | loop a ih=>exact ih
 | rangeFunc f ps a b iha ihb =>
  simp only [C.dstOk,Bool.and_eq_true]
  rintro ⟨⟨h1,h2⟩,h3⟩
  refine ⟨⟨List.all_eq_true.2 fun p hp=>?_,iha h2⟩,ihb h3⟩
  have:=List.all_eq_true.1 h1 p hp
  simp only [Nat.blt_eq] at this ⊢
  omega
 | _=>exact fun _=>rfl
section
variable {P:Program} {E:Env}
theorem jlp {γ:Nat→Option Place} {I:IMap} {xs:Array Value} {args:List V} {k:Nat} (hs:xs.size=args.length) (h:∀ (j:Nat) (x:Value) (v:V),xs[j]? = some x→args[j]? = some v→Rep γ I x v) (t:Nat) :
 Rep γ I ((xs++Array.replicate k undef).getD t undef) (args.getD t jx):=by
 by_cases ht:t<xs.size
 ·have h1:(xs++Array.replicate k undef).getD t undef=xs[t]:=by
   simp [ht,Array.getElem?_append_left]
  have h2:args.getD t jx=args[t]'(by omega):=by
   have:t<args.length:=by omega
   simp [this]
  rw [h1,h2]
  exact h t _ _ (Array.getElem?_eq_getElem ht) (List.getElem?_eq_getElem (by omega))
 ·have h1:(xs++Array.replicate k undef).getD t undef=undef:=by
   simp only [Array.getD_eq_getD_getElem?]
   rw [Array.getElem?_append_right (by omega)]
   by_cases hk:t - xs.size<k <;> simp [hk]
  have h2:args.getD t jx=jx:=by
   have:args.length≤t:=by omega
   simp [this]
  rw [h1,h2]
  exact jir
theorem jjj {w0:World} {I0 I:IMap} {γ:Nat→Option Place} {fn:Func} {tmps:Array Value} {Rp:Ending→World→Prop} {st:St}:∀ (df:List (Nat × Nat)) (ds:List Deferred) (ob:ZO) (w:World),
 Sh E w0 I0 γ I { st with ob:=ob } w→DfOk γ df ds→(∀ x∈df,ob x.1=some ⟨x.2,.dfr⟩∧Nat.ble st.ro x.2=true)→(df.map (·.1)).Nodup →
 (∀ w',Sh E w0 I0 γ I { st with ob:=fun k=>if df.any (fun x=>Nat.beq x.1 k) then none else ob k } w'→LeavesIn (FW none) 0 P fn tmps Rp [] .returning w')→LeavesInM (FW none) 0 P fn tmps Rp ds .returning w
 | [],[],ob,w,hSh,_,_,_,hK=>hK w (hSh.congr (funext fun k=>by simp) rfl rfl)
 | x::df,d::ds,ob,w,hSh,hdf,hob,hnd,hK=>by
  obtain ⟨⟨b,k,rfl,hu⟩,hdf'⟩:=hdf
  obtain ⟨h1,h2⟩:=hob x (List.mem_cons_self ..)
  have hblk:w.heap[b]? = some (.deferred (some [])):=jge hSh h1 hu
  have htk:=run_takeDeferred (P:=P) hblk
  simp only [List.map_cons,List.nodup_cons] at hnd
  have hSh2:=hSh.turn (ob':=fun k=>if Nat.beq x.1 k then none else ob k) (o':=.deferred none) h1 hu h2 (fun l2 y hy=>by
   split at hy
   ·cases hy
   ·rename_i hne;exact .inl ⟨fun e=>hne (by rw [e];exact Nat.beq_refl _),hy⟩)
  refine ⟨(fun h=>by cases h),.inl ⟨b,_,rfl,htk,?_⟩⟩
  refine jjj df ds (fun k=>if Nat.beq x.1 k then none else ob k) _ (hSh2.congr rfl rfl rfl) hdf' (fun y hy=>?_) hnd.2 (fun w' h=>?_)
  ·obtain ⟨q1,q2⟩:=hob y (List.mem_cons_of_mem _ hy)
   refine ⟨?_,q2⟩
   have hne:¬ Nat.beq x.1 y.1=true:=fun e=>hnd.1 (by rw [Nat.eq_of_beq_eq_true e];exact List.mem_map.2 ⟨y,hy,rfl⟩)
   simp only [hne,Bool.false_eq_true,if_false]
   exact q1
  ·refine hK w' (h.congr (funext fun k=>?_) rfl rfl)
   simp only [List.any_cons,Bool.or_eq_true]
   have key:∀ p q:Bool,(if p=true∨q=true then none else ob k)=if q=true then none else if p=true then none else ob k:=by
    intro p q
    cases p <;> cases q <;> rfl
   exact key _ _
 | [],_::_,_,_,_,h,_,_,_=>h.elim
 | _::_,[],_,_,_,h,_,_,_=>h.elim
theorem jwa {w0 w:World} {I0 I:IMap} {γ:Nat→Option Place} {nt:Nat} {fn:Func} {st:St} {a:Act} {Rp:Ending→World→Prop} (hR:R E w0 I0 nt γ I st a w) (hd:jyw st=true)
 (hK:∀ w',R E w0 I0 nt γ I st.noDf { tmps:=a.tmps,defers:=[] } w'→∃ v,(results fn a.tmps).run P w' = .ok v w'∧Rp (.returned v) w'):LeavesInM (FW none) 0 P fn a.tmps Rp a.defers .returning w:=by
 unfold jyw at hd
 simp only [Bool.and_eq_true] at hd
 refine jjj (st:=st) st.df a.defers st.ob w (hR.sh.congr rfl rfl rfl) hR.df (fun x hx=>?_) (QA hd.2) (fun w' h=>?_)
 ·have:=List.all_eq_true.1 hd.1 x hx
  split at this
  ·rename_i u hu
   simp only [Bool.and_eq_true] at this
   have e:=Nat.eq_of_beq_eq_true this.1
   subst e
   exact ⟨hu,this.2⟩
  ·cases this
 ·have hn:st.noDf.tm=st.tm∧st.noDf.tk=st.tk∧st.noDf.ro=st.ro∧st.noDf.df=[]∧st.noDf.ob=fun k=>if st.df.any (fun x=>Nat.beq x.1 k) then none else st.ob k:=by
   unfold St.noDf
   split
   ·rename_i e;exact ⟨rfl,rfl,rfl,e,by rw [e];funext k;simp⟩
   ·exact ⟨rfl,rfl,rfl,rfl,rfl⟩
  exact hK w' ⟨hR.sz,by rw [hn.2.2.2.1];trivial,by rw [hn.1];exact hR.tm,h.congr hn.2.2.2.2 hn.2.1 hn.2.2.1⟩
theorem jcm {fn:Func} {Rp:Ending→World→Prop} {e:Ex} {a:Act} {w:World} (h:e = .nrm∨e = .ret) (hl:LeavesInM (FW none) 0 P fn a.tmps Rp a.defers .returning w):bodyPostM (FW none) 0 P fn Rp (j8r e) a w:=by
 rcases h with rfl | rfl <;> exact hl
theorem jv6 {α β:Type} {f:α→Option β} {l:List α} {L:List β} (h:l.mapM f=some L) {z:α} (hz:z∈l):∃ r∈L,f z=some r:=by
 obtain ⟨h1,h2⟩:=jy h
 obtain ⟨i,hi,rfl⟩:=List.getElem_of_mem hz
 have hi':i<L.length:=by omega
 exact ⟨L[i],List.getElem_mem hi',h2 i _ _ (List.getElem?_eq_getElem hi) (List.getElem?_eq_getElem hi')⟩
theorem jgw (hm:P.follows .mixedOrders=true) (hE:EnvOk P E):∀ n,jke P E (jQ E n)
 | 0=>fun γ0 Iy y hy=>⟨fun f args r h=>(by cases h),fun f args ob tk b u r h=>(by cases h),fun f args ob tk ro base ub l h=>(by cases h),hy⟩
 | n+1=>by
  have ih:=jgw hm hE n
  intro γ0 Iy y hy
  -- the results of a function that shares nothing,and of one that only looks
  have alone:∀ {fn:Func} {af:AF} {r:V} {w0 w:World} {I0 I:IMap} {γ:Nat→Option Place} {nt:Nat} {st:St} {a:Act} {e:Ex} {Rp:Ending→World→Prop},fn.results.toList.mapM (YX P)=some af.res→R E w0 I0 nt γ I st a w→ja3 af.res (e,st)=some r →
   (∀ x τ I' w',w0.grownBy w' none→(∀ b o x,I b o=some x→I' b o=some x)→jkd I' w'→(∀ b o,b<w0.heap.size→I' b o=I0 b o)→jt4 τ I' x r→jkb w0.heap.size τ I' w' r→Rp (.returned x) w') →
   bodyPostM (FW none) 0 P fn Rp (j8r e) a w:=by
   intro fn af r w0 w I0 I γ nt st a e Rp hres hR he hK
   have hne:e = .nrm∨e = .ret:=by cases e <;> first | exact .inl rfl | exact .inr rfl | cases he
   have he':(if jyw st then (af.res.mapM (jm st.noDf)).bind (Yh st.noDf) else none)=some r:=by rcases hne with rfl | rfl <;> exact he
   simp only [Option.ite_none_right_eq_some] at he'
   obtain ⟨hd,he'⟩:=he'
   refine jcm hne (jwa hR hd fun w' hR'=>?_)
   obtain ⟨vs,hvs,hout⟩:=bind_some he'
   obtain ⟨ys,k1,k2,k3⟩:=jf2 hR' hres hvs
   obtain ⟨τ,I2,q1,q2,q3,q4,q5⟩:=j4n hR' k1 k3 hout
   exact ⟨_,k2,hK _ τ I2 _ hR'.fr q1 q2 (fun b o hb=>(q3 b o hb).trans (hR'.old b o hb)) q4 q5⟩
  refine ⟨fun f args r h=>?_,fun f args ob tk base ub r h=>?_,fun f args ob tk ro base ub L h=>?_,hy⟩
  ·simp only [jQ] at h
   obtain ⟨af,haf,h⟩:=bind_some h
   obtain ⟨m,fn,c,hfn,hb,hcomp,hres,hname,hdst⟩:=hE.fc f af haf
   refine ⟨⟨fn,c,hfn,hb,hname⟩,fun w I xs himm hgl hsz hrep=>?_⟩
   obtain ⟨l,hx,hall⟩:=ji2 h
   refine je7 (callsIn_of_wp_marks (F:=FW none) (n:=0) hfn hb trivial ?_)
   have hnt:fn.ntmps≤(xs++Array.replicate (fn.ntmps - xs.size) undef).size:=by simp;omega
   have hR:R E w I (xs++Array.replicate (fn.ntmps - xs.size) undef).size (fun _=>none) I (QO args) { tmps:=xs++Array.replicate (fn.ntmps - xs.size) undef,defers:=[] } w :=
    ⟨rfl,trivial,fun t=>jlp hsz (fun j x v hx hv=>.pure _ _ (hrep j x v hx hv)) t,⟨himm,hgl,⟨fun _=>none,⟨fun l o h=>(by cases h),fun u h=>(by cases h),fun b o h=>(by cases h)⟩⟩,⟨rfl,rfl,rfl,Nat.le_refl _,fun _ _ _=>rfl⟩,fun _ _ _=>rfl⟩⟩
   refine jl0 hm ih n (y:=noY) (γ0:=fun _=>none) (Iy:=I) jja c af.body m false none (.inr rfl) hcomp (jby hnt _ hdst) w I _ _ l _ _ _ _ (SubG.refl _) (SubI.refl _) hx hR (fun _ _=>rfl) (fun y hy=>?_)
   obtain ⟨e,s⟩:=y
   intro γ' I' a' w' hR' hf' hg hI
   refine alone hres hR' (hall _ hy) (fun x τ I2 w2 h2 h3 h4 h5 h6 h7=>?_)
   exact ⟨x,τ,I2,rfl,h2,fun b o x h=>h3 b o x (hI b o x h),h4,h5,h6,h7⟩
  ·simp only [jQ] at h
   by_cases hfz:E.fz f
   ·simp only [hfz,if_true] at h
    obtain ⟨args',ha,h⟩:=bind_some h
    obtain ⟨r',h1,h2⟩:=bind_some h
    simp only [Option.ite_none_right_eq_some,Option.some.injEq] at h2
    obtain ⟨h2,rfl⟩:=h2
    have hd:=(ih γ0 Iy noY jja).d f args' r' h1
    exact ⟨hd.1,j8m hd.2 ha h2⟩
   simp only [hfz,Bool.false_eq_true,if_false] at h
   obtain ⟨af,haf,h⟩:=bind_some h
   obtain ⟨m,fn,c,hfn,hb,hcomp,hres,hname,hdst⟩:=hE.fs f af haf
   refine ⟨⟨fn,c,hfn,hb,hname⟩,fun w0 w I0 I γ xs st hob hSh hfr hsz hrep=>?_⟩
   obtain ⟨l,hx,hall⟩:=ji2 h
   refine je7 (callsIn_of_wp_marks (F:=FW none) (n:=0) hfn hb trivial ?_)
   have hnt:fn.ntmps≤(xs++Array.replicate (fn.ntmps - xs.size) undef).size:=by simp;omega
   have hR:R E w I (xs++Array.replicate (fn.ntmps - xs.size) undef).size γ I (Jj args ob (fun _=>false) ub base ub) { tmps:=xs++Array.replicate (fn.ntmps - xs.size) undef,defers:=[] } w:=by
    obtain ⟨Ω,ho⟩:=hSh.own
    refine ⟨rfl,trivial,fun t=>jlp hsz hrep t,⟨hSh.imm,hSh.gl,⟨Ω,⟨fun l o hl=>?_,fun u h=>(by cases h),ho.lt⟩⟩,⟨rfl,rfl,rfl,Nat.le_refl _,fun _ _ _=>rfl⟩,fun _ _ _=>rfl⟩⟩
    have hl':st.ob l=some o:=hob l o hl
    obtain ⟨b,k,h1,h2,h3,h4,h5⟩:=ho.ob l o hl'
    refine ⟨b,k,h1,h2,fun hro=>?_,h4.keep (fun l2 u2 ver' es' mb mk _ hl2=>.inl ⟨hob _ _ hl2,fun m c hm=>hm⟩),h5⟩
    rw [hfr _ hro] at h1
    cases h1
   refine jl0 hm ih n (y:=noY) (γ0:=γ) (Iy:=I) jja c af.body m true none (.inr rfl) hcomp (jby hnt _ hdst) w I _ _ l _ _ _ _ (SubG.refl _) (SubI.refl _) hx hR hfr (fun y hy=>?_)
   obtain ⟨e,s⟩:=y
   intro γ' I' a' w' hR' hf' hg hI
   refine alone hres hR' (hall _ hy) (fun x τ I2 w2 h2 h3 h4 h5 h6 h7=>?_)
   exact ⟨x,τ,I2,rfl,h2,fun b o x h=>h3 b o x (hI b o x h),h4,h5,h6,h7⟩
  ·simp only [jQ] at h
   by_cases htw:E.tw f
   ·simp only [htw,if_true] at h
    obtain ⟨args',ha,h⟩:=bind_some h
    obtain ⟨r',h1,h2⟩:=bind_some h
    have hd:=(ih γ0 Iy noY jja).d f args' r' h1
    obtain ⟨⟨_,_,_,_⟩,h3,rfl⟩:=map_some h2
    exact ⟨hd.1,jzl hd.2 ha h3⟩
   simp only [htw,Bool.false_eq_true,if_false] at h
   by_cases hst:E.srt f
   ·simp only [hst,if_true] at h
    obtain ⟨⟨_,_,_,_⟩,h3,rfl⟩:=map_some h
    exact ⟨(hE.srt f hst).1,jzq (hE.srt f hst) h3⟩
   simp only [hst,Bool.false_eq_true,if_false] at h
   obtain ⟨af,haf,h⟩:=bind_some h
   obtain ⟨m,fn,c,hfn,hb,hcomp,hres,hname,hdst⟩:=hE.fs f af haf
   refine ⟨⟨fn,c,hfn,hb,hname⟩,fun w0 w I0 I γ xs st hg0 hI0 hob htk hro hSh hfr hsz hrep=>?_⟩
   obtain ⟨l0,hx,h⟩:=bind_some h
   have h:l0.mapM (endS af.res)=some L:=by
    split at h
    ·exact h
    ·split at h
     ·obtain ⟨r,h1,rfl⟩:=map_some h
      simp only [List.mapM_cons,h1,List.mapM_nil]
      rfl
     ·cases h
   refine je7 (callsIn_of_wp_marks (F:=FW none) (n:=0) hfn hb trivial ?_)
   have hnt:fn.ntmps≤(xs++Array.replicate (fn.ntmps - xs.size) undef).size:=by simp;omega
   have hR:R E w0 I0 (xs++Array.replicate (fn.ntmps - xs.size) undef).size γ I (Jj args ob tk ro base ub) { tmps:=xs++Array.replicate (fn.ntmps - xs.size) undef,defers:=[] } w :=
    ⟨rfl,trivial,fun t=>jlp hsz hrep t,hSh.congr hob.symm htk.symm hro.symm⟩
   refine jl0 hm ih n (y:=y) hy c af.body m true none (.inr rfl) hcomp (jby hnt _ hdst) w0 I0 _ _ l0 _ _ _ _ hg0 hI0 hx hR hfr (fun z hz=>?_)
   have hro':=jhz _ hx _ hz
   obtain ⟨⟨r,ob',tk',ub'⟩,hrL,h⟩:=jv6 h hz
   obtain ⟨e,s⟩:=z
   intro γ' I' a' w' hR' hf' hg hI
   have hne:e = .nrm∨e = .ret:=by cases e <;> first | exact .inl rfl | exact .inr rfl | cases h
   have h':(if s.df.isEmpty then (af.res.mapM (jm s)).map fun l=>(match l with | [v]=>v | l=>.tup l,s.ob,s.tk,s.nx) else none)=some (r,ob',tk',ub'):=by rcases hne with rfl | rfl <;> exact h
   simp only [Option.ite_none_right_eq_some] at h'
   obtain ⟨hde,h'⟩:=h'
   have hde:s.df=[]:=List.isEmpty_iff.1 hde
   have hdn:a'.defers=[]:=by
    have:=hR'.df
    simp only [hde] at this
    cases hds:a'.defers with
    | nil=>rfl
    | cons d ds=>rw [hds] at this;exact this.elim
   refine jcm hne ?_
   rw [hdn]
   obtain ⟨vs,hvs,he⟩:=map_some h'
   obtain ⟨ys,k1,k2,k3⟩:=jf2 hR' hres hvs
   simp only [Prod.mk.injEq] at he
   obtain ⟨he,rfl,rfl,rfl⟩:=he
   refine ⟨_,k2,_,hrL,_,γ',I',rfl,fun st' h1 h2 h3=>hR'.sh.congr h1 h2 (h3.trans hro'.symm),?_,hg,hI,hf'⟩
   match ys,vs,k1,k3,he with
   | [],[],_,_,rfl=>exact .tup _ _ rfl (fun j y u hy=>by simp at hy)
   | [y],[v],_,k3,rfl=>exact k3 0 y v rfl rfl
   | y::y'::ys,v::v'::vs,e,k3,rfl=>exact .tup _ _ (by simpa using e) (fun j z u hz hu=>k3 j z u (by simpa using hz) hu)
theorem Ev.sound (hm:P.follows .mixedOrders=true) (hE:EnvOk P E) {f:FuncId} {args:List V} {r:V} (h:Ev E f args r):jkc P E f args r:=by
 obtain ⟨n,h⟩:=h
 exact ((jgw hm hE n (fun _=>none) (fun _ _=>none) noY jja).d f args r h).2
end
def EvO (E:Env) (f:FuncId) (args:List V) (ob:ZO) (tk:Nat→Bool) (base ub:Nat) (r:V):Prop:=∃ n,(jQ E n noY).o f args ob tk base ub=some r
def EvS (E:Env) (y:Nat→Y) (f:FuncId) (args:List V) (ob:ZO) (tk:Nat→Bool) (ro base ub:Nat) (r:V × (ZO) × (Nat→Bool) × Nat):Prop:=∃ n,(jQ E n (y n)).s f args ob tk ro base ub=some [r]
def EvSL (E:Env) (y:Nat→Y) (f:FuncId) (args:List V) (ob:ZO) (tk:Nat→Bool) (ro base ub:Nat) (Q:V × (ZO) × (Nat→Bool) × Nat→Prop):Prop:=∃ n l,(jQ E n (y n)).s f args ob tk ro base ub=some l∧l≠[]∧∀ r∈l,Q r
theorem EvS.list {E:Env} {y:Nat→Y} {f:FuncId} {args:List V} {ob:ZO} {tk:Nat→Bool} {ro base ub:Nat} {Q:V × (ZO) × (Nat→Bool) × Nat→Prop} (h:∃ r,EvS E y f args ob tk ro base ub r∧Q r):EvSL E y f args ob tk ro base ub Q:=by
 obtain ⟨r,⟨n,h1⟩,h2⟩:=h
 exact ⟨n,[r],h1,by simp,fun x hx=>by rw [List.mem_singleton] at hx;exact hx ▸ h2⟩
structure YF where
 y:Nat→Y
 mono:∀ {n m:Nat},n≤m→YLe (y n) (y m)
def noYF:YF:=⟨fun _=>noY,fun _=>YLe.refl _⟩
def EvY (Yf:YF) (l u:Nat) (xs:List V) (ob:ZO) (tk:Nat→Bool) (ro ub:Nat) (r:V × (ZO) × (Nat→Bool) × Nat):Prop:=∃ n,Yf.y n l u xs ob tk ro ub=some r
def WY (E:Env) (Yf:YF) (c:C) (st:St) (Q:Ex→St→Prop):Prop:=∃ n l,jc E (jQ E n) (Yf.y n) n c st=some l∧l≠[]∧∀ x∈l,Q x.1 x.2
def QR (E:Env) (f:FuncId) (xs:List V) (st:St) (dst:Option Nat) (ub:Nat) (K:St→Nat→Prop):Prop :=
 xs.all V.pureTop=true∧∃ v,Ev E f xs v∧∃ δ,Xv ub v=some δ∧K (st.app dst δ) (ub+64)
def j9 (E:Env) (Yf:YF) (o:AOpr) (st:St) (ub:Nat) (K:St→Nat→Prop):Prop :=
 match wanted o st.tm with
 | none=>False
 | some false=>K { st with tm:=put st.tm o.dst jx } ub
 | some true=>match jg (eval E st.tm) o.op with
  | some (l,u,xs)=>∃ r,EvY Yf l u xs st.ob st.tk st.ro ub r∧K { st with tm:=put st.tm o.dst r.1,ob:=r.2.1,tk:=r.2.2.1 } r.2.2.2
  | none=>match jB E o.nm (eval E st.tm) o.op with
   | some (f,xs)=>(E.sh o.nm f=true∧EvSL E Yf.y f xs st.ob st.tk st.ro ((st.fb+o.dst.getD 0+1) * 1024) ub fun r=>K { st with tm:=put st.tm o.dst r.1,ob:=r.2.1,tk:=r.2.2.1 } r.2.2.2) ∨
    (E.sh o.nm f=false∧∃ v,EvO E f xs st.ob st.tk ((st.fb+o.dst.getD 0+1) * 1024) ub v∧∃ δ,Xv ub v=some δ∧K (st.app o.dst δ) (ub+64))
   | none=>match o.op with
    | .call f xs=>QR E f (xs.map fun x=>(eval E st.tm x).strip) st o.dst ub K
    | .callV q xs=>∃ f first captured,eval E st.tm q = .fn (.func f) first captured∧QR E f ((first++xs.map (eval E st.tm)++captured).map V.strip) st o.dst ub K
    | .nextMap x=>∃ l,nextL st.ob st.ro (eval E st.tm x)=some l∧∀ δ∈l,K (st.app o.dst δ) (ub+64)
    | op=>∃ δ,aop (fun _ _=>none) (eval E st.tm) st.ob st.tk st.ro (o.name st.fb ub) ub op=some δ∧K (st.app o.dst δ) (ub+64)
def WZ (E:Env) (Yf:YF):List AOpr→St→Nat→(St→Prop)→Prop
 | [],st,ub,K=>K { st with nx:=ub }
 | o::r,st,ub,K=>j9 E Yf o st ub fun st ub=>WZ E Yf r st ub K
def jJ (E:Env):List AOpr→St→Nat→(List FP→St→Prop)→Prop
 | [],st,ub,K=>K [] { st with nx:=ub }
 | o::r,st,ub,K =>
  match wanted o st.tm with
  | none=>False
  | some false=>jJ E r (st.app o.dst { v:=jx }) (ub+64) fun fs s=>K ({}::fs) s
  | some true=>match jB E o.nm (eval E st.tm) o.op with
   | some (f,xs)=>(E.sh o.nm f=false∧∃ v,EvO E f xs st.ob st.tk ((st.fb+o.dst.getD 0+1) * 1024) (ub+64 * (r.length+1)) v∧∃ δ,Xv ub v=some δ ∧
    jJ E r (st.app o.dst δ) (ub+64) fun fs s=>K ({ wt:=δ.wt,all:=true,seen:=fun l=>(st.ob l).isSome }::fs) s) ∨
    (E.sh o.nm f=true∧E.tw f=true∧∃ a' v,xs.mapM (W8 st.ob)=some a'∧Ev E f a' v∧∃ δ,QM (o.name st.fb ub) ub v=some δ ∧
    jJ E r (st.app o.dst δ) (ub+64) fun fs s=>K ({ wo:=δ.wo,all:=true,seen:=fun l=>(st.ob l).isSome,nw:=true }::fs) s)
   | none=>o.op.far=false∧match o.op with
    | .call f xs=>(xs.all fun x=>(eval E st.tm x).strip.pureTop)=true∧∃ v,Ev E f (xs.map fun x=>(eval E st.tm x).strip) v∧∃ δ,Xv ub v=some δ∧jJ E r (st.app o.dst δ) (ub+64) fun fs s=>K (jch (eval E st.tm) o.op δ::fs) s
    | .callV q xs=>∃ f first captured,eval E st.tm q = .fn (.func f) first captured∧((first++xs.map (eval E st.tm)++captured).map V.strip).all V.pureTop=true∧∃ v,Ev E f ((first++xs.map (eval E st.tm)++captured).map V.strip) v∧∃ δ,Xv ub v=some δ ∧
     jJ E r (st.app o.dst δ) (ub+64) fun fs s=>K (jch (eval E st.tm) o.op δ::fs) s
    | op=>∃ δ,aop (fun _ _=>none) (eval E st.tm) st.ob st.tk st.ro (o.name st.fb ub) ub op=some δ∧jJ E r (st.app o.dst δ) (ub+64) fun fs s=>K (jch (eval E st.tm) o.op δ::fs) s
def YG (W:St→(Ex→St→Prop)→Prop):Nat→St→(Ex→St→Prop)→Prop
 | 0,_,_=>False
 | n+1,st,Q=>W st fun e s=>match e with
  | .nrm=>YG W n s Q
  | e=>Q e s
def wpC (E:Env) (Yf:YF):C→St→(Ex→St→Prop)→Prop
 | .skip,st,Q=>Q .nrm st
 | .region ops,st,Q=>WZ E Yf ops st st.nx fun s=>Q .nrm s
 | .draw ops free,st,Q=>jJ E ops st st.nx fun fs s=>XI free fs=true∧jee fs=true∧Q .nrm s
 | .pin o fs,st,Q=>j9 E Yf o st st.nx fun s ub=>jJ E fs s ub fun _ s'=>jcr fs st s'=true∧Q .nrm s'
 | .seq a b,st,Q=>wpC E Yf a st fun e s=>match e with
  | .nrm=>wpC E Yf b s Q
  | e=>Q e s
 | .cond c a b,st,Q=>∃ t,eval E st.tm c = .bool t∧(t=true→wpC E Yf a st Q)∧(t=false→wpC E Yf b st Q)
 | .block id a,st,Q=>wpC E Yf a st fun e s=>match e with
  | .exit i=>if i=id then Q .nrm s else Q (.exit i) s
  | e=>Q e s
 | .loop a,st,Q=>∃ N,YG (wpC E Yf a) N st Q
 | .exit id,st,Q=>Q (.exit id) st
 | .ret,st,Q=>Q .ret st
 | .rangeFunc f ps asg bd,st,Q=>WY E Yf (.rangeFunc f ps asg bd) st Q
 | .stuck,_,_=>False
theorem ja4 (E:Env) (n:Nat) (y:Y):(jQ E n y).d=(jQ E n noY).d:=by cases n <;> rfl
theorem jj4 (E:Env) (n:Nat) (y:Y):(jQ E n y).o=(jQ E n noY).o:=by cases n <;> rfl
theorem jtw (E:Env) (n:Nat) (y:Y):(jQ E n y).y=y:=by cases n <;> rfl
section
variable {E:Env} {Yf:YF}
theorem jfl {α:Type} {p:α→Prop} {l m:List α} (h1:∀ x∈l,p x) (h2:∀ x∈m,p x):∀ x∈l++m,p x:=fun x hx=>(List.mem_append.1 hx).elim (h1 x) (h2 x)
theorem Wz {α β:Type} {f:Nat→α→Option (List β)} (hmono:∀ n m,n≤m→∀ a,le (f n a) (f m a)) {Q:β→Prop}:∀ (l:List α),l≠[]→(∀ a∈l,∃ n r,f n a=some r∧r≠[]∧∀ x∈r,Q x) →
 ∃ n r,(∀ m,n≤m→Qa (f m) l=some r)∧r≠[]∧∀ x∈r,Q x
 | [],h,_=>absurd rfl h
 | [x],_,h=>by
  obtain ⟨n,r,h1,h2,h3⟩:=h x (List.mem_singleton.2 rfl)
  exact ⟨n,r,fun m hm=>hmono n m hm x r h1,h2,h3⟩
 | x::y::l,_,h=>by
  obtain ⟨n,r,h1,h2,h3⟩:=h x (List.mem_cons_self ..)
  obtain ⟨n',r',h1',h2',h3'⟩:=Wz hmono (y::l) (by simp) (fun a ha=>h a (List.mem_cons_of_mem _ ha))
  refine ⟨max n n',r++r',fun m hm=>?_,by simp [h2],jfl h3 h3'⟩
  simp only [Qa]
  rw [hmono n m (by omega) x r h1,h1' m (by omega)]
  rfl
abbrev cs (E:Env) (n:Nat):Y→Callers:=jQ E n
theorem Jq (n m:Nat) (h:n≤m):FLe (cs E n) (cs E m):=JT n m h
theorem jqh {o:AOpr} {st:St} {ub:Nat} {K:St→Nat→Prop} (h:j9 E Yf o st ub K):∃ n l,Q3 E (cs E n (Yf.y n)) o st ub=some l∧l≠[]∧∀ x∈l,K x.1 x.2:=by
 have one:∀ {s:St} {u:Nat},K s u→∀ x∈[(s,u)],K x.1 x.2:=fun h x hx=>by rw [List.mem_singleton] at hx;subst hx;exact h
 unfold j9 at h
 unfold Q3
 cases hw:wanted o st.tm with
 | none=>simp only [hw] at h
 | some b =>
  cases b with
  | false =>
   simp only [hw] at h
   exact ⟨0,_,rfl,List.cons_ne_nil _ _,one h⟩
  | true =>
   simp only [hw] at h
   cases hy:jg (eval E st.tm) o.op with
   | some x =>
    obtain ⟨l,u,xs⟩:=x
    simp only [hy] at h
    obtain ⟨r,⟨n,hr⟩,hK⟩:=h
    exact ⟨n,[({ st with tm:=put st.tm o.dst r.1,ob:=r.2.1,tk:=r.2.2.1 },r.2.2.2)],by simp only [cs,jtw,hr,Option.map_some],List.cons_ne_nil _ _,one hK⟩
   | none =>
   simp only [hy] at h ⊢
   cases hsh:jB E o.nm (eval E st.tm) o.op with
   | some fx =>
    obtain ⟨f,xs⟩:=fx
    simp only [hsh] at h
    rcases h with ⟨h1,n,l,hr,hne,hK⟩ | ⟨h1,v,⟨n,hv⟩,δ,hδ,hK⟩
    ·refine ⟨n,l.map fun x=>({ st with tm:=put st.tm o.dst x.1,ob:=x.2.1,tk:=x.2.2.1 },x.2.2.2),?_,by simpa using hne,fun x hx=>?_⟩
     ·simp only [h1,if_true,cs,hr,Option.map_some]
     ·obtain ⟨r,hr2,rfl⟩:=List.mem_map.1 hx
      exact hK r hr2
    ·refine ⟨n,[(st.app o.dst δ,ub+64)],?_,List.cons_ne_nil _ _,one hK⟩
     simp only [h1,Bool.false_eq_true,if_false,cs,jj4,hv,Option.bind_some,hδ,Option.map_some]
   | none =>
    simp only [hsh] at h
    have call:∀ {f:FuncId} {xs:List V},QR E f xs st o.dst ub K→∃ n δ,jb1 (cs E n (Yf.y n)).d ub f xs=some δ∧K (st.app o.dst δ) (ub+64):=by
     rintro f xs ⟨hp,v,⟨n,hv⟩,δ,hδ,hK⟩
     exact ⟨n,δ,by simp only [jb1,hp,if_true,cs,ja4,hv,Option.bind_some,hδ],hK⟩
    split at h
    ·rename_i f xs ho
     obtain ⟨n,δ,hc,hK⟩:=call h
     refine ⟨n,[(st.app o.dst δ,ub+64)],?_,List.cons_ne_nil _ _,one hK⟩
     simp only [ho,AOp.next?,aop,hc,Option.map_some]
    ·rename_i q xs ho
     obtain ⟨f,first,captured,hev,h⟩:=h
     obtain ⟨n,δ,hc,hK⟩:=call h
     refine ⟨n,[(st.app o.dst δ,ub+64)],?_,List.cons_ne_nil _ _,one hK⟩
     simp only [ho,AOp.next?,aop,hev,hc,Option.map_some]
    ·rename_i x ho
     obtain ⟨l,hl,hK⟩:=h
     refine ⟨0,l.map fun δ=>(st.app o.dst δ,ub+64),?_,?_,fun y hy=>?_⟩
     ·simp only [ho,AOp.next?,hl,Option.map_some]
     ·intro e
      have hl0:l=[]:=List.map_eq_nil_iff.1 e
      subst hl0
      unfold nextL at hl
      split at hl
      ·split at hl
       ·split at hl
        ·split at hl
         ·cases hl
         ·rename_i es hne
          simp only [Option.some.injEq] at hl
          unfold jix at hl
          split at hl
          ·exact hne rfl
          ·cases hl
        ·cases hl
       ·split at hl
        ·cases hl
        ·cases hl
       ·cases hl
      ·cases hl
     ·obtain ⟨δ,hδ,rfl⟩:=List.mem_map.1 hy
      exact hK δ hδ
    ·rename_i op h1 h2 h3
     obtain ⟨δ,hδ,hK⟩:=h
     refine ⟨0,[(st.app o.dst δ,ub+64)],?_,List.cons_ne_nil _ _,one hK⟩
     have hn:o.op.next? = none:=by
      cases ho:o.op with
      | nextMap x=>exact absurd ho (h3 x)
      | _=>rfl
     have hδ':aop (cs E 0 (Yf.y 0)).d (eval E st.tm) st.ob st.tk st.ro (o.name st.fb ub) ub o.op=some δ:=ja7 (fun _ _ _ h=>by cases h) _ _ _ _ _ _ _ _ hδ
     simp only [hn,hδ',Option.map_some]
theorem jyc:∀ {ops:List AOpr} {st:St} {ub:Nat} {K:St→Prop},WZ E Yf ops st ub K→∃ n l,jgc E (cs E n (Yf.y n)) ops st ub=some l∧l≠[]∧∀ x∈l,K x
 | [],st,ub,K,h=>⟨0,_,rfl,List.cons_ne_nil _ _,fun x hx=>by rw [List.mem_singleton] at hx;subst hx;exact h⟩
 | o::r,st,ub,K,h=>by
  obtain ⟨n,l,h1,h2,h3⟩:=jqh h
  obtain ⟨n',l',h1',h2',h3'⟩:=Wz (f:=fun n (x:St × Nat)=>jgc E (cs E n (Yf.y n)) r x.1 x.2) (fun n m hm x=>jd9 (Jq n m hm _ _ (Yf.mono hm)) r x.1 x.2) l h2 (fun x hx=>jyc (h3 x hx))
  refine ⟨max n n',l',?_,h2',h3'⟩
  simp only [jgc,bindL]
  rw [Qv (Jq n (max n n') (by omega) _ _ (Yf.mono (by omega))) o st ub l h1]
  exact h1' _ (by omega)
theorem jbz:∀ {ops:List AOpr} {st:St} {ub:Nat} {K:List FP→St→Prop},jJ E ops st ub K→∃ n p,Y0 E (cs E n (Yf.y n)) ops st ub=some p∧K p.1 p.2
 | [],st,ub,K,h=>⟨0,_,rfl,h⟩
 | o::r,st,ub,K,h=>by
  unfold jJ at h
  unfold Y0
  cases hw:wanted o st.tm with
  | none=>simp only [hw] at h
  | some b =>
   cases b with
   | false =>
    simp only [hw] at h
    obtain ⟨n,p,h1,h2⟩:=jbz h
    exact ⟨n,({}::p.1,p.2),by simp only [h1,Option.map_some],h2⟩
   | true =>
    simp only [hw] at h
    simp only
    cases hsh:jB E o.nm (eval E st.tm) o.op with
    | some fx =>
     obtain ⟨f,xs⟩:=fx
     simp only [hsh] at h
     rcases h with h | ⟨h0,htw,a',v,ha',⟨n,hv⟩,δ,hδ,h⟩
     case inr =>
      obtain ⟨n',p,h1,h2⟩:=jbz h
      refine ⟨max n n',({ wo:=δ.wo,all:=true,seen:=fun l=>(st.ob l).isSome,nw:=true }::p.1,p.2),?_,h2⟩
      have hv':(cs E n (Yf.y n)).d f a'=some v:=by rw [cs,ja4];exact hv
      simp only [h0,htw,if_true,ha',Option.bind_some]
      rw [(Jq n (max n n') (by omega) _ _ (Yf.mono (by omega))).d _ _ _ hv']
      simp only [Option.bind_some,hδ]
      rw [Jc (Jq n' (max n n') (by omega) _ _ (Yf.mono (by omega))) _ _ _ _ h1]
      rfl
     obtain ⟨h0,v,⟨n,hv⟩,δ,hδ,h⟩:=h
     obtain ⟨n',p,h1,h2⟩:=jbz h
     refine ⟨max n n',({ wt:=δ.wt,all:=true,seen:=fun l=>(st.ob l).isSome }::p.1,p.2),?_,h2⟩
     simp only [h0,Bool.false_eq_true,if_false]
     have hv':(cs E n (Yf.y n)).o f xs st.ob st.tk ((st.fb+o.dst.getD 0+1) * 1024) (ub+64 * (r.length+1))=some v:=by rw [cs,jj4];exact hv
     rw [(Jq n (max n n') (by omega) _ _ (Yf.mono (by omega))).o _ _ _ _ _ _ _ hv']
     simp only [Option.bind_some,hδ]
     rw [Jc (Jq n' (max n n') (by omega) _ _ (Yf.mono (by omega))) _ _ _ _ h1]
     rfl
    | none =>
     simp only [hsh] at h
     obtain ⟨hfar,h⟩:=h
     simp only [hfar,Bool.false_eq_true,if_false]
     have fin:∀ {n:Nat} {δ:Delta},aop (cs E n (Yf.y n)).d (eval E st.tm) st.ob st.tk st.ro (o.name st.fb ub) ub o.op=some δ→jJ E r (st.app o.dst δ) (ub+64) (fun fs s=>K (jch (eval E st.tm) o.op δ::fs) s) →
      ∃ n p,((aop (cs E n (Yf.y n)).d (eval E st.tm) st.ob st.tk st.ro (o.name st.fb ub) ub o.op).bind fun δ=>(Y0 E (cs E n (Yf.y n)) r (st.app o.dst δ) (ub+64)).map fun x=>(jch (eval E st.tm) o.op δ::x.1,x.2))=some p∧K p.1 p.2:=by
      intro n δ hδ h
      obtain ⟨n',p,h1,h2⟩:=jbz h
      refine ⟨max n n',(jch (eval E st.tm) o.op δ::p.1,p.2),?_,h2⟩
      rw [ja7 (Jq n (max n n') (by omega) _ _ (Yf.mono (by omega))).d _ _ _ _ _ _ _ _ hδ,Option.bind_some,Jc (Jq n' (max n n') (by omega) _ _ (Yf.mono (by omega))) _ _ _ _ h1]
      rfl
     split at h
     ·rename_i f xs ho
      obtain ⟨hp,v,⟨n,hv⟩,δ,hδ,h⟩:=h
      refine fin (n:=n) (δ:=δ) ?_ h
      have hp':(xs.map fun x=>(eval E st.tm x).strip).all V.pureTop=true:=by rw [List.all_map];exact hp
      simp only [ho,aop,jb1,hp',if_true,cs,ja4,hv,Option.bind_some,hδ]
     ·rename_i q xs ho
      obtain ⟨f,first,captured,hev,hp,v,⟨n,hv⟩,δ,hδ,h⟩:=h
      refine fin (n:=n) (δ:=δ) ?_ h
      simp only [ho,aop,hev,jb1,hp,if_true,cs,ja4,hv,Option.bind_some,hδ]
     ·obtain ⟨δ,hδ,h⟩:=h
      exact fin (n:=0) (ja7 (fun _ _ _ h=>by cases h) _ _ _ _ _ _ _ _ hδ) h
theorem juc:∀ {c:C} {st:St} {Q:Ex→St→Prop},wpC E Yf c st Q→WY E Yf c st Q:=by
 intro c
 induction c with
 | skip=>intro st Q h;exact ⟨0,_,rfl,by simp,fun x hx=>by rw [List.mem_singleton] at hx;subst hx;exact h⟩
 | ret=>intro st Q h;exact ⟨0,_,rfl,by simp,fun x hx=>by rw [List.mem_singleton] at hx;subst hx;exact h⟩
 | exit id=>intro st Q h;exact ⟨0,_,rfl,by simp,fun x hx=>by rw [List.mem_singleton] at hx;subst hx;exact h⟩
 | stuck=>intro st Q h;exact h.elim
 | rangeFunc f ps a b=>intro st Q h;exact h
 | region ops =>
  intro st Q h
  obtain ⟨n,l,h1,h2,h3⟩:=jyc h
  refine ⟨n,l.map fun s=>(.nrm,s),by simp only [jc];rw [h1];rfl,by simpa using h2,fun x hx=>?_⟩
  obtain ⟨s,hs,rfl⟩:=List.mem_map.1 hx
  exact h3 s hs
 | pin o fs =>
  intro st Q h
  obtain ⟨n,l,h1,h2,h3⟩:=jqh h
  obtain ⟨n',l',h1',h2',h3'⟩:=Wz (f:=fun n (x:St × Nat)=>(Y0 E (cs E n (Yf.y n)) fs x.1 x.2).bind fun p=>if jcr fs st p.2 then some [(Ex.nrm,p.2)] else none) (Q:=fun x=>Q x.1 x.2) (fun n m hm x=>(Jc (Jq n m hm _ _ (Yf.mono hm)) fs x.1 x.2).bind fun _=>le.rfl' _) l h2 (fun x hx=>by
   obtain ⟨k,p,hp,hs,hQ⟩:=jbz (h3 x hx)
   exact ⟨k,[(.nrm,p.2)],by rw [hp,Option.bind_some,if_pos hs],List.cons_ne_nil _ _,fun y hy=>by rw [List.mem_singleton] at hy;subst hy;exact hQ⟩)
  refine ⟨max n n',l',?_,h2',h3'⟩
  simp only [jc,bindL]
  rw [Qv (Jq n (max n n') (by omega) _ _ (Yf.mono (by omega))) o st st.nx l h1]
  exact h1' _ (by omega)
 | draw ops free =>
  intro st Q h
  obtain ⟨n,p,h1,h2,h2',h3⟩:=jbz h
  refine ⟨n,[(.nrm,p.2)],?_,by simp,fun x hx=>by rw [List.mem_singleton] at hx;subst hx;exact h3⟩
  simp only [jc]
  rw [h1]
  simp only [Option.bind_some,h2,h2',Bool.and_self,if_true]
 | seq a b iha ihb =>
  intro st Q h
  obtain ⟨n,l,h1,h2,h3⟩:=iha h
  obtain ⟨n',l',h1',h2',h3'⟩:=Wz (f:=fun n (x:Ex × St)=>match x with
   | (.nrm,st')=>jc E (cs E n) (Yf.y n) n b st'
   | (e,st')=>some [(e,st')]) (Q:=fun x=>Q x.1 x.2) (fun n m hm x=>by
    obtain ⟨e,s⟩:=x
    cases e
    ·exact jd (Jq n m hm) hm b _ _ (Yf.mono hm) s
    ·exact le.rfl' _
    ·exact le.rfl' _) l h2 (fun x hx=>by
    obtain ⟨e,s⟩:=x
    have:=h3 _ hx
    cases e with
    | nrm=>exact ihb this
    | exit i=>exact ⟨0,_,rfl,by simp,fun x hx=>by rw [List.mem_singleton] at hx;subst hx;exact this⟩
    | ret=>exact ⟨0,_,rfl,by simp,fun x hx=>by rw [List.mem_singleton] at hx;subst hx;exact this⟩)
  refine ⟨max n n',l',?_,h2',h3'⟩
  simp only [jc,bindL]
  rw [jd (Jq n (max n n') (by omega)) (by omega) a _ _ (Yf.mono (by omega)) st l h1]
  exact h1' _ (by omega)
 | cond q a b iha ihb =>
  intro st Q h
  obtain ⟨t,ht,h1,h2⟩:=h
  cases t with
  | true =>
   obtain ⟨n,l,k1,k2,k3⟩:=iha (h1 rfl)
   exact ⟨n,l,by simp only [jc,ht];exact k1,k2,k3⟩
  | false =>
   obtain ⟨n,l,k1,k2,k3⟩:=ihb (h2 rfl)
   exact ⟨n,l,by simp only [jc,ht];exact k1,k2,k3⟩
 | block id a ih =>
  intro st Q h
  obtain ⟨n,l,h1,h2,h3⟩:=ih h
  refine ⟨n,_,by simp only [jc];rw [h1];rfl,by simpa using h2,fun x hx=>?_⟩
  obtain ⟨p,hp,rfl⟩:=List.mem_map.1 hx
  have:=h3 p hp
  obtain ⟨e,s⟩:=p
  cases e with
  | nrm=>exact this
  | ret=>exact this
  | exit i =>
   simp only at this ⊢
   split at this
   ·rename_i hi;simp only [hi,if_true];exact this
   ·rename_i hi;simp only [hi,if_false];exact this
 | loop a ih =>
  intro st Q h
  obtain ⟨N,h⟩:=h
  have key:∀ (N:Nat) (st:St),YG (wpC E Yf a) N st Q→∃ n l,(∀ m k,n≤m→n≤k→jar (jc E (cs E m) (Yf.y m) m a) k st=some l)∧l≠[]∧∀ x∈l,Q x.1 x.2:=by
   intro N
   induction N with
   | zero=>intro st h;exact h.elim
   | succ N ihN =>
    intro st h
    obtain ⟨n,l,h1,h2,h3⟩:=ih h
    obtain ⟨n',l',h1',h2',h3'⟩:=Wz (f:=fun n (x:Ex × St)=>match x with
     | (.nrm,st')=>jar (jc E (cs E n) (Yf.y n) n a) n st'
     | (e,st')=>some [(e,st')]) (Q:=fun x=>Q x.1 x.2) (fun n m hm x=>by
      obtain ⟨e,s⟩:=x
      cases e
      ·exact QB (fun s=>jd (Jq n m hm) hm a _ _ (Yf.mono hm) s) n m hm s
      ·exact le.rfl' _
      ·exact le.rfl' _) l h2 (fun x hx=>by
      obtain ⟨e,s⟩:=x
      have:=h3 _ hx
      cases e with
      | nrm =>
       obtain ⟨k,r,q1,q2,q3⟩:=ihN s this
       exact ⟨k,r,q1 k k (Nat.le_refl _) (Nat.le_refl _),q2,q3⟩
      | exit i=>exact ⟨0,_,rfl,by simp,fun x hx=>by rw [List.mem_singleton] at hx;subst hx;exact this⟩
      | ret=>exact ⟨0,_,rfl,by simp,fun x hx=>by rw [List.mem_singleton] at hx;subst hx;exact this⟩)
    refine ⟨max n n'+1,l',fun m k hm hk=>?_,h2',h3'⟩
    obtain ⟨k,rfl⟩:∃ k',k=k'+1:=⟨k - 1,by omega⟩
    simp only [jar,bindL]
    rw [jd (Jq n m (by omega)) (by omega) a _ _ (Yf.mono (by omega)) st l h1]
    have e1:=h1' (max n n') (by omega)
    refine Qt (fun x=>?_) l l' e1
    obtain ⟨e,s⟩:=x
    cases e
    ·exact QB (fun s=>jd (Jq _ m (by omega)) (by omega) a _ _ (Yf.mono (by omega)) s) _ k (by omega) s
    ·exact le.rfl' _
    ·exact le.rfl' _
  obtain ⟨n,l,h1,h2,h3⟩:=key N st h
  exact ⟨n,l,h1 n n (Nat.le_refl _) (Nat.le_refl _),h2,h3⟩
theorem Ev_wp {f:FuncId} {af:AF} {args:List V} {r:V} (hf:E.fc f=some af) (h:wpC E noYF af.body (QO args) fun e s=>ja3 af.res (e,s)=some r):Ev E f args r:=Ev_of hf (juc h)
theorem WE {o:AOpr} {st:St} {ub:Nat} {K K':St→Nat→Prop} (h:∀ s u,K s u→K' s u) (hk:j9 E Yf o st ub K):j9 E Yf o st ub K':=by
 have call:∀ {f:FuncId} {xs:List V},QR E f xs st o.dst ub K→QR E f xs st o.dst ub K':=by
  rintro f xs ⟨hp,v,hv,δ,hδ,hK⟩
  exact ⟨hp,v,hv,δ,hδ,h _ _ hK⟩
 unfold j9 at hk ⊢
 cases hw:wanted o st.tm with
 | none=>simp only [hw] at hk
 | some b =>
  cases b with
  | false=>simp only [hw] at hk ⊢;exact h _ _ hk
  | true =>
   simp only [hw] at hk ⊢
   cases hy:jg (eval E st.tm) o.op with
   | some x =>
    obtain ⟨l,u,xs⟩:=x
    simp only [hy] at hk ⊢
    obtain ⟨r,hr,hK⟩:=hk
    exact ⟨r,hr,h _ _ hK⟩
   | none =>
   simp only [hy] at hk ⊢
   cases hsh:jB E o.nm (eval E st.tm) o.op with
   | some fx =>
    simp only [hsh] at hk ⊢
    rcases hk with ⟨h1,n,l,hr,hne,hK⟩ | ⟨h1,v,hv,δ,hδ,hK⟩
    ·exact .inl ⟨h1,n,l,hr,hne,fun r hm=>h _ _ (hK r hm)⟩
    ·exact .inr ⟨h1,v,hv,δ,hδ,h _ _ hK⟩
   | none =>
    simp only [hsh] at hk ⊢
    cases ho:o.op <;> simp only [ho] at hk ⊢
    case call f xs=>exact call hk
    case callV q xs =>
     obtain ⟨f,first,captured,hev,hk⟩:=hk
     exact ⟨f,first,captured,hev,call hk⟩
    case nextMap x =>
     obtain ⟨l,hl,hK⟩:=hk
     exact ⟨l,hl,fun δ hδ=>h _ _ (hK δ hδ)⟩
    all_goals
     obtain ⟨δ,hδ,hK⟩:=hk
     exact ⟨δ,hδ,h _ _ hK⟩
theorem jba:∀ {ops:List AOpr} {st:St} {ub:Nat} {K K':St→Prop},(∀ s,K s→K' s)→WZ E Yf ops st ub K→WZ E Yf ops st ub K'
 | [],_,_,_,_,h,hk=>h _ hk
 | _::_,_,_,_,_,h,hk=>WE (fun _ _=>jba h) hk
theorem J9:∀ {ops:List AOpr} {st:St} {ub:Nat} {K K':List FP→St→Prop},(∀ f s,K f s→K' f s)→jJ E ops st ub K→jJ E ops st ub K'
 | [],_,_,_,_,h,hk=>h _ _ hk
 | o::r,st,ub,K,K',h,hk=>by
  unfold jJ at hk ⊢
  cases hw:wanted o st.tm with
  | none=>simp only [hw] at hk
  | some b =>
   cases b with
   | false=>simp only [hw] at hk ⊢;exact J9 (fun _ _=>h _ _) hk
   | true =>
    simp only [hw] at hk ⊢
    cases hsh:jB E o.nm (eval E st.tm) o.op with
    | some fx =>
     simp only [hsh] at hk ⊢
     rcases hk with ⟨h1,v,hv,δ,hδ,hK⟩ | ⟨h1,h2,a',v,ha,hv,δ,hδ,hK⟩
     ·exact .inl ⟨h1,v,hv,δ,hδ,J9 (fun _ _=>h _ _) hK⟩
     ·exact .inr ⟨h1,h2,a',v,ha,hv,δ,hδ,J9 (fun _ _=>h _ _) hK⟩
    | none =>
     simp only [hsh] at hk ⊢
     refine ⟨hk.1,?_⟩
     have hk:=hk.2
     cases ho:o.op <;> simp only [ho] at hk ⊢
     case call f xs =>
      obtain ⟨h1,v,hv,δ,hδ,hK⟩:=hk
      exact ⟨h1,v,hv,δ,hδ,J9 (fun _ _=>h _ _) hK⟩
     case callV q xs =>
      obtain ⟨f,first,captured,hev,h1,v,hv,δ,hδ,hK⟩:=hk
      exact ⟨f,first,captured,hev,h1,v,hv,δ,hδ,J9 (fun _ _=>h _ _) hK⟩
     all_goals
      obtain ⟨δ,hδ,hK⟩:=hk
      exact ⟨δ,hδ,J9 (fun _ _=>h _ _) hK⟩
theorem Qc {W:St→(Ex→St→Prop)→Prop} (hW:∀ (st:St) (Q Q':Ex→St→Prop),(∀ e s,Q e s→Q' e s)→W st Q→W st Q'):∀ {n:Nat} {st:St} {Q Q':Ex→St→Prop},(∀ e s,Q e s→Q' e s)→YG W n st Q→YG W n st Q'
 | 0,_,_,_,_,h=>h
 | n+1,st,Q,Q',h,hk=>hW st _ _ (fun e s he=>by
  cases e
  ·exact Qc (W:=W) hW h he
  ·exact h _ _ he
  ·exact h _ _ he) hk
theorem Jt:∀ {c:C} {st:St} {Q Q':Ex→St→Prop},(∀ e s,Q e s→Q' e s)→wpC E Yf c st Q→wpC E Yf c st Q':=by
 intro c
 induction c with
 | skip=>intro st Q Q' h hk;exact h _ _ hk
 | ret=>intro st Q Q' h hk;exact h _ _ hk
 | exit id=>intro st Q Q' h hk;exact h _ _ hk
 | stuck=>intro st Q Q' h hk;exact hk
 | rangeFunc f ps a b=>intro st Q Q' h hk;obtain ⟨n,l,h1,h2,h3⟩:=hk;exact ⟨n,l,h1,h2,fun x hx=>h _ _ (h3 x hx)⟩
 | region ops=>intro st Q Q' h hk;exact jba (fun s=>h _ s) hk
 | draw ops free=>intro st Q Q' h hk;exact J9 (fun f s hs=>⟨hs.1,hs.2.1,h _ _ hs.2.2⟩) hk
 | pin o fs=>intro st Q Q' h hk;exact WE (fun s u hs=>J9 (fun f s hs=>⟨hs.1,h _ _ hs.2⟩) hs) hk
 | seq a b iha ihb =>
  intro st Q Q' h hk
  refine iha (fun e s he=>?_) hk
  cases e
  ·exact ihb h he
  ·exact h _ _ he
  ·exact h _ _ he
 | cond q a b iha ihb =>
  intro st Q Q' h hk
  obtain ⟨t,ht,h1,h2⟩:=hk
  exact ⟨t,ht,fun e=>iha h (h1 e),fun e=>ihb h (h2 e)⟩
 | block id a ih =>
  intro st Q Q' h hk
  refine ih (fun e s he=>?_) hk
  cases e
  ·exact h _ _ he
  ·simp only at he ⊢
   split at he
   ·rename_i hi;simp only [hi,if_true];exact h _ _ he
   ·rename_i hi;simp only [hi,if_false];exact h _ _ he
  ·exact h _ _ he
 | loop a ih =>
  intro st Q Q' h hk
  obtain ⟨N,hk⟩:=hk
  exact ⟨N,Qc (W:=wpC E Yf a) (fun _ _ _ h hk=>ih h hk) h hk⟩
theorem jy6 {a:C} {Q:Ex→St→Prop} (I:Nat→St→Prop) {n:Nat} {st:St} (h0:I n st)
 (hs:∀ k s,I k s→wpC E Yf a s fun e s'=>match e with | .nrm=>∃ j,j<k∧I j s' | e=>Q e s'):wpC E Yf (.loop a) st Q:=by
 refine ⟨n+1,?_⟩
 have key:∀ n st j,j≤n→I j st→YG (wpC E Yf a) (n+1) st Q:=by
  intro n
  induction n with
  | zero =>
   intro st j hj hI
   refine Jt (fun e s he=>?_) (hs j st hI)
   cases e
   ·obtain ⟨i,hi,_⟩:=he;omega
   ·exact he
   ·exact he
  | succ n ih =>
   intro st j hj hI
   refine Jt (fun e s he=>?_) (hs j st hI)
   cases e
   ·obtain ⟨i,hi,hI'⟩:=he
    exact ih s i (by omega) hI'
   ·exact he
   ·exact he
 exact key n st n (Nat.le_refl _) h0
end
def Qe:V→Bool→Prop→Prop→Prop
 | .bool c,b,p,q=>(c=b→p)∧(c = !b→q)
 | .tup [],_,_,q=>q
 | _,_,_,_=>False
def wpIf:V→Prop→Prop→Prop
 | .bool c,p,q=>(c=true→p)∧(c=false→q)
 | _,_,_=>False
def wpV (o:Option V) (k:V→Prop):Prop:=∃ v,o=some v∧k v
def wpD (o:Option Delta) (k:Delta→Prop):Prop:=∃ v,o=some v∧k v
theorem jmd (v:V) (k:V→Prop):wpV (some v) k=k v:=by simp [wpV]
theorem jme (k:V→Prop):wpV none k=False:=by simp [wpV]
theorem jy7 (c:Prop) [Decidable c] (o:Option V) (k:V→Prop):wpV (if c then o else none) k=(c∧wpV o k):=by by_cases h:c <;> simp [h,wpV]
theorem jud (c:Prop) [Decidable c] (o:Option V) (k:V→Prop):wpV (if c then none else o) k=(¬ c∧wpV o k):=by by_cases h:c <;> simp [h,wpV]
theorem jN (v:Delta) (k:Delta→Prop):wpD (some v) k=k v:=by simp [wpD]
theorem Qu (k:Delta→Prop):wpD none k=False:=by simp [wpD]
theorem jde (c:Prop) [Decidable c] (o:Option Delta) (k:Delta→Prop):wpD (if c then o else none) k=(c∧wpD o k):=by by_cases h:c <;> simp [h,wpD]
theorem jup (c:Prop) [Decidable c] (o:Option Delta) (k:Delta→Prop):wpD (if c then none else o) k=(¬ c∧wpD o k):=by by_cases h:c <;> simp [h,wpD]
def St.setT (st:St) (d:Option Nat) (v:V):St:={ st with tm:=put st.tm d v }
theorem Q1 (st:St) (d:Option Nat) (v:V):st.app d { v:=v } = st.setT d v:=by simp [St.app,JK,XK,St.setT]
theorem jzv (st:St) (d n:Nat) (v:V):(st.setT (some d) v).tm n=if n=d then v else st.tm n:=by simp [St.setT,put,j6]
theorem ju7 (st:St) (n:Nat) (v:V):(st.setT none v).tm n=st.tm n:=rfl
theorem YK (st:St) (d:Option Nat) (v:V):(st.setT d v).ob=st.ob:=rfl
theorem jkt (st:St) (d:Option Nat) (v:V):(st.setT d v).tk=st.tk:=rfl
theorem jzw (st:St) (d:Option Nat) (v:V):(st.setT d v).ro=st.ro:=rfl
theorem jzx (st:St) (d:Option Nat) (v:V):(st.setT d v).nx=st.nx:=rfl
theorem jzy (st:St) (d:Option Nat) (v:V):(st.setT d v).fb=st.fb:=rfl
theorem jzz (st:St) (d:Option Nat) (v:V):(st.setT d v).df=st.df:=rfl
def St.setN (st:St) (n:Nat):St:={ st with nx:=n }
theorem jku (st:St) (n:Nat):(st.setN n).tm=st.tm:=rfl
theorem JA (st:St) (n:Nat):(st.setN n).ob=st.ob:=rfl
theorem jqo (st:St) (n:Nat):(st.setN n).tk=st.tk:=rfl
theorem jz0 (st:St) (n:Nat):(st.setN n).ro=st.ro:=rfl
theorem jg5 (st:St) (n:Nat):(st.setN n).nx=n:=rfl
theorem jz1 (st:St) (n:Nat):(st.setN n).fb=st.fb:=rfl
theorem jz2 (st:St) (n:Nat):(st.setN n).df=st.df:=rfl
theorem jj5 (st:St) (d n:Nat) (δ:Delta):(st.app (some d) δ).tm n=if n=d then δ.v else st.tm n:=by simp [St.app,put,j6]
theorem j2t (st:St) (n:Nat) (δ:Delta):(st.app none δ).tm n=st.tm n:=rfl
theorem j9x (st:St) (d:Option Nat) (δ:Delta):(st.app d δ).ro=st.ro:=rfl
theorem j9z (st:St) (d:Option Nat) (δ:Delta):(st.app d δ).nx=st.nx:=rfl
theorem j90 (st:St) (d:Option Nat) (δ:Delta):(st.app d δ).fb=st.fb:=rfl
theorem j91 (st:St) (d:Option Nat) (δ:Delta):(st.app d δ).df=st.df:=rfl
theorem j9y (st:St) (d:Option Nat) (v:V) (del:Option Nat) (add:List Nat):(st.app d { v:=v,del:=del,add:=add }).ob=st.ob:=by simp [St.app,JK]
theorem jl (st:St) (d:Option Nat) (δ:Delta) (u:Nat):(st.app d δ).tk u=if u∈δ.add then true else if u∈δ.del.toList then false else st.tk u:=by simp only [St.app,Qg]
theorem Jr (st:St) (d:Option Nat) (v:V) (l k:Nat) (o:Obj') (add:List Nat):(st.app d { v:=v,obs:=[(l,o)],add:=add }).ob k=if k=l then some o else st.ob k:=by simp [St.app,JK,j6]
theorem juw (args:List V) (n:Nat):(QO args).tm n=args.getD n jx:=rfl
theorem juz (args:List V) (n:Nat):(QO args).ob n=none:=rfl
theorem jux (args:List V) (n:Nat):(QO args).tk n=false:=rfl
theorem juy (args:List V):(QO args).ro=0:=rfl
theorem ju0 (args:List V):(QO args).nx=0:=rfl
theorem ju1 (args:List V):(QO args).fb=0:=rfl
theorem ju2 (args:List V):(QO args).df=[]:=rfl
theorem j84 (E:Env) (tm:Nat→V) (n:Nat):eval E tm (.t n)=tm n:=rfl
theorem j85 (E:Env) (tm:Nat→V) (v:V):eval E tm (.c v)=v:=rfl
def jvm:V→V→V→Option V
 | .bool t,a,b=>some (cond t a b)
 | _,_,_=>none
theorem jom (t:Bool) (a b:V):jvm (.bool t) a b=some (cond t a b):=rfl
def Yb (ob:ZO) (g:Option Nat):V→Option V
 | .eptr cs off=>Y5 g cs off
 | .ptr l u off=>(j1 ob l u).bind fun cs=>Y5 g cs off
 | _=>none
theorem jbp (ob:ZO) (g:Option Nat) (cs:List V) (off:Nat):Yb ob g (.eptr cs off)=Y5 g cs off:=rfl
theorem j0u (ob:ZO) (g:Option Nat) (l u off:Nat):Yb ob g (.ptr l u off)=(j1 ob l u).bind fun cs=>Y5 g cs off:=rfl
def jap:V→Option V
 | .ptr l u o=>some (.ptr l u o)
 | .eptr cs o=>some (.eptr cs o)
 | .fn (.func f) a b=>some (.fn (.func f) a b)
 | _=>none
def WA (off:Nat):V→Option V
 | .ptr l u o=>some (.ptr l u (o+off))
 | .eptr cs o=>some (.eptr cs (o+off))
 | _=>none
def JL (sz:Nat):V→V→Option V
 | .sl _ _ n cs,.int _ i=>if 0≤i∧i<n∧cs.length=n * sz then some (.eptr cs (i.toNat * sz)) else none
 | .osl l u off n sz',.int _ i=>if 0≤i∧i<n∧sz'=sz then some (.ptr l u (off+i.toNat * sz)) else none
 | _,_=>none
def Qq (len sz:Nat):V→V→Option V
 | .ptr l u off,.int _ i=>if 0≤i∧i<len then some (.ptr l u (off+i.toNat * sz)) else none
 | .eptr cs off,.int _ i=>if 0≤i∧i<len then some (.eptr cs (off+i.toNat * sz)) else none
 | _,_=>none
def j0h (g:Option Nat) (off:Nat):V→Option V
 | .agg cs=>Y5 g cs off
 | _=>none
def Ws:V→V→Option V
 | .str s,.int _ i=>if 0≤i then (s[i.toNat]?).map fun b=>.int .u8 b.toNat else none
 | _,_=>none
def jls (g:Option Nat) (len sz:Nat):V→V→Option V
 | .agg cs,.int _ i=>if 0≤i∧i<len then Y5 g cs (i.toNat * sz) else none
 | _,_=>none
def XT (lo hi:Option V):V→Option V
 | .str s=>(X3 s.length s.length lo hi).map fun (l,h)=>.str ((s.take h).drop l)
 | _=>none
def Qf (sz:Nat) (lo hi:Option V):V→Option V
 | .sl _ nl n cs=>if cs.length=n * sz then (X3 n n lo hi).map fun (l,h)=>.sl none nl (h - l) ((cs.take (h * sz)).drop (l * sz)) else none
 | .osl a u off n sz'=>if sz'=sz then (X3 n n lo hi).map fun (l,h)=>.osl a u (off+l * sz) (h - l) sz else none
 | _=>none
def jhk:V→Option V
 | .str s=>some (.int .i64 s.length)
 | _=>none
def jas:V→Option V
 | .sl _ _ n _=>some (.int .i64 n)
 | .osl _ _ _ n _=>some (.int .i64 n)
 | _=>none
def jhl (ob:ZO):V→Option V
 | .nilmap=>some (.int .i64 0)
 | .map l u=>(je ob l u).map fun es=>.int .i64 es.length
 | _=>none
def jc7 (i:Nat):V→Option V
 | .tup vs=>vs[i]?
 | _=>none
def XR (k:IntKind):V→Option V
 | .int _ n=>some (.int k (k.wrap n))
 | _=>none
def Qk (isMax:Bool):List V→Option V
 | []=>none
 | x::r=>Wo isMax x r
def jxn (ob:ZO) (neg:Bool) (k:EqK) (x y:V):Option V :=
 match k,x,y with
 | .ptr,.ptr l u off,.ptr l' u' off'=>if (j1 ob l u).isSome && (j1 ob l' u').isSome then some (.bool (xor neg (Nat.beq l l' && Nat.beq off off'))) else none
 | k,a,b=>(eqV k a b).map fun b=>.bool (xor neg b)
def Xx (ob:ZO) (q:LK) (zero:V) (ok:Bool) (m k:V):Option V :=
 if jaw q k then match m with
  | .nilmap=>some (if ok then .tup [zero,.bool false] else zero)
  | .map l u=>(je ob l u).bind fun es=>(findKey q k es).map fun r=>match r with
   | some (_,v)=>if ok then .tup [v,.bool true] else v
   | none=>if ok then .tup [zero,.bool false] else zero
  | _=>none else none
section
variable {E:Env} {Yf:YF} {st:St} {ub:Nat} {K:St→Nat→Prop} {d:Option Nat} {nm:Bool}
theorem juq {c:A} {a b:C} {Q:Ex→St→Prop}:wpC E Yf (.cond c a b) st Q=wpIf (eval E st.tm c) (wpC E Yf a st Q) (wpC E Yf b st Q):=by
 simp only [wpC]
 cases h:eval E st.tm c <;> simp [wpIf]
theorem jh8 {op:AOp} {t:Nat} {b:Bool}:j9 E Yf ⟨d,op,some (t,b),nm⟩ st ub K=Qe (st.tm t) b (j9 E Yf ⟨d,op,none,nm⟩ st ub K) (K (st.setT d jx) ub):=by
 have hn:AOpr.name ⟨d,op,some (t,b),nm⟩=AOpr.name ⟨d,op,none,nm⟩:=rfl
 unfold j9
 simp only [wanted,hn]
 cases h:st.tm t with
 | bool c =>
  simp only [Qe]
  cases c <;> cases b <;> simp [St.setT]
 | tup l=>cases l <;> simp [Qe,St.setT]
 | _=>simp [Qe]
theorem jS (op:AOp) (h:op.isCall=false) (h2:op.isNext=false):j9 E Yf ⟨d,op,none,nm⟩ st ub K=wpD (aop (fun _ _=>none) (eval E st.tm) st.ob st.tk st.ro (AOpr.name ⟨d,op,none,nm⟩ st.fb ub) ub op) fun δ=>K (st.app d δ) (ub+64):=by
 cases op <;> first | cases h;done | cases h2;done | simp only [j9,wanted,jg,jB,wpD]
theorem WF (v:V) (k:Delta→Prop):wpD (one v) k=k { v:=v }:=by simp [one,wpD]
theorem jct (o:Option V) (k:Delta→Prop):wpD (o.bind one) k=wpV o fun v=>k { v:=v }:=by cases o <;> simp [wpD,wpV,one]
theorem jy9 {x:A}:j9 E Yf ⟨d,.mov x,none,nm⟩ st ub K=K (st.setT d (eval E st.tm x)) (ub+64):=by rw [jS _ rfl rfl];simp only [aop,WF,Q1]
theorem juf {c a b:A}:j9 E Yf ⟨d,.pick c a b,none,nm⟩ st ub K=wpV (jvm (eval E st.tm c) (eval E st.tm a) (eval E st.tm b)) fun v=>K (st.setT d v) (ub+64):=by
 rw [jS _ rfl rfl];simp only [aop];cases eval E st.tm c <;> simp only [jvm,WF,jmd,jme,Qu,Q1]
theorem jzb {op:BinOp} {x y:A}:j9 E Yf ⟨d,.bin op x y,none,nm⟩ st ub K=wpV (Ya op (eval E st.tm x) (eval E st.tm y)) fun v=>K (st.setT d v) (ub+64):=by
 rw [jS _ rfl rfl];simp only [aop,jct,Q1]
theorem j3o {op:UnOp} {x:A}:j9 E Yf ⟨d,.un op x,none,nm⟩ st ub K=wpV (unV op (eval E st.tm x)) fun v=>K (st.setT d v) (ub+64):=by
 rw [jS _ rfl rfl];simp only [aop,jct,Q1]
theorem jO {α:Type} (o:Option α) (f:α→V):(o.bind fun x=>one (f x))=(o.map f).bind one:=by cases o <;> rfl
theorem jZ (c:Prop) [Decidable c] (v:Option V):(if c then v.bind one else none)=(if c then v else none).bind one:=by split <;> rfl
theorem Jo (c:Prop) [Decidable c] (v:V):(if c then one v else none)=(if c then some v else none).bind one:=by split <;> rfl
theorem Wr {α:Type} (c:Prop) [Decidable c] (o:Option α) (f:α→V):(if c then o.bind fun x=>one (f x) else none)=(if c then o.map f else none).bind one:=by split;exact jO _ _;rfl
theorem JU {op:AOp} {o:Option V} (h:op.isCall=false) (h2:op.isNext=false) (ha:∀ du,aop (fun _ _=>none) (eval E st.tm) st.ob st.tk st.ro du ub op=o.bind one):j9 E Yf ⟨d,op,none,nm⟩ st ub K=wpV o fun v=>K (st.setT d v) (ub+64):=by
 rw [jS _ h h2,ha,jct]
 simp only [Q1]
theorem j3p {neg:Bool} {k:EqK} {x y:A}:j9 E Yf ⟨d,.eq neg k x y,none,nm⟩ st ub K=wpV (jxn st.ob neg k (eval E st.tm x) (eval E st.tm y)) fun v=>K (st.setT d v) (ub+64):=by
 refine JU rfl rfl fun du=>?_
 simp only [aop,jxn]
 generalize eval E st.tm x=vx
 generalize eval E st.tm y=vy
 cases k <;> first | rfl | exact jO _ _ | (cases vx <;> first | rfl | exact jO _ _ | (cases vy <;> (first | rfl | exact Jo _ _ | exact jZ _ _ | exact jO _ _ | exact (Option.bind_assoc ..).symm)))
theorem jui {g:Option Nat} {x:A}:j9 E Yf ⟨d,.load g x,none,nm⟩ st ub K=wpV (Yb st.ob g (eval E st.tm x)) fun v=>K (st.setT d v) (ub+64):=by
 refine JU rfl rfl fun du=>?_
 simp only [aop,Yb]
 generalize eval E st.tm x=vx
 cases vx <;> (first | rfl | exact Jo _ _ | exact jZ _ _ | exact jO _ _ | exact (Option.bind_assoc ..).symm)
theorem jia {x:A}:j9 E Yf ⟨d,.nilCheck x,none,nm⟩ st ub K=wpV (jap (eval E st.tm x)) fun v=>K (st.setT d v) (ub+64):=by
 refine JU rfl rfl fun du=>?_
 simp only [aop,jap]
 generalize eval E st.tm x=vx
 cases vx <;> (first | rfl | exact Jo _ _ | exact jZ _ _ | exact jO _ _ | exact (Option.bind_assoc ..).symm | (rename_i f _ _;cases f <;> rfl) | exact Wr _ _ _)
theorem jg2 {off:Nat} {x:A}:j9 E Yf ⟨d,.fieldAddr off x,none,nm⟩ st ub K=wpV (WA off (eval E st.tm x)) fun v=>K (st.setT d v) (ub+64):=by
 refine JU rfl rfl fun du=>?_
 simp only [aop,WA]
 generalize eval E st.tm x=vx
 cases vx <;> (first | rfl | exact Jo _ _ | exact jZ _ _ | exact jO _ _ | exact (Option.bind_assoc ..).symm)
theorem jp1 {sz:Nat} {x i:A}:j9 E Yf ⟨d,.idxSl sz x i,none,nm⟩ st ub K=wpV (JL sz (eval E st.tm x) (eval E st.tm i)) fun v=>K (st.setT d v) (ub+64):=by
 refine JU rfl rfl fun du=>?_
 simp only [aop,JL]
 generalize eval E st.tm x=vx
 generalize eval E st.tm i=vi
 cases vx <;> first | rfl | (cases vi <;> (first | rfl | exact Jo _ _ | exact jZ _ _ | exact jO _ _ | exact (Option.bind_assoc ..).symm))
theorem jn4 {len sz:Nat} {x i:A}:j9 E Yf ⟨d,.idxArr len sz x i,none,nm⟩ st ub K=wpV (Qq len sz (eval E st.tm x) (eval E st.tm i)) fun v=>K (st.setT d v) (ub+64):=by
 refine JU rfl rfl fun du=>?_
 simp only [aop,Qq]
 generalize eval E st.tm x=vx
 generalize eval E st.tm i=vi
 cases vx <;> first | rfl | (cases vi <;> (first | rfl | exact Jo _ _ | exact jZ _ _ | exact jO _ _ | exact (Option.bind_assoc ..).symm))
theorem jug {g:Option Nat} {off:Nat} {x:A}:j9 E Yf ⟨d,.part g off x,none,nm⟩ st ub K=wpV (j0h g off (eval E st.tm x)) fun v=>K (st.setT d v) (ub+64):=by
 refine JU rfl rfl fun du=>?_
 simp only [aop,j0h]
 generalize eval E st.tm x=vx
 cases vx <;> (first | rfl | exact Jo _ _ | exact jZ _ _ | exact jO _ _ | exact (Option.bind_assoc ..).symm)
theorem jn3 {x i:A}:j9 E Yf ⟨d,.idxStr x i,none,nm⟩ st ub K=wpV (Ws (eval E st.tm x) (eval E st.tm i)) fun v=>K (st.setT d v) (ub+64):=by
 refine JU rfl rfl fun du=>?_
 simp only [aop,Ws]
 generalize eval E st.tm x=vx
 generalize eval E st.tm i=vi
 cases vx <;> first | rfl | (cases vi <;> (first | rfl | exact Jo _ _ | exact jZ _ _ | exact jO _ _ | exact (Option.bind_assoc ..).symm | (rename_i f _ _;cases f <;> rfl) | exact Wr _ _ _))
theorem jn2 {g:Option Nat} {len sz:Nat} {x i:A}:j9 E Yf ⟨d,.idxVal g len sz x i,none,nm⟩ st ub K=wpV (jls g len sz (eval E st.tm x) (eval E st.tm i)) fun v=>K (st.setT d v) (ub+64):=by
 refine JU rfl rfl fun du=>?_
 simp only [aop,jls]
 generalize eval E st.tm x=vx
 generalize eval E st.tm i=vi
 cases vx <;> first | rfl | (cases vi <;> (first | rfl | exact Jo _ _ | exact jZ _ _ | exact jO _ _ | exact (Option.bind_assoc ..).symm))
theorem jpz {x:A} {lo hi:Option A}:j9 E Yf ⟨d,.slStr x lo hi,none,nm⟩ st ub K=wpV (XT (lo.map (eval E st.tm)) (hi.map (eval E st.tm)) (eval E st.tm x)) fun v=>K (st.setT d v) (ub+64):=by
 refine JU rfl rfl fun du=>?_
 simp only [aop,XT]
 generalize eval E st.tm x=vx
 cases vx <;> (first | rfl | exact Jo _ _ | exact jZ _ _ | exact jO _ _ | exact (Option.bind_assoc ..).symm)
theorem jue {sz:Nat} {x:A} {lo hi:Option A}:j9 E Yf ⟨d,.slSl sz x lo hi,none,nm⟩ st ub K=wpV (Qf sz (lo.map (eval E st.tm)) (hi.map (eval E st.tm)) (eval E st.tm x)) fun v=>K (st.setT d v) (ub+64):=by
 refine JU rfl rfl fun du=>?_
 simp only [aop,Qf]
 generalize eval E st.tm x=vx
 cases vx <;> (first | rfl | exact Jo _ _ | exact jZ _ _ | exact jO _ _ | exact (Option.bind_assoc ..).symm | (rename_i f _ _;cases f <;> rfl) | exact Wr _ _ _)
theorem jn0 {x:A}:j9 E Yf ⟨d,.lenStr x,none,nm⟩ st ub K=wpV (jhk (eval E st.tm x)) fun v=>K (st.setT d v) (ub+64):=by
 refine JU rfl rfl fun du=>?_
 simp only [aop,jhk]
 generalize eval E st.tm x=vx
 cases vx <;> (first | rfl | exact Jo _ _ | exact jZ _ _ | exact jO _ _ | exact (Option.bind_assoc ..).symm)
theorem jp0 {x:A}:j9 E Yf ⟨d,.lenSl x,none,nm⟩ st ub K=wpV (jas (eval E st.tm x)) fun v=>K (st.setT d v) (ub+64):=by
 refine JU rfl rfl fun du=>?_
 simp only [aop,jas]
 generalize eval E st.tm x=vx
 cases vx <;> (first | rfl | exact Jo _ _ | exact jZ _ _ | exact jO _ _ | exact (Option.bind_assoc ..).symm)
theorem jn1 {x:A}:j9 E Yf ⟨d,.lenMap x,none,nm⟩ st ub K=wpV (jhl st.ob (eval E st.tm x)) fun v=>K (st.setT d v) (ub+64):=by
 refine JU rfl rfl fun du=>?_
 simp only [aop,jhl]
 generalize eval E st.tm x=vx
 cases vx <;> (first | rfl | exact Jo _ _ | exact jZ _ _ | exact jO _ _ | exact (Option.bind_assoc ..).symm)
theorem jkh {x:A} {i:Nat}:j9 E Yf ⟨d,.extract x i,none,nm⟩ st ub K=wpV (jc7 i (eval E st.tm x)) fun v=>K (st.setT d v) (ub+64):=by
 refine JU rfl rfl fun du=>?_
 simp only [aop,jc7]
 generalize eval E st.tm x=vx
 cases vx <;> (first | rfl | exact Jo _ _ | exact jZ _ _ | exact jO _ _ | exact (Option.bind_assoc ..).symm)
theorem juj {k:IntKind} {x:A}:j9 E Yf ⟨d,.conv k x,none,nm⟩ st ub K=wpV (XR k (eval E st.tm x)) fun v=>K (st.setT d v) (ub+64):=by
 refine JU rfl rfl fun du=>?_
 simp only [aop,XR]
 generalize eval E st.tm x=vx
 cases vx <;> (first | rfl | exact Jo _ _ | exact jZ _ _ | exact jO _ _ | exact (Option.bind_assoc ..).symm)
theorem jny {b:Bool} {xs:List A}:j9 E Yf ⟨d,.minmax b xs,none,nm⟩ st ub K=wpV (Qk b (xs.map (eval E st.tm))) fun v=>K (st.setT d v) (ub+64):=by
 refine JU rfl rfl fun du=>?_
 simp only [aop,Qk]
 generalize xs.map (eval E st.tm)=vxs
 cases vxs <;> (first | rfl | exact Jo _ _ | exact jZ _ _ | exact jO _ _ | exact (Option.bind_assoc ..).symm)
theorem juh {f:Fn} {a b:List A}:j9 E Yf ⟨d,.mkFn f a b,none,nm⟩ st ub K=K (st.setT d (.fn f (a.map (eval E st.tm)) (b.map (eval E st.tm)))) (ub+64):=by rw [jS _ rfl rfl];simp only [aop,WF,Q1]
theorem jp5 {z:List V} {ps:List (Nat × Nat × A)}:j9 E Yf ⟨d,.build z ps,none,nm⟩ st ub K=wpV ((fill z (ju (eval E st.tm) ps)).map .agg) fun v=>K (st.setT d v) (ub+64):=by
 rw [jS _ rfl rfl];simp only [aop,jO,jct,Q1]
theorem jnz {q:LK} {z:V} {ok:Bool} {m k:A}:j9 E Yf ⟨d,.lookup q z ok m k,none,nm⟩ st ub K=wpV (Xx st.ob q z ok (eval E st.tm m) (eval E st.tm k)) fun v=>K (st.setT d v) (ub+64):=by
 refine JU rfl rfl fun du=>?_
 simp only [aop,Xx]
 generalize eval E st.tm m=vm
 generalize eval E st.tm k=vk
 cases jaw q vk with
 | false=>rfl
 | true =>
  simp only [if_true]
  cases vm <;> first | rfl | skip
  rename_i l u
  simp only
  cases je st.ob l u with
  | none=>rfl
  | some es =>
   simp only [Option.bind_some]
   cases findKey q vk es with
   | none=>rfl
   | some r=>cases r <;> rfl
def jmv (E:Env) (nm:Bool) (f:FuncId) (vs:List V):Prop:=E.sh nm f=false∧(vs.all fun v=>v.strip.pureTop)=true
theorem jh4 (vs:List V):(vs.map V.strip).all V.pureTop=vs.all fun v=>v.strip.pureTop:=by rw [List.all_map];rfl
theorem juk {f:FuncId} {xs:List A} (h:jmv E nm f (xs.map (eval E st.tm))∧∃ v,Ev E f ((xs.map (eval E st.tm)).map V.strip) v∧wpD (Xv ub v) fun δ=>K (st.app d δ) (ub+64)):j9 E Yf ⟨d,.call f xs,none,nm⟩ st ub K:=by
 obtain ⟨⟨h1,h2⟩,v,hv,δ,hδ,hK⟩:=h
 have hp:(xs.all fun x=>(eval E st.tm x).strip.pureTop)=true:=by rw [List.all_map] at h2;exact h2
 have hs:jB E nm (eval E st.tm) (.call f xs)=none:=by simp only [jB,h1,hp,Bool.not_false,Bool.and_self,if_true]
 simp only [j9,wanted,jg,hs,QR]
 refine ⟨by rw [List.all_map];exact hp,v,?_,δ,hδ,hK⟩
 rw [List.map_map] at hv
 exact hv
theorem jp2 {q:A} {xs:List A} {f:FuncId} {first captured:List V} (hq:eval E st.tm q = .fn (.func f) first captured)
 (h:jmv E nm f (first++xs.map (eval E st.tm)++captured)∧∃ v,Ev E f ((first++xs.map (eval E st.tm)++captured).map V.strip) v∧wpD (Xv ub v) fun δ=>K (st.app d δ) (ub+64)):j9 E Yf ⟨d,.callV q xs,none,nm⟩ st ub K:=by
 obtain ⟨⟨h1,h2⟩,v,hv,δ,hδ,hK⟩:=h
 have hs:jB E nm (eval E st.tm) (.callV q xs)=none:=by simp only [jB,hq,h1,h2,Bool.not_false,Bool.and_self,if_true]
 simp only [j9,wanted,jg,hq,hs,QR]
 exact ⟨f,first,captured,rfl,by rw [jh4];exact h2,v,hv,δ,hδ,hK⟩
end
attribute [simp] jzv ju7 YK jkt jzw jzx jzy jzz
 jku JA jqo jz0 jg5 jz1 jz2 juw juz jux juy ju0 ju1 ju2 j84 j85 jom jbp j0u jmd jme jN Qu Q1
@[simp] theorem binV_add (k:IntKind) (a b:Int):Ya .add (.int k a) (.int k b)=some (.int k (k.wrap (a+b))):=by simp [Ya,XQ]
@[simp] theorem binV_sub (k:IntKind) (a b:Int):Ya .sub (.int k a) (.int k b)=some (.int k (k.wrap (a - b))):=by simp [Ya,XQ]
@[simp] theorem binV_mul (k:IntKind) (a b:Int):Ya .mul (.int k a) (.int k b)=some (.int k (k.wrap (a * b))):=by simp [Ya,XQ]
@[simp] theorem binV_quo (k:IntKind) (a b:Int):Ya .quo (.int k a) (.int k b)=if b=0 then none else some (.int k (k.wrap (a.tdiv b))):=by simp [Ya,XQ]
@[simp] theorem binV_rem (k:IntKind) (a b:Int):Ya .rem (.int k a) (.int k b)=if b=0 then none else some (.int k (a.tmod b)):=by simp [Ya,XQ]
@[simp] theorem binV_lss (k:IntKind) (a b:Int):Ya .lss (.int k a) (.int k b)=some (.bool (decide (a<b))):=by simp [Ya,XQ]
@[simp] theorem binV_leq (k:IntKind) (a b:Int):Ya .leq (.int k a) (.int k b)=some (.bool (decide (a≤b))):=by simp [Ya,XQ]
@[simp] theorem binV_gtr (k:IntKind) (a b:Int):Ya .gtr (.int k a) (.int k b)=some (.bool (decide (b<a))):=by simp [Ya,XQ]
@[simp] theorem binV_geq (k:IntKind) (a b:Int):Ya .geq (.int k a) (.int k b)=some (.bool (decide (b≤a))):=by simp [Ya,XQ]
@[simp] theorem binV_eql (k:IntKind) (a b:Int):Ya .eql (.int k a) (.int k b)=some (.bool (a == b)):=by simp [Ya,XQ]
@[simp] theorem binV_neq (k:IntKind) (a b:Int):Ya .neq (.int k a) (.int k b)=some (.bool (a != b)):=by simp [Ya,XQ]
@[simp] theorem j9v (a b:List UInt8):Ya .eql (.str a) (.str b)=some (.bool (a == b)):=by simp [Ya,jik]
@[simp] theorem j9u (a b:List UInt8):Ya .neq (.str a) (.str b)=some (.bool (!(a == b))):=by simp [Ya,jik]
@[simp] theorem unV_not (b:Bool):unV .not (.bool b)=some (.bool (!b)):=rfl
@[simp] theorem j74 (t:Option (Nat × Nat)) (b:Bool) (n:Nat) (cs:List V):jas (.sl t b n cs)=some (.int .i64 n):=rfl
@[simp] theorem j3g (a b c n d:Nat):jas (.osl a b c n d)=some (.int .i64 n):=rfl
@[simp] theorem j0x (s:List UInt8):jhk (.str s)=some (.int .i64 s.length):=rfl
@[simp] theorem YS (sz:Nat) (t:Option (Nat × Nat)) (b:Bool) (n:Nat) (cs:List V) (k:IntKind) (i:Int):JL sz (.sl t b n cs) (.int k i)=if 0≤i∧i<n∧cs.length=n * sz then some (.eptr cs (i.toNat * sz)) else none:=rfl
@[simp] theorem j3e (cs:List V) (off:Nat):Y5 none cs off=cs[off]?:=rfl
@[simp] theorem jys (i:Nat) (vs:List V):jc7 i (.tup vs)=vs[i]?:=rfl
def V.flat:V→Bool
 | .bool _ | .int .. | .str _ | .nilptr | .nilmap | .nilfn | .nilif=>true
 | .sl t _ _ _=>t.isNone
 | _=>false
theorem Qj {st:St} {keep:Bool} {i:Nat} {v:V} (h:v.flat=true):XM st keep i v=some v:=by
 cases v with
 | sl t nl n cs=>cases t with
  | none=>rfl
  | some t=>cases h
 | _=>first | rfl | cases h
theorem jez {v:V} (h:v.flat=true):v.toks=[]:=by
 cases v with
 | sl t nl n cs=>cases t with
  | none=>rfl
  | some t=>cases h
 | _=>first | rfl | cases h
theorem YO {st:St} (h:st.df=[]):st.noDf=st:=by unfold St.noDf;simp only [h]
theorem YW {st:St} (h:st.df=[]):jyw st=true:=by unfold jyw;simp only [h];rfl
theorem j3 {n:Nat} {st:St} {v:V} (hd:st.df=[]) (h:st.tm n=v) (hf:v.flat=true):ja3 [.t n] (.ret,st)=some v:=by
 simp only [ja3,YW hd,YO hd,if_true,List.mapM_cons,List.mapM_nil,jm,h]
 simp [Yh,JD,Qj hf,jez hf,nodup]
theorem JS {n m:Nat} {st:St} {v u:V} (hd:st.df=[]) (h:st.tm n=v) (h':st.tm m=u) (hf:v.flat=true) (hf':u.flat=true):ja3 [.t n,.t m] (.ret,st)=some (.tup [v,u]):=by
 simp only [ja3,YW hd,YO hd,if_true,List.mapM_cons,List.mapM_nil,jm,h,h']
 simp [Yh,JD,Qj hf,Qj hf',jez hf,jez hf',nodup]
@[simp] theorem j4f (ub:Nat) (b:Bool):Xv ub (.bool b)=some { v:=.bool b }:=rfl
@[simp] theorem retA_int (ub:Nat) (k:IntKind) (b:Int):Xv ub (.int k b)=some { v:=.int k b }:=rfl
@[simp] theorem retA_str (ub:Nat) (s:List UInt8):Xv ub (.str s)=some { v:=.str s }:=rfl
@[simp] theorem j4e (ub:Nat) (k k':IntKind) (b b':Int):Xv ub (.tup [.int k b,.int k' b'])=some { v:=.tup [.int k b,.int k' b'] }:=rfl
@[simp] theorem jz7 (ub:Nat) (nl:Bool) (n:Nat) (cs:List V):Xv ub (.sl none nl n cs)=some { v:=.sl none nl n cs }:=rfl
theorem jp4 {E:Env} {Yf:YF} {st:St} {ub:Nat} {K:St→Nat→Prop} {d:Option Nat} {nm:Bool} {f:FuncId} {xs:List A} {vs:List V} {v:V} (hx:xs.map (eval E st.tm)=vs) (hs:E.sh nm f=false) (hp:(vs.all fun v=>v.strip.pureTop)=true)
 (hv:Ev E f (vs.map V.strip) v) (h:wpD (Xv ub v) fun δ=>K (st.app d δ) (ub+64)):j9 E Yf ⟨d,.call f xs,none,nm⟩ st ub K :=
 juk ⟨by rw [hx];exact ⟨hs,hp⟩,v,by rw [hx];exact hv,h⟩
def C.one:C→Bool
 | .region ops=>ops.all fun o=>o.op.next?.isNone
 | .pin o _=>o.op.next?.isNone
 | .seq a b | .cond _ a b=>a.one && b.one
 | .block _ a | .loop a=>a.one
 | _=>true
def Single {α:Type} (o:Option (List α)):Prop:=∀ l,o=some l→∃ x,l=[x]
theorem Single.bindL {α β:Type} {m:Option (List α)} {f:α→Option (List β)} (hm:Single m) (hf:∀ a,Single (f a)):Single (bindL m f):=by
 intro l h
 cases hm':m with
 | none=>rw [hm'] at h;cases h
 | some asg =>
  obtain ⟨a,rfl⟩:=hm asg hm'
  rw [hm'] at h
  exact hf a l h
theorem Single.map {α β:Type} {m:Option (List α)} {f:α→β} (hm:Single m):Single (m.map fun l=>l.map f):=by
 intro l h
 cases hm':m with
 | none=>rw [hm'] at h;cases h
 | some asg =>
  obtain ⟨a,rfl⟩:=hm asg hm'
  rw [hm'] at h
  cases h
  exact ⟨f a,rfl⟩
theorem Single.none {α:Type}:Single (none:Option (List α)):=fun _ h=>by cases h
theorem Single.some {α:Type} (x:α):Single (some [x]):=fun _ h=>⟨x,by cases h;rfl⟩
theorem Single.opt {α β:Type} {m:Option α} {f:α→β}:Single (m.map fun a=>[f a]):=by
 intro l h
 cases m with
 | none=>cases h
 | some a=>cases h;exact ⟨f a,rfl⟩
section
variable {E:Env} {Yf:YF}
theorem jmk {call:Callers} (hc:∀ f a ob tk ro b u,Single (call.s f a ob tk ro b u)) {o:AOpr} {st:St} {ub:Nat} (h:o.op.next?.isNone=true):Single (Q3 E call o st ub):=by
 have hn:o.op.next? = .none:=by simpa using h
 unfold Q3
 split
 ·split
  ·exact Single.opt
  ·split
   ·split
    ·exact Single.map (hc _ _ _ _ _ _ _)
    ·exact Single.opt
   ·rw [hn]
    exact Single.opt
 ·exact Single.some _
 ·exact Single.none
theorem jm1 {call:Callers} (hc:∀ f a ob tk ro b u,Single (call.s f a ob tk ro b u)):∀ {ops:List AOpr} {st:St} {ub:Nat},(ops.all fun o=>o.op.next?.isNone)=true→Single (jgc E call ops st ub)
 | [],_,_,_=>Single.some _
 | o::r,st,ub,h=>by
  simp only [List.all_cons,Bool.and_eq_true] at h
  exact Single.bindL (jmk hc h.1) fun x=>jm1 hc h.2
theorem jji {body:St→j21} (hb:∀ st,Single (body st)):∀ (n:Nat) (st:St),Single (jar body n st)
 | 0,_=>Single.none
 | n+1,st=>Single.bindL (hb st) fun x=>by
  obtain ⟨e,s⟩:=x
  cases e
  ·exact jji hb n s
  ·exact Single.some _
  ·exact Single.some _
theorem jts {call:Y→Callers} (hc:∀ y f a ob tk ro b u,Single ((call y).s f a ob tk ro b u)) {y:Y} {N:Nat}:∀ {c:C} {st:St},c.one=true→Single (jc E call y N c st):=by
 intro c
 induction c with
 | skip=>intro st _;exact Single.some _
 | ret=>intro st _;exact Single.some _
 | exit i=>intro st _;exact Single.some _
 | stuck=>intro st _;exact Single.none
 | region ops=>intro st h;simp only [jc];exact Single.map (jm1 (hc y) h)
 | pin o fs =>
  intro st h
  simp only [jc]
  refine Single.bindL (jmk (hc y) h) fun x=>?_
  intro l h
  obtain ⟨p,_,h⟩:=bind_some h
  split at h
  ·cases h;exact ⟨_,rfl⟩
  ·cases h
 | draw ops free =>
  intro st _ l h
  simp only [jc] at h
  cases hd:Y0 E (call y) ops st st.nx with
  | none=>rw [hd] at h;cases h
  | some p =>
   rw [hd,Option.bind_some] at h
   split at h
   ·cases h;exact ⟨_,rfl⟩
   ·cases h
 | seq a b iha ihb =>
  intro st h
  simp only [C.one,Bool.and_eq_true] at h
  simp only [jc]
  refine Single.bindL (iha h.1) fun x=>?_
  obtain ⟨e,s⟩:=x
  cases e
  ·exact ihb h.2
  ·exact Single.some _
  ·exact Single.some _
 | cond q a b iha ihb =>
  intro st h
  simp only [C.one,Bool.and_eq_true] at h
  simp only [jc]
  split
  ·exact iha h.1
  ·exact ihb h.2
  ·exact Single.none
 | block i a ih=>intro st h;simp only [jc];exact Single.map (ih h)
 | loop a ih=>intro st h;simp only [jc];exact jji (fun s=>ih h) N st
 | rangeFunc f ps a b =>
  intro st _ l h
  simp only [jc] at h
  split at h
  ·simp only [Option.bind_eq_some_iff] at h
   obtain ⟨r,_,h⟩:=h
   split at h
   ·split at h
    ·cases h;exact ⟨_,rfl⟩
    ·cases h
   ·cases h
  ·cases h
theorem jl2 (hE:∀ f,E.mn f=false):∀ (n:Nat) (y:Y) (f a ob tk ro b u),Single ((jQ E n y).s f a ob tk ro b u)
 | 0,_,_,_,_,_,_,_,_=>Single.none
 | n+1,y,f,a,ob,tk,ro,b,u=>by
  intro l h
  simp only [jQ,hE,Bool.false_eq_true,if_false] at h
  split at h
  ·obtain ⟨_,_,h⟩:=bind_some h
   obtain ⟨_,_,h⟩:=bind_some h
   obtain ⟨x,_,rfl⟩:=map_some h
   exact ⟨x,rfl⟩
  ·split at h
   ·obtain ⟨x,_,rfl⟩:=map_some h
    exact ⟨x,rfl⟩
   ·obtain ⟨_,_,h⟩:=bind_some h
    obtain ⟨_,_,h⟩:=bind_some h
    split at h
    ·obtain ⟨x,_,rfl⟩:=map_some h
     exact ⟨x,rfl⟩
    ·cases h
theorem jm2 {c:C} {st:St} {Q:Ex→St→Prop} (h1:c.one=true) (h:wpC E Yf c st Q) (hE:∀ f,E.mn f=false):∃ n x,jc E (jQ E n) (Yf.y n) n c st=some [x]∧Q x.1 x.2:=by
 obtain ⟨n,l,hl,_,hq⟩:=juc h
 obtain ⟨x,rfl⟩:=jts (jl2 hE n) h1 l hl
 exact ⟨n,x,hl,hq x (List.mem_singleton.2 rfl)⟩
theorem EvO_wp {f:FuncId} {af:AF} {args:List V} {ob:ZO} {tk:Nat→Bool} {base ub:Nat} {r:V} (hf:E.fs f=some af)
 (h:wpC E noYF af.body (Jj args ob (fun _=>false) ub base ub) fun e s=>ja3 af.res (e,s)=some r) (hz:E.fz f=false:=by rfl):EvO E f args ob tk base ub r:=by
 obtain ⟨n,l,h1,h2,h3⟩:=juc h
 refine ⟨n+1,?_⟩
 simp only [jQ,hf,Option.bind_some,hz,Bool.false_eq_true,if_false]
 rw [show jc E (jQ E n) noY n af.body (Jj args ob (fun _=>false) ub base ub)=some l from h1]
 exact jk8 h2 h3
theorem jt7 {y:Nat→Y} {f:FuncId} {args:List V} {ob:ZO} {tk:Nat→Bool} {ro base ub:Nat} {r:V × (ZO) × (Nat→Bool) × Nat} (hs:E.srt f=true) (hr:jqk ob tk ro ub args=some r) (hz:E.tw f=false:=by rfl):EvS E y f args ob tk ro base ub r:=by
 refine ⟨1,?_⟩
 simp only [jQ,hz,hs,Bool.false_eq_true,if_false,if_true,hr,Option.map_some]
theorem Qb {f:FuncId} {af:AF} {args:List V} {ob:ZO} {tk:Nat→Bool} {ro base ub:Nat} {P:V × (ZO) × (Nat→Bool) × Nat→Prop} (hf:E.fs f=some af) (h1:af.body.one=true)
 (h:wpC E Yf af.body (Jj args ob tk ro base ub) fun e s=>∃ r,endS af.res (e,s)=some r∧P r) (hz:E.tw f=false:=by rfl) (hs:E.srt f=false:=by rfl) (hE:∀ f,E.mn f=false:=by intro _;rfl):∃ r,EvS E Yf.y f args ob tk ro base ub r∧P r:=by
 obtain ⟨n,x,hx,r,hr,hP⟩:=jm2 h1 h hE
 refine ⟨r,⟨n+1,?_⟩,hP⟩
 simp only [jQ,hf,Option.bind_some,hz,hs,Bool.false_eq_true,if_false]
 rw [jd (Jq n n (Nat.le_refl _)) (Nat.le_refl _) af.body _ _ (Yf.mono (Nat.le_succ n)) _ _ hx]
 simp only [Option.bind_some,hE,Bool.false_eq_true,if_false,hr,Option.map_some]
theorem jsg {α β:Type} {f:α→Option β} {P:β→Prop}:∀ {l:List α},(∀ x∈l,∃ r,f x=some r∧P r)→∃ L,l.mapM f=some L∧L.length=l.length∧∀ r∈L,P r
 | [],_=>⟨[],rfl,rfl,fun _ h=>by cases h⟩
 | x::l,h=>by
  obtain ⟨r,h1,h2⟩:=h x (List.mem_cons_self ..)
  obtain ⟨L,h3,h4,h5⟩:=jsg (l:=l) fun y hy=>h y (List.mem_cons_of_mem _ hy)
  refine ⟨r::L,by simp only [List.mapM_cons,h1,h3];rfl,by simp [h4],fun z hz=>?_⟩
  rcases List.mem_cons.1 hz with rfl | hz
  ·exact h2
  ·exact h5 z hz
theorem jh6 {f:FuncId} {af:AF} {args:List V} {ob:ZO} {tk:Nat→Bool} {ro base ub:Nat} {P:V × (ZO) × (Nat→Bool) × Nat→Prop} (hf:E.fs f=some af)
 (h:wpC E Yf af.body (Jj args ob tk ro base ub) fun e s=>∃ r,endS af.res (e,s)=some r∧P r) (hz:E.tw f=false:=by rfl) (hs:E.srt f=false:=by rfl) (hm:E.mn f=true:=by rfl):EvSL E Yf.y f args ob tk ro base ub P:=by
 obtain ⟨n,l,h1,h2,h3⟩:=juc h
 obtain ⟨L,h4,h5,h6⟩:=jsg (f:=endS af.res) (P:=P) fun x hx=>h3 x hx
 refine ⟨n+1,L,?_,fun e=>?_,h6⟩
 ·simp only [jQ,hf,Option.bind_some,hz,hs,Bool.false_eq_true,if_false]
  rw [jd (Jq n n (Nat.le_refl _)) (Nat.le_refl _) af.body _ _ (Yf.mono (Nat.le_succ n)) _ _ h1]
  simp only [Option.bind_some,hm,if_true]
  exact h4
 ·subst e
  exact h2 (List.length_eq_zero_iff.1 h5.symm)
def jf1 (E:Env) (Yf:YF) (asg bd:C) (st:St) (ps:List Nat) (l u:Nat):YF where
 y n:=QT (jc E (jQ E n) (Yf.y n) n asg) (jc E (jQ E n) (Yf.y n) n bd) st ps l u
 mono h:=jdx (fun s=>jd (JT _ _ h) h asg _ _ (Yf.mono h) s) (fun s=>jd (JT _ _ h) h bd _ _ (Yf.mono h) s) st ps l u
def WM (l u:Nat) (e:Ex) (s:St):V × (ZO) × (Nat→Bool) × Nat:=match e with
 | .nrm=>(.bool true,upd s.ob l (some ⟨u,.loop .ready none⟩),s.tk,s.nx)
 | e=>(.bool false,upd s.ob l (some ⟨u,.loop .done (some e)⟩),s.tk,s.nx)
theorem jff {asg bd:C} {st:St} {ps:List Nat} {l u:Nat} {xs:List V} {ob:ZO} {tk:Nat→Bool} {ro ub:Nat} {P:V × (ZO) × (Nat→Bool) × Nat→Prop} (hl:xs.length=ps.length) (hro:ro≤u) (hob:ob l=some ⟨u,.loop .ready none⟩)
 (ha:asg.one=true) (hb:bd.one=true)
 (h:wpC E Yf asg { tm:=jdo st.tm ps xs,ob,tk,ro,nx:=ub,fb:=st.fb,df:=[] } fun e s1=>e = .nrm∧s1.ob l=some ⟨u,.loop .ready none⟩ ∧
  wpC E Yf bd { s1 with ob:=upd s1.ob l (some ⟨u,.loop .busy none⟩) } fun e s2=>s2.ob l=some ⟨u,.loop .busy none⟩∧P (WM l u e s2)) (hE:∀ f,E.mn f=false:=by intro _;rfl):∃ r,EvY (jf1 E Yf asg bd st ps l u) l u xs ob tk ro ub r∧P r:=by
 obtain ⟨n,⟨e,s1⟩,h1,he,ho1,h2⟩:=jm2 ha h hE
 simp only at he ho1 h2
 subst he
 obtain ⟨m,⟨e,s2⟩,h3,ho2,hP⟩:=jm2 hb h2 hE
 simp only at ho2 hP
 refine ⟨WM l u e s2,⟨max n m,?_⟩,hP⟩
 have k1:=jd (JT (E:=E) n (max n m) (by omega)) (show n≤max n m by omega) asg _ _ (Yf.mono (show n≤max n m by omega)) _ _ h1
 have k2:=jd (JT (E:=E) m (max n m) (by omega)) (show m≤max n m by omega) bd _ _ (Yf.mono (show m≤max n m by omega)) _ _ h3
 have hble:Nat.ble ro u=true:=Nat.ble_eq ▸ hro
 simp only [jf1,QT,hl,hble,and_self,if_true,hob,k1,ho1,k2,ho2]
 cases e <;> rfl
theorem WG {f:A} {ps:List Nat} {asg bd:C} {st:St} {Q:Ex→St→Prop} {g:FuncId} {first captured:List V} (hf:eval E st.tm f = .fn (.func g) first captured)
 (h:∃ r,EvS E (jf1 E Yf asg bd st ps (2 * st.nx+1) st.nx).y g (first++[.yld (2 * st.nx+1) st.nx]++captured)
  (upd (upd st.ob (2 * st.nx+3) (some ⟨st.nx+1,.dfr⟩)) (2 * st.nx+1) (some ⟨st.nx,.loop .ready none⟩)) st.tk st.ro ((st.fb+1023) * 1024) (st.nx+64) r ∧
  ∃ s pend,r.2.1 (2 * st.nx+1)=some ⟨st.nx,.loop s pend⟩∧s≠.busy∧st.ro≤st.nx ∧
   Q (pend.getD .nrm) { st with ob:=fun k=>if Nat.beq (2 * st.nx+1) k then none else r.2.1 k,tk:=r.2.2.1,nx:=r.2.2.2,df:=(2 * st.nx+3,st.nx+1)::st.df }):wpC E Yf (.rangeFunc f ps asg bd) st Q:=by
 obtain ⟨⟨v,ob,tk,ub⟩,⟨n,hr⟩,s,pend,h1,h2,h3,h4⟩:=h
 have hble:Nat.ble st.ro st.nx=true:=Nat.ble_eq ▸ h3
 refine ⟨n,[(pend.getD .nrm,_)],?_,List.cons_ne_nil _ _,fun x hx=>by rw [List.mem_singleton] at hx;subst hx;exact h4⟩
 simp only [jc,hf]
 have hr':(jQ E n (QT (jc E (jQ E n) (Yf.y n) n asg) (jc E (jQ E n) (Yf.y n) n bd) st ps (2 * st.nx+1) st.nx)).s g (first++[.yld (2 * st.nx+1) st.nx]++captured)
  (upd (upd st.ob (2 * st.nx+3) (some ⟨st.nx+1,.dfr⟩)) (2 * st.nx+1) (some ⟨st.nx,.loop .ready none⟩)) st.tk st.ro ((st.fb+1023) * 1024) (st.nx+64)=some [(v,ob,tk,ub)]:=hr
 simp only at h1
 simp only [hr',only,Option.bind_some,h1,h2,ne_eq,not_false_eq_true,hble,and_self,if_true]
theorem jh9 {q:A} {xs:List A} {st:St} {ub:Nat} {K:St→Nat→Prop} {d:Option Nat} {nm:Bool} {l u:Nat} (hq:eval E st.tm q = .yld l u)
 (h:∃ r,EvY Yf l u (xs.map (eval E st.tm)) st.ob st.tk st.ro ub r∧K { st with tm:=put st.tm d r.1,ob:=r.2.1,tk:=r.2.2.1 } r.2.2.2):j9 E Yf ⟨d,.callV q xs,none,nm⟩ st ub K:=by
 simp only [j9,wanted,jg,hq]
 exact h
theorem jp3 {f:FuncId} {xs:List A} {st:St} {ub:Nat} {K:St→Nat→Prop} {d:Option Nat} {nm:Bool} (hs:E.sh nm f=false) (hp:((xs.map (eval E st.tm)).all fun v=>v.strip.pureTop)=false)
 (h:∃ v,EvO E f (xs.map (eval E st.tm)) st.ob st.tk ((st.fb+d.getD 0+1) * 1024) ub v∧wpD (Xv ub v) fun δ=>K (st.app d δ) (ub+64)):j9 E Yf ⟨d,.call f xs,none,nm⟩ st ub K:=by
 have hp':(xs.all fun x=>(eval E st.tm x).strip.pureTop)=false:=by rw [List.all_map] at hp;exact hp
 have hsh:jB E nm (eval E st.tm) (.call f xs)=some (f,xs.map (eval E st.tm)):=by simp only [jB,hs,hp',Bool.not_false,Bool.true_and,Bool.false_eq_true,if_false]
 simp only [j9,wanted,jg,hsh]
 obtain ⟨v,hv,δ,hδ,hK⟩:=h
 exact .inr ⟨hs,v,hv,δ,hδ,hK⟩
end
def jP (d:Option Nat) (nm:Bool) (fb ub:Nat):Nat:=cond nm (2 * ub+1) (2 * (fb+d.getD 0))
theorem jr2 (d fb ub:Nat):jP (some d) false fb ub=2 * (fb+d):=rfl
theorem jec (d:Option Nat) (fb ub:Nat):jP d true fb ub=2 * ub+1:=rfl
theorem Jz (d:Option Nat) (op:AOp) (nm:Bool) (fb ub:Nat):AOpr.name ⟨d,op,none,nm⟩ fb ub=jP d nm fb ub:=by cases nm <;> rfl
def ja9 (st:St) (sz:Nat) (x:V) (K:Delta→Prop):V→Prop
 | .ptr l u off=>∃ cs,j1 st.ob l u=some cs∧st.ro≤u∧x.cells.length=sz∧off+sz≤cs.length∧x.cells.all V.leaf=true∧K { v:=jx,obs:=[(l,⟨u,.cells (j7 cs off x.cells)⟩)] }
 | _=>False
theorem jkg (st:St) (sz:Nat) (x:V) (K:Delta→Prop) (l u off:Nat):ja9 st sz x K (.ptr l u off) = ∃ cs,j1 st.ob l u=some cs∧st.ro≤u∧x.cells.length=sz∧off+sz≤cs.length∧x.cells.all V.leaf=true∧K { v:=jx,obs:=[(l,⟨u,.cells (j7 cs off x.cells)⟩)] }:=rfl
section
variable {E:Env} {Yf:YF} {st:St} {ub:Nat} {K:St→Nat→Prop} {d:Option Nat} {nm:Bool}
theorem jp6 {z:List V}:j9 E Yf ⟨d,.alloc z,none,nm⟩ st ub K=K (st.app d { v:=.ptr (jP d nm st.fb ub) ub 0,obs:=[(jP d nm st.fb ub,⟨ub,.cells z⟩)] }) (ub+64):=by
 rw [jS _ rfl rfl];simp only [aop,Jb,jN,Jz]
theorem jza {sz:Nat} {x:A}:j9 E Yf ⟨d,.box sz x,none,nm⟩ st ub K=(((eval E st.tm x).cells.length=sz∧(eval E st.tm x).cells.all V.leaf=true)∧K (st.app d { v:=.ptr (jP d nm st.fb ub) ub 0,obs:=[(jP d nm st.fb ub,⟨ub,.cells (eval E st.tm x).cells⟩)] }) (ub+64)):=by
 rw [jS _ rfl rfl];simp only [aop,Jb,jde,jN,Jz]
theorem jpy {sz:Nat} {p x:A}:j9 E Yf ⟨d,.store sz p x,none,nm⟩ st ub K=ja9 st sz (eval E st.tm x) (fun δ=>K (st.app d δ) (ub+64)) (eval E st.tm p):=by
 rw [jS _ rfl rfl]
 simp only [aop]
 generalize eval E st.tm p=vp
 cases vp <;> simp only [Qu,ja9]
 rename_i l u off
 cases j1 st.ob l u with
 | none=>simp [wpD]
 | some cs=>simp only [Option.bind_some,jde,jN,Option.some.injEq,exists_eq_left',Nat.ble_eq,and_assoc]
end
attribute [simp] jr2 jec jj5 j2t j9x j9z j90 j91 j9y jl Jr
@[simp] theorem j9r (cs:List V):(V.agg cs).cells=cs:=rfl
@[simp] theorem j3k (b:Bool):(V.bool b).cells=[.bool b]:=rfl
@[simp] theorem j9q (k:IntKind) (n:Int):(V.int k n).cells=[.int k n]:=rfl
@[simp] theorem j9n (s:List UInt8):(V.str s).cells=[.str s]:=rfl
@[simp] theorem cells_sl (t:Option (Nat × Nat)) (b:Bool) (n:Nat) (cs:List V):(V.sl t b n cs).cells=[.sl t b n cs]:=rfl
@[simp] theorem j2m (t:TypeId) (v:V):(V.iface t v).cells=[.iface t v]:=rfl
@[simp] theorem j75 (b:Bool):(V.bool b).leaf=true:=rfl
@[simp] theorem leaf_int (k:IntKind) (n:Int):(V.int k n).leaf=true:=rfl
@[simp] theorem leaf_str (s:List UInt8):(V.str s).leaf=true:=rfl
@[simp] theorem leaf_sl (t:Option (Nat × Nat)) (b:Bool) (n:Nat) (cs:List V):(V.sl t b n cs).leaf=true:=rfl
@[simp] theorem j3i (t:TypeId) (v:V):(V.iface t v).leaf=true:=rfl
@[simp] theorem j3h:V.nilif.leaf=true:=rfl
@[simp] theorem j2l:V.nilif.cells=[.nilif]:=rfl
@[simp] theorem jua (off l u o:Nat):WA off (.ptr l u o)=some (.ptr l u (o+off)):=rfl
@[simp] theorem jtl (off:Nat) (cs:List V) (o:Nat):WA off (.eptr cs o)=some (.eptr cs (o+off)):=rfl
@[simp] theorem YB (k:Nat) (cs:List V) (off:Nat):Y5 (some k) cs off=if off+k≤cs.length then some (.agg ((cs.drop off).take k)) else none:=rfl
@[simp] theorem j28 (cs vs:List V) (h:vs.length=cs.length):j7 cs 0 vs=vs:=by simp [j7,← h]
def kOps (E:Env) (Yf:YF) (r:List AOpr) (K:St→Prop):St→Nat→Prop:=fun st ub=>WZ E Yf r st ub K
def kNrm (Q:Ex→St→Prop):St→Prop:=fun s=>Q .nrm s
def jlk (E:Env) (Yf:YF) (b:C) (Q:Ex→St→Prop):Ex→St→Prop:=fun e s=>match e with
 | .nrm=>wpC E Yf b s Q
 | e=>Q e s
def j8k (i:Nat) (Q:Ex→St→Prop):Ex→St→Prop:=fun e s=>match e with
 | .exit j=>if j=i then Q .nrm s else Q (.exit j) s
 | e=>Q e s
def QC (K:St→Nat→Prop) (st:St) (d:Option Nat) (ub:Nat):V→Prop:=fun v=>K (st.setT d v) (ub+64)
def QP (K:St→Nat→Prop) (st:St) (d:Option Nat) (ub:Nat):Delta→Prop:=fun δ=>K (st.app d δ) (ub+64)
def kIf (E:Env) (Yf:YF) (a b:C) (st:St) (Q:Ex→St→Prop):Bool→Prop
 | true=>wpC E Yf a st Q
 | false=>wpC E Yf b st Q
def kGd (E:Env) (Yf:YF) (o:AOpr) (st:St) (ub:Nat) (K:St→Nat→Prop):Bool→Prop
 | true=>j9 E Yf o st ub K
 | false=>K (st.setT o.dst jx) ub
def js0 (I:Nat→St→Prop) (k:Nat) (Q:Ex→St→Prop):Ex→St→Prop:=fun e s=>match e with
 | .nrm=>∃ j,j<k∧I j s
 | e=>Q e s
def jym (res:List ARes) (r:V):Ex→St→Prop:=fun e s=>ja3 res (e,s)=some r
def ifK:V→(Bool→Prop)→Prop
 | .bool c,k=>k c
 | _,_=>False
def gdK:V→Bool→(Bool→Prop)→Prop
 | .bool c,b,k=>k (c == b)
 | .tup [],_,k=>k false
 | _,_,_=>False
section
variable {E:Env} {Yf:YF} {st:St} {ub:Nat} {K:St→Nat→Prop} {d:Option Nat} {nm:Bool} {Q:Ex→St→Prop}
theorem jwt {r:List AOpr} {K:St→Prop}:kOps E Yf r K st ub=WZ E Yf r st ub K:=propext Iff.rfl
theorem jwu:kNrm Q st=Q .nrm st:=propext Iff.rfl
theorem jhn {b:C}:jlk E Yf b Q .nrm st=wpC E Yf b st Q:=propext Iff.rfl
theorem jsm {b:C} {i:Nat}:jlk E Yf b Q (.exit i) st=Q (.exit i) st:=propext Iff.rfl
theorem jna {b:C}:jlk E Yf b Q .ret st=Q .ret st:=propext Iff.rfl
theorem jw4 {i:Nat}:j8k i Q .nrm st=Q .nrm st:=propext Iff.rfl
theorem jjt {i j:Nat}:j8k i Q (.exit j) st=if j=i then Q .nrm st else Q (.exit j) st:=propext Iff.rfl
theorem jw3 {i:Nat}:j8k i Q .ret st=Q .ret st:=propext Iff.rfl
theorem jwe {v:V}:QC K st d ub v=K (st.setT d v) (ub+64):=propext Iff.rfl
theorem jav {δ:Delta}:QP K st d ub δ=K (st.app d δ) (ub+64):=propext Iff.rfl
theorem jwv {a b:C}:kIf E Yf a b st Q true=wpC E Yf a st Q:=propext Iff.rfl
theorem js1 {a b:C}:kIf E Yf a b st Q false=wpC E Yf b st Q:=propext Iff.rfl
theorem jww {o:AOpr}:kGd E Yf o st ub K true=j9 E Yf o st ub K:=propext Iff.rfl
theorem js2 {o:AOpr}:kGd E Yf o st ub K false=K (st.setT o.dst jx) ub:=propext Iff.rfl
theorem jsz {I:Nat→St→Prop} {k:Nat}:js0 I k Q .nrm st = ∃ j,j<k∧I j st:=propext Iff.rfl
theorem jo8 {I:Nat→St→Prop} {k i:Nat}:js0 I k Q (.exit i) st=Q (.exit i) st:=propext Iff.rfl
theorem jsy {I:Nat→St→Prop} {k:Nat}:js0 I k Q .ret st=Q .ret st:=propext Iff.rfl
theorem jw6 {c:Bool} {k:Bool→Prop}:ifK (.bool c) k=k c:=propext Iff.rfl
theorem jxa {c b:Bool} {k:Bool→Prop}:gdK (.bool c) b k=k (c == b):=propext Iff.rfl
theorem jw9 {b:Bool} {k:Bool→Prop}:gdK jx b k=k false:=propext Iff.rfl
theorem j1y {b:Bool} {k:Bool→Prop}:gdK (.tup []) b k=k false:=propext Iff.rfl
theorem j1p:wpC E Yf .skip st Q=Q .nrm st:=propext Iff.rfl
theorem j8i:wpC E Yf .ret st Q=Q .ret st:=propext Iff.rfl
theorem j1q {i:Nat}:wpC E Yf (.exit i) st Q=Q (.exit i) st:=propext Iff.rfl
theorem jws {K:St→Prop}:WZ E Yf [] st ub K=K (st.setN ub):=propext Iff.rfl
theorem jtd {ops:List AOpr}:wpC E Yf (.region ops) st Q=WZ E Yf ops st st.nx (kNrm Q):=propext Iff.rfl
theorem jyn {a b:C}:wpC E Yf (.seq a b) st Q=wpC E Yf a st (jlk E Yf b Q):=propext Iff.rfl
theorem jne {i:Nat} {a:C}:wpC E Yf (.block i a) st Q=wpC E Yf a st (j8k i Q):=propext Iff.rfl
theorem j1s {c:A} {a b:C}:wpC E Yf (.cond c a b) st Q=ifK (eval E st.tm c) (kIf E Yf a b st Q):=by
 rw [juq]
 cases h:eval E st.tm c <;> simp [wpIf,ifK]
 rename_i t
 cases t <;> simp [kIf]
theorem jsx {o:AOpr} {r:List AOpr} {K:St→Prop}:WZ E Yf (o::r) st ub K=j9 E Yf o st ub (kOps E Yf r K):=propext Iff.rfl
theorem jlj {op:AOp} {t:Nat} {b:Bool}:j9 E Yf ⟨d,op,some (t,b),nm⟩ st ub K=gdK (st.tm t) b (kGd E Yf ⟨d,op,none,nm⟩ st ub K):=by
 rw [jh8]
 cases h:st.tm t with
 | bool c=>cases c <;> cases b <;> simp [Qe,gdK,kGd]
 | tup l=>cases l <;> simp [Qe,gdK,kGd]
 | _=>simp [Qe,gdK]
theorem j77 {x:A}:j9 E Yf ⟨d,.mov x,none,nm⟩ st ub K=QC K st d ub (eval E st.tm x):=jy9
theorem jwq {z:List V}:j9 E Yf ⟨d,.alloc z,none,nm⟩ st ub K=QP K st d ub { v:=.ptr (jP d nm st.fb ub) ub 0,obs:=[(jP d nm st.fb ub,⟨ub,.cells z⟩)] }:=jp6
theorem j79 {sz:Nat} {x:A}:j9 E Yf ⟨d,.box sz x,none,nm⟩ st ub K=(((eval E st.tm x).cells.length=sz∧(eval E st.tm x).cells.all V.leaf=true)∧QP K st d ub { v:=.ptr (jP d nm st.fb ub) ub 0,obs:=[(jP d nm st.fb ub,⟨ub,.cells (eval E st.tm x).cells⟩)] }):=jza
theorem jwf {sz:Nat} {p x:A}:j9 E Yf ⟨d,.store sz p x,none,nm⟩ st ub K=ja9 st sz (eval E st.tm x) (QP K st d ub) (eval E st.tm p):=jpy
theorem jwl {t:TypeId} {x:A}:j9 E Yf ⟨d,.iface t x,none,nm⟩ st ub K=QC K st d ub (.iface t (eval E st.tm x)):=by rw [jS _ rfl rfl];simp only [aop,WF,Q1];rfl
def jh1 (t:TypeId) (zero:V) (ok:Bool):V→Option V
 | .iface t' v=>if t'=t then some (if ok then .tup [v,.bool true] else v) else if ok then some (.tup [zero,.bool false]) else none
 | .nilif=>if ok then some (.tup [zero,.bool false]) else none
 | _=>none
theorem jsw {t:TypeId} {zero:V} {ok:Bool} {x:A}:j9 E Yf ⟨d,.assert t zero ok x,none,nm⟩ st ub K=wpV (jh1 t zero ok (eval E st.tm x)) (QC K st d ub):=by
 refine JU rfl rfl fun du=>?_
 simp only [aop,jh1]
 generalize eval E st.tm x=vx
 cases vx with
 | iface t' v=>by_cases h:t'=t <;> cases ok <;> simp [h,one]
 | nilif=>cases ok <;> rfl
 | _=>rfl
theorem j08 {f:Fn} {a b:List A}:j9 E Yf ⟨d,.mkFn f a b,none,nm⟩ st ub K=QC K st d ub (.fn f (a.map (eval E st.tm)) (b.map (eval E st.tm))):=juh
theorem j05 {c a b:A}:j9 E Yf ⟨d,.pick c a b,none,nm⟩ st ub K=wpV (jvm (eval E st.tm c) (eval E st.tm a) (eval E st.tm b)) (QC K st d ub):=juf
theorem j8a {op:BinOp} {x y:A}:j9 E Yf ⟨d,.bin op x y,none,nm⟩ st ub K=wpV (Ya op (eval E st.tm x) (eval E st.tm y)) (QC K st d ub):=jzb
theorem kS_un {op:UnOp} {x:A}:j9 E Yf ⟨d,.un op x,none,nm⟩ st ub K=wpV (unV op (eval E st.tm x)) (QC K st d ub):=j3o
theorem kS_eq {neg:Bool} {k:EqK} {x y:A}:j9 E Yf ⟨d,.eq neg k x y,none,nm⟩ st ub K=wpV (jxn st.ob neg k (eval E st.tm x) (eval E st.tm y)) (QC K st d ub):=j3p
theorem j09 {g:Option Nat} {x:A}:j9 E Yf ⟨d,.load g x,none,nm⟩ st ub K=wpV (Yb st.ob g (eval E st.tm x)) (QC K st d ub):=jui
theorem jlm {x:A}:j9 E Yf ⟨d,.nilCheck x,none,nm⟩ st ub K=wpV (jap (eval E st.tm x)) (QC K st d ub):=jia
theorem jjn {off:Nat} {x:A}:j9 E Yf ⟨d,.fieldAddr off x,none,nm⟩ st ub K=wpV (WA off (eval E st.tm x)) (QC K st d ub):=jg2
theorem jwm {sz:Nat} {x i:A}:j9 E Yf ⟨d,.idxSl sz x i,none,nm⟩ st ub K=wpV (JL sz (eval E st.tm x) (eval E st.tm i)) (QC K st d ub):=jp1
theorem jsu {len sz:Nat} {x i:A}:j9 E Yf ⟨d,.idxArr len sz x i,none,nm⟩ st ub K=wpV (Qq len sz (eval E st.tm x) (eval E st.tm i)) (QC K st d ub):=jn4
theorem j06 {g:Option Nat} {off:Nat} {x:A}:j9 E Yf ⟨d,.part g off x,none,nm⟩ st ub K=wpV (j0h g off (eval E st.tm x)) (QC K st d ub):=jug
theorem jst {x i:A}:j9 E Yf ⟨d,.idxStr x i,none,nm⟩ st ub K=wpV (Ws (eval E st.tm x) (eval E st.tm i)) (QC K st d ub):=jn3
theorem jss {g:Option Nat} {len sz:Nat} {x i:A}:j9 E Yf ⟨d,.idxVal g len sz x i,none,nm⟩ st ub K=wpV (jls g len sz (eval E st.tm x) (eval E st.tm i)) (QC K st d ub):=jn2
theorem jwg {x:A} {lo hi:Option A}:j9 E Yf ⟨d,.slStr x lo hi,none,nm⟩ st ub K=wpV (XT (lo.map (eval E st.tm)) (hi.map (eval E st.tm)) (eval E st.tm x)) (QC K st d ub):=jpz
theorem j04 {sz:Nat} {x:A} {lo hi:Option A}:j9 E Yf ⟨d,.slSl sz x lo hi,none,nm⟩ st ub K=wpV (Qf sz (lo.map (eval E st.tm)) (hi.map (eval E st.tm)) (eval E st.tm x)) (QC K st d ub):=jue
theorem jsq {x:A}:j9 E Yf ⟨d,.lenStr x,none,nm⟩ st ub K=wpV (jhk (eval E st.tm x)) (QC K st d ub):=jn0
theorem jwk {x:A}:j9 E Yf ⟨d,.lenSl x,none,nm⟩ st ub K=wpV (jas (eval E st.tm x)) (QC K st d ub):=jp0
theorem jsr {x:A}:j9 E Yf ⟨d,.lenMap x,none,nm⟩ st ub K=wpV (jhl st.ob (eval E st.tm x)) (QC K st d ub):=jn1
theorem jo7 {x:A} {i:Nat}:j9 E Yf ⟨d,.extract x i,none,nm⟩ st ub K=wpV (jc7 i (eval E st.tm x)) (QC K st d ub):=jkh
theorem j1a {k:IntKind} {x:A}:j9 E Yf ⟨d,.conv k x,none,nm⟩ st ub K=wpV (XR k (eval E st.tm x)) (QC K st d ub):=juj
theorem jso {b:Bool} {xs:List A}:j9 E Yf ⟨d,.minmax b xs,none,nm⟩ st ub K=wpV (Qk b (xs.map (eval E st.tm))) (QC K st d ub):=jny
theorem jwp {z:List V} {ps:List (Nat × Nat × A)}:j9 E Yf ⟨d,.build z ps,none,nm⟩ st ub K=wpV ((fill z (ju (eval E st.tm) ps)).map .agg) (QC K st d ub):=jp5
theorem jsp {q:LK} {z:V} {ok:Bool} {m k:A}:j9 E Yf ⟨d,.lookup q z ok m k,none,nm⟩ st ub K=wpV (Xx st.ob q z ok (eval E st.tm m) (eval E st.tm k)) (QC K st d ub):=jnz
end
attribute [simp ↓] j1p j8i j1q jtd jyn jne j1s jws jsx jlj j77 jwq j79 jwf jwl jsw j08 j05 j8a kS_un kS_eq j09 jlm jjn jwm jsu j06 jst jss jwg j04 jsq jwk jsr jo7 j1a jso jwp jsp
attribute [simp ↓] jwt jwu jhn jsm jna jw4 jjt jw3 jwe jav jwv js1 jww js2 jsz jo8 jsy
attribute [simp] jw6 jxa jw9 j1y jy7 jud jde jup jkg
def V.plain:V→Bool
 | .agg cs=>cs.all V.pureLeaf
 | .fn ..=>false
 | v=>v.pureLeaf
theorem Yi {st:St} {keep:Bool} {i:Nat} {v:V} (h:v.pureLeaf=true):jr st keep i v=some v:=by
 cases v with
 | sl t nl n cs=>cases t with
  | none=>rfl
  | some t=>cases h
 | _=>first | rfl | (simp [V.pureLeaf] at h;done) | (simp only [jr,JW,h,if_true])
theorem jmf {v:V} (h:v.pureLeaf=true):v.tok=[]:=by
 cases v with
 | sl t nl n cs=>cases t with
  | none=>rfl
  | some t=>cases h
 | _=>first | rfl | (simp [V.pureLeaf] at h;done)
theorem jcc {st:St} {keep:Bool}:∀ {i:Nat} {cs:List V},cs.all V.pureLeaf=true→XN st keep i cs=some cs
 | _,[],_=>rfl
 | i,c::cs,h=>by
  simp only [List.all_cons,Bool.and_eq_true] at h
  simp [XN,Yi h.1,jcc h.2]
theorem jre {st:St} {keep:Bool} {i:Nat} {v:V} (h:v.plain=true):XM st keep i v=some v:=by
 cases v with
 | agg cs=>simp [XM,jcc (show cs.all V.pureLeaf=true from h)]
 | fn=>cases h
 | _=>refine Eq.trans (b:=jr st keep i _) rfl (Yi ?_);exact h
theorem jbh {v:V} (h:v.plain=true):v.toks=[]:=by
 cases v with
 | agg cs =>
  simp only [V.toks,List.flatMap_eq_nil_iff]
  intro x hx
  exact jmf (List.all_eq_true.1 h x hx)
 | fn=>cases h
 | sl t nl n cs=>cases t with
  | none=>rfl
  | some t=>cases h
 | _=>first | rfl | cases h
theorem jak {st:St} {keep:Bool}:∀ {i:Nat} {l:List V},l.all V.plain=true→JD st keep i l=some l
 | _,[],_=>rfl
 | i,c::cs,h=>by
  simp only [List.all_cons,Bool.and_eq_true] at h
  simp [JD,jre h.1,jak h.2]
def jzk:List V→V
 | [v]=>v
 | l=>.tup l
theorem QH {res:List ARes} {st:St} {l:List V} (hd:st.df=[]) (hr:res.mapM (jm st)=some l) (hl:l.all V.plain=true):ja3 res (.ret,st)=some (jzk l):=by
 have ht:l.flatMap V.toks=[]:=by
  rw [List.flatMap_eq_nil_iff]
  intro x hx
  exact jbh (List.all_eq_true.1 hl x hx)
 simp only [ja3,YW hd,YO hd,if_true,hr,Option.bind_some,Yh,ht,nodup,jak hl,if_true]
 match l with
 | []=>rfl
 | [v]=>rfl
 | v::u::l=>rfl
theorem J3 {res:List ARes} {st:St} {r:V} {l:List V} (hd:st.df=[]) (hr:res.mapM (jm st)=some l) (hl:l.all V.plain=true) (h:jzk l=r):jym res r .ret st:=by
 subst h
 exact QH hd hr hl
attribute [simp] fill ju
theorem jev {ub:Nat} {v:V} (h:v.pureLeaf=true):Xq ub v=v:=by
 cases v with
 | sl t nl n cs=>cases t with
  | none=>rfl
  | some t=>cases h
 | _=>rfl
theorem jeu {ub:Nat} {v:V} (h:v.plain=true):jaz ub v=v:=by
 cases v with
 | agg cs =>
  have:cs.map (Xq ub)=cs:=by
   conv=>rhs;rw [← List.map_id cs]
   exact List.map_congr_left fun x hx=>jev (List.all_eq_true.1 h x hx)
  simp only [jaz,this]
 | sl t nl n cs=>exact jev h
 | _=>rfl
theorem YA {ub:Nat} {v:V} (h:v.plain=true):Xv ub v=some { v:=v }:=by
 have h1:toksRes v=[]:=by
  cases v with
  | tup vs=>cases h
  | _=>exact jbh h
 have h2:Qp ub v=v:=by
  cases v with
  | tup vs=>cases h
  | undef=>cases h
  | _=>exact jeu (ub:=ub) h
 simp [Xv,h1,h2]
theorem JH {ub:Nat} {l:List V} (h:l.all V.plain=true):Xv ub (.tup l)=some { v:=.tup l }:=by
 have h1:toksRes (.tup l)=[]:=by
  simp only [toksRes,List.flatMap_eq_nil_iff]
  intro x hx
  exact jbh (List.all_eq_true.1 h x hx)
 have h2:Qp ub (.tup l) = .tup l:=by
  have:l.map (jaz ub)=l:=by
   conv=>rhs;rw [← List.map_id l]
   exact List.map_congr_left fun x hx=>jeu (List.all_eq_true.1 h x hx)
  simp only [Qp,this]
 simp [Xv,h1,h2]
@[simp] theorem j2f (ob:ZO) (neg:Bool) (l:List LK) (a b:List V):jxn ob neg (.struct l) (.agg a) (.agg b)=(JQ l a b).map fun b=>.bool (xor neg b):=rfl
attribute [simp] JQ Wx
theorem jT {E:Env} {f:FuncId} {af:AF} {args:List V} {r:V} (hf:E.fc f=some af) (h:wpC E noYF af.body (QO args) (jym af.res r)):Ev E f args r:=Ev_wp hf h
theorem Yd {E:Env} {Yf:YF} {a:C} {Q:Ex→St→Prop} (I:Nat→St→Prop) {n:Nat} {st:St} (h0:I n st) (hs:∀ k s,I k s→wpC E Yf a s (js0 I k Q)):wpC E Yf (.loop a) st Q :=
 jy6 I h0 hs
theorem XY {E:Env} {Yf:YF} {st:St} {ub:Nat} {K:St→Nat→Prop} {d:Option Nat} {nm:Bool} {f:FuncId} {xs:List A} {vs:List V} {v:V} (hx:xs.map (eval E st.tm)=vs) (hs:E.sh nm f=false) (hp:(vs.all fun v=>v.strip.pureTop)=true)
 (hv:Ev E f (vs.map V.strip) v) (h:wpD (Xv ub v) (QP K st d ub)):j9 E Yf ⟨d,.call f xs,none,nm⟩ st ub K:=jp4 hx hs hp hv h
end Go.Pv
namespace Go.Pv.T
open Go Go.Pv Go.Proofs
noncomputable section
noncomputable def cf (m r:Bool) (f:Func):AF:=(j2g Tryz.prog m r f).getD ⟨.stuck,[]⟩
abbrev oo (d:Nat) (p:AOp):AOpr:=⟨some d,p,none,false⟩
abbrev qq (d:Nat) (p:AOp):AOpr:=⟨some d,p,none,true⟩
abbrev ou (p:AOp):AOpr:=⟨none,p,none,false⟩
abbrev qu (p:AOp):AOpr:=⟨none,p,none,true⟩
abbrev og (d:Nat) (p:AOp) (t:Nat) (b:Bool):AOpr:=⟨some d,p,some (t,b),false⟩
abbrev qg (d:Nat) (p:AOp) (t:Nat) (b:Bool):AOpr:=⟨some d,p,some (t,b),true⟩
abbrev oh (p:AOp) (t:Nat) (b:Bool):AOpr:=⟨none,p,some (t,b),false⟩
abbrev qh (p:AOp) (t:Nat) (b:Bool):AOpr:=⟨none,p,some (t,b),true⟩
abbrev ov (d k:Nat):AOpr:=⟨some d,.mov (.t k),none,false⟩
abbrev qv (d k:Nat):AOpr:=⟨some d,.mov (.t k),none,true⟩
abbrev nn (k:Int):A:=.c (.int .i64 k)
abbrev ol (d k:Nat):AOpr:=⟨some d,.load none (.t k),none,false⟩
abbrev os (d n k:Nat):AOpr:=⟨some d,.load (some n) (.t k),none,false⟩
abbrev ox (d s a b:Nat):AOpr:=⟨some d,.idxSl s (.t a) (.t b),none,false⟩
abbrev om (d:Nat) (k:Int):AOpr:=⟨some d,.mov (nn k),none,false⟩
abbrev oe (d k i:Nat):AOpr:=⟨some d,.extract (.t k) i,none,false⟩
abbrev of (d n k:Nat):AOpr:=⟨some d,.fieldAddr n (.t k),none,false⟩
abbrev on (d:Nat) (p:BinOp) (a:Nat) (k:Int):AOpr:=⟨some d,.bin p (.t a) (nn k),none,false⟩
abbrev ob (d:Nat) (p:BinOp) (a b:Nat):AOpr:=⟨some d,.bin p (.t a) (.t b),none,false⟩
abbrev ql (d k:Nat):AOpr:=⟨some d,.load none (.t k),none,true⟩
abbrev qs (d n k:Nat):AOpr:=⟨some d,.load (some n) (.t k),none,true⟩
abbrev qx (d s a b:Nat):AOpr:=⟨some d,.idxSl s (.t a) (.t b),none,true⟩
abbrev qm (d:Nat) (k:Int):AOpr:=⟨some d,.mov (nn k),none,true⟩
abbrev qe (d k i:Nat):AOpr:=⟨some d,.extract (.t k) i,none,true⟩
abbrev qf (d n k:Nat):AOpr:=⟨some d,.fieldAddr n (.t k),none,true⟩
abbrev qn (d:Nat) (p:BinOp) (a:Nat) (k:Int):AOpr:=⟨some d,.bin p (.t a) (nn k),none,true⟩
abbrev qb (d:Nat) (p:BinOp) (a b:Nat):AOpr:=⟨some d,.bin p (.t a) (.t b),none,true⟩
abbrev sr (l:List AOpr) (b:C):C:=.seq (.region l) b
abbrev aF:A:=.c (.bool false)
abbrev aT:A:=.c (.bool true)
abbrev fA:=AOp.fieldAddr
abbrev sq:=C.seq
abbrev rg:=C.region
abbrev lS:=AOp.lenSl
abbrev Z0:A:=.t 0
abbrev Z1:A:=.t 1
abbrev Z2:A:=.t 2
abbrev Z3:A:=.t 3
abbrev Z4:A:=.t 4
abbrev Z5:A:=.t 5
abbrev Z6:A:=.t 6
abbrev Z7:A:=.t 7
abbrev Z8:A:=.t 8
abbrev Z9:A:=.t 9
abbrev Z10:A:=.t 10
abbrev Z11:A:=.t 11
abbrev Z12:A:=.t 12
abbrev Z13:A:=.t 13
abbrev Z14:A:=.t 14
abbrev Z15:A:=.t 15
abbrev Z16:A:=.t 16
abbrev Z17:A:=.t 17
abbrev Z18:A:=.t 18
abbrev Z19:A:=.t 19
abbrev Z20:A:=.t 20
abbrev Z21:A:=.t 21
abbrev Z22:A:=.t 22
abbrev Z23:A:=.t 23
abbrev Z24:A:=.t 24
abbrev Z25:A:=.t 25
abbrev Z26:A:=.t 26
abbrev Z27:A:=.t 27
abbrev Z28:A:=.t 28
abbrev Z29:A:=.t 29
abbrev Z30:A:=.t 30
abbrev Z31:A:=.t 31
abbrev Z32:A:=.t 32
abbrev Z33:A:=.t 33
abbrev Z34:A:=.t 34
abbrev Z35:A:=.t 35
abbrev Z36:A:=.t 36
abbrev Z37:A:=.t 37
abbrev Z38:A:=.t 38
abbrev Z39:A:=.t 39
abbrev Z40:A:=.t 40
abbrev Z41:A:=.t 41
abbrev Z42:A:=.t 42
abbrev Z43:A:=.t 43
abbrev Z44:A:=.t 44
abbrev Z45:A:=.t 45
abbrev Z46:A:=.t 46
abbrev Z47:A:=.t 47
abbrev Z48:A:=.t 48
abbrev Z49:A:=.t 49
abbrev Z50:A:=.t 50
abbrev Z51:A:=.t 51
abbrev Z52:A:=.t 52
abbrev Z54:A:=.t 54
abbrev Z55:A:=.t 55
abbrev Z56:A:=.t 56
abbrev Z57:A:=.t 57
abbrev Z58:A:=.t 58
abbrev Z59:A:=.t 59
abbrev Z60:A:=.t 60
abbrev Z61:A:=.t 61
abbrev Z62:A:=.t 62
abbrev Z63:A:=.t 63
abbrev Z64:A:=.t 64
abbrev Z65:A:=.t 65
abbrev Z66:A:=.t 66
abbrev Z67:A:=.t 67
abbrev Z68:A:=.t 68
abbrev Z69:A:=.t 69
abbrev Z70:A:=.t 70
abbrev Z71:A:=.t 71
abbrev Z72:A:=.t 72
abbrev Z73:A:=.t 73
abbrev Z74:A:=.t 74
abbrev Z76:A:=.t 76
abbrev Z78:A:=.t 78
abbrev Z82:A:=.t 82
abbrev Z85:A:=.t 85
abbrev Z91:A:=.t 91
abbrev wT (d:Nat) (p:AOp) (t:Nat):AOpr:=og d p t true
abbrev wF (d:Nat) (p:AOp) (t:Nat):AOpr:=og d p t false
abbrev zT (d:Nat) (p:AOp) (t:Nat):AOpr:=qg d p t true
abbrev zF (d:Nat) (p:AOp) (t:Nat):AOpr:=qg d p t false
abbrev uT (p:AOp) (t:Nat):AOpr:=oh p t true
abbrev uF (p:AOp) (t:Nat):AOpr:=oh p t false
abbrev vT (p:AOp) (t:Nat):AOpr:=qh p t true
abbrev vF (p:AOp) (t:Nat):AOpr:=qh p t false
def F3:AF:=⟨sr [oo 4 (.box 3 Z1),oo 5 (.box 2 Z2),oo 6 (.mov aF)] (sq (.draw [os 8 3 4,oo 9 (.call 15 [Z8]),os 10 2 5,oo 11 (.call 16 [Z10]),ou (.store 3 Z4 Z9),ou (.store 2 Z5 Z11)] []) (sr [ov 12 0,os 13 3 4,os 14 2 5,oo 15 (.call 17 [Z12,Z13,Z14]),ov 7 15] (sq (.draw [ov 16 0,os 17 3 4,oo 18 (.call 15 [Z17]),os 19 2 5,oo 20 (.call 16 [Z19]),oo 21 (.call 18 [Z16,Z18,Z20]),ov 22 7,ob 23 .eql 21 22,ov 24 23,wT 25 (.mov Z0) 24,wT 26 (.load (some 3) Z4) 24,wT 27 (.call 15 [Z26]) 24,wT 28 (.load (some 2) Z5) 24,wT 29 (.call 16 [Z28]) 24,wT 30 (.call 19 [Z25,Z27,Z29]) 24,wT 31 (.mov Z7) 24,wT 32 (.bin .eql Z31 (nn 0)) 24,wT 33 (.eq false .bool Z30 Z32) 24,oo 34 (.pick Z24 Z33 aF),ov 35 34,wT 36 (.call 20 []) 35,oo 37 (.pick Z35 Z36 aF),ov 6 37] []) .ret))),[.t 6]⟩
def F15:AF:=⟨sr [qq 1 (.box 3 Z0),qq 2 (.alloc [(.sl none true 0 []),(.sl none true 0 []),(.sl none true 0 [])])] (sr [qs 4 3 1,qq 5 (.call 51 [Z4]),qu (.store 3 Z1 Z5)] (sq (sr [qf 6 2 1,ql 7 6,qq 8 (lS Z7),qn 9 .gtr 8 8] (.cond Z9 (rg [qf 10 2 1,qu (.store 1 Z10 (.c (.sl none true 0 [])))]) .skip)) (sq (sr [qm 3 0] (.block 0 (.loop (sq (sr [qv 11 3,qf 12 2 1,ql 13 12,qq 14 (lS Z13),qb 15 .lss 11 14] (.cond Z15 .skip (.exit 0))) (sq (.block 1 (.draw [qf 18 2 1,ql 19 18,qv 20 3,qf 21 2 1,ql 22 21,qv 23 3,qx 24 3 22 23,qf 25 2 24,ql 26 25,qf 27 2 1,ql 28 27,qv 29 3,qx 30 3 28 29,qf 31 2 30,ql 32 31,qq 33 (lS Z32),qq 34 (.minmax false [Z33,(nn 6)]),qq 35 (.slSl 4 Z26 none (some Z34)),qx 36 3 19 20,qf 37 2 36,qu (.store 1 Z37 Z35)] [])) (rg [qv 16 3,qn 17 .add 16 1,qv 3 17])))))) (sr [qs 38 3 1,qu (.store 3 Z2 Z38)] .ret)))),[.cell 2 (some 3)]⟩
def F16:AF:=⟨sr [oo 1 (.box 2 Z0),oo 2 (.alloc [(.sl none true 0 []),(.sl none true 0 [])])] (sq (.draw [of 3 0 1,ol 4 3,of 5 0 1,ol 6 5,oo 7 (lS Z6),oo 8 (.minmax false [Z7,(nn 60)]),oo 9 (.slSl 1 Z4 none (some Z8)),oo 10 (.call 25 [Z9]),of 11 1 1,ol 12 11,of 13 1 1,ol 14 13,oo 15 (lS Z14),oo 16 (.minmax false [Z15,(nn 60)]),oo 17 (.slSl 1 Z12 none (some Z16)),oo 18 (.call 25 [Z17]),oo 19 (.build [(.sl none true 0 []),(.sl none true 0 [])] [(0,1,Z10),(1,1,Z18)]),ou (.store 2 Z2 Z19)] []) .ret),[.cell 2 (some 2)]⟩
def F17:AF:=⟨sr [oo 4 (.box 3 Z1),oo 5 (.box 2 Z2),om 6 0] (sq (sr [os 7 3 4,oo 8 (.call 21 [Z7]),oo 9 (.un .not Z8)] (.cond Z9 (sr [om 6 4] .ret) .skip)) (sq (sr [ov 10 0,on 11 .lss 10 1,ov 12 11,wF 13 (.mov Z0) 12,wF 14 (.bin .gtr Z13 (nn 3)) 12,oo 15 (.pick Z12 aT Z14)] (.cond Z15 (sr [om 6 2] .ret) .skip)) (sq (sr [os 16 3 4,of 17 0 5,ol 18 17,oo 19 (.call 22 [Z16,Z18]),oo 20 (.un .not Z19),ov 21 20,wF 22 (.load (some 3) Z4) 21,wF 23 (fA 1 Z5) 21,wF 24 (.load none Z23) 21,wF 25 (.call 23 [Z22,Z24]) 21,wF 26 (.un .not Z25) 21,oo 27 (.pick Z21 aT Z26),ov 28 27,wF 29 (.mov Z0) 28,wF 30 (.load (some 3) Z4) 28,wF 31 (fA 0 Z5) 28,wF 32 (.load none Z31) 28,wF 33 (fA 1 Z5) 28,wF 34 (.load none Z33) 28,wF 35 (.call 24 [Z29,Z30,Z32,Z34]) 28,wF 36 (.un .not Z35) 28,oo 37 (.pick Z28 aT Z36)] (.cond Z37 (sr [om 6 14] .ret) .skip)) (sr [om 6 0] .ret)))),[.t 6]⟩
def F18:AF:=⟨sr [qq 4 (.box 3 Z1),qq 5 (.box 2 Z2),qm 6 0] (sq (.block 0 (sr [qs 8 3 4,qq 9 (.call 52 [Z8]),qq 10 (.un .not Z9),qv 7 10] (.cond Z7 (sr [qm 6 4] .ret) (sr [qv 12 0,qn 13 .lss 12 1,qv 14 13,zF 15 (.mov Z0) 14,zF 16 (.bin .gtr Z15 (nn 3)) 14,qq 17 (.pick Z14 aT Z16),qv 11 17] (.cond Z11 (sr [qm 6 2] .ret) (sq (.seq (.draw [qs 19 3 4,qf 20 0 5,ql 21 20,qq 22 (.call 53 [Z19,Z21]),qq 23 (.un .not Z22),qv 24 23,zF 25 (.load (some 3) Z4) 24,zF 26 (fA 1 Z5) 24,zF 27 (.load none Z26) 24,zF 28 (.call 54 [Z25,Z27]) 24,zF 29 (.un .not Z28) 24,qq 30 (.pick Z24 aT Z29),qv 31 30,zF 32 (.mov Z0) 31,zF 33 (.load (some 3) Z4) 31,zF 34 (fA 0 Z5) 31,zF 35 (.load none Z34) 31,qu (.mov (.c (.tup []))),zF 37 (fA 1 Z5) 31,zF 38 (.load none Z37) 31] []) (sq (.pin (qg 36 (.call 55 [Z32,Z33,Z35]) 31 false) [zF 37 (fA 1 Z5) 31,zF 38 (.load none Z37) 31]) (rg [zF 39 (.call 56 [Z36,Z38]) 31,zF 40 (.un .not Z39) 31,qq 41 (.pick Z31 aT Z40),qv 18 41]))) (.cond Z18 (sr [qm 6 14] .ret) .skip))))))) (sr [qm 6 0] .ret)),[.t 6]⟩
def F19:AF:=⟨sr [oo 4 (.box 3 Z1),oo 5 (.box 2 Z2),oo 6 (.mov aF)] (sr [ov 7 0,os 8 3 4,os 9 2 5,oo 10 (.call 18 [Z7,Z8,Z9]),on 11 .eql 10 0,ov 6 11] .ret),[.t 6]⟩
def F20:AF:=⟨sr [oo 0 (.mov aF)] (sr [oo 5 (.call 57 [(.c (.str [98,101,103,105,110,32,115,10,114,101,97,100,32,115,32,120,32,110,105,108,10,111,107,32,115]))]),ov 4 5,oe 6 4 0,oe 7 4 1,oe 8 4 2,oo 1 (.alloc [(.sl none true 0 []),(.sl none true 0 []),(.sl none true 0 [])]),ou (.store 3 Z1 Z6),ov 2 7,ov 3 8] (sr [ov 9 3,on 10 .eql 9 0,ov 11 10,wT 12 (.load (some 3) Z1) 11,wT 13 (.buildSl false 1 [(.int .i64 0)] [(0,1,(nn (-1)))] 1) 11,wT 14 (.buildSl false 1 [(.int .i64 0)] [(0,1,(nn 0))] 1) 11,og 15 (.build [(.sl none true 0 []),(.sl none true 0 [])] [(0,1,Z13),(1,1,Z14)]) 11 true,wT 16 (.call 18 [(nn 3),Z12,Z15]) 11,wT 17 (.bin .eql Z16 (nn 0)) 11,oo 18 (.pick Z11 Z17 aF),ov 19 18,wT 20 (.load (some 3) Z1) 19,wT 21 (.buildSl false 1 [(.int .i64 0)] [(0,1,(nn (-1)))] 1) 19,og 22 (.build [(.sl none true 0 []),(.sl none true 0 [])] [(0,1,Z21)]) 19 true,wT 23 (.call 18 [(nn 3),Z20,Z22]) 19,wT 24 (.bin .eql Z23 (nn 14)) 19,oo 25 (.pick Z19 Z24 aF),ov 26 25,wT 27 (.load (some 3) Z1) 26,wT 28 (.buildSl false 1 [(.int .i64 0)] [(0,1,(nn (-1)))] 1) 26,wT 29 (.buildSl false 1 [(.int .i64 0)] [(0,1,(nn 0))] 1) 26,og 30 (.build [(.sl none true 0 []),(.sl none true 0 [])] [(0,1,Z28),(1,1,Z29)]) 26 true,wT 31 (.call 19 [(nn 1),Z27,Z30]) 26,oo 32 (.pick Z26 Z31 aF),ov 0 32] .ret)),[.t 0]⟩
def F21:AF:=⟨sr [oo 1 (.box 3 Z0),oo 2 (.mov aF)] (sq (.draw [os 3 3 1,oo 4 (.call 58 [Z3]),on 5 .eql 4 0,ov 6 5,wT 7 (.load (some 3) Z1) 6,wT 8 (.call 59 [Z7]) 6,wT 9 (lS Z8) 6,wT 10 (.load (some 3) Z1) 6,wT 11 (.call 60 [Z10]) 6,wT 12 (lS Z11) 6,wT 13 (.bin .add Z9 Z12) 6,wT 14 (.bin .eql Z13 (nn 0)) 6,oo 15 (.pick Z6 Z14 aF),ov 2 15] []) .ret),[.t 2]⟩
def F22:AF:=⟨sr [oo 2 (.box 3 Z0),oo 4 (.mov aF)] (sq (sr [os 7 3 2,oo 8 (.call 21 [Z7]),oo 9 (.un .not Z8)] (.cond Z9 (sr [oo 4 (.mov aF)] .ret) .skip)) (sr [os 10 3 2,oo 11 (.call 61 [Z10]),ov 5 11] (sq (sr [ov 12 1,oo 13 (lS Z12),ov 14 5,oo 15 (lS Z14),ob 16 .neq 13 15] (.cond Z16 (sr [oo 4 (.mov aF)] .ret) .skip)) (sq (sr [om 6 0] (.block 0 (.loop (sq (sr [ov 17 6,ov 18 5,oo 19 (lS Z18),ob 20 .lss 17 19] (.cond Z20 .skip (.exit 0))) (sq (.block 1 (sq (.draw [ov 23 5,ov 24 6,ox 25 1 23 24,ol 26 25,ov 27 1,ov 28 6,ox 29 1 27 28,ol 30 29,oo 31 (.call 62 [Z26,Z30]),oo 32 (.un .not Z31)] []) (.cond Z32 (sr [oo 4 (.mov aF)] .ret) .skip))) (rg [ov 21 6,on 22 .add 21 1,ov 6 22])))))) (sr [oo 4 (.mov aT)] .ret))))),[.t 4]⟩
def F23:AF:=⟨sr [oo 2 (.box 3 Z0),oo 4 (.mov aF)] (sq (sr [os 7 3 2,oo 8 (.call 21 [Z7]),oo 9 (.un .not Z8)] (.cond Z9 (sr [oo 4 (.mov aF)] .ret) .skip)) (sr [os 10 3 2,oo 11 (.call 39 [Z10]),ov 5 11] (sq (sr [ov 12 5,oo 13 (lS Z12),ov 14 1,oo 15 (lS Z14),ob 16 .neq 13 15] (.cond Z16 (sr [oo 4 (.mov aF)] .ret) .skip)) (sq (sr [om 6 0] (.block 0 (.loop (sq (sr [ov 17 6,ov 18 1,oo 19 (lS Z18),ob 20 .lss 17 19] (.cond Z20 .skip (.exit 0))) (sq (.block 1 (sq (.draw [ov 23 5,ov 24 1,ov 25 6,ox 26 1 24 25,ol 27 26,oo 28 (.call 62 [Z23,Z27]),oo 29 (.un .not Z28),ov 30 29,wF 31 (.mov Z1) 30,wF 32 (.mov Z6) 30,wF 33 (.slSl 1 Z31 none (some Z32)) 30,wF 34 (.mov Z1) 30,wF 35 (.mov Z6) 30,wF 36 (.idxSl 1 Z34 Z35) 30,wF 37 (.load none Z36) 30,wF 38 (.call 62 [Z33,Z37]) 30,oo 39 (.pick Z30 aT Z38)] []) (.cond Z39 (sr [oo 4 (.mov aF)] .ret) .skip))) (rg [ov 21 6,on 22 .add 21 1,ov 6 22])))))) (sr [oo 4 (.mov aT)] .ret))))),[.t 4]⟩
def F24:AF:=⟨sr [oo 5 (.box 3 Z1),oo 8 (.mov aF)] (sq (.draw [os 19 3 5,oo 20 (.call 39 [Z19]),os 21 3 5,oo 22 (.call 31 [Z21]),ov 9 20,ov 10 22] []) (sq (sr [om 11 0] (.block 0 (.loop (sq (sr [ov 23 11,ov 24 9,oo 25 (lS Z24),ob 26 .lss 23 25] (.cond Z26 .skip (.exit 0))) (sq (.block 1 (sq (.seq (.draw [os 29 3 5,ov 30 9,ov 31 11,ox 32 1 30 31,ol 33 32,oo 34 (.call 40 [Z29,Z33]),oo 35 (lS Z34),on 36 .gtr 35 0] []) (.cond Z36 (sr [oo 8 (.mov aF)] .ret) .skip)) (sr [om 12 0] (.block 2 (.loop (sq (sr [ov 37 12,ov 38 11,ob 39 .lss 37 38] (.cond Z39 .skip (.exit 2))) (sq (.block 3 (sq (.draw [of 42 2 5,ol 43 42,ov 44 9,ov 45 12,ox 46 1 44 45,ol 47 46,ox 48 3 43 47,of 49 0 48,ol 50 49,of 51 2 5,ol 52 51,ov 53 9,ov 54 11,ox 55 1 53 54,ol 56 55,ox 57 3 52 56,of 58 0 57,ol 59 58,ob 60 .eql 50 59,ov 61 60,wT 62 (.mov Z3) 61,wT 63 (.mov Z9) 61,wT 64 (.mov Z12) 61,wT 65 (.idxSl 1 Z63 Z64) 61,wT 66 (.load none Z65) 61,wT 67 (.call 63 [Z62,Z66]) 61,wT 68 (.mov Z3) 61,wT 69 (.mov Z9) 61,wT 70 (.mov Z11) 61,wT 71 (.idxSl 1 Z69 Z70) 61,wT 72 (.load none Z71) 61,wT 73 (.call 63 [Z68,Z72]) 61,wT 74 (.bin .geq Z67 Z73) 61,oo 75 (.pick Z61 Z74 aF)] []) (.cond (.t 75) (sr [oo 8 (.mov aF)] .ret) .skip))) (rg [ov 40 12,on 41 .add 40 1,ov 12 41])))))))) (rg [ov 27 11,on 28 .add 27 1,ov 11 28])))))) (sq (sr [om 13 0] (.block 4 (.loop (sq (sr [ov 76 13,ov 77 10,oo 78 (lS (.t 77)),ob 79 .lss 76 78] (.cond (.t 79) .skip (.exit 4))) (sq (.block 5 (sr [ov 82 10,ov 83 13,ox 84 2 82 83,os 85 2 84,oo 14 (.alloc [(.int .i64 0),(.int .i64 0)]),ou (.store 2 Z14 Z85)] (sq (.seq (.draw [ov 86 2,ov 87 13,ox 88 1 86 87,ol 89 88,on 90 .geq 89 0,ov 91 90,wT 92 (.mov Z3) 91,wT 93 (.mov Z2) 91,wT 94 (.mov Z13) 91,wT 95 (.idxSl 1 (.t 93) (.t 94)) 91,wT 96 (.load none (.t 95)) 91,wT 97 (.call 63 [.t 92,.t 96]) 91,wT 98 (.mov Z3) 91,wT 99 (fA 0 Z14) 91,wT 100 (.load none (.t 99)) 91,wT 101 (.call 63 [.t 98,.t 100]) 91,wT 102 (.bin .geq (.t 97) (.t 101)) 91,oo 103 (.pick Z91 (.t 102) aF)] []) (.cond (.t 103) (sr [oo 8 (.mov aF)] .ret) .skip)) (sr [ov 104 0,os 105 3 5,ov 106 2,ov 107 3,ov 108 13,oo 109 (.call 33 [.t 104,.t 105,.t 106,.t 107,.t 108]),ov 15 109] (sr [om 16 0] (.block 6 (.loop (sq (sr [ov 110 16,ov 111 15,oo 112 (lS (.t 111)),ob 113 .lss 110 112] (.cond (.t 113) .skip (.exit 6))) (sq (.block 7 (sq (.draw [os 117 3 5,ov 118 15,ov 119 16,ox 120 1 118 119,ol 121 120,of 122 2 5,ol 123 122,of 124 0 14,ol 125 124,ox 126 3 123 125,of 127 2 126,ol 128 127,of 129 1 14,ol 130 129,ox 131 4 128 130,of 132 1 131,ol 133 132,oo 134 (.call 64 [.t 117,.t 121,.t 133]),ov 116 134,oe 135 116 0,oe 136 116 1,oo 17 (.alloc [(.int .i64 0),(.int .i64 0)]),ou (.store 2 Z17 (.t 135)),ov 18 136] [(0,21),(4,21),(6,21),(8,21),(11,21),(13,21),(16,21),(17,21)]) (sq (.draw [ov 137 15,ov 138 16,ox 139 1 137 138,ol 140 139,ov 141 2,ov 142 13,ox 143 1 141 142,ol 144 143,ob 145 .neq 140 144,ov 146 145,wT 147 (.mov Z18) 146,oo 148 (.pick (.t 146) (.t 147) aF),ov 149 148,wT 150 (.mov Z3) 149,wT 151 (.mov Z15) 149,wT 152 (.mov Z16) 149,wT 153 (.idxSl 1 (.t 151) (.t 152)) 149,wT 154 (.load none (.t 153)) 149,wT 155 (.call 63 [.t 150,.t 154]) 149,wT 156 (.mov Z3) 149,wT 157 (.mov Z2) 149,wT 158 (.mov Z13) 149,wT 159 (.idxSl 1 (.t 157) (.t 158)) 149,wT 160 (.load none (.t 159)) 149,wT 161 (.call 63 [.t 156,.t 160]) 149,wT 162 (.bin .geq (.t 155) (.t 161)) 149,oo 163 (.pick (.t 149) (.t 162) aF)] []) (.cond (.t 163) (sr [oo 8 (.mov aF)] .ret) .skip)))) (rg [ov 114 16,on 115 .add 114 1,ov 16 115])))))))))) (rg [ov 80 13,on 81 .add 80 1,ov 13 81])))))) (sr [oo 8 (.mov aT)] .ret)))),[.t 8]⟩
def F25:AF:=⟨sr [oo 2 (.mov (.c (.sl none true 0 [])))] (sr [oo 3 (.buildSl false 1 [] [] 0),ov 4 0,oo 5 (.append false 1 8 Z3 Z4),ov 2 5] .ret),[.t 2]⟩
def F31:AF:=⟨sr [oo 1 (.box 3 Z0),oo 2 (.mov (.c (.sl none true 0 [])))] (sr [oo 7 (.buildSl false 2 [] [] 0),ov 3 7] (sq (sr [om 4 0] (.block 0 (.loop (sq (sr [ov 8 4,of 9 2 1,ol 10 9,oo 11 (lS Z10),ob 12 .lss 8 11] (.cond Z12 .skip (.exit 0))) (sq (.block 1 (sr [om 5 0] (.block 2 (.loop (sq (sr [ov 15 5,of 16 2 1,ol 17 16,ov 18 4,ox 19 3 17 18,of 20 2 19,ol 21 20,oo 22 (lS Z21),ob 23 .lss 15 22] (.cond Z23 .skip (.exit 2))) (sq (.block 3 (sr [ov 26 4,ov 27 5,oo 28 (.build [(.int .i64 0),(.int .i64 0)] [(0,1,Z26),(1,1,Z27)]),oo 6 (.alloc [(.int .i64 0),(.int .i64 0)]),ou (.store 2 Z6 Z28)] (sr [of 29 2 1,ol 30 29,ov 31 4,ox 32 3 30 31,of 33 1 32,ol 34 33,on 35 .eql 34 1,ov 36 35,wT 37 (.load (some 3) Z1) 36,wT 38 (.load (some 2) Z6) 36,wT 39 (.call 74 [Z37,Z38]) 36,oo 40 (.pick Z36 Z39 aF)] (.cond Z40 (rg [ov 41 3,os 42 2 6,oo 43 (.buildSl false 2 [(.int .i64 0),(.int .i64 0)] [(0,2,Z42)] 1),oo 44 (.append false 2 16 Z41 Z43),ov 3 44]) .skip)))) (rg [ov 24 5,on 25 .add 24 1,ov 5 25]))))))) (rg [ov 13 4,on 14 .add 13 1,ov 4 14])))))) (sr [ov 45 3,ov 2 45] .ret))),[.t 2]⟩
def F33:AF:=⟨sr [oo 6 (.box 3 Z1),oo 10 (.mov (.c (.sl none true 0 [])))] (sr [os 18 3 6,oo 19 (.call 31 [Z18]),oo 20 (.buildSl false 1 [] [] 0),ov 11 19,ov 12 20] (sr [ov 21 11,ov 22 4,ox 23 2 21 22,os 24 2 23,oo 13 (.alloc [(.int .i64 0),(.int .i64 0)]),ou (.store 2 Z13 Z24)] (sr [os 25 3 6,ov 26 11,ov 27 2,of 28 0 13,ol 29 28,oo 30 (.call 75 [Z25,Z26,Z27,Z29]),ov 14 30] (sq (sr [om 15 0] (.block 0 (.loop (sq (sr [ov 31 15,of 32 2 6,ol 33 32,oo 34 (lS Z33),ob 35 .lss 31 34] (.cond Z35 .skip (.exit 0))) (sq (.block 1 (sr [oo 16 (.mov aF)] (sq (sr [ov 38 0] (.block 2 (sr [on 40 .eql 38 1,ov 39 40] (.cond Z39 (sr [om 17 0] (.block 3 (.loop (sq (sr [ov 41 17,ov 42 11,oo 43 (lS Z42),ob 44 .lss 41 43] (.cond Z44 .skip (.exit 3))) (sq (.block 4 (.draw [ov 47 16,ov 48 47,wF 49 (.mov Z11) 48,wF 50 (.mov Z17) 48,wF 51 (.idxSl 2 Z49 Z50) 48,wF 52 (fA 0 Z51) 48,wF 53 (.load none Z52) 48,wF 54 (fA 0 Z13) 48,wF 55 (.load none Z54) 48,wF 56 (.bin .eql (.t 53) Z55) 48,wF 57 (.mov Z56) 48,wT 58 (.mov Z11) 57,wT 59 (.mov Z17) 57,wT 60 (.idxSl 2 Z58 Z59) 57,wT 61 (fA 1 Z60) 57,wT 62 (.load none Z61) 57,wT 63 (fA 1 Z13) 57,wT 64 (.load none Z63) 57,wT 65 (.bin .lss Z62 Z64) 57,wF 66 (.pick Z57 Z65 aF) 48,wF 67 (.mov Z66) 48,wT 68 (.mov Z2) 67,wT 69 (.mov Z17) 67,wT 70 (.idxSl 1 Z68 Z69) 67,wT 71 (.load none Z70) 67,wT 72 (.mov Z15) 67,wT 73 (.bin .eql Z71 Z72) 67,wF 74 (.pick Z67 Z73 aF) 48,oo 75 (.pick Z48 aT Z74),ov 16 75] [])) (rg [ov 45 17,on 46 .add 45 1,ov 17 46])))))) (sr [on 77 .eql 38 2,ov 76 77] (.cond Z76 (rg [ov 78 14,ov 79 15,ox 80 1 78 79,ol 81 80,ov 16 81]) (sr [on 83 .eql 38 3,ov 82 83] (.cond Z82 (.draw [of 84 2 6,ol 85 84,ov 86 15,ox 87 3 85 86,of 88 1 87,ol 89 88,on 90 .eql 89 1,ov 91 90,wT 92 (.mov Z3) 91,wT 93 (.mov Z15) 91,wT 94 (.call 63 [.t 92,.t 93]) 91,wT 95 (.mov Z3) 91,wT 96 (fA 0 Z13) 91,wT 97 (.load none (.t 96)) 91,wT 98 (.call 63 [.t 95,.t 97]) 91,wT 99 (.bin .lss (.t 94) (.t 98)) 91,oo 100 (.pick Z91 (.t 99) aF),ov 16 100] []) .skip)))))))) (sr [ov 101 16] (.cond (.t 101) (rg [ov 102 12,ov 103 15,oo 104 (.buildSl false 1 [(.int .i64 0)] [(0,1,(.t 103))] 1),oo 105 (.append false 1 8 (.t 102) (.t 104)),ov 12 105]) .skip))))) (rg [ov 36 15,on 37 .add 36 1,ov 15 37])))))) (sr [ov 106 12,ov 10 106] .ret))))),[.t 10]⟩
def F39:AF:=⟨sr [oo 1 (.box 3 Z0),oo 2 (.mov (.c (.sl none true 0 [])))] (sr [oo 5 (.buildSl false 1 [] [] 0),ov 3 5] (sq (sr [om 4 0] (.block 0 (.loop (sq (sr [ov 6 4,of 7 2 1,ol 8 7,oo 9 (lS Z8),ob 10 .lss 6 9] (.cond Z10 .skip (.exit 0))) (sq (.block 1 (sr [of 13 2 1,ol 14 13,ov 15 4,ox 16 3 14 15,of 17 1 16,ol 18 17,on 19 .eql 18 1] (.cond Z19 (rg [ov 20 3,ov 21 4,oo 22 (.buildSl false 1 [(.int .i64 0)] [(0,1,Z21)] 1),oo 23 (.append false 1 8 Z20 Z22),ov 3 23]) .skip))) (rg [ov 11 4,on 12 .add 11 1,ov 4 12])))))) (sr [ov 24 3,ov 2 24] .ret))),[.t 2]⟩
def F40:AF:=⟨sr [oo 2 (.box 3 Z0),oo 4 (.mov (.c (.sl none true 0 [])))] (sr [oo 10 (.buildSl false 1 [] [] 0),ov 5 10] (sq (sr [os 11 3 2,oo 12 (.call 58 [Z11]),on 13 .neq 12 0,ov 14 13,wF 15 (.mov Z1) 14,wF 16 (.bin .lss Z15 (nn 0)) 14,oo 17 (.pick Z14 aT Z16),ov 18 17,wF 19 (.mov Z1) 18,wF 20 (fA 2 Z2) 18,wF 21 (.load none Z20) 18,wF 22 (lS Z21) 18,wF 23 (.bin .geq Z19 Z22) 18,oo 24 (.pick Z18 aT Z23)] (.cond Z24 (sr [ov 25 5,ov 4 25] .ret) .skip)) (sr [of 26 2 2,ol 27 26,ov 28 1,ox 29 3 27 28,os 30 3 29,oo 6 (.alloc [(.int .i64 0),(.int .i64 0),(.sl none true 0 [])]),ou (.store 3 Z6 Z30)] (sq (sr [om 7 0] (.block 0 (.loop (sq (sr [ov 31 7,of 32 2 6,ol 33 32,oo 34 (lS Z33),ob 35 .lss 31 34] (.cond Z35 .skip (.exit 0))) (sq (.block 1 (sq (.draw [os 39 3 6,ov 40 7,of 41 2 6,ol 42 41,ov 43 7,ox 44 4 42 43,of 45 1 44,ol 46 45,oo 47 (.call 84 [Z39,Z40,Z46]),ov 38 47,oe 48 38 0,oe 49 38 1,oo 8 (.alloc [(.int .i64 0),(.int .i64 0)]),ou (.store 2 Z8 Z48),ov 9 49] [(0,12),(3,12),(7,12),(8,12)]) (sq (.draw [of 50 2 6,ol 51 50,ov 52 7,ox 53 4 51 52,of 54 0 53,ol 55 54,oo 56 (.un .not Z55),ov 57 56,wT 58 (.mov Z9) 57,oo 59 (.pick Z57 Z58 aF),ov 60 59,wT 61 (fA 2 Z6) 60,wT 62 (.load none Z61) 60,wT 63 (.mov Z7) 60,wT 64 (.idxSl 4 Z62 Z63) 60,wT 65 (fA 2 Z64) 60,wT 66 (fA 0 Z65) 60,wT 67 (.load none Z66) 60,wT 68 (.bin .neq Z67 (nn 2)) 60,oo 69 (.pick Z60 Z68 aF),ov 70 69,wT 71 (fA 2 Z6) 70,wT 72 (.load none Z71) 70,wT 73 (.mov Z7) 70,wT 74 (.idxSl 4 Z72 Z73) 70,wT 75 (fA 2 Z74) 70,wT 76 (.load (some 2) (.t 75)) 70,wT 77 (.load (some 2) Z8) 70,wT 78 (.eq true (.struct [.int,.int]) Z76 (.t 77)) 70,oo 79 (.pick Z70 Z78 aF)] []) (.cond (.t 79) (rg [ov 80 5,ov 81 7,oo 82 (.buildSl false 1 [(.int .i64 0)] [(0,1,(.t 81))] 1),oo 83 (.append false 1 8 (.t 80) Z82),ov 5 83]) .skip)))) (rg [ov 36 7,on 37 .add 36 1,ov 7 37])))))) (sr [ov 84 5,ov 4 84] .ret))))),[.t 4]⟩
def F52:AF:=⟨sr [oo 1 (.box 3 Z0),oo 2 (.mov aF)] (sr [os 3 3 1,oo 4 (.call 103 [Z3]),on 5 .eql 4 0,ov 6 5,wT 7 (.load (some 3) Z1) 6,wT 8 (.call 104 [Z7]) 6,wT 9 (lS Z8) 6,wT 10 (.bin .eql Z9 (nn 0)) 6,oo 11 (.pick Z6 Z10 aF),ov 12 11,wT 13 (.load (some 3) Z1) 12,wT 14 (.call 105 [Z13]) 12,wT 15 (lS Z14) 12,wT 16 (.bin .eql Z15 (nn 0)) 12,oo 17 (.pick Z12 Z16 aF),ov 2 17] .ret),[.t 2]⟩
def F53:AF:=⟨sr [oo 2 (.box 3 Z0),oo 4 (.mov aF)] (sr [os 9 3 2,ov 10 1,oo 11 (.call 106 [Z9,Z10]),ov 8 11,oe 12 8 0,oe 13 8 1,oe 14 8 2,ov 5 12,ov 6 13,ov 7 14] (sr [ov 15 7,ov 4 15] .ret)),[.t 4]⟩
def F54:AF:=⟨sr [oo 2 (.box 3 Z0),oo 4 (.mov aF)] (sr [ov 6 1,oo 7 (.call 68 [Z6]),ov 5 7] (sr [ov 8 5,oo 9 (.call 69 [Z8])] (sr [ov 10 5,os 11 3 2,oo 12 (.call 71 [Z11]),oo 13 (.call 70 [Z10,Z12]),ov 4 13] .ret))),[.t 4]⟩
def F57:AF:=cf false false Tryz.f57
def F58:AF:=⟨sr [qq 1 (.box 3 Z0),qm 2 0] (sq (sr [qf 9 0 1,ql 10 9,qq 11 (.call 110 [Z10]),qq 12 (.un .not Z11),qv 13 12,zF 14 (fA 1 Z1) 13,zF 15 (.load none Z14) 13,zF 16 (.call 110 [Z15]) 13,zF 17 (.un .not Z16) 13,qq 18 (.pick Z13 aT Z17),qv 19 18,zF 20 (fA 0 Z1) 19,zF 21 (.load none Z20) 19,zF 22 (lS Z21) 19,zF 23 (.bin .gtr Z22 (nn 20)) 19,qq 24 (.pick Z19 aT Z23),qv 25 24,zF 26 (fA 1 Z1) 25,zF 27 (.load none Z26) 25,zF 28 (lS Z27) 25,zF 29 (.bin .gtr Z28 (nn 40)) 25,qq 30 (.pick Z25 aT Z29),qv 31 30,zF 32 (fA 2 Z1) 31,zF 33 (.load none Z32) 31,zF 34 (lS Z33) 31,zF 35 (.bin .gtr Z34 (nn 40)) 31,qq 36 (.pick Z31 aT Z35)] (.cond Z36 (sr [qm 2 4] .ret) .skip)) (sq (.draw [qf 37 1 1,ql 38 37,qq 39 (lS Z38),qq 40 (.mkSl true 1 1 [(.bool false)] Z39 Z39),qf 41 0 1,ql 42 41,qq 43 (lS Z42),qq 44 (.mkSl true 1 1 [(.bool false)] Z43 Z43),qv 3 40,qv 4 44] [(3,5),(1,7),(3,7)]) (sq (sr [qm 5 0] (.block 0 (.loop (sq (sr [qv 45 5,qf 46 2 1,ql 47 46,qq 48 (lS Z47),qb 49 .lss 45 48] (.cond Z49 .skip (.exit 0))) (sq (.block 1 (sq (.seq (sq (.draw [qs 52 3 1,qf 53 2 1,ql 54 53,qv 55 5,qx 56 3 54 55,qs 57 3 56,qv 58 3] []) (rg [qq 59 (.call 111 [Z52,Z57,Z58]),qq 60 (.un .not Z59)])) (.cond Z60 (sr [qm 2 4] .ret) .skip)) (rg [qv 61 4,qf 62 2 1,ql 63 62,qv 64 5,qx 65 3 63 64,qf 66 0 65,ql 67 66,qx 68 1 61 67,qu (.store 1 Z68 aT)]))) (rg [qv 50 5,qn 51 .add 50 1,qv 5 51])))))) (sr [qq 6 (.mov aT)] (sq (sr [qm 7 0] (.block 2 (.loop (sq (sr [qv 69 7,qv 70 3,qq 71 (lS Z70),qb 72 .lss 69 71] (.cond Z72 .skip (.exit 2))) (sq (.block 3 (rg [qv 75 6,qv 76 75,zT 77 (.mov Z3) 76,zT 78 (.mov Z7) 76,zT 79 (.idxSl 1 (.t 77) Z78) 76,zT 80 (.load none (.t 79)) 76,qq 81 (.pick Z76 (.t 80) aF),qv 6 81])) (rg [qv 73 7,qn 74 .add 73 1,qv 7 74])))))) (sq (sr [qm 8 0] (.block 4 (.loop (sq (sr [qv 82 8,qv 83 4,qq 84 (lS (.t 83)),qb 85 .lss 82 84] (.cond Z85 .skip (.exit 4))) (sq (.block 5 (rg [qv 88 6,qv 89 88,zT 90 (.mov Z4) 89,zT 91 (.mov Z8) 89,zT 92 (.idxSl 1 (.t 90) Z91) 89,zT 93 (.load none (.t 92)) 89,qq 94 (.pick (.t 89) (.t 93) aF),qv 6 94])) (rg [qv 86 8,qn 87 .add 86 1,qv 8 87])))))) (sq (sr [qv 95 6,qq 96 (.un .not (.t 95))] (.cond (.t 96) (sr [qm 2 4] .ret) .skip)) (sr [qm 2 0] .ret)))))))),[.t 2]⟩
def F59:AF:=⟨sr [oo 1 (.box 3 Z0),oo 2 (.mov (.c (.sl none true 0 [])))] (sr [oo 5 (.buildSl false 1 [] [] 0),ov 3 5] (sq (sr [om 4 0] (.block 0 (.loop (sq (sr [ov 6 4,of 7 2 1,ol 8 7,oo 9 (lS Z8),ob 10 .lss 6 9] (.cond Z10 .skip (.exit 0))) (sq (.block 1 (sr [of 13 2 1,ol 14 13,ov 15 4,ox 16 3 14 15,of 17 1 16,ol 18 17,on 19 .eql 18 3] (.cond Z19 (rg [ov 20 3,ov 21 4,oo 22 (.buildSl false 1 [(.int .i64 0)] [(0,1,Z21)] 1),oo 23 (.append false 1 8 Z20 Z22),ov 3 23]) .skip))) (rg [ov 11 4,on 12 .add 11 1,ov 4 12])))))) (sr [ov 24 3,ov 2 24] .ret))),[.t 2]⟩
def F60:AF:=⟨sr [oo 1 (.box 3 Z0),oo 2 (.mov (.c (.sl none true 0 [])))] (sr [oo 6 (.buildSl false 2 [] [] 0),ov 3 6] (sq (sr [om 4 0] (.block 0 (.loop (sq (sr [ov 7 4,of 8 2 1,ol 9 8,oo 10 (lS Z9),ob 11 .lss 7 10] (.cond Z11 .skip (.exit 0))) (sq (.block 1 (sr [om 5 0] (.block 2 (.loop (sq (sr [ov 14 5,of 15 2 1,ol 16 15,ov 17 4,ox 18 3 16 17,of 19 2 18,ol 20 19,oo 21 (lS Z20),ob 22 .lss 14 21] (.cond Z22 .skip (.exit 2))) (sq (.block 3 (sr [of 25 2 1,ol 26 25,ov 27 4,ox 28 3 26 27,of 29 2 28,ol 30 29,ov 31 5,ox 32 4 30 31,of 33 2 32,of 34 0 33,ol 35 34,on 36 .eql 35 2] (.cond Z36 (rg [ov 37 3,ov 38 4,ov 39 5,oo 40 (.build [(.int .i64 0),(.int .i64 0)] [(0,1,Z38),(1,1,Z39)]),oo 41 (.buildSl false 2 [(.int .i64 0),(.int .i64 0)] [(0,2,Z40)] 1),oo 42 (.append false 2 16 Z37 Z41),ov 3 42]) .skip))) (rg [ov 23 5,on 24 .add 23 1,ov 5 24]))))))) (rg [ov 12 4,on 13 .add 12 1,ov 4 13])))))) (sr [ov 43 3,ov 2 43] .ret))),[.t 2]⟩
def F61:AF:=⟨sr [oo 1 (.box 3 Z0),oo 2 (.mov (.c (.sl none true 0 [])))] (sr [os 6 3 1,oo 7 (.call 31 [Z6]),oo 8 (.buildSl false 1 [] [] 0),ov 3 7,ov 4 8] (sq (sr [om 5 0] (.block 0 (.loop (sq (sr [ov 9 5,ov 10 3,oo 11 (lS Z10),ob 12 .lss 9 11] (.cond Z12 .skip (.exit 0))) (sq (.block 1 (.draw [ov 15 4,os 16 3 1,ov 17 3,ov 18 5,ox 19 2 17 18,os 20 2 19,oo 21 (.call 112 [Z16,Z20]),oo 22 (.buildSl false 1 [(.sl none true 0 [])] [(0,1,Z21)] 1),oo 23 (.append false 1 24 Z15 Z22),ov 4 23] [])) (rg [ov 13 5,on 14 .add 13 1,ov 5 14])))))) (sr [ov 24 4,ov 2 24] .ret))),[.t 2]⟩
def F62:AF:=⟨sr [oo 4 (.mov aF)] (sq (sr [om 5 0] (.block 0 (.loop (sq (sr [ov 6 5,ov 7 0,oo 8 (lS Z7),ob 9 .lss 6 8] (.cond Z9 .skip (.exit 0))) (sq (.block 1 (sr [ov 12 0,ov 13 5,ox 14 1 12 13,ol 15 14,ov 16 1,ob 17 .eql 15 16] (.cond Z17 (sr [oo 4 (.mov aT)] .ret) .skip))) (rg [ov 10 5,on 11 .add 10 1,ov 5 11])))))) (sr [oo 4 (.mov aF)] .ret)),[.t 4]⟩
def F63:AF:=⟨sr [om 4 0] (sq (sr [om 5 0] (.block 0 (.loop (sq (sr [ov 6 5,ov 7 0,oo 8 (lS Z7),ob 9 .lss 6 8] (.cond Z9 .skip (.exit 0))) (sq (.block 1 (sr [ov 12 0,ov 13 5,ox 14 1 12 13,ol 15 14,ov 16 1,ob 17 .eql 15 16] (.cond Z17 (sr [ov 18 5,ov 4 18] .ret) .skip))) (rg [ov 10 5,on 11 .add 10 1,ov 5 11])))))) (sr [oo 4 (.mov (nn (-1)))] .ret)),[.t 4]⟩
def F64:AF:=⟨sr [oo 3 (.box 3 Z0),oo 6 (.alloc [(.int .i64 0),(.int .i64 0)]),oo 7 (.mov aF)] (sq (sr [os 8 3 3,oo 9 (.call 58 [Z8]),on 10 .neq 9 0,ov 11 10,wF 12 (.mov Z1) 11,wF 13 (.bin .lss Z12 (nn 0)) 11,oo 14 (.pick Z11 aT Z13),ov 15 14,wF 16 (.mov Z1) 15,wF 17 (fA 2 Z3) 15,wF 18 (.load none Z17) 15,wF 19 (lS Z18) 15,wF 20 (.bin .geq Z16 Z19) 15,oo 21 (.pick Z15 aT Z20)] (.cond Z21 (sr [oo 22 (.build [(.int .i64 0),(.int .i64 0)] []),ou (.store 2 Z6 Z22),oo 7 (.mov aF)] .ret) .skip)) (sq (.draw [of 23 2 3,ol 24 23,ov 25 1,ox 26 3 24 25,os 27 3 26,of 28 2 3,ol 29 28,ov 30 1,ox 31 3 29 30,of 32 2 31,ol 33 32,oo 34 (lS Z33),ov 35 2,oo 36 (.call 84 [Z27,Z34,Z35]),oe 37 36 0,oe 38 36 1,ou (.store 2 Z6 Z37),ov 7 38] []) .ret)),[.cell 6 (some 2),.t 7]⟩
def F70:AF:=⟨sr [oo 4 (.mov aF)] (sq (sr [ov 6 0,oo 7 (lS Z6),ov 8 1,oo 9 (lS Z8),ob 10 .neq 7 9] (.cond Z10 (sr [oo 4 (.mov aF)] .ret) .skip)) (sq (sr [ov 11 0,oo 12 (lS Z11),om 13 0] (.block 0 (.loop (sr [ob 14 .lss 13 12] (sq (.cond Z14 .skip (.exit 0)) (sq (.block 1 (sr [ov 15 13,ov 5 15] (sq (.draw [ov 16 0,ov 17 5,ox 18 1 16 17,ol 19 18,ov 20 1,ov 21 5,ox 22 1 20 21,ol 23 22,ob 24 .neq 19 23] []) (.cond Z24 (sr [oo 4 (.mov aF)] .ret) .skip)))) (rg [on 25 .add 13 1,ov 13 25]))))))) (sr [oo 4 (.mov aT)] .ret))),[.t 4]⟩
def F71:AF:=⟨sr [oo 1 (.box 3 Z0),oo 2 (.mov (.c (.sl none true 0 [])))] (sq (sr [os 6 3 1,oo 7 (.call 52 [Z6]),oo 8 (.un .not Z7)] (.cond Z8 (sr [oo 2 (.mov (.c (.sl none true 0 [])))] .ret) .skip)) (sr [oo 3 (.mov (.c (.sl none true 0 [])))] (sq (sr [of 9 2 1,ol 10 9,oo 11 (lS Z10),om 12 0] (.block 0 (.loop (sr [ob 13 .lss 12 11] (sq (.cond Z13 .skip (.exit 0)) (sq (.block 1 (sr [ov 14 12,ox 15 3 10 12,os 16 3 15,oo 5 (.alloc [(.int .i64 0),(.int .i64 0),(.sl none true 0 [])]),ov 4 14,ou (.store 3 Z5 Z16)] (sr [of 17 1 5,ol 18 17,on 19 .eql 18 1] (.cond Z19 (rg [ov 20 3,ov 21 4,oo 22 (.buildSl false 1 [(.int .i64 0)] [(0,1,Z21)] 1),oo 23 (.append false 1 8 Z20 Z22),ov 3 23]) .skip)))) (rg [on 24 .add 12 1,ov 12 24]))))))) (sr [ov 25 3,ov 2 25] .ret)))),[.t 2]⟩
def F74:AF:=⟨sr [oo 2 (.box 3 Z0),oo 3 (.box 2 Z1),oo 4 (.mov aF)] (sq (.seq (.draw [os 7 3 2,os 8 2 3,oo 9 (.call 120 [Z7,Z8]),oo 10 (.un .not Z9),ov 11 10,wF 12 (fA 2 Z2) 11,wF 13 (.load none Z12) 11,wF 14 (fA 0 Z3) 11,wF 15 (.load none Z14) 11,wF 16 (.idxSl 3 Z13 Z15) 11,wF 17 (fA 2 Z16) 11,wF 18 (.load none Z17) 11,wF 19 (fA 1 Z3) 11,wF 20 (.load none Z19) 11,wF 21 (.idxSl 4 Z18 Z20) 11,wF 22 (fA 0 Z21) 11,wF 23 (.load none Z22) 11,oo 24 (.pick Z11 aT Z23)] []) (.cond Z24 (sr [oo 4 (.mov aF)] .ret) .skip)) (sr [os 26 3 2,os 27 2 3,oo 28 (.call 121 [Z26,Z27]),ov 25 28,oe 29 25 0,oe 30 25 1,oo 5 (.alloc [(.int .i64 0),(.int .i64 0)]),ou (.store 2 Z5 Z29),ov 6 30] (sr [ov 31 6,oo 32 (.un .not Z31),ov 4 32] .ret))),[.t 4]⟩
def F75:AF:=⟨sr [oo 4 (.box 3 Z0),oo 8 (.mov (.c (.sl none true 0 [])))] (sr [of 13 2 4,ol 14 13,oo 15 (lS Z14),oo 16 (.mkSl false 1 1 [(.bool false)] Z15 Z15),ov 9 16] (sq (sr [oo 10 (.mov aT)] (.block 0 (.loop (sq (sr [ov 17 10] (.cond Z17 .skip (.exit 0))) (.block 1 (sr [oo 10 (.mov aF)] (sr [om 11 0] (.block 2 (.loop (sq (sr [ov 18 11,of 19 2 4,ol 20 19,oo 21 (lS Z20),ob 22 .lss 18 21] (.cond Z22 .skip (.exit 2))) (sq (.block 3 (sr [om 12 0] (.block 4 (.loop (sq (sr [ov 25 12,of 26 2 4,ol 27 26,oo 28 (lS Z27),ob 29 .lss 25 28] (.cond Z29 .skip (.exit 4))) (sq (.block 5 (sr [ov 32 9,ov 33 11,ox 34 1 32 33,ol 35 34,oo 36 (.un .not Z35),ov 37 36,wT 38 (.mov Z12) 37,wT 39 (.mov Z3) 37,wT 40 (.bin .eql Z38 Z39) 37,wT 41 (.mov Z40) 37,wF 42 (.mov Z9) 41,wF 43 (.mov Z12) 41,wF 44 (.idxSl 1 Z42 Z43) 41,wF 45 (.load none Z44) 41,wT 46 (.pick Z41 aT Z45) 37,oo 47 (.pick Z37 Z46 aF),ov 48 47,wT 49 (.load (some 3) Z4) 48,wT 50 (.mov Z1) 48,wT 51 (.mov Z2) 48,wT 52 (.mov Z11) 48,wT 53 (.mov Z12) 48,wT 54 (.call 122 [Z49,Z50,Z51,Z52,.t 53]) 48,oo 55 (.pick Z48 Z54 aF)] (.cond Z55 (rg [ov 56 9,ov 57 11,ox 58 1 56 57,ou (.store 1 Z58 aT),oo 10 (.mov aT)]) .skip))) (rg [ov 30 12,on 31 .add 30 1,ov 12 31]))))))) (rg [ov 23 11,on 24 .add 23 1,ov 11 24])))))))))))) (sr [ov 59 9,ov 8 59] .ret))),[.t 8]⟩
def F84:AF:=⟨sr [oo 3 (.box 3 Z0),oo 6 (.alloc [(.int .i64 0),(.int .i64 0)]),oo 7 (.mov aF)] (sr [oo 11 (.build [(.int .i64 0),(.int .i64 0)] []),oo 8 (.alloc [(.int .i64 0),(.int .i64 0)]),ou (.store 2 Z8 Z11),oo 9 (.mov aF)] (sq (sr [om 10 0] (.block 0 (.loop (sq (sr [ov 12 10,ov 13 1,ob 14 .lss 12 13,ov 15 14,wT 16 (.mov Z10) 15,wT 17 (fA 2 Z3) 15,wT 18 (.load none Z17) 15,wT 19 (lS Z18) 15,wT 20 (.bin .lss Z16 Z19) 15,oo 21 (.pick Z15 Z20 aF)] (.cond Z21 .skip (.exit 0))) (sq (.block 1 (sr [of 24 2 3,ol 25 24,ov 26 10,ox 27 4 25 26,of 28 0 27,ol 29 28,ov 30 29,wT 31 (fA 2 Z3) 30,wT 32 (.load none Z31) 30,wT 33 (.mov Z10) 30,wT 34 (.idxSl 4 Z32 Z33) 30,wT 35 (fA 1 Z34) 30,wT 36 (.load none Z35) 30,wT 37 (.mov Z2) 30,wT 38 (.bin .eql Z36 Z37) 30,oo 39 (.pick Z30 Z38 aF)] (.cond Z39 (rg [of 40 2 3,ol 41 40,ov 42 10,ox 43 4 41 42,of 44 2 43,os 45 2 44,ou (.store 2 Z8 Z45),oo 9 (.mov aT)]) .skip))) (rg [ov 22 10,on 23 .add 22 1,ov 10 23])))))) (sr [os 46 2 8,ov 47 9,ou (.store 2 Z6 Z46),ov 7 47] .ret))),[.cell 6 (some 2),.t 7]⟩
def F86:AF:=⟨sr [oo 1 (.box 3 Z0),oo 2 (.mov (.c (.sl none true 0 [])))] (sr [oo 3 (.mov (.c (.sl none true 0 [])))] (sq (sr [os 8 3 1,oo 9 (.call 71 [Z8]),oo 10 (lS Z9),om 11 0] (.block 0 (.loop (sr [ob 12 .lss 11 10] (sq (.cond Z12 .skip (.exit 0)) (sq (.block 1 (sr [ox 13 1 9 11,ol 14 13,ov 5 14] (sr [of 15 2 1,ol 16 15,ov 17 5,ox 18 3 16 17,of 19 2 18,ol 20 19,oo 21 (lS Z20),om 22 0] (.block 2 (.loop (sr [ob 23 .lss 22 21] (sq (.cond Z23 .skip (.exit 2)) (sq (.block 3 (sr [ov 24 22,ov 6 24] (sr [ov 25 5,ov 26 6,oo 27 (.build [(.int .i64 0),(.int .i64 0)] [(0,1,Z25),(1,1,Z26)]),oo 7 (.alloc [(.int .i64 0),(.int .i64 0)]),ou (.store 2 Z7 Z27)] (sr [os 28 3 1,os 29 2 7,oo 30 (.call 136 [Z28,Z29])] (.cond Z30 (rg [ov 31 3,os 32 2 7,oo 33 (.buildSl false 2 [(.int .i64 0),(.int .i64 0)] [(0,2,Z32)] 1),oo 34 (.append false 2 16 Z31 Z33),ov 3 34]) .skip))))) (rg [on 35 .add 22 1,ov 22 35]))))))))) (rg [on 36 .add 11 1,ov 11 36]))))))) (sr [ov 37 3,ov 2 37] .ret))),[.t 2]⟩
def F103:AF:=⟨sr [oo 1 (.box 3 Z0),oo 2 (.alloc [(.int .i64 0)])] (sq (sr [os 5 3 1,oo 6 (.call 152 [Z5]),oo 7 (.un .not Z6),ov 8 7,wF 9 (fA 2 Z1) 8,wF 10 (.load none Z9) 8,wF 11 (.mkFn (.func 154) [] [.t 1]) 8,wF 12 (.call 153 [Z10,Z11]) 8,oo 13 (.pick Z8 aT Z12)] (.cond Z13 (sr [ou (.store 1 Z2 (nn 4))] .ret) .skip)) (sq (sr [os 14 3 1,oo 15 (.call 156 [Z14])] (.block 0 (.rangeFunc Z15 [16,17] (rg [oo 4 (.alloc [(.bool false),(.int .i64 0),(.int .i64 0),(.int .i64 0)]),ou (.store 4 Z4 Z17)]) (.block 1 (sr [os 18 3 1,os 19 4 4,oo 20 (.call 157 [Z18,Z19]),oo 21 (.un .not Z20)] (.cond Z21 (sr [ou (.store 1 Z2 (nn 4))] .ret) .skip)))))) (sq (sr [os 22 3 1,oo 23 (.call 158 [Z22]),oo 24 (.un .not Z23)] (.cond Z24 (sr [ou (.store 1 Z2 (nn 4))] .ret) .skip)) (sr [ou (.store 1 Z2 (nn 0))] .ret)))),[.cell 2 none]⟩
def F104:AF:=⟨sr [oo 1 (.box 3 Z0),oo 2 (.mov (.c (.sl none true 0 [])))] (sr [os 3 3 1,oo 4 (.call 159 [Z3,(.c (.fn (.func 160) [] []))]),ov 2 4] .ret),[.t 2]⟩
def F105:AF:=⟨sr [oo 1 (.box 3 Z0),oo 2 (.mov (.c (.sl none true 0 [])))] (sq (sr [os 6 3 1,oo 7 (.call 103 [Z6]),on 8 .neq 7 0] (.cond Z8 (sr [oo 2 (.mov (.c (.sl none true 0 [])))] .ret) .skip)) (sr [oo 3 (.alloc [(.sl none true 0 [])])] (sq (sr [os 9 3 1,oo 10 (.call 156 [Z9])] (.block 0 (.rangeFunc Z10 [11,12] (sr [oo 4 (.alloc [(.int .i64 0),(.int .i64 0)]),ou (.store 2 Z4 Z11)] (rg [oo 5 (.alloc [(.bool false),(.int .i64 0),(.int .i64 0),(.int .i64 0)]),ou (.store 4 Z5 Z12)])) (.block 1 (sr [of 13 2 5,of 14 0 13,ol 15 14,on 16 .eql 15 2] (.cond Z16 (rg [ol 17 3,os 18 2 4,oo 19 (.buildSl false 2 [(.int .i64 0),(.int .i64 0)] [(0,2,Z18)] 1),oo 20 (.append false 2 16 Z17 Z19),ou (.store 1 Z3 Z20)]) .skip)))))) (sr [ol 21 3,ov 2 21] .ret)))),[.t 2]⟩
def F106:AF:=⟨sr [qq 2 (.box 3 Z0),qq 4 (.mov (.c (.sl none true 0 []))),qq 5 (.mov (.c (.sl none true 0 []))),qq 6 (.mov aF)] (sr [qs 11 3 2,qq 12 (.call 161 [Z11]),qv 7 12] (sq (sr [qs 13 3 2,qq 14 (.call 52 [Z13]),qq 15 (.un .not Z14),qv 16 15,zF 17 (.mov Z7) 16,zF 18 (lS Z17) 16,zF 19 (.mov Z1) 16,zF 20 (lS Z19) 16,zF 21 (.bin .neq Z18 Z20) 16,qq 22 (.pick Z16 aT Z21)] (.cond Z22 (sr [qq 4 (.mov (.c (.sl none true 0 []))),qq 5 (.mov (.c (.sl none true 0 []))),qq 6 (.mov aF)] .ret) .skip)) (sr [qv 23 1,qq 24 (lS Z23),qq 25 (.mkSl true 1 8 [(.int .i64 0)] Z24 Z24),qv 8 25] (sq (sr [qv 26 7,qq 27 (lS Z26),qm 28 0] (.block 0 (.loop (sr [qb 29 .lss 28 27] (sq (.cond Z29 .skip (.exit 0)) (sq (.block 1 (sr [qv 30 28,qx 31 1 26 28,ql 32 31,qv 9 30,qv 10 32] (sr [qv 33 8,qv 34 9,qv 35 10,qv 36 1,qv 37 9,qx 38 1 36 37,ql 39 38,qq 40 (.call 127 [Z35,Z39]),qx 41 1 33 34,qu (.store 1 Z41 Z40)] (sr [qv 42 8,qv 43 9,qx 44 1 42 43,ql 45 44,qn 46 .lss 45 0] (.cond Z46 (sr [qq 4 (.mov (.c (.sl none true 0 []))),qq 5 (.mov (.c (.sl none true 0 []))),qq 6 (.mov aF)] .ret) .skip))))) (rg [qn 47 .add 28 1,qv 28 47]))))))) (sr [qv 48 7,qv 49 8,qv 4 48,qv 5 49,qq 6 (.mov aT)] .ret))))),[.t 4,.t 5,.t 6]⟩
def F108:AF:=cf false false Tryz.f108
def F109:AF:=cf true false Tryz.f109
def F110:AF:=⟨sr [oo 2 (.mov aF)] (sq (sr [om 3 0] (.block 0 (.loop (sq (sr [ov 4 3,ov 5 0,oo 6 (lS Z5),ob 7 .lss 4 6] (.cond Z7 .skip (.exit 0))) (sq (.block 1 (sq (.draw [ov 10 0,ov 11 3,ox 12 1 10 11,ol 13 12,oo 14 (.call 172 [Z13]),oo 15 (.un .not Z14),ov 16 15,wF 17 (.mov Z3) 16,wF 18 (.bin .gtr Z17 (nn 0)) 16,wF 19 (.mov Z18) 16,wT 20 (.mov Z0) 19,wT 21 (.mov Z3) 19,wT 22 (.bin .sub Z21 (nn 1)) 19,wT 23 (.idxSl 1 Z20 Z22) 19,wT 24 (.load none Z23) 19,wT 25 (.mov Z0) 19,wT 26 (.mov Z3) 19,wT 27 (.idxSl 1 Z25 Z26) 19,wT 28 (.load none Z27) 19,wT 29 (.call 173 [Z24,Z28]) 19,wT 30 (.un .not Z29) 19,wF 31 (.pick Z19 Z30 aF) 16,oo 32 (.pick Z16 aT Z31)] []) (.cond Z32 (sr [oo 2 (.mov aF)] .ret) .skip))) (rg [ov 8 3,on 9 .add 8 1,ov 3 9])))))) (sr [oo 2 (.mov aT)] .ret)),[.t 2]⟩
def F112:AF:=⟨sr [oo 2 (.box 3 Z0),oo 3 (.box 2 Z1),oo 4 (.mov (.c (.sl none true 0 [])))] (sr [oo 10 (.buildSl false 1 [] [] 0),ov 5 10] (sq (sr [os 11 3 2,os 12 2 3,oo 13 (.call 175 [Z11,Z12]),oo 14 (.un .not Z13)] (.cond Z14 (sr [ov 15 5,ov 4 15] .ret) .skip)) (sq (.draw [of 16 2 2,ol 17 16,of 18 0 3,ol 19 18,ox 20 3 17 19,of 21 2 20,ol 22 21,of 23 1 3,ol 24 23,ox 25 4 22 24,os 26 4 25,oo 6 (.alloc [(.bool false),(.int .i64 0),(.int .i64 0),(.int .i64 0)]),ou (.store 4 Z6 Z26)] [(1,11),(3,11),(6,11),(8,11),(10,11)]) (sq (sr [of 27 2 6,of 28 0 27,ol 29 28,on 30 .neq 29 1] (.cond Z30 (rg [ov 31 5,oo 32 (.buildSl false 1 [(.int .i64 0)] [(0,1,(nn (-1)))] 1),oo 33 (.append false 1 8 Z31 Z32),ov 5 33]) .skip)) (sq (sr [om 7 0] (.block 0 (.loop (sq (sr [ov 34 7,of 35 2 2,ol 36 35,oo 37 (lS Z36),ob 38 .lss 34 37] (.cond Z38 .skip (.exit 0))) (sq (.block 1 (sq (.draw [of 42 2 2,ol 43 42,ov 44 7,ox 45 3 43 44,os 46 3 45,of 47 2 2,ol 48 47,ov 49 7,ox 50 3 48 49,of 51 2 50,ol 52 51,oo 53 (lS Z52),of 54 1 6,ol 55 54,oo 56 (.call 84 [Z46,.t 53,Z55]),ov 41 56,oe 57 41 0,oe 58 41 1,oo 8 (.alloc [(.int .i64 0),(.int .i64 0)]),ou (.store 2 Z8 Z57),ov 9 58] [(1,18),(4,18),(6,18),(10,18),(13,18),(14,18)]) (sr [ov 59 7,of 60 0 3,ol 61 60,ob 62 .neq 59 61,ov 63 62,wT 64 (fA 2 Z2) 63,wT 65 (.load none Z64) 63,wT 66 (.mov Z7) 63,wT 67 (.idxSl 3 Z65 Z66) 63,wT 68 (fA 1 Z67) 63,wT 69 (.load none Z68) 63,wT 70 (.bin .neq Z69 (nn 2)) 63,oo 71 (.pick Z63 Z70 aF),ov 72 71,wT 73 (.mov Z9) 72,oo 74 (.pick Z72 Z73 aF),ov 75 74,wT 76 (fA 2 Z6) 75,wT 77 (fA 0 Z76) 75,wT 78 (.load none (.t 77)) 75,wT 79 (.bin .eql Z78 (nn 2)) 75,wT 80 (.mov (.t 79)) 75,wF 81 (.load (some 2) Z8) 80,wF 82 (fA 2 Z6) 80,wF 83 (.load (some 2) Z82) 80,wF 84 (.eq false (.struct [.int,.int]) (.t 81) (.t 83)) 80,wT 85 (.pick (.t 80) aT (.t 84)) 75,oo 86 (.pick (.t 75) Z85 aF)] (.cond (.t 86) (rg [ov 87 5,ov 88 7,oo 89 (.buildSl false 1 [(.int .i64 0)] [(0,1,(.t 88))] 1),oo 90 (.append false 1 8 (.t 87) (.t 89)),ov 5 90]) .skip)))) (rg [ov 39 7,on 40 .add 39 1,ov 7 40])))))) (sr [ov 91 5,ov 4 91] .ret)))))),[.t 4]⟩
def F114:AF:=⟨sr [oo 2 (.box 3 Z0),oo 4 (.mov (.c (.sl none true 0 [])))] (sr [oo 5 (.mov (.c (.sl none true 0 [])))] (sr [os 11 3 2,ov 12 1,oo 13 (.call 176 [Z11,Z12]),ov 6 13] (sq (sr [ov 14 6,oo 15 (lS Z14),om 16 0] (.block 0 (.loop (sr [ob 17 .lss 16 15] (sq (.cond Z17 .skip (.exit 0)) (sq (.block 1 (sr [ov 18 16,ox 19 4 14 16,os 20 4 19,oo 8 (.alloc [(.bool false),(.int .i64 0),(.int .i64 0),(.int .i64 0)]),ov 7 18,ou (.store 4 Z8 Z20)] (sq (sr [of 21 0 8,ol 22 21,ov 23 22,wF 24 (fA 2 Z8) 23,wF 25 (fA 0 Z24) 23,wF 26 (.load none Z25) 23,wF 27 (.bin .eql Z26 (nn 2)) 23,oo 28 (.pick Z23 aT Z27)] (.cond Z28 (.exit 1) .skip)) (sq (.draw [ov 30 6,ov 31 7,oo 32 (.slSl 4 Z30 none (some Z31)),of 33 1 8,ol 34 33,oo 35 (.call 177 [Z32,Z34]),ov 29 35,oe 36 29 0,oe 37 29 1,oo 9 (.alloc [(.int .i64 0),(.int .i64 0)]),ou (.store 2 Z9 Z36),ov 10 37] [(4,9),(5,9)]) (sr [ov 38 10,ov 39 38,wT 40 (.load (some 2) Z9) 39,wT 41 (fA 2 Z8) 39,wT 42 (.load (some 2) Z41) 39,wT 43 (.eq true (.struct [.int,.int]) Z40 Z42) 39,oo 44 (.pick Z39 Z43 aF)] (.cond Z44 (rg [ov 45 5,ov 46 7,oo 47 (.buildSl false 1 [(.int .i64 0)] [(0,1,Z46)] 1),oo 48 (.append false 1 8 Z45 Z47),ov 5 48]) .skip)))))) (rg [on 49 .add 16 1,ov 16 49]))))))) (sr [ov 50 5,ov 4 50] .ret)))),[.t 4]⟩
def F116:AF:=⟨sr [oo 3 (.box 3 Z0),oo 6 (.alloc [(.int .i64 0),(.int .i64 0)]),oo 7 (.mov aF)] (sr [os 8 3 3,ov 9 1,oo 10 (.call 176 [Z8,Z9]),ov 11 2,oo 12 (.call 177 [Z10,Z11]),oe 13 12 0,oe 14 12 1,ou (.store 2 Z6 Z13),ov 7 14] .ret),[.cell 6 (some 2),.t 7]⟩
def F118:AF:=cf false false Tryz.f118
def F120:AF:=⟨sr [oo 2 (.box 3 Z0),oo 3 (.box 2 Z1),oo 4 (.mov aF)] (sq (.draw [os 5 3 2,oo 6 (.call 58 [Z5]),on 7 .eql 6 0,ov 8 7,wT 9 (fA 0 Z3) 8,wT 10 (.load none Z9) 8,wT 11 (.bin .geq Z10 (nn 0)) 8,oo 12 (.pick Z8 Z11 aF),ov 13 12,wT 14 (fA 0 Z3) 13,wT 15 (.load none Z14) 13,wT 16 (fA 2 Z2) 13,wT 17 (.load none Z16) 13,wT 18 (lS Z17) 13,wT 19 (.bin .lss Z15 Z18) 13,oo 20 (.pick Z13 Z19 aF),ov 21 20,wT 22 (fA 1 Z3) 21,wT 23 (.load none Z22) 21,wT 24 (.bin .geq Z23 (nn 0)) 21,oo 25 (.pick Z21 Z24 aF),ov 26 25,wT 27 (fA 1 Z3) 26,wT 28 (.load none Z27) 26,wT 29 (fA 2 Z2) 26,wT 30 (.load none Z29) 26,wT 31 (fA 0 Z3) 26,wT 32 (.load none Z31) 26,wT 33 (.idxSl 3 Z30 Z32) 26,wT 34 (fA 2 Z33) 26,wT 35 (.load none Z34) 26,wT 36 (lS Z35) 26,wT 37 (.bin .lss Z28 Z36) 26,oo 38 (.pick Z26 Z37 aF),ov 4 38] []) .ret),[.t 4]⟩
def F121:AF:=⟨sr [oo 2 (.box 3 Z0),oo 3 (.box 2 Z1),oo 4 (.alloc [(.int .i64 0),(.int .i64 0)]),oo 5 (.mov aF)] (sq (sr [os 6 3 2,os 7 2 3,oo 8 (.call 120 [Z6,Z7]),oo 9 (.un .not Z8)] (.cond Z9 (sr [oo 10 (.build [(.int .i64 0),(.int .i64 0)] []),ou (.store 2 Z4 Z10),oo 5 (.mov aF)] .ret) .skip)) (sq (.draw [of 11 2 2,ol 12 11,of 13 0 3,ol 14 13,ox 15 3 12 14,os 16 3 15,of 17 1 3,ol 18 17,of 19 2 2,ol 20 19,of 21 0 3,ol 22 21,ox 23 3 20 22,of 24 2 23,ol 25 24,of 26 1 3,ol 27 26,ox 28 4 25 27,of 29 1 28,ol 30 29,oo 31 (.call 84 [Z16,Z18,Z30]),oe 32 31 0,oe 33 31 1,ou (.store 2 Z4 Z32),ov 5 33] []) .ret)),[.cell 4 (some 2),.t 5]⟩
def F122:AF:=⟨sr [oo 5 (.box 3 Z0),oo 10 (.mov aF)] (sq (sr [of 12 2 5,ol 13 12,ov 14 3,ox 15 3 13 14,of 16 1 15,ol 17 16,on 18 .neq 17 1,ov 19 18,wF 20 (fA 2 Z5) 19,wF 21 (.load none Z20) 19,wF 22 (.mov Z4) 19,wF 23 (.idxSl 3 Z21 Z22) 19,wF 24 (fA 1 Z23) 19,wF 25 (.load none Z24) 19,wF 26 (.bin .neq Z25 (nn 1)) 19,oo 27 (.pick Z19 aT Z26)] (.cond Z27 (sr [oo 10 (.mov aF)] .ret) .skip)) (sq (.seq (.draw [ov 28 3,ov 29 4,ob 30 .lss 28 29,ov 31 30,wT 32 (fA 2 Z5) 31,wT 33 (.load none Z32) 31,wT 34 (.mov Z3) 31,wT 35 (.idxSl 3 Z33 Z34) 31,wT 36 (fA 0 Z35) 31,wT 37 (.load none Z36) 31,wT 38 (fA 2 Z5) 31,wT 39 (.load none Z38) 31,wT 40 (.mov Z4) 31,wT 41 (.idxSl 3 Z39 Z40) 31,wT 42 (fA 0 Z41) 31,wT 43 (.load none Z42) 31,wT 44 (.bin .eql Z37 Z43) 31,oo 45 (.pick Z31 Z44 aF)] []) (.cond Z45 (sr [oo 10 (.mov aT)] .ret) .skip)) (sq (sr [om 11 0] (.block 0 (.loop (sq (sr [ov 46 11,ov 47 1,oo 48 (lS Z47),ob 49 .lss 46 48] (.cond Z49 .skip (.exit 0))) (sq (.block 1 (sr [ov 52 2,ov 53 11,ox 54 1 52 53,ol 55 54,ov 56 3,ob 57 .eql 55 56,ov 58 57,wT 59 (.mov Z1) 58,wT 60 (.mov Z11) 58,wT 61 (.idxSl 2 Z59 Z60) 58,wT 62 (fA 0 Z61) 58,wT 63 (.load none Z62) 58,wT 64 (.mov Z4) 58,wT 65 (.bin .eql Z63 Z64) 58,oo 66 (.pick Z58 Z65 aF)] (.cond Z66 (sr [oo 10 (.mov aT)] .ret) .skip))) (rg [ov 50 11,on 51 .add 50 1,ov 11 51])))))) (sr [oo 10 (.mov aF)] .ret)))),[.t 10]⟩
def F127:AF:=⟨sr [om 4 0] (sq (sr [ov 6 0,oo 7 (lS Z6),om 8 0] (.block 0 (.loop (sr [ob 9 .lss 8 7] (sq (.cond Z9 .skip (.exit 0)) (sq (.block 1 (sr [ov 10 8,ov 5 10] (sr [ov 11 1,ov 12 0,ov 13 5,ox 14 1 12 13,ol 15 14,ob 16 .eql 11 15] (.cond Z16 (sr [ov 17 5,ov 4 17] .ret) .skip)))) (rg [on 18 .add 8 1,ov 8 18]))))))) (sr [oo 4 (.mov (nn (-1)))] .ret)),[.t 4]⟩
def F136:AF:=⟨sr [oo 2 (.box 3 Z0),oo 3 (.box 2 Z1),oo 4 (.mov aF)] (sr [os 8 3 2,of 9 0 3,ol 10 9,oo 11 (.call 176 [Z8,Z10]),ov 5 11] (sq (sr [of 12 1 3,ol 13 12,on 14 .lss 13 0,ov 15 14,wF 16 (fA 1 Z3) 15,wF 17 (.load none Z16) 15,wF 18 (.mov Z5) 15,wF 19 (lS Z18) 15,wF 20 (.bin .geq Z17 Z19) 15,oo 21 (.pick Z15 aT Z20),ov 22 21,wF 23 (.mov Z5) 22,wF 24 (fA 1 Z3) 22,wF 25 (.load none Z24) 22,wF 26 (.idxSl 4 Z23 Z25) 22,wF 27 (fA 0 Z26) 22,wF 28 (.load none Z27) 22,oo 29 (.pick Z22 aT Z28)] (.cond Z29 (sr [oo 4 (.mov aF)] .ret) .skip)) (sq (.draw [ov 31 5,of 32 1 3,ol 33 32,oo 34 (.slSl 4 Z31 none (some Z33)),ov 35 5,of 36 1 3,ol 37 36,ox 38 4 35 37,of 39 1 38,ol 40 39,oo 41 (.call 177 [Z34,Z40]),ov 30 41,oe 42 30 0,oe 43 30 1,oo 6 (.alloc [(.int .i64 0),(.int .i64 0)]),ou (.store 2 Z6 Z42),ov 7 43] [(2,14),(6,14),(9,14),(10,14)]) (sr [ov 44 7,oo 45 (.un .not Z44),ov 4 45] .ret)))),[.t 4]⟩
def F152:AF:=⟨sr [oo 1 (.box 3 Z0),oo 2 (.mov aF)] (sr [of 3 0 1,ol 4 3,oo 5 (.call 212 [Z4]),ov 6 5,wT 7 (fA 1 Z1) 6,wT 8 (.load none Z7) 6,wT 9 (.call 212 [Z8]) 6,oo 10 (.pick Z6 Z9 aF),ov 11 10,wT 12 (fA 0 Z1) 11,wT 13 (.load none Z12) 11,wT 14 (lS Z13) 11,wT 15 (.bin .leq Z14 (nn 20)) 11,oo 16 (.pick Z11 Z15 aF),ov 17 16,wT 18 (fA 1 Z1) 17,wT 19 (.load none Z18) 17,wT 20 (lS Z19) 17,wT 21 (.bin .leq Z20 (nn 40)) 17,oo 22 (.pick Z17 Z21 aF),ov 23 22,wT 24 (fA 2 Z1) 23,wT 25 (.load none Z24) 23,wT 26 (lS Z25) 23,wT 27 (.bin .leq Z26 (nn 40)) 23,oo 28 (.pick Z23 Z27 aF),ov 2 28] .ret),[.t 2]⟩
def F155:AF:=⟨sr [oo 2 (.box 3 Z0),oo 3 (.box 3 Z1),oo 4 (.mov aF)] (sr [of 5 0 3,ol 6 5,of 7 0 2,ol 8 7,oo 9 (.call 214 [Z6,Z8]),ov 10 9,wT 11 (fA 1 Z3) 10,wT 12 (.load none Z11) 10,wT 13 (.bin .geq Z12 (nn 1)) 10,oo 14 (.pick Z10 Z13 aF),ov 15 14,wT 16 (fA 1 Z3) 15,wT 17 (.load none Z16) 15,wT 18 (.bin .leq Z17 (nn 3)) 15,oo 19 (.pick Z15 Z18 aF),ov 20 19,wT 21 (fA 2 Z3) 20,wT 22 (.load none Z21) 20,wT 23 (lS Z22) 20,wT 24 (.bin .leq Z23 (nn 20)) 20,oo 25 (.pick Z20 Z24 aF),ov 4 25] .ret),[.t 4]⟩
def F157:AF:=⟨sr [oo 2 (.box 3 Z0),oo 3 (.box 4 Z1),oo 4 (.mov aF)] (sr [of 5 1 3,ol 6 5,of 7 1 2,ol 8 7,oo 9 (.call 214 [Z6,Z8]),ov 10 9,wT 11 (fA 2 Z3) 10,wT 12 (.load (some 2) Z11) 10,wT 13 (.call 216 [Z12]) 10,oo 14 (.pick Z10 Z13 aF),ov 15 14,wT 16 (fA 0 Z3) 15,wT 17 (.load none Z16) 15,wT 18 (.un .not Z17) 15,wT 19 (.mov Z18) 15,wF 20 (fA 2 Z3) 19,wF 21 (fA 0 Z20) 19,wF 22 (.load none Z21) 19,wF 23 (.bin .eql Z22 (nn 1)) 19,wT 24 (.pick Z19 aT Z23) 15,oo 25 (.pick Z15 Z24 aF),ov 4 25] .ret),[.t 4]⟩
def F158:AF:=⟨sr [oo 1 (.box 3 Z0),oo 2 (.mov aF)] (sr [oo 9 (.mkMap),oo 10 (.mkMap),oo 4 (.alloc [.nilmap]),ov 3 9,ou (.store 1 Z4 Z10)] (sq (sr [of 11 2 1,ol 12 11,oo 13 (lS Z12),om 14 0] (.block 0 (.loop (sr [ob 15 .lss 14 13] (sq (.cond Z15 .skip (.exit 0)) (sq (.block 1 (sr [ox 16 3 12 14,os 17 3 16,oo 6 (.alloc [(.int .i64 0),(.int .i64 0),(.sl none true 0 [])]),ou (.store 3 Z6 Z17)] (rg [ov 18 3,of 19 0 6,ol 20 19,oo 21 (.lookup .int (.int .i64 0) false Z18 Z20),on 22 .add 21 1,ou (.mapSet .int Z18 Z20 Z22)]))) (rg [on 23 .add 14 1,ov 14 23]))))))) (sq (sr [os 24 3 1,oo 25 (.call 156 [Z24])] (.block 2 (.rangeFunc Z25 [26,27] (rg [oo 8 (.alloc [(.bool false),(.int .i64 0),(.int .i64 0),(.int .i64 0)]),ou (.store 4 Z8 Z27)]) (.block 3 (rg [ol 28 4,of 29 1 8,ol 30 29,oo 31 (.lookup .int (.int .i64 0) false Z28 Z30),on 32 .add 31 1,ou (.mapSet .int Z28 Z30 Z32)]))))) (sr [ov 33 3,oo 34 (.lenMap Z33),of 35 0 1,ol 36 35,oo 37 (lS Z36),ob 38 .eql 34 37,ov 39 38,wT 40 (.load none Z4) 39,wT 41 (.lenMap Z40) 39,wT 42 (fA 1 Z1) 39,wT 43 (.load none Z42) 39,wT 44 (lS Z43) 39,wT 45 (.bin .eql Z41 Z44) 39,oo 46 (.pick Z39 Z45 aF),ov 2 46] .ret)))),[.t 2]⟩
def F159:AF:=⟨sr [oo 2 (.box 3 Z0),oo 4 (.mov (.c (.sl none true 0 [])))] (sq (sr [os 8 3 2,oo 9 (.call 103 [Z8]),on 10 .neq 9 0] (.cond Z10 (sr [oo 4 (.mov (.c (.sl none true 0 [])))] .ret) .skip)) (sr [oo 5 (.mov (.c (.sl none true 0 [])))] (sq (sr [of 11 2 2,ol 12 11,oo 13 (lS Z12),om 14 0] (.block 0 (.loop (sr [ob 15 .lss 14 13] (sq (.cond Z15 .skip (.exit 0)) (sq (.block 1 (sr [ov 16 14,ox 17 3 12 14,os 18 3 17,oo 7 (.alloc [(.int .i64 0),(.int .i64 0),(.sl none true 0 [])]),ov 6 16,ou (.store 3 Z7 Z18)] (sr [ov 19 1,os 20 3 7,oo 21 (.callV Z19 [.t 20])] (.cond Z21 (rg [ov 22 5,ov 23 6,oo 24 (.buildSl false 1 [(.int .i64 0)] [(0,1,Z23)] 1),oo 25 (.append false 1 8 Z22 Z24),ov 5 25]) .skip)))) (rg [on 26 .add 14 1,ov 14 26]))))))) (sr [ov 27 5,ov 4 27] .ret)))),[.t 4]⟩
def F160:AF:=⟨sr [oo 1 (.box 3 Z0),oo 2 (.mov aF)] (sr [of 3 1 1,ol 4 3,on 5 .eql 4 3,ov 2 5] .ret),[.t 2]⟩
def F161:AF:=⟨sr [oo 1 (.box 3 Z0),oo 2 (.mov (.c (.sl none true 0 [])))] (sr [oo 3 (.mov (.c (.sl none true 0 [])))] (sq (sr [os 6 3 1,oo 7 (.call 86 [Z6]),oo 8 (lS Z7),om 9 0] (.block 0 (.loop (sr [ob 10 .lss 9 8] (sq (.cond Z10 .skip (.exit 0)) (sq (.block 1 (sr [ox 11 2 7 9,os 12 2 11,oo 5 (.alloc [(.int .i64 0),(.int .i64 0)]),ou (.store 2 Z5 Z12)] (rg [ov 13 3,os 14 3 1,os 15 2 5,oo 16 (.call 217 [Z14,Z15]),oo 17 (.buildSl false 1 [(.sl none true 0 [])] [(0,1,Z16)] 1),oo 18 (.append false 1 24 Z13 Z17),ov 3 18]))) (rg [on 19 .add 9 1,ov 9 19]))))))) (sr [ov 20 3,ov 2 20] .ret))),[.t 2]⟩
def F166:AF:=cf false false Tryz.f166
def F167:AF:=cf false false Tryz.f167
def F170:AF:=cf false false Tryz.f170
def F172:AF:=⟨sr [oo 2 (.mov aF)] (sr [ov 6 0,oo 7 (.call 234 [Z6]),ov 3 7] (sq (sr [ov 8 3,oo 9 (lS Z8),on 10 .lss 9 1,ov 11 10,wF 12 (.mov Z3) 11,wF 13 (lS Z12) 11,wF 14 (.bin .gtr Z13 (nn 20)) 11,oo 15 (.pick Z11 aT Z14),ov 16 15,wF 17 (.mov Z0) 16,wF 18 (.call 235 [Z17]) 16,oo 19 (.pick Z16 aT Z18),ov 20 19,wF 21 (.mov Z0) 20,wF 22 (.call 236 [Z21]) 20,wF 23 (.un .not Z22) 20,oo 24 (.pick Z20 aT Z23),ov 25 24,wF 26 (.mov Z3) 25,wF 27 (.idxSl 1 Z26 (nn 0)) 25,wF 28 (.load none Z27) 25,wF 29 (.bin .geq Z28 (nn 48)) 25,wF 30 (.mov Z29) 25,wT 31 (.mov Z3) 30,wT 32 (.idxSl 1 Z31 (nn 0)) 30,wT 33 (.load none Z32) 30,wT 34 (.bin .leq Z33 (nn 57)) 30,wF 35 (.pick Z30 Z34 aF) 25,oo 36 (.pick Z25 aT Z35)] (.cond Z36 (sr [oo 2 (.mov aF)] .ret) .skip)) (sq (sr [om 4 0] (.block 0 (.loop (sq (sr [ov 37 4,ov 38 3,oo 39 (lS Z38),ob 40 .lss 37 39] (.cond Z40 .skip (.exit 0))) (sq (.block 1 (sr [ov 43 3,ov 44 4,ox 45 1 43 44,ol 46 45,ov 5 46] (sr [ov 47 5,on 48 .lss 47 128,ov 49 48,wT 50 (.mov Z5) 49,wT 51 (.bin .neq Z50 (nn 95)) 49,oo 52 (.pick Z49 Z51 aF),ov 53 52,wT 54 (.mov Z5) 53,wT 55 (.bin .lss Z54 (nn 48)) 53,wT 56 (.mov Z55) 53,wF 57 (.mov Z5) 56,wF 58 (.bin .gtr Z57 (nn 57)) 56,wT 59 (.pick Z56 aT Z58) 53,oo 60 (.pick (.t 53) Z59 aF),ov 61 60,wT 62 (.mov Z5) 61,wT 63 (.bin .lss Z62 (nn 65)) 61,wT 64 (.mov Z63) 61,wF 65 (.mov Z5) 64,wF 66 (.bin .gtr Z65 (nn 90)) 64,wT 67 (.pick Z64 aT Z66) 61,oo 68 (.pick Z61 Z67 aF),ov 69 68,wT 70 (.mov Z5) 69,wT 71 (.bin .lss Z70 (nn 97)) 69,wT 72 (.mov Z71) 69,wF 73 (.mov Z5) 72,wF 74 (.bin .gtr Z73 (nn 122)) 72,wT 75 (.pick Z72 aT Z74) 69,oo 76 (.pick Z69 (.t 75) aF)] (.cond Z76 (sr [oo 2 (.mov aF)] .ret) .skip)))) (rg [ov 41 4,on 42 .add 41 1,ov 4 42])))))) (sr [oo 2 (.mov aT)] .ret)))),[.t 2]⟩
def F173:AF:=⟨sr [oo 4 (.mov aF)] (sr [ov 8 0,oo 9 (.call 234 [Z8]),ov 10 1,oo 11 (.call 234 [Z10]),ov 5 9,ov 6 11] (sq (sr [om 7 0] (.block 0 (.loop (sq (sr [ov 12 7,ov 13 5,oo 14 (lS Z13),ob 15 .lss 12 14,ov 16 15,wT 17 (.mov Z7) 16,wT 18 (.mov Z6) 16,wT 19 (lS Z18) 16,wT 20 (.bin .lss Z17 Z19) 16,oo 21 (.pick Z16 Z20 aF)] (.cond Z21 .skip (.exit 0))) (sq (.block 1 (sq (.draw [ov 24 5,ov 25 7,ox 26 1 24 25,ol 27 26,ov 28 6,ov 29 7,ox 30 1 28 29,ol 31 30,ob 32 .neq 27 31] []) (.cond Z32 (sq (.draw [ov 33 5,ov 34 7,ox 35 1 33 34,ol 36 35,ov 37 6,ov 38 7,ox 39 1 37 38,ol 40 39,ob 41 .lss 36 40,ov 4 41] []) .ret) .skip))) (rg [ov 22 7,on 23 .add 22 1,ov 7 23])))))) (sr [ov 42 5,oo 43 (lS Z42),ov 44 6,oo 45 (lS Z44),ob 46 .lss 43 45,ov 4 46] .ret))),[.t 4]⟩
def F174:AF:=⟨sr [oo 1 (.box 2 Z0),oo 2 (.mov aF)] (sr [of 3 0 1,ol 4 3,on 5 .eql 4 1,ov 6 5,wF 7 (fA 0 Z1) 6,wF 8 (.load none Z7) 6,wF 9 (.bin .eql Z8 (nn 0)) 6,wF 10 (.mov Z9) 6,wF 11 (fA 0 Z1) 10,wF 12 (.load none Z11) 10,wF 13 (.bin .eql Z12 (nn 2)) 10,wF 14 (.pick Z10 aT Z13) 6,wF 15 (.mov Z14) 6,wT 16 (fA 1 Z1) 15,wT 17 (.load none Z16) 15,wT 18 (.bin .eql Z17 (nn 0)) 15,wF 19 (.pick Z15 Z18 aF) 6,oo 20 (.pick Z6 aT Z19),ov 2 20] .ret),[.t 2]⟩
def F175:AF:=⟨sr [oo 2 (.box 3 Z0),oo 3 (.box 2 Z1),oo 4 (.mov aF)] (sq (.draw [os 5 3 2,oo 6 (.call 58 [Z5]),on 7 .eql 6 0,ov 8 7,wT 9 (fA 0 Z3) 8,wT 10 (.load none Z9) 8,wT 11 (.bin .geq Z10 (nn 0)) 8,oo 12 (.pick Z8 Z11 aF),ov 13 12,wT 14 (fA 0 Z3) 13,wT 15 (.load none Z14) 13,wT 16 (fA 2 Z2) 13,wT 17 (.load none Z16) 13,wT 18 (lS Z17) 13,wT 19 (.bin .lss Z15 Z18) 13,oo 20 (.pick Z13 Z19 aF),ov 21 20,wT 22 (fA 1 Z3) 21,wT 23 (.load none Z22) 21,wT 24 (.bin .geq Z23 (nn 0)) 21,oo 25 (.pick Z21 Z24 aF),ov 26 25,wT 27 (fA 1 Z3) 26,wT 28 (.load none Z27) 26,wT 29 (fA 2 Z2) 26,wT 30 (.load none Z29) 26,wT 31 (fA 0 Z3) 26,wT 32 (.load none Z31) 26,wT 33 (.idxSl 3 Z30 Z32) 26,wT 34 (fA 2 Z33) 26,wT 35 (.load none Z34) 26,wT 36 (lS Z35) 26,wT 37 (.bin .lss Z28 Z36) 26,oo 38 (.pick Z26 Z37 aF),ov 39 38,wT 40 (fA 2 Z2) 39,wT 41 (.load none Z40) 39,wT 42 (fA 0 Z3) 39,wT 43 (.load none Z42) 39,wT 44 (.idxSl 3 Z41 Z43) 39,wT 45 (fA 2 Z44) 39,wT 46 (.load none Z45) 39,wT 47 (fA 1 Z3) 39,wT 48 (.load none Z47) 39,wT 49 (.idxSl 4 Z46 Z48) 39,wT 50 (fA 0 Z49) 39,wT 51 (.load none Z50) 39,wT 52 (.un .not Z51) 39,oo 53 (.pick Z39 Z52 aF),ov 4 53] []) .ret),[.t 4]⟩
def F176:AF:=⟨sr [oo 2 (.box 3 Z0),oo 4 (.mov (.c (.sl none true 0 [])))] (sq (sr [os 5 3 2,oo 6 (.call 103 [Z5]),on 7 .neq 6 0,ov 8 7,wF 9 (.mov Z1) 8,wF 10 (.bin .lss Z9 (nn 0)) 8,oo 11 (.pick Z8 aT Z10),ov 12 11,wF 13 (.mov Z1) 12,wF 14 (fA 2 Z2) 12,wF 15 (.load none Z14) 12,wF 16 (lS Z15) 12,wF 17 (.bin .geq Z13 Z16) 12,oo 18 (.pick Z12 aT Z17)] (.cond Z18 (sr [oo 4 (.mov (.c (.sl none true 0 [])))] .ret) .skip)) (sr [of 19 2 2,ol 20 19,ov 21 1,ox 22 3 20 21,of 23 2 22,ol 24 23,ov 4 24] .ret)),[.t 4]⟩
def F177:AF:=⟨sr [oo 3 (.box 1 Z1),oo 4 (.alloc [(.int .i64 0),(.int .i64 0)]),oo 5 (.alloc [(.bool false)])] (sq (sr [ov 8 0,oo 9 (.call 237 [Z8])] (.block 0 (.rangeFunc Z9 [10,11] (rg [oo 7 (.alloc [(.bool false),(.int .i64 0),(.int .i64 0),(.int .i64 0)]),ou (.store 4 Z7 Z11)]) (.block 1 (sr [of 12 0 7,ol 13 12,ov 14 13,wT 15 (fA 1 Z7) 14,wT 16 (.load none Z15) 14,wT 17 (.load none Z3) 14,wT 18 (.bin .eql Z16 Z17) 14,oo 19 (.pick Z14 Z18 aF)] (.cond Z19 (sr [of 20 2 7,os 21 2 20,ou (.store 2 Z4 Z21),ou (.store 1 Z5 aT)] .ret) .skip)))))) (sr [oo 22 (.build [(.int .i64 0),(.int .i64 0)] []),ou (.store 2 Z4 Z22),ou (.store 1 Z5 aF)] .ret)),[.cell 4 (some 2),.cell 5 none]⟩
def F188:AF:=cf false false Tryz.f188
def F212:AF:=⟨sr [oo 2 (.mov aF)] (sq (sr [ov 5 0,oo 6 (lS Z5),om 7 0] (.block 0 (.loop (sr [ob 8 .lss 7 6] (sq (.cond Z8 .skip (.exit 0)) (sq (.block 1 (sr [ov 9 7,ox 10 1 5 7,ol 11 10,ov 3 9,ov 4 11] (sr [ov 12 4,oo 13 (.call 229 [Z12]),oo 14 (.un .not Z13),ov 15 14,wF 16 (.mov Z3) 15,wF 17 (.bin .gtr Z16 (nn 0)) 15,wF 18 (.mov Z17) 15,wT 19 (.mov Z0) 18,wT 20 (.mov Z3) 18,wT 21 (.bin .sub Z20 (nn 1)) 18,wT 22 (.idxSl 1 Z19 Z21) 18,wT 23 (.load none Z22) 18,wT 24 (.mov Z4) 18,wT 25 (.call 251 [Z23,Z24]) 18,wT 26 (.un .not Z25) 18,wF 27 (.pick Z18 Z26 aF) 15,oo 28 (.pick Z15 aT Z27)] (.cond Z28 (sr [oo 2 (.mov aF)] .ret) .skip)))) (rg [on 29 .add 7 1,ov 7 29]))))))) (sr [oo 2 (.mov aT)] .ret)),[.t 2]⟩
def F214:AF:=⟨sr [oo 4 (.mov aF)] (sr [ov 5 0,on 6 .geq 5 0,ov 7 6,wT 8 (.mov Z0) 7,wT 9 (.mov Z1) 7,wT 10 (lS Z9) 7,wT 11 (.bin .lss Z8 Z10) 7,oo 12 (.pick Z7 Z11 aF),ov 4 12] .ret),[.t 4]⟩
def F216:AF:=⟨sr [oo 1 (.box 2 Z0),oo 2 (.mov aF)] (sr [os 6 2 1,oo 7 (.call 253 [Z6]),oo 8 (.call 252 [Z7]),ov 5 8,oe 9 5 0,oe 10 5 1,oo 3 (.alloc [(.int .i64 0),(.int .i64 0)]),ou (.store 2 Z3 Z9),ov 4 10] (sr [ov 11 4,on 12 .eql 11 0,ov 13 12,wT 14 (.load (some 2) Z3) 13,wT 15 (.load (some 2) Z1) 13,wT 16 (.eq false (.struct [.int,.int]) Z14 Z15) 13,oo 17 (.pick Z13 Z16 aF),ov 2 17] .ret)),[.t 2]⟩
def F217:AF:=⟨sr [qq 2 (.box 3 Z0),qq 3 (.box 2 Z1),qq 4 (.mov (.c (.sl none true 0 [])))] (sr [qs 11 3 2,qs 12 2 3,qq 13 (.call 254 [Z11,Z12]),qv 10 13,qe 14 10 0,qe 15 10 1,qq 5 (.alloc [(.bool false),(.int .i64 0),(.int .i64 0),(.int .i64 0)]),qu (.store 4 Z5 Z14),qv 6 15] (sq (sr [qv 16 6,qq 17 (.un .not Z16)] (.cond Z17 (sr [qq 4 (.mov (.c (.sl none true 0 [])))] .ret) .skip)) (sr [qq 7 (.mov (.c (.sl none true 0 [])))] (sq (sr [qf 18 2 5,qf 19 0 18,ql 20 19,qn 21 .neq 20 1] (.cond Z21 (rg [qv 22 7,qq 23 (.buildSl true 1 [(.int .i64 0)] [(0,1,(nn (-1)))] 1),qq 24 (.append true 1 8 Z22 Z23),qv 7 24]) .skip)) (sq (sr [qs 25 3 2,qf 26 0 3,ql 27 26,qf 28 1 5,ql 29 28,qq 30 (.call 255 [Z25,Z27,Z29]),qq 31 (.range false Z30)] (.block 0 (.loop (sr [qq 32 (.nextMap Z31),qe 33 32 0] (sq (.cond Z33 .skip (.exit 0)) (.block 1 (sr [qq 34 (.entry Z31),qe 35 34 0,qe 36 34 1,qq 9 (.alloc [(.int .i64 0),(.int .i64 0)]),qv 8 35,qu (.store 2 Z9 Z36)] (sr [qf 37 2 5,qf 38 0 37,ql 39 38,qn 40 .eql 39 2,qv 41 40,zF 42 (.load (some 2) Z9) 41,zF 43 (fA 2 Z5) 41,zF 44 (.load (some 2) Z43) 41,zF 45 (.eq false (.struct [.int,.int]) Z42 Z44) 41,qq 46 (.pick Z41 aT Z45)] (.cond Z46 (rg [qv 47 7,qv 48 8,qq 49 (.buildSl true 1 [(.int .i64 0)] [(0,1,Z48)] 1),qq 50 (.append true 1 8 Z47 Z49),qv 7 50]) .skip))))))))) (sr [qv 51 7,qq 52 (.call 69 [Z51])] (sr [qv 53 7,qv 4 53] .ret))))))),[.t 4]⟩
def F223:AF:=cf false false Tryz.f223
def F224:AF:=cf false false Tryz.f224
def F225:AF:=cf false false Tryz.f225
def F226:AF:=cf false false Tryz.f226
def F227:AF:=cf false false Tryz.f227
def F228:AF:=cf false false Tryz.f228
def F229:AF:=⟨sr [oo 2 (.mov aF)] (sq (sr [ov 6 0,oo 7 (.call 264 [Z6]),ov 8 7,wF 9 (.mov Z0) 8,wF 10 (.call 265 [Z9]) 8,wF 11 (.un .not Z10) 8,oo 12 (.pick Z8 aT Z11)] (.cond Z12 (sr [oo 2 (.mov aF)] .ret) .skip)) (sr [om 3 0] (sq (sr [ov 13 0,oo 14 (.range true Z13)] (.block 0 (.loop (sr [oo 15 (.nextStr Z14),oe 16 15 0] (sq (.cond Z16 .skip (.exit 0)) (.block 1 (sr [oe 17 15 2,ov 5 17] (sq (sr [ov 18 5,oo 19 (.call 266 [Z18]),oo 20 (.un .not Z19),ov 21 20,wF 22 (.mov Z3) 21,wF 23 (.bin .eql Z22 (nn 0)) 21,wF 24 (.mov Z23) 21,wT 25 (.mov Z5) 24,wT 26 (.call 267 [Z25]) 24,wF 27 (.pick Z24 Z26 aF) 21,oo 28 (.pick Z21 aT Z27)] (.cond Z28 (sr [oo 2 (.mov aF)] .ret) .skip)) (rg [ov 29 3,on 30 .add 29 1,ov 3 30]))))))))) (sr [ov 31 3,on 32 .gtr 31 0,ov 33 32,wT 34 (.mov Z3) 33,wT 35 (.bin .leq Z34 (nn 20)) 33,oo 36 (.pick Z33 Z35 aF),ov 2 36] .ret)))),[.t 2]⟩
def F230:AF:=cf false false Tryz.f230
def F233:AF:=cf false false Tryz.f233
def F234:AF:=⟨sr [oo 2 (.mov (.c (.sl none true 0 [])))] (sr [oo 7 (.buildSl false 1 [] [] 0),ov 3 7] (sq (sr [om 4 0] (.block 0 (.loop (sq (sr [ov 8 4,ov 9 0,oo 10 (.lenStr Z9),ob 11 .lss 8 10] (.cond Z11 .skip (.exit 0))) (.block 1 (sr [ov 13 0,ov 14 4,oo 15 (.call 273 [Z13,Z14]),ov 12 15,oe 16 12 0,oe 17 12 1,ov 5 16,ov 6 17] (sr [ov 18 3,ov 19 6,oo 20 (.buildSl false 1 [(.int .i64 0)] [(0,1,Z19)] 1),oo 21 (.append false 1 8 Z18 Z20),ov 3 21] (rg [ov 22 4,ov 23 5,ob 24 .add 22 23,ov 4 24])))))))) (sr [ov 25 3,ov 2 25] .ret))),[.t 2]⟩
def F235:AF:=⟨sr [oo 2 (.mov aF)] (sr [ov 3 0,oo 4 (.bin .eql Z3 (.c (.str [98,101,103,105,110]))),ov 5 4,wF 6 (.mov Z0) 5,wF 7 (.bin .eql Z6 (.c (.str [114,101,97,100]))) 5,oo 8 (.pick Z5 aT Z7),ov 9 8,wF 10 (.mov Z0) 9,wF 11 (.bin .eql Z10 (.c (.str [119,114,105,116,101]))) 9,oo 12 (.pick Z9 aT Z11),ov 13 12,wF 14 (.mov Z0) 13,wF 15 (.bin .eql Z14 (.c (.str [111,107]))) 13,oo 16 (.pick Z13 aT Z15),ov 17 16,wF 18 (.mov Z0) 17,wF 19 (.bin .eql Z18 (.c (.str [102,97,105,108]))) 17,oo 20 (.pick Z17 aT Z19),ov 21 20,wF 22 (.mov Z0) 21,wF 23 (.bin .eql Z22 (.c (.str [105,110,102,111]))) 21,oo 24 (.pick Z21 aT Z23),ov 25 24,wF 26 (.mov Z0) 25,wF 27 (.bin .eql Z26 (.c (.str [110,105,108]))) 25,oo 28 (.pick Z25 aT Z27),ov 2 28] .ret),[.t 2]⟩
def F236:AF:=⟨sr [oo 2 (.mov aF)] (sq (sr [om 3 0] (.block 0 (.loop (sq (sr [ov 6 3,ov 7 0,oo 8 (.lenStr Z7),ob 9 .lss 6 8] (.cond Z9 .skip (.exit 0))) (.block 1 (sr [ov 11 0,ov 12 3,oo 13 (.call 273 [Z11,Z12]),ov 10 13,oe 14 10 0,oe 15 10 1,ov 4 14,ov 5 15] (sq (sr [ov 16 5,on 17 .eql 16 65533,ov 18 17,wT 19 (.mov Z4) 18,wT 20 (.bin .neq Z19 (nn 3)) 18,oo 21 (.pick Z18 Z20 aF)] (.cond Z21 (sr [oo 2 (.mov aF)] .ret) .skip)) (rg [ov 22 3,ov 23 4,ob 24 .add 22 23,ov 3 24])))))))) (sr [oo 2 (.mov aT)] .ret)),[.t 2]⟩
def F251:AF:=⟨sr [oo 4 (.mov aF)] (sr [ov 5 0,ov 6 1,oo 7 (.call 280 [Z5,Z6]),on 8 .lss 7 0,ov 4 8] .ret),[.t 4]⟩
def F252:AF:=⟨sr [oo 1 (.box 1 Z0),oo 2 (.alloc [(.int .i64 0),(.int .i64 0)]),om 3 0] (sq (sr [of 7 0 1,ol 8 7] (.block 0 (sr [oo 9 (.eq false .iface Z8 (.c .nilif))] (.cond Z9 (sr [ov 4 8] (sr [oo 10 (.build [(.int .i64 0),(.int .i64 0)] []),ou (.store 2 Z2 Z10),om 3 0] .ret)) (sr [oo 11 (.assert 2 (.int .i64 0) true Z8),oe 12 11 1,oe 13 11 0] (.cond Z12 (sr [ov 5 13] (sr [ov 14 5,oo 15 (.build [(.int .i64 0),(.int .i64 0)] [(0,1,(nn 1)),(1,1,Z14)]),ou (.store 2 Z2 Z15),om 3 0] .ret)) (sr [oo 16 (.assert 316 (.agg []) true Z8),oe 17 16 1,oe 18 16 0] (.cond Z17 (sr [oo 6 (.alloc []),ou (.store 0 Z6 Z18)] (sr [oo 19 (.build [(.int .i64 0),(.int .i64 0)] [(0,1,(nn 2))]),ou (.store 2 Z2 Z19),om 3 0] .ret)) .skip)))))))) (sr [oo 20 (.build [(.int .i64 0),(.int .i64 0)] []),ou (.store 2 Z2 Z20),om 3 15] .ret)),[.cell 2 (some 2),.t 3]⟩
def F253:AF:=⟨sr [oo 1 (.box 2 Z0),oo 2 (.alloc [.nilif])] (sq (sr [of 3 0 1,ol 4 3] (.block 0 (sr [on 6 .eql 4 1,ov 5 6] (.cond Z5 (sr [of 7 1 1,ol 8 7,oo 9 (.iface 2 Z8),oo 10 (.build [.nilif] [(0,1,Z9)]),ou (.store 1 Z2 Z10)] .ret) (sr [on 12 .eql 4 2,ov 11 12] (.cond Z11 (sr [oo 13 (.build [] []),oo 14 (.iface 316 Z13),oo 15 (.build [.nilif] [(0,1,Z14)]),ou (.store 1 Z2 Z15)] .ret) .skip)))))) (sr [oo 16 (.build [.nilif] []),ou (.store 1 Z2 Z16)] .ret)),[.cell 2 (some 1)]⟩
def F254:AF:=⟨sr [oo 2 (.box 3 Z0),oo 3 (.box 2 Z1),oo 4 (.alloc [(.bool false),(.int .i64 0),(.int .i64 0),(.int .i64 0)]),oo 5 (.mov aF)] (sq (.seq (.draw [os 7 3 2,oo 8 (.call 103 [Z7]),on 9 .neq 8 0,ov 10 9,wF 11 (fA 0 Z3) 10,wF 12 (.load none Z11) 10,wF 13 (.bin .lss Z12 (nn 0)) 10,oo 14 (.pick Z10 aT Z13),ov 15 14,wF 16 (fA 0 Z3) 15,wF 17 (.load none Z16) 15,wF 18 (fA 2 Z2) 15,wF 19 (.load none Z18) 15,wF 20 (lS Z19) 15,wF 21 (.bin .geq Z17 Z20) 15,oo 22 (.pick Z15 aT Z21),ov 23 22,wF 24 (fA 1 Z3) 23,wF 25 (.load none Z24) 23,wF 26 (.bin .lss Z25 (nn 0)) 23,oo 27 (.pick Z23 aT Z26),ov 28 27,wF 29 (fA 1 Z3) 28,wF 30 (.load none Z29) 28,wF 31 (fA 2 Z2) 28,wF 32 (.load none Z31) 28,wF 33 (fA 0 Z3) 28,wF 34 (.load none Z33) 28,wF 35 (.idxSl 3 Z32 Z34) 28,wF 36 (fA 2 Z35) 28,wF 37 (.load none Z36) 28,wF 38 (lS Z37) 28,wF 39 (.bin .geq Z30 Z38) 28,oo 40 (.pick Z28 aT Z39)] []) (.cond Z40 (sr [oo 41 (.build [(.bool false),(.int .i64 0),(.int .i64 0),(.int .i64 0)] []),ou (.store 4 Z4 Z41),oo 5 (.mov aF)] .ret) .skip)) (sq (.draw [of 42 2 2,ol 43 42,of 44 0 3,ol 45 44,ox 46 3 43 45,of 47 2 46,ol 48 47,of 49 1 3,ol 50 49,ox 51 4 48 50,os 52 4 51,oo 6 (.alloc [(.bool false),(.int .i64 0),(.int .i64 0),(.int .i64 0)]),ou (.store 4 Z6 Z52)] [(1,11),(3,11),(6,11),(8,11),(10,11)]) (sq (.draw [os 53 4 6,of 54 0 6,ol 55 54,oo 56 (.un .not Z55),ou (.store 4 Z4 (.t 53)),ov 5 56] [(2,4)]) .ret))),[.cell 4 (some 4),.t 5]⟩
def F258:AF:=cf false false Tryz.f258
def F259:AF:=cf false false Tryz.f259
def F261:AF:=cf false false Tryz.f261
def F262:AF:=cf false false Tryz.f262
def F263:AF:=cf false false Tryz.f263
def F264:AF:=⟨sr [oo 2 (.mov aF)] (sq (sr [ov 3 0] (.block 0 (sq (sr [oo 5 (.bin .eql Z3 (.c (.str [98,101,103,105,110]))),ov 4 5] (.cond Z4 .skip (sr [oo 6 (.bin .eql Z3 (.c (.str [114,101,97,100]))),ov 4 6] (.cond Z4 .skip (sr [oo 7 (.bin .eql Z3 (.c (.str [119,114,105,116,101]))),ov 4 7] (.cond Z4 .skip (sr [oo 8 (.bin .eql Z3 (.c (.str [111,107]))),ov 4 8] (.cond Z4 .skip (sr [oo 9 (.bin .eql Z3 (.c (.str [102,97,105,108]))),ov 4 9] (.cond Z4 .skip (sr [oo 10 (.bin .eql Z3 (.c (.str [105,110,102,111]))),ov 4 10] (.cond Z4 .skip (rg [oo 11 (.bin .eql Z3 (.c (.str [110,105,108]))),ov 4 11]))))))))))))) (.cond Z4 (sr [oo 2 (.mov aT)] .ret) .skip)))) (sr [oo 2 (.mov aF)] .ret)),[.t 2]⟩
def F265:AF:=⟨sr [oo 2 (.mov aF)] (sq (.block 0 (.loop (sq (sr [ov 7 0,oo 8 (.lenStr Z7),on 9 .gtr 8 0] (.cond Z9 .skip (.exit 0))) (.block 1 (sr [ov 10 0,oo 11 (.idxStr Z10 (nn 0)),ov 3 11] (sq (sr [ov 12 3,oo 13 (.bin .lss Z12 (.c (.int .u8 128)))] (.cond Z13 (sr [ov 14 0,oo 15 (.slStr Z14 (some (nn 1)) none),ov 0 15] (sq (sr [ov 16 0,oo 17 (.lenStr Z16),on 18 .gtr 17 8,ov 19 18,wT 20 (.mov Z0) 19,wT 21 (.call 289 [Z20]) 19,wT 22 (.bin .and Z21 (.c (.int .u64 9259542123273814144))) 19,wT 23 (.bin .eql Z22 (.c (.int .u64 0))) 19,oo 24 (.pick Z19 Z23 aF)] (.cond Z24 (sr [ov 25 0,oo 26 (.slStr Z25 (some (nn 8)) none),ov 0 26] (sq (.draw [ov 27 0,oo 28 (.lenStr Z27),on 29 .gtr 28 16,ov 30 29,wT 31 (.mov Z0) 30,wT 32 (.call 289 [Z31]) 30,wT 33 (.mov Z0) 30,wT 34 (.slStr Z33 (some (nn 8)) none) 30,wT 35 (.call 289 [Z34]) 30,wT 36 (.bin .or Z32 Z35) 30,wT 37 (.bin .and Z36 (.c (.int .u64 9259542123273814144))) 30,wT 38 (.bin .eql Z37 (.c (.int .u64 0))) 30,oo 39 (.pick Z30 Z38 aF)] []) (.cond Z39 (sr [ov 40 0,oo 41 (.slStr Z40 (some (nn 16)) none),ov 0 41] (.block 2 (.loop (sq (.seq (.draw [ov 42 0,oo 43 (.lenStr Z42),on 44 .gtr 43 32,ov 45 44,wT 46 (.mov Z0) 45,wT 47 (.call 289 [Z46]) 45,wT 48 (.mov Z0) 45,wT 49 (.slStr Z48 (some (nn 8)) none) 45,wT 50 (.call 289 [Z49]) 45,wT 51 (.bin .or Z47 Z50) 45,wT 52 (.mov Z0) 45,wT 53 (.slStr Z52 (some (nn 16)) none) 45,wT 54 (.call 289 [.t 53]) 45,wT 55 (.mov Z0) 45,wT 56 (.slStr Z55 (some (nn 24)) none) 45,wT 57 (.call 289 [Z56]) 45,wT 58 (.bin .or Z54 Z57) 45,wT 59 (.bin .or Z51 Z58) 45,wT 60 (.bin .and Z59 (.c (.int .u64 9259542123273814144))) 45,wT 61 (.bin .eql Z60 (.c (.int .u64 0))) 45,oo 62 (.pick Z45 Z61 aF)] []) (.cond Z62 .skip (.exit 2))) (.block 3 (rg [ov 63 0,oo 64 (.slStr Z63 (some (nn 32)) none),ov 0 64])))))) .skip))) .skip)) (.exit 1))) .skip)) (sr [ov 65 3,oo 66 (.idxArr 256 1 (.g 2) Z65),ol 67 66,ov 4 67] (sr [ov 68 4,oo 69 (.bin .and Z68 (.c (.int .u8 7))),oo 70 (.conv .i64 Z69),ov 5 70] (sr [ov 71 4,oo 72 (.bin .shr Z71 (.c (.int .u64 4))),oo 73 (.idxArr 16 2 (.g 3) Z72),os 74 2 73,oo 6 (.alloc [(.int .u8 0),(.int .u8 0)]),ou (.store 2 Z6 Z74)] (sr [ov 75 5] (.block 4 (sr [on 77 .eql 75 2,ov 76 77] (.cond Z76 (sq (.seq (.draw [ov 78 0,oo 79 (.lenStr Z78),on 80 .lss 79 2,ov 81 80,wF 82 (.mov Z0) 81,wF 83 (.idxStr Z82 (nn 1)) 81,wF 84 (fA 0 Z6) 81,wF 85 (.load none (.t 84)) 81,wF 86 (.bin .lss (.t 83) Z85) 81,oo 87 (.pick (.t 81) aT (.t 86)),ov 88 87,wF 89 (fA 1 Z6) 88,wF 90 (.load none (.t 89)) 88,wF 91 (.mov Z0) 88,wF 92 (.idxStr Z91 (nn 1)) 88,wF 93 (.bin .lss (.t 90) (.t 92)) 88,oo 94 (.pick (.t 88) aT (.t 93))] []) (.cond (.t 94) (sr [oo 2 (.mov aF)] .ret) .skip)) (rg [ov 95 0,oo 96 (.slStr (.t 95) (some (nn 2)) none),ov 0 96])) (sr [on 98 .eql 75 3,ov 97 98] (.cond (.t 97) (sq (.seq (.draw [ov 99 0,oo 100 (.lenStr (.t 99)),on 101 .lss 100 3,ov 102 101,wF 103 (.mov Z0) 102,wF 104 (.idxStr (.t 103) (nn 1)) 102,wF 105 (fA 0 Z6) 102,wF 106 (.load none (.t 105)) 102,wF 107 (.bin .lss (.t 104) (.t 106)) 102,oo 108 (.pick (.t 102) aT (.t 107)),ov 109 108,wF 110 (fA 1 Z6) 109,wF 111 (.load none (.t 110)) 109,wF 112 (.mov Z0) 109,wF 113 (.idxStr (.t 112) (nn 1)) 109,wF 114 (.bin .lss (.t 111) (.t 113)) 109,oo 115 (.pick (.t 109) aT (.t 114)),ov 116 115,wF 117 (.mov Z0) 116,wF 118 (.idxStr (.t 117) (nn 2)) 116,wF 119 (.bin .lss (.t 118) (.c (.int .u8 128))) 116,oo 120 (.pick (.t 116) aT (.t 119)),ov 121 120,wF 122 (.mov Z0) 121,wF 123 (.idxStr (.t 122) (nn 2)) 121,wF 124 (.bin .lss (.c (.int .u8 191)) (.t 123)) 121,oo 125 (.pick (.t 121) aT (.t 124))] []) (.cond (.t 125) (sr [oo 2 (.mov aF)] .ret) .skip)) (rg [ov 126 0,oo 127 (.slStr (.t 126) (some (nn 3)) none),ov 0 127])) (sr [on 129 .eql 75 4,ov 128 129] (.cond (.t 128) (sq (.seq (.draw [ov 130 0,oo 131 (.lenStr (.t 130)),on 132 .lss 131 4,ov 133 132,wF 134 (.mov Z0) 133,wF 135 (.idxStr (.t 134) (nn 1)) 133,wF 136 (fA 0 Z6) 133,wF 137 (.load none (.t 136)) 133,wF 138 (.bin .lss (.t 135) (.t 137)) 133,oo 139 (.pick (.t 133) aT (.t 138)),ov 140 139,wF 141 (fA 1 Z6) 140,wF 142 (.load none (.t 141)) 140,wF 143 (.mov Z0) 140,wF 144 (.idxStr (.t 143) (nn 1)) 140,wF 145 (.bin .lss (.t 142) (.t 144)) 140,oo 146 (.pick (.t 140) aT (.t 145)),ov 147 146,wF 148 (.mov Z0) 147,wF 149 (.idxStr (.t 148) (nn 2)) 147,wF 150 (.bin .lss (.t 149) (.c (.int .u8 128))) 147,oo 151 (.pick (.t 147) aT (.t 150)),ov 152 151,wF 153 (.mov Z0) 152,wF 154 (.idxStr (.t 153) (nn 2)) 152,wF 155 (.bin .lss (.c (.int .u8 191)) (.t 154)) 152,oo 156 (.pick (.t 152) aT (.t 155)),ov 157 156,wF 158 (.mov Z0) 157,wF 159 (.idxStr (.t 158) (nn 3)) 157,wF 160 (.bin .lss (.t 159) (.c (.int .u8 128))) 157,oo 161 (.pick (.t 157) aT (.t 160)),ov 162 161,wF 163 (.mov Z0) 162,wF 164 (.idxStr (.t 163) (nn 3)) 162,wF 165 (.bin .lss (.c (.int .u8 191)) (.t 164)) 162,oo 166 (.pick (.t 162) aT (.t 165))] []) (.cond (.t 166) (sr [oo 2 (.mov aF)] .ret) .skip)) (rg [ov 167 0,oo 168 (.slStr (.t 167) (some (nn 4)) none),ov 0 168])) (sr [oo 2 (.mov aF)] .ret)))))))))))))))))) (sr [oo 2 (.mov aT)] .ret)),[.t 2]⟩
def F266:AF:=⟨sr [oo 2 (.mov aF)] (sr [ov 3 0,oo 4 (.bin .gtr Z3 (.c (.int .i32 127))),ov 5 4,wF 6 (.mov Z0) 5,wF 7 (.bin .eql Z6 (.c (.int .i32 95))) 5,oo 8 (.pick Z5 aT Z7),ov 9 8,wF 10 (.mov Z0) 9,wF 11 (.call 267 [Z10]) 9,oo 12 (.pick Z9 aT Z11),ov 13 12,wF 14 (.mov Z0) 13,wF 15 (.bin .geq Z14 (.c (.int .i32 97))) 13,wF 16 (.mov Z15) 13,wT 17 (.mov Z0) 16,wT 18 (.bin .leq Z17 (.c (.int .i32 122))) 16,wF 19 (.pick Z16 Z18 aF) 13,oo 20 (.pick Z13 aT Z19),ov 21 20,wF 22 (.mov Z0) 21,wF 23 (.bin .geq Z22 (.c (.int .i32 65))) 21,wF 24 (.mov Z23) 21,wT 25 (.mov Z0) 24,wT 26 (.bin .leq Z25 (.c (.int .i32 90))) 24,wF 27 (.pick Z24 Z26 aF) 21,oo 28 (.pick Z21 aT Z27),ov 2 28] .ret),[.t 2]⟩
def F267:AF:=⟨sr [oo 2 (.mov aF)] (sr [ov 3 0,oo 4 (.bin .geq Z3 (.c (.int .i32 48))),ov 5 4,wT 6 (.mov Z0) 5,wT 7 (.bin .leq Z6 (.c (.int .i32 57))) 5,oo 8 (.pick Z5 Z7 aF),ov 2 8] .ret),[.t 2]⟩
def F268:AF:=cf false false Tryz.f268
def F269:AF:=cf false false Tryz.f269
def F273:AF:=⟨sr [om 4 0,om 5 0] (sr [ov 12 0,ov 13 1,oo 14 (.idxStr Z12 Z13),oo 15 (.conv .i64 Z14),ov 6 15] (sq (sr [ov 16 6,on 17 .lss 16 128] (.cond Z17 (sr [ov 18 6,om 4 1,ov 5 18] .ret) .skip)) (sr [om 7 0,om 8 0,om 9 0] (sq (sr [ov 19 6,on 20 .geq 19 194,ov 21 20,wT 22 (.mov Z6) 21,wT 23 (.bin .leq Z22 (nn 223)) 21,oo 24 (.pick Z21 Z23 aF)] (.cond Z24 (rg [ov 25 6,on 26 .sub 25 192,om 7 2,om 8 128,ov 9 26]) .skip)) (sq (sr [ov 27 6,on 28 .geq 27 224,ov 29 28,wT 30 (.mov Z6) 29,wT 31 (.bin .leq Z30 (nn 239)) 29,oo 32 (.pick Z29 Z31 aF)] (.cond Z32 (rg [ov 33 6,on 34 .sub 33 224,om 7 3,om 8 2048,ov 9 34]) .skip)) (sq (sr [ov 35 6,on 36 .geq 35 240,ov 37 36,wT 38 (.mov Z6) 37,wT 39 (.bin .leq Z38 (nn 244)) 37,oo 40 (.pick Z37 Z39 aF)] (.cond Z40 (rg [ov 41 6,on 42 .sub 41 240,om 7 4,om 8 65536,ov 9 42]) .skip)) (sq (sr [ov 43 7,on 44 .eql 43 0,ov 45 44,wF 46 (.mov Z1) 45,wF 47 (.mov Z7) 45,wF 48 (.bin .add Z46 Z47) 45,wF 49 (.mov Z0) 45,wF 50 (.lenStr Z49) 45,wF 51 (.bin .gtr Z48 Z50) 45,oo 52 (.pick Z45 aT Z51)] (.cond Z52 (sr [om 4 1,om 5 65533] .ret) .skip)) (sq (sr [om 10 1] (.block 0 (.loop (sq (sr [ov 53 10,ov 54 7,ob 55 .lss 53 54] (.cond Z55 .skip (.exit 0))) (sq (.block 1 (sr [ov 58 0,ov 59 1,ov 60 10,ob 61 .add 59 60,oo 62 (.idxStr Z58 Z61),oo 63 (.conv .i64 Z62),ov 11 63] (sq (sr [ov 64 11,on 65 .lss 64 128,ov 66 65,wF 67 (.mov Z11) 66,wF 68 (.bin .gtr Z67 (nn 191)) 66,oo 69 (.pick Z66 aT Z68)] (.cond Z69 (sr [om 4 1,om 5 65533] .ret) .skip)) (rg [ov 70 9,oo 71 (.bin .mul (nn 64) Z70),ov 72 11,ob 73 .add 71 72,on 74 .sub 73 128,ov 9 74])))) (rg [ov 56 10,on 57 .add 56 1,ov 10 57])))))) (sq (sr [ov 75 9,ov 76 8,ob 77 .lss 75 76,ov 78 77,wF 79 (.mov Z9) 78,wF 80 (.bin .gtr (.t 79) (nn 1114111)) 78,oo 81 (.pick Z78 aT (.t 80)),ov 82 81,wF 83 (.mov Z9) 82,wF 84 (.bin .geq (.t 83) (nn 55296)) 82,wF 85 (.mov (.t 84)) 82,wT 86 (.mov Z9) 85,wT 87 (.bin .leq (.t 86) (nn 57343)) 85,wF 88 (.pick Z85 (.t 87) aF) 82,oo 89 (.pick Z82 aT (.t 88))] (.cond (.t 89) (sr [om 4 1,om 5 65533] .ret) .skip)) (sr [ov 90 7,ov 91 9,ov 4 90,ov 5 91] .ret)))))))))),[.t 4,.t 5]⟩
def F280:AF:=⟨sr [om 4 0] (sr [ov 5 0,oo 6 (.runesOfStr Z5),ov 7 1,oo 8 (.runesOfStr Z7),oo 9 (.call 293 [Z6,Z8]),ov 4 9] .ret),[.t 4]⟩
def F281:AF:=⟨sr [oo 2 (.box 3 Z0),oo 3 (.box 1 Z1),oo 4 (.mov (.c (.sl none true 0 [])))] (sq (sr [os 9 3 2,oo 10 (.call 103 [Z9]),on 11 .neq 10 0] (.cond Z11 (sr [oo 4 (.mov (.c (.sl none true 0 [])))] .ret) .skip)) (sr [oo 12 (.mkFn (.func 294) [] [.t 3]),ov 5 12] (sr [oo 6 (.mov (.c (.sl none true 0 [])))] (sq (sr [of 13 2 2,ol 14 13,oo 15 (lS Z14),om 16 0] (.block 0 (.loop (sr [ob 17 .lss 16 15] (sq (.cond Z17 .skip (.exit 0)) (sq (.block 1 (sr [ov 18 16,ox 19 3 14 16,os 20 3 19,oo 8 (.alloc [(.int .i64 0),(.int .i64 0),(.sl none true 0 [])]),ov 7 18,ou (.store 3 Z8 Z20)] (sr [ov 21 5,os 22 3 8,oo 23 (.callV Z21 [.t 22])] (.cond Z23 (rg [ov 24 6,ov 25 7,oo 26 (.buildSl false 1 [(.int .i64 0)] [(0,1,Z25)] 1),oo 27 (.append false 1 8 Z24 Z26),ov 6 27]) .skip)))) (rg [on 28 .add 16 1,ov 16 28]))))))) (sr [ov 29 6,ov 4 29] .ret))))),[.t 4]⟩
def F284:AF:=cf false false Tryz.f284
def F285:AF:=cf false false Tryz.f285
def F286:AF:=cf false false Tryz.f286
def F288:AF:=cf false false Tryz.f288
def F289:AF:=⟨sr [oo 2 (.mov (.c (.int .u64 0)))] (sq (.cond aF (sq (.draw [ov 3 0,oo 4 (.idxStr Z3 (nn 0)),oo 5 (.conv .u64 Z4),ov 6 0,oo 7 (.idxStr Z6 (nn 1)),oo 8 (.conv .u64 Z7),oo 9 (.bin .shl Z8 (.c (.int .u64 8))),ob 10 .or 5 9,ov 11 0,oo 12 (.idxStr Z11 (nn 2)),oo 13 (.conv .u64 Z12),oo 14 (.bin .shl Z13 (.c (.int .u64 16))),ob 15 .or 10 14,ov 16 0,oo 17 (.idxStr Z16 (nn 3)),oo 18 (.conv .u64 Z17),oo 19 (.bin .shl Z18 (.c (.int .u64 24))),ob 20 .or 15 19,ov 2 20] []) .ret) .skip) (sq (.draw [ov 21 0,oo 22 (.idxStr Z21 (nn 0)),oo 23 (.conv .u64 Z22),ov 24 0,oo 25 (.idxStr Z24 (nn 1)),oo 26 (.conv .u64 Z25),oo 27 (.bin .shl Z26 (.c (.int .u64 8))),ob 28 .or 23 27,ov 29 0,oo 30 (.idxStr Z29 (nn 2)),oo 31 (.conv .u64 Z30),oo 32 (.bin .shl Z31 (.c (.int .u64 16))),ob 33 .or 28 32,ov 34 0,oo 35 (.idxStr Z34 (nn 3)),oo 36 (.conv .u64 Z35),oo 37 (.bin .shl Z36 (.c (.int .u64 24))),ob 38 .or 33 37,ov 39 0,oo 40 (.idxStr Z39 (nn 4)),oo 41 (.conv .u64 Z40),oo 42 (.bin .shl Z41 (.c (.int .u64 32))),ob 43 .or 38 42,ov 44 0,oo 45 (.idxStr Z44 (nn 5)),oo 46 (.conv .u64 Z45),oo 47 (.bin .shl Z46 (.c (.int .u64 40))),ob 48 .or 43 47,ov 49 0,oo 50 (.idxStr Z49 (nn 6)),oo 51 (.conv .u64 Z50),oo 52 (.bin .shl Z51 (.c (.int .u64 48))),ob 53 .or 48 52,ov 54 0,oo 55 (.idxStr Z54 (nn 7)),oo 56 (.conv .u64 Z55),oo 57 (.bin .shl Z56 (.c (.int .u64 56))),ob 58 .or 53 57,ov 2 58] []) .ret)),[.t 2]⟩
def F293:AF:=⟨sr [om 4 0] (sq (sr [ov 9 0,oo 10 (lS Z9),om 11 0] (.block 0 (.loop (sr [ob 12 .lss 11 10] (sq (.cond Z12 .skip (.exit 0)) (sq (.block 1 (sr [ov 13 11,ox 14 1 9 11,ol 15 14,ov 5 13,ov 6 15] (sq (sr [ov 16 5,ov 17 1,oo 18 (lS Z17),ob 19 .geq 16 18] (.cond Z19 (sr [om 4 1] .ret) .skip)) (sr [ov 20 1,ov 21 5,ox 22 1 20 21,ol 23 22,ov 7 23] (sr [ov 24 6,ov 25 7,oo 26 (.call 304 [Z24,Z25]),ov 8 26] (sr [ov 27 8,on 28 .neq 27 0] (.cond Z28 (sr [ov 29 8,ov 4 29] .ret) .skip))))))) (rg [on 30 .add 11 1,ov 11 30]))))))) (sq (sr [ov 31 0,oo 32 (lS Z31),ov 33 1,oo 34 (lS Z33),ob 35 .lss 32 34] (.cond Z35 (sr [oo 4 (.mov (nn (-1)))] .ret) .skip)) (sr [om 4 0] .ret))),[.t 4]⟩
def F300:AF:=cf false false Tryz.f300
def F304:AF:=⟨sr [om 4 0] (sr [ov 7 0,oo 8 (.call 320 [Z7]),ov 5 8] (sr [ov 9 1,oo 10 (.call 320 [Z9]),ov 6 10] (sq (sr [ov 11 5] (.cond Z11 (sq (sr [ov 12 6] (.cond Z12 (sr [om 4 0] .ret) .skip)) (sr [oo 4 (.mov (nn (-1)))] .ret)) .skip)) (sq (sr [ov 13 6] (.cond Z13 (sr [om 4 1] .ret) .skip)) (sq (sr [ov 14 0,ov 15 1,ob 16 .lss 14 15] (.cond Z16 (sr [oo 4 (.mov (nn (-1)))] .ret) .skip)) (sq (sr [ov 17 0,ov 18 1,ob 19 .gtr 17 18] (.cond Z19 (sr [om 4 1] .ret) .skip)) (sr [om 4 0] .ret))))))),[.t 4]⟩
def F307:AF:=cf false false Tryz.f307
def F320:AF:=⟨sr [oo 2 (.mov aF)] (sr [ov 3 0,ov 4 0,ob 5 .neq 3 4,ov 2 5] .ret),[.t 2]⟩
def S51:AF:=⟨sr [qq 1 (.box 3 Z0),qq 2 (.alloc [(.sl none true 0 []),(.sl none true 0 []),(.sl none true 0 [])])] (sr [qq 8 (.build [(.sl none true 0 []),(.sl none true 0 []),(.sl none true 0 [])] []),qq 3 (.alloc [(.sl none true 0 []),(.sl none true 0 []),(.sl none true 0 [])]),qu (.store 3 Z3 Z8)] (sq (sr [qm 4 0] (.block 0 (.loop (sq (sr [qv 9 4,qf 10 0 1,ql 11 10,qq 12 (lS Z11),qb 13 .lss 9 12,qv 14 13,zT 15 (.mov Z4) 14,zT 16 (.bin .lss Z15 (nn 25)) 14,qq 17 (.pick Z14 Z16 aF)] (.cond Z17 .skip (.exit 0))) (sq (.block 1 (.draw [qf 20 0 3,ql 21 20,qf 22 0 1,ql 23 22,qv 24 4,qx 25 1 23 24,ql 26 25,qf 27 0 1,ql 28 27,qv 29 4,qx 30 1 28 29,ql 31 30,qq 32 (.lenStr Z31),qq 33 (.minmax false [Z32,(nn 100)]),qq 34 (.slStr Z26 none (some Z33)),qq 35 (.buildSl true 1 [(.str [])] [(0,1,Z34)] 1),qq 36 (.append true 1 16 Z21 Z35),qf 37 0 3,qu (.store 1 Z37 Z36)] [(1,15)])) (rg [qv 18 4,qn 19 .add 18 1,qv 4 19])))))) (sq (sr [qm 5 0] (.block 2 (.loop (sq (sr [qv 38 5,qf 39 1 1,ql 40 39,qq 41 (lS Z40),qb 42 .lss 38 41,qv 43 42,zT 44 (.mov Z5) 43,zT 45 (.bin .lss Z44 (nn 45)) 43,qq 46 (.pick Z43 Z45 aF)] (.cond Z46 .skip (.exit 2))) (sq (.block 3 (.draw [qf 49 1 3,ql 50 49,qf 51 1 1,ql 52 51,qv 53 5,qx 54 1 52 53,ql 55 54,qf 56 1 1,ql 57 56,qv 58 5,qx 59 1 57 58,ql 60 59,qq 61 (.lenStr Z60),qq 62 (.minmax false [Z61,(nn 100)]),qq 63 (.slStr Z55 none (some Z62)),qq 64 (.buildSl true 1 [(.str [])] [(0,1,Z63)] 1),qq 65 (.append true 1 16 Z50 Z64),qf 66 1 3,qu (.store 1 Z66 Z65)] [(1,15)])) (rg [qv 47 5,qn 48 .add 47 1,qv 5 48])))))) (sq (sr [qm 6 0] (.block 4 (.loop (sq (sr [qv 67 6,qf 68 2 1,ql 69 68,qq 70 (lS Z69),qb 71 .lss 67 70,qv 72 71,zT 73 (.mov Z6) 72,zT 74 (.bin .lss Z73 (nn 45)) 72,qq 75 (.pick Z72 Z74 aF)] (.cond (.t 75) .skip (.exit 4))) (sq (.block 5 (sr [qf 78 2 1,ql 79 78,qv 80 6,qx 81 3 79 80,qs 82 3 81,qq 7 (.alloc [(.int .i64 0),(.int .i64 0),(.sl none true 0 [])]),qu (.store 3 Z7 Z82)] (sr [qq 83 (.buildSl true 4 [] [] 0),qf 84 2 7,ql 85 84,qf 86 2 7,ql 87 86,qq 88 (lS (.t 87)),qq 89 (.minmax false [(.t 88),(nn 25)]),qq 90 (.slSl 4 Z85 none (some (.t 89))),qq 91 (.append true 4 32 (.t 83) (.t 90)),qf 92 2 7,qu (.store 1 (.t 92) Z91)] (rg [qf 93 2 3,ql 94 93,qs 95 3 7,qq 96 (.buildSl true 3 [(.int .i64 0),(.int .i64 0),(.sl none true 0 [])] [(0,3,(.t 95))] 1),qq 97 (.append true 3 40 (.t 94) (.t 96)),qf 98 2 3,qu (.store 1 (.t 98) (.t 97))])))) (rg [qv 76 6,qn 77 .add 76 1,qv 6 77])))))) (sr [qs 99 3 3,qu (.store 3 Z2 (.t 99))] .ret))))),[.cell 2 (some 3)]⟩
def S55:AF:=⟨sr [qq 4 (.box 3 Z1),qq 6 (.mov (.c .nilptr))] (sr [qv 10 0,qs 11 3 4,qq 12 (.mkMap),qq 13 (.mkMap),qu (.mapSet .int Z13 (nn (-1)) (nn (-1))),qv 14 13,qq 15 (.mkMap),qq 16 (.mkMap),qq 17 (.mkMap),qq 18 (.build [(.int .i64 0),(.sl none true 0 []),(.sl none true 0 []),(.sl none true 0 []),.nilmap,.nilmap,.nilmap,.nilmap,.nilmap] [(0,1,Z10),(1,3,Z11),(4,1,Z12),(5,1,Z14),(6,1,Z15),(7,1,Z16),(8,1,Z17)]),qq 19 (.box 9 Z18),qv 7 19] (sq (sr [qs 20 3 4,qq 21 (.call 86 [Z20]),qq 22 (lS Z21),qm 23 0] (.block 0 (.loop (sr [qb 24 .lss 23 22] (sq (.cond Z24 .skip (.exit 0)) (sq (.block 1 (sr [qv 25 23,qx 26 2 21 23,qs 27 2 26,qq 9 (.alloc [(.int .i64 0),(.int .i64 0)]),qv 8 25,qu (.store 2 Z9 Z27)] (.draw [qv 28 7,qq 29 (.nilCheck Z28),qf 30 4 29,ql 31 30,qf 32 0 9,ql 33 32,qv 34 7,qq 35 (.nilCheck Z34),qf 36 4 35,ql 37 36,qf 38 0 9,ql 39 38,qq 40 (.lookup .int (.sl none true 0 []) false Z37 Z39),qf 41 1 9,ql 42 41,qf 43 2 4,ql 44 43,qf 45 0 9,ql 46 45,qx 47 3 44 46,qf 48 2 47,ql 49 48,qf 50 1 9,ql 51 50,qx 52 4 49 51,qf 53 1 52,ql 54 53,qv 55 2,qv 56 8,qx 57 1 55 56,ql 58 57,qq 59 (.build [(.int .i64 0),(.int .i64 0),(.int .i64 0)] [(0,1,Z42),(1,1,Z54),(2,1,Z58)]),qq 60 (.buildSl true 3 [(.int .i64 0),(.int .i64 0),(.int .i64 0)] [(0,3,Z59)] 1),qq 61 (.append true 3 24 Z40 Z60),qu (.mapSet .int Z31 Z33 Z61)] [(3,32),(5,32),(9,32),(11,32),(12,32),(3,33),(5,33)]))) (rg [qn 62 .add 23 1,qv 23 62]))))))) (sr [qv 63 7,qv 6 63] .ret))),[.t 6]⟩
def S56:AF:=⟨sr [qq 4 (.mov aF)] (sq (sr [qv 7 1,qq 8 (lS Z7),qm 9 0] (.block 0 (.loop (sr [qb 10 .lss 9 8] (sq (.cond Z10 .skip (.exit 0)) (sq (.block 1 (sr [qv 11 9,qx 12 1 7 9,ql 13 12,qv 5 11,qv 6 13] (sr [qv 14 0,qv 15 6,qv 16 5,qq 17 (.call 107 [Z14,Z15,Z16]),qq 18 (.un .not Z17)] (.cond Z18 (sr [qq 4 (.mov aF)] .ret) .skip)))) (rg [qn 19 .add 9 1,qv 9 19]))))))) (sr [qq 4 (.mov aT)] .ret)),[.t 4]⟩
def S68:AF:=⟨sr [qq 2 (.mov (.c (.sl none true 0 [])))] (sq (sr [qv 3 0,qq 4 (.eq false .sl Z3 (.c (.sl none true 0 [])))] (.cond Z4 (sr [qq 2 (.mov (.c (.sl none true 0 [])))] .ret) .skip)) (sr [qq 5 (.buildSl true 1 [] [] 0),qv 6 0,qq 7 (.append true 1 8 Z5 Z6),qv 2 7] .ret)),[.t 2]⟩
def S70:AF:=⟨sr [qq 4 (.mov aF)] (sq (sr [qv 6 0,qq 7 (lS Z6),qv 8 1,qq 9 (lS Z8),qb 10 .neq 7 9] (.cond Z10 (sr [qq 4 (.mov aF)] .ret) .skip)) (sq (sr [qv 11 0,qq 12 (lS Z11),qm 13 0] (.block 0 (.loop (sr [qb 14 .lss 13 12] (sq (.cond Z14 .skip (.exit 0)) (sq (.block 1 (sr [qv 15 13,qv 5 15] (sq (.draw [qv 16 0,qv 17 5,qx 18 1 16 17,ql 19 18,qv 20 1,qv 21 5,qx 22 1 20 21,ql 23 22,qb 24 .neq 19 23] []) (.cond Z24 (sr [qq 4 (.mov aF)] .ret) .skip)))) (rg [qn 25 .add 13 1,qv 13 25]))))))) (sr [qq 4 (.mov aT)] .ret))),[.t 4]⟩
def S107:AF:=⟨sr [qq 3 (.box 1 Z0),qq 4 (.box 1 Z1),qq 6 (.mov aF)] (sq (.draw [ql 12 3,qq 13 (.nilCheck Z12),qf 14 1 13,qf 15 2 14,ql 16 15,ql 17 4,qx 18 3 16 17,qf 19 0 18,ql 20 19,qv 7 20] []) (sq (sr [ql 22 3,qq 23 (.nilCheck Z22),qf 24 7 23,ql 25 24,qv 26 7,qq 27 (.lookup .int (.int .i64 0) true Z25 Z26),qv 21 27,qe 28 21 0,qe 29 21 1,qv 8 28,qv 9 29] (sq (.seq (.draw [qv 30 9,qv 31 30,zT 32 (.mov Z8) 31,zT 33 (.load none Z4) 31,zT 34 (.bin .gtr Z32 Z33) 31,qq 35 (.pick Z31 Z34 aF),qv 36 35,zF 37 (.load none Z3) 36,zF 38 (.nilCheck Z37) 36,zF 39 (fA 1 Z38) 36,zF 40 (.load (some 3) Z39) 36,zF 41 (.load none Z4) 36] []) (rg [zF 42 (.call 114 [Z40,Z41]) 36,zF 43 (lS Z42) 36,zF 44 (.bin .gtr Z43 (nn 0)) 36,qq 45 (.pick Z36 aT Z44)])) (.cond Z45 (sr [qq 6 (.mov aF)] .ret) .skip))) (sr [ql 46 3,ql 47 4,qq 48 (.call 162 [Z46,Z47])] (sq (.seq (sq (.draw [ql 49 3,qq 50 (.nilCheck Z49),qf 51 4 50,ql 52 51,ql 53 4,qq 54 (.lookup .int (.sl none true 0 []) false Z52 (.t 53)),qq 55 (.mkFn (.func 164) [] [.t 3,.t 4])] []) (rg [qq 56 (.call 163 [Z54,Z55])])) (.cond Z56 (sr [qq 6 (.mov aF)] .ret) .skip)) (sq (.draw [ql 57 3,qq 58 (.nilCheck Z57),qf 59 5 58,ql 60 59,ql 61 4,qv 62 2,qu (.mapSet .int Z60 Z61 Z62)] []) (sq (.draw [ql 63 3,qq 64 (.nilCheck Z63),qf 65 7 64,ql 66 65,qv 67 7,ql 68 4,qu (.mapSet .int Z66 Z67 Z68)] []) (sq (.seq (.draw [ql 69 3,qq 70 (.nilCheck Z69),qf 71 1 70,qf 72 2 71,ql 73 72,ql 74 4,qx 75 3 73 74,qf 76 2 75,ql 77 76,qq 78 (lS (.t 77)),qm 79 0] []) (.block 0 (.loop (sr [qb 80 .lss 79 78] (sq (.cond (.t 80) .skip (.exit 0)) (sq (.block 1 (sr [qx 81 4 77 79,qs 82 4 81,qq 11 (.alloc [(.bool false),(.int .i64 0),(.int .i64 0),(.int .i64 0)]),qu (.store 4 Z11 Z82)] (sr [qf 83 0 11,ql 84 83] (.cond (.t 84) (.draw [ql 85 3,qq 86 (.nilCheck Z85),qf 87 6 86,ql 88 87,qf 89 1 11,ql 90 89,ql 91 4,qu (.mapSet .int (.t 88) (.t 90) Z91)] []) .skip)))) (rg [qn 92 .add 79 1,qv 79 92]))))))) (sr [qq 6 (.mov aT)] .ret)))))))),[.t 6]⟩
def S111:AF:=⟨sr [qq 3 (.box 3 Z0),qq 4 (.box 3 Z1),qq 6 (.mov aF)] (sq (sr [qf 9 0 4,ql 10 9,qn 11 .lss 10 0,qv 12 11,zF 13 (fA 0 Z4) 12,zF 14 (.load none Z13) 12,zF 15 (fA 0 Z3) 12,zF 16 (.load none Z15) 12,zF 17 (lS Z16) 12,zF 18 (.bin .geq Z14 Z17) 12,qq 19 (.pick Z12 aT Z18),qv 20 19,zF 21 (fA 1 Z4) 20,zF 22 (.load none Z21) 20,zF 23 (.bin .lss Z22 (nn 1)) 20,qq 24 (.pick Z20 aT Z23),qv 25 24,zF 26 (fA 1 Z4) 25,zF 27 (.load none Z26) 25,zF 28 (.bin .gtr Z27 (nn 3)) 25,qq 29 (.pick Z25 aT Z28),qv 30 29,zF 31 (fA 2 Z4) 30,zF 32 (.load none Z31) 30,zF 33 (lS Z32) 30,zF 34 (.bin .gtr Z33 (nn 20)) 30,qq 35 (.pick Z30 aT Z34)] (.cond Z35 (sr [qq 6 (.mov aF)] .ret) .skip)) (sq (sr [qm 7 0] (.block 0 (.loop (sq (sr [qv 36 7,qf 37 2 4,ql 38 37,qq 39 (lS Z38),qb 40 .lss 36 39] (.cond Z40 .skip (.exit 0))) (sq (.block 1 (sr [qf 43 2 4,ql 44 43,qv 45 7,qx 46 4 44 45,qs 47 4 46,qq 8 (.alloc [(.bool false),(.int .i64 0),(.int .i64 0),(.int .i64 0)]),qu (.store 4 Z8 Z47)] (sq (sr [qf 48 1 8,ql 49 48,qn 50 .lss 49 0,qv 51 50,zF 52 (fA 1 Z8) 51,zF 53 (.load none Z52) 51,zF 54 (fA 1 Z3) 51,zF 55 (.load none Z54) 51,zF 56 (lS Z55) 51,zF 57 (.bin .geq (.t 53) Z56) 51,qq 58 (.pick Z51 aT Z57),qv 59 58,zF 60 (fA 2 Z8) 59,zF 61 (.load (some 2) Z60) 59,zF 62 (.call 174 [Z61]) 59,zF 63 (.un .not Z62) 59,qq 64 (.pick Z59 aT Z63),qv 65 64,zF 66 (fA 0 Z8) 65,zF 67 (.load none Z66) 65,zF 68 (.mov Z67) 65,zT 69 (fA 2 Z8) 68,zT 70 (fA 0 Z69) 68,zT 71 (.load none Z70) 68,zT 72 (.bin .neq Z71 (nn 1)) 68,zF 73 (.pick Z68 Z72 aF) 65,qq 74 (.pick Z65 aT Z73)] (.cond Z74 (sr [qq 6 (.mov aF)] .ret) .skip)) (rg [qv 75 2,qf 76 1 8,ql 77 76,qx 78 1 75 77,qu (.store 1 Z78 aT)])))) (rg [qv 41 7,qn 42 .add 41 1,qv 7 42])))))) (sr [qq 6 (.mov aT)] .ret))),[.t 6]⟩
def S153:AF:=⟨sr [qq 4 (.mov aF)] (sr [qv 5 0,qv 6 1,qq 7 (.call 213 [Z5,Z6]),qn 8 .geq 7 0,qv 4 8] .ret),[.t 4]⟩
def S154:AF:=⟨sr [qq 2 (.box 3 Z0),qq 3 (.mov aF)] (sr [qs 4 3 1,qs 5 3 2,qq 6 (.call 155 [Z4,Z5]),qq 7 (.un .not Z6),qv 3 7] .ret),[.t 3]⟩
def S156:AF:=⟨sr [qq 1 (.box 3 Z0),qq 2 (.mov (.c .nilfn))] (sr [qq 3 (.mkFn (.func 215) [] [.t 1]),qv 2 3] .ret),[.t 2]⟩
def S162:AF:=⟨sr [qq 2 (.box 1 Z0)] (sr [qq 10 (.mkMap),qq 4 (.alloc [.nilmap]),qu (.store 1 Z4 Z10)] (sr [qq 11 (.mkFn (.func 218) [] [.t 4,.t 2]),qv 5 11] (sq (sr [ql 12 2,qq 13 (.nilCheck Z12),qf 14 4 13,ql 15 14,qv 16 1,qq 17 (.lookup .int (.sl none true 0 []) false Z15 Z16),qq 18 (lS Z17),qm 19 0] (.block 0 (.loop (sr [qb 20 .lss 19 18] (sq (.cond Z20 .skip (.exit 0)) (sq (.block 1 (sr [qx 21 3 17 19,qs 22 3 21,qq 7 (.alloc [(.int .i64 0),(.int .i64 0),(.int .i64 0)]),qu (.store 3 Z7 Z22)] (sr [qf 23 2 7,ql 24 23,qn 25 .geq 24 0] (.cond Z25 (rg [qv 26 5,qf 27 2 7,ql 28 27,qq 29 (.callV Z26 [.t 28])]) .skip)))) (rg [qn 30 .add 19 1,qv 19 30]))))))) (sq (.seq (.draw [ql 32 2,qq 33 (.nilCheck Z32),qf 34 7 33,ql 35 34,ql 36 2,qq 37 (.nilCheck Z36),qf 38 1 37,qf 39 2 38,ql 40 39,qv 41 1,qx 42 3 40 41,qf 43 0 42,ql 44 43,qq 45 (.lookup .int (.int .i64 0) true Z35 Z44),qv 31 45,qe 46 31 0,qe 47 31 1,qv 8 46,qv 9 47] []) (sr [qv 48 9] (.cond Z48 (rg [qv 49 5,qv 50 8,qq 51 (.callV Z49 [.t 50])]) .skip))) (.draw [ql 52 2,qq 53 (.nilCheck Z52),qf 54 8 53,ql 55 54,qv 56 1,ql 57 4,qu (.mapSet .int Z55 Z56 Z57)] []))))),[]⟩
def S163:AF:=⟨sr [qq 4 (.mov aF)] (sr [qv 5 0,qv 6 1,qq 7 (.call 219 [Z5,Z6]),qn 8 .geq 7 0,qv 4 8] .ret),[.t 4]⟩
def S164:AF:=⟨sr [qq 3 (.box 3 Z0),qq 4 (.mov aF)] (sr [ql 5 1,ql 6 2,qs 7 3 3,qq 8 (.call 165 [Z5,Z6,Z7]),qq 9 (.un .not Z8),qv 4 9] .ret),[.t 4]⟩
def S165:AF:=⟨sr [qq 5 (.box 3 Z2),qq 6 (.mov aF)] (sq (.seq (.draw [qv 10 0,qq 11 (.nilCheck Z10),qf 12 5 11,ql 13 12,qf 14 2 5,ql 15 14,qq 16 (.lookup .int (.int .i64 0) true Z13 Z15),qv 9 16,qe 17 9 0,qe 18 9 1,qv 7 17,qv 8 18] []) (sr [qv 19 8,qq 20 (.un .not Z19)] (.cond Z20 (sr [qq 6 (.mov aF)] .ret) .skip))) (sq (sr [qv 21 0,qq 22 (.nilCheck Z21),qf 23 0 22,ql 24 23] (.block 0 (sr [qn 26 .eql 24 1,qv 25 26] (.cond Z25 (sr [qv 27 0,qv 28 1,qs 29 3 5,qq 30 (.call 220 [Z27,Z28,Z29]),qv 6 30] .ret) (sr [qn 32 .eql 24 2,qv 31 32] (.cond Z31 (sr [qv 33 0,qv 34 1,qs 35 3 5,qq 36 (.call 221 [Z33,Z34,Z35]),qv 6 36] .ret) .skip)))))) (sr [qv 37 0,qs 38 3 5,qq 39 (.call 222 [Z37,Z38]),qv 6 39] .ret))),[.t 6]⟩
def S168:AF:=cf true true Tryz.f168
def S169:AF:=cf true true Tryz.f169
def S171:AF:=cf true true Tryz.f171
def S213:AF:=⟨sr [qm 4 0] (sq (sr [qv 6 0,qq 7 (lS Z6),qm 8 0] (.block 0 (.loop (sr [qb 9 .lss 8 7] (sq (.cond Z9 .skip (.exit 0)) (sq (.block 1 (sr [qv 10 8,qv 5 10] (sr [qv 11 1,qv 12 0,qv 13 5,qx 14 3 12 13,qs 15 3 14,qq 16 (.callV Z11 [.t 15])] (.cond Z16 (sr [qv 17 5,qv 4 17] .ret) .skip)))) (rg [qn 18 .add 8 1,qv 8 18]))))))) (sr [qq 4 (.mov (nn (-1)))] .ret)),[.t 4]⟩
def S215:AF:=⟨sr [qf 7 2 1,ql 8 7,qq 9 (lS Z8),qm 10 0] (.block 0 (.loop (sr [qb 11 .lss 10 9] (sq (.cond Z11 .skip (.exit 0)) (sq (.block 1 (sr [qv 12 10,qx 13 3 8 10,qs 14 3 13,qq 4 (.alloc [(.int .i64 0),(.int .i64 0),(.sl none true 0 [])]),qv 3 12,qu (.store 3 Z4 Z14)] (sr [qf 15 2 4,ql 16 15,qq 17 (lS Z16),qm 18 0] (.block 2 (.loop (sr [qb 19 .lss 18 17] (sq (.cond Z19 .skip (.exit 2)) (sq (.block 3 (sr [qv 20 18,qx 21 4 16 18,qs 22 4 21,qq 6 (.alloc [(.bool false),(.int .i64 0),(.int .i64 0),(.int .i64 0)]),qv 5 20,qu (.store 4 Z6 Z22)] (sr [qv 23 0,qv 24 3,qv 25 5,qq 26 (.build [(.int .i64 0),(.int .i64 0)] [(0,1,Z24),(1,1,Z25)]),qs 27 4 6,qq 28 (.callV Z23 [.t 26,.t 27]),qq 29 (.un .not Z28)] (.cond Z29 .ret .skip)))) (rg [qn 30 .add 18 1,qv 18 30]))))))))) (rg [qn 31 .add 10 1,qv 10 31])))))),[]⟩
def S218:AF:=⟨sr [ql 5 1,qv 6 0,qq 7 (.lookup .int (.int .i64 0) false Z5 Z6),qn 8 .add 7 1,qu (.mapSet .int Z5 Z6 Z8)] (sr [ql 9 2,qq 10 (.nilCheck Z9),qf 11 8 10,ql 12 11,qv 13 0,qq 14 (.lookup .int .nilmap false Z12 Z13),qq 15 (.range false Z14)] (.block 0 (.loop (sr [qq 16 (.nextMap Z15),qe 17 16 0] (sq (.cond Z17 .skip (.exit 0)) (.block 1 (sr [qq 18 (.entry Z15),qe 19 18 0,qv 4 19] (rg [ql 20 1,qv 21 4,qq 22 (.lookup .int (.int .i64 0) false Z20 Z21),qn 23 .add 22 1,qu (.mapSet .int Z20 Z21 Z23)])))))))),[]⟩
def S219:AF:=⟨sr [qm 4 0] (sq (sr [qv 6 0,qq 7 (lS Z6),qm 8 0] (.block 0 (.loop (sr [qb 9 .lss 8 7] (sq (.cond Z9 .skip (.exit 0)) (sq (.block 1 (sr [qv 10 8,qv 5 10] (sr [qv 11 1,qv 12 0,qv 13 5,qx 14 3 12 13,qs 15 3 14,qq 16 (.callV Z11 [.t 15])] (.cond Z16 (sr [qv 17 5,qv 4 17] .ret) .skip)))) (rg [qn 18 .add 8 1,qv 8 18]))))))) (sr [qq 4 (.mov (nn (-1)))] .ret)),[.t 4]⟩
def S220:AF:=⟨sr [qq 3 (.box 1 Z0),qq 5 (.box 3 Z2),qq 6 (.mov aF)] (sr [ql 7 3,qq 8 (.nilCheck Z7),qf 9 4 8,ql 10 9,qv 11 1,qq 12 (.lookup .int (.sl none true 0 []) false Z10 Z11),qq 13 (.mkFn (.func 256) [] [.t 5,.t 3]),qq 14 (.call 163 [Z12,Z13]),qq 15 (.un .not Z14),qv 6 15] .ret),[.t 6]⟩
def S221:AF:=⟨sr [qq 5 (.box 3 Z2),qq 6 (.mov aF)] (sq (sr [qv 8 0,qq 9 (.nilCheck Z8),qf 10 8 9,ql 11 10,qv 12 1,qq 13 (.lookup .int .nilmap false Z11 Z12),qq 14 (.range false Z13)] (.block 0 (.loop (sr [qq 15 (.nextMap Z14),qe 16 15 0] (sq (.cond Z16 .skip (.exit 0)) (.block 1 (sr [qq 17 (.entry Z14),qe 18 17 0,qv 7 18] (sr [qv 19 0,qv 20 7,qs 21 3 5,qq 22 (.call 257 [Z19,Z20,Z21])] (.cond Z22 (sr [qq 6 (.mov aF)] .ret) .skip))))))))) (sr [qq 6 (.mov aT)] .ret)),[.t 6]⟩
def S222:AF:=⟨sr [qq 3 (.box 3 Z1),qq 4 (.mov aF)] (sq (.draw [qv 8 0,qq 9 (.nilCheck Z8),qf 10 6 9,ql 11 10,qf 12 1 3,ql 13 12,qq 14 (.lookup .int (.int .i64 0) true Z11 Z13),qv 7 14,qe 15 7 0,qe 16 7 1,qv 5 15,qv 6 16] []) (sq (sr [qv 17 6,qq 18 (.un .not Z17)] (.cond Z18 (rg [qq 5 (.mov (nn (-1)))]) .skip)) (sr [qv 19 5,qf 20 2 3,ql 21 20,qb 22 .eql 19 21,qv 4 22] .ret))),[.t 4]⟩
def S231:AF:=cf true true Tryz.f231
def S232:AF:=cf true true Tryz.f232
def S237:AF:=⟨sr [qq 1 (.box 1 Z0),qq 2 (.mov (.c .nilfn))] (sr [qq 3 (.mkFn (.func 274) [] [.t 1]),qv 2 3] .ret),[.t 2]⟩
def S255:AF:=⟨sr [qq 3 (.box 3 Z0),qq 6 (.mov (.c .nilmap))] (sr [qq 10 (.mkMap),qv 7 10] (sq (sr [qs 11 3 3,qv 12 2,qq 13 (.call 281 [Z11,Z12]),qq 14 (lS Z13),qm 15 0] (.block 0 (.loop (sr [qb 16 .lss 15 14] (sq (.cond Z16 .skip (.exit 0)) (sq (.block 1 (sr [qx 17 1 13 15,ql 18 17,qv 9 18] (sr [qv 19 9,qv 20 1,qb 21 .neq 19 20] (.cond Z21 (rg [qv 23 7,qv 24 9,qs 25 3 3,qv 26 9,qv 27 2,qq 28 (.call 116 [Z25,Z26,Z27]),qv 22 28,qe 29 22 0,qe 30 22 1,qu (.mapSet .int Z23 Z24 Z29)]) .skip)))) (rg [qn 31 .add 15 1,qv 15 31]))))))) (sr [qv 32 7,qv 6 32] .ret))),[.t 6]⟩
def S256:AF:=⟨sr [qq 3 (.box 3 Z0),qq 4 (.mov aF)] (sr [qf 5 0 3,ql 6 5,qf 7 0 1,ql 8 7,qb 9 .lss 6 8,qv 10 9,zT 11 (.load none Z2) 10,zT 12 (fA 2 Z3) 10,zT 13 (.load none Z12) 10,zT 14 (.load (some 3) Z1) 10,zT 15 (.call 257 [Z11,Z13,Z14]) 10,qq 16 (.pick Z10 Z15 aF),qv 4 16] .ret),[.t 4]⟩
def S257:AF:=⟨sr [qq 5 (.box 3 Z2),qq 6 (.mov aF)] (sq (.draw [qv 7 1,qn 8 .geq 7 0,qv 9 8,zT 10 (.mov Z1) 9,zT 11 (fA 2 Z5) 9,zT 12 (.load none Z11) 9,zT 13 (.bin .neq Z10 Z12) 9,qq 14 (.pick Z9 Z13 aF),qv 15 14,zT 16 (.mov Z0) 15,zT 17 (.mov Z1) 15,zT 18 (fA 1 Z5) 15,zT 19 (.load none Z18) 15,zT 20 (.call 282 [Z16,Z17,Z19]) 15,qq 21 (.pick Z15 Z20 aF),qv 22 21,zT 23 (.mov Z0) 22,zT 24 (.nilCheck Z23) 22,zT 25 (fA 5 Z24) 22,zT 26 (.load none Z25) 22,zT 27 (.mov Z1) 22,zT 28 (.lookup .int (.int .i64 0) false Z26 Z27) 22,zT 29 (.mov Z0) 22,zT 30 (.nilCheck Z29) 22,zT 31 (fA 5 Z30) 22,zT 32 (.load none Z31) 22,zT 33 (fA 2 Z5) 22,zT 34 (.load none Z33) 22,zT 35 (.lookup .int (.int .i64 0) false Z32 Z34) 22,zT 36 (.bin .geq Z28 Z35) 22,qq 37 (.pick Z22 Z36 aF),qv 6 37] []) .ret),[.t 6]⟩
end
noncomputable section
def S270:AF:=cf true true Tryz.f270
def S271:AF:=cf true true Tryz.f271
def S272:AF:=cf true true Tryz.f272
def S274:AF:=⟨sr [ql 4 1,qq 5 (lS Z4),qn 6 .sub 5 1,qv 3 6] (.block 0 (.loop (sq (sr [qv 7 3,qn 8 .geq 7 0] (.cond Z8 .skip (.exit 0))) (sq (.block 1 (sr [qv 11 0,qv 12 3,ql 13 1,qv 14 3,qx 15 4 13 14,qs 16 4 15,qq 17 (.callV Z11 [.t 12,.t 16]),qq 18 (.un .not Z17)] (.cond Z18 .ret .skip))) (rg [qv 9 3,qn 10 .sub 9 1,qv 3 10]))))),[]⟩
def S282:AF:=⟨sr [qq 6 (.mov aF)] (sr [qv 10 0,qq 11 (.nilCheck Z10),qf 12 1 11,qs 13 3 12,qv 14 1,qv 15 2,qq 16 (.call 116 [Z13,Z14,Z15]),qv 9 16,qe 17 9 0,qe 18 9 1,qq 7 (.alloc [(.int .i64 0),(.int .i64 0)]),qu (.store 2 Z7 Z17),qv 8 18] (sr [qv 19 8,qv 6 19] .ret)),[.t 6]⟩
def S291:AF:=cf true true Tryz.f291
def S292:AF:=cf true true Tryz.f292
def S294:AF:=⟨sr [qq 2 (.box 3 Z0),qq 3 (.mov aF)] (sr [qf 4 1 2,ql 5 4,qn 6 .neq 5 2,qv 7 6,zT 8 (fA 2 Z2) 7,zT 9 (.load none Z8) 7,zT 10 (.mkFn (.func 296) [] [.t 1]) 7,zT 11 (.call 295 [Z9,Z10]) 7,qq 12 (.pick Z7 Z11 aF),qv 3 12] .ret),[.t 3]⟩
def S295:AF:=⟨sr [qq 4 (.mov aF)] (sr [qv 5 0,qv 6 1,qq 7 (.call 305 [Z5,Z6]),qn 8 .geq 7 0,qv 4 8] .ret),[.t 4]⟩
def S296:AF:=⟨sr [qq 2 (.box 4 Z0),qq 3 (.mov aF)] (sr [qf 4 0 2,ql 5 4,qv 6 5,zT 7 (fA 1 Z2) 6,zT 8 (.load none Z7) 6,zT 9 (.load none Z1) 6,zT 10 (.bin .eql Z8 Z9) 6,qq 11 (.pick Z6 Z10 aF),qv 3 11] .ret),[.t 3]⟩
def S303:AF:=cf true true Tryz.f303
def S305:AF:=⟨sr [qm 4 0] (sq (sr [qv 6 0,qq 7 (lS Z6),qm 8 0] (.block 0 (.loop (sr [qb 9 .lss 8 7] (sq (.cond Z9 .skip (.exit 0)) (sq (.block 1 (sr [qv 10 8,qv 5 10] (sr [qv 11 1,qv 12 0,qv 13 5,qx 14 4 12 13,qs 15 4 14,qq 16 (.callV Z11 [.t 15])] (.cond Z16 (sr [qv 17 5,qv 4 17] .ret) .skip)))) (rg [qn 18 .add 8 1,qv 8 18]))))))) (sr [qq 4 (.mov (nn (-1)))] .ret)),[.t 4]⟩
def S312:AF:=cf true true Tryz.f312
end
end Go.Pv.T
namespace Go.Pv.T
open Go Go.Pv
noncomputable section
def utf8first:List V:=(List.range 256).map fun i=>V.int .u8 (if i<128 then 240 else if i<194 then 241 else if i<224 then 2 else if i=224 then 19 else if i<237 then 3 else if i=237 then 35 else if i<240 then 3 else if i=240 then 52 else if i<244 then 4 else if i=244 then 68 else 241:Nat)
def words:List V:=[.str [],.str [98,101,103,105,110],.str [114,101,97,100],.str [119,114,105,116,101],.str [111,107],.str [102,97,105,108],.str [105,110,102,111]]
def accR:List V:=[.int .u8 128,.int .u8 191,.int .u8 160,.int .u8 191,.int .u8 128,.int .u8 159,.int .u8 144,.int .u8 191,.int .u8 128,.int .u8 143,.int .u8 0,.int .u8 0,.int .u8 0,.int .u8 0,.int .u8 0,.int .u8 0,.int .u8 0,.int .u8 0,.int .u8 0,.int .u8 0,.int .u8 0,.int .u8 0,.int .u8 0,.int .u8 0,.int .u8 0,.int .u8 0,.int .u8 0,.int .u8 0,.int .u8 0,.int .u8 0,.int .u8 0,.int .u8 0]
def fc_2:FuncId→Option AF
 | 284=>some F284
 | 285=>some F285
 | 286=>some F286
 | 288=>some F288
 | 289=>some F289
 | 293=>some F293
 | 300=>some F300
 | 304=>some F304
 | 307=>some F307
 | 320=>some F320
 | _=>none
def fc_1:FuncId→Option AF
 | 155=>some F155
 | 157=>some F157
 | 158=>some F158
 | 159=>some F159
 | 160=>some F160
 | 161=>some F161
 | 166=>some F166
 | 167=>some F167
 | 170=>some F170
 | 172=>some F172
 | 173=>some F173
 | 174=>some F174
 | 175=>some F175
 | 176=>some F176
 | 177=>some F177
 | 188=>some F188
 | 212=>some F212
 | 214=>some F214
 | 216=>some F216
 | 217=>some F217
 | 223=>some F223
 | 224=>some F224
 | 225=>some F225
 | 226=>some F226
 | 227=>some F227
 | 228=>some F228
 | 229=>some F229
 | 230=>some F230
 | 233=>some F233
 | 234=>some F234
 | 235=>some F235
 | 236=>some F236
 | 251=>some F251
 | 252=>some F252
 | 253=>some F253
 | 254=>some F254
 | 258=>some F258
 | 259=>some F259
 | 261=>some F261
 | 262=>some F262
 | 263=>some F263
 | 264=>some F264
 | 265=>some F265
 | 266=>some F266
 | 267=>some F267
 | 268=>some F268
 | 269=>some F269
 | 273=>some F273
 | 280=>some F280
 | 281=>some F281
 | f=>fc_2 f
def fc:FuncId→Option AF
 | 3=>some F3
 | 15=>some F15
 | 16=>some F16
 | 17=>some F17
 | 18=>some F18
 | 19=>some F19
 | 20=>some F20
 | 21=>some F21
 | 22=>some F22
 | 23=>some F23
 | 24=>some F24
 | 25=>some F25
 | 31=>some F31
 | 33=>some F33
 | 39=>some F39
 | 40=>some F40
 | 52=>some F52
 | 53=>some F53
 | 54=>some F54
 | 57=>some F57
 | 58=>some F58
 | 59=>some F59
 | 60=>some F60
 | 61=>some F61
 | 62=>some F62
 | 63=>some F63
 | 64=>some F64
 | 70=>some F70
 | 71=>some F71
 | 74=>some F74
 | 75=>some F75
 | 84=>some F84
 | 86=>some F86
 | 103=>some F103
 | 104=>some F104
 | 105=>some F105
 | 106=>some F106
 | 108=>some F108
 | 109=>some F109
 | 110=>some F110
 | 112=>some F112
 | 114=>some F114
 | 116=>some F116
 | 118=>some F118
 | 120=>some F120
 | 121=>some F121
 | 122=>some F122
 | 127=>some F127
 | 136=>some F136
 | 152=>some F152
 | f=>fc_1 f
def fs:FuncId→Option AF
 | 51=>some S51
 | 55=>some S55
 | 68=>some S68
 | 70=>some S70
 | 111=>some S111
 | 153=>some S153
 | 154=>some S154
 | 156=>some S156
 | 163=>some S163
 | 164=>some S164
 | 165=>some S165
 | 168=>some S168
 | 169=>some S169
 | 171=>some S171
 | 213=>some S213
 | 215=>some S215
 | 219=>some S219
 | 220=>some S220
 | 221=>some S221
 | 222=>some S222
 | 231=>some S231
 | 232=>some S232
 | 237=>some S237
 | 255=>some S255
 | 256=>some S256
 | 257=>some S257
 | 270=>some S270
 | 271=>some S271
 | 272=>some S272
 | 274=>some S274
 | 282=>some S282
 | 291=>some S291
 | 292=>some S292
 | 294=>some S294
 | 295=>some S295
 | 296=>some S296
 | 303=>some S303
 | 305=>some S305
 | 312=>some S312
 | _=>none
def shl:List Nat:=[55,56,65,68,69,72,73,76,77,78,81,91,93,98,107,111,113,125,141,156,162,168,195,196,197,198,199,200,201,202,218,231,237,240,245,246,247,255,270,271,274,276,277,291,292,303,312,313,314,315,316,317,318,319,323,324,325,326]
def shm:List Nat:=[25,51,217]
def fzl:List Nat:=[217]
def twl:List Nat:=[217]
def srl:List Nat:=[69]
def E:Env:={ sh:=fun nm f=>shl.any (Nat.beq f) || (nm && shm.any (Nat.beq f)),fz:=fun f=>fzl.any (Nat.beq f),tw:=fun f=>twl.any (Nat.beq f),srt:=fun f=>srl.any (Nat.beq f),fc:=fc,fs:=fs,gl:=fun g=>match g with | 1=>some words | 2=>some utf8first | 3=>some accR | _=>none }
def fs1:FuncId→Option AF
 | 56=>some S56
 | 107=>some S107
 | 162=>some S162
 | 218=>some S218
 | f=>fs f
def mnl:List Nat:=[56,107,162,218]
def E1:Env:={ sh:=E.sh,fz:=E.fz,tw:=E.tw,srt:=E.srt,fc:=E.fc,fs:=fs1,gl:=E.gl,mn:=fun f=>mnl.any (Nat.beq f) }
end
structure Val' where
 kind:Int
 n:Int
 deriving DecidableEq
structure Op' where
 w:Bool
 key:Int
 v:Val'
 deriving DecidableEq
structure Txn' where
 s:Int
 f:Int
 nl:Bool
 ops:List Op'
structure Hist' where
 sn:Bool
 ss:List (List UInt8)
 kn:Bool
 ks:List (List UInt8)
 tn:Bool
 ts:List Txn'
def J1 (v:Val'):List V:=[.int .i64 v.kind,.int .i64 v.n]
def opC (o:Op'):List V:=[.bool o.w,.int .i64 o.key,.int .i64 o.v.kind,.int .i64 o.v.n]
def jI {α:Type} (nl:Bool) (f:α→List V) (l:List α):V:=.sl none nl l.length (l.flatMap f)
def ji (t:Txn'):List V:=[.int .i64 t.s,.int .i64 t.f,jI t.nl opC t.ops]
def JJ (s:List UInt8):List V:=[.str s]
def j2 (h:Hist'):List V:=[jI h.sn JJ h.ss,jI h.kn JJ h.ks,jI h.tn ji h.ts]
@[simp] theorem j0y {α:Type} (nl:Bool) (f:α→List V) (l:List α):jas (jI nl f l)=some (.int .i64 l.length):=rfl
@[simp] theorem j37 {α:Type} (nl:Bool) (f:α→List V) (l:List α):(jI nl f l).leaf=true:=rfl
@[simp] theorem j3b {α:Type} (nl:Bool) (f:α→List V) (l:List α):(jI nl f l).cells=[jI nl f l]:=rfl
@[simp] theorem j3a {α:Type} (nl:Bool) (f:α→List V) (l:List α):(jI nl f l).strip=jI nl f l:=rfl
@[simp] theorem jzs {α:Type} (nl:Bool) (f:α→List V) (l:List α):(jI nl f l).strip1=jI nl f l:=rfl
@[simp] theorem jx6 {α:Type} (nl:Bool) (f:α→List V) (l:List α):(jI nl f l).pureTop=true:=rfl
@[simp] theorem ju6 {α:Type} (nl:Bool) (f:α→List V) (l:List α):(jI nl f l).pureLeaf=true:=rfl
@[simp] theorem j8l (k:IntKind) (n:Int):(V.int k n).strip = .int k n:=rfl
@[simp] theorem j3l (n:Bool):(V.bool n).strip = .bool n:=rfl
@[simp] theorem j3j (k:IntKind) (n:Int):(V.int k n).strip1 = .int k n:=rfl
@[simp] theorem j2n (n:Bool):(V.bool n).strip1 = .bool n:=rfl
@[simp] theorem j1u (k:IntKind) (n:Int):(V.int k n).pureTop=true:=rfl
@[simp] theorem jyz (n:Bool):(V.bool n).pureTop=true:=rfl
@[simp] theorem jyo (k:IntKind) (n:Int):(V.int k n).pureLeaf=true:=rfl
@[simp] theorem jxt (n:Bool):(V.bool n).pureLeaf=true:=rfl
@[simp] theorem j94 (cs:List V):(V.agg cs).strip = .agg (cs.map V.strip1):=rfl
@[simp] theorem j2w (cs:List V):(V.agg cs).pureTop=cs.all V.pureLeaf:=rfl
def YH (n:Int) (l:Nat):Bool:=decide (0≤n) && decide (n<l)
theorem j9a (n:Int) (nl:Bool) (l:List (List UInt8)):Ev E 214 [.int .i64 n,jI nl JJ l] (.bool (YH n l.length)):=by
 refine jT (af:=F214) rfl ?_
 by_cases h:0≤n
 ·simp [F214,h]
  exact j3 rfl (by simp [YH,h]) rfl
 ·simp [F214,h]
  exact j3 rfl (by simp [YH,h]) rfl
def jcp (h:Hist') (t:Txn'):Bool:=YH t.s h.ss.length && (decide (1≤t.f) && (decide (t.f≤3) && decide (t.ops.length≤20)))
theorem ev155 (h:Hist') (t:Txn'):Ev E 155 [.agg (j2 h),.agg (ji t)] (.bool (jcp h t)):=by
 refine jT (af:=F155) rfl ?_
 simp [F155,j2,ji,j1]
 refine XY (vs:=[.int .i64 t.s,jI h.sn JJ h.ss]) (by simp) rfl (by simp) (by simpa using j9a t.s h.sn h.ss) ?_
 unfold jcp
 cases h1:YH t.s h.ss.length
 ·simp
  exact j3 rfl (by simp) rfl
 by_cases h2:1≤t.f
 ·by_cases h3:t.f≤3
  ·simp [j1,h2,h3]
   exact j3 rfl (by simp;omega) rfl
  ·simp [j1,h2,h3]
   exact j3 rfl (by simp) rfl
 ·simp [j1,h2]
  exact j3 rfl (by simp) rfl
def jif (v:Val'):Bool:=v.kind == 1 || ((v.kind == 0 || v.kind == 2) && v.n == 0)
theorem ev174 (v:Val'):Ev E 174 [.agg (J1 v)] (.bool (jif v)):=by
 refine jT (af:=F174) rfl ?_
 unfold jif
 cases h1:v.kind == 1
 ·cases h0:v.kind == 0
  ·cases h2:v.kind == 2
   ·simp [F174,J1,j1,h1,h0,h2]
    exact j3 rfl (by simp) rfl
   ·simp [F174,J1,j1,h1,h0,h2]
    exact j3 rfl (by simp) rfl
  ·simp [F174,J1,j1,h1,h0]
   exact j3 rfl (by simp) rfl
 ·simp [F174,J1,j1,h1]
  exact j3 rfl (by simp) rfl
def jb0 (v:Val'):V:=if v.kind=1 then .iface 2 (.int .i64 v.n) else if v.kind=2 then .iface 316 (.agg []) else .nilif
theorem ev253 (v:Val'):Ev E 253 [.agg (J1 v)] (.agg [jb0 v]):=by
 refine jT (af:=F253) rfl ?_
 unfold jb0
 by_cases h1:v.kind=1
 ·simp [F253,J1,j1,h1]
  exact J3 rfl (l:=[.agg [.iface 2 (.int .i64 v.n)]]) (by simp [jm,j1]) rfl rfl
 ·have b1:(v.kind == 1)=false:=by simpa using h1
  by_cases h2:v.kind=2
  ·simp [F253,J1,j1,h2]
   exact J3 rfl (l:=[.agg [.iface 316 (.agg [])]]) (by simp [jm,j1]) rfl rfl
  ·have b2:(v.kind == 2)=false:=by simpa using h2
   simp [F253,J1,j1,h1,h2,b1,b2]
   exact J3 rfl (l:=[.agg [.nilif]]) (by simp [jm,j1]) rfl rfl
def jpp (v:Val'):Val':=if v.kind=1 then ⟨1,v.n⟩ else if v.kind=2 then ⟨2,0⟩ else ⟨0,0⟩
theorem ev252 (v:Val'):Ev E 252 [.agg [jb0 v]] (.tup [.agg (J1 (jpp v)),.int .i64 0]):=by
 refine jT (af:=F252) rfl ?_
 unfold jb0 jpp
 by_cases h1:v.kind=1
 ·simp [F252,J1,j1,h1,jxn,eqV,jh1,j7]
  exact J3 rfl (l:=[.agg [.int .i64 1,.int .i64 v.n],.int .i64 0]) (by simp [jm,j1]) rfl rfl
 ·by_cases h2:v.kind=2
  ·simp [F252,J1,j1,h2,jxn,eqV,jh1,j7]
   exact J3 rfl (l:=[.agg [.int .i64 2,.int .i64 0],.int .i64 0]) (by simp [jm,j1]) rfl rfl
  ·simp [F252,J1,j1,h1,h2,jxn,eqV]
   exact J3 rfl (l:=[.agg [.int .i64 0,.int .i64 0],.int .i64 0]) (by simp [jm,j1]) rfl rfl
theorem jqa (v:Val'):jif v=((jpp v).kind == v.kind && (jpp v).n == v.n):=by
 obtain ⟨k,n⟩:=v
 unfold jif jpp
 by_cases h1:k=1
 ·simp [h1]
 ·by_cases h2:k=2
  ·rw [if_neg h1,if_pos h2,Bool.eq_iff_iff]
   simp only [Bool.or_eq_true,Bool.and_eq_true,beq_iff_eq]
   omega
  ·rw [if_neg h1,if_neg h2,Bool.eq_iff_iff]
   simp only [Bool.or_eq_true,Bool.and_eq_true,beq_iff_eq]
   omega
theorem jgv (v:Val'):(jb0 v).pureLeaf=true:=by unfold jb0;split;rfl;split <;> rfl
theorem jcl (v:Val'):(jb0 v).strip1=jb0 v:=by unfold jb0;split;rfl;split <;> rfl
theorem ev216 (v:Val'):Ev E 216 [.agg (J1 v)] (.bool (jif v)):=by
 refine jT (af:=F216) rfl ?_
 simp [F216,J1,j1]
 refine XY (vs:=[.agg (J1 v)]) (by simp [J1]) rfl (by simp [J1]) (by simpa [J1] using ev253 v) ?_
 simp [YA (v:=.agg [jb0 v]) (by simp [V.plain,jgv])]
 refine XY (vs:=[.agg [jb0 v]]) (by simp) rfl (by simp [jgv,jcl]) (by simpa [jcl] using ev252 v) ?_
 rw [jqa]
 generalize jpp v=b
 rw [JH (by simp [V.plain,J1])]
 simp [J1,j1]
 exact j3 rfl (by simp) rfl
def opB (h:Hist') (o:Op'):Bool:=YH o.key h.ks.length && (jif o.v && (!o.w || o.v.kind == 1))
theorem ev157 (h:Hist') (o:Op'):Ev E 157 [.agg (j2 h),.agg (opC o)] (.bool (opB h o)):=by
 refine jT (af:=F157) rfl ?_
 simp [F157,j2,opC,j1]
 refine XY (vs:=[.int .i64 o.key,jI h.kn JJ h.ks]) (by simp) rfl (by simp) (by simpa using j9a o.key h.kn h.ks) ?_
 unfold opB
 cases h1:YH o.key h.ks.length
 ·simp
  exact j3 rfl (by simp) rfl
 simp [j1]
 refine XY (vs:=[.agg (J1 o.v)]) (by simp [J1]) rfl (by simp [J1]) (by simpa [J1] using ev216 o.v) ?_
 cases h2:jif o.v
 ·simp
  exact j3 rfl (by simp) rfl
 cases h3:o.w
 ·simp [j1]
  exact j3 rfl (by simp) rfl
 ·simp [j1]
  exact j3 rfl (by simp) rfl
@[simp] theorem j3y (args:List V) (ob:ZO) (tk:Nat→Bool) (ro base ub n:Nat):(Jj args ob tk ro base ub).tm n=args.getD n jx:=rfl
@[simp] theorem j31 (args:List V) (ob:ZO) (tk:Nat→Bool) (ro base ub:Nat):(Jj args ob tk ro base ub).ob=ob:=rfl
@[simp] theorem j3z (args:List V) (ob:ZO) (tk:Nat→Bool) (ro base ub:Nat):(Jj args ob tk ro base ub).tk=tk:=rfl
@[simp] theorem j30 (args:List V) (ob:ZO) (tk:Nat→Bool) (ro base ub:Nat):(Jj args ob tk ro base ub).ro=ro:=rfl
@[simp] theorem j32 (args:List V) (ob:ZO) (tk:Nat→Bool) (ro base ub:Nat):(Jj args ob tk ro base ub).nx=ub:=rfl
@[simp] theorem j33 (args:List V) (ob:ZO) (tk:Nat→Bool) (ro base ub:Nat):(Jj args ob tk ro base ub).fb=base:=rfl
@[simp] theorem j34 (args:List V) (ob:ZO) (tk:Nat→Bool) (ro base ub:Nat):(Jj args ob tk ro base ub).df=[]:=rfl
theorem J8 {n:Int} (h:-9223372036854775808≤n) (h':n≤9223372036854775807):IntKind.i64.wrap n=n:=by
 rw [IntKind.wrap_i64];omega
section
variable {α:Type} {f:α→List V} {k:Nat}
theorem jA (hf:∀ a,(f a).length=k):∀ (l:List α),(l.flatMap f).length=l.length * k
 | []=>by simp
 | a::l=>by rw [List.flatMap_cons,List.length_append,hf,jA hf l,List.length_cons,Nat.succ_mul];omega
theorem XH (hf:∀ a,(f a).length=k):∀ (l:List α) (i:Nat) (h:i<l.length),((l.flatMap f).drop (i * k)).take k=f l[i]
 | a::l,0,_=>by rw [List.flatMap_cons,Nat.zero_mul,List.drop_zero,List.take_append_of_le_length (by rw [hf];omega),List.take_of_length_le (by rw [hf];omega)];rfl
 | a::l,i+1,h=>by
  rw [List.flatMap_cons,Nat.succ_mul,List.drop_append,List.drop_of_length_le (by rw [hf];omega),List.nil_append,hf,Nat.add_sub_cancel]
  exact XH hf l i (by simpa using h)
theorem j5 (hf:∀ a,(f a).length=k) (nl:Bool) (l:List α) (kk:IntKind) {i:Nat} (h:i<l.length):JL k (jI nl f l) (.int kk i)=some (.eptr (l.flatMap f) (i * k)):=by
 simp only [jI,YS,jA hf]
 rw [if_pos (by simp;omega)]
 rfl
theorem jX (hf:∀ a,(f a).length=k) (ob:ZO) (l:List α) {i:Nat} (h:i<l.length):Yb ob (some k) (.eptr (l.flatMap f) (i * k))=some (.agg (f l[i])):=by
 have:i * k+k≤l.length * k:=by rw [← Nat.succ_mul];exact Nat.mul_le_mul_right k h
 rw [jbp,YB,if_pos (by rw [jA hf];exact this),XH hf l i h]
end
@[simp] theorem j8 (t:Txn'):(ji t).length=3:=rfl
@[simp] theorem jH (t:Op'):(opC t).length=4:=rfl
@[simp] theorem Y4 (t:List UInt8):(JJ t).length=1:=rfl
theorem jat {E:Env} {Yf:YF} {q:A} {xs:List A} {st:St} {ub:Nat} {K:St→Nat→Prop} {d:Option Nat} {nm:Bool} {f:FuncId} {first captured:List V} (hq:eval E st.tm q = .fn (.func f) first captured) (hs:E.sh nm f=false)
 (hp:((first++xs.map (eval E st.tm)++captured).all fun v=>v.strip.pureTop)=false) {v:V} (hv:EvO E f (first++xs.map (eval E st.tm)++captured) st.ob st.tk ((st.fb+d.getD 0+1) * 1024) ub v) (h:wpD (Xv ub v) (QP K st d ub)) :
 j9 E Yf ⟨d,.callV q xs,none,nm⟩ st ub K:=by
 have hsh:jB E nm (eval E st.tm) (.callV q xs)=some (f,first++xs.map (eval E st.tm)++captured):=by simp only [jB,hq,hs,hp,Bool.not_false,Bool.true_and,Bool.false_eq_true,if_false]
 simp only [j9,wanted,jg,hq,hsh]
 obtain ⟨δ,hδ,hK⟩:=h
 exact .inr ⟨hs,v,hv,δ,hδ,hK⟩
theorem Jg {E:Env} {Yf:YF} {f:FuncId} {xs:List A} {st:St} {ub:Nat} {K:St→Nat→Prop} {d:Option Nat} {nm:Bool} {vs:List V} (hx:xs.map (eval E st.tm)=vs) (hs:E.sh nm f=false) (hp:(vs.all fun v=>v.strip.pureTop)=false) {v:V}
 (hv:EvO E f vs st.ob st.tk ((st.fb+d.getD 0+1) * 1024) ub v) (h:wpD (Xv ub v) (QP K st d ub)):j9 E Yf ⟨d,.call f xs,none,nm⟩ st ub K :=
 jp3 hs (by rw [hx];exact hp) ⟨v,by rw [hx];exact hv,h⟩
theorem Jf {E:Env} {f:FuncId} {af:AF} {args:List V} {ob:ZO} {tk:Nat→Bool} {base ub:Nat} {r:V} (hf:E.fs f=some af) (h:wpC E noYF af.body (Jj args ob (fun _=>false) ub base ub) (jym af.res r)) (hz:E.fz f=false:=by rfl):EvO E f args ob tk base ub r:=EvO_wp hf h hz
def HistAt (h:Hist') (ob:ZO) (l u:Nat):Prop:=l % 2=0∧ob l=some ⟨u,.cells (j2 h)⟩
theorem ev154 {h:Hist'} {ob:ZO} {l u:Nat} (hh:HistAt h ob l u) (t:Txn') (tk:Nat→Bool) (base ub:Nat):EvO E 154 [.agg (ji t),.ptr l u 0] ob tk base ub (.bool (!jcp h t)):=by
 obtain ⟨h2,ho⟩:=hh
 refine Jf (af:=S154) rfl ?_
 have hne:¬ l=2 * ub+1:=by omega
 simp [S154,j1,hne,ho,ji,j2]
 refine XY (vs:=[.agg (j2 h),.agg (ji t)]) (by simp [j2,ji]) rfl (by simp [j2,ji]) (by simpa [j2,ji] using ev155 h t) ?_
 simp
 exact j3 rfl (by simp) rfl
def ja1 {α:Type} (p:α→Bool) (l:List α):Int:=match l.findIdx? p with
 | some i=>i
 | none=>-1
theorem Wt {α:Type} {p:α→Bool} {l:List α} {i:Nat} (h:i<l.length) (hn:p l[i]=true) (hb:∀ j (hj:j<l.length),j<i→p l[j]=false):ja1 p l=i:=by
 unfold ja1
 have:l.findIdx? p=some i:=by
  rw [List.findIdx?_eq_some_iff_getElem]
  exact ⟨h,hn,fun j hj=>by rw [hb j (by omega) hj];decide⟩
 rw [this]
theorem Qr {α:Type} {p:α→Bool} {l:List α} (hb:∀ j (hj:j<l.length),p l[j]=false):ja1 p l = -1:=by
 unfold ja1
 have:l.findIdx? p=none:=by
  rw [List.findIdx?_eq_none_iff]
  intro x hx
  obtain ⟨j,hj,e⟩:=List.getElem_of_mem hx
  rw [← e]
  exact hb j hj
 rw [this]
theorem jbv {α:Type} (p:α→Bool) (l:List α):decide (0≤ja1 p l)=l.any p:=by
 unfold ja1
 cases h:l.findIdx? p with
 | none =>
  rw [List.findIdx?_eq_none_iff] at h
  simp
  intro x hx
  simpa using h x hx
 | some i =>
  rw [List.findIdx?_eq_some_iff_getElem] at h
  obtain ⟨hi,hp,_⟩:=h
  simp
  exact ⟨_,List.getElem_mem hi,hp⟩
theorem ev213 {p:Txn'→Bool} {g:FuncId} {cap:V} {ob:ZO} (hs:E.sh true g=false) (hcap:cap.strip.pureTop=false) (hp:∀ (t:Txn') (tk:Nat→Bool) (base ub:Nat),EvO E g [.agg (ji t),cap] ob tk base ub (.bool (p t)))
 (nl:Bool) (l:List Txn') (hl:l.length≤140737488355328) (tk:Nat→Bool) (base ub:Nat):EvO E 213 [jI nl ji l,.fn (.func g) [] [cap]] ob tk base ub (.int .i64 (ja1 p l)):=by
 refine Jf (af:=S213) rfl ?_
 simp [S213]
 refine Yd (n:=l.length) (fun k s=>∃ i,k=l.length - i∧i≤l.length∧s.df=[]∧s.ob=ob∧s.tm 0=jI nl ji l∧s.tm 1 = .fn (.func g) [] [cap]∧s.tm 7 = .int .i64 l.length∧s.tm 8 = .int .i64 i∧∀ j (hj:j<l.length),j<i→p l[j]=false)
  ⟨0,by simp⟩ ?_
 rintro k s ⟨i,rfl,hi,hd,ho,h0,h1,h7,h8,hb⟩
 by_cases hlt:i<l.length
 ·simp [h0,h1,h7,h8,hlt,j5 j8,jX j8]
  refine jat (f:=g) (first:=[]) (captured:=[cap]) (by simp) hs (by simp [hcap]) (v:=.bool (p l[i])) (by simpa [ho] using hp l[i] _ _ _) ?_
  cases hpi:p l[i]
  ·simp [h0,h1,h7,h8,hd]
   refine ⟨l.length - (i+1),by omega,i+1,rfl,by omega,ho,by rw [J8 (by omega) (by omega)];simp,?_⟩
   intro j hj hji
   rcases Nat.lt_succ_iff_lt_or_eq.1 hji with h | rfl
   ·exact hb j hj h
   ·exact hpi
  ·simp
   refine j3 (by simpa using hd) ?_ rfl
   simp
   rw [Wt hlt hpi hb]
 ·have:i=l.length:=by omega
  subst this
  simp [h7,h8]
  refine j3 (by simpa using hd) ?_ rfl
  simp [Qr (fun j hj=>hb j hj hj)]
theorem ev153 {p:Txn'→Bool} {g:FuncId} {ob:ZO} {a b c:Nat} (hs:E.sh true g=false) (hp:∀ (t:Txn') (tk:Nat→Bool) (base ub:Nat),EvO E g [.agg (ji t),.ptr a b c] ob tk base ub (.bool (p t)))
 (nl:Bool) (l:List Txn') (hl:l.length≤140737488355328) (tk:Nat→Bool) (base ub:Nat):EvO E 153 [jI nl ji l,.fn (.func g) [] [.ptr a b c]] ob tk base ub (.bool (l.any p)):=by
 refine Jf (af:=S153) rfl ?_
 simp [S153]
 refine Jg (vs:=[jI nl ji l,.fn (.func g) [] [.ptr a b c]]) (by simp) rfl rfl (ev213 hs rfl hp nl l hl _ _ _) ?_
 simp
 exact j3 rfl (by simp [jbv]) rfl
end Go.Pv.T
