/- What a function hands back. -/
import Derived.Test.YtphecmnehkdihaaGreatDoorNB
import Derived.RangeFuncLeaves
import Derived.KernelRfl
import Derived.Test.YtphecmnehkdihaaGreatDoorRows
set_option maxRecDepth 100000
set_option maxHeartbeats 8000000
namespace Go.Pv
open Go
def jqw (γ:Nat→Option Place) (x:Value):V→Option Place
 | .sl (some (u,_)) _ _ _=>γ u
 | .osl _ u _ n sz=>match γ u,x with
  | some (.obj b _),.slice _ _ cap=>some (.tok b n cap sz)
  | _,_=>none
 | _=>none
def jb6 (st:St) (keep:Bool) (l u off n sz:Nat):Bool :=
 match j0 st.ob l u with
 | some cs0=>keep && Nat.beq off 0 && Nat.blt 0 n && Nat.beq (n*sz) cs0.length
 | none=>false
def plLeaf (γ:Nat→Option Place) (st:St) (keep:Bool) (i:Nat) (x:Value):V→List (Nat × Nat × Option Place)
 | .sl (some (u,z)) nl n cs=>if keep && st.tk u then [(i,u,jqw γ x (.sl (some (u,z)) nl n cs))] else []
 | .osl l u off n sz=>if jb6 st keep l u off n sz then [(i,u,jqw γ x (.osl l u off n sz))] else []
 | _=>[]
def plList (γ:Nat→Option Place) (st:St) (keep:Bool):Nat→List Value→List V→List (Nat × Nat × Option Place)
 | i,x::xs,v::vs=>plLeaf γ st keep i x v++plList γ st keep (i+1) xs vs
 | _,_,_=>[]
def aggL:Value→List Value
 | .agg xs=>xs.toList
 | _=>[]
def plTop (γ:Nat→Option Place) (st:St) (keep:Bool) (i:Nat) (x:Value):V→List (Nat × Nat × Option Place)
 | .agg cs=>plList γ st keep i (aggL x) cs
 | v=>plLeaf γ st keep i x v
def plTops (γ:Nat→Option Place) (st:St) (keep:Bool):Nat→List Value→List V→List (Nat × Nat × Option Place)
 | i,x::xs,v::vs=>plTop γ st keep i x v++plTops γ st keep (i+16) xs vs
 | _,_,_=>[]
theorem QD:∀ {l:List Nat},nodup l=true→l.Nodup
 | [],_=>List.nodup_nil
 | a::l,h=>by
  simp only[nodup,Bool.and_eq_true,Bool.not_eq_true']at h
  refine List.nodup_cons.2 ⟨fun c=>?_,QD h.2⟩
  have:(l.any fun b=>Nat.beq a b)=true:=List.any_eq_true.2 ⟨a,c,Nat.beq_refl a⟩
  rw[h.1]at this
  cases this
section
variable {P:Program}{E:Env}{w0 w:World}{I0:IMap}{nt:Nat}{γ τ:Nat→Option Place}{I I':IMap}{st:St}{a:Act}{B:Nat}{Ω:Nat→Option Owner}{keep:Bool}
def PlOk (γ:Nat→Option Place) (_:IMap) (st:St) (keep:Bool) (p:Nat × Nat × Option Place):Prop :=
 keep=true∧((st.tk p.2.1=true∧p.2.2=γ p.2.1) ∨
  ∃l cs b k n cap sz,st.ob l=some ⟨p.2.1,.cells cs⟩∧γ p.2.1=some (.obj b k)∧p.2.2=some (.tok b n cap sz)∧0<n∧n*sz=cs.length∧n≤cap∧cap≤maxLen∧cap*sz≤k.size∧Nat.ble st.ro p.2.1=true)
theorem jdz (i:Nat) {x:Value}{v J:V}(z:Rep γ I x v) (r:jn st keep i v=some J):((plLeaf γ st keep i x v).map (·.2.1)).Sublist v.tok∧∀p∈plLeaf γ st keep i x v,PlOk γ I st keep p:=by
 unfold plLeaf
 split
 ·split
  ·rename_i h
   simp only[Bool.and_eq_true]at h
   exact⟨List.Sublist.refl _,fun p c=>by rw[List.mem_singleton.1 c];exact⟨h.1,.inl ⟨h.2,rfl⟩⟩⟩
  ·exact⟨List.nil_sublist _,fun p c=>by cases c⟩
 ·rename_i l u off n H
  split
  ·rename_i h
   refine⟨List.Sublist.refl _,fun p c=>?_⟩
   rw[List.mem_singleton.1 c]
   unfold jb6 at h
   split at h
   case h_2=>cases h
   rename_i f d
   simp only[Bool.and_eq_true]at h
   obtain⟨⟨⟨y,j⟩,e⟩,m⟩:=h
   have j:=Nat.eq_of_beq_eq_true j
   have e:0<n:=by simpa[Nat.blt_eq] using e
   have m:=Nat.eq_of_beq_eq_true m
   subst j
   obtain⟨b,k,K,o,t,rfl,G,F,D⟩:=XZ z
   have g:Nat.ble st.ro u=true:=by
    simp only[jn]at r
    obtain⟨q,s,_⟩:=bind_some r
    simp only[JH,d,Option.bind_some,Option.ite_none_right_eq_some]at s
    exact s.1.1
   refine⟨y,.inr ⟨l,f,b,k,n,o,H,jY d,t,by simp only[jqw,t],e,m,F,D,?_,g⟩⟩
   have:=(G zO).2
   omega
  ·exact⟨List.nil_sublist _,fun p c=>by cases c⟩
 ·exact⟨List.nil_sublist _,fun p c=>by cases c⟩
theorem jdy:∀ (i:Nat) (xs:List Value) (vs b:List V),xs.length=vs.length→(∀ (j:Nat) (x:Value) (v:V),xs[j]? = some x→vs[j]? = some v→Rep γ I x v)→XV st keep i vs=some b →
 ((plList γ st keep i xs vs).map (·.2.1)).Sublist (vs.flatMap V.tok)∧∀p∈plList γ st keep i xs vs,PlOk γ I st keep p
 | _,[],[],_,_,_,_=>⟨List.Sublist.refl _,fun p e=>by cases e⟩
 | i,x::xs,v::vs,b,hl,hr,c=>by
  simp only[XV]at c
  obtain⟨q,o,c⟩:=bind_some c
  obtain⟨r,d,rfl⟩:=map_some c
  obtain⟨g,l⟩:=jdz i (hr 0 x v rfl rfl) o
  obtain⟨f,n⟩:=jdy (i+1) xs vs r (by simpa using hl) (fun j x v k m=>hr (j+1) x v (by simpa using k) (by simpa using m)) d
  simp only[plList,List.map_append,List.flatMap_cons]
  exact⟨g.append f,fun p e=>(List.mem_append.1 e).elim (l p) (n p)⟩
 | _,[],_::_,_,h,_,_=>by simp at h
 | _,_::_,[],_,h,_,_=>by simp at h
theorem jo6 (i:Nat) {x:Value}{v l:V}(c:Rep γ I x v) (b:XS st keep i v=some l):((plTop γ st keep i x v).map (·.2.1)).Sublist v.toks∧∀p∈plTop γ st keep i x v,PlOk γ I st keep p:=by
 cases v with
 | agg cs=>
  obtain⟨h,rfl,e,n,d⟩:=Xy c
  simp only[XS]at b
  obtain⟨r,m,rfl⟩:=map_some b
  exact jdy i h.toList cs r (by simpa using e) (fun j x v c b=>d j x v (by simpa using c) b) m
 | fn f k o=>exact⟨List.nil_sublist _,fun p g=>by cases g⟩
 | _=>exact jdz i c b
theorem jdx:∀ (i:Nat) (xs:List Value) (vs b:List V),xs.length=vs.length→(∀ (j:Nat) (x:Value) (v:V),xs[j]? = some x→vs[j]? = some v→Rep γ I x v)→JJ st keep i vs=some b →
 ((plTops γ st keep i xs vs).map (·.2.1)).Sublist (vs.flatMap V.toks)∧∀p∈plTops γ st keep i xs vs,PlOk γ I st keep p
 | _,[],[],_,_,_,_=>⟨List.Sublist.refl _,fun p e=>by cases e⟩
 | i,x::xs,v::vs,b,hl,hr,c=>by
  simp only[JJ]at c
  obtain⟨q,o,c⟩:=bind_some c
  obtain⟨r,d,rfl⟩:=map_some c
  obtain⟨g,l⟩:=jo6 i (hr 0 x v rfl rfl) o
  obtain⟨f,n⟩:=jdx (i+16) xs vs r (by simpa using hl) (fun j x v k m=>hr (j+1) x v (by simpa using k) (by simpa using m)) d
  simp only[plTops,List.map_append,List.flatMap_cons]
  exact⟨g.append f,fun p e=>(List.mem_append.1 e).elim (l p) (n p)⟩
 | _,[],_::_,_,h,_,_=>by simp at h
 | _,_::_,[],_,h,_,_=>by simp at h
theorem WG {i:Nat}{x:Value}{v d:V}(b:jn st keep i v=some d):d.leaf=true∧d.tok=(plLeaf γ st keep i x v).map (·.1):=by
 have c:∀k,JH st (k+1) v=(if v.pureLeaf then some v else none)→jn st keep i v=JH st (k+1) v→v.tok=[]→plLeaf γ st keep i x v=[]→d.leaf=true∧d.tok=(plLeaf γ st keep i x v).map (·.1):=by
  intro k o p m y
  rw[p,o]at b
  simp only[Option.ite_none_right_eq_some,Option.some.injEq]at b
  obtain⟨r,rfl⟩:=b
  exact⟨jag r,by rw[y,m];rfl⟩
 cases v with
 | sl t s n cs=>
  cases t with
  | none=>exact c 5 rfl rfl rfl rfl
  | some q=>
   obtain⟨u,z⟩:=q
   simp only[jn,Option.some.injEq]at b
   subst b
   refine⟨rfl,?_⟩
   cases h:(keep && st.tk u) <;> simp[V.tok,plLeaf,h]
 | osl l u off n g=>
  simp only[jn]at b
  obtain⟨q,F,b⟩:=bind_some b
  split at b
  case h_2=>cases b
  rename_i t s D cs
  obtain⟨e,j,rfl⟩:=map_some b
  refine⟨rfl,?_⟩
  have h:jb6 st keep l u off n g=(keep && Nat.beq off 0 && Nat.blt 0 n && Nat.beq (n*g) e.length):=by simp only[jb6,j]
  rw[← h]
  cases f:jb6 st keep l u off n g <;> simp[V.tok,plLeaf,f]
 | agg|tup|undef=>
  simp only[jn,JH,V.pureLeaf,Bool.false_eq_true,if_false,reduceCtorEq]at b
 | _=>exact c 5 rfl rfl rfl rfl
theorem jf2 (ho:Own γ I B st w Ω) (M:jch γ B st w I I') {x:Value}{v r:V}{i:Nat}(y:Rep γ I x v) (c:jn st keep i v=some r) (H:∀p∈plLeaf γ st keep i x v,τ p.1=p.2.2) :
 juz τ I' x r:=by
 have d:jn st keep i v=JH st 6 v→juz τ I' x r:=by
  intro h
  rw[h]at c
  obtain⟨X,G⟩:=jab ho M 6 x v r y c
  cases r with
  | sl t nl n cs=>
   cases t with
   | none=>exact X
   | some q=>simp[V.pureLeaf]at G
  | _=>exact X
 cases v with
 | sl t nl n cs=>
  cases t with
  | none=>exact d rfl
  | some q=>
   obtain⟨u,z⟩:=q
   simp only[jn,Option.some.injEq]at c
   subst c
   cases j:(keep && st.tk u) with
   | true=>
    have N:(i,u,γ u)∈plLeaf γ st keep i x (.sl (some (u,z)) nl n cs):=by simp[plLeaf,j,jqw]
    have Q:=H _ N
    simp only[if_true]
    have:=y.mono (γ':=γ) (fun _ _ h=>h) M.1
    cases this with
    | tsl _ b _ e _ _ xs hu f Z s O S hr=>exact Rep.tsl i b n e z cs xs (Q.trans hu) f Z s O S hr
    | pure _ _ h=>cases h
   | false=>
    simp only[Bool.false_eq_true,if_false]
    exact(Yd y (by simp[V.strip1,V.pureLeaf])).mono M.1
 | osl l u off n k=>
  simp only[jn]at c
  obtain⟨q,L,c⟩:=bind_some c
  obtain⟨g,a0⟩:=jab ho M 6 x _ q y L
  split at c
  case h_2=>cases c
  rename_i t nl n' cs
  have U:t=none:=by cases t <;> simp_all [V.pureLeaf]
  subst U
  obtain⟨T,K,rfl⟩:=map_some c
  have j:jb6 st keep l u off n k=(keep && Nat.beq off 0 && Nat.blt 0 n && Nat.beq (n*k) T.length):=by simp only[jb6,K]
  rw[← j]
  cases o:jb6 st keep l u off n k with
  | false=>exact g
  | true=>
   simp only[if_true]
   rw[o]at j
   have j:=j.symm
   simp only[Bool.and_eq_true]at j
   obtain⟨⟨⟨X,G⟩,h3⟩,h4⟩:=j
   have G:=Nat.eq_of_beq_eq_true G
   have h3:0<n:=by simpa[Nat.blt_eq] using h3
   have h4:=Nat.eq_of_beq_eq_true h4
   subst G
   obtain⟨b,kb,ad,e,hu,rfl,ha,Z,N⟩:=XZ y
   have J:(i,u,some (Place.tok b n e k))∈plLeaf γ st keep i (.slice (some ad) n e) (.osl l u 0 n k):=by simp[plLeaf,o,jqw,hu]
   have Q:=H _ J
   have D:=(ha zO).1
   subst D
   -- the form of what is JH
   simp only[JH,K,Option.bind_some,Option.ite_none_right_eq_some]at L
   obtain⟨_,L⟩:=L
   obtain⟨m,F,he⟩:=map_some L
   simp only[V.sl.injEq,true_and]at he
   obtain⟨rfl,rfl,rfl⟩:=he
   have f:m.length=n*k:=by
    have:=(ju F).1
    rw[this]
    simp only[List.length_take,List.length_drop];omega
   cases g with
   | sl _ _ _ _ xs hs b0 s O S hr=>exact Rep.tsl i b n e k m xs Q f Z N (by simpa using O) S hr
 | agg|tup|undef=>
  simp only[jn,JH,V.pureLeaf,Bool.false_eq_true,if_false,reduceCtorEq]at c
 | _=>exact d rfl
theorem jf1 (m:Own γ I B st w Ω) (n:jch γ B st w I I'):∀ (xs:List Value) (vs b:List V) (i:Nat),xs.length=vs.length→(∀ (j:Nat) (x:Value) (v:V),xs[j]? = some x→vs[j]? = some v→Rep γ I x v) →
 XV st keep i vs=some b→(∀p∈plList γ st keep i xs vs,τ p.1=p.2.2) →
 b.length=vs.length∧(∀ (j:Nat) (x:Value) (f:V),xs[j]? = some x→b[j]? = some f→f.leaf=true∧juz τ I' x f)
 | [],[],b,i,_,_,h,_=>by
  simp only[XV,Option.some.injEq]at h
  subst h
  exact⟨rfl,fun j x f h=>by simp at h⟩
 | x::xs,v::vs,b,i,hl,hr,h,hτ=>by
  simp only[XV]at h
  obtain⟨q,o,h⟩:=bind_some h
  obtain⟨r,g,rfl⟩:=map_some h
  simp only[plList]at hτ
  obtain⟨s,u⟩:=jf1 m n xs vs r (i+1) (by simpa using hl) (fun j x v t z=>hr (j+1) x v (by simpa using t) (by simpa using z)) g (fun p k=>hτ p (List.mem_append_right _ k))
  have c:=jf2 m n (hr 0 x v rfl rfl) o (fun p k=>hτ p (List.mem_append_left _ k))
  have e:=WG (γ:=γ) (x:=x) o
  refine⟨by simp[s],fun j y D l d=>?_⟩
  cases j with
  | zero=>
   simp only[List.getElem?_cons_zero,Option.some.injEq]at l d
   subst l;subst d
   exact⟨e.1,c⟩
  | succ j=>exact u j y D (by simpa using l) (by simpa using d)
 | [],_::_,_,_,h,_,_,_=>by simp at h
 | _::_,[],_,_,h,_,_,_=>by simp at h
theorem jsy {x:Value}{v:V}(h:juz τ I x v) (b:v.leaf=true):jqd τ I x v∧(∀c,v≠.tup c):=by
 cases v with
 | agg|tup|undef=>cases b
 | _=>exact⟨h,fun _ h=>by cases h⟩
theorem jr3 (q:Own γ I B st w Ω) (o:jch γ B st w I I') {x:Value}{v e:V}{i:Nat}(k:Rep γ I x v) (d:XS st keep i v=some e) (c:∀p∈plTop γ st keep i x v,τ p.1=p.2.2) :
 jqd τ I' x e∧(∀l,e≠.tup l):=by
 have b:jn st keep i v=some e→plTop γ st keep i x v=plLeaf γ st keep i x v→jqd τ I' x e∧(∀l,e≠.tup l):=by
  intro g t
  rw[t]at c
  exact jsy (jf2 q o k g c) (WG (γ:=γ) (x:=x) g).1
 cases v with
 | agg cs=>
  simp only[XS]at d
  obtain⟨r,J,rfl⟩:=map_some d
  obtain⟨m,rfl,g,t,z⟩:=Xy k
  obtain⟨F,s⟩:=jf1 q o m.toList cs r i (by simpa using g) (fun j x v k d=>z j x v (by simpa using k) d) J c
  refine⟨⟨m,rfl,g.trans F.symm,fun j u n=>?_,fun j y u K n=>(s j y u (by simpa using K) n).2⟩,(fun l h=>by cases h)⟩
  have D:j<m.size:=by have:=(List.getElem?_eq_some_iff.1 n).1;omega
  exact(s j m[j] u (by rw[Array.getElem?_toList];exact Array.getElem?_eq_getElem D) n).1
 | fn f H L=>
  simp only[XS,Option.ite_none_right_eq_some,Option.some.injEq]at d
  obtain⟨G,rfl⟩:=d
  exact⟨(jfk k G).mono o.1,(fun l h=>by simp[V.strip]at h)⟩
 | _=>exact b d rfl
theorem Yu (l:Own γ I B st w Ω) (m:jch γ B st w I I'):∀ (xs:List Value) (vs b:List V) (i:Nat),xs.length=vs.length→(∀ (j:Nat) (x:Value) (v:V),xs[j]? = some x→vs[j]? = some v→Rep γ I x v) →
 JJ st keep i vs=some b→(∀p∈plTops γ st keep i xs vs,τ p.1=p.2.2) →
 b.length=vs.length∧(∀ (j:Nat) (x:Value) (e:V),xs[j]? = some x→b[j]? = some e→jqd τ I' x e∧∀vs,e≠.tup vs)
 | [],[],b,i,_,_,h,_=>by
  simp only[JJ,Option.some.injEq]at h
  subst h
  exact⟨rfl,fun j x e h=>by simp at h⟩
 | x::xs,v::vs,b,i,hl,hr,h,hτ=>by
  simp only[JJ]at h
  obtain⟨q,z,h⟩:=bind_some h
  obtain⟨r,f,rfl⟩:=map_some h
  simp only[plTops]at hτ
  obtain⟨n,s⟩:=Yu l m xs vs r (i+16) (by simpa using hl) (fun j x v o t=>hr (j+1) x v (by simpa using o) (by simpa using t)) f (fun p g=>hτ p (List.mem_append_right _ g))
  have d:=jr3 l m (hr 0 x v rfl rfl) z (fun p g=>hτ p (List.mem_append_left _ g))
  refine⟨by simp[n],fun j y u k c=>?_⟩
  cases j with
  | zero=>
   simp only[List.getElem?_cons_zero,Option.some.injEq]at k c
   subst k;subst c
   exact d
  | succ j=>exact s j y u (by simpa using k) (by simpa using c)
 | [],_::_,_,_,h,_,_,_=>by simp at h
 | _::_,[],_,_,h,_,_,_=>by simp at h
theorem js2 {v:V}(h:v.leaf=true):v.toks=v.tok:=by
 cases v with
 | agg|tup|undef=>cases h
 | _=>rfl
theorem jd2:∀ (xs:List Value) (vs b:List V) (i:Nat),xs.length=vs.length→XV st keep i vs=some b→b.flatMap V.tok=(plList γ st keep i xs vs).map (·.1)
 | [],[],b,i,_,h=>by
  simp only[XV,Option.some.injEq]at h
  subst h
  rfl
 | x::xs,v::vs,b,i,hl,h=>by
  simp only[XV]at h
  obtain⟨q,c,h⟩:=bind_some h
  obtain⟨r,d,rfl⟩:=map_some h
  simp only[plList,List.map_append,List.flatMap_cons,(WG (γ:=γ) (x:=x) c).2,jd2 xs vs r (i+1) (by simpa using hl) d]
 | [],_::_,_,_,h,_=>by simp at h
 | _::_,[],_,_,h,_=>by simp at h
theorem jpa {x:Value}{v d:V}{i:Nat}(j:Rep γ I x v) (c:XS st keep i v=some d):d.toks=(plTop γ st keep i x v).map (·.1):=by
 have b:jn st keep i v=some d→plTop γ st keep i x v=plLeaf γ st keep i x v→d.toks=(plTop γ st keep i x v).map (·.1):=fun e h=>by
  obtain⟨g,m⟩:=WG (γ:=γ) (x:=x) e
  rw[h,js2 g,m]
 cases v with
 | agg cs=>
  simp only[XS]at c
  obtain⟨r,n,rfl⟩:=map_some c
  obtain⟨k,rfl,e,h,g⟩:=Xy j
  exact jd2 k.toList cs r i (by simpa using e) n
 | fn f l o=>
  simp only[XS,Option.ite_none_right_eq_some,Option.some.injEq]at c
  obtain⟨p,rfl⟩:=c
  rfl
 | _=>exact b c rfl
theorem jd1:∀ (xs:List Value) (vs b:List V) (i:Nat),xs.length=vs.length→(∀ (j:Nat) (x:Value) (v:V),xs[j]? = some x→vs[j]? = some v→Rep γ I x v)→JJ st keep i vs=some b →
 b.flatMap V.toks=(plTops γ st keep i xs vs).map (·.1)
 | [],[],b,i,_,_,h=>by
  simp only[JJ,Option.some.injEq]at h
  subst h
  rfl
 | x::xs,v::vs,b,i,hl,hr,h=>by
  simp only[JJ]at h
  obtain⟨q,e,h⟩:=bind_some h
  obtain⟨r,c,rfl⟩:=map_some h
  simp only[plTops,List.map_append,List.flatMap_cons,jpa (hr 0 x v rfl rfl) e,jd1 xs vs r (i+16) (by simpa using hl) (fun j x v d f=>hr (j+1) x v (by simpa using d) (by simpa using f)) c]
 | [],_::_,_,_,h,_,_=>by simp at h
 | _::_,[],_,_,h,_,_=>by simp at h
def jmw (xs:List Value):Value :=
 match xs with
 | [x]=>x
 | xs=>.tuple xs.toArray
end
section
variable {P:Program}{E:Env}{w0 w:World}{I0:IMap}{nt:Nat}{γ τ:Nat→Option Place}{I I':IMap}{st:St}{a:Act}{B:Nat}{Ω:Nat→Option Owner}
def jmx (tmps:Array Value):ResultVar→Sem Value
 | .tmp t=>pure (tmps.getD t undef)
 | .cell a t=>do loadVar t (← asAddr (tmps.getD a undef))
theorem jrq (m:R E w0 I0 nt γ I st a w) {rv:ResultVar}{r:ARes}{v:V}(f:YP P rv=some r) (d:jp st r=some v):∃x,(jmx a.tmps rv).run P w=.ok x w∧Rep γ I x v:=by
 cases rv with
 | tmp t=>
  simp only[YP,Option.some.injEq]at f
  subst f
  simp only[jp,Option.some.injEq]at d
  subst d
  exact⟨_,rfl,m.tm t⟩
 | cell n t=>
  simp only[YP]at f
  obtain⟨g,D,rfl⟩:=map_some f
  simp only[jp]at d
  split at d
  ·rename_i l u off G
   have q:=m.tm n
   rw[G]at q
   obtain⟨b,H,h,i⟩:=YM q
   obtain⟨cs,p,o⟩:=bind_some d
   obtain⟨arr,e,z,J,K,y⟩:=Wj m (jY p) h
   have c:∀j,off+j<cs.length→arr[off+j]? = some (arr.getD (off+j) undef):=by
    intro j k
    have:off+j<arr.size:=zO
    simp[this]
   obtain⟨F,s⟩:=jhh (γ:=γ) (I:=I) o (fun j=>arr.getD (off+j) undef) (fun j u k h=>y _ _ _ (c j (List.getElem?_eq_some_iff.1 h).1) h)
   refine⟨_,?_,s⟩
   simp only[jmx,i,asAddr,Sem.run_bind,Sem.run_pure,Result.andThen_ok]
   exact Qh D (fun j=>arr.getD (off+j) undef) _ rfl (fun j k=>by
    simp only[World.cell?,z,Option.isSome_none,Bool.false_eq_true,if_false]
    exact c j (F j k))
  ·cases d
theorem jfv (o:R E w0 I0 nt γ I st a w):∀ (b:List ResultVar) (i:List ARes) (vs:List V),b.mapM (YP P)=some i→i.mapM (jp st)=some vs →
 ∃e:List Value,e.length=vs.length∧(b.mapM (jmx a.tmps)).run P w=.ok e w∧∀ (j:Nat) (x:Value) (v:V),e[j]? = some x→vs[j]? = some v→Rep γ I x v
 | [],i,vs,h1,h2=>by
  simp at h1
  subst h1
  simp at h2
  subst h2
  exact⟨[],rfl,rfl,fun j x v h=>by simp at h⟩
 | rv::b,i,vs,h1,h2=>by
  simp only[List.mapM_cons]at h1
  cases f:YP P rv with
  | none=>simp[f]at h1
  | some r=>
   cases k:b.mapM (YP P) with
   | none=>simp[f,k]at h1
   | some d=>
    simp[f,k]at h1
    subst h1
    simp only[List.mapM_cons]at h2
    cases g:jp st r with
    | none=>simp[g]at h2
    | some v=>
     cases c:d.mapM (jp st) with
     | none=>simp[g,c]at h2
     | some m=>
      simp[g,c]at h2
      subst h2
      obtain⟨x,q,s⟩:=jrq o f g
      obtain⟨e,t,p,z⟩:=jfv o b d m k c
      refine⟨x::e,by simp[t],?_,fun j y u n l=>?_⟩
      ·simp only[List.mapM_cons,Sem.run_bind,q,Result.andThen_ok,p,Sem.run_pure]
      ·cases j with
       | zero=>
        simp only[List.getElem?_cons_zero,Option.some.injEq]at n l
        subst n;subst l
        exact s
       | succ j=>exact z j y u (by simpa using n) (by simpa using l)
theorem jfu (m:R E w0 I0 nt γ I st a w) {c:Func}{d:List ARes}{vs:List V}(f:c.results.toList.mapM (YP P)=some d) (l:d.mapM (jp st)=some vs) :
 ∃b:List Value,b.length=vs.length∧(results c a.tmps).run P w=.ok (jmw b) w∧∀ (j:Nat) (x:Value) (v:V),b[j]? = some x→vs[j]? = some v→Rep γ I x v:=by
 obtain⟨b,i,k,e⟩:=jfv m _ _ _ f l
 refine⟨b,i,?_,e⟩
 have g:(results c a.tmps)=(c.results.mapM (jmx a.tmps) >>= fun vs=>pure (if h:vs.size=1 then vs[0] else .tuple vs)):=by
  unfold results
  congr 1
 rw[g,Array.mapM_eq_mapM_toList]
 simp only[map_eq_pure_bind,Sem.run_bind,k,Result.andThen_ok,Sem.run_pure]
 congr 1
 match b with
 | []=>rfl
 | [x]=>rfl
 | x::y::r=>simp[jmw]
theorem jqb {f:Type}{l:List (Nat × f)}(c:(l.map (·.1)).Nodup) {i:Nat}{u:f}(b:(i,u)∈l):(l.find? fun p=>Nat.beq p.1 i)=some (i,u):=by
 induction l with
 | nil=>cases b
 | cons p l g=>
  obtain⟨j,v⟩:=p
  simp only[List.map_cons,List.nodup_cons]at c
  rcases List.mem_cons.1 b with he|b
  ·cases he
   simp[List.find?,Nat.beq_refl]
  ·have d:¬ j=i:=fun e=>c.1 (List.mem_map.2 ⟨_,b,e.symm⟩)
   have:Nat.beq j i=false:=by
    cases h:Nat.beq j i with
    | false=>rfl
    | true=>exact absurd (Nat.eq_of_beq_eq_true h) d
   simp only[List.find?,this]
   exact g c.2 b
theorem j51 (hR:R E w0 I0 nt γ I st a w) {xs:List Value}{vs:List V}{r:V}(f:xs.length=vs.length) (hr:∀ (j:Nat) (x:Value) (v:V),xs[j]? = some x→vs[j]? = some v→Rep γ I x v)
 (ho:Yv st vs=some r) :
 ∃τ I',(∀b o x,I b o=some x→I' b o=some x)∧jkl I' w∧(∀b o,b<w0.heap.size→I' b o=I b o)∧jux τ I' (jmw xs) r∧jkj w0.heap.size τ I' w r:=by
 classical
 obtain⟨Ω,c⟩:=hR.own
 let C:Nat→Nat→Prop:=fun b o=>w0.heap.size≤b∧∃l u cs k,st.ob l=some ⟨u,.cells cs⟩∧γ u=some (.obj b k)∧o<cs.length
 let I':IMap:=fun b o=>match I b o with
  | some x=>some x
  | none=>if C b o then w.cell? ⟨b,o,none⟩ else none
 have m:∀b o x,I b o=some x→I' b o=some x:=by
  intro b o x h
  simp only[I',h]
 have hz:jch γ w0.heap.size st w I I':=⟨m,fun b k o x l u cs hb T U c8 hc=>by
  obtain⟨b',Z,k1,_,_,_,k5⟩:=c.ob l _ T
  rw[U]at k1
  cases k1
  simp only[I',k5]
  rw[if_pos ⟨hb,l,u,cs,k,T,U,c8⟩]
  exact hc⟩
 have b5:jkl I' w:=by
  intro b o x h
  simp only[I']at h
  split at h
  ·rename_i y z
   cases h
   exact hR.imm _ _ _ z
  ·split at h
   ·exact h
   ·cases h
 have c0:∀b o,b<w0.heap.size→I' b o=I b o:=by
  intro b o hb
  simp only[I']
  split
  ·rename_i y z;exact z.symm
  ·rename_i z
   rw[if_neg (fun h=>Nat.not_lt_of_le h.1 hb)]
   exact z.symm
 unfold Yv at ho
 obtain⟨l,T,ho⟩:=bind_some ho
 simp only[Option.ite_none_right_eq_some]at ho
 obtain⟨c9,b9⟩:=ho
 generalize Q:nodup (vs.flatMap V.toks)=keep at T
 let S:=plTops γ st keep 0 xs vs
 let τ:Nat→Option Place:=fun i=>(S.find? fun p=>Nat.beq p.1 i).bind fun p=>p.2.2
 obtain⟨b0,c3⟩:=jdx (γ:=γ) (I:=I) 0 xs vs l f hr T
 have D:=jd1 (γ:=γ) (I:=I) xs vs l 0 f hr T
 have a0:(S.map (·.1)).Nodup:=by
  rw[← D]
  exact QD c9
 have O:∀p∈S,τ p.1=p.2.2:=by
  intro p K
  obtain⟨i,u⟩:=p
  simp only[τ,jqb a0 K,Option.bind_some]
 obtain⟨h1,G⟩:=Yu (τ:=τ) c hz xs vs l 0 f hr T O
 have q:toksRes r=S.map (·.1):=by
  rw[← D]
  match l,G,b9 with
  | [],_,rfl=>rfl
  | [v],G,rfl=>
   match xs,f,h1 with
   | [x],_,_=>
    have:=(G 0 x v rfl rfl).2
    simp only[List.flatMap_cons,List.flatMap_nil,List.append_nil]
    cases v <;> first|rfl|exact absurd rfl (this _)
   | [],e1,e2=>simp at e1 e2;omega
   | _::_::_,e1,e2=>simp at e1 e2;omega
  | v::v'::l',_,rfl=>rfl
 have b7:jux τ I' (jmw xs) r:=by
  have c6:xs.length=l.length:=f.trans h1.symm
  match l,xs,c6,G,b9 with
  | [],[],_,_,rfl=>exact⟨#[],rfl,rfl,fun j y u z=>by simp at z⟩
  | [v],[x],_,G,rfl=>
   obtain⟨k1,k2⟩:=G 0 x v rfl rfl
   cases v <;> first|exact k1|exact absurd rfl (k2 _)
  | v::v'::l',x::x'::xs',e,G,rfl=>exact⟨(x::x'::xs').toArray,rfl,by simpa using e,fun j y u z U=>(G j y u (by simpa using z) U).1⟩
 refine⟨τ,I',m,b5,c0,b7,?_⟩
 have b8:keep=true→(S.map (·.2.1)).Nodup:=fun hk=>b0.nodup (QD (by rw[Q,hk]))
 -- whose block it is
 have J:∀p∈S,∃b n d t,p.2.2=some (.tok b n d t)∧w0.heap.size≤b∧b<w.heap.size∧j4a w.heap[b]? n d t∧(∀j,n*t≤j→I' b j=none) ∧
  (Ω b=some (.tk p.2.1)∨∃l cs k,Ω b=some (.ob l)∧st.ob l=some ⟨p.2.1,.cells cs⟩∧γ p.2.1=some (.obj b k)):=by
  intro p K
  obtain⟨hk,U|⟨l,cs,b,k,n,d,t,N,H,q3,q4,q5,s,q7,q8,q9⟩⟩:=c3 p K
  ·obtain⟨b,n,d,t,N,H,q3,q4,q5⟩:=c.tk p.2.1 U.1
   refine⟨b,n,d,t,U.2.trans N,q3,c.lt _ _ H,q4,fun j hj=>?_,.inl H⟩
   have hn:=q5 j hj
   simp only[I',hn]
   rw[if_neg]
   rintro⟨_,l',u',c1,Z,F,r2,_⟩
   obtain⟨b',d0,t1,X,_⟩:=c.ob l' _ F
   rw[r2]at t1
   cases t1
   rw[H]at X
   cases X
  ·obtain⟨b',Z,t1,X,t3,⟨arr,e,g1,g2,g3,g4⟩,t5⟩:=c.ob l _ N
   rw[H]at t1
   cases t1
   refine⟨b,n,d,t,q3,t3 (by simpa[Nat.ble_eq] using q9),c.lt _ _ X,⟨arr,e,g1,by rw[g2];exact q8,s,q7⟩,fun j hj=>?_,.inr ⟨l,cs,k,X,N,H⟩⟩
   simp only[I',t5]
   rw[if_neg]
   rintro⟨_,l',u',c1,Z,F,r2,r3⟩
   obtain⟨b',d0,s1,s2,_⟩:=c.ob l' _ F
   rw[r2]at s1
   cases s1
   rw[X]at s2
   cases s2
   rw[N]at F
   cases F
   omega
 intro i hi
 rw[q]at hi
 obtain⟨⟨i',u,pp⟩,K,rfl⟩:=List.mem_map.1 hi
 obtain⟨b,n,d,t,N,H,q3,q4,q5,s⟩:=J _ K
 refine⟨b,n,d,t,(O _ K).trans N,H,q3,q4,q5,fun i2 b6 n' c' s' he=>?_⟩
 rw[q]at b6
 obtain⟨⟨i3,u3,d4⟩,L,rfl⟩:=List.mem_map.1 b6
 obtain⟨b3,n3,d2,d3,F,r2,r3,r4,r5,g⟩:=J _ L
 have e3:=(O _ L).symm.trans he
 simp only at e3
 simp only at F
 rw[F]at e3
 cases e3
 have hk:=(c3 _ K).1
 have d1:u3=u:=by
  simp only at s g
  rcases s with s|⟨l,cs,k,s,q7,q8⟩ <;> rcases g with g|⟨l',c1,Z,g,r7,r8⟩
  ·rw[s]at g;cases g;rfl
  ·rw[s]at g;cases g
  ·rw[s]at g;cases g
  ·rw[s]at g;cases g
   rw[q7]at r7;cases r7;rfl
 subst d1
 have:=b8 hk
 obtain⟨k,c7,c2⟩:=List.getElem_of_mem K
 obtain⟨Z,c4,M⟩:=List.getElem_of_mem L
 have c5:Z=k:=by
  refine(List.getElem_inj (xs:=S.map (·.2.1)) (h₀:=by simpa using c4) (h₁:=by simpa using c7) this).1 ?_
  simp[c2,M]
 subst c5
 rw[c2]at M
 cases M
 rfl
end
section
variable {P:Program}{E:Env}{τ:Nat→Option Place}{I I' I1:IMap}{B:Nat}
theorem jjz (e:∀b o,B≤b→I' b o=I1 b o) {x:Value}{v:V}(h:juz τ I1 x v) (c:v.freeL=true) (D:∀i∈v.tok,∃b n a g,τ i=some (.tok b n a g)∧B≤b):juz τ I' x v:=by
 cases v with
 | sl t H n cs=>
  cases t with
  | none=>exact jae (show RepP I1 x _ from h) c
  | some q=>
   obtain⟨u,z⟩:=q
   have J:Rep τ I1 x (.sl (some (u,z)) H n cs):=h
   cases J with
   | pure _ _ h=>cases h
   | tsl _ b _ a _ _ K p d G r y F M=>
    obtain⟨O,N,k,L,m,s⟩:=D u (by simp[V.tok])
    rw[p]at m
    cases m
    refine Rep.tsl u b n a z cs K p d G r (fun j w=>(e _ _ s).trans (y j w)) F (fun j v f=>jae (M j v f) ?_)
    exact List.all_eq_true.1 (show cs.all V.scal=true from c) v (List.mem_of_getElem? f)
 | osl l u off n g=>cases c
 | _=>first|(cases c;done)|exact jae (show RepP I1 x _ from h) c
theorem jvp {x:Value}{v:V}(h:∀cs,v≠.agg cs):jqd τ I x v=juz τ I x v:=by
 cases v <;> first|rfl|exact absurd rfl (h _)
theorem jv9 {x:Value}{v:V}(h:∀cs,v≠.tup cs):jux τ I x v=jqd τ I x v:=by
 cases v <;> first|rfl|exact absurd rfl (h _)
theorem jnv (a:∀b o,B≤b→I' b o=I1 b o) {x:Value}{v:V}(h:jqd τ I1 x v) (e:v.freeT=true) (f:∀i∈v.toks,∃b n c r,τ i=some (.tok b n c r)∧B≤b):jqd τ I' x v:=by
 cases v with
 | agg cs=>
  obtain⟨q,rfl,l,m,k⟩:=h
  refine⟨q,rfl,l,m,fun j y u s g=>?_⟩
  have d:=List.mem_of_getElem? g
  exact jjz a (k j y u s g) (List.all_eq_true.1 (show cs.all V.freeL=true from e) u d) (fun i p=>f i (List.mem_flatMap.2 ⟨u,d,p⟩))
 | _=>rw[jvp (fun _ h=>by cases h)]at h ⊢;exact jjz a h e f
theorem jyb (a:∀b o,B≤b→I' b o=I1 b o) {x:Value}{v:V}(h:jux τ I1 x v) (e:v.freeR=true) (f:∀i∈toksRes v,∃b n c q,τ i=some (.tok b n c q)∧B≤b):jux τ I' x v:=by
 cases v with
 | tup r=>
  obtain⟨p,rfl,k,l⟩:=h
  refine⟨p,rfl,k,fun j y u s g=>?_⟩
  have d:=List.mem_of_getElem? g
  exact jnv a (l j y u s g) (List.all_eq_true.1 (show r.all V.freeT=true from e) u d) (fun i m=>f i (List.mem_flatMap.2 ⟨u,d,m⟩))
 | _=>rw[jv9 (fun _ h=>by cases h)]at h ⊢;exact jnv a h e f
theorem frz_ok {f:FuncId}{args a:List V}{ob:ZO}{ub:Nat}{r:V}(hp:jkk P E f a r) (Q:args.mapM (Yz ob)=some a) (hr:r.freeR=true):ObsOk P E f args ob ub r:=by
 intro w0 w I0 I γ X st K c U H l
 obtain⟨s,p⟩:=jnu K c Q l
 have D:∀b o x,I b o=some x→b<w.heap.size:=by
  intro b o x F
  have:=c.imm b o x F
  apply Classical.byContradiction
  intro hn
  have z:w.heap[b]? = none:=Array.getElem?_eq_none zO
  simp[World.cell?,z]at this
 refine(hp w (fun b o=>w.cell? ⟨b,o,none⟩) X (fun _ _ _ h=>h) (fun g cs J=>(c.gl g cs J).mono c.imm) (H.trans s.symm) p).mono fun e w' he=>?_
 ·obtain⟨x,τ,I1,rfl,J,T,q,M,F,L⟩:=he
  have m:∀b o,w.heap.size≤b→(fun b o=>if b<w.heap.size then I b o else I1 b o) b o=I1 b o:=fun b o h=>if_neg zO
  refine⟨x,τ,fun b o=>if b<w.heap.size then I b o else I1 b o,rfl,J,fun b o y d=>?_,fun b o y d=>?_,fun b o z=>if_pos z,jyb m F hr (fun i u=>?_),fun i u=>?_⟩
  ·simp only[D b o y d,if_true];exact d
  ·simp only at d
   split at d
   ·exact q b o y (T b o y (c.imm b o y d))
   ·exact q b o y d
  ·obtain⟨b,n,k,v,G,t,_⟩:=L i u
   exact⟨b,n,k,v,G,t⟩
  ·obtain⟨b,n,k,v,G,t,Z,N,k5,O⟩:=L i u
   exact⟨b,n,k,v,G,t,Z,N,fun j S=>(m b j t).trans (k5 j S),O⟩
end
end Go.Pv
namespace Go.Pv
open Go Go.Sort
theorem jei (x:Int):∀l:List Int,(j23 x l).Perm (x::l)
 | []=>List.Perm.refl _
 | y::r=>by
  unfold j23
  split
  ·exact List.Perm.refl _
  ·exact((jei x r).cons y).trans (List.Perm.swap x y r)
theorem Q4:∀l:List Int,(jkz l).Perm l
 | []=>List.Perm.refl _
 | x::r=>(jei x (jkz r)).trans ((Q4 r).cons x)
theorem jtx (x:Int):∀ {l:List Int},l.Pairwise (·≤·)→(j23 x l).Pairwise (·≤·)
 | [],_=>by simp[j23]
 | y::r,h=>by
  unfold j23
  rw[List.pairwise_cons]at h
  split
  ·rename_i b
   exact List.pairwise_cons.2 ⟨fun z a=>by
    rcases List.mem_cons.1 a with rfl|a
    ·exact b
    ·exact Int.le_trans b (h.1 z a),List.pairwise_cons.2 h⟩
  ·refine List.pairwise_cons.2 ⟨fun z a=>?_,jtx x h.2⟩
   rcases List.mem_cons.1 ((jei x r).mem_iff.1 a) with rfl|a
   ·omega
   ·exact h.1 z a
theorem jgx:∀l:List Int,(jkz l).Pairwise (·≤·)
 | []=>List.Pairwise.nil
 | x::r=>jtx x (jgx r)
theorem jg6:∀ {S C:List Int},S.Perm C→S.Pairwise (·≤·)→C.Pairwise (·≤·)→S=C
 | [],C,h,_,_=>(List.nil_perm.1 h).symm
 | x::r,C,h,hs,hc=>by
  cases C with
  | nil=>exact absurd h.length_eq zS
  | cons y q=>
   rw[List.pairwise_cons]at hs hc
   have e:x=y:=by
    rcases List.mem_cons.1 (h.mem_iff.1 (List.mem_cons_self ..)) with h1|h1
    ·exact h1
    ·rcases List.mem_cons.1 (h.mem_iff.2 (List.mem_cons_self (l:=q))) with h2|h2
     ·exact h2.symm
     ·have:=hs.1 y h2
      have:=hc.1 x h1
      omega
   subst e
   rw[jg6 ((List.perm_cons x).1 h) hs.2 hc.2]
theorem jnq (x:Int × Int):∀l,(jzw x l).length=l.length+1
 | []=>rfl
 | y::r=>by
  unfold jzw
  split
  ·rfl
  ·simp[jnq x r]
theorem jii:∀l,(QP l).length=l.length
 | []=>rfl
 | x::r=>by rw[QP,jnq,jii r];rfl
theorem jj2:∀l,(Yl l).length=l.length*2
 | []=>rfl
 | p::r=>by simp[Yl,jj2 r];omega
theorem jf0:∀ (n:Nat) (l:List Int),l.length=n*2→(pairsI l).length=n
 | 0,l,h=>by
  have:l=[]:=List.length_eq_zero_iff.1 zO
  subst this
  rfl
 | n+1,a::b::r,h=>by
  rw[pairsI,List.length_cons,jf0 n r (by simp at h;omega)]
 | n+1,[],h=>by simp at h
 | n+1,[a],h=>by simp at h;omega
theorem jq7 {m:Option FuncId}{n:Nat}{zs:List Int}(h:zs.length=n*jfb m):(WV m zs).length=zs.length:=by
 cases m with
 | none=>exact(Q4 zs).length_eq
 | some g=>
  have h:zs.length=n*2:=h
  show(Yl (QP (pairsI zs))).length=_
  rw[jj2,jii,jf0 n zs h,h]
theorem jky (l:List Int):l.mergeSort (fun x y=>decide (x≤y))=jkz l:=by
 refine jg6 ((List.mergeSort_perm l _).trans (Q4 l).symm) ?_ (jgx l)
 have:=List.pairwise_mergeSort (le:=fun x y:Int=>decide (x≤y)) (fun a b c d e=>by simp at *;omega) (fun a b=>by simp;omega) l
 exact this.imp fun h=>by simpa using h
section
variable {P:Program}{E:Env}{w0 w:World}{I0:IMap}{γ:Nat→Option Place}{I:IMap}{st:St}
theorem Sh.turnG (h:Sh E w0 I0 γ I st w) {l u b:Nat}{k:Kd}{body:OBody}(hl:st.ob l=some ⟨u,body⟩) (hu:γ u=some (.obj b k)) (G:Nat.ble st.ro u=true) {o':Obj}{w':World}{body':OBody}
 (s:w'.os=w.os∧w'.tape=w.tape∧w'.output=w.output) (z:w.heap.size≤w'.heap.size) (B:∀j,j<w.heap.size→j≠b→w'.heap[j]? = w.heap[j]?) (hb:w'.heap[b]? = some o')
 (p:ObjOk γ I st.ob w.heap k (some o') body') (K:∀v es,body'≠.mp v es) :
 Sh E w0 I0 γ I { st with ob:=upd st.ob l (some ⟨u,body'⟩) } w':=by
 obtain⟨Ω,o⟩:=h.own
 obtain⟨b',k',Z,D,X,_,h5⟩:=o.ob l _ hl
 rw[hu]at Z
 cases Z
 have i:Xk γ st.ob (upd st.ob l (some ⟨u,body'⟩)) w.heap w'.heap:=by
  intro H U Q a0 mb mk r d
  rw[j2]at d
  split at d
  ·simp only[Option.some.injEq,Obj'.mk.injEq]at d
   exact absurd d.2 (K _ _)
  ·rename_i f
   refine .inl ⟨d,fun m c hm=>?_⟩
   obtain⟨b2,S,y,g,_⟩:=o.ob H _ d
   rw[r]at y
   cases y
   rw[B _ (o.lt _ _ g) (fun e=>by
    subst e
    rw[D]at g
    cases g
    exact f rfl)]
   exact hm
 refine⟨fun b2 o2 x L=>?_,h.gl,⟨Ω,⟨fun H x d=>?_,fun U r=>?_,fun b2 ow M=>?_⟩⟩,?_,h.old⟩
 ·have f:b2≠b:=fun e=>by rw[e,h5]at L;cases L
  have hc:=h.imm _ _ _ L
  rw[World.cell?_of_block (w:=w) (w':=w') (a:=⟨b2,o2,none⟩) (B b2 (World.block_lt_of_cell? _ _ hc) f)]
  exact hc
 ·simp only at d
  rw[j2]at d
  split at d
  ·rename_i e
   subst e
   cases d
   refine⟨b,k,hu,D,X,?_,h5⟩
   rw[hb]
   exact p.keep i
  ·rename_i f
   obtain⟨b2,S,y,g,O,J,F⟩:=o.ob H x d
   have t:b2≠b:=fun e=>by
    subst e
    rw[D]at g
    cases g
    exact f rfl
   exact⟨b2,S,y,g,O,by rw[B _ (o.lt _ _ g) t];exact J.keep i,F⟩
 ·obtain⟨b2,n,N,sz,y,g,O,J,F⟩:=o.tk U r
  have t:b2≠b:=fun e=>by subst e;rw[D]at g;cases g
  exact⟨b2,n,N,sz,y,g,O,by rw[B _ (o.lt _ _ g) t];exact J,F⟩
 ·exact Nat.lt_of_lt_of_le (o.lt _ _ M) z
 ·exact Grow.frame h.fr (T:=fun k=>k=b) ⟨s.1,s.2.1,s.2.2,z,fun k q f=>B k q f,fun k q=>q▸X (by simpa[Nat.ble_eq] using G)⟩
theorem jx5 {l:List V}{zs:List Int}(h:l.mapM int64? = some zs):l=zs.map (.int .i64):=by
 obtain⟨c,b⟩:=ju h
 apply List.ext_getElem?
 intro j
 rcases Nat.lt_or_ge j l.length with hj|hj
 ·have a:j<zs.length:=zO
  have:=b j _ _ (List.getElem?_eq_getElem hj) (List.getElem?_eq_getElem a)
  rw[List.getElem?_map,List.getElem?_eq_getElem a,List.getElem?_eq_getElem hj]
  unfold int64? at this
  split at this
  ·rename_i n e;cases this;rw[e];rfl
  ·cases this
 ·rw[List.getElem?_eq_none hj,List.getElem?_eq_none (by simp;omega)]
theorem j0y {γ0:Nat→Option Place}{Iy:IMap}{f:FuncId}{args:List V}{ob ob':ZO}{tk b5:Nat→Bool}{ro ub b9:Nat}{r:V}{m:Option FuncId}(hl:jhz P f m) (h:jou m ob tk ro ub args=some (r,ob',b5,b9)) :
 jh0 P E γ0 Iy f args ob tk ro ub [(r,ob',b5,b9)]:=by
 intro w0 w I0 I γ B st e0 d8 H d5 c4 T c3 c0 t
 subst H d5 c4
 have c:∀ {p g},B=jgu m (.slice p 0 g)→Calls P f B w fun e w'=>∃r∈[(V.tup [],st.ob,st.tk,ub)],W3 E w0 I0 γ I st.ro r.1 r.2.1 r.2.2.1 r.2.2.2 e w':=by
  rintro p g rfl
  refine(hl.2.1 p g w).mono ?_
  rintro e w' ⟨rfl,rfl⟩
  exact⟨_,List.mem_singleton.2 rfl,_,γ,I,rfl,fun c7 J z h3=>T.congr J z h3,.tup _ _ rfl (fun j x v hx=>by simp at hx),SubG.refl _,SubI.refl _,c3⟩
 have O:∀v,jig m args=some v→∃x,B=jgu m x∧Rep γ I x v:=by
  intro v s
  unfold jig at s
  split at s
  ·cases s
   have Z:B.size=1:=c0
   obtain⟨x,rfl⟩:∃x,B = #[x]:=⟨B[0],by
    apply Array.ext
    ·simp[Z]
    ·intro i J z
     have:i=0:=by simp at z;omega
     subst this
     rfl⟩
   exact⟨x,rfl,t 0 x _ rfl rfl⟩
  ·split at s
   ·rename_i hg
    cases s
    subst hg
    have Z:B.size=2:=c0
    obtain⟨x,y,rfl⟩:∃x y,B = #[x,y]:=⟨B[0],B[1],by
     apply Array.ext
     ·simp[Z]
     ·intro i J z
      have:i=0∨i=1:=by simp at z;omega
      rcases this with rfl|rfl <;> rfl⟩
    have hy:=t 1 y _ rfl rfl
    obtain⟨d3,bs,rfl,J,z,_,_⟩:=jb7 hy
    obtain rfl:d3 = #[]:=Array.eq_empty_of_size_eq_zero J
    obtain rfl:bs = #[]:=Array.eq_empty_of_size_eq_zero z
    exact⟨x,rfl,t 0 x _ rfl rfl⟩
   ·cases s
  ·cases s
 unfold jou at h
 split at h
 ·rename_i l u off n sz ha
  obtain⟨x,rfl,K⟩:=O _ ha
  obtain⟨cs,c9,hq⟩:=bind_some h
  simp only[Option.ite_none_right_eq_some]at hq
  obtain⟨⟨hr,c6,e3,d6⟩,hq⟩:=hq
  obtain⟨d,d4,he⟩:=bind_some hq
  simp only[Option.ite_none_right_eq_some,Option.some.injEq,Prod.mk.injEq]at he
  clear h hq
  obtain⟨c2,rfl,rfl,rfl,rfl⟩:=he
  subst c6
  have H:=jY c9
  have e1:0<jfb m:=by cases m <;> exact Nat.le_of_ble_eq_true rfl
  have G:=jx5 d4
  have o:d.length=n*jfb m:=by
   have:=congrArg List.length G
   rw[List.length_take,List.length_drop,List.length_map]at this
   omega
  rcases Nat.eq_zero_or_pos n with h0|h0
  ·subst h0
   have d0:d=[]:=List.length_eq_zero_iff.1 (by rw[o,Nat.zero_mul])
   subst d0
   have b6:WV m []=[]:=by cases m <;> rfl
   have a0:upd st.ob l (some ⟨u,.cells (j5 cs off ((WV m []).map (.int .i64)))⟩)=st.ob:=by
    funext k
    rw[j2]
    split
    ·rename_i e;subst e;rw[H];simp[j5,b6]
    ·rfl
   rw[a0]
   cases K with
   | pure _ _ h=>cases h
   | osl l u off n sz g b k a hu ha hc hm=>exact c rfl
  ·cases K with
   | pure _ _ h=>cases h
   | osl l u off n sz g b k a hu ha hc hm=>
    obtain⟨rfl,e4⟩:=ha zO
    obtain⟨arr,e,hw,U,d9,N⟩:=jf4 T H hu
    have Q:b<w.heap.size:=(Array.getElem?_eq_some_iff.1 hw).1
    have b7:∀j (D:j<d.length),arr[off+j]? = some (.int .i64 d[j]):=fun j D=>by
     have J:off+j<arr.size:=zO
     have z:cs[off+j]? = some (.int .i64 d[j]):=by
      have:=congrArg (fun l=>l[j]?) G
      simp only[List.getElem?_map,List.getElem?_eq_getElem D,Option.map_some]at this
      rw[List.getElem?_take_of_lt zO,List.getElem?_drop]at this
      exact this
     have h3:=(N (off+j) _ _ (Array.getElem?_eq_getElem J) z).2
     rw[Array.getElem?_eq_getElem J]
     generalize arr[off+j]=y at h3
     cases h3 with
     | pure _ _ h=>cases h;rfl
    have hH:Holds (Value.int .i64) w b off d.toArray:=fun j D=>by
     have c1:j<d.length:=by simpa using D
     refine⟨?_,by simp[World.frozen?,hw]⟩
     simp only[World.cell?,hw]
     simp only[Option.isSome_none,Bool.false_eq_true,if_false]
     rw[b7 j c1]
     simp[c1]
    have X:=hl.2.2 b off g n d w o c2 hH Q zO
    refine X.mono ?_
    rintro e' w' ⟨rfl,q,os,rfl⟩
    have d1:(WV m d).length=d.length:=jq7 o
    refine⟨_,List.mem_singleton.2 rfl,_,γ,I,rfl,fun c7 J z h3=>?_,.tup _ _ rfl (fun j x v hx=>by simp at hx),SubG.refl _,SubI.refl _,c3⟩
    have F:∀j,j<w.heap.size→(grow (putRow (Value.int .i64) (Go.Sort.ahead w q) b off (WV m d).toArray) os).heap[j]? = if j=b then some (.cells (putCells (Value.int .i64) off (WV m d).toArray arr) e (0,0)) else w.heap[j]?:=fun j D=>by
     simp only[grow,putRow,mapBlock,Go.Sort.ahead]
     rw[Array.getElem?_append_left (by simpa using D),Array.getElem?_modify]
     by_cases S:b=j
     ·subst S
      simp[hw,onCells]
     ·have:¬ j=b:=fun e=>S e.symm
      simp[S,this]
    refine Sh.congr (st:={ st with ob:=upd st.ob l (some ⟨u,.cells (j5 cs off ((WV m d).map (.int .i64)))⟩) }) (T.turnG H hu hr (o':=.cells (putCells (Value.int .i64) off (WV m d).toArray arr) e (0,0)) ⟨rfl,rfl,rfl⟩ (by simp[Go.Sort.ahead]) (fun j D c8=>by rw[F j D,if_neg c8]) (by rw[F b Q,if_pos rfl]) ?_ (fun v es h=>by cases h)) J z h3
    have d7:(j5 cs off ((WV m d).map (.int .i64))).length=cs.length:=by
     simp[j5]
     omega
    refine⟨_,e,rfl,by simpa[putCells] using U,zO,fun j y v hy s=>?_⟩
    simp only[putCells,Array.getElem?_mapIdx]at hy
    have M:(WV m d).toArray.size=d.length:=by simpa using d1
    obtain⟨y0,d2,L⟩:=map_some hy
    by_cases b0:off≤j∧j<off+d.length
    ·rw[if_pos (by rw[M];exact b0)]at L
     have b8:j - off<(WV m d).length:=zO
     have c5:v=.int .i64 (WV m d)[j - off]:=by
      rw[j5,List.append_assoc,List.getElem?_append_right (by simp;omega),List.getElem?_append_left (by simp;omega)]at s
      simp only[List.length_take,List.getElem?_map]at s
      rw[show j - min off cs.length=j - off by omega,List.getElem?_eq_getElem b8]at s
      simpa using s.symm
     subst c5 L
     refine⟨rfl,?_⟩
     have:(WV m d).toArray[j - off]! = (WV m d)[j - off]:=by simp[b8]
     rw[this]
     exact .pure _ _ (.int _ _)
    ·rw[if_neg (by rw[M];exact b0)]at L
     subst L
     refine N j y0 v d2 ?_
     rw[← s,j5]
     rcases Nat.lt_or_ge j off with D|D
     ·rw[List.append_assoc,List.getElem?_append_left (by simp;omega),List.getElem?_take_of_lt D]
     ·rw[List.getElem?_append_right (by simp;omega),List.getElem?_drop]
      congr 1
      simp
      omega
 ·rename_i e2 nl ha
  obtain⟨x,rfl,K⟩:=O _ ha
  cases h
  cases K with
  | pure _ _ h=>cases h <;> exact c rfl
  | tsl u b n g sz cs B hu o hc hm hi hl hr=>exact c rfl
 ·cases h
end
end Go.Pv
namespace Go.Pv
open Go
theorem jbs {n m:Nat}(h:n≤m):∀c:C,c.dstOk n=true→c.dstOk m=true:=by
 have one:∀e:List AOpr,(e.all fun o=>match o.dst with|some d=>Nat.blt d n|none=>true)=true→(e.all fun o=>match o.dst with|some d=>Nat.blt d m|none=>true)=true:=by
  intro e w
  refine List.all_eq_true.2 fun o u=>?_
  have:=List.all_eq_true.1 w o u
  split
  ·rename_i d r
   simp only[r,Nat.blt_eq]at this
   simp only[Nat.blt_eq]
   omega
  ·rfl
 intro c
 induction c with
 | region e=>exact one e
 | draw e f=>exact one e
 | pin o fs=>exact one (o::fs)
 | seq a b g j=>simp only[C.dstOk,Bool.and_eq_true];exact fun⟨k,l⟩=>⟨g k,j l⟩
 | cond q a b g j=>simp only[C.dstOk,Bool.and_eq_true];exact fun⟨k,l⟩=>⟨g k,j l⟩
 | block i a s=>exact s
 | loop a s=>exact s
 | rangeFunc f x a b g j=>
  simp only[C.dstOk,Bool.and_eq_true]
  rintro⟨⟨k,l⟩,t⟩
  refine⟨⟨List.all_eq_true.2 fun p v=>?_,g l⟩,j t⟩
  have:=List.all_eq_true.1 k p v
  simp only[Nat.blt_eq]at this ⊢
  omega
 | _=>exact fun _=>rfl
section
variable {P:Program}{E:Env}
theorem jly {γ:Nat→Option Place}{I:IMap}{xs:Array Value}{args:List V}{k:Nat}(e:xs.size=args.length) (h:∀ (j:Nat) (x:Value) (v:V),xs[j]? = some x→args[j]? = some v→Rep γ I x v) (t:Nat) :
 Rep γ I ((xs++Array.replicate k undef).getD t undef) (args.getD t jq):=by
 by_cases c:t<xs.size
 ·have a:(xs++Array.replicate k undef).getD t undef=xs[t]:=by
   simp[c,Array.getElem?_append_left]
  have b:args.getD t jq=args[t]' zO:=by
   have:t<args.length:=zO
   simp[this]
  rw[a,b]
  exact h t _ _ (Array.getElem?_eq_getElem c) (List.getElem?_eq_getElem zO)
 ·have a:(xs++Array.replicate k undef).getD t undef=undef:=by
   simp only[Array.getD_eq_getD_getElem?]
   rw[Array.getElem?_append_right zO]
   by_cases d:t - xs.size<k <;> simp[d]
  have b:args.getD t jq=jq:=by
   have:args.length≤t:=zO
   simp[this]
  rw[a,b]
  exact jiu
theorem jjq {w0:World}{I0 I:IMap}{γ:Nat→Option Place}{r:Func}{tmps:Array Value}{o:Ending→World→Prop}{st:St}:∀ (df:List (Nat × Nat)) (j:List Deferred) (ob:ZO) (w:World),
 Sh E w0 I0 γ I { st with ob:=ob } w→DfOk γ df j→(∀x∈df,ob x.1=some ⟨x.2,.dfr⟩∧Nat.ble st.ro x.2=true)→(df.map (·.1)).Nodup →
 (∀l,Sh E w0 I0 γ I { st with ob:=fun k=>if df.any (fun x=>Nat.beq x.1 k) then none else ob k } l→LeavesIn (FW none) 0 P r tmps o [] .returning l)→LeavesInM (FW none) 0 P r tmps o j .returning w
 | [],[],ob,w,hSh,_,_,_,hK=>hK w (hSh.congr (funext fun k=>by simp) rfl rfl)
 | x::df,d::j,ob,w,hSh,hdf,hob,hnd,hK=>by
  obtain⟨⟨b,k,rfl,t⟩,i⟩:=hdf
  obtain⟨s,z⟩:=hob x (List.mem_cons_self ..)
  have g:w.heap[b]? = some (.deferred (some [])):=jf4 hSh s t
  have n:=run_takeDeferred (P:=P) g
  simp only[List.map_cons,List.nodup_cons]at hnd
  have f:=hSh.turn (ob':=fun k=>if Nat.beq x.1 k then none else ob k) (o':=.deferred none) s t z (fun B y c=>by
   split at c
   ·cases c
   ·rename_i a;exact .inl ⟨fun e=>a (by rw[e];exact Nat.beq_refl _),c⟩)
  refine⟨(fun h=>by cases h),.inl ⟨b,_,rfl,n,?_⟩⟩
  refine jjq df j (fun k=>if Nat.beq x.1 k then none else ob k) _ (f.congr rfl rfl rfl) i (fun y c=>?_) hnd.2 (fun l h=>?_)
  ·obtain⟨v,u⟩:=hob y (List.mem_cons_of_mem _ c)
   refine⟨?_,u⟩
   have a:¬ Nat.beq x.1 y.1=true:=fun e=>hnd.1 (by rw[Nat.eq_of_beq_eq_true e];exact List.mem_map.2 ⟨y,c,rfl⟩)
   simp only[a,Bool.false_eq_true,if_false]
   exact v
  ·refine hK l (h.congr (funext fun k=>?_) rfl rfl)
   simp only[List.any_cons,Bool.or_eq_true]
   have m:∀p q:Bool,(if p=true∨q=true then none else ob k)=if q=true then none else if p=true then none else ob k:=by
    intro p q
    cases p <;> cases q <;> rfl
   exact m _ _
 | [],_::_,_,_,_,h,_,_,_=>h.elim
 | _::_,[],_,_,_,h,_,_,_=>h.elim
theorem jxa {w0 w:World}{I0 I:IMap}{γ:Nat→Option Place}{j:Nat}{g:Func}{st:St}{a:Act}{i:Ending→World→Prop}(d:R E w0 I0 j γ I st a w) (f:jz7 st=true)
 (m:∀b,R E w0 I0 j γ I st.noDf { tmps:=a.tmps,defers:=[] } b→∃v,(results g a.tmps).run P b=.ok v b∧i (.returned v) b):LeavesInM (FW none) 0 P g a.tmps i a.defers .returning w:=by
 unfold jz7 at f
 simp only[Bool.and_eq_true]at f
 refine jjq (st:=st) st.df a.defers st.ob w (d.sh.congr rfl rfl rfl) d.df (fun x l=>?_) (QD f.2) (fun b h=>?_)
 ·have:=List.all_eq_true.1 f.1 x l
  split at this
  ·rename_i u n
   simp only[Bool.and_eq_true]at this
   have e:=Nat.eq_of_beq_eq_true this.1
   subst e
   exact⟨n,this.2⟩
  ·cases this
 ·have c:st.noDf.tm=st.tm∧st.noDf.tk=st.tk∧st.noDf.ro=st.ro∧st.noDf.df=[]∧st.noDf.ob=fun k=>if st.df.any (fun x=>Nat.beq x.1 k) then none else st.ob k:=by
   unfold St.noDf
   split
   ·rename_i e;exact⟨rfl,rfl,rfl,e,by rw[e];funext k;simp⟩
   ·exact⟨rfl,rfl,rfl,rfl,rfl⟩
  exact m b ⟨d.sz,by rw[c.2.2.2.1];trivial,by rw[c.1];exact d.tm,h.congr c.2.2.2.2 c.2.1 c.2.2.1⟩
theorem jcf {b:Func}{c:Ending→World→Prop}{e:Ex}{a:Act}{w:World}(h:e=.nrm∨e=.ret) (d:LeavesInM (FW none) 0 P b a.tmps c a.defers .returning w):bodyPostM (FW none) 0 P b c (exOf e) a w:=by
 rcases h with rfl|rfl <;> exact d
theorem jw7 {b c:Type}{f:b→Option c}{l:List b}{L:List c}(h:l.mapM f=some L) {z:b}(d:z∈l):∃r∈L,f z=some r:=by
 obtain⟨j,e⟩:=ju h
 obtain⟨i,g,rfl⟩:=List.getElem_of_mem d
 have a:i<L.length:=zO
 exact⟨L[i],List.getElem_mem a,e i _ _ (List.getElem?_eq_getElem g) (List.getElem?_eq_getElem a)⟩
theorem jgn (hm:P.follows .mixedOrders=true) (hE:EnvOk P E):∀n,jkm P E (callers E n)
 | 0=>fun γ0 Iy y hy=>⟨fun f g r h=>(by cases h),fun f g ob tk b u r h=>(by cases h),fun f g ob tk ro O ub l h=>(by cases h),hy,hE.nw⟩
 | n+1=>by
  have ih:=jgn hm hE n
  intro γ0 Iy y hy
  -- the results of a function that shares nothing,and of one that only looks
  have b5:∀ {D:Func}{N:AF}{r:V}{w0 w:World}{I0 I:IMap}{γ:Nat→Option Place}{nt:Nat}{st:St}{a:Act}{e:Ex}{Rp:Ending→World→Prop},D.results.toList.mapM (YP P)=some N.res→R E w0 I0 nt γ I st a w→ja7 N.res (e,st)=some r →
   (∀x τ I' w',w0.grownBy w' none→(∀b o x,I b o=some x→I' b o=some x)→jkl I' w'→(∀b o,b<w0.heap.size→I' b o=I0 b o)→jux τ I' x r→jkj w0.heap.size τ I' w' r→Rp (.returned x) w') →
   bodyPostM (FW none) 0 P D Rp (exOf e) a w:=by
   intro D N r w0 w I0 I γ nt st a e Rp B hR he hK
   have X:e=.nrm∨e=.ret:=by cases e <;> first|exact .inl rfl|exact .inr rfl|cases he
   have b8:(if jz7 st then (N.res.mapM (jp st.noDf)).bind (Yv st.noDf) else none)=some r:=by rcases X with rfl|rfl <;> exact he
   simp only[Option.ite_none_right_eq_some]at b8
   obtain⟨hd,b8⟩:=b8
   refine jcf X (jxa hR hd fun w' i=>?_)
   obtain⟨vs,c2,c7⟩:=bind_some b8
   obtain⟨ys,k1,k2,k3⟩:=jfu i B c2
   obtain⟨τ,I2,q1,q2,q3,q4,q5⟩:=j51 i k1 k3 c7
   exact⟨_,k2,hK _ τ I2 _ i.fr q1 q2 (fun b o hb=>(q3 b o hb).trans (i.old b o hb)) q4 q5⟩
  refine⟨fun f g r h=>?_,fun f g ob tk O ub r h=>?_,fun f g ob tk ro O ub L h=>?_,hy,hE.nw⟩
  ·simp only[callers]at h
   obtain⟨N,a0,h⟩:=bind_some h
   obtain⟨m,D,c,H,hb,p,B,q,K⟩:=hE.fc f N a0
   refine⟨⟨D,c,H,hb,q⟩,fun w I G c5 d7 U J=>?_⟩
   obtain⟨l,hx,b0⟩:=ji9 h
   refine jex (callsIn_of_wp_marks (F:=FW none) (n:=0) H hb trivial ?_)
   have S:D.ntmps≤(G++Array.replicate (D.ntmps - G.size) undef).size:=by simp;omega
   have hR:R E w I (G++Array.replicate (D.ntmps - G.size) undef).size (fun _=>none) I (QO g) { tmps:=G++Array.replicate (D.ntmps - G.size) undef,defers:=[] } w :=
    ⟨rfl,trivial,fun t=>jly U (fun j x v hx hv=>.pure _ _ (J j x v hx hv)) t,⟨c5,d7,⟨fun _=>none,⟨fun l o h=>(by cases h),fun u h=>(by cases h),fun b o h=>(by cases h)⟩⟩,⟨rfl,rfl,rfl,zR,fun _ _ _=>rfl⟩,fun _ _ _=>rfl⟩⟩
   refine jl6 hm ih n (y:=noY) (γ0:=fun _=>none) (Iy:=I) jji c N.body m false none (.inr rfl) p (jbs S _ K) w I _ _ l _ _ _ _ (SubG.refl _) (SubI.refl _) hx hR (fun _ _=>rfl) (fun y hy=>?_)
   obtain⟨e,s⟩:=y
   intro c3 I' a' w' i c1 hg hI
   refine b5 B i (b0 _ hy) (fun x τ I2 w2 Q h3 h4 h5 h6 h7=>?_)
   exact⟨x,τ,I2,rfl,Q,fun b o x h=>h3 b o x (hI b o x h),h4,h5,h6,h7⟩
  ·simp only[callers]at h
   by_cases c9:E.fz f
   ·simp only[c9,if_true]at h
    obtain⟨M,ha,h⟩:=bind_some h
    obtain⟨r',T,Q⟩:=bind_some h
    simp only[Option.ite_none_right_eq_some,Option.some.injEq]at Q
    obtain⟨Q,rfl⟩:=Q
    have hd:=(ih γ0 Iy noY jji).d f M r' T
    exact⟨hd.1,frz_ok hd.2 ha Q⟩
   simp only[c9,Bool.false_eq_true,if_false]at h
   obtain⟨N,a0,h⟩:=bind_some h
   obtain⟨m,D,c,H,hb,p,B,q,K⟩:=hE.fs f N a0
   refine⟨⟨D,c,H,hb,q⟩,fun w0 w I0 I γ G st b9 Z b6 U J=>?_⟩
   obtain⟨l,hx,b0⟩:=ji9 h
   refine jex (callsIn_of_wp_marks (F:=FW none) (n:=0) H hb trivial ?_)
   have S:D.ntmps≤(G++Array.replicate (D.ntmps - G.size) undef).size:=by simp;omega
   have hR:R E w I (G++Array.replicate (D.ntmps - G.size) undef).size γ I (Jm g ob (fun _=>false) ub O ub) { tmps:=G++Array.replicate (D.ntmps - G.size) undef,defers:=[] } w:=by
    obtain⟨Ω,ho⟩:=Z.own
    refine⟨rfl,trivial,fun t=>jly U J t,⟨Z.imm,Z.gl,⟨Ω,⟨fun l o hl=>?_,fun u h=>(by cases h),ho.lt⟩⟩,⟨rfl,rfl,rfl,zR,fun _ _ _=>rfl⟩,fun _ _ _=>rfl⟩⟩
    have d8:st.ob l=some o:=b9 l o hl
    obtain⟨b,k,T,Q,h3,h4,h5⟩:=ho.ob l o d8
    refine⟨b,k,T,Q,fun c0=>?_,h4.keep (fun l2 u2 e2 e4 mb mk _ e0=>.inl ⟨b9 _ _ e0,fun m c hm=>hm⟩),h5⟩
    rw[b6 _ c0]at T
    cases T
   refine jl6 hm ih n (y:=noY) (γ0:=γ) (Iy:=I) jji c N.body m true none (.inr rfl) p (jbs S _ K) w I _ _ l _ _ _ _ (SubG.refl _) (SubI.refl _) hx hR b6 (fun y hy=>?_)
   obtain⟨e,s⟩:=y
   intro c3 I' a' w' i c1 hg hI
   refine b5 B i (b0 _ hy) (fun x τ I2 w2 Q h3 h4 h5 h6 h7=>?_)
   exact⟨x,τ,I2,rfl,Q,fun b o x h=>h3 b o x (hI b o x h),h4,h5,h6,h7⟩
  ·simp only[callers]at h
   by_cases c6:E.tw f
   ·simp only[c6,if_true]at h
    obtain⟨M,ha,h⟩:=bind_some h
    obtain⟨r',T,Q⟩:=bind_some h
    have hd:=(ih γ0 Iy noY jji).d f M r' T
    obtain⟨⟨_,_,_,_⟩,h3,rfl⟩:=map_some Q
    exact⟨hd.1,j0u hd.2 ha h3⟩
   simp only[c6,Bool.false_eq_true,if_false]at h
   cases b7:E.srt f with
   | some m=>
    simp only[b7]at h
    obtain⟨⟨_,_,_,_⟩,h3,rfl⟩:=map_some h
    exact⟨(hE.srt f m b7).1,j0y (hE.srt f m b7) h3⟩
   | none=>
   simp only[b7]at h
   obtain⟨N,a0,h⟩:=bind_some h
   obtain⟨m,D,c,H,hb,p,B,q,K⟩:=hE.fs f N a0
   refine⟨⟨D,c,H,hb,q⟩,fun w0 w I0 I γ G st d6 d0 b9 e1 c0 Z b6 U J=>?_⟩
   obtain⟨l0,hx,h⟩:=bind_some h
   have h:l0.mapM (endS N.res)=some L:=by
    split at h
    ·exact h
    ·split at h
     ·obtain⟨r,T,rfl⟩:=map_some h
      simp only[List.mapM_cons,T,List.mapM_nil]
      rfl
     ·cases h
   refine jex (callsIn_of_wp_marks (F:=FW none) (n:=0) H hb trivial ?_)
   have S:D.ntmps≤(G++Array.replicate (D.ntmps - G.size) undef).size:=by simp;omega
   have hR:R E w0 I0 (G++Array.replicate (D.ntmps - G.size) undef).size γ I (Jm g ob tk ro O ub) { tmps:=G++Array.replicate (D.ntmps - G.size) undef,defers:=[] } w :=
    ⟨rfl,trivial,fun t=>jly U J t,Z.congr b9.symm e1.symm c0.symm⟩
   refine jl6 hm ih n (y:=y) hy c N.body m true none (.inr rfl) p (jbs S _ K) w0 I0 _ _ l0 _ _ _ _ d6 d0 hx hR b6 (fun z hz=>?_)
   have c8:=jht _ hx _ hz
   obtain⟨⟨r,d5,d1,d3⟩,d9,h⟩:=jw7 h hz
   obtain⟨e,s⟩:=z
   intro c3 I' a' w' i c1 hg hI
   have X:e=.nrm∨e=.ret:=by cases e <;> first|exact .inl rfl|exact .inr rfl|cases h
   have h':(if s.df.isEmpty then (N.res.mapM (jp s)).map fun l=>(match l with | [v]=>v|l=>.tup l,s.ob,s.tk,s.nx) else none)=some (r,d5,d1,d3):=by rcases X with rfl|rfl <;> exact h
   simp only[Option.ite_none_right_eq_some]at h'
   obtain⟨c4,h'⟩:=h'
   have c4:s.df=[]:=List.isEmpty_iff.1 c4
   have d4:a'.defers=[]:=by
    have:=i.df
    simp only[c4]at this
    cases d2:a'.defers with
    | nil=>rfl
    | cons d ds=>rw[d2]at this;exact this.elim
   refine jcf X ?_
   rw[d4]
   obtain⟨vs,c2,he⟩:=map_some h'
   obtain⟨ys,k1,k2,k3⟩:=jfu i B c2
   simp only[Prod.mk.injEq]at he
   obtain⟨he,rfl,rfl,rfl⟩:=he
   refine⟨_,k2,_,d9,_,c3,I',rfl,fun e3 T Q h3=>i.sh.congr T Q (h3.trans c8.symm),?_,hg,hI,c1⟩
   match ys,vs,k1,k3,he with
   | [],[],_,_,rfl=>exact .tup _ _ rfl (fun j y u hy=>by simp at hy)
   | [y],[v],_,k3,rfl=>exact k3 0 y v rfl rfl
   | y::y'::ys,v::v'::vs,e,k3,rfl=>exact .tup _ _ (by simpa using e) (fun j z u hz hu=>k3 j z u (by simpa using hz) hu)
theorem Ev.sound (a:P.follows .mixedOrders=true) (b:EnvOk P E) {f:FuncId}{args:List V}{r:V}(h:Ev E f args r):jkk P E f args r:=by
 obtain⟨n,h⟩:=h
 exact((jgn a b n (fun _=>none) (fun _ _=>none) noY jji).d f args r h).2
end
def EvO (E:Env) (f:FuncId) (args:List V) (ob:ZO) (tk:Nat→Bool) (base ub:Nat) (r:V):Prop:=∃n,(callers E n noY).o f args ob tk base ub=some r
def EvS (E:Env) (y:Nat→Y) (f:FuncId) (args:List V) (ob:ZO) (tk:Nat→Bool) (ro base ub:Nat) (r:V × (ZO) × (Nat→Bool) × Nat):Prop:=∃n,(callers E n (y n)).s f args ob tk ro base ub=some [r]
def EvSL (E:Env) (y:Nat→Y) (f:FuncId) (args:List V) (ob:ZO) (tk:Nat→Bool) (ro base ub:Nat) (Q:V × (ZO) × (Nat→Bool) × Nat→Prop):Prop:=∃n l,(callers E n (y n)).s f args ob tk ro base ub=some l∧l≠[]∧∀r∈l,Q r
theorem EvS.list {E:Env}{y:Nat→Y}{f:FuncId}{args:List V}{ob:ZO}{tk:Nat→Bool}{ro base ub:Nat}{Q:V × (ZO) × (Nat→Bool) × Nat→Prop}(h:∃r,EvS E y f args ob tk ro base ub r∧Q r):EvSL E y f args ob tk ro base ub Q:=by
 obtain⟨r,⟨n,b⟩,c⟩:=h
 exact⟨n,[r],b,zS,fun x a=>by rw[List.mem_singleton]at a;exact a▸c⟩
structure YF where
 y:Nat→Y
 mono:∀ {n m:Nat},n≤m→YLe (y n) (y m)
def Xx:YF:=⟨fun _=>noY,fun _=>YLe.refl _⟩
def EvY (Yf:YF) (l u:Nat) (xs:List V) (ob:ZO) (tk:Nat→Bool) (ro ub:Nat) (r:V × (ZO) × (Nat→Bool) × Nat):Prop:=∃n,Yf.y n l u xs ob tk ro ub=some r
def WY (E:Env) (Yf:YF) (c:C) (st:St) (Q:Ex→St→Prop):Prop:=∃n l,jX E (callers E n) (Yf.y n) n c st=some l∧l≠[]∧∀x∈l,Q x.1 x.2
def QT (E:Env) (f:FuncId) (xs:List V) (st:St) (dst:Option Nat) (ub:Nat) (K:St→Nat→Prop):Prop :=
 xs.all V.pureTop=true∧∃v,Ev E f xs v∧∃δ,Xg ub v=some δ∧K (st.app dst δ) (ub+64)
def j6 (E:Env) (Yf:YF) (o:AOpr) (st:St) (ub:Nat) (K:St→Nat→Prop):Prop :=
 match wanted o st.tm with
 | none=>False
 | some false=>K { st with tm:=put st.tm o.dst jq } ub
 | some true=>match jf (eval E st.tm) o.op with
  | some (l,u,xs)=>∃r,EvY Yf l u xs st.ob st.tk st.ro ub r∧K { st with tm:=put st.tm o.dst r.1,ob:=r.2.1,tk:=r.2.2.1 } r.2.2.2
  | none=>match jB E o.nm (eval E st.tm) o.op with
   | some (f,xs)=>(E.sh o.nm f=true∧EvSL E Yf.y f xs st.ob st.tk st.ro ((st.fb+o.dst.getD 0+1)*1024) ub fun r=>K { st with tm:=put st.tm o.dst r.1,ob:=r.2.1,tk:=r.2.2.1 } r.2.2.2) ∨
    (E.sh o.nm f=false∧∃v,EvO E f xs st.ob st.tk ((st.fb+o.dst.getD 0+1)*1024) ub v∧∃δ,Xg ub v=some δ∧K (st.app o.dst δ) (ub+64))
   | none=>match o.op with
    | .call f xs=>QT E f (xs.map fun x=>(eval E st.tm x).strip) st o.dst ub K
    | .callV q xs=>∃f first captured,eval E st.tm q=.fn (.func f) first captured∧QT E f ((first++xs.map (eval E st.tm)++captured).map V.strip) st o.dst ub K
    | .nextMap x=>∃l,jlj st.ob st.ro (eval E st.tm x)=some l∧∀δ∈l,K (st.app o.dst δ) (ub+64)
    | op=>∃δ,aop (fun _ _=>none) (eval E st.tm) st.ob st.tk st.ro (o.name st.fb ub) ub op=some δ∧K (st.app o.dst δ) (ub+64)
def WQ (E:Env) (Yf:YF):List AOpr→St→Nat→(St→Prop)→Prop
 | [],st,ub,K=>K { st with nx:=ub }
 | o::r,st,ub,K=>j6 E Yf o st ub fun st ub=>WQ E Yf r st ub K
def jE (E:Env):List AOpr→St→Nat→(List FP→St→Prop)→Prop
 | [],st,ub,K=>K [] { st with nx:=ub }
 | o::r,st,ub,K=>
  match wanted o st.tm with
  | none=>False
  | some false=>jE E r (st.app o.dst { v:=jq }) (ub+64) fun fs s=>K ({}::fs) s
  | some true=>match jB E o.nm (eval E st.tm) o.op with
   | some (f,xs)=>(E.sh o.nm f=false∧∃v,EvO E f xs st.ob st.tk ((st.fb+o.dst.getD 0+1)*1024) (ub+64*(r.length+1)) v∧∃δ,Xg ub v=some δ ∧
    jE E r (st.app o.dst δ) (ub+64) fun fs s=>K ({ wt:=δ.wt,all:=true,seen:=fun l=>(st.ob l).isSome }::fs) s) ∨
    (E.sh o.nm f=true∧E.tw f=true∧∃a' v,xs.mapM (Yz st.ob)=some a'∧Ev E f a' v∧∃δ,QN (o.name st.fb ub) ub v=some δ ∧
    jE E r (st.app o.dst δ) (ub+64) fun fs s=>K ({ wo:=δ.wo,all:=true,seen:=fun l=>(st.ob l).isSome,nw:=true }::fs) s) ∨
    (E.sh o.nm f=true∧E.tw f=false∧∃δ,mkD E f xs (o.name st.fb ub) ub=some δ∧jE E r (st.app o.dst δ) (ub+64) fun fs s=>K ({ wo:=δ.wo,nw:=true }::fs) s)
   | none=>o.op.far=false∧match o.op with
    | .call f xs=>(xs.all fun x=>(eval E st.tm x).strip.pureTop)=true∧∃v,Ev E f (xs.map fun x=>(eval E st.tm x).strip) v∧∃δ,Xg ub v=some δ∧jE E r (st.app o.dst δ) (ub+64) fun fs s=>K (jb9 (eval E st.tm) o.op δ::fs) s
    | .callV q xs=>∃f first captured,eval E st.tm q=.fn (.func f) first captured∧((first++xs.map (eval E st.tm)++captured).map V.strip).all V.pureTop=true∧∃v,Ev E f ((first++xs.map (eval E st.tm)++captured).map V.strip) v∧∃δ,Xg ub v=some δ ∧
     jE E r (st.app o.dst δ) (ub+64) fun fs s=>K (jb9 (eval E st.tm) o.op δ::fs) s
    | op=>∃δ,aop (fun _ _=>none) (eval E st.tm) st.ob st.tk st.ro (o.name st.fb ub) ub op=some δ∧jE E r (st.app o.dst δ) (ub+64) fun fs s=>K (jb9 (eval E st.tm) o.op δ::fs) s
def YC (W:St→(Ex→St→Prop)→Prop):Nat→St→(Ex→St→Prop)→Prop
 | 0,_,_=>False
 | n+1,st,Q=>W st fun e s=>match e with
  | .nrm=>YC W n s Q
  | e=>Q e s
def wpC (E:Env) (Yf:YF):C→St→(Ex→St→Prop)→Prop
 | .skip,st,Q=>Q .nrm st
 | .region ops,st,Q=>WQ E Yf ops st st.nx fun s=>Q .nrm s
 | .draw ops free,st,Q=>jE E ops st st.nx fun fs s=>XA free fs=true∧Qk fs=true∧Q .nrm s
 | .pin o fs,st,Q=>j6 E Yf o st st.nx fun s ub=>jE E fs s ub fun _ s'=>jcl fs st s'=true∧Q .nrm s'
 | .seq a b,st,Q=>wpC E Yf a st fun e s=>match e with
  | .nrm=>wpC E Yf b s Q
  | e=>Q e s
 | .cond c a b,st,Q=>∃t,eval E st.tm c=.bool t∧(t=true→wpC E Yf a st Q)∧(t=false→wpC E Yf b st Q)
 | .block id a,st,Q=>wpC E Yf a st fun e s=>match e with
  | .exit i=>if i=id then Q .nrm s else Q (.exit i) s
  | e=>Q e s
 | .loop a,st,Q=>∃N,YC (wpC E Yf a) N st Q
 | .exit id,st,Q=>Q (.exit id) st
 | .ret,st,Q=>Q .ret st
 | .rangeFunc f ps asg bd,st,Q=>WY E Yf (.rangeFunc f ps asg bd) st Q
 | .stuck,_,_=>False
theorem ja0 (E:Env) (n:Nat) (y:Y):(callers E n y).d=(callers E n noY).d:=by cases n <;> rfl
theorem jka (E:Env) (n:Nat) (y:Y):(callers E n y).o=(callers E n noY).o:=by cases n <;> rfl
theorem jum (E:Env) (n:Nat) (y:Y):(callers E n y).y=y:=by cases n <;> rfl
section
variable {E:Env}{Yf:YF}
theorem jfc {a:Type}{p:a→Prop}{l m:List a}(b:∀x∈l,p x) (d:∀x∈m,p x):∀x∈l++m,p x:=fun x c=>(List.mem_append.1 c).elim (b x) (d x)
theorem Wy {o k:Type}{f:Nat→o→Option (List k)}(b:∀n m,n≤m→∀a,le (f n a) (f m a)) {Q:k→Prop}:∀ (l:List o),l≠[]→(∀a∈l,∃n r,f n a=some r∧r≠[]∧∀x∈r,Q x) →
 ∃n r,(∀m,n≤m→Qc (f m) l=some r)∧r≠[]∧∀x∈r,Q x
 | [],h,_=>absurd rfl h
 | [x],_,h=>by
  obtain⟨n,r,d,g,c⟩:=h x (List.mem_singleton.2 rfl)
  exact⟨n,r,fun m j=>b n m j x r d,g,c⟩
 | x::y::l,_,h=>by
  obtain⟨n,r,d,g,c⟩:=h x (List.mem_cons_self ..)
  obtain⟨q,t,e,s,i⟩:=Wy b (y::l) zS (fun a p=>h a (List.mem_cons_of_mem _ p))
  refine⟨max n q,r++t,fun m j=>?_,by simp[g],jfc c i⟩
  simp only[Qc]
  rw[b n m zO x r d,e m zO]
  rfl
abbrev cs (E:Env) (n:Nat):Y→Callers:=callers E n
theorem X5 (n m:Nat) (h:n≤m):FLe (cs E n) (cs E m):=JY n m h
theorem jq5 {o:AOpr}{st:St}{ub:Nat}{K:St→Nat→Prop}(h:j6 E Yf o st ub K):∃n l,jbx E (cs E n (Yf.y n)) o st ub=some l∧l≠[]∧∀x∈l,K x.1 x.2:=by
 have one:∀ {s:St}{u:Nat},K s u→∀x∈[(s,u)],K x.1 x.2:=fun h x F=>by rw[List.mem_singleton]at F;subst F;exact h
 unfold j6 at h
 unfold jbx
 cases H:wanted o st.tm with
 | none=>simp only[H]at h
 | some b=>
  cases b with
  | false=>
   simp only[H]at h
   exact⟨0,_,rfl,List.cons_ne_nil _ _,one h⟩
  | true=>
   simp only[H]at h
   cases B:jf (eval E st.tm) o.op with
   | some x=>
    obtain⟨l,u,p⟩:=x
    simp only[B]at h
    obtain⟨r,⟨n,N⟩,g⟩:=h
    exact⟨n,[({ st with tm:=put st.tm o.dst r.1,ob:=r.2.1,tk:=r.2.2.1 },r.2.2.2)],by simp only[cs,jum,N,Option.map_some],List.cons_ne_nil _ _,one g⟩
   | none=>
   simp only[B]at h ⊢
   cases w:jB E o.nm (eval E st.tm) o.op with
   | some O=>
    obtain⟨f,p⟩:=O
    simp only[w]at h
    rcases h with⟨D,n,l,N,m,g⟩|⟨D,v,⟨n,G⟩,c,i,g⟩
    ·refine⟨n,l.map fun x=>({ st with tm:=put st.tm o.dst x.1,ob:=x.2.1,tk:=x.2.2.1 },x.2.2.2),?_,by simpa using m,fun x F=>?_⟩
     ·simp only[D,if_true,cs,N,Option.map_some]
     ·obtain⟨r,M,rfl⟩:=List.mem_map.1 F
      exact g r M
    ·refine⟨n,[(st.app o.dst c,ub+64)],?_,List.cons_ne_nil _ _,one g⟩
     simp only[D,Bool.false_eq_true,if_false,cs,jka,G,Option.bind_some,i,Option.map_some]
   | none=>
    simp only[w]at h
    have j:∀ {f:FuncId}{p:List V},QT E f p st o.dst ub K→∃n c,jbu (cs E n (Yf.y n)).d ub f p=some c∧K (st.app o.dst c) (ub+64):=by
     rintro f p ⟨S,v,⟨n,G⟩,c,i,g⟩
     exact⟨n,c,by simp only[jbu,S,if_true,cs,ja0,G,Option.bind_some,i],g⟩
    split at h
    ·rename_i f p k
     obtain⟨n,c,J,g⟩:=j h
     refine⟨n,[(st.app o.dst c,ub+64)],?_,List.cons_ne_nil _ _,one g⟩
     simp only[k,AOp.next?,aop,J,Option.map_some]
    ·rename_i q p k
     obtain⟨f,first,t,I,h⟩:=h
     obtain⟨n,c,J,g⟩:=j h
     refine⟨n,[(st.app o.dst c,ub+64)],?_,List.cons_ne_nil _ _,one g⟩
     simp only[k,AOp.next?,aop,I,J,Option.map_some]
    ·rename_i x k
     obtain⟨l,a,g⟩:=h
     refine⟨0,l.map fun c=>(st.app o.dst c,ub+64),?_,?_,fun y B=>?_⟩
     ·simp only[k,AOp.next?,a,Option.map_some]
     ·intro e
      have L:l=[]:=List.map_eq_nil_iff.1 e
      subst L
      unfold jlj at a
      split at a
      ·split at a
       ·split at a
        ·split at a
         ·cases a
         ·rename_i X m
          simp only[Option.some.injEq]at a
          unfold ji3 at a
          split at a
          ·exact m rfl
          ·cases a
        ·cases a
       ·split at a
        ·cases a
        ·cases a
       ·cases a
      ·cases a
     ·obtain⟨c,i,rfl⟩:=List.mem_map.1 B
      exact g c i
    ·rename_i U D T Q
     obtain⟨c,i,g⟩:=h
     refine⟨0,[(st.app o.dst c,ub+64)],?_,List.cons_ne_nil _ _,one g⟩
     have P:o.op.next? = none:=by
      cases k:o.op with
      | nextMap x=>exact absurd k (Q x)
      | _=>rfl
     have z:aop (cs E 0 (Yf.y 0)).d (eval E st.tm) st.ob st.tk st.ro (o.name st.fb ub) ub o.op=some c:=ja6 (fun _ _ _ h=>by cases h) _ _ _ _ _ _ _ _ i
     simp only[P,z,Option.map_some]
theorem jzk:∀ {ops:List AOpr}{st:St}{ub:Nat}{K:St→Prop},WQ E Yf ops st ub K→∃n l,jg9 E (cs E n (Yf.y n)) ops st ub=some l∧l≠[]∧∀x∈l,K x
 | [],st,ub,K,h=>⟨0,_,rfl,List.cons_ne_nil _ _,fun x a=>by rw[List.mem_singleton]at a;subst a;exact h⟩
 | o::r,st,ub,K,h=>by
  obtain⟨n,l,j,k,i⟩:=jq5 h
  obtain⟨g,p,b,d,c⟩:=Wy (f:=fun n (x:St × Nat)=>jg9 E (cs E n (Yf.y n)) r x.1 x.2) (fun n m e x=>jd5 (X5 n m e _ _ (Yf.mono e)) r x.1 x.2) l k (fun x a=>jzk (i x a))
  refine⟨max n g,p,?_,d,c⟩
  simp only[jg9,bindL]
  rw[jaa (X5 n (max n g) zO _ _ (Yf.mono zO)) o st ub l j]
  exact b _ zO
theorem Qr:∀ {ops:List AOpr}{st:St}{ub:Nat}{K:List FP→St→Prop},jE E ops st ub K→∃n p,Y1 E (cs E n (Yf.y n)) ops st ub=some p∧K p.1 p.2
 | [],st,ub,K,h=>⟨0,_,rfl,h⟩
 | o::r,st,ub,K,h=>by
  unfold jE at h
  unfold Y1
  cases F:wanted o st.tm with
  | none=>simp only[F]at h
  | some b=>
   cases b with
   | false=>
    simp only[F]at h
    obtain⟨n,p,e,g⟩:=Qr h
    exact⟨n,({}::p.1,p.2),by simp only[e,Option.map_some],g⟩
   | true=>
    simp only[F]at h
    simp only
    cases z:jB E o.nm (eval E st.tm) o.op with
    | some L=>
     obtain⟨f,B⟩:=L
     simp only[z]at h
     rcases h with h|⟨w,k,M,v,D,⟨n,i⟩,δ,a,h⟩|⟨w,k,δ,a,h⟩
     case inr.inr=>
      obtain⟨c,p,e,g⟩:=Qr h
      refine⟨c,({ wo:=δ.wo,nw:=true }::p.1,p.2),?_,g⟩
      simp only[w,k,if_true,Bool.false_eq_true,if_false,a,Option.bind_some,e,Option.map_some]
     case inr.inl=>
      obtain⟨c,p,e,g⟩:=Qr h
      refine⟨max n c,({ wo:=δ.wo,all:=true,seen:=fun l=>(st.ob l).isSome,nw:=true }::p.1,p.2),?_,g⟩
      have j:(cs E n (Yf.y n)).d f M=some v:=by rw[cs,ja0];exact i
      simp only[w,k,if_true,D,Option.bind_some]
      rw[(X5 n (max n c) zO _ _ (Yf.mono zO)).d _ _ _ j]
      simp only[Option.bind_some,a]
      rw[JR (X5 c (max n c) zO _ _ (Yf.mono zO)) _ _ _ _ e]
      rfl
     obtain⟨w,v,⟨n,i⟩,δ,a,h⟩:=h
     obtain⟨c,p,e,g⟩:=Qr h
     refine⟨max n c,({ wt:=δ.wt,all:=true,seen:=fun l=>(st.ob l).isSome }::p.1,p.2),?_,g⟩
     simp only[w,Bool.false_eq_true,if_false]
     have j:(cs E n (Yf.y n)).o f B st.ob st.tk ((st.fb+o.dst.getD 0+1)*1024) (ub+64*(r.length+1))=some v:=by rw[cs,jka];exact i
     rw[(X5 n (max n c) zO _ _ (Yf.mono zO)).o _ _ _ _ _ _ _ j]
     simp only[Option.bind_some,a]
     rw[JR (X5 c (max n c) zO _ _ (Yf.mono zO)) _ _ _ _ e]
     rfl
    | none=>
     simp only[z]at h
     obtain⟨u,h⟩:=h
     simp only[u,Bool.false_eq_true,if_false]
     have m:∀ {n:Nat}{δ:Delta},aop (cs E n (Yf.y n)).d (eval E st.tm) st.ob st.tk st.ro (o.name st.fb ub) ub o.op=some δ→jE E r (st.app o.dst δ) (ub+64) (fun fs s=>K (jb9 (eval E st.tm) o.op δ::fs) s) →
      ∃n p,((aop (cs E n (Yf.y n)).d (eval E st.tm) st.ob st.tk st.ro (o.name st.fb ub) ub o.op).bind fun δ=>(Y1 E (cs E n (Yf.y n)) r (st.app o.dst δ) (ub+64)).map fun x=>(jb9 (eval E st.tm) o.op δ::x.1,x.2))=some p∧K p.1 p.2:=by
      intro n δ a h
      obtain⟨c,p,e,g⟩:=Qr h
      refine⟨max n c,(jb9 (eval E st.tm) o.op δ::p.1,p.2),?_,g⟩
      rw[ja6 (X5 n (max n c) zO _ _ (Yf.mono zO)).d _ _ _ _ _ _ _ _ a,Option.bind_some,JR (X5 c (max n c) zO _ _ (Yf.mono zO)) _ _ _ _ e]
      rfl
     split at h
     ·rename_i f B H
      obtain⟨J,v,⟨n,i⟩,δ,a,h⟩:=h
      refine m (n:=n) (δ:=δ) ?_ h
      have I:(B.map fun x=>(eval E st.tm x).strip).all V.pureTop=true:=by rw[List.all_map];exact J
      simp only[H,aop,jbu,I,if_true,cs,ja0,i,Option.bind_some,a]
     ·rename_i q B H
      obtain⟨f,first,t,G,J,v,⟨n,i⟩,δ,a,h⟩:=h
      refine m (n:=n) (δ:=δ) ?_ h
      simp only[H,aop,G,jbu,J,if_true,cs,ja0,i,Option.bind_some,a]
     ·obtain⟨δ,a,h⟩:=h
      exact m (n:=0) (ja6 (fun _ _ _ h=>by cases h) _ _ _ _ _ _ _ _ a) h
theorem j0g:∀ {c:C}{st:St}{Q:Ex→St→Prop},wpC E Yf c st Q→WY E Yf c st Q:=by
 intro c
 induction c with
 | skip=>intro st Q h;exact⟨0,_,rfl,zS,fun x d=>by rw[List.mem_singleton]at d;subst d;exact h⟩
 | ret=>intro st Q h;exact⟨0,_,rfl,zS,fun x d=>by rw[List.mem_singleton]at d;subst d;exact h⟩
 | exit id=>intro st Q h;exact⟨0,_,rfl,zS,fun x d=>by rw[List.mem_singleton]at d;subst d;exact h⟩
 | stuck=>intro st Q h;exact h.elim
 | rangeFunc f ps a b=>intro st Q h;exact h
 | region U=>
  intro st Q h
  obtain⟨n,l,g,j,v⟩:=jzk h
  refine⟨n,l.map fun s=>(.nrm,s),by simp only[jX];rw[g];rfl,by simpa using j,fun x d=>?_⟩
  obtain⟨s,L,rfl⟩:=List.mem_map.1 d
  exact v s L
 | pin o fs=>
  intro st Q h
  obtain⟨n,l,g,j,v⟩:=jq5 h
  obtain⟨D,H,z,u,B⟩:=Wy (f:=fun n (x:St × Nat)=>(Y1 E (cs E n (Yf.y n)) fs x.1 x.2).bind fun p=>if jcl fs st p.2 then some [(Ex.nrm,p.2)] else none) (Q:=fun x=>Q x.1 x.2) (fun n m w x=>(JR (X5 n m w _ _ (Yf.mono w)) fs x.1 x.2).bind fun _=>le.rfl' _) l j (fun x d=>by
   obtain⟨k,p,S,L,hQ⟩:=Qr (v x d)
   exact⟨k,[(.nrm,p.2)],by rw[S,Option.bind_some,if_pos L],List.cons_ne_nil _ _,fun y Z=>by rw[List.mem_singleton]at Z;subst Z;exact hQ⟩)
  refine⟨max n D,H,?_,u,B⟩
  simp only[jX,bindL]
  rw[jaa (X5 n (max n D) zO _ _ (Yf.mono zO)) o st st.nx l g]
  exact z _ zO
 | draw U a0=>
  intro st Q h
  obtain⟨n,p,g,j,u,v⟩:=Qr h
  refine⟨n,[(.nrm,p.2)],?_,zS,fun x d=>by rw[List.mem_singleton]at d;subst d;exact v⟩
  simp only[jX]
  rw[g]
  simp only[Option.bind_some,j,u,Bool.and_self,if_true]
 | seq a b G F=>
  intro st Q h
  obtain⟨n,l,g,j,v⟩:=G h
  obtain⟨D,H,z,u,B⟩:=Wy (f:=fun n (x:Ex × St)=>match x with
   | (.nrm,st')=>jX E (cs E n) (Yf.y n) n b st'
   | (e,st')=>some [(e,st')]) (Q:=fun x=>Q x.1 x.2) (fun n m w x=>by
    obtain⟨e,s⟩:=x
    cases e
    ·exact jc (X5 n m w) w b _ _ (Yf.mono w) s
    ·exact le.rfl' _
    ·exact le.rfl' _) l j (fun x d=>by
    obtain⟨e,s⟩:=x
    have:=v _ d
    cases e with
    | nrm=>exact F this
    | exit i=>exact⟨0,_,rfl,zS,fun x d=>by rw[List.mem_singleton]at d;subst d;exact this⟩
    | ret=>exact⟨0,_,rfl,zS,fun x d=>by rw[List.mem_singleton]at d;subst d;exact this⟩)
  refine⟨max n D,H,?_,u,B⟩
  simp only[jX,bindL]
  rw[jc (X5 n (max n D) zO) zO a _ _ (Yf.mono zO) st l g]
  exact z _ zO
 | cond q a b G F=>
  intro st Q h
  obtain⟨t,X,g,j⟩:=h
  cases t with
  | true=>
   obtain⟨n,l,P,J,T⟩:=G (g rfl)
   exact⟨n,l,by simp only[jX,X];exact P,J,T⟩
  | false=>
   obtain⟨n,l,P,J,T⟩:=F (j rfl)
   exact⟨n,l,by simp only[jX,X];exact P,J,T⟩
 | block id a O=>
  intro st Q h
  obtain⟨n,l,g,j,v⟩:=O h
  refine⟨n,_,by simp only[jX];rw[g];rfl,by simpa using j,fun x d=>?_⟩
  obtain⟨p,S,rfl⟩:=List.mem_map.1 d
  have:=v p S
  obtain⟨e,s⟩:=p
  cases e with
  | nrm=>exact this
  | ret=>exact this
  | exit i=>
   simp only at this ⊢
   split at this
   ·rename_i K;simp only[K,if_true];exact this
   ·rename_i K;simp only[K,if_false];exact this
 | loop a O=>
  intro st Q h
  obtain⟨N,h⟩:=h
  have I:∀ (N:Nat) (st:St),YC (wpC E Yf a) N st Q→∃n l,(∀m k,n≤m→n≤k→jao (jX E (cs E m) (Yf.y m) m a) k st=some l)∧l≠[]∧∀x∈l,Q x.1 x.2:=by
   intro N
   induction N with
   | zero=>intro st h;exact h.elim
   | succ N M=>
    intro st h
    obtain⟨n,l,g,j,v⟩:=O h
    obtain⟨D,H,z,u,B⟩:=Wy (f:=fun n (x:Ex × St)=>match x with
     | (.nrm,st')=>jao (jX E (cs E n) (Yf.y n) n a) n st'
     | (e,st')=>some [(e,st')]) (Q:=fun x=>Q x.1 x.2) (fun n m w x=>by
      obtain⟨e,s⟩:=x
      cases e
      ·exact QE (fun s=>jc (X5 n m w) w a _ _ (Yf.mono w) s) n m w s
      ·exact le.rfl' _
      ·exact le.rfl' _) l j (fun x d=>by
      obtain⟨e,s⟩:=x
      have:=v _ d
      cases e with
      | nrm=>
       obtain⟨k,r,q1,q2,q3⟩:=M s this
       exact⟨k,r,q1 k k zR zR,q2,q3⟩
      | exit i=>exact⟨0,_,rfl,zS,fun x d=>by rw[List.mem_singleton]at d;subst d;exact this⟩
      | ret=>exact⟨0,_,rfl,zS,fun x d=>by rw[List.mem_singleton]at d;subst d;exact this⟩)
    refine⟨max n D+1,H,fun m k w hk=>?_,u,B⟩
    obtain⟨k,rfl⟩:∃k',k=k'+1:=⟨k - 1,zO⟩
    simp only[jao,bindL]
    rw[jc (X5 n m zO) zO a _ _ (Yf.mono zO) st l g]
    have e1:=z (max n D) zO
    refine Qs (fun x=>?_) l H e1
    obtain⟨e,s⟩:=x
    cases e
    ·exact QE (fun s=>jc (X5 _ m zO) zO a _ _ (Yf.mono zO) s) _ k zO s
    ·exact le.rfl' _
    ·exact le.rfl' _
  obtain⟨n,l,g,j,v⟩:=I N st h
  exact⟨n,l,g n n zR zR,j,v⟩
theorem Ev_wp {f:FuncId}{af:AF}{args:List V}{r:V}(a:E.fc f=some af) (h:wpC E Xx af.body (QO args) fun e s=>ja7 af.res (e,s)=some r):Ev E f args r:=Ev_of a (j0g h)
theorem W5 {o:AOpr}{st:St}{ub:Nat}{K k:St→Nat→Prop}(h:∀s u,K s u→k s u) (a:j6 E Yf o st ub K):j6 E Yf o st ub k:=by
 have call:∀ {f:FuncId}{i:List V},QT E f i st o.dst ub K→QT E f i st o.dst ub k:=by
  rintro f i ⟨H,v,m,g,c,e⟩
  exact⟨H,v,m,g,c,h _ _ e⟩
 unfold j6 at a ⊢
 cases p:wanted o st.tm with
 | none=>simp only[p]at a
 | some b=>
  cases b with
  | false=>simp only[p]at a ⊢;exact h _ _ a
  | true=>
   simp only[p]at a ⊢
   cases B:jf (eval E st.tm) o.op with
   | some x=>
    obtain⟨l,u,i⟩:=x
    simp only[B]at a ⊢
    obtain⟨r,z,e⟩:=a
    exact⟨r,z,h _ _ e⟩
   | none=>
   simp only[B]at a ⊢
   cases j:jB E o.nm (eval E st.tm) o.op with
   | some I=>
    simp only[j]at a ⊢
    rcases a with⟨w,n,l,z,y,e⟩|⟨w,v,m,g,c,e⟩
    ·exact .inl ⟨w,n,l,z,y,fun r D=>h _ _ (e r D)⟩
    ·exact .inr ⟨w,v,m,g,c,h _ _ e⟩
   | none=>
    simp only[j]at a ⊢
    cases G:o.op <;> simp only[G]at a ⊢
    case call f i=>exact call a
    case callV q i=>
     obtain⟨f,first,d,t,a⟩:=a
     exact⟨f,first,d,t,call a⟩
    case nextMap x=>
     obtain⟨l,F,e⟩:=a
     exact⟨l,F,fun g c=>h _ _ (e g c)⟩
    all_goals
     obtain⟨g,c,e⟩:=a
     exact⟨g,c,h _ _ e⟩
theorem ja9:∀ {ops:List AOpr}{st:St}{ub:Nat}{K a:St→Prop},(∀s,K s→a s)→WQ E Yf ops st ub K→WQ E Yf ops st ub a
 | [],_,_,_,_,h,hk=>h _ hk
 | _::_,_,_,_,_,h,hk=>W5 (fun _ _=>ja9 h) hk
theorem jz:∀ {ops:List AOpr}{st:St}{ub:Nat}{K m:List FP→St→Prop},(∀f s,K f s→m f s)→jE E ops st ub K→jE E ops st ub m
 | [],_,_,_,_,h,c=>h _ _ c
 | o::r,st,ub,K,m,h,c=>by
  unfold jE at c ⊢
  cases p:wanted o st.tm with
  | none=>simp only[p]at c
  | some b=>
   cases b with
   | false=>simp only[p]at c ⊢;exact jz (fun _ _=>h _ _) c
   | true=>
    simp only[p]at c ⊢
    cases k:jB E o.nm (eval E st.tm) o.op with
    | some x=>
     simp only[k]at c ⊢
     rcases c with⟨i,v,j,g,a,e⟩|⟨i,n,w,v,u,j,g,a,e⟩|⟨i,n,g,a,e⟩
     ·exact .inl ⟨i,v,j,g,a,jz (fun _ _=>h _ _) e⟩
     ·exact .inr (.inl ⟨i,n,w,v,u,j,g,a,jz (fun _ _=>h _ _) e⟩)
     ·exact .inr (.inr ⟨i,n,g,a,jz (fun _ _=>h _ _) e⟩)
    | none=>
     simp only[k]at c ⊢
     refine⟨c.1,?_⟩
     have c:=c.2
     cases t:o.op <;> simp only[t]at c ⊢
     case call f xs=>
      obtain⟨i,v,j,g,a,e⟩:=c
      exact⟨i,v,j,g,a,jz (fun _ _=>h _ _) e⟩
     case callV q xs=>
      obtain⟨f,first,d,l,i,v,j,g,a,e⟩:=c
      exact⟨f,first,d,l,i,v,j,g,a,jz (fun _ _=>h _ _) e⟩
     all_goals
      obtain⟨g,a,e⟩:=c
      exact⟨g,a,jz (fun _ _=>h _ _) e⟩
theorem Qd {W:St→(Ex→St→Prop)→Prop}(c:∀ (st:St) (Q a:Ex→St→Prop),(∀e s,Q e s→a e s)→W st Q→W st a):∀ {n:Nat}{st:St}{Q a:Ex→St→Prop},(∀e s,Q e s→a e s)→YC W n st Q→YC W n st a
 | 0,_,_,_,_,h=>h
 | n+1,st,Q,a,h,hk=>c st _ _ (fun e s b=>by
  cases e
  ·exact Qd (W:=W) c h b
  ·exact h _ _ b
  ·exact h _ _ b) hk
theorem Jv:∀ {c:C}{st:St}{Q g:Ex→St→Prop},(∀e s,Q e s→g e s)→wpC E Yf c st Q→wpC E Yf c st g:=by
 intro c
 induction c with
 | skip=>intro st Q g h d;exact h _ _ d
 | ret=>intro st Q g h d;exact h _ _ d
 | exit id=>intro st Q g h d;exact h _ _ d
 | stuck=>intro st Q g h d;exact d
 | rangeFunc f G a b=>intro st Q g h d;obtain⟨n,l,v,w,D⟩:=d;exact⟨n,l,v,w,fun x F=>h _ _ (D x F)⟩
 | region y=>intro st Q g h d;exact ja9 (fun s=>h _ s) d
 | draw y z=>intro st Q g h d;exact jz (fun f s j=>⟨j.1,j.2.1,h _ _ j.2.2⟩) d
 | pin o fs=>intro st Q g h d;exact W5 (fun s u j=>jz (fun f s j=>⟨j.1,h _ _ j.2⟩) j) d
 | seq a b m k=>
  intro st Q g h d
  refine m (fun e s i=>?_) d
  cases e
  ·exact k h i
  ·exact h _ _ i
  ·exact h _ _ i
 | cond q a b m k=>
  intro st Q g h d
  obtain⟨t,B,v,w⟩:=d
  exact⟨t,B,fun e=>m h (v e),fun e=>k h (w e)⟩
 | block id a r=>
  intro st Q g h d
  refine r (fun e s i=>?_) d
  cases e
  ·exact h _ _ i
  ·simp only at i ⊢
   split at i
   ·rename_i p;simp only[p,if_true];exact h _ _ i
   ·rename_i p;simp only[p,if_false];exact h _ _ i
  ·exact h _ _ i
 | loop a r=>
  intro st Q g h d
  obtain⟨N,d⟩:=d
  exact⟨N,Qd (W:=wpC E Yf a) (fun _ _ _ h d=>r h d) h d⟩
theorem j0h {a:C}{Q:Ex→St→Prop}(I:Nat→St→Prop) {n:Nat}{st:St}(l:I n st)
 (g:∀k s,I k s→wpC E Yf a s fun e h=>match e with|.nrm=>∃j,j<k∧I j h|e=>Q e h):wpC E Yf (.loop a) st Q:=by
 refine⟨n+1,?_⟩
 have d:∀n st j,j≤n→I j st→YC (wpC E Yf a) (n+1) st Q:=by
  intro n
  induction n with
  | zero=>
   intro st j m c
   refine Jv (fun e s b=>?_) (g j st c)
   cases e
   ·obtain⟨i,o,_⟩:=b;omega
   ·exact b
   ·exact b
  | succ n p=>
   intro st j m c
   refine Jv (fun e s b=>?_) (g j st c)
   cases e
   ·obtain⟨i,o,f⟩:=b
    exact p s i zO f
   ·exact b
   ·exact b
 exact d n st n zR l
end
def Qe:V→Bool→Prop→Prop→Prop
 | .bool c,b,p,q=>(c=b→p)∧(c = !b→q)
 | .tup [],_,_,q=>q
 | _,_,_,_=>False
def wpIf:V→Prop→Prop→Prop
 | .bool c,p,q=>(c=true→p)∧(c=false→q)
 | _,_,_=>False
def wpV (o:Option V) (k:V→Prop):Prop:=∃v,o=some v∧k v
def wpD (o:Option Delta) (k:Delta→Prop):Prop:=∃v,o=some v∧k v
theorem jme (v:V) (k:V→Prop):wpV (some v) k=k v:=by simp[wpV]
theorem jmf (k:V→Prop):wpV none k=False:=by simp[wpV]
theorem j0i (c:Prop) [Decidable c] (o:Option V) (k:V→Prop):wpV (if c then o else none) k=(c∧wpV o k):=by by_cases h:c <;> simp[h,wpV]
theorem ju9 (c:Prop) [Decidable c] (o:Option V) (k:V→Prop):wpV (if c then none else o) k=(¬ c∧wpV o k):=by by_cases h:c <;> simp[h,wpV]
theorem jN (v:Delta) (k:Delta→Prop):wpD (some v) k=k v:=by simp[wpD]
theorem Qu (k:Delta→Prop):wpD none k=False:=by simp[wpD]
theorem jc8 (c:Prop) [Decidable c] (o:Option Delta) (k:Delta→Prop):wpD (if c then o else none) k=(c∧wpD o k):=by by_cases h:c <;> simp[h,wpD]
theorem jvl (c:Prop) [Decidable c] (o:Option Delta) (k:Delta→Prop):wpD (if c then none else o) k=(¬ c∧wpD o k):=by by_cases h:c <;> simp[h,wpD]
def St.setT (st:St) (d:Option Nat) (v:V):St:={ st with tm:=put st.tm d v }
theorem Qt (st:St) (d:Option Nat) (v:V):st.app d { v:=v } = st.setT d v:=by simp[St.app,JI,XL,St.setT]
theorem j02 (st:St) (d n:Nat) (v:V):(st.setT (some d) v).tm n=if n=d then v else st.tm n:=by simp[St.setT,put,j2]
theorem jv4 (st:St) (n:Nat) (v:V):(st.setT none v).tm n=st.tm n:=rfl
theorem YG (st:St) (d:Option Nat) (v:V):(st.setT d v).ob=st.ob:=rfl
theorem jk1 (st:St) (d:Option Nat) (v:V):(st.setT d v).tk=st.tk:=rfl
theorem j03 (st:St) (d:Option Nat) (v:V):(st.setT d v).ro=st.ro:=rfl
theorem j04 (st:St) (d:Option Nat) (v:V):(st.setT d v).nx=st.nx:=rfl
theorem j05 (st:St) (d:Option Nat) (v:V):(st.setT d v).fb=st.fb:=rfl
theorem j06 (st:St) (d:Option Nat) (v:V):(st.setT d v).df=st.df:=rfl
def St.setN (st:St) (n:Nat):St:={ st with nx:=n }
theorem jk2 (st:St) (n:Nat):(st.setN n).tm=st.tm:=rfl
theorem J8 (st:St) (n:Nat):(st.setN n).ob=st.ob:=rfl
theorem jre (st:St) (n:Nat):(st.setN n).tk=st.tk:=rfl
theorem j07 (st:St) (n:Nat):(st.setN n).ro=st.ro:=rfl
theorem jgz (st:St) (n:Nat):(st.setN n).nx=n:=rfl
theorem j08 (st:St) (n:Nat):(st.setN n).fb=st.fb:=rfl
theorem j09 (st:St) (n:Nat):(st.setN n).df=st.df:=rfl
theorem jkd (st:St) (d n:Nat) (δ:Delta):(st.app (some d) δ).tm n=if n=d then δ.v else st.tm n:=by simp[St.app,put,j2]
theorem j33 (st:St) (n:Nat) (δ:Delta):(st.app none δ).tm n=st.tm n:=rfl
theorem app_ro (st:St) (d:Option Nat) (δ:Delta):(st.app d δ).ro=st.ro:=rfl
theorem app_nx (st:St) (d:Option Nat) (δ:Delta):(st.app d δ).nx=st.nx:=rfl
theorem app_fb (st:St) (d:Option Nat) (δ:Delta):(st.app d δ).fb=st.fb:=rfl
theorem app_df (st:St) (d:Option Nat) (δ:Delta):(st.app d δ).df=st.df:=rfl
theorem app_ob (st:St) (d:Option Nat) (v:V) (del:Option Nat) (add:List Nat):(st.app d { v:=v,del:=del,add:=add }).ob=st.ob:=by simp[St.app,JI]
theorem JC (st:St) (d:Option Nat) (δ:Delta) (u:Nat):(st.app d δ).tk u=if u∈δ.add then true else if u∈δ.del.toList then false else st.tk u:=by simp only[St.app,Qf]
theorem Ju (st:St) (d:Option Nat) (v:V) (l k:Nat) (o:Obj') (add:List Nat):(st.app d { v:=v,obs:=[(l,o)],add:=add }).ob k=if k=l then some o else st.ob k:=by simp[St.app,JI,j2]
theorem jvs (args:List V) (n:Nat):(QO args).tm n=args.getD n jq:=rfl
theorem jvv (args:List V) (n:Nat):(QO args).ob n=none:=rfl
theorem jvt (args:List V) (n:Nat):(QO args).tk n=false:=rfl
theorem jvu (args:List V):(QO args).ro=0:=rfl
theorem jvw (args:List V):(QO args).nx=0:=rfl
theorem jvx (args:List V):(QO args).fb=0:=rfl
theorem jvy (args:List V):(QO args).df=[]:=rfl
theorem eval_t (E:Env) (tm:Nat→V) (n:Nat):eval E tm (.t n)=tm n:=rfl
theorem eval_c (E:Env) (tm:Nat→V) (v:V):eval E tm (.c v)=v:=rfl
def jwj:V→V→V→Option V
 | .bool t,a,b=>some (cond t a b)
 | _,_,_=>none
theorem jo7 (t:Bool) (a b:V):jwj (.bool t) a b=some (cond t a b):=rfl
def Yw (ob:ZO) (g:Option Nat):V→Option V
 | .eptr cs off=>XQ g cs off
 | .ptr l u off=>(j0 ob l u).bind fun cs=>XQ g cs off
 | _=>none
theorem jbk (ob:ZO) (g:Option Nat) (cs:List V) (off:Nat):Yw ob g (.eptr cs off)=XQ g cs off:=rfl
theorem j10 (ob:ZO) (g:Option Nat) (l u off:Nat):Yw ob g (.ptr l u off)=(j0 ob l u).bind fun cs=>XQ g cs off:=rfl
def jam:V→Option V
 | .ptr l u o=>some (.ptr l u o)
 | .eptr cs o=>some (.eptr cs o)
 | .fn (.func f) a b=>some (.fn (.func f) a b)
 | _=>none
def W0 (off:Nat):V→Option V
 | .ptr l u o=>some (.ptr l u (o+off))
 | .eptr cs o=>some (.eptr cs (o+off))
 | _=>none
def JK (sz:Nat):V→V→Option V
 | .sl _ _ n cs,.int _ i=>if 0≤i∧i<n∧cs.length=n*sz then some (.eptr cs (i.toNat*sz)) else none
 | .osl l u off n sz',.int _ i=>if 0≤i∧i<n∧sz'=sz then some (.ptr l u (off+i.toNat*sz)) else none
 | _,_=>none
def Yk (len sz:Nat):V→V→Option V
 | .ptr l u off,.int _ i=>if 0≤i∧i<len then some (.ptr l u (off+i.toNat*sz)) else none
 | .eptr cs off,.int _ i=>if 0≤i∧i<len then some (.eptr cs (off+i.toNat*sz)) else none
 | _,_=>none
def j1n (g:Option Nat) (off:Nat):V→Option V
 | .agg cs=>XQ g cs off
 | _=>none
def Wr:V→V→Option V
 | .str s,.int _ i=>if 0≤i then (s[i.toNat]?).map fun b=>.int .u8 b.toNat else none
 | _,_=>none
def Qp (g:Option Nat) (len sz:Nat):V→V→Option V
 | .agg cs,.int _ i=>if 0≤i∧i<len then XQ g cs (i.toNat*sz) else none
 | _,_=>none
def XR (lo hi:Option V):V→Option V
 | .str s=>(Jt s.length s.length lo hi).map fun(l,h)=>.str ((s.take h).drop l)
 | _=>none
def QQ (sz:Nat) (lo hi:Option V):V→Option V
 | .sl _ nl n cs=>if cs.length=n*sz then (Jt n n lo hi).map fun(l,h)=>.sl none nl (h - l) ((cs.take (h*sz)).drop (l*sz)) else none
 | .osl a u off n sz'=>if sz'=sz then (Jt n n lo hi).map fun(l,h)=>.osl a u (off+l*sz) (h - l) sz else none
 | _=>none
def jhj:V→Option V
 | .str s=>some (.int .i64 s.length)
 | _=>none
def QY:V→Option V
 | .sl _ _ n _=>some (.int .i64 n)
 | .osl _ _ _ n _=>some (.int .i64 n)
 | _=>none
def jhk (ob:ZO):V→Option V
 | .nilmap=>some (.int .i64 0)
 | .map l u=>(jg ob l u).map fun es=>.int .i64 es.length
 | _=>none
def jc1 (i:Nat):V→Option V
 | .tup vs=>vs[i]?
 | _=>none
def XO (k:IntKind):V→Option V
 | .int _ n=>some (.int k (k.wrap n))
 | _=>none
def Ql (isMax:Bool):List V→Option V
 | []=>none
 | x::r=>Wo isMax x r
def ju7 (ob:ZO) (neg:Bool) (k:EqK) (x y:V):Option V :=
 match k,x,y with
 | .ptr,.ptr l u off,.ptr l' u' off'=>if (j0 ob l u).isSome && (j0 ob l' u').isSome then some (.bool (xor neg (Nat.beq l l' && Nat.beq off off'))) else none
 | k,a,b=>(eqV k a b).map fun b=>.bool (xor neg b)
def Qn (ob:ZO) (q:LK) (zero:V) (ok:Bool) (m k:V):Option V :=
 if jau q k then match m with
  | .nilmap=>some (if ok then .tup [zero,.bool false] else zero)
  | .map l u=>(jg ob l u).bind fun es=>(findKey q k es).map fun r=>match r with
   | some (_,v)=>if ok then .tup [v,.bool true] else v
   | none=>if ok then .tup [zero,.bool false] else zero
  | _=>none else none
section
variable {E:Env}{Yf:YF}{st:St}{ub:Nat}{K:St→Nat→Prop}{d:Option Nat}{nm:Bool}
theorem jvm {c:A}{a b:C}{Q:Ex→St→Prop}:wpC E Yf (.cond c a b) st Q=wpIf (eval E st.tm c) (wpC E Yf a st Q) (wpC E Yf b st Q):=by
 simp only[wpC]
 cases h:eval E st.tm c <;> simp[wpIf]
theorem jh4 {op:AOp}{t:Nat}{b:Bool}:j6 E Yf ⟨d,op,some (t,b),nm⟩ st ub K=Qe (st.tm t) b (j6 E Yf ⟨d,op,none,nm⟩ st ub K) (K (st.setT d jq) ub):=by
 have a:AOpr.name ⟨d,op,some (t,b),nm⟩=AOpr.name ⟨d,op,none,nm⟩:=rfl
 unfold j6
 simp only[wanted,a]
 cases h:st.tm t with
 | bool c=>
  simp only[Qe]
  cases c <;> cases b <;> simp[St.setT]
 | tup l=>cases l <;> simp[Qe,St.setT]
 | _=>simp[Qe]
theorem jM (op:AOp) (h:op.isCall=false) (a:op.isNext=false):j6 E Yf ⟨d,op,none,nm⟩ st ub K=wpD (aop (fun _ _=>none) (eval E st.tm) st.ob st.tk st.ro (AOpr.name ⟨d,op,none,nm⟩ st.fb ub) ub op) fun b=>K (st.app d b) (ub+64):=by
 cases op <;> first|cases h;done|cases a;done|simp only[j6,wanted,jf,jB,wpD]
theorem Wa (v:V) (k:Delta→Prop):wpD (one v) k=k { v:=v }:=by simp[one,wpD]
theorem jco (o:Option V) (k:Delta→Prop):wpD (o.bind one) k=wpV o fun v=>k { v:=v }:=by cases o <;> simp[wpD,wpV,one]
theorem j0k {x:A}:j6 E Yf ⟨d,.mov x,none,nm⟩ st ub K=K (st.setT d (eval E st.tm x)) (ub+64):=by rw[jM _ rfl rfl];simp only[aop,Wa,Qt]
theorem jvb {c a b:A}:j6 E Yf ⟨d,.pick c a b,none,nm⟩ st ub K=wpV (jwj (eval E st.tm c) (eval E st.tm a) (eval E st.tm b)) fun v=>K (st.setT d v) (ub+64):=by
 rw[jM _ rfl rfl];simp only[aop];cases eval E st.tm c <;> simp only[jwj,Wa,jme,jmf,Qu,Qt]
theorem j0m {op:BinOp}{x y:A}:j6 E Yf ⟨d,.bin op x y,none,nm⟩ st ub K=wpV (Y5 op (eval E st.tm x) (eval E st.tm y)) fun v=>K (st.setT d v) (ub+64):=by
 rw[jM _ rfl rfl];simp only[aop,jco,Qt]
theorem j41 {op:UnOp}{x:A}:j6 E Yf ⟨d,.un op x,none,nm⟩ st ub K=wpV (unV op (eval E st.tm x)) fun v=>K (st.setT d v) (ub+64):=by
 rw[jM _ rfl rfl];simp only[aop,jco,Qt]
theorem jL {a:Type}(o:Option a) (f:a→V):(o.bind fun x=>one (f x))=(o.map f).bind one:=by cases o <;> rfl
theorem jV (c:Prop) [Decidable c] (v:Option V):(if c then v.bind one else none)=(if c then v else none).bind one:=by split <;> rfl
theorem Js (c:Prop) [Decidable c] (v:V):(if c then one v else none)=(if c then some v else none).bind one:=by split <;> rfl
theorem Wq {a:Type}(c:Prop) [Decidable c] (o:Option a) (f:a→V):(if c then o.bind fun x=>one (f x) else none)=(if c then o.map f else none).bind one:=by split;exact jL _ _;rfl
theorem JZ {op:AOp}{o:Option V}(h:op.isCall=false) (c:op.isNext=false) (b:∀a,aop (fun _ _=>none) (eval E st.tm) st.ob st.tk st.ro a ub op=o.bind one):j6 E Yf ⟨d,op,none,nm⟩ st ub K=wpV o fun v=>K (st.setT d v) (ub+64):=by
 rw[jM _ h c,b,jco]
 simp only[Qt]
theorem j42 {neg:Bool}{k:EqK}{x y:A}:j6 E Yf ⟨d,.eq neg k x y,none,nm⟩ st ub K=wpV (ju7 st.ob neg k (eval E st.tm x) (eval E st.tm y)) fun v=>K (st.setT d v) (ub+64):=by
 refine JZ rfl rfl fun a=>?_
 simp only[aop,ju7]
 generalize eval E st.tm x=vx
 generalize eval E st.tm y=vy
 cases k <;> first|rfl|exact jL _ _|(cases vx <;> first|rfl|exact jL _ _|(cases vy <;> (first|rfl|exact Js _ _|exact jV _ _|exact jL _ _|exact(Option.bind_assoc ..).symm)))
theorem jve {g:Option Nat}{x:A}:j6 E Yf ⟨d,.load g x,none,nm⟩ st ub K=wpV (Yw st.ob g (eval E st.tm x)) fun v=>K (st.setT d v) (ub+64):=by
 refine JZ rfl rfl fun a=>?_
 simp only[aop,Yw]
 generalize eval E st.tm x=vx
 cases vx <;> (first|rfl|exact Js _ _|exact jV _ _|exact jL _ _|exact(Option.bind_assoc ..).symm)
theorem jh6 {x:A}:j6 E Yf ⟨d,.nilCheck x,none,nm⟩ st ub K=wpV (jam (eval E st.tm x)) fun v=>K (st.setT d v) (ub+64):=by
 refine JZ rfl rfl fun a=>?_
 simp only[aop,jam]
 generalize eval E st.tm x=vx
 cases vx <;> (first|rfl|exact Js _ _|exact jV _ _|exact jL _ _|exact(Option.bind_assoc ..).symm|(rename_i f _ _;cases f <;> rfl)|exact Wq _ _ _)
theorem jgr {off:Nat}{x:A}:j6 E Yf ⟨d,.fieldAddr off x,none,nm⟩ st ub K=wpV (W0 off (eval E st.tm x)) fun v=>K (st.setT d v) (ub+64):=by
 refine JZ rfl rfl fun a=>?_
 simp only[aop,W0]
 generalize eval E st.tm x=vx
 cases vx <;> (first|rfl|exact Js _ _|exact jV _ _|exact jL _ _|exact(Option.bind_assoc ..).symm)
theorem jqp {sz:Nat}{x i:A}:j6 E Yf ⟨d,.idxSl sz x i,none,nm⟩ st ub K=wpV (JK sz (eval E st.tm x) (eval E st.tm i)) fun v=>K (st.setT d v) (ub+64):=by
 refine JZ rfl rfl fun a=>?_
 simp only[aop,JK]
 generalize eval E st.tm x=vx
 generalize eval E st.tm i=vi
 cases vx <;> first|rfl|(cases vi <;> (first|rfl|exact Js _ _|exact jV _ _|exact jL _ _|exact(Option.bind_assoc ..).symm))
theorem jol {len sz:Nat}{x i:A}:j6 E Yf ⟨d,.idxArr len sz x i,none,nm⟩ st ub K=wpV (Yk len sz (eval E st.tm x) (eval E st.tm i)) fun v=>K (st.setT d v) (ub+64):=by
 refine JZ rfl rfl fun a=>?_
 simp only[aop,Yk]
 generalize eval E st.tm x=vx
 generalize eval E st.tm i=vi
 cases vx <;> first|rfl|(cases vi <;> (first|rfl|exact Js _ _|exact jV _ _|exact jL _ _|exact(Option.bind_assoc ..).symm))
theorem jvc {g:Option Nat}{off:Nat}{x:A}:j6 E Yf ⟨d,.part g off x,none,nm⟩ st ub K=wpV (j1n g off (eval E st.tm x)) fun v=>K (st.setT d v) (ub+64):=by
 refine JZ rfl rfl fun a=>?_
 simp only[aop,j1n]
 generalize eval E st.tm x=vx
 cases vx <;> (first|rfl|exact Js _ _|exact jV _ _|exact jL _ _|exact(Option.bind_assoc ..).symm)
theorem jok {x i:A}:j6 E Yf ⟨d,.idxStr x i,none,nm⟩ st ub K=wpV (Wr (eval E st.tm x) (eval E st.tm i)) fun v=>K (st.setT d v) (ub+64):=by
 refine JZ rfl rfl fun a=>?_
 simp only[aop,Wr]
 generalize eval E st.tm x=vx
 generalize eval E st.tm i=vi
 cases vx <;> first|rfl|(cases vi <;> (first|rfl|exact Js _ _|exact jV _ _|exact jL _ _|exact(Option.bind_assoc ..).symm|(rename_i f _ _;cases f <;> rfl)|exact Wq _ _ _))
theorem joj {g:Option Nat}{len sz:Nat}{x i:A}:j6 E Yf ⟨d,.idxVal g len sz x i,none,nm⟩ st ub K=wpV (Qp g len sz (eval E st.tm x) (eval E st.tm i)) fun v=>K (st.setT d v) (ub+64):=by
 refine JZ rfl rfl fun a=>?_
 simp only[aop,Qp]
 generalize eval E st.tm x=vx
 generalize eval E st.tm i=vi
 cases vx <;> first|rfl|(cases vi <;> (first|rfl|exact Js _ _|exact jV _ _|exact jL _ _|exact(Option.bind_assoc ..).symm))
theorem jqn {x:A}{lo hi:Option A}:j6 E Yf ⟨d,.slStr x lo hi,none,nm⟩ st ub K=wpV (XR (lo.map (eval E st.tm)) (hi.map (eval E st.tm)) (eval E st.tm x)) fun v=>K (st.setT d v) (ub+64):=by
 refine JZ rfl rfl fun a=>?_
 simp only[aop,XR]
 generalize eval E st.tm x=vx
 cases vx <;> (first|rfl|exact Js _ _|exact jV _ _|exact jL _ _|exact(Option.bind_assoc ..).symm)
theorem jva {sz:Nat}{x:A}{lo hi:Option A}:j6 E Yf ⟨d,.slSl sz x lo hi,none,nm⟩ st ub K=wpV (QQ sz (lo.map (eval E st.tm)) (hi.map (eval E st.tm)) (eval E st.tm x)) fun v=>K (st.setT d v) (ub+64):=by
 refine JZ rfl rfl fun a=>?_
 simp only[aop,QQ]
 generalize eval E st.tm x=vx
 cases vx <;> (first|rfl|exact Js _ _|exact jV _ _|exact jL _ _|exact(Option.bind_assoc ..).symm|(rename_i f _ _;cases f <;> rfl)|exact Wq _ _ _)
theorem joh {x:A}:j6 E Yf ⟨d,.lenStr x,none,nm⟩ st ub K=wpV (jhj (eval E st.tm x)) fun v=>K (st.setT d v) (ub+64):=by
 refine JZ rfl rfl fun a=>?_
 simp only[aop,jhj]
 generalize eval E st.tm x=vx
 cases vx <;> (first|rfl|exact Js _ _|exact jV _ _|exact jL _ _|exact(Option.bind_assoc ..).symm)
theorem jqo {x:A}:j6 E Yf ⟨d,.lenSl x,none,nm⟩ st ub K=wpV (QY (eval E st.tm x)) fun v=>K (st.setT d v) (ub+64):=by
 refine JZ rfl rfl fun a=>?_
 simp only[aop,QY]
 generalize eval E st.tm x=vx
 cases vx <;> (first|rfl|exact Js _ _|exact jV _ _|exact jL _ _|exact(Option.bind_assoc ..).symm)
theorem joi {x:A}:j6 E Yf ⟨d,.lenMap x,none,nm⟩ st ub K=wpV (jhk st.ob (eval E st.tm x)) fun v=>K (st.setT d v) (ub+64):=by
 refine JZ rfl rfl fun a=>?_
 simp only[aop,jhk]
 generalize eval E st.tm x=vx
 cases vx <;> (first|rfl|exact Js _ _|exact jV _ _|exact jL _ _|exact(Option.bind_assoc ..).symm)
theorem jks {x:A}{i:Nat}:j6 E Yf ⟨d,.extract x i,none,nm⟩ st ub K=wpV (jc1 i (eval E st.tm x)) fun v=>K (st.setT d v) (ub+64):=by
 refine JZ rfl rfl fun a=>?_
 simp only[aop,jc1]
 generalize eval E st.tm x=vx
 cases vx <;> (first|rfl|exact Js _ _|exact jV _ _|exact jL _ _|exact(Option.bind_assoc ..).symm)
theorem jvf {k:IntKind}{x:A}:j6 E Yf ⟨d,.conv k x,none,nm⟩ st ub K=wpV (XO k (eval E st.tm x)) fun v=>K (st.setT d v) (ub+64):=by
 refine JZ rfl rfl fun a=>?_
 simp only[aop,XO]
 generalize eval E st.tm x=vx
 cases vx <;> (first|rfl|exact Js _ _|exact jV _ _|exact jL _ _|exact(Option.bind_assoc ..).symm)
theorem jof {b:Bool}{xs:List A}:j6 E Yf ⟨d,.minmax b xs,none,nm⟩ st ub K=wpV (Ql b (xs.map (eval E st.tm))) fun v=>K (st.setT d v) (ub+64):=by
 refine JZ rfl rfl fun a=>?_
 simp only[aop,Ql]
 generalize xs.map (eval E st.tm)=vxs
 cases vxs <;> (first|rfl|exact Js _ _|exact jV _ _|exact jL _ _|exact(Option.bind_assoc ..).symm)
theorem jvd {f:Fn}{a b:List A}:j6 E Yf ⟨d,.mkFn f a b,none,nm⟩ st ub K=K (st.setT d (.fn f (a.map (eval E st.tm)) (b.map (eval E st.tm)))) (ub+64):=by rw[jM _ rfl rfl];simp only[aop,Wa,Qt]
theorem jqt {z:List V}{ps:List (Nat × Nat × A)}:j6 E Yf ⟨d,.build z ps,none,nm⟩ st ub K=wpV ((fill z (jx (eval E st.tm) ps)).map .agg) fun v=>K (st.setT d v) (ub+64):=by
 rw[jM _ rfl rfl];simp only[aop,jL,jco,Qt]
theorem jog {q:LK}{z:V}{a:Bool}{m k:A}:j6 E Yf ⟨d,.lookup q z a m k,none,nm⟩ st ub K=wpV (Qn st.ob q z a (eval E st.tm m) (eval E st.tm k)) fun v=>K (st.setT d v) (ub+64):=by
 refine JZ rfl rfl fun c=>?_
 simp only[aop,Qn]
 generalize eval E st.tm m=vm
 generalize eval E st.tm k=vk
 cases jau q vk with
 | false=>rfl
 | true=>
  simp only[if_true]
  cases vm <;> first|rfl|skip
  rename_i l u
  simp only
  cases jg st.ob l u with
  | none=>rfl
  | some b=>
   simp only[Option.bind_some]
   cases findKey q vk b with
   | none=>rfl
   | some r=>cases r <;> rfl
def jm1 (E:Env) (nm:Bool) (f:FuncId) (vs:List V):Prop:=E.sh nm f=false∧(vs.all fun v=>v.strip.pureTop)=true
theorem jhy (vs:List V):(vs.map V.strip).all V.pureTop=vs.all fun v=>v.strip.pureTop:=by rw[List.all_map];rfl
theorem jvg {f:FuncId}{xs:List A}(h:jm1 E nm f (xs.map (eval E st.tm))∧∃v,Ev E f ((xs.map (eval E st.tm)).map V.strip) v∧wpD (Xg ub v) fun b=>K (st.app d b) (ub+64)):j6 E Yf ⟨d,.call f xs,none,nm⟩ st ub K:=by
 obtain⟨⟨i,c⟩,v,e,b,a,j⟩:=h
 have g:(xs.all fun x=>(eval E st.tm x).strip.pureTop)=true:=by rw[List.all_map]at c;exact c
 have k:jB E nm (eval E st.tm) (.call f xs)=none:=by simp only[jB,i,g,Bool.not_false,Bool.and_self,if_true]
 simp only[j6,wanted,jf,k,QT]
 refine⟨by rw[List.all_map];exact g,v,?_,b,a,j⟩
 rw[List.map_map]at e
 exact e
theorem jqq {q:A}{xs:List A}{f:FuncId}{first captured:List V}(c:eval E st.tm q=.fn (.func f) first captured)
 (h:jm1 E nm f (first++xs.map (eval E st.tm)++captured)∧∃v,Ev E f ((first++xs.map (eval E st.tm)++captured).map V.strip) v∧wpD (Xg ub v) fun b=>K (st.app d b) (ub+64)):j6 E Yf ⟨d,.callV q xs,none,nm⟩ st ub K:=by
 obtain⟨⟨g,e⟩,v,j,b,a,i⟩:=h
 have k:jB E nm (eval E st.tm) (.callV q xs)=none:=by simp only[jB,c,g,e,Bool.not_false,Bool.and_self,if_true]
 simp only[j6,wanted,jf,c,k,QT]
 exact⟨f,first,captured,rfl,by rw[jhy];exact e,v,j,b,a,i⟩
end
attribute [simp] j02 jv4 YG jk1 j03 j04 j05 j06
 jk2 J8 jre j07 jgz j08 j09 jvs jvv jvt jvu jvw jvx jvy eval_t eval_c jo7 jbk j10 jme jmf jN Qu Qt
@[simp] theorem binV_add (k:IntKind) (a b:Int):Y5 .add (.int k a) (.int k b)=some (.int k (k.wrap (a+b))):=by simp[Y5,XN]
@[simp] theorem binV_sub (k:IntKind) (a b:Int):Y5 .sub (.int k a) (.int k b)=some (.int k (k.wrap (a - b))):=by simp[Y5,XN]
@[simp] theorem binV_mul (k:IntKind) (a b:Int):Y5 .mul (.int k a) (.int k b)=some (.int k (k.wrap (a*b))):=by simp[Y5,XN]
@[simp] theorem binV_quo (k:IntKind) (a b:Int):Y5 .quo (.int k a) (.int k b)=if b=0 then none else some (.int k (k.wrap (a.tdiv b))):=by simp[Y5,XN]
@[simp] theorem binV_rem (k:IntKind) (a b:Int):Y5 .rem (.int k a) (.int k b)=if b=0 then none else some (.int k (a.tmod b)):=by simp[Y5,XN]
@[simp] theorem binV_lss (k:IntKind) (a b:Int):Y5 .lss (.int k a) (.int k b)=some (.bool (decide (a<b))):=by simp[Y5,XN]
@[simp] theorem binV_leq (k:IntKind) (a b:Int):Y5 .leq (.int k a) (.int k b)=some (.bool (decide (a≤b))):=by simp[Y5,XN]
@[simp] theorem binV_gtr (k:IntKind) (a b:Int):Y5 .gtr (.int k a) (.int k b)=some (.bool (decide (b<a))):=by simp[Y5,XN]
@[simp] theorem binV_geq (k:IntKind) (a b:Int):Y5 .geq (.int k a) (.int k b)=some (.bool (decide (b≤a))):=by simp[Y5,XN]
@[simp] theorem binV_eql (k:IntKind) (a b:Int):Y5 .eql (.int k a) (.int k b)=some (.bool (a == b)):=by simp[Y5,XN]
@[simp] theorem binV_neq (k:IntKind) (a b:Int):Y5 .neq (.int k a) (.int k b)=some (.bool (a != b)):=by simp[Y5,XN]
@[simp] theorem binV_seql (a b:List UInt8):Y5 .eql (.str a) (.str b)=some (.bool (a == b)):=by simp[Y5,jid]
@[simp] theorem binV_sneq (a b:List UInt8):Y5 .neq (.str a) (.str b)=some (.bool (!(a == b))):=by simp[Y5,jid]
@[simp] theorem unV_not (b:Bool):unV .not (.bool b)=some (.bool (!b)):=rfl
@[simp] theorem lenSlV_sl (t:Option (Nat × Nat)) (b:Bool) (n:Nat) (cs:List V):QY (.sl t b n cs)=some (.int .i64 n):=rfl
@[simp] theorem j4p (a b c n d:Nat):QY (.osl a b c n d)=some (.int .i64 n):=rfl
@[simp] theorem j12 (s:List UInt8):jhj (.str s)=some (.int .i64 s.length):=rfl
@[simp] theorem Ws (sz:Nat) (t:Option (Nat × Nat)) (b:Bool) (n:Nat) (cs:List V) (k:IntKind) (i:Int):JK sz (.sl t b n cs) (.int k i)=if 0≤i∧i<n∧cs.length=n*sz then some (.eptr cs (i.toNat*sz)) else none:=rfl
@[simp] theorem j4n (cs:List V) (off:Nat):XQ none cs off=cs[off]?:=rfl
@[simp] theorem jz1 (i:Nat) (vs:List V):jc1 i (.tup vs)=vs[i]?:=rfl
def V.flat:V→Bool
 | .bool _|.int ..|.str _|.nilptr|.nilmap|.nilfn|.nilif=>true
 | .sl t _ _ _=>t.isNone
 | _=>false
theorem Qi {st:St}{keep:Bool}{i:Nat}{v:V}(h:v.flat=true):XS st keep i v=some v:=by
 cases v with
 | sl t a n cs=>cases t with
  | none=>rfl
  | some t=>cases h
 | _=>first|rfl|cases h
theorem jen {v:V}(h:v.flat=true):v.toks=[]:=by
 cases v with
 | sl t a n cs=>cases t with
  | none=>rfl
  | some t=>cases h
 | _=>first|rfl|cases h
theorem Yg {st:St}(h:st.df=[]):st.noDf=st:=by unfold St.noDf;simp only[h]
theorem Ym {st:St}(h:st.df=[]):jz7 st=true:=by unfold jz7;simp only[h];rfl
theorem j3 {n:Nat}{st:St}{v:V}(a:st.df=[]) (h:st.tm n=v) (b:v.flat=true):ja7 [.t n] (.ret,st)=some v:=by
 simp only[ja7,Ym a,Yg a,if_true,List.mapM_cons,List.mapM_nil,jp,h]
 simp[Yv,JJ,Qi b,jen b,nodup]
theorem JW {n m:Nat}{st:St}{v u:V}(b:st.df=[]) (h:st.tm n=v) (d:st.tm m=u) (c:v.flat=true) (a:u.flat=true):ja7 [.t n,.t m] (.ret,st)=some (.tup [v,u]):=by
 simp only[ja7,Ym b,Yg b,if_true,List.mapM_cons,List.mapM_nil,jp,h,d]
 simp[Yv,JJ,Qi c,Qi a,jen c,jen a,nodup]
@[simp] theorem j5u (ub:Nat) (b:Bool):Xg ub (.bool b)=some { v:=.bool b }:=rfl
@[simp] theorem retA_int (ub:Nat) (k:IntKind) (b:Int):Xg ub (.int k b)=some { v:=.int k b }:=rfl
@[simp] theorem retA_str (ub:Nat) (s:List UInt8):Xg ub (.str s)=some { v:=.str s }:=rfl
@[simp] theorem j5t (ub:Nat) (k a:IntKind) (b c:Int):Xg ub (.tup [.int k b,.int a c])=some { v:=.tup [.int k b,.int a c] }:=rfl
@[simp] theorem j1f (ub:Nat) (nl:Bool) (n:Nat) (cs:List V):Xg ub (.sl none nl n cs)=some { v:=.sl none nl n cs }:=rfl
theorem jqs {E:Env}{Yf:YF}{st:St}{ub:Nat}{K:St→Nat→Prop}{d:Option Nat}{nm:Bool}{f:FuncId}{xs:List A}{vs:List V}{v:V}(a:xs.map (eval E st.tm)=vs) (b:E.sh nm f=false) (hp:(vs.all fun v=>v.strip.pureTop)=true)
 (e:Ev E f (vs.map V.strip) v) (h:wpD (Xg ub v) fun c=>K (st.app d c) (ub+64)):j6 E Yf ⟨d,.call f xs,none,nm⟩ st ub K :=
 jvg ⟨by rw[a];exact⟨b,hp⟩,v,by rw[a];exact e,h⟩
def C.one:C→Bool
 | .region ops=>ops.all fun o=>o.op.next?.isNone
 | .pin o _=>o.op.next?.isNone
 | .seq a b|.cond _ a b=>a.one && b.one
 | .block _ a|.loop a=>a.one
 | _=>true
def Single {α:Type}(o:Option (List α)):Prop:=∀l,o=some l→∃x,l=[x]
theorem Single.bindL {d i:Type}{m:Option (List d)}{f:d→Option (List i)}(e:Single m) (g:∀a,Single (f a)):Single (bindL m f):=by
 intro l h
 cases b:m with
 | none=>rw[b]at h;cases h
 | some c=>
  obtain⟨a,rfl⟩:=e c b
  rw[b]at h
  exact g a l h
theorem Single.map {d g:Type}{m:Option (List d)}{f:d→g}(e:Single m):Single (m.map fun l=>l.map f):=by
 intro l h
 cases b:m with
 | none=>rw[b]at h;cases h
 | some c=>
  obtain⟨a,rfl⟩:=e c b
  rw[b]at h
  cases h
  exact⟨f a,rfl⟩
theorem Single.none {a:Type}:Single (none:Option (List a)):=fun _ h=>by cases h
theorem Single.some {a:Type}(x:a):Single (some [x]):=fun _ h=>⟨x,by cases h;rfl⟩
theorem Single.opt {b c:Type}{m:Option b}{f:b→c}:Single (m.map fun a=>[f a]):=by
 intro l h
 cases m with
 | none=>cases h
 | some a=>cases h;exact⟨f a,rfl⟩
section
variable {E:Env}{Yf:YF}
theorem jmo {c:Callers}(g:∀f a ob d e b u,Single (c.s f a ob d e b u)) {o:AOpr}{st:St}{ub:Nat}(h:o.op.next?.isNone=true):Single (jbx E c o st ub):=by
 have i:o.op.next? = .none:=by simpa using h
 unfold jbx
 split
 ·split
  ·exact Single.opt
  ·split
   ·split
    ·exact Single.map (g _ _ _ _ _ _ _)
    ·exact Single.opt
   ·rw[i]
    exact Single.opt
 ·exact Single.some _
 ·exact Single.none
theorem jm6 {c:Callers}(d:∀f a ob e g b u,Single (c.s f a ob e g b u)):∀ {ops:List AOpr}{st:St}{ub:Nat},(ops.all fun o=>o.op.next?.isNone)=true→Single (jg9 E c ops st ub)
 | [],_,_,_=>Single.some _
 | o::r,st,ub,h=>by
  simp only[List.all_cons,Bool.and_eq_true]at h
  exact Single.bindL (jmo d h.1) fun x=>jm6 d h.2
theorem jjp {body:St→j4c}(a:∀st,Single (body st)):∀ (n:Nat) (st:St),Single (jao body n st)
 | 0,_=>Single.none
 | n+1,st=>Single.bindL (a st) fun x=>by
  obtain⟨e,s⟩:=x
  cases e
  ·exact jjp a n s
  ·exact Single.some _
  ·exact Single.some _
theorem jui {d:Y→Callers}(t:∀y f a ob w z b u,Single ((d y).s f a ob w z b u)) {y:Y}{N:Nat}:∀ {c:C}{st:St},c.one=true→Single (jX E d y N c st):=by
 intro c
 induction c with
 | skip=>intro st _;exact Single.some _
 | ret=>intro st _;exact Single.some _
 | exit i=>intro st _;exact Single.some _
 | stuck=>intro st _;exact Single.none
 | region k=>intro st h;simp only[jX];exact Single.map (jm6 (t y) h)
 | pin o fs=>
  intro st h
  simp only[jX]
  refine Single.bindL (jmo (t y) h) fun x=>?_
  intro l h
  obtain⟨p,_,h⟩:=bind_some h
  split at h
  ·cases h;exact⟨_,rfl⟩
  ·cases h
 | draw k n=>
  intro st _ l h
  simp only[jX]at h
  cases v:Y1 E (d y) k st st.nx with
  | none=>rw[v]at h;cases h
  | some p=>
   rw[v,Option.bind_some]at h
   split at h
   ·cases h;exact⟨_,rfl⟩
   ·cases h
 | seq a b g j=>
  intro st h
  simp only[C.one,Bool.and_eq_true]at h
  simp only[jX]
  refine Single.bindL (g h.1) fun x=>?_
  obtain⟨e,s⟩:=x
  cases e
  ·exact j h.2
  ·exact Single.some _
  ·exact Single.some _
 | cond q a b g j=>
  intro st h
  simp only[C.one,Bool.and_eq_true]at h
  simp only[jX]
  split
  ·exact g h.1
  ·exact j h.2
  ·exact Single.none
 | block i a m=>intro st h;simp only[jX];exact Single.map (m h)
 | loop a m=>intro st h;simp only[jX];exact jjp (fun s=>m h) N st
 | rangeFunc f B a b=>
  intro st _ l h
  simp only[jX]at h
  split at h
  ·simp only[Option.bind_eq_some_iff]at h
   obtain⟨r,_,h⟩:=h
   split at h
   ·split at h
    ·cases h;exact⟨_,rfl⟩
    ·cases h
   ·cases h
  ·cases h
theorem jl7 (c:∀f,E.mn f=false):∀ (n:Nat) (y:Y) (f a ob tk ro b u),Single ((callers E n y).s f a ob tk ro b u)
 | 0,_,_,_,_,_,_,_,_=>Single.none
 | n+1,y,f,a,ob,tk,ro,b,u=>by
  intro l h
  simp only[callers,c,Bool.false_eq_true,if_false]at h
  split at h
  ·obtain⟨_,_,h⟩:=bind_some h
   obtain⟨_,_,h⟩:=bind_some h
   obtain⟨x,_,rfl⟩:=map_some h
   exact⟨x,rfl⟩
  ·split at h
   ·obtain⟨x,_,rfl⟩:=map_some h
    exact⟨x,rfl⟩
   ·obtain⟨_,_,h⟩:=bind_some h
    obtain⟨_,_,h⟩:=bind_some h
    split at h
    ·obtain⟨x,_,rfl⟩:=map_some h
     exact⟨x,rfl⟩
    ·cases h
theorem ji8 {c:C}{st:St}{Q:Ex→St→Prop}(b:c.one=true) (h:wpC E Yf c st Q) (e:∀f,E.mn f=false):∃n x,jX E (callers E n) (Yf.y n) n c st=some [x]∧Q x.1 x.2:=by
 obtain⟨n,l,a,_,d⟩:=j0g h
 obtain⟨x,rfl⟩:=jui (jl7 e n) b l a
 exact⟨n,x,a,d x (List.mem_singleton.2 rfl)⟩
theorem EvO_wp {f:FuncId}{af:AF}{args:List V}{ob:ZO}{tk:Nat→Bool}{base ub:Nat}{r:V}(d:E.fs f=some af)
 (h:wpC E Xx af.body (Jm args ob (fun _=>false) ub base ub) fun e s=>ja7 af.res (e,s)=some r) (g:E.fz f=false:=by rfl):EvO E f args ob tk base ub r:=by
 obtain⟨n,l,b,c,a⟩:=j0g h
 refine⟨n+1,?_⟩
 simp only[callers,d,Option.bind_some,g,Bool.false_eq_true,if_false]
 rw[show jX E (callers E n) noY n af.body (Jm args ob (fun _=>false) ub base ub)=some l from b]
 exact jhb c a
theorem jh1 {y:Nat→Y}{f:FuncId}{args:List V}{ob:ZO}{tk:Nat→Bool}{ro base ub:Nat}{r:V × (ZO) × (Nat→Bool) × Nat}{m:Option FuncId}(c:E.srt f=some m) (a:jou m ob tk ro ub args=some r) (b:E.tw f=false:=by rfl):EvS E y f args ob tk ro base ub r:=by
 refine⟨1,?_⟩
 simp only[callers,b,c,Bool.false_eq_true,if_false,a,Option.map_some]
theorem X2 {f:FuncId}{af:AF}{args:List V}{ob:ZO}{tk:Nat→Bool}{ro base ub:Nat}{P:V × (ZO) × (Nat→Bool) × Nat→Prop}(g:E.fs f=some af) (b:af.body.one=true)
 (h:wpC E Yf af.body (Jm args ob tk ro base ub) fun e s=>∃r,endS af.res (e,s)=some r∧P r) (i:E.tw f=false:=by rfl) (j:E.srt f=none:=by rfl) (a:∀f,E.mn f=false:=by intro _;rfl):∃r,EvS E Yf.y f args ob tk ro base ub r∧P r:=by
 obtain⟨n,x,c,r,k,d⟩:=ji8 b h a
 refine⟨r,⟨n+1,?_⟩,d⟩
 simp only[callers,g,Option.bind_some,i,j,Bool.false_eq_true,if_false]
 rw[jc (X5 n n zR) zR af.body _ _ (Yf.mono (Nat.le_succ n)) _ _ c]
 simp only[Option.bind_some,a,Bool.false_eq_true,if_false,k,Option.map_some]
def jft (E:Env) (Yf:YF) (asg bd:C) (st:St) (ps:List Nat) (l u:Nat):YF where
 y n:=QU (jX E (callers E n) (Yf.y n) n asg) (jX E (callers E n) (Yf.y n) n bd) st ps l u
 mono h:=jdq (fun s=>jc (JY _ _ h) h asg _ _ (Yf.mono h) s) (fun s=>jc (JY _ _ h) h bd _ _ (Yf.mono h) s) st ps l u
def WD (l u:Nat) (e:Ex) (s:St):V × (ZO) × (Nat→Bool) × Nat:=match e with
 | .nrm=>(.bool true,upd s.ob l (some ⟨u,.loop .ready none⟩),s.tk,s.nx)
 | e=>(.bool false,upd s.ob l (some ⟨u,.loop .done (some e)⟩),s.tk,s.nx)
theorem je8 {asg bd:C}{st:St}{ps:List Nat}{l u:Nat}{xs:List V}{ob:ZO}{tk:Nat→Bool}{ro ub:Nat}{P:V × (ZO) × (Nat→Bool) × Nat→Prop}(t:xs.length=ps.length) (i:ro≤u) (j:ob l=some ⟨u,.loop .ready none⟩)
 (y:asg.one=true) (z:bd.one=true)
 (h:wpC E Yf asg { tm:=jdh st.tm ps xs,ob,tk,ro,nx:=ub,fb:=st.fb,df:=[] } fun e d=>e=.nrm∧d.ob l=some ⟨u,.loop .ready none⟩ ∧
  wpC E Yf bd { d with ob:=upd d.ob l (some ⟨u,.loop .busy none⟩) } fun e g=>g.ob l=some ⟨u,.loop .busy none⟩∧P (WD l u e g)) (q:∀f,E.mn f=false:=by intro _;rfl):∃r,EvY (jft E Yf asg bd st ps l u) l u xs ob tk ro ub r∧P r:=by
 obtain⟨n,⟨e,d⟩,v,p,b,o⟩:=ji8 y h q
 simp only at p b o
 subst p
 obtain⟨m,⟨e,g⟩,s,c,k⟩:=ji8 z o q
 simp only at c k
 refine⟨WD l u e g,⟨max n m,?_⟩,k⟩
 have w:=jc (JY (E:=E) n (max n m) zO) (show n≤max n m by omega) asg _ _ (Yf.mono (show n≤max n m by omega)) _ _ v
 have x:=jc (JY (E:=E) m (max n m) zO) (show m≤max n m by omega) bd _ _ (Yf.mono (show m≤max n m by omega)) _ _ s
 have a:Nat.ble ro u=true:=Nat.ble_eq▸i
 simp only[jft,QU,t,a,and_self,if_true,j,w,b,x,c]
 cases e <;> rfl
theorem W6 {f:A}{ps:List Nat}{asg bd:C}{st:St}{Q:Ex→St→Prop}{g:FuncId}{first captured:List V}(l:eval E st.tm f=.fn (.func g) first captured)
 (h:∃r,EvS E (jft E Yf asg bd st ps (2*st.nx+1) st.nx).y g (first++[.yld (2*st.nx+1) st.nx]++captured)
  (upd (upd st.ob (2*st.nx+3) (some ⟨st.nx+1,.dfr⟩)) (2*st.nx+1) (some ⟨st.nx,.loop .ready none⟩)) st.tk st.ro ((st.fb+1023)*1024) (st.nx+64) r ∧
  ∃s a,r.2.1 (2*st.nx+1)=some ⟨st.nx,.loop s a⟩∧s≠.busy∧st.ro≤st.nx ∧
   Q (a.getD .nrm) { st with ob:=fun k=>if Nat.beq (2*st.nx+1) k then none else r.2.1 k,tk:=r.2.2.1,nx:=r.2.2.2,df:=(2*st.nx+3,st.nx+1)::st.df }):wpC E Yf (.rangeFunc f ps asg bd) st Q:=by
 obtain⟨⟨v,ob,tk,p⟩,⟨n,o⟩,s,a,d,j,i,m⟩:=h
 have b:Nat.ble st.ro st.nx=true:=Nat.ble_eq▸i
 refine⟨n,[(a.getD .nrm,_)],?_,List.cons_ne_nil _ _,fun x e=>by rw[List.mem_singleton]at e;subst e;exact m⟩
 simp only[jX,l]
 have c:(callers E n (QU (jX E (callers E n) (Yf.y n) n asg) (jX E (callers E n) (Yf.y n) n bd) st ps (2*st.nx+1) st.nx)).s g (first++[.yld (2*st.nx+1) st.nx]++captured)
  (upd (upd st.ob (2*st.nx+3) (some ⟨st.nx+1,.dfr⟩)) (2*st.nx+1) (some ⟨st.nx,.loop .ready none⟩)) st.tk st.ro ((st.fb+1023)*1024) (st.nx+64)=some [(v,ob,tk,p)]:=o
 simp only at d
 simp only[c,only,Option.bind_some,d,j,ne_eq,not_false_eq_true,b,and_self,if_true]
theorem jh5 {q:A}{xs:List A}{st:St}{ub:Nat}{K:St→Nat→Prop}{d:Option Nat}{nm:Bool}{l u:Nat}(a:eval E st.tm q=.yld l u)
 (h:∃r,EvY Yf l u (xs.map (eval E st.tm)) st.ob st.tk st.ro ub r∧K { st with tm:=put st.tm d r.1,ob:=r.2.1,tk:=r.2.2.1 } r.2.2.2):j6 E Yf ⟨d,.callV q xs,none,nm⟩ st ub K:=by
 simp only[j6,wanted,jf,a]
 exact h
theorem jqr {f:FuncId}{xs:List A}{st:St}{ub:Nat}{K:St→Nat→Prop}{d:Option Nat}{nm:Bool}(g:E.sh nm f=false) (hp:((xs.map (eval E st.tm)).all fun v=>v.strip.pureTop)=false)
 (h:∃v,EvO E f (xs.map (eval E st.tm)) st.ob st.tk ((st.fb+d.getD 0+1)*1024) ub v∧wpD (Xg ub v) fun e=>K (st.app d e) (ub+64)):j6 E Yf ⟨d,.call f xs,none,nm⟩ st ub K:=by
 have a:(xs.all fun x=>(eval E st.tm x).strip.pureTop)=false:=by rw[List.all_map]at hp;exact hp
 have c:jB E nm (eval E st.tm) (.call f xs)=some (f,xs.map (eval E st.tm)):=by simp only[jB,g,a,Bool.not_false,Bool.true_and,Bool.false_eq_true,if_false]
 simp only[j6,wanted,jf,c]
 obtain⟨v,i,e,b,j⟩:=h
 exact .inr ⟨g,v,i,e,b,j⟩
end
def jH (d:Option Nat) (nm:Bool) (fb ub:Nat):Nat:=cond nm (2*ub+1) (2*(fb+d.getD 0))
theorem jsn (d fb ub:Nat):jH (some d) false fb ub=2*(fb+d):=rfl
theorem Wk (d:Option Nat) (fb ub:Nat):jH d true fb ub=2*ub+1:=rfl
theorem Jo (d:Option Nat) (op:AOp) (nm:Bool) (fb ub:Nat):AOpr.name ⟨d,op,none,nm⟩ fb ub=jH d nm fb ub:=by cases nm <;> rfl
def ja8 (st:St) (sz:Nat) (x:V) (K:Delta→Prop):V→Prop
 | .ptr l u off=>∃cs,j0 st.ob l u=some cs∧st.ro≤u∧x.cells.length=sz∧off+sz≤cs.length∧x.cells.all V.leaf=true∧K { v:=jq,obs:=[(l,⟨u,.cells (j5 cs off x.cells)⟩)] }
 | _=>False
theorem jkq (st:St) (sz:Nat) (x:V) (K:Delta→Prop) (l u off:Nat):ja8 st sz x K (.ptr l u off) = ∃cs,j0 st.ob l u=some cs∧st.ro≤u∧x.cells.length=sz∧off+sz≤cs.length∧x.cells.all V.leaf=true∧K { v:=jq,obs:=[(l,⟨u,.cells (j5 cs off x.cells)⟩)] }:=rfl
section
variable {E:Env}{Yf:YF}{st:St}{ub:Nat}{K:St→Nat→Prop}{d:Option Nat}{nm:Bool}
theorem jqu {z:List V}:j6 E Yf ⟨d,.alloc z,none,nm⟩ st ub K=K (st.app d { v:=.ptr (jH d nm st.fb ub) ub 0,obs:=[(jH d nm st.fb ub,⟨ub,.cells z⟩)] }) (ub+64):=by
 rw[jM _ rfl rfl];simp only[aop,Jd,jN,Jo]
theorem j0l {sz:Nat}{x:A}:j6 E Yf ⟨d,.box sz x,none,nm⟩ st ub K=(((eval E st.tm x).cells.length=sz∧(eval E st.tm x).cells.all V.leaf=true)∧K (st.app d { v:=.ptr (jH d nm st.fb ub) ub 0,obs:=[(jH d nm st.fb ub,⟨ub,.cells (eval E st.tm x).cells⟩)] }) (ub+64)):=by
 rw[jM _ rfl rfl];simp only[aop,Jd,jc8,jN,Jo]
theorem jqm {sz:Nat}{p x:A}:j6 E Yf ⟨d,.store sz p x,none,nm⟩ st ub K=ja8 st sz (eval E st.tm x) (fun a=>K (st.app d a) (ub+64)) (eval E st.tm p):=by
 rw[jM _ rfl rfl]
 simp only[aop]
 generalize eval E st.tm p=vp
 cases vp <;> simp only[Qu,ja8]
 rename_i l u off
 cases j0 st.ob l u with
 | none=>simp[wpD]
 | some cs=>simp only[Option.bind_some,jc8,jN,Option.some.injEq,exists_eq_left',Nat.ble_eq,and_assoc]
end
attribute [simp] jsn Wk jkd j33 app_ro app_nx app_fb app_df app_ob JC Ju
@[simp] theorem cells_agg (cs:List V):(V.agg cs).cells=cs:=rfl
@[simp] theorem j4v (b:Bool):(V.bool b).cells=[.bool b]:=rfl
@[simp] theorem cells_int (k:IntKind) (n:Int):(V.int k n).cells=[.int k n]:=rfl
@[simp] theorem cells_str (s:List UInt8):(V.str s).cells=[.str s]:=rfl
@[simp] theorem cells_sl (t:Option (Nat × Nat)) (b:Bool) (n:Nat) (cs:List V):(V.sl t b n cs).cells=[.sl t b n cs]:=rfl
@[simp] theorem j3x (t:TypeId) (v:V):(V.iface t v).cells=[.iface t v]:=rfl
@[simp] theorem leaf_bool (b:Bool):(V.bool b).leaf=true:=rfl
@[simp] theorem leaf_int (k:IntKind) (n:Int):(V.int k n).leaf=true:=rfl
@[simp] theorem leaf_str (s:List UInt8):(V.str s).leaf=true:=rfl
@[simp] theorem leaf_sl (t:Option (Nat × Nat)) (b:Bool) (n:Nat) (cs:List V):(V.sl t b n cs).leaf=true:=rfl
@[simp] theorem j4r (t:TypeId) (v:V):(V.iface t v).leaf=true:=rfl
@[simp] theorem j4q:V.nilif.leaf=true:=rfl
@[simp] theorem j3w:V.nilif.cells=[.nilif]:=rfl
@[simp] theorem ju6 (off l u o:Nat):W0 off (.ptr l u o)=some (.ptr l u (o+off)):=rfl
@[simp] theorem jt5 (off:Nat) (cs:List V) (o:Nat):W0 off (.eptr cs o)=some (.eptr cs (o+off)):=rfl
@[simp] theorem Q9 (k:Nat) (cs:List V) (off:Nat):XQ (some k) cs off=if off+k≤cs.length then some (.agg ((cs.drop off).take k)) else none:=rfl
@[simp] theorem j4j (cs vs:List V) (h:vs.length=cs.length):j5 cs 0 vs=vs:=by simp[j5,← h]
def kOps (E:Env) (Yf:YF) (r:List AOpr) (K:St→Prop):St→Nat→Prop:=fun st ub=>WQ E Yf r st ub K
def kNrm (Q:Ex→St→Prop):St→Prop:=fun s=>Q .nrm s
def jqj (E:Env) (Yf:YF) (b:C) (Q:Ex→St→Prop):Ex→St→Prop:=fun e s=>match e with
 | .nrm=>wpC E Yf b s Q
 | e=>Q e s
def kBlk (i:Nat) (Q:Ex→St→Prop):Ex→St→Prop:=fun e s=>match e with
 | .exit j=>if j=i then Q .nrm s else Q (.exit j) s
 | e=>Q e s
def Qo (K:St→Nat→Prop) (st:St) (d:Option Nat) (ub:Nat):V→Prop:=fun v=>K (st.setT d v) (ub+64)
def WW (K:St→Nat→Prop) (st:St) (d:Option Nat) (ub:Nat):Delta→Prop:=fun δ=>K (st.app d δ) (ub+64)
def kIf (E:Env) (Yf:YF) (a b:C) (st:St) (Q:Ex→St→Prop):Bool→Prop
 | true=>wpC E Yf a st Q
 | false=>wpC E Yf b st Q
def kGd (E:Env) (Yf:YF) (o:AOpr) (st:St) (ub:Nat) (K:St→Nat→Prop):Bool→Prop
 | true=>j6 E Yf o st ub K
 | false=>K (st.setT o.dst jq) ub
def jti (I:Nat→St→Prop) (k:Nat) (Q:Ex→St→Prop):Ex→St→Prop:=fun e s=>match e with
 | .nrm=>∃j,j<k∧I j s
 | e=>Q e s
def jzr (res:List ARes) (r:V):Ex→St→Prop:=fun e s=>ja7 res (e,s)=some r
def ifK:V→(Bool→Prop)→Prop
 | .bool c,k=>k c
 | _,_=>False
def gdK:V→Bool→(Bool→Prop)→Prop
 | .bool c,b,k=>k (c == b)
 | .tup [],_,k=>k false
 | _,_,_=>False
section
variable {E:Env}{Yf:YF}{st:St}{ub:Nat}{K:St→Nat→Prop}{d:Option Nat}{nm:Bool}{Q:Ex→St→Prop}
theorem jxt {r:List AOpr}{K:St→Prop}:kOps E Yf r K st ub=WQ E Yf r st ub K:=propext Iff.rfl
theorem jxu:kNrm Q st=Q .nrm st:=propext Iff.rfl
theorem jhl {b:C}:jqj E Yf b Q .nrm st=wpC E Yf b st Q:=propext Iff.rfl
theorem js6 {b:C}{i:Nat}:jqj E Yf b Q (.exit i) st=Q (.exit i) st:=propext Iff.rfl
theorem jni {b:C}:jqj E Yf b Q .ret st=Q .ret st:=propext Iff.rfl
theorem jx4 {i:Nat}:kBlk i Q .nrm st=Q .nrm st:=propext Iff.rfl
theorem jjw {i j:Nat}:kBlk i Q (.exit j) st=if j=i then Q .nrm st else Q (.exit j) st:=propext Iff.rfl
theorem jx3 {i:Nat}:kBlk i Q .ret st=Q .ret st:=propext Iff.rfl
theorem jxd {v:V}:Qo K st d ub v=K (st.setT d v) (ub+64):=propext Iff.rfl
theorem jat {δ:Delta}:WW K st d ub δ=K (st.app d δ) (ub+64):=propext Iff.rfl
theorem jxv {a b:C}:kIf E Yf a b st Q true=wpC E Yf a st Q:=propext Iff.rfl
theorem jtj {a b:C}:kIf E Yf a b st Q false=wpC E Yf b st Q:=propext Iff.rfl
theorem jxw {o:AOpr}:kGd E Yf o st ub K true=j6 E Yf o st ub K:=propext Iff.rfl
theorem jtk {o:AOpr}:kGd E Yf o st ub K false=K (st.setT o.dst jq) ub:=propext Iff.rfl
theorem jth {I:Nat→St→Prop}{k:Nat}:jti I k Q .nrm st = ∃j,j<k∧I j st:=propext Iff.rfl
theorem jpu {I:Nat→St→Prop}{k i:Nat}:jti I k Q (.exit i) st=Q (.exit i) st:=propext Iff.rfl
theorem jtg {I:Nat→St→Prop}{k:Nat}:jti I k Q .ret st=Q .ret st:=propext Iff.rfl
theorem jx7 {c:Bool}{k:Bool→Prop}:ifK (.bool c) k=k c:=propext Iff.rfl
theorem jya {c b:Bool}{k:Bool→Prop}:gdK (.bool c) b k=k (c == b):=propext Iff.rfl
theorem jx9 {b:Bool}{k:Bool→Prop}:gdK jq b k=k false:=propext Iff.rfl
theorem j24 {b:Bool}{k:Bool→Prop}:gdK (.tup []) b k=k false:=propext Iff.rfl
theorem j2w:wpC E Yf .skip st Q=Q .nrm st:=propext Iff.rfl
theorem kC_ret:wpC E Yf .ret st Q=Q .ret st:=propext Iff.rfl
theorem j2x {i:Nat}:wpC E Yf (.exit i) st Q=Q (.exit i) st:=propext Iff.rfl
theorem jxs {K:St→Prop}:WQ E Yf [] st ub K=K (st.setN ub):=propext Iff.rfl
theorem jtu {ops:List AOpr}:wpC E Yf (.region ops) st Q=WQ E Yf ops st st.nx (kNrm Q):=propext Iff.rfl
theorem jzu {a b:C}:wpC E Yf (.seq a b) st Q=wpC E Yf a st (jqj E Yf b Q):=propext Iff.rfl
theorem jnm {i:Nat}{a:C}:wpC E Yf (.block i a) st Q=wpC E Yf a st (kBlk i Q):=propext Iff.rfl
theorem j2z {c:A}{a b:C}:wpC E Yf (.cond c a b) st Q=ifK (eval E st.tm c) (kIf E Yf a b st Q):=by
 rw[jvm]
 cases h:eval E st.tm c <;> simp[wpIf,ifK]
 rename_i t
 cases t <;> simp[kIf]
theorem jtf {o:AOpr}{r:List AOpr}{K:St→Prop}:WQ E Yf (o::r) st ub K=j6 E Yf o st ub (kOps E Yf r K):=propext Iff.rfl
theorem jlo {op:AOp}{t:Nat}{b:Bool}:j6 E Yf ⟨d,op,some (t,b),nm⟩ st ub K=gdK (st.tm t) b (kGd E Yf ⟨d,op,none,nm⟩ st ub K):=by
 rw[jh4]
 cases h:st.tm t with
 | bool c=>cases c <;> cases b <;> simp[Qe,gdK,kGd]
 | tup l=>cases l <;> simp[Qe,gdK,kGd]
 | _=>simp[Qe,gdK]
theorem kS_mov {x:A}:j6 E Yf ⟨d,.mov x,none,nm⟩ st ub K=Qo K st d ub (eval E st.tm x):=j0k
theorem jxq {z:List V}:j6 E Yf ⟨d,.alloc z,none,nm⟩ st ub K=WW K st d ub { v:=.ptr (jH d nm st.fb ub) ub 0,obs:=[(jH d nm st.fb ub,⟨ub,.cells z⟩)] }:=jqu
theorem kS_box {sz:Nat}{x:A}:j6 E Yf ⟨d,.box sz x,none,nm⟩ st ub K=(((eval E st.tm x).cells.length=sz∧(eval E st.tm x).cells.all V.leaf=true)∧WW K st d ub { v:=.ptr (jH d nm st.fb ub) ub 0,obs:=[(jH d nm st.fb ub,⟨ub,.cells (eval E st.tm x).cells⟩)] }):=j0l
theorem jxe {sz:Nat}{p x:A}:j6 E Yf ⟨d,.store sz p x,none,nm⟩ st ub K=ja8 st sz (eval E st.tm x) (WW K st d ub) (eval E st.tm p):=jqm
theorem jxk {t:TypeId}{x:A}:j6 E Yf ⟨d,.iface t x,none,nm⟩ st ub K=Qo K st d ub (.iface t (eval E st.tm x)):=by rw[jM _ rfl rfl];simp only[aop,Wa,Qt];rfl
def jhv (t:TypeId) (zero:V) (ok:Bool):V→Option V
 | .iface t' v=>if t'=t then some (if ok then .tup [v,.bool true] else v) else if ok then some (.tup [zero,.bool false]) else none
 | .nilif=>if ok then some (.tup [zero,.bool false]) else none
 | _=>none
theorem jte {t:TypeId}{zero:V}{a:Bool}{x:A}:j6 E Yf ⟨d,.assert t zero a x,none,nm⟩ st ub K=wpV (jhv t zero a (eval E st.tm x)) (Qo K st d ub):=by
 refine JZ rfl rfl fun c=>?_
 simp only[aop,jhv]
 generalize eval E st.tm x=vx
 cases vx with
 | iface b v=>by_cases h:b=t <;> cases a <;> simp[h,one]
 | nilif=>cases a <;> rfl
 | _=>rfl
theorem j2f {f:Fn}{a b:List A}:j6 E Yf ⟨d,.mkFn f a b,none,nm⟩ st ub K=Qo K st d ub (.fn f (a.map (eval E st.tm)) (b.map (eval E st.tm))):=jvd
theorem j2b {c a b:A}:j6 E Yf ⟨d,.pick c a b,none,nm⟩ st ub K=wpV (jwj (eval E st.tm c) (eval E st.tm a) (eval E st.tm b)) (Qo K st d ub):=jvb
theorem kS_bin {op:BinOp}{x y:A}:j6 E Yf ⟨d,.bin op x y,none,nm⟩ st ub K=wpV (Y5 op (eval E st.tm x) (eval E st.tm y)) (Qo K st d ub):=j0m
theorem kS_un {op:UnOp}{x:A}:j6 E Yf ⟨d,.un op x,none,nm⟩ st ub K=wpV (unV op (eval E st.tm x)) (Qo K st d ub):=j41
theorem kS_eq {neg:Bool}{k:EqK}{x y:A}:j6 E Yf ⟨d,.eq neg k x y,none,nm⟩ st ub K=wpV (ju7 st.ob neg k (eval E st.tm x) (eval E st.tm y)) (Qo K st d ub):=j42
theorem j2g {g:Option Nat}{x:A}:j6 E Yf ⟨d,.load g x,none,nm⟩ st ub K=wpV (Yw st.ob g (eval E st.tm x)) (Qo K st d ub):=jve
theorem jlr {x:A}:j6 E Yf ⟨d,.nilCheck x,none,nm⟩ st ub K=wpV (jam (eval E st.tm x)) (Qo K st d ub):=jh6
theorem jjt {off:Nat}{x:A}:j6 E Yf ⟨d,.fieldAddr off x,none,nm⟩ st ub K=wpV (W0 off (eval E st.tm x)) (Qo K st d ub):=jgr
theorem jxl {sz:Nat}{x i:A}:j6 E Yf ⟨d,.idxSl sz x i,none,nm⟩ st ub K=wpV (JK sz (eval E st.tm x) (eval E st.tm i)) (Qo K st d ub):=jqp
theorem jtd {len sz:Nat}{x i:A}:j6 E Yf ⟨d,.idxArr len sz x i,none,nm⟩ st ub K=wpV (Yk len sz (eval E st.tm x) (eval E st.tm i)) (Qo K st d ub):=jol
theorem j2c {g:Option Nat}{off:Nat}{x:A}:j6 E Yf ⟨d,.part g off x,none,nm⟩ st ub K=wpV (j1n g off (eval E st.tm x)) (Qo K st d ub):=jvc
theorem jtc {x i:A}:j6 E Yf ⟨d,.idxStr x i,none,nm⟩ st ub K=wpV (Wr (eval E st.tm x) (eval E st.tm i)) (Qo K st d ub):=jok
theorem jtb {g:Option Nat}{len sz:Nat}{x i:A}:j6 E Yf ⟨d,.idxVal g len sz x i,none,nm⟩ st ub K=wpV (Qp g len sz (eval E st.tm x) (eval E st.tm i)) (Qo K st d ub):=joj
theorem jxf {x:A}{lo hi:Option A}:j6 E Yf ⟨d,.slStr x lo hi,none,nm⟩ st ub K=wpV (XR (lo.map (eval E st.tm)) (hi.map (eval E st.tm)) (eval E st.tm x)) (Qo K st d ub):=jqn
theorem j2a {sz:Nat}{x:A}{lo hi:Option A}:j6 E Yf ⟨d,.slSl sz x lo hi,none,nm⟩ st ub K=wpV (QQ sz (lo.map (eval E st.tm)) (hi.map (eval E st.tm)) (eval E st.tm x)) (Qo K st d ub):=jva
theorem js9 {x:A}:j6 E Yf ⟨d,.lenStr x,none,nm⟩ st ub K=wpV (jhj (eval E st.tm x)) (Qo K st d ub):=joh
theorem jxj {x:A}:j6 E Yf ⟨d,.lenSl x,none,nm⟩ st ub K=wpV (QY (eval E st.tm x)) (Qo K st d ub):=jqo
theorem jta {x:A}:j6 E Yf ⟨d,.lenMap x,none,nm⟩ st ub K=wpV (jhk st.ob (eval E st.tm x)) (Qo K st d ub):=joi
theorem jpt {x:A}{i:Nat}:j6 E Yf ⟨d,.extract x i,none,nm⟩ st ub K=wpV (jc1 i (eval E st.tm x)) (Qo K st d ub):=jks
theorem j2h {k:IntKind}{x:A}:j6 E Yf ⟨d,.conv k x,none,nm⟩ st ub K=wpV (XO k (eval E st.tm x)) (Qo K st d ub):=jvf
theorem js7 {b:Bool}{xs:List A}:j6 E Yf ⟨d,.minmax b xs,none,nm⟩ st ub K=wpV (Ql b (xs.map (eval E st.tm))) (Qo K st d ub):=jof
theorem jxp {z:List V}{ps:List (Nat × Nat × A)}:j6 E Yf ⟨d,.build z ps,none,nm⟩ st ub K=wpV ((fill z (jx (eval E st.tm) ps)).map .agg) (Qo K st d ub):=jqt
theorem js8 {q:LK}{z:V}{a:Bool}{m k:A}:j6 E Yf ⟨d,.lookup q z a m k,none,nm⟩ st ub K=wpV (Qn st.ob q z a (eval E st.tm m) (eval E st.tm k)) (Qo K st d ub):=jog
end
attribute [simp ↓] j2w kC_ret j2x jtu jzu jnm j2z jxs jtf jlo kS_mov jxq kS_box jxe jxk jte j2f j2b kS_bin kS_un kS_eq j2g jlr jjt jxl jtd j2c jtc jtb jxf j2a js9 jxj jta jpt j2h js7 jxp js8
attribute [simp ↓] jxt jxu jhl js6 jni jx4 jjw jx3 jxd jat jxv jtj jxw jtk jth jpu jtg
attribute [simp] jx7 jya jx9 j24 j0i ju9 jc8 jvl jkq
def V.plain:V→Bool
 | .agg cs=>cs.all V.pureLeaf
 | .fn ..=>false
 | v=>v.pureLeaf
theorem Xo {st:St}{keep:Bool}{i:Nat}{v:V}(h:v.pureLeaf=true):jn st keep i v=some v:=by
 cases v with
 | sl t a n cs=>cases t with
  | none=>rfl
  | some t=>cases h
 | _=>first|rfl|(simp[V.pureLeaf]at h;done)|(simp only[jn,JH,h,if_true])
theorem jmh {v:V}(h:v.pureLeaf=true):v.tok=[]:=by
 cases v with
 | sl t a n cs=>cases t with
  | none=>rfl
  | some t=>cases h
 | _=>first|rfl|(simp[V.pureLeaf]at h;done)
theorem jb3 {st:St}{keep:Bool}:∀ {i:Nat}{cs:List V},cs.all V.pureLeaf=true→XV st keep i cs=some cs
 | _,[],_=>rfl
 | i,c::cs,h=>by
  simp only[List.all_cons,Bool.and_eq_true]at h
  simp[XV,Xo h.1,jb3 h.2]
theorem jr0 {st:St}{keep:Bool}{i:Nat}{v:V}(h:v.plain=true):XS st keep i v=some v:=by
 cases v with
 | agg cs=>simp[XS,jb3 (show cs.all V.pureLeaf=true from h)]
 | fn=>cases h
 | _=>refine Eq.trans (b:=jn st keep i _) rfl (Xo ?_);exact h
theorem jbe {v:V}(h:v.plain=true):v.toks=[]:=by
 cases v with
 | agg cs=>
  simp only[V.toks,List.flatMap_eq_nil_iff]
  intro x a
  exact jmh (List.all_eq_true.1 h x a)
 | fn=>cases h
 | sl t b n cs=>cases t with
  | none=>rfl
  | some t=>cases h
 | _=>first|rfl|cases h
theorem jaj {st:St}{keep:Bool}:∀ {i:Nat}{l:List V},l.all V.plain=true→JJ st keep i l=some l
 | _,[],_=>rfl
 | i,c::cs,h=>by
  simp only[List.all_cons,Bool.and_eq_true]at h
  simp[JJ,jr0 h.1,jaj h.2]
def j0t:List V→V
 | [v]=>v
 | l=>.tup l
theorem QI {res:List ARes}{st:St}{l:List V}(a:st.df=[]) (e:res.mapM (jp st)=some l) (b:l.all V.plain=true):ja7 res (.ret,st)=some (j0t l):=by
 have f:l.flatMap V.toks=[]:=by
  rw[List.flatMap_eq_nil_iff]
  intro x c
  exact jbe (List.all_eq_true.1 b x c)
 simp only[ja7,Ym a,Yg a,if_true,e,Option.bind_some,Yv,f,nodup,jaj b,if_true]
 match l with
 | []=>rfl
 | [v]=>rfl
 | v::u::l=>rfl
theorem J0 {res:List ARes}{st:St}{r:V}{l:List V}(b:st.df=[]) (a:res.mapM (jp st)=some l) (c:l.all V.plain=true) (h:j0t l=r):jzr res r .ret st:=by
 subst h
 exact QI b a c
attribute [simp] fill jx
theorem jek {ub:Nat}{v:V}(h:v.pureLeaf=true):Y3 ub v=v:=by
 cases v with
 | sl t a n cs=>cases t with
  | none=>rfl
  | some t=>cases h
 | _=>rfl
theorem jej {ub:Nat}{v:V}(h:v.plain=true):jbn ub v=v:=by
 cases v with
 | agg cs=>
  have:cs.map (Y3 ub)=cs:=by
   conv=>rhs;rw[← List.map_id cs]
   exact List.map_congr_left fun x a=>jek (List.all_eq_true.1 h x a)
  simp only[jbn,this]
 | sl t b n cs=>exact jek h
 | _=>rfl
theorem Y9 {ub:Nat}{v:V}(h:v.plain=true):Xg ub v=some { v:=v }:=by
 have b:toksRes v=[]:=by
  cases v with
  | tup c=>cases h
  | _=>exact jbe h
 have a:jbo ub v=v:=by
  cases v with
  | tup c=>cases h
  | undef=>cases h
  | _=>exact jej (ub:=ub) h
 simp[Xg,b,a]
theorem Jh {ub:Nat}{l:List V}(h:l.all V.plain=true):Xg ub (.tup l)=some { v:=.tup l }:=by
 have b:toksRes (.tup l)=[]:=by
  simp only[toksRes,List.flatMap_eq_nil_iff]
  intro x a
  exact jbe (List.all_eq_true.1 h x a)
 have c:jbo ub (.tup l)=.tup l:=by
  have:l.map (jbn ub)=l:=by
   conv=>rhs;rw[← List.map_id l]
   exact List.map_congr_left fun x a=>jej (List.all_eq_true.1 h x a)
  simp only[jbo,this]
 simp[Xg,b,c]
@[simp] theorem j3l (ob:ZO) (neg:Bool) (l:List LK) (a b:List V):ju7 ob neg (.struct l) (.agg a) (.agg b)=(jr l a b).map fun b=>.bool (xor neg b):=rfl
attribute [simp] jr WS
theorem jP {E:Env}{f:FuncId}{af:AF}{args:List V}{r:V}(a:E.fc f=some af) (h:wpC E Xx af.body (QO args) (jzr af.res r)):Ev E f args r:=Ev_wp a h
theorem YT {E:Env}{Yf:YF}{a:C}{Q:Ex→St→Prop}(I:Nat→St→Prop) {n:Nat}{st:St}(b:I n st) (c:∀k s,I k s→wpC E Yf a s (jti I k Q)):wpC E Yf (.loop a) st Q :=
 j0h I b c
theorem XX {E:Env}{Yf:YF}{st:St}{ub:Nat}{K:St→Nat→Prop}{d:Option Nat}{nm:Bool}{f:FuncId}{xs:List A}{vs:List V}{v:V}(a:xs.map (eval E st.tm)=vs) (b:E.sh nm f=false) (hp:(vs.all fun v=>v.strip.pureTop)=true)
 (c:Ev E f (vs.map V.strip) v) (h:wpD (Xg ub v) (WW K st d ub)):j6 E Yf ⟨d,.call f xs,none,nm⟩ st ub K:=jqs a b hp c h
def AOp.plainOp:AOp→Bool
 | .call ..|.callV ..|.entry _|.nextMap _=>false
 | _=>true
def AOp.valOp:AOp→Bool
 | .mov _|.pick ..|.bin ..|.eq ..|.un ..|.build ..|.load ..|.nilCheck _|.fieldAddr ..|.idxSl ..|.idxArr ..|.part ..|.idxStr ..|.idxVal ..|.slStr ..|.slSl ..|.lenStr _|.lenSl _|.lenMap _|.extract ..|.mkFn ..|.lookup ..|.iface ..|.assert ..|.conv ..|.minmax ..=>true
 | _=>false
def kDr (E:Env) (r:List AOpr) (K:List FP→St→Prop):St→Nat→Prop:=fun st ub=>jE E r st ub K
def kFp (f:FP) (K:List FP→St→Prop):List FP→St→Prop:=fun fs s=>K (f::fs) s
def kDQ (free:List (Nat × Nat)) (Q:Ex→St→Prop):List FP→St→Prop:=fun fs s=>XA free fs=true∧Qk fs=true∧Q .nrm s
def kDGd (E:Env) (o:AOpr) (r:List AOpr) (st:St) (ub:Nat) (K:List FP→St→Prop):Bool→Prop
 | true=>jE E (o::r) st ub K
 | false=>jE E r (st.setT o.dst jq) (ub+64) (kFp {} K)
def jas (E:Env) (r:List AOpr) (K:List FP→St→Prop) (ρ:A→V) (op:AOp) (st:St) (d:Option Nat) (ub:Nat):Delta→Prop:=fun δ=>jE E r (st.app d δ) (ub+64) (kFp (jb9 ρ op δ) K)
theorem jib {e:FuncId→List V→Option V}{g:A→V}{ob:ZO}{tk:Nat→Bool}{ro f ub:Nat}{op:AOp}{δ:Delta}(h:op.valOp=true) (b:aop e g ob tk ro f ub op=some δ):∃v,δ = { v:=v }:=by
 have a:∀ {o:Option V},o.bind one=some δ→∃v,δ = { v:=v }:=fun {o} c=>by
  cases o with
  | none=>cases c
  | some v=>cases c;exact⟨v,rfl⟩
 cases op <;> first|(cases h;done)|skip
 all_goals simp only[aop]at b
 all_goals first
  | exact a b
  | exact a (o:=some _) b
  | (repeat' split at b) <;> first|(cases b;done)|exact a b|exact a (o:=some _) b|skip
 all_goals (try simp only[Option.bind_eq_some_iff]at b)
 all_goals first
  | (obtain⟨_,_,c⟩:=b;exact a (o:=some _) c)
  | skip
 all_goals
  obtain⟨_,_,x,_,c⟩:=b
  first|exact a (o:=some _) c|(rcases x with _|⟨_,_⟩ <;> exact a (o:=some _) c)
def kPin (E:Env) (fs:List AOpr) (st:St) (Q:Ex→St→Prop):St→Nat→Prop:=fun s ub=>jE E fs s ub fun _ s'=>jcl fs st s'=true∧Q .nrm s'
def kPQ (fs:List AOpr) (st:St) (Q:Ex→St→Prop):List FP→St→Prop:=fun _ s'=>jcl fs st s'=true∧Q .nrm s'
section
variable {E:Env}{Yf:YF}{st:St}{ub:Nat}{K:List FP→St→Prop}{d:Option Nat}{nm:Bool}{Q:Ex→St→Prop}{r:List AOpr}
theorem kC_pin {o:AOpr}{fs:List AOpr}:wpC E Yf (.pin o fs) st Q=j6 E Yf o st st.nx (kPin E fs st Q):=propext Iff.rfl
theorem jxr {fs:List AOpr}{s:St}:kPin E fs st Q s ub=jE E fs s ub (kPQ fs st Q):=propext Iff.rfl
theorem j2i {fs:List AOpr}{f:List FP}{s:St}:kPQ fs st Q f s=(jcl fs st s=true∧Q .nrm s):=propext Iff.rfl
theorem jrk {s s':St}:jcl [] s s'=true:=by simp[jcl]
theorem joy {op:AOp}{a:Option (Nat × Bool)}{t:Nat}{fs:List AOpr}{s s':St}:jcl (⟨some t,op,a,nm⟩::fs) s s'=(V.eqb (s.tm t) (s'.tm t) && jcl fs s s'):=by simp[jcl]
theorem jym (v:V):V.eqb v v=true:=jc2 v
theorem j2n:kDr E r K st ub=jE E r st ub K:=propext Iff.rfl
theorem j2l {f:FP}{fs:List FP}:kFp f K fs st=K (f::fs) st:=propext Iff.rfl
theorem j2u {a:List (Nat × Nat)}{fs:List FP}:kDQ a Q fs st=(XA a fs=true∧Qk fs=true∧Q .nrm st):=propext Iff.rfl
theorem j2y {ops:List AOpr}{a:List (Nat × Nat)}:wpC E Yf (.draw ops a) st Q=jE E ops st st.nx (kDQ a Q):=propext Iff.rfl
theorem j2m:jE E [] st ub K=K [] (st.setN ub):=propext Iff.rfl
theorem jjv {o:AOpr}:kDGd E o r st ub K true=jE E (o::r) st ub K:=propext Iff.rfl
theorem jbm {o:AOpr}:kDGd E o r st ub K false=jE E r (st.setT o.dst jq) (ub+64) (kFp {} K):=propext Iff.rfl
theorem jtl {op:AOp}{t:Nat}{b:Bool}:jE E (⟨d,op,some (t,b),nm⟩::r) st ub K=gdK (st.tm t) b (kDGd E ⟨d,op,none,nm⟩ r st ub K):=by
 have i:AOpr.name ⟨d,op,some (t,b),nm⟩=AOpr.name ⟨d,op,none,nm⟩:=rfl
 have g:∀c,st.tm t=.bool c→(jE E (⟨d,op,some (t,b),nm⟩::r) st ub K=kDGd E ⟨d,op,none,nm⟩ r st ub K (c == b)):=fun c f=>by
  cases e:(c == b)
  ·have:wanted ⟨d,op,some (t,b),nm⟩ st.tm=some false:=by simp[wanted,f,e]
   rw[jE,this,jbm,← Qt];rfl
  ·have:wanted ⟨d,op,some (t,b),nm⟩ st.tm=some true:=by simp[wanted,f,e]
   rw[jE,this,jjv,jE];rfl
 cases h:st.tm t with
 | bool c=>rw[g c h];rfl
 | tup l=>cases l with
  | nil=>
   have:wanted ⟨d,op,some (t,b),nm⟩ st.tm=some false:=by simp[wanted,h]
   rw[jE,this]
   show _=kDGd E ⟨d,op,none,nm⟩ r st ub K false
   rw[jbm,← Qt];rfl
  | cons a l=>
   have:wanted ⟨d,op,some (t,b),nm⟩ st.tm=none:=by simp[wanted,h]
   rw[jE,this];rfl
 | _=>
  have:wanted ⟨d,op,some (t,b),nm⟩ st.tm=none:=by simp[wanted,h]
  rw[jE,this];rfl
theorem XK {op:AOp}(h:op.plainOp=true):jE E (⟨d,op,none,nm⟩::r) st ub K=wpD (aop (fun _ _=>none) (eval E st.tm) st.ob st.tk st.ro (AOpr.name ⟨d,op,none,nm⟩ st.fb ub) ub op) (jas E r K (eval E st.tm) op st d ub):=by
 cases op <;> first|cases h;done|(simp only[jE,wanted,jB,AOp.far,true_and];rfl)
theorem Jr {op:AOp}(h:op.valOp=true):jE E (⟨d,op,none,nm⟩::r) st ub K=j6 E Yf ⟨d,op,none,nm⟩ st ub (kDr E r (kFp { ro:=rdOb (eval E st.tm) op,rt:=rdTk (eval E st.tm) op } K)):=by
 have e:op.plainOp=true:=by cases op <;> first|rfl|cases h
 have f:op.isCall=false:=by cases op <;> first|rfl|cases h
 have c:op.isNext=false:=by cases op <;> first|rfl|cases h
 rw[XK e,jM _ f c]
 refine propext ⟨?_,?_⟩
 ·rintro⟨g,a,b⟩
  obtain⟨v,rfl⟩:=jib h a
  exact⟨_,a,b⟩
 ·rintro⟨g,a,b⟩
  obtain⟨v,rfl⟩:=jib h a
  exact⟨_,a,b⟩
theorem jxx {sz:Nat}{p x:A}:jE E (⟨d,.store sz p x,none,nm⟩::r) st ub K=ja8 st sz (eval E st.tm x) (jas E r K (eval E st.tm) (.store sz p x) st d ub) (eval E st.tm p):=by
 rw[XK rfl]
 simp only[aop]
 generalize a:jas E r K (eval E st.tm) (.store sz p x) st d ub=k
 clear a
 generalize eval E st.tm p=vp
 cases vp <;> simp only[Qu,ja8]
 rename_i l u off
 cases j0 st.ob l u with
 | none=>simp[wpD]
 | some cs=>simp only[Option.bind_some,jc8,jN,Option.some.injEq,exists_eq_left',Nat.ble_eq,and_assoc]
theorem jx2 {z:List V}:jE E (⟨d,.alloc z,none,nm⟩::r) st ub K=jas E r K (eval E st.tm) (.alloc z) st d ub { v:=.ptr (jH d nm st.fb ub) ub 0,obs:=[(jH d nm st.fb ub,⟨ub,.cells z⟩)] }:=by
 rw[XK rfl];simp only[aop,Jd,jN,Jo]
theorem kD_box {sz:Nat}{x:A}:jE E (⟨d,.box sz x,none,nm⟩::r) st ub K=(((eval E st.tm x).cells.length=sz∧(eval E st.tm x).cells.all V.leaf=true)∧jas E r K (eval E st.tm) (.box sz x) st d ub { v:=.ptr (jH d nm st.fb ub) ub 0,obs:=[(jH d nm st.fb ub,⟨ub,.cells (eval E st.tm x).cells⟩)] }):=by
 rw[XK rfl];simp only[aop,Jd,jc8,jN,Jo]
theorem j2v {a:A→V}{op:AOp}{v:V}:jas E r K a op st d ub { v:=v } = jE E r (st.setT d v) (ub+64) (kFp (jb9 a op { v:=v }) K):=by rw[jas,Qt]
theorem jtt {a:A→V}{op:AOp}{δ:Delta}:jas E r K a op st d ub δ=jE E r (st.app d δ) (ub+64) (kFp (jb9 a op δ) K):=propext Iff.rfl
theorem JU {f:FuncId}{xs:List A}{args:List V}{v:V}(c:Ev E f args v) (g:(xs.map fun x=>(eval E st.tm x).strip)=args) (j:E.sh nm f=false) (hp:args.all V.pureTop=true) (h:wpD (Xg ub v) (jas E r K (eval E st.tm) (.call f xs) st d ub)) :
 jE E (⟨d,.call f xs,none,nm⟩::r) st ub K:=by
 have a:(xs.all fun x=>(eval E st.tm x).strip.pureTop)=true:=by rw[← g,List.all_map]at hp;exact hp
 have e:jB E nm (eval E st.tm) (.call f xs)=none:=by simp only[jB,j,a,Bool.not_false,Bool.and_self,if_true]
 obtain⟨k,b,i⟩:=h
 simp only[jE,wanted,e,AOp.far,true_and]
 exact⟨a,v,g▸c,k,b,i⟩
theorem jR {K:St→Nat→Prop}{f:FuncId}{xs:List A}{args:List V}{v:V}(b:Ev E f args v) (c:(xs.map fun x=>(eval E st.tm x).strip)=args) (j:E.sh nm f=false) (hp:args.all V.pureTop=true) (h:wpD (Xg ub v) (WW K st d ub)) :
 j6 E Yf ⟨d,.call f xs,none,nm⟩ st ub K:=by
 have g:(xs.all fun x=>(eval E st.tm x).strip.pureTop)=true:=by rw[← c,List.all_map]at hp;exact hp
 have e:jB E nm (eval E st.tm) (.call f xs)=none:=by simp only[jB,j,g,Bool.not_false,Bool.and_self,if_true]
 obtain⟨k,a,i⟩:=h
 simp only[j6,wanted,jf,e,QT]
 exact⟨by rw[c];exact hp,v,c▸b,k,a,i⟩
end
/-! What a loop leaves alone. -/
def inR (t:Nat):List (Nat × Nat)→Bool
 | []=>false
 | (a,b)::l=>(decide (a≤t) && decide (t≤b)) || inR t l
@[simp] theorem inR_nil (t:Nat):inR t []=false:=rfl
@[simp] theorem inR_cons (t a b:Nat) (l:List (Nat × Nat)):inR t ((a,b)::l)=((decide (a≤t) && decide (t≤b)) || inR t l):=rfl
def C.ws:C→List Nat
 | .region ops|.draw ops _=>ops.filterMap (·.dst)
 | .pin o fs=>(o::fs).filterMap (·.dst)
 | .seq a b|.cond _ a b=>a.ws++b.ws
 | .block _ a|.loop a=>a.ws
 | _=>[]
def C.noRF:C→Bool
 | .rangeFunc ..=>false
 | .seq a b|.cond _ a b=>a.noRF && b.noRF
 | .block _ a|.loop a=>a.noRF
 | _=>true
structure Keeps (p:Nat→Prop) (st s:St):Prop where
 b:s.fb=st.fb
 r:s.ro=st.ro
 d:s.df=st.df
 t:∀t,¬ p t→s.tm t=st.tm t
theorem Keeps.rfl' (p:Nat→Prop) (st:St):Keeps p st st:=⟨rfl,rfl,rfl,fun _ _=>rfl⟩
theorem Keeps.trans {p q f:Nat→Prop}{a b c:St}(h:Keeps p a b) (e:Keeps q b c) (hp:∀t,p t→f t) (i:∀t,q t→f t):Keeps f a c :=
 ⟨e.b.trans h.b,e.r.trans h.r,e.d.trans h.d,fun t g=>(e.t t fun h=>g (i t h)).trans (h.t t fun h=>g (hp t h))⟩
theorem Keeps.weak {p q:Nat→Prop}{a b:St}(h:Keeps p a b) (hp:∀t,p t→q t):Keeps q a b:=⟨h.b,h.r,h.d,fun t c=>h.t t fun h=>c (hp t h)⟩
theorem jm0 {tm:Nat→V}{d:Option Nat}{v:V}{t:Nat}(h:¬ t∈d.toList):put tm d v t=tm t:=by
 cases d with
 | none=>rfl
 | some d=>exact J7 tm v (fun e=>h (by simp[e]))
theorem Keeps.app {st:St}{d:Option Nat}{δ:Delta}:Keeps (·∈d.toList) st (st.app d δ):=⟨rfl,rfl,rfl,fun _ a=>jm0 a⟩
section
variable {E:Env}{Yf:YF}
theorem jbw {o:AOpr}{st:St}{ub:Nat}{K:St→Nat→Prop}(a:j6 E Yf o st ub K):j6 E Yf o st ub fun s u=>K s u∧Keeps (·∈o.dst.toList) st s:=by
 have call:∀ {f:FuncId}{i:List V},QT E f i st o.dst ub K→QT E f i st o.dst ub fun s u=>K s u∧Keeps (·∈o.dst.toList) st s:=by
  rintro f i ⟨H,v,m,h,c,g⟩
  exact⟨H,v,m,h,c,g,Keeps.app⟩
 unfold j6 at a ⊢
 cases p:wanted o st.tm with
 | none=>simp only[p]at a
 | some b=>
  cases b with
  | false=>simp only[p]at a ⊢;exact⟨a,rfl,rfl,rfl,fun _ j=>jm0 j⟩
  | true=>
   simp only[p]at a ⊢
   cases B:jf (eval E st.tm) o.op with
   | some x=>
    obtain⟨l,u,i⟩:=x
    simp only[B]at a ⊢
    obtain⟨r,z,g⟩:=a
    exact⟨r,z,g,rfl,rfl,rfl,fun _ j=>jm0 j⟩
   | none=>
   simp only[B]at a ⊢
   cases k:jB E o.nm (eval E st.tm) o.op with
   | some I=>
    simp only[k]at a ⊢
    rcases a with⟨w,n,l,z,y,g⟩|⟨w,v,m,h,c,g⟩
    ·exact .inl ⟨w,n,l,z,y,fun r D=>⟨g r D,rfl,rfl,rfl,fun _ j=>jm0 j⟩⟩
    ·exact .inr ⟨w,v,m,h,c,g,Keeps.app⟩
   | none=>
    simp only[k]at a ⊢
    cases G:o.op <;> simp only[G]at a ⊢
    case call f i=>exact call a
    case callV q i=>
     obtain⟨f,first,e,t,a⟩:=a
     exact⟨f,first,e,t,call a⟩
    case nextMap x=>
     obtain⟨l,F,g⟩:=a
     exact⟨l,F,fun h c=>⟨g h c,Keeps.app⟩⟩
    all_goals
     obtain⟨h,c,g⟩:=a
     exact⟨h,c,g,Keeps.app⟩
theorem mem_ws_cons {o:AOpr}{r:List AOpr}{t:Nat}:t∈(o::r).filterMap (·.dst) ↔ t∈o.dst.toList∨t∈r.filterMap (·.dst):=by
 cases h:o.dst with
 | none=>simp[h]
 | some d=>simp[h]
theorem jc7:∀ {ops:List AOpr}{st:St}{ub:Nat}{K:St→Prop},WQ E Yf ops st ub K→WQ E Yf ops st ub fun s=>K s∧Keeps (·∈ops.filterMap (·.dst)) st s
 | [],st,ub,K,hk=>⟨hk,rfl,rfl,rfl,fun _ _=>rfl⟩
 | o::r,st,ub,K,hk=>by
  refine W5 (fun s u h=>?_) (jbw hk)
  refine ja9 (fun c b=>?_) (jc7 h.1)
  exact⟨b.1,h.2.trans b.2 (fun t a=>mem_ws_cons.2 (.inl a)) (fun t a=>mem_ws_cons.2 (.inr a))⟩
theorem WZ:∀ {ops:List AOpr}{st:St}{ub:Nat}{K:List FP→St→Prop},jE E ops st ub K→jE E ops st ub fun f s=>K f s∧Keeps (·∈ops.filterMap (·.dst)) st s
 | [],st,ub,K,e=>⟨e,rfl,rfl,rfl,fun _ _=>rfl⟩
 | o::r,st,ub,K,e=>by
  have g:∀ {c:Delta}{f:List FP→List FP}{ub:Nat},jE E r (st.app o.dst c) ub (fun fs s=>K (f fs) s)→jE E r (st.app o.dst c) ub fun fs s=>K (f fs) s∧Keeps (·∈(o::r).filterMap (·.dst)) st s:=fun h=>
   jz (fun f s y=>⟨y.1,Keeps.app.trans y.2 (fun t x=>mem_ws_cons.2 (.inl x)) (fun t x=>mem_ws_cons.2 (.inr x))⟩) (WZ h)
  unfold jE at e ⊢
  cases w:wanted o st.tm with
  | none=>simp only[w]at e
  | some b=>
   cases b with
   | false=>simp only[w]at e ⊢;exact g (f:=fun fs=>{}::fs) e
   | true=>
    simp only[w]at e ⊢
    cases n:jB E o.nm (eval E st.tm) o.op with
    | some F=>
     simp only[n]at e ⊢
     rcases e with⟨k,v,m,c,a,j⟩|⟨k,u,D,v,B,m,c,a,j⟩|⟨k,u,c,a,j⟩
     ·exact .inl ⟨k,v,m,c,a,g (f:=fun fs=>{ wt:=c.wt,all:=true,seen:=fun l=>(st.ob l).isSome }::fs) j⟩
     ·exact .inr (.inl ⟨k,u,D,v,B,m,c,a,g (f:=fun fs=>{ wo:=c.wo,all:=true,seen:=fun l=>(st.ob l).isSome,nw:=true }::fs) j⟩)
     ·exact .inr (.inr ⟨k,u,c,a,g (f:=fun fs=>{ wo:=c.wo,nw:=true }::fs) j⟩)
    | none=>
     simp only[n]at e ⊢
     refine⟨e.1,?_⟩
     have e:=e.2
     cases z:o.op <;> simp only[z]at e ⊢
     case call f xs=>
      obtain⟨k,v,m,c,a,j⟩:=e
      exact⟨k,v,m,c,a,g (f:=fun fs=>jb9 (eval E st.tm) (.call f xs) c::fs) j⟩
     case callV q xs=>
      obtain⟨f,first,i,p,k,v,m,c,a,j⟩:=e
      exact⟨f,first,i,p,k,v,m,c,a,g (f:=fun fs=>jb9 (eval E st.tm) (.callV q xs) c::fs) j⟩
     all_goals
      obtain⟨c,a,j⟩:=e
      exact⟨c,a,g (f:=fun fs=>jb9 (eval E st.tm) _ c::fs) j⟩
theorem jqv:∀ {c:C},c.noRF=true→∀ {st:St}{Q:Ex→St→Prop},wpC E Yf c st Q→wpC E Yf c st fun e s=>Q e s∧Keeps (·∈c.ws) st s:=by
 intro c
 induction c with
 | skip=>intro _ st Q i;exact⟨i,Keeps.rfl' _ _⟩
 | ret=>intro _ st Q i;exact⟨i,Keeps.rfl' _ _⟩
 | exit id=>intro _ st Q i;exact⟨i,Keeps.rfl' _ _⟩
 | stuck=>intro _ st Q i;exact i
 | rangeFunc f I a b=>intro k;cases k
 | region B=>intro _ st Q i;exact jc7 i
 | draw B D=>intro _ st Q i;exact jz (fun f s h=>⟨h.1.1,h.1.2.1,h.1.2.2,h.2⟩) (WZ i)
 | pin o fs=>intro _ st Q i;exact W5 (fun s u h=>jz (fun f F z=>⟨z.1.1,z.1.2,h.2.trans z.2 (fun t j=>mem_ws_cons.2 (.inl j)) (fun t j=>mem_ws_cons.2 (.inr j))⟩) (WZ h.1)) (jbw i)
 | seq a b p n=>
  intro k st Q i
  have k:=Bool.and_eq_true_iff.1 k
  rw[jzu]
  refine Jv (fun e s g=>?_) (p k.1 i)
  obtain⟨g,l⟩:=g
  cases e
  ·refine Jv (fun e F m=>?_) (n k.2 g)
   exact⟨m.1,l.trans m.2 (fun t j=>List.mem_append.2 (.inl j)) (fun t j=>List.mem_append.2 (.inr j))⟩
  ·exact⟨g,l.weak (fun t j=>List.mem_append.2 (.inl j))⟩
  ·exact⟨g,l.weak (fun t j=>List.mem_append.2 (.inl j))⟩
 | cond q a b p n=>
  intro k st Q i
  have k:=Bool.and_eq_true_iff.1 k
  obtain⟨t,j,G,H⟩:=i
  exact⟨t,j,fun e=>Jv (fun e s g=>⟨g.1,g.2.weak (fun t j=>List.mem_append.2 (.inl j))⟩) (p k.1 (G e)),
   fun e=>Jv (fun e s g=>⟨g.1,g.2.weak (fun t j=>List.mem_append.2 (.inr j))⟩) (n k.2 (H e))⟩
 | block id a y=>
  intro k st Q i
  rw[jnm]
  refine Jv (fun e s g=>?_) (y k i)
  obtain⟨g,l⟩:=g
  cases e
  ·exact⟨g,l⟩
  ·simp only[jjw]at g ⊢
   split at g
   ·rename_i w;simp only[w,if_true];exact⟨g,l⟩
   ·rename_i w;simp only[w,if_false];exact⟨g,l⟩
  ·exact⟨g,l⟩
 | loop a y=>
  intro k st Q i
  obtain⟨N,i⟩:=i
  refine⟨N,?_⟩
  have v:∀ (N:Nat) (st:St),YC (wpC E Yf a) N st Q→YC (wpC E Yf a) N st fun e s=>Q e s∧Keeps (·∈a.ws) st s:=by
   intro N
   induction N with
   | zero=>intro st h;exact h
   | succ N x=>
    intro st h
    refine Jv (fun e s g=>?_) (y k h)
    obtain⟨g,l⟩:=g
    cases e
    ·exact Qd (W:=wpC E Yf a) (fun _ _ _ h i=>Jv h i) (fun e F m=>⟨m.1,l.trans m.2 (fun _ h=>h) (fun _ h=>h)⟩) (x s g)
    ·exact⟨g,l⟩
    ·exact⟨g,l⟩
  exact v N st i
theorem YU {a:C}{Q:Ex→St→Prop}{n:Nat}{st:St}(ws:List (Nat × Nat)) (I:Nat→St→Prop) (u:a.noRF=true) (p:(a.ws.all fun t=>inR t ws)=true) (l:I n st)
 (o:∀k s,I k s→Keeps (fun t=>inR t ws=true) st s→wpC E Yf a s (jti I k Q)):wpC E Yf (.loop a) st Q:=by
 refine YT (fun k s=>I k s∧Keeps (fun t=>inR t ws=true) st s) (n:=n) ⟨l,Keeps.rfl' _ _⟩ fun k s ⟨i,g⟩=>?_
 refine Jv (fun e v b=>?_) (jqv u (o k s i g))
 obtain⟨b,f⟩:=b
 cases e
 ·obtain⟨j,m,c⟩:=b
  exact⟨j,m,c,g.trans f (fun _ h=>h) (fun t q=>List.all_eq_true.1 p t q)⟩
 ·exact b
 ·exact b
def kUp (I:Nat→St→Prop) (N i:Nat) (Q:Ex→St→Prop):Ex→St→Prop:=fun e s=>match e with
 | .nrm=>i<N∧I (i+1) s
 | e=>Q e s
theorem j9 {a:C}{Q:Ex→St→Prop}{st:St}(ws:List (Nat × Nat)) (N:Nat) (I:Nat→St→Prop) (o:a.noRF=true) (m:(a.ws.all fun t=>inR t ws)=true) (f:I 0 st)
 (l:∀i s,i≤N→I i s→Keeps (fun t=>inR t ws=true) st s→wpC E Yf a s (kUp I N i Q)):wpC E Yf (.loop a) st Q:=by
 refine YU (n:=N) ws (fun k s=>∃i,k=N - i∧i≤N∧I i s) o m ⟨0,rfl,Nat.zero_le _,f⟩ ?_
 rintro k s ⟨i,rfl,h,c⟩ j
 refine Jv (fun e q b=>?_) (l i s h c j)
 cases e
 ·obtain⟨p,g⟩:=b
  exact⟨N - (i+1),zO,i+1,rfl,zO,g⟩
 ·exact b
 ·exact b
end
theorem j19 {I:Nat→St→Prop}{N i:Nat}{Q:Ex→St→Prop}{st:St}:kUp I N i Q .nrm st=(i<N∧I (i+1) st):=propext Iff.rfl
theorem jxc {I:Nat→St→Prop}{N i j:Nat}{Q:Ex→St→Prop}{st:St}:kUp I N i Q (.exit j) st=Q (.exit j) st:=propext Iff.rfl
theorem j18 {I:Nat→St→Prop}{N i:Nat}{Q:Ex→St→Prop}{st:St}:kUp I N i Q .ret st=Q .ret st:=propext Iff.rfl
theorem jso:jsp []=true:=rfl
theorem jpm (f:FP) (fs:List FP):jsp (f::fs)=(!f.nw && jsp fs):=rfl
theorem j27 (a:A→V) (o:AOp) (δ:Delta):(jb9 a o δ).nw=false:=rfl
theorem jll {fs:List FP}(h:jsp fs=true):Qk fs=true:=by simp only[Qk,h,Bool.true_or]
theorem jp3 (fs:List FP):XA [] fs=true:=rfl
section
variable {E:Env}{st:St}{ub:Nat}{K:List FP→St→Prop}{d:Option Nat}{nm:Bool}{r:List AOpr}
theorem kD_mov {x:A}:jE E (⟨d,.mov x,none,nm⟩::r) st ub K=j6 E Xx ⟨d,.mov x,none,nm⟩ st ub (kDr E r (kFp { ro:=rdOb (eval E st.tm) (.mov x),rt:=rdTk (eval E st.tm) (.mov x) } K)):=Jr rfl
theorem j2p {c a b:A}:jE E (⟨d,.pick c a b,none,nm⟩::r) st ub K=j6 E Xx ⟨d,.pick c a b,none,nm⟩ st ub (kDr E r (kFp { ro:=rdOb (eval E st.tm) (.pick c a b),rt:=rdTk (eval E st.tm) (.pick c a b) } K)):=Jr rfl
theorem kD_bin {op:BinOp}{x y:A}:jE E (⟨d,.bin op x y,none,nm⟩::r) st ub K=j6 E Xx ⟨d,.bin op x y,none,nm⟩ st ub (kDr E r (kFp { ro:=rdOb (eval E st.tm) (.bin op x y),rt:=rdTk (eval E st.tm) (.bin op x y) } K)):=Jr rfl
theorem kD_eq {neg:Bool}{k:EqK}{x y:A}:jE E (⟨d,.eq neg k x y,none,nm⟩::r) st ub K=j6 E Xx ⟨d,.eq neg k x y,none,nm⟩ st ub (kDr E r (kFp { ro:=rdOb (eval E st.tm) (.eq neg k x y),rt:=rdTk (eval E st.tm) (.eq neg k x y) } K)):=Jr rfl
theorem kD_un {op:UnOp}{x:A}:jE E (⟨d,.un op x,none,nm⟩::r) st ub K=j6 E Xx ⟨d,.un op x,none,nm⟩ st ub (kDr E r (kFp { ro:=rdOb (eval E st.tm) (.un op x),rt:=rdTk (eval E st.tm) (.un op x) } K)):=Jr rfl
theorem jx1 {z:List V}{ps:List (Nat × Nat × A)}:jE E (⟨d,.build z ps,none,nm⟩::r) st ub K=j6 E Xx ⟨d,.build z ps,none,nm⟩ st ub (kDr E r (kFp { ro:=rdOb (eval E st.tm) (.build z ps),rt:=rdTk (eval E st.tm) (.build z ps) } K)):=Jr rfl
theorem j2s {g:Option Nat}{x:A}:jE E (⟨d,.load g x,none,nm⟩::r) st ub K=j6 E Xx ⟨d,.load g x,none,nm⟩ st ub (kDr E r (kFp { ro:=rdOb (eval E st.tm) (.load g x),rt:=rdTk (eval E st.tm) (.load g x) } K)):=Jr rfl
theorem jlw {x:A}:jE E (⟨d,.nilCheck x,none,nm⟩::r) st ub K=j6 E Xx ⟨d,.nilCheck x,none,nm⟩ st ub (kDr E r (kFp { ro:=rdOb (eval E st.tm) (.nilCheck x),rt:=rdTk (eval E st.tm) (.nilCheck x) } K)):=Jr rfl
theorem jju {o:Nat}{x:A}:jE E (⟨d,.fieldAddr o x,none,nm⟩::r) st ub K=j6 E Xx ⟨d,.fieldAddr o x,none,nm⟩ st ub (kDr E r (kFp { ro:=rdOb (eval E st.tm) (.fieldAddr o x),rt:=rdTk (eval E st.tm) (.fieldAddr o x) } K)):=Jr rfl
theorem jx0 {sz:Nat}{x i:A}:jE E (⟨d,.idxSl sz x i,none,nm⟩::r) st ub K=j6 E Xx ⟨d,.idxSl sz x i,none,nm⟩ st ub (kDr E r (kFp { ro:=rdOb (eval E st.tm) (.idxSl sz x i),rt:=rdTk (eval E st.tm) (.idxSl sz x i) } K)):=Jr rfl
theorem jts {len sz:Nat}{x i:A}:jE E (⟨d,.idxArr len sz x i,none,nm⟩::r) st ub K=j6 E Xx ⟨d,.idxArr len sz x i,none,nm⟩ st ub (kDr E r (kFp { ro:=rdOb (eval E st.tm) (.idxArr len sz x i),rt:=rdTk (eval E st.tm) (.idxArr len sz x i) } K)):=Jr rfl
theorem j2q {g:Option Nat}{o:Nat}{x:A}:jE E (⟨d,.part g o x,none,nm⟩::r) st ub K=j6 E Xx ⟨d,.part g o x,none,nm⟩ st ub (kDr E r (kFp { ro:=rdOb (eval E st.tm) (.part g o x),rt:=rdTk (eval E st.tm) (.part g o x) } K)):=Jr rfl
theorem jtr {x i:A}:jE E (⟨d,.idxStr x i,none,nm⟩::r) st ub K=j6 E Xx ⟨d,.idxStr x i,none,nm⟩ st ub (kDr E r (kFp { ro:=rdOb (eval E st.tm) (.idxStr x i),rt:=rdTk (eval E st.tm) (.idxStr x i) } K)):=Jr rfl
theorem jxy {x:A}{lo hi:Option A}:jE E (⟨d,.slStr x lo hi,none,nm⟩::r) st ub K=j6 E Xx ⟨d,.slStr x lo hi,none,nm⟩ st ub (kDr E r (kFp { ro:=rdOb (eval E st.tm) (.slStr x lo hi),rt:=rdTk (eval E st.tm) (.slStr x lo hi) } K)):=Jr rfl
theorem j2o {sz:Nat}{x:A}{lo hi:Option A}:jE E (⟨d,.slSl sz x lo hi,none,nm⟩::r) st ub K=j6 E Xx ⟨d,.slSl sz x lo hi,none,nm⟩ st ub (kDr E r (kFp { ro:=rdOb (eval E st.tm) (.slSl sz x lo hi),rt:=rdTk (eval E st.tm) (.slSl sz x lo hi) } K)):=Jr rfl
theorem jtp {x:A}:jE E (⟨d,.lenStr x,none,nm⟩::r) st ub K=j6 E Xx ⟨d,.lenStr x,none,nm⟩ st ub (kDr E r (kFp { ro:=rdOb (eval E st.tm) (.lenStr x),rt:=rdTk (eval E st.tm) (.lenStr x) } K)):=Jr rfl
theorem jxz {x:A}:jE E (⟨d,.lenSl x,none,nm⟩::r) st ub K=j6 E Xx ⟨d,.lenSl x,none,nm⟩ st ub (kDr E r (kFp { ro:=rdOb (eval E st.tm) (.lenSl x),rt:=rdTk (eval E st.tm) (.lenSl x) } K)):=Jr rfl
theorem jtq {x:A}:jE E (⟨d,.lenMap x,none,nm⟩::r) st ub K=j6 E Xx ⟨d,.lenMap x,none,nm⟩ st ub (kDr E r (kFp { ro:=rdOb (eval E st.tm) (.lenMap x),rt:=rdTk (eval E st.tm) (.lenMap x) } K)):=Jr rfl
theorem jpv {x:A}{i:Nat}:jE E (⟨d,.extract x i,none,nm⟩::r) st ub K=j6 E Xx ⟨d,.extract x i,none,nm⟩ st ub (kDr E r (kFp { ro:=rdOb (eval E st.tm) (.extract x i),rt:=rdTk (eval E st.tm) (.extract x i) } K)):=Jr rfl
theorem j2r {f:Fn}{a b:List A}:jE E (⟨d,.mkFn f a b,none,nm⟩::r) st ub K=j6 E Xx ⟨d,.mkFn f a b,none,nm⟩ st ub (kDr E r (kFp { ro:=rdOb (eval E st.tm) (.mkFn f a b),rt:=rdTk (eval E st.tm) (.mkFn f a b) } K)):=Jr rfl
theorem jto {q:LK}{z:V}{a:Bool}{m k:A}:jE E (⟨d,.lookup q z a m k,none,nm⟩::r) st ub K=j6 E Xx ⟨d,.lookup q z a m k,none,nm⟩ st ub (kDr E r (kFp { ro:=rdOb (eval E st.tm) (.lookup q z a m k),rt:=rdTk (eval E st.tm) (.lookup q z a m k) } K)):=Jr rfl
theorem j2t {k:IntKind}{x:A}:jE E (⟨d,.conv k x,none,nm⟩::r) st ub K=j6 E Xx ⟨d,.conv k x,none,nm⟩ st ub (kDr E r (kFp { ro:=rdOb (eval E st.tm) (.conv k x),rt:=rdTk (eval E st.tm) (.conv k x) } K)):=Jr rfl
theorem jtn {b:Bool}{xs:List A}:jE E (⟨d,.minmax b xs,none,nm⟩::r) st ub K=j6 E Xx ⟨d,.minmax b xs,none,nm⟩ st ub (kDr E r (kFp { ro:=rdOb (eval E st.tm) (.minmax b xs),rt:=rdTk (eval E st.tm) (.minmax b xs) } K)):=Jr rfl
end
attribute [simp ↓] kC_pin jxr j2i j2y j2m jtl jxx jx2 kD_box kD_mov j2p kD_bin kD_eq kD_un jx1 j2s jlw jju jx0 jts j2q jtr jxy j2o jtp jxz jtq jpv j2r jto j2t jtn
attribute [simp ↓] j2n j2l j2u jjv jbm j2v jtt j19 jxc j18
attribute [simp] jrk joy jym jp3 jso jpm j27 jll
def kL (E:Env) (Yf:YF) (a:C) (n:Nat) (Q:Ex→St→Prop):Ex→St→Prop:=fun e s=>match e with
 | .nrm=>YC (wpC E Yf a) n s Q
 | e=>Q e s
section
variable {E:Env}{Yf:YF}{a:C}{Q:Ex→St→Prop}{s:St}{n:Nat}
theorem kL_nrm:kL E Yf a n Q .nrm s=YC (wpC E Yf a) n s Q:=propext Iff.rfl
theorem j2j {i:Nat}:kL E Yf a n Q (.exit i) s=Q (.exit i) s:=propext Iff.rfl
theorem kL_ret:kL E Yf a n Q .ret s=Q .ret s:=propext Iff.rfl
theorem jvk:YC (wpC E Yf a) 1 s Q=wpC E Yf a s (kL E Yf a 0 Q):=propext Iff.rfl
theorem jvj:YC (wpC E Yf a) 2 s Q=wpC E Yf a s (kL E Yf a 1 Q):=propext Iff.rfl
theorem jvi:YC (wpC E Yf a) 3 s Q=wpC E Yf a s (kL E Yf a 2 Q):=propext Iff.rfl
theorem jvh:YC (wpC E Yf a) 4 s Q=wpC E Yf a s (kL E Yf a 3 Q):=propext Iff.rfl
theorem jc6 (n:Nat) (h:YC (wpC E Yf a) n s Q):wpC E Yf (.loop a) s Q:=⟨n,h⟩
end
def j0j (k:List UInt8→Prop):V→Prop
 | .str s=>k s
 | _=>False
@[simp] theorem j40 (k:List UInt8→Prop) (s:List UInt8):j0j k (.str s)=k s:=rfl
def MP {α:Type}(f:α→V) (m:List (Int × α)):List (V × V):=m.map fun p=>(.int .i64 p.1,f p.2)
def JO {α:Type}:List (Int × α)→Int→Option (Nat × α)
 | [],_=>none
 | (k',a)::m,k=>if k=k' then some (0,a) else (JO m k).map fun p=>(p.1+1,p.2)
def jh3 {α:Type}(m:List (Int × α)) (k:Int) (a:α):List (Int × α):=match JO m k with
 | some (i,_)=>m.set i (k,a)
 | none=>m++[(k,a)]
theorem jbq {c:Type}(f:c→V) (k:Int):∀m:List (Int × c),findKey .int (.int .i64 k) (MP f m)=some ((JO m k).map fun p=>(p.1,f p.2))
 | []=>rfl
 | (k',a)::m=>by
  have b:=jbq f k m
  unfold MP at b ⊢
  simp only[List.map_cons,findKey,WS,if_true,JO]
  by_cases h:k=k'
  ·simp[h]
  ·rw[if_neg h,show(k == k')=false by simpa using h]
   simp only[b,Option.map_some,Option.map_map]
   rfl
@[simp] theorem MP_length {b:Type}(f:b→V) (m:List (Int × b)):(MP f m).length=m.length:=by simp[MP]
def jx6 (n:Int):V:=.int .i64 n
def j4o (m:List (Int × Int)) (k:Int):Int:=((JO m k).map (·.2)).getD 0
theorem jgb {c:Type}{f:c→V}{ob:ZO}{l u:Nat}{z:V}{b:Bool}{k:Int}(m:List (Int × c)) (h:jg ob l u=some (MP f m)) :
 Qn ob .int z b (.map l u) (.int .i64 k)=some (match JO m k with|some p=>if b then .tup [f p.2,.bool true] else f p.2|none=>if b then .tup [z,.bool false] else z):=by
 simp only[Qn,jau,if_true,h,Option.bind_some,jbq,Option.map_some]
 cases JO m k <;> rfl
theorem jgc {ob:ZO}{l u:Nat}{k:Int}(m:List (Int × Int)) (h:jg ob l u=some (MP jx6 m)):Qn ob .int (.int .i64 0) false (.map l u) (.int .i64 k)=some (.int .i64 (j4o m k)):=by
 rw[jgb m h,j4o]
 cases JO m k <;> rfl
section
variable {E:Env}{Yf:YF}{st:St}{ub:Nat}{K:St→Nat→Prop}{d:Option Nat}{nm:Bool}
theorem jlp {x:A}:j6 E Yf ⟨d,.range true x,none,nm⟩ st ub K=j0j (fun s=>WW K st d ub { v:=.iter (jH d nm st.fb ub) ub,obs:=[(jH d nm st.fb ub,⟨ub,.siter s 0⟩)] }) (eval E st.tm x):=by
 rw[jM _ rfl rfl]
 simp only[aop,Jo]
 cases eval E st.tm x <;> simp only[Qu,j0j,Jd,jN]
 rfl
theorem jpr {x:A}{l u pos:Nat}{s:List UInt8}(e:eval E st.tm x=.iter l u) (f:st.ob l=some ⟨u,.siter s pos⟩) (b:st.ro≤u)
 (c:pos<s.length→WW K st d ub { v:=.tup [.bool true,.int .i64 pos,.int .i32 ((Utf8.decode ⟨s.toArray⟩ pos).1:Nat)],obs:=[(l,⟨u,.siter s (pos+(Utf8.decode ⟨s.toArray⟩ pos).2)⟩)] })
 (g:¬ pos<s.length→Qo K st d ub (.tup [.bool false])):j6 E Yf ⟨d,.nextStr x,none,nm⟩ st ub K:=by
 rw[jM _ rfl rfl]
 simp only[aop,e,f]
 rw[if_pos (by simpa using b)]
 by_cases h:pos<s.length
 ·rw[if_pos h,jN];exact c h
 ·rw[if_neg h,Wa,Qt];exact g h
theorem jxi:j6 E Yf ⟨d,.mkMap,none,nm⟩ st ub K=WW K st d ub { v:=.map (jH d nm st.fb ub) ub,obs:=[(jH d nm st.fb ub,⟨ub,.mp 0 []⟩)] }:=by
 rw[jM _ rfl rfl]
 simp only[aop,Jd,jN,Jo]
 rfl
theorem jap {c:Type}{f:c→V}{x y z:A}{l u ver:Nat}{k:Int}{a:c}(m:List (Int × c)) (q:eval E st.tm x=.map l u) (t:eval E st.tm y=.int .i64 k) (r:(eval E st.tm z).strip=f a)
 (j:st.ob l=some ⟨u,.mp ver (MP f m)⟩) (g:st.ro≤u) (h:WW K st d ub { v:=jq,obs:=[(l,⟨u,.mp (ver+1) (MP f (jh3 m k a))⟩)] }):j6 E Yf ⟨d,.mapSet .int x y z,none,nm⟩ st ub K:=by
 have i:jg st.ob l u=some (MP f m):=by simp[jg,j]
 have b:jl st.ob l=ver:=by simp[jl,j]
 rw[jM _ rfl rfl]
 simp only[aop,q,t,jau,if_true,i,Option.bind_some,jbq,b,r]
 rw[if_pos (by simpa using g)]
 unfold jh3 at h
 cases o:JO m k with
 | none=>
  rw[o]at h
  simp only[Option.map_none,jN]
  simpa[MP] using h
 | some p=>
  rw[o]at h
  simp only[Option.map_some,jN]
  have e:(MP f m).set p.1 (V.int .i64 k,f a)=MP f (m.set p.1 (k,a)):=by simp[MP,List.map_set]
  rw[e]
  exact h
end
attribute [simp ↓] kL_nrm j2j kL_ret jvk jvj jvi jvh jlp jxi
@[simp] theorem j14 (ob:ZO) (l u:Nat):jhk ob (.map l u)=(jg ob l u).map fun b=>.int .i64 b.length:=rfl
def jfh (l:List Int) (k:Int):List Int:=if k∈l then l else l++[k]
def dd (l:List Int):List Int:=l.foldl jfh []
theorem jue (l:List Int) (k:Int):dd (l++[k])=jfh (dd l) k:=by simp[dd]
theorem mfind_none {e:Type}{m:List (Int × e)}{k:Int}:JO m k=none ↔ k ∉ m.map (·.1):=by
 induction m with
 | nil=>simp[JO]
 | cons p m b=>
  obtain⟨c,a⟩:=p
  by_cases h:k=c
  ·simp[JO,h]
  ·simp[JO,h,b]
theorem jpo {e:Type}{m:List (Int × e)}{k:Int}{i:Nat}{a:e}(h:JO m k=some (i,a)):∃r:i<m.length,m[i]=(k,a):=by
 induction m generalizing i with
 | nil=>cases h
 | cons p m o=>
  obtain⟨q,t⟩:=p
  by_cases c:k=q
  ·simp only[JO,c,if_true,Option.some.injEq,Prod.mk.injEq]at h
   obtain⟨rfl,rfl⟩:=h
   exact⟨zS,by simp[c]⟩
  ·simp only[JO,c,if_false,Option.map_eq_some_iff,Prod.mk.injEq]at h
   obtain⟨⟨j,b⟩,g,rfl,rfl⟩:=h
   obtain⟨f,l⟩:=o g
   exact⟨by simpa using f,by simpa using l⟩
theorem jjj {g:Type}(m:List (Int × g)) (k:Int) (a:g):(jh3 m k a).map (·.1)=jfh (m.map (·.1)) k:=by
 unfold jh3 jfh
 cases h:JO m k with
 | none=>rw[if_neg (mfind_none.1 h)];simp
 | some p=>
  obtain⟨i,b⟩:=p
  obtain⟨l,f⟩:=jpo h
  have c:k∈m.map (·.1):=List.mem_map.2 ⟨_,List.getElem_mem l,by rw[f]⟩
  rw[if_pos c,List.map_set]
  apply List.ext_getElem zS
  intro j o q
  simp only[List.getElem_set,List.getElem_map]
  split
  ·rename_i e;subst e;rw[f]
  ·rfl
theorem jsv {l:List Int}{k x:Int}:x∈jfh l k ↔ x∈l∨x=k:=by
 unfold jfh
 split
 ·constructor
  ·exact .inl
  ·rintro(h|rfl) <;> assumption
 ·simp
theorem mem_dd {l:List Int}{x:Int}:x∈dd l ↔ x∈l:=by
 have c:∀ (l b:List Int),x∈l.foldl jfh b ↔ x∈b∨x∈l:=by
  intro l
  induction l with
  | nil=>intro b;simp
  | cons a l e=>intro b;simp only[List.foldl_cons,e,jsv,List.mem_cons,or_assoc]
 simpa[dd] using c l []
theorem jli {l:List Int}{k:Int}(h:l.Nodup):(jfh l k).Nodup:=by
 unfold jfh
 split
 ·exact h
 ·rename_i f
  rw[List.nodup_append]
  refine⟨h,zS,?_⟩
  intro a g b c e
  simp only[List.mem_singleton]at c
  subst c
  subst e
  exact f g
theorem jwz (l:List Int):(dd l).Nodup:=by
 have c:∀ (l b:List Int),b.Nodup→(l.foldl jfh b).Nodup:=by
  intro l
  induction l with
  | nil=>intro b h;exact h
  | cons a l e=>intro b h;exact e _ (jli h)
 exact c l [] List.nodup_nil
theorem jzi:∀ (n:Nat) (l:List Int),l.Nodup→(∀x∈l,0≤x∧x<n)→l.length≤n∧(l.length=n ↔ ∀k:Nat,k<n→(k:Int)∈l)
 | 0,l,hn,hb=>by
  have:l=[]:=by
   cases l with
   | nil=>rfl
   | cons a l=>have:=hb a zS;omega
  subst this
  simp
 | n+1,l,hn,hb=>by
  have i:(l.erase (n:Int)).Nodup:=hn.erase _
  have g:∀x∈l.erase (n:Int),0≤x∧x<n:=fun x o=>by
   have m:=hb x (List.mem_of_mem_erase o)
   have f:x≠n:=fun e=>by subst e;exact(List.Nodup.not_mem_erase hn) o
   omega
  obtain⟨m,f⟩:=jzi n _ i g
  by_cases c:(n:Int)∈l
  ·have p:=List.length_erase_of_mem c
   have q:0<l.length:=List.length_pos_of_mem c
   refine⟨zO,?_⟩
   constructor
   ·intro e k j
    rcases Nat.lt_succ_iff_lt_or_eq.1 j with h|rfl
    ·exact List.mem_of_mem_erase (f.1 zO k h)
    ·exact c
   ·intro b
    have:=f.2 (fun k j=>(List.Nodup.mem_erase_iff hn).2 ⟨zO,b k zO⟩)
    omega
  ·rw[List.erase_of_not_mem c]at m f
   refine⟨zO,?_⟩
   constructor
   ·intro e;omega
   ·intro b;exact absurd (b n zO) c
section
end
section
end
section
variable {α:Type}
def MK (q:IntKind) (f:α→V) (m:List (Int × α)):List (V × V):=m.map fun p=>(.int q p.1,f p.2)
@[simp] theorem MK_length (q:IntKind) (f:α→V) (m:List (Int × α)):(MK q f m).length=m.length:=by simp[MK]
end
section
variable {α:Type}{f:α→V}{E:Env}{Yf:YF}{st:St}{ub:Nat}{K:St→Nat→Prop}{d:Option Nat}{nm:Bool}{x y z:A}{l u ver:Nat}{k:Int}{q:IntKind}
section
variable {r:List AOpr}{K':List FP→St→Prop}
theorem jzt {f:FuncId}{xs:List A}{cs:List V}(e:xs.map (eval E st.tm)=[.sl none true 0 []]) (c:E.sh nm f=true) (b:E.tw f=false) (g:E.nw f=some cs)
 (h:jE E r (st.app d { v:=.ptr (jH d nm st.fb ub) ub 0,obs:=[(jH d nm st.fb ub,⟨ub,.cells cs⟩)] }) (ub+64) (kFp { wo:=[jH d nm st.fb ub],nw:=true } K')):jE E (⟨d,.call f xs,none,nm⟩::r) st ub K':=by
 have a:jB E nm (eval E st.tm) (.call f xs)=some (f,[.sl none true 0 []]):=by simp only[jB,c,e,Bool.not_true,Bool.false_and,Bool.false_eq_true,if_false]
 simp only[jE,wanted,a]
 refine .inr (.inr ⟨c,b,{ v:=.ptr (jH d nm st.fb ub) ub 0,obs:=[(jH d nm st.fb ub,⟨ub,.cells cs⟩)] },?_,h⟩)
 simp only[mkD,g]
 cases nm <;> rfl
end
end
def jlk:List FP→Bool
 | []=>true
 | f::r=>(r.all fun g=>(!f.nw || Wm f g) && (!g.nw || Wm g f)) && jlk r
theorem jnb:∀ {fs:List FP},jlk fs=true→∀ {i j:Nat}{f g:FP},fs[i]? = some f→fs[j]? = some g→i≠j→f.nw=true→Wm f g=true
 | [],_,i,j,f,g,hi,_,_,_=>by simp at hi
 | f0::r,h,i,j,f,g,hi,hj,hne,hn=>by
  simp only[jlk,Bool.and_eq_true,List.all_eq_true,Bool.or_eq_true,Bool.not_eq_true']at h
  cases i with
  | zero=>
   cases j with
   | zero=>exact absurd rfl hne
   | succ j=>
    simp only[List.getElem?_cons_zero,Option.some.injEq,List.getElem?_cons_succ]at hi hj
    subst hi
    rcases(h.1 g (List.mem_of_getElem? hj)).1 with h|h
    ·rw[hn]at h;cases h
    ·exact h
  | succ i=>
   cases j with
   | zero=>
    simp only[List.getElem?_cons_zero,Option.some.injEq,List.getElem?_cons_succ]at hi hj
    subst hj
    rcases(h.1 f (List.mem_of_getElem? hi)).2 with h|h
    ·rw[hn]at h;cases h
    ·exact h
   | succ j=>
    simp only[List.getElem?_cons_succ]at hi hj
    exact jnb h.2 hi hj (fun e=>hne (by rw[e])) hn
theorem jw2 {fs:List FP}(h:jlk fs=true):Qk fs=true:=by
 unfold Qk jsr
 rw[Bool.or_eq_true]
 refine .inr ?_
 rw[List.all_eq_true]
 intro i b
 rw[List.mem_range]at b
 have c:fs[i]? = some (fs.getD i {}):=by rw[List.getD_eq_getElem?_getD,List.getElem?_eq_getElem b];rfl
 cases g:(fs.getD i {}).nw
 ·rfl
 ·rw[Bool.not_true,Bool.false_or,List.all_eq_true]
  intro j a
  rw[List.mem_range]at a
  have m:fs[j]? = some (fs.getD j {}):=by rw[List.getD_eq_getElem?_getD,List.getElem?_eq_getElem a];rfl
  by_cases e:i=j
  ·subst e;simp
  ·rw[jnb h c m e g,Bool.or_true]
theorem jsq:jlk []=true:=rfl
theorem jpn (f:FP) (r:List FP):jlk (f::r)=((r.all fun g=>(!f.nw || Wm f g) && (!g.nw || Wm g f)) && jlk r):=rfl
end Go.Pv
namespace Go.Pv.T
open Go Go.Pv Go.Proofs
noncomputable section
noncomputable def cf (m r:Bool) (f:Func):AF:=(j3p Tryz.prog m r f).getD ⟨.stuck,[]⟩
abbrev oo (d:Nat) (p:AOp):AOpr:=⟨some d,p,none,false⟩
abbrev qq (d:Nat) (p:AOp):AOpr:=⟨some d,p,none,true⟩
abbrev ou (p:AOp):AOpr:=⟨none,p,none,false⟩
abbrev qu (p:AOp):AOpr:=⟨none,p,none,true⟩
abbrev og (d:Nat) (p:AOp) (t:Nat) (b:Bool):AOpr:=⟨some d,p,some (t,b),false⟩
abbrev qg (d:Nat) (p:AOp) (t:Nat) (b:Bool):AOpr:=⟨some d,p,some (t,b),true⟩
abbrev oh (p:AOp) (t:Nat) (b:Bool):AOpr:=⟨none,p,some (t,b),false⟩
abbrev qh (p:AOp) (t:Nat) (b:Bool):AOpr:=⟨none,p,some (t,b),true⟩
abbrev ov (d k:Nat):AOpr:=⟨some d,.mov (.t k),none,false⟩
abbrev qv (d k:Nat):AOpr:=⟨some d,.mov (.t k),none,true⟩
abbrev nn (k:Int):A:=.c (.int .i64 k)
abbrev ol (d k:Nat):AOpr:=⟨some d,.load none (.t k),none,false⟩
abbrev os (d n k:Nat):AOpr:=⟨some d,.load (some n) (.t k),none,false⟩
abbrev ox (d s a b:Nat):AOpr:=⟨some d,.idxSl s (.t a) (.t b),none,false⟩
abbrev om (d:Nat) (k:Int):AOpr:=⟨some d,.mov (nn k),none,false⟩
abbrev oe (d k i:Nat):AOpr:=⟨some d,.extract (.t k) i,none,false⟩
abbrev of (d n k:Nat):AOpr:=⟨some d,.fieldAddr n (.t k),none,false⟩
abbrev on (d:Nat) (p:BinOp) (a:Nat) (k:Int):AOpr:=⟨some d,.bin p (.t a) (nn k),none,false⟩
abbrev ob (d:Nat) (p:BinOp) (a b:Nat):AOpr:=⟨some d,.bin p (.t a) (.t b),none,false⟩
abbrev ql (d k:Nat):AOpr:=⟨some d,.load none (.t k),none,true⟩
abbrev qs (d n k:Nat):AOpr:=⟨some d,.load (some n) (.t k),none,true⟩
abbrev qx (d s a b:Nat):AOpr:=⟨some d,.idxSl s (.t a) (.t b),none,true⟩
abbrev qm (d:Nat) (k:Int):AOpr:=⟨some d,.mov (nn k),none,true⟩
abbrev qe (d k i:Nat):AOpr:=⟨some d,.extract (.t k) i,none,true⟩
abbrev qf (d n k:Nat):AOpr:=⟨some d,.fieldAddr n (.t k),none,true⟩
abbrev qn (d:Nat) (p:BinOp) (a:Nat) (k:Int):AOpr:=⟨some d,.bin p (.t a) (nn k),none,true⟩
abbrev qb (d:Nat) (p:BinOp) (a b:Nat):AOpr:=⟨some d,.bin p (.t a) (.t b),none,true⟩
abbrev sr (l:List AOpr) (b:C):C:=.seq (.region l) b
abbrev aF:A:=.c (.bool false)
abbrev aT:A:=.c (.bool true)
abbrev fA:=AOp.fieldAddr
abbrev sq:=C.seq
abbrev rg:=C.region
abbrev lS:=AOp.lenSl
abbrev Z0:A:=.t 0
abbrev Z1:A:=.t 1
abbrev Z2:A:=.t 2
abbrev Z3:A:=.t 3
abbrev Z4:A:=.t 4
abbrev Z5:A:=.t 5
abbrev Z6:A:=.t 6
abbrev Z7:A:=.t 7
abbrev Z8:A:=.t 8
abbrev Z9:A:=.t 9
abbrev Z10:A:=.t 10
abbrev Z11:A:=.t 11
abbrev Z12:A:=.t 12
abbrev Z13:A:=.t 13
abbrev Z14:A:=.t 14
abbrev Z15:A:=.t 15
abbrev Z16:A:=.t 16
abbrev Z17:A:=.t 17
abbrev Z18:A:=.t 18
abbrev Z19:A:=.t 19
abbrev Z20:A:=.t 20
abbrev Z21:A:=.t 21
abbrev Z22:A:=.t 22
abbrev Z23:A:=.t 23
abbrev Z24:A:=.t 24
abbrev Z25:A:=.t 25
abbrev Z26:A:=.t 26
abbrev Z27:A:=.t 27
abbrev Z28:A:=.t 28
abbrev Z29:A:=.t 29
abbrev Z30:A:=.t 30
abbrev Z31:A:=.t 31
abbrev Z32:A:=.t 32
abbrev Z33:A:=.t 33
abbrev Z34:A:=.t 34
abbrev Z35:A:=.t 35
abbrev Z36:A:=.t 36
abbrev Z37:A:=.t 37
abbrev Z38:A:=.t 38
abbrev Z39:A:=.t 39
abbrev Z40:A:=.t 40
abbrev Z41:A:=.t 41
abbrev Z42:A:=.t 42
abbrev Z43:A:=.t 43
abbrev Z44:A:=.t 44
abbrev Z45:A:=.t 45
abbrev Z46:A:=.t 46
abbrev Z47:A:=.t 47
abbrev Z48:A:=.t 48
abbrev Z49:A:=.t 49
abbrev Z50:A:=.t 50
abbrev Z51:A:=.t 51
abbrev Z52:A:=.t 52
abbrev Z53:A:=.t 53
abbrev Z54:A:=.t 54
abbrev Z55:A:=.t 55
abbrev Z56:A:=.t 56
abbrev Z57:A:=.t 57
abbrev Z58:A:=.t 58
abbrev Z59:A:=.t 59
abbrev Z60:A:=.t 60
abbrev Z61:A:=.t 61
abbrev Z62:A:=.t 62
abbrev Z63:A:=.t 63
abbrev Z64:A:=.t 64
abbrev Z65:A:=.t 65
abbrev Z66:A:=.t 66
abbrev Z67:A:=.t 67
abbrev Z68:A:=.t 68
abbrev Z69:A:=.t 69
abbrev Z70:A:=.t 70
abbrev Z71:A:=.t 71
abbrev Z72:A:=.t 72
abbrev Z73:A:=.t 73
abbrev Z74:A:=.t 74
abbrev Z76:A:=.t 76
abbrev Z85:A:=.t 85
abbrev wT (d:Nat) (p:AOp) (t:Nat):AOpr:=og d p t true
abbrev wF (d:Nat) (p:AOp) (t:Nat):AOpr:=og d p t false
abbrev zT (d:Nat) (p:AOp) (t:Nat):AOpr:=qg d p t true
abbrev zF (d:Nat) (p:AOp) (t:Nat):AOpr:=qg d p t false
abbrev uT (p:AOp) (t:Nat):AOpr:=oh p t true
abbrev uF (p:AOp) (t:Nat):AOpr:=oh p t false
abbrev vT (p:AOp) (t:Nat):AOpr:=qh p t true
abbrev vF (p:AOp) (t:Nat):AOpr:=qh p t false
def F14:AF:=⟨sr [oo 5 (.box 3 Z1),oo 8 (.mov aF)] (sq (sr [oo 18 (.call 44 []),oo 19 (.un .not Z18)] (.cond Z19 (sr [oo 8 (.mov aF)] .ret) .skip)) (sq (.draw [os 20 3 5,oo 21 (.call 15 [Z20]),ov 22 2,ov 23 2,oo 24 (lS Z23),oo 25 (.minmax false [Z24,(nn 60)]),oo 26 (.slSl 1 Z22 none (some Z25)),oo 27 (.call 25 [Z26]),ov 28 3,ov 29 3,oo 30 (lS Z29),oo 31 (.minmax false [Z30,(nn 60)]),oo 32 (.slSl 1 Z28 none (some Z31)),oo 33 (.call 25 [Z32]),ou (.store 3 Z5 Z21),ov 2 27,ov 3 33] []) (sr [ov 35 0,os 36 3 5,ov 37 2,oo 38 (.call 42 [Z35,Z36,Z37]),ov 34 38,oe 39 34 0,oe 40 34 1,ov 9 39,ov 10 40] (sq (sr [ov 41 10,on 42 .neq 41 0,ov 43 42,wF 44 (.load (some 3) Z5) 43,wF 45 (.mov Z3) 43,wF 46 (.call 23 [Z44,Z45]) 43,wF 47 (.un .not Z46) 43,oo 48 (.pick Z43 aT Z47)] (.cond Z48 (sr [ov 49 10,on 50 .eql 49 0,ov 51 50,wF 52 (.mov Z9) 51,wF 53 (lS Z52) 51,wF 54 (.bin .eql Z53 (nn 0)) 51,oo 55 (.pick Z51 aT Z54),ov 8 55] .ret) .skip)) (sr [os 56 3 5,oo 57 (.call 39 [Z56]),ov 11 57] (sq (sr [om 12 0] (.block 0 (.loop (sq (sr [ov 58 12,ov 59 11,oo 60 (lS Z59),ob 61 .lss 58 60] (.cond Z61 .skip (.exit 0))) (sq (.block 1 (sq (.draw [os 64 3 5,ov 65 11,ov 66 12,ox 67 1 65 66,ol 68 67,oo 69 (.call 40 [Z64,Z68]),oo 70 (lS Z69),on 71 .gtr 70 0] []) (.cond Z71 (sr [ov 72 0,os 73 3 5,ov 74 2,ov 75 3,oo 76 (.call 24 [Z72,Z73,Z74,.t 75]),oo 77 (.un .not Z76),ov 8 77] .ret) .skip))) (rg [ov 62 12,on 63 .add 62 1,ov 12 63])))))) (sr [oo 13 (.mov aT)] (sq (sr [om 14 0] (.block 2 (.loop (sq (sr [ov 78 14,ov 79 9,oo 80 (lS (.t 79)),ob 81 .lss 78 80] (.cond (.t 81) .skip (.exit 2))) (sq (.block 3 (sr [oo 15 (.mov (nn (-1))),oo 16 (.mov (nn (-1)))] (sq (sr [om 17 0] (.block 4 (.loop (sq (sr [ov 84 17,ov 85 3,oo 86 (lS Z85),ob 87 .lss 84 86] (.cond (.t 87) .skip (.exit 4))) (sq (.block 5 (sq (.seq (.draw [ov 90 3,ov 91 17,ox 92 1 90 91,ol 93 92,ov 94 9,ov 95 14,ox 96 2 94 95,of 97 0 96,ol 98 97,ob 99 .eql 93 98] []) (.cond (.t 99) (rg [ov 100 17,ov 15 100]) .skip)) (sq (.draw [ov 101 3,ov 102 17,ox 103 1 101 102,ol 104 103,ov 105 9,ov 106 14,ox 107 2 105 106,of 108 1 107,ol 109 108,ob 110 .eql 104 109] []) (.cond (.t 110) (rg [ov 111 17,ov 16 111]) .skip)))) (rg [ov 88 17,on 89 .add 88 1,ov 17 89])))))) (rg [ov 112 13,ov 113 112,wT 114 (.mov Z15) 113,wT 115 (.mov Z16) 113,wT 116 (.bin .lss (.t 114) (.t 115)) 113,oo 117 (.pick (.t 113) (.t 116) aF),ov 13 117])))) (rg [ov 82 14,on 83 .add 82 1,ov 14 83])))))) (sr [ov 118 13,ov 119 0,os 120 3 5,ov 121 2,ov 122 3,oo 123 (.call 24 [.t 119,.t 120,.t 121,.t 122]),oo 124 (.eq false .bool (.t 118) (.t 123)),ov 8 124] .ret))))))))),[.t 8]⟩
def F15:AF:=⟨sr [qq 1 (.box 3 Z0),qq 2 (.alloc [(.sl none true 0 []),(.sl none true 0 []),(.sl none true 0 [])])] (sr [qs 4 3 1,qq 5 (.call 51 [Z4]),qu (.store 3 Z1 Z5)] (sq (sr [qf 6 2 1,ql 7 6,qq 8 (lS Z7),qn 9 .gtr 8 8] (.cond Z9 (rg [qf 10 2 1,qu (.store 1 Z10 (.c (.sl none true 0 [])))]) .skip)) (sq (sr [qm 3 0] (.block 0 (.loop (sq (sr [qv 11 3,qf 12 2 1,ql 13 12,qq 14 (lS Z13),qb 15 .lss 11 14] (.cond Z15 .skip (.exit 0))) (sq (.block 1 (.draw [qf 18 2 1,ql 19 18,qv 20 3,qf 21 2 1,ql 22 21,qv 23 3,qx 24 3 22 23,qf 25 2 24,ql 26 25,qf 27 2 1,ql 28 27,qv 29 3,qx 30 3 28 29,qf 31 2 30,ql 32 31,qq 33 (lS Z32),qq 34 (.minmax false [Z33,(nn 6)]),qq 35 (.slSl 4 Z26 none (some Z34)),qx 36 3 19 20,qf 37 2 36,qu (.store 1 Z37 Z35)] [])) (rg [qv 16 3,qn 17 .add 16 1,qv 3 17])))))) (sr [qs 38 3 1,qu (.store 3 Z2 Z38)] .ret)))),[.cell 2 (some 3)]⟩
def F21:AF:=⟨sr [oo 1 (.box 3 Z0),oo 2 (.mov aF)] (sq (.draw [os 3 3 1,oo 4 (.call 58 [Z3]),on 5 .eql 4 0,ov 6 5,wT 7 (.load (some 3) Z1) 6,wT 8 (.call 59 [Z7]) 6,wT 9 (lS Z8) 6,wT 10 (.load (some 3) Z1) 6,wT 11 (.call 60 [Z10]) 6,wT 12 (lS Z11) 6,wT 13 (.bin .add Z9 Z12) 6,wT 14 (.bin .eql Z13 (nn 0)) 6,oo 15 (.pick Z6 Z14 aF),ov 2 15] []) .ret),[.t 2]⟩
def F23:AF:=⟨sr [oo 2 (.box 3 Z0),oo 4 (.mov aF)] (sq (sr [os 7 3 2,oo 8 (.call 21 [Z7]),oo 9 (.un .not Z8)] (.cond Z9 (sr [oo 4 (.mov aF)] .ret) .skip)) (sr [os 10 3 2,oo 11 (.call 39 [Z10]),ov 5 11] (sq (sr [ov 12 5,oo 13 (lS Z12),ov 14 1,oo 15 (lS Z14),ob 16 .neq 13 15] (.cond Z16 (sr [oo 4 (.mov aF)] .ret) .skip)) (sq (sr [om 6 0] (.block 0 (.loop (sq (sr [ov 17 6,ov 18 1,oo 19 (lS Z18),ob 20 .lss 17 19] (.cond Z20 .skip (.exit 0))) (sq (.block 1 (sq (.draw [ov 23 5,ov 24 1,ov 25 6,ox 26 1 24 25,ol 27 26,oo 28 (.call 62 [Z23,Z27]),oo 29 (.un .not Z28),ov 30 29,wF 31 (.mov Z1) 30,wF 32 (.mov Z6) 30,wF 33 (.slSl 1 Z31 none (some Z32)) 30,wF 34 (.mov Z1) 30,wF 35 (.mov Z6) 30,wF 36 (.idxSl 1 Z34 Z35) 30,wF 37 (.load none Z36) 30,wF 38 (.call 62 [Z33,Z37]) 30,oo 39 (.pick Z30 aT Z38)] []) (.cond Z39 (sr [oo 4 (.mov aF)] .ret) .skip))) (rg [ov 21 6,on 22 .add 21 1,ov 6 22])))))) (sr [oo 4 (.mov aT)] .ret))))),[.t 4]⟩
def F24:AF:=⟨sr [oo 5 (.box 3 Z1),oo 8 (.mov aF)] (sq (.draw [os 19 3 5,oo 20 (.call 39 [Z19]),os 21 3 5,oo 22 (.call 31 [Z21]),ov 9 20,ov 10 22] []) (sq (sr [om 11 0] (.block 0 (.loop (sq (sr [ov 23 11,ov 24 9,oo 25 (lS Z24),ob 26 .lss 23 25] (.cond Z26 .skip (.exit 0))) (sq (.block 1 (sq (.seq (.draw [os 29 3 5,ov 30 9,ov 31 11,ox 32 1 30 31,ol 33 32,oo 34 (.call 40 [Z29,Z33]),oo 35 (lS Z34),on 36 .gtr 35 0] []) (.cond Z36 (sr [oo 8 (.mov aF)] .ret) .skip)) (sr [om 12 0] (.block 2 (.loop (sq (sr [ov 37 12,ov 38 11,ob 39 .lss 37 38] (.cond Z39 .skip (.exit 2))) (sq (.block 3 (sq (.draw [of 42 2 5,ol 43 42,ov 44 9,ov 45 12,ox 46 1 44 45,ol 47 46,ox 48 3 43 47,of 49 0 48,ol 50 49,of 51 2 5,ol 52 51,ov 53 9,ov 54 11,ox 55 1 53 54,ol 56 55,ox 57 3 52 56,of 58 0 57,ol 59 58,ob 60 .eql 50 59,ov 61 60,wT 62 (.mov Z3) 61,wT 63 (.mov Z9) 61,wT 64 (.mov Z12) 61,wT 65 (.idxSl 1 Z63 Z64) 61,wT 66 (.load none Z65) 61,wT 67 (.call 63 [Z62,Z66]) 61,wT 68 (.mov Z3) 61,wT 69 (.mov Z9) 61,wT 70 (.mov Z11) 61,wT 71 (.idxSl 1 Z69 Z70) 61,wT 72 (.load none Z71) 61,wT 73 (.call 63 [Z68,Z72]) 61,wT 74 (.bin .geq Z67 Z73) 61,oo 75 (.pick Z61 Z74 aF)] []) (.cond (.t 75) (sr [oo 8 (.mov aF)] .ret) .skip))) (rg [ov 40 12,on 41 .add 40 1,ov 12 41])))))))) (rg [ov 27 11,on 28 .add 27 1,ov 11 28])))))) (sq (sr [om 13 0] (.block 4 (.loop (sq (sr [ov 76 13,ov 77 10,oo 78 (lS (.t 77)),ob 79 .lss 76 78] (.cond (.t 79) .skip (.exit 4))) (sq (.block 5 (sr [ov 82 10,ov 83 13,ox 84 2 82 83,os 85 2 84,oo 14 (.alloc [(.int .i64 0),(.int .i64 0)]),ou (.store 2 Z14 Z85)] (sq (.seq (.draw [ov 86 2,ov 87 13,ox 88 1 86 87,ol 89 88,on 90 .geq 89 0,ov 91 90,wT 92 (.mov Z3) 91,wT 93 (.mov Z2) 91,wT 94 (.mov Z13) 91,wT 95 (.idxSl 1 (.t 93) (.t 94)) 91,wT 96 (.load none (.t 95)) 91,wT 97 (.call 63 [.t 92,.t 96]) 91,wT 98 (.mov Z3) 91,wT 99 (fA 0 Z14) 91,wT 100 (.load none (.t 99)) 91,wT 101 (.call 63 [.t 98,.t 100]) 91,wT 102 (.bin .geq (.t 97) (.t 101)) 91,oo 103 (.pick (.t 91) (.t 102) aF)] []) (.cond (.t 103) (sr [oo 8 (.mov aF)] .ret) .skip)) (sr [ov 104 0,os 105 3 5,ov 106 2,ov 107 3,ov 108 13,oo 109 (.call 33 [.t 104,.t 105,.t 106,.t 107,.t 108]),ov 15 109] (sr [om 16 0] (.block 6 (.loop (sq (sr [ov 110 16,ov 111 15,oo 112 (lS (.t 111)),ob 113 .lss 110 112] (.cond (.t 113) .skip (.exit 6))) (sq (.block 7 (sq (.draw [os 117 3 5,ov 118 15,ov 119 16,ox 120 1 118 119,ol 121 120,of 122 2 5,ol 123 122,of 124 0 14,ol 125 124,ox 126 3 123 125,of 127 2 126,ol 128 127,of 129 1 14,ol 130 129,ox 131 4 128 130,of 132 1 131,ol 133 132,oo 134 (.call 64 [.t 117,.t 121,.t 133]),ov 116 134,oe 135 116 0,oe 136 116 1,oo 17 (.alloc [(.int .i64 0),(.int .i64 0)]),ou (.store 2 Z17 (.t 135)),ov 18 136] [(0,21),(4,21),(6,21),(8,21),(11,21),(13,21),(16,21),(17,21)]) (sq (.draw [ov 137 15,ov 138 16,ox 139 1 137 138,ol 140 139,ov 141 2,ov 142 13,ox 143 1 141 142,ol 144 143,ob 145 .neq 140 144,ov 146 145,wT 147 (.mov Z18) 146,oo 148 (.pick (.t 146) (.t 147) aF),ov 149 148,wT 150 (.mov Z3) 149,wT 151 (.mov Z15) 149,wT 152 (.mov Z16) 149,wT 153 (.idxSl 1 (.t 151) (.t 152)) 149,wT 154 (.load none (.t 153)) 149,wT 155 (.call 63 [.t 150,.t 154]) 149,wT 156 (.mov Z3) 149,wT 157 (.mov Z2) 149,wT 158 (.mov Z13) 149,wT 159 (.idxSl 1 (.t 157) (.t 158)) 149,wT 160 (.load none (.t 159)) 149,wT 161 (.call 63 [.t 156,.t 160]) 149,wT 162 (.bin .geq (.t 155) (.t 161)) 149,oo 163 (.pick (.t 149) (.t 162) aF)] []) (.cond (.t 163) (sr [oo 8 (.mov aF)] .ret) .skip)))) (rg [ov 114 16,on 115 .add 114 1,ov 16 115])))))))))) (rg [ov 80 13,on 81 .add 80 1,ov 13 81])))))) (sr [oo 8 (.mov aT)] .ret)))),[.t 8]⟩
def F25:AF:=⟨sr [oo 2 (.mov (.c (.sl none true 0 [])))] (sr [oo 3 (.buildSl false 1 [] [] 0),ov 4 0,oo 5 (.append false 1 8 Z3 Z4),ov 2 5] .ret),[.t 2]⟩
def F31:AF:=⟨sr [oo 1 (.box 3 Z0),oo 2 (.mov (.c (.sl none true 0 [])))] (sr [oo 7 (.buildSl false 2 [] [] 0),ov 3 7] (sq (sr [om 4 0] (.block 0 (.loop (sq (sr [ov 8 4,of 9 2 1,ol 10 9,oo 11 (lS Z10),ob 12 .lss 8 11] (.cond Z12 .skip (.exit 0))) (sq (.block 1 (sr [om 5 0] (.block 2 (.loop (sq (sr [ov 15 5,of 16 2 1,ol 17 16,ov 18 4,ox 19 3 17 18,of 20 2 19,ol 21 20,oo 22 (lS Z21),ob 23 .lss 15 22] (.cond Z23 .skip (.exit 2))) (sq (.block 3 (sr [ov 26 4,ov 27 5,oo 28 (.build [(.int .i64 0),(.int .i64 0)] [(0,1,Z26),(1,1,Z27)]),oo 6 (.alloc [(.int .i64 0),(.int .i64 0)]),ou (.store 2 Z6 Z28)] (sr [of 29 2 1,ol 30 29,ov 31 4,ox 32 3 30 31,of 33 1 32,ol 34 33,on 35 .eql 34 1,ov 36 35,wT 37 (.load (some 3) Z1) 36,wT 38 (.load (some 2) Z6) 36,wT 39 (.call 74 [Z37,Z38]) 36,oo 40 (.pick Z36 Z39 aF)] (.cond Z40 (rg [ov 41 3,os 42 2 6,oo 43 (.buildSl false 2 [(.int .i64 0),(.int .i64 0)] [(0,2,Z42)] 1),oo 44 (.append false 2 16 Z41 Z43),ov 3 44]) .skip)))) (rg [ov 24 5,on 25 .add 24 1,ov 5 25]))))))) (rg [ov 13 4,on 14 .add 13 1,ov 4 14])))))) (sr [ov 45 3,ov 2 45] .ret))),[.t 2]⟩
def F32:AF:=⟨sr [oo 4 (.mov aF)] (sq (sr [ov 6 0,oo 7 (lS Z6),ov 8 1,oo 9 (lS Z8),ob 10 .neq 7 9] (.cond Z10 (sr [oo 4 (.mov aF)] .ret) .skip)) (sq (sr [om 5 0] (.block 0 (.loop (sq (sr [ov 11 5,ov 12 0,oo 13 (lS Z12),ob 14 .lss 11 13] (.cond Z14 .skip (.exit 0))) (sq (.block 1 (sq (.draw [ov 17 0,ov 18 5,ox 19 1 17 18,ol 20 19,ov 21 1,ov 22 5,ox 23 1 21 22,ol 24 23,ob 25 .neq 20 24] []) (.cond Z25 (sr [oo 4 (.mov aF)] .ret) .skip))) (rg [ov 15 5,on 16 .add 15 1,ov 5 16])))))) (sr [oo 4 (.mov aT)] .ret))),[.t 4]⟩
def F33:AF:=⟨sr [oo 6 (.box 3 Z1),oo 10 (.mov (.c (.sl none true 0 [])))] (sr [os 18 3 6,oo 19 (.call 31 [Z18]),oo 20 (.buildSl false 1 [] [] 0),ov 11 19,ov 12 20] (sr [ov 21 11,ov 22 4,ox 23 2 21 22,os 24 2 23,oo 13 (.alloc [(.int .i64 0),(.int .i64 0)]),ou (.store 2 Z13 Z24)] (sr [os 25 3 6,ov 26 11,ov 27 2,of 28 0 13,ol 29 28,oo 30 (.call 75 [Z25,Z26,Z27,Z29]),ov 14 30] (sq (sr [om 15 0] (.block 0 (.loop (sq (sr [ov 31 15,of 32 2 6,ol 33 32,oo 34 (lS Z33),ob 35 .lss 31 34] (.cond Z35 .skip (.exit 0))) (sq (.block 1 (sr [oo 16 (.mov aF)] (sq (sr [ov 38 0] (.block 2 (sr [on 40 .eql 38 1,ov 39 40] (.cond Z39 (sr [om 17 0] (.block 3 (.loop (sq (sr [ov 41 17,ov 42 11,oo 43 (lS Z42),ob 44 .lss 41 43] (.cond Z44 .skip (.exit 3))) (sq (.block 4 (.draw [ov 47 16,ov 48 47,wF 49 (.mov Z11) 48,wF 50 (.mov Z17) 48,wF 51 (.idxSl 2 Z49 Z50) 48,wF 52 (fA 0 Z51) 48,wF 53 (.load none Z52) 48,wF 54 (fA 0 Z13) 48,wF 55 (.load none Z54) 48,wF 56 (.bin .eql Z53 Z55) 48,wF 57 (.mov Z56) 48,wT 58 (.mov Z11) 57,wT 59 (.mov Z17) 57,wT 60 (.idxSl 2 Z58 Z59) 57,wT 61 (fA 1 Z60) 57,wT 62 (.load none Z61) 57,wT 63 (fA 1 Z13) 57,wT 64 (.load none Z63) 57,wT 65 (.bin .lss Z62 Z64) 57,wF 66 (.pick Z57 Z65 aF) 48,wF 67 (.mov Z66) 48,wT 68 (.mov Z2) 67,wT 69 (.mov Z17) 67,wT 70 (.idxSl 1 Z68 Z69) 67,wT 71 (.load none Z70) 67,wT 72 (.mov Z15) 67,wT 73 (.bin .eql Z71 Z72) 67,wF 74 (.pick Z67 Z73 aF) 48,oo 75 (.pick Z48 aT Z74),ov 16 75] [])) (rg [ov 45 17,on 46 .add 45 1,ov 17 46])))))) (sr [on 77 .eql 38 2,ov 76 77] (.cond Z76 (rg [ov 78 14,ov 79 15,ox 80 1 78 79,ol 81 80,ov 16 81]) (sr [on 83 .eql 38 3,ov 82 83] (.cond (.t 82) (.draw [of 84 2 6,ol 85 84,ov 86 15,ox 87 3 85 86,of 88 1 87,ol 89 88,on 90 .eql 89 1,ov 91 90,wT 92 (.mov Z3) 91,wT 93 (.mov Z15) 91,wT 94 (.call 63 [.t 92,.t 93]) 91,wT 95 (.mov Z3) 91,wT 96 (fA 0 Z13) 91,wT 97 (.load none (.t 96)) 91,wT 98 (.call 63 [.t 95,.t 97]) 91,wT 99 (.bin .lss (.t 94) (.t 98)) 91,oo 100 (.pick (.t 91) (.t 99) aF),ov 16 100] []) .skip)))))))) (sr [ov 101 16] (.cond (.t 101) (rg [ov 102 12,ov 103 15,oo 104 (.buildSl false 1 [(.int .i64 0)] [(0,1,(.t 103))] 1),oo 105 (.append false 1 8 (.t 102) (.t 104)),ov 12 105]) .skip))))) (rg [ov 36 15,on 37 .add 36 1,ov 15 37])))))) (sr [ov 106 12,ov 10 106] .ret))))),[.t 10]⟩
def F39:AF:=⟨sr [oo 1 (.box 3 Z0),oo 2 (.mov (.c (.sl none true 0 [])))] (sr [oo 5 (.buildSl false 1 [] [] 0),ov 3 5] (sq (sr [om 4 0] (.block 0 (.loop (sq (sr [ov 6 4,of 7 2 1,ol 8 7,oo 9 (lS Z8),ob 10 .lss 6 9] (.cond Z10 .skip (.exit 0))) (sq (.block 1 (sr [of 13 2 1,ol 14 13,ov 15 4,ox 16 3 14 15,of 17 1 16,ol 18 17,on 19 .eql 18 1] (.cond Z19 (rg [ov 20 3,ov 21 4,oo 22 (.buildSl false 1 [(.int .i64 0)] [(0,1,Z21)] 1),oo 23 (.append false 1 8 Z20 Z22),ov 3 23]) .skip))) (rg [ov 11 4,on 12 .add 11 1,ov 4 12])))))) (sr [ov 24 3,ov 2 24] .ret))),[.t 2]⟩
def F40:AF:=⟨sr [oo 2 (.box 3 Z0),oo 4 (.mov (.c (.sl none true 0 [])))] (sr [oo 10 (.buildSl false 1 [] [] 0),ov 5 10] (sq (sr [os 11 3 2,oo 12 (.call 58 [Z11]),on 13 .neq 12 0,ov 14 13,wF 15 (.mov Z1) 14,wF 16 (.bin .lss Z15 (nn 0)) 14,oo 17 (.pick Z14 aT Z16),ov 18 17,wF 19 (.mov Z1) 18,wF 20 (fA 2 Z2) 18,wF 21 (.load none Z20) 18,wF 22 (lS Z21) 18,wF 23 (.bin .geq Z19 Z22) 18,oo 24 (.pick Z18 aT Z23)] (.cond Z24 (sr [ov 25 5,ov 4 25] .ret) .skip)) (sr [of 26 2 2,ol 27 26,ov 28 1,ox 29 3 27 28,os 30 3 29,oo 6 (.alloc [(.int .i64 0),(.int .i64 0),(.sl none true 0 [])]),ou (.store 3 Z6 Z30)] (sq (sr [om 7 0] (.block 0 (.loop (sq (sr [ov 31 7,of 32 2 6,ol 33 32,oo 34 (lS Z33),ob 35 .lss 31 34] (.cond Z35 .skip (.exit 0))) (sq (.block 1 (sq (.draw [os 39 3 6,ov 40 7,of 41 2 6,ol 42 41,ov 43 7,ox 44 4 42 43,of 45 1 44,ol 46 45,oo 47 (.call 84 [Z39,Z40,Z46]),ov 38 47,oe 48 38 0,oe 49 38 1,oo 8 (.alloc [(.int .i64 0),(.int .i64 0)]),ou (.store 2 Z8 Z48),ov 9 49] [(0,12),(3,12),(7,12),(8,12)]) (sq (.draw [of 50 2 6,ol 51 50,ov 52 7,ox 53 4 51 52,of 54 0 53,ol 55 54,oo 56 (.un .not Z55),ov 57 56,wT 58 (.mov Z9) 57,oo 59 (.pick Z57 Z58 aF),ov 60 59,wT 61 (fA 2 Z6) 60,wT 62 (.load none Z61) 60,wT 63 (.mov Z7) 60,wT 64 (.idxSl 4 Z62 Z63) 60,wT 65 (fA 2 Z64) 60,wT 66 (fA 0 Z65) 60,wT 67 (.load none Z66) 60,wT 68 (.bin .neq Z67 (nn 2)) 60,oo 69 (.pick Z60 Z68 aF),ov 70 69,wT 71 (fA 2 Z6) 70,wT 72 (.load none Z71) 70,wT 73 (.mov Z7) 70,wT 74 (.idxSl 4 Z72 Z73) 70,wT 75 (fA 2 Z74) 70,wT 76 (.load (some 2) (.t 75)) 70,wT 77 (.load (some 2) Z8) 70,wT 78 (.eq true (.struct [.int,.int]) Z76 (.t 77)) 70,oo 79 (.pick Z70 (.t 78) aF)] []) (.cond (.t 79) (rg [ov 80 5,ov 81 7,oo 82 (.buildSl false 1 [(.int .i64 0)] [(0,1,(.t 81))] 1),oo 83 (.append false 1 8 (.t 80) (.t 82)),ov 5 83]) .skip)))) (rg [ov 36 7,on 37 .add 36 1,ov 7 37])))))) (sr [ov 84 5,ov 4 84] .ret))))),[.t 4]⟩
def F42:AF:=⟨sr [qq 4 (.box 3 Z1),qq 6 (.mov (.c (.sl none true 0 []))),qm 7 0] (sq (.block 0 (sr [qs 10 3 4,qq 11 (.call 52 [Z10]),qq 12 (.un .not Z11),qv 9 12] (.cond Z9 (sr [qq 6 (.mov (.c (.sl none true 0 []))),qm 7 4] .ret) (sr [qv 14 0,qn 15 .lss 14 1,qv 16 15,zF 17 (.mov Z0) 16,zF 18 (.bin .gtr Z17 (nn 2)) 16,qq 19 (.pick Z16 aT Z18),qv 20 19,zF 21 (.load (some 3) Z4) 20,zF 22 (.mov Z2) 20,zF 23 (.call 53 [Z21,Z22]) 20,zF 24 (.un .not Z23) 20,qq 25 (.pick Z20 aT Z24),qv 13 25] (.cond Z13 (sr [qq 6 (.mov (.c (.sl none true 0 []))),qm 7 2] .ret) .skip))))) (sq (.draw [qs 26 3 4,qv 27 2,qs 28 3 4,qq 29 (.call 86 [Z28]),qq 30 (.build [(.sl none true 0 []),(.sl none true 0 []),(.sl none true 0 []),(.sl none true 0 []),(.sl none true 0 []),(.sl none true 0 [])] [(0,3,Z26),(3,1,Z27),(4,1,Z29)]),qq 31 (.box 6 Z30),qv 8 31] []) (sr [qv 32 8,qq 33 (.call 87 [Z32])] (sr [qv 34 8,qq 35 (.call 88 [Z34])] (sr [qv 36 8,qv 37 8,qv 38 0,qq 39 (.call 90 [Z37,Z38]),qq 40 (.call 89 [Z36,Z39])] (sr [qv 41 8,qq 42 (.nilCheck Z41),qf 43 5 42,ql 44 43,qq 45 (.call 91 [Z44,(.c (.fn (.func 92) [] []))])] (sr [qv 46 8,qq 47 (.nilCheck Z46),qf 48 5 47,ql 49 48,qq 50 (.call 93 [Z49]),qv 6 50,qm 7 0] .ret))))))),[.t 6,.t 7]⟩
def F44:AF:=⟨sr [oo 0 (.mov aF)] (sr [oo 9 (.call 57 [(.c (.str [98,101,103,105,110,32,115,10,114,101,97,100,32,115,32,121,32,50,10,119,114,105,116,101,32,115,32,120,32,49,10,111,107,32,115,10,98,101,103,105,110,32,116,10,114,101,97,100,32,116,32,120,32,49,10,119,114,105,116,101,32,116,32,121,32,50,10,111,107,32,116]))]),ov 8 9,oe 10 8 0,oe 11 8 1,oe 12 8 2,oo 1 (.alloc [(.sl none true 0 []),(.sl none true 0 []),(.sl none true 0 [])]),ou (.store 3 Z1 Z10),ov 2 11,ov 3 12] (sr [os 14 3 1,oo 15 (.buildSl false 1 [(.int .i64 0),(.int .i64 0)] [(0,1,(nn 1)),(1,1,(nn 0))] 2),oo 16 (.call 48 [(nn 1),Z14,Z15]),ov 13 16,oe 17 13 0,oe 18 13 1,ov 4 17,ov 5 18] (sr [os 20 3 1,oo 21 (.buildSl false 1 [(.int .i64 0),(.int .i64 0)] [(0,1,(nn 1)),(1,1,(nn 0))] 2),oo 22 (.call 47 [(nn 1),Z20,Z21]),ov 19 22,oe 23 19 0,oe 24 19 1,ov 6 23,ov 7 24] (sr [ov 25 3,on 26 .eql 25 0,ov 27 26,wT 28 (.mov Z5) 27,wT 29 (.bin .eql Z28 (nn 0)) 27,oo 30 (.pick Z27 Z29 aF),ov 31 30,wT 32 (.mov Z4) 31,wT 33 (.buildSl false 1 [(.int .i64 0),(.int .i64 0)] [(0,1,(nn 0)),(1,1,(nn 1))] 2) 31,wT 34 (.call 32 [Z32,Z33]) 31,oo 35 (.pick Z31 Z34 aF),ov 36 35,wT 37 (.mov Z7) 36,wT 38 (.bin .eql Z37 (nn 3)) 36,oo 39 (.pick Z36 Z38 aF),ov 0 39] .ret)))),[.t 0]⟩
def F47:AF:=⟨sr [qq 4 (.box 3 Z1),qq 6 (.mov (.c (.sl none true 0 []))),qm 7 0] (sr [qv 12 0,qs 13 3 4,qv 14 2,qq 15 (.call 42 [Z12,Z13,Z14]),qv 11 15,qe 16 11 0,qe 17 11 1,qv 8 16,qv 9 17] (sq (sr [qv 18 9,qn 19 .neq 18 0] (.cond Z19 (sr [qv 20 9,qq 6 (.mov (.c (.sl none true 0 []))),qv 7 20] .ret) .skip)) (sr [qf 22 2 4,ql 23 22,qq 24 (lS Z23),qn 25 .add 24 1,qv 26 8,qq 27 (.call 97 [Z25,Z26]),qv 21 27,qe 28 21 0,qe 29 21 1,qv 10 28,qv 9 29] (sq (sr [qv 30 9,qn 31 .neq 30 0] (.cond Z31 (sr [qv 32 9,qq 6 (.mov (.c (.sl none true 0 []))),qv 7 32] .ret) .skip)) (sr [qv 33 10,qq 34 (.mkFn (.func 99) [] [.t 4]),qq 35 (.call 98 [Z33,Z34]),qv 36 9,qv 6 35,qv 7 36] .ret))))),[.t 6,.t 7]⟩
def F48:AF:=⟨sr [qq 4 (.box 3 Z1),qq 6 (.mov (.c (.sl none true 0 []))),qm 7 0] (sr [qv 11 0,qs 12 3 4,qv 13 2,qq 14 (.call 42 [Z11,Z12,Z13]),qv 10 14,qe 15 10 0,qe 16 10 1,qv 8 15,qv 9 16] (sq (sr [qv 17 9,qn 18 .neq 17 0] (.cond Z18 (sr [qv 19 9,qq 6 (.mov (.c (.sl none true 0 []))),qv 7 19] .ret) .skip)) (sr [qf 20 2 4,ql 21 20,qq 22 (lS Z21),qn 23 .add 22 1,qv 24 8,qq 25 (.call 100 [Z23,Z24]),qe 26 25 0,qe 27 25 1,qv 6 26,qv 7 27] .ret))),[.t 6,.t 7]⟩
def F52:AF:=⟨sr [oo 1 (.box 3 Z0),oo 2 (.mov aF)] (sr [os 3 3 1,oo 4 (.call 103 [Z3]),on 5 .eql 4 0,ov 6 5,wT 7 (.load (some 3) Z1) 6,wT 8 (.call 104 [Z7]) 6,wT 9 (lS Z8) 6,wT 10 (.bin .eql Z9 (nn 0)) 6,oo 11 (.pick Z6 Z10 aF),ov 12 11,wT 13 (.load (some 3) Z1) 12,wT 14 (.call 105 [Z13]) 12,wT 15 (lS Z14) 12,wT 16 (.bin .eql Z15 (nn 0)) 12,oo 17 (.pick Z12 Z16 aF),ov 2 17] .ret),[.t 2]⟩
def F53:AF:=⟨sr [oo 2 (.box 3 Z0),oo 4 (.mov aF)] (sr [os 9 3 2,ov 10 1,oo 11 (.call 106 [Z9,Z10]),ov 8 11,oe 12 8 0,oe 13 8 1,oe 14 8 2,ov 5 12,ov 6 13,ov 7 14] (sr [ov 15 7,ov 4 15] .ret)),[.t 4]⟩
def F57:AF:=cf false false Tryz.f57
def F58:AF:=⟨sr [qq 1 (.box 3 Z0),qm 2 0] (sq (sr [qf 9 0 1,ql 10 9,qq 11 (.call 110 [Z10]),qq 12 (.un .not Z11),qv 13 12,zF 14 (fA 1 Z1) 13,zF 15 (.load none Z14) 13,zF 16 (.call 110 [Z15]) 13,zF 17 (.un .not Z16) 13,qq 18 (.pick Z13 aT Z17),qv 19 18,zF 20 (fA 0 Z1) 19,zF 21 (.load none Z20) 19,zF 22 (lS Z21) 19,zF 23 (.bin .gtr Z22 (nn 20)) 19,qq 24 (.pick Z19 aT Z23),qv 25 24,zF 26 (fA 1 Z1) 25,zF 27 (.load none Z26) 25,zF 28 (lS Z27) 25,zF 29 (.bin .gtr Z28 (nn 40)) 25,qq 30 (.pick Z25 aT Z29),qv 31 30,zF 32 (fA 2 Z1) 31,zF 33 (.load none Z32) 31,zF 34 (lS Z33) 31,zF 35 (.bin .gtr Z34 (nn 40)) 31,qq 36 (.pick Z31 aT Z35)] (.cond Z36 (sr [qm 2 4] .ret) .skip)) (sq (.draw [qf 37 1 1,ql 38 37,qq 39 (lS Z38),qq 40 (.mkSl true 1 1 [(.bool false)] Z39 Z39),qf 41 0 1,ql 42 41,qq 43 (lS Z42),qq 44 (.mkSl true 1 1 [(.bool false)] Z43 Z43),qv 3 40,qv 4 44] [(3,5),(1,7),(3,7)]) (sq (sr [qm 5 0] (.block 0 (.loop (sq (sr [qv 45 5,qf 46 2 1,ql 47 46,qq 48 (lS Z47),qb 49 .lss 45 48] (.cond Z49 .skip (.exit 0))) (sq (.block 1 (sq (.seq (sq (.draw [qs 52 3 1,qf 53 2 1,ql 54 53,qv 55 5,qx 56 3 54 55,qs 57 3 56,qv 58 3] []) (rg [qq 59 (.call 111 [Z52,Z57,Z58]),qq 60 (.un .not Z59)])) (.cond Z60 (sr [qm 2 4] .ret) .skip)) (rg [qv 61 4,qf 62 2 1,ql 63 62,qv 64 5,qx 65 3 63 64,qf 66 0 65,ql 67 66,qx 68 1 61 67,qu (.store 1 Z68 aT)]))) (rg [qv 50 5,qn 51 .add 50 1,qv 5 51])))))) (sr [qq 6 (.mov aT)] (sq (sr [qm 7 0] (.block 2 (.loop (sq (sr [qv 69 7,qv 70 3,qq 71 (lS Z70),qb 72 .lss 69 71] (.cond Z72 .skip (.exit 2))) (sq (.block 3 (rg [qv 75 6,qv 76 75,zT 77 (.mov Z3) 76,zT 78 (.mov Z7) 76,zT 79 (.idxSl 1 (.t 77) (.t 78)) 76,zT 80 (.load none (.t 79)) 76,qq 81 (.pick Z76 (.t 80) aF),qv 6 81])) (rg [qv 73 7,qn 74 .add 73 1,qv 7 74])))))) (sq (sr [qm 8 0] (.block 4 (.loop (sq (sr [qv 82 8,qv 83 4,qq 84 (lS (.t 83)),qb 85 .lss 82 84] (.cond Z85 .skip (.exit 4))) (sq (.block 5 (rg [qv 88 6,qv 89 88,zT 90 (.mov Z4) 89,zT 91 (.mov Z8) 89,zT 92 (.idxSl 1 (.t 90) (.t 91)) 89,zT 93 (.load none (.t 92)) 89,qq 94 (.pick (.t 89) (.t 93) aF),qv 6 94])) (rg [qv 86 8,qn 87 .add 86 1,qv 8 87])))))) (sq (sr [qv 95 6,qq 96 (.un .not (.t 95))] (.cond (.t 96) (sr [qm 2 4] .ret) .skip)) (sr [qm 2 0] .ret)))))))),[.t 2]⟩
def F59:AF:=⟨sr [oo 1 (.box 3 Z0),oo 2 (.mov (.c (.sl none true 0 [])))] (sr [oo 5 (.buildSl false 1 [] [] 0),ov 3 5] (sq (sr [om 4 0] (.block 0 (.loop (sq (sr [ov 6 4,of 7 2 1,ol 8 7,oo 9 (lS Z8),ob 10 .lss 6 9] (.cond Z10 .skip (.exit 0))) (sq (.block 1 (sr [of 13 2 1,ol 14 13,ov 15 4,ox 16 3 14 15,of 17 1 16,ol 18 17,on 19 .eql 18 3] (.cond Z19 (rg [ov 20 3,ov 21 4,oo 22 (.buildSl false 1 [(.int .i64 0)] [(0,1,Z21)] 1),oo 23 (.append false 1 8 Z20 Z22),ov 3 23]) .skip))) (rg [ov 11 4,on 12 .add 11 1,ov 4 12])))))) (sr [ov 24 3,ov 2 24] .ret))),[.t 2]⟩
def F60:AF:=⟨sr [oo 1 (.box 3 Z0),oo 2 (.mov (.c (.sl none true 0 [])))] (sr [oo 6 (.buildSl false 2 [] [] 0),ov 3 6] (sq (sr [om 4 0] (.block 0 (.loop (sq (sr [ov 7 4,of 8 2 1,ol 9 8,oo 10 (lS Z9),ob 11 .lss 7 10] (.cond Z11 .skip (.exit 0))) (sq (.block 1 (sr [om 5 0] (.block 2 (.loop (sq (sr [ov 14 5,of 15 2 1,ol 16 15,ov 17 4,ox 18 3 16 17,of 19 2 18,ol 20 19,oo 21 (lS Z20),ob 22 .lss 14 21] (.cond Z22 .skip (.exit 2))) (sq (.block 3 (sr [of 25 2 1,ol 26 25,ov 27 4,ox 28 3 26 27,of 29 2 28,ol 30 29,ov 31 5,ox 32 4 30 31,of 33 2 32,of 34 0 33,ol 35 34,on 36 .eql 35 2] (.cond Z36 (rg [ov 37 3,ov 38 4,ov 39 5,oo 40 (.build [(.int .i64 0),(.int .i64 0)] [(0,1,Z38),(1,1,Z39)]),oo 41 (.buildSl false 2 [(.int .i64 0),(.int .i64 0)] [(0,2,Z40)] 1),oo 42 (.append false 2 16 Z37 Z41),ov 3 42]) .skip))) (rg [ov 23 5,on 24 .add 23 1,ov 5 24]))))))) (rg [ov 12 4,on 13 .add 12 1,ov 4 13])))))) (sr [ov 43 3,ov 2 43] .ret))),[.t 2]⟩
def F62:AF:=⟨sr [oo 4 (.mov aF)] (sq (sr [om 5 0] (.block 0 (.loop (sq (sr [ov 6 5,ov 7 0,oo 8 (lS Z7),ob 9 .lss 6 8] (.cond Z9 .skip (.exit 0))) (sq (.block 1 (sr [ov 12 0,ov 13 5,ox 14 1 12 13,ol 15 14,ov 16 1,ob 17 .eql 15 16] (.cond Z17 (sr [oo 4 (.mov aT)] .ret) .skip))) (rg [ov 10 5,on 11 .add 10 1,ov 5 11])))))) (sr [oo 4 (.mov aF)] .ret)),[.t 4]⟩
def F63:AF:=⟨sr [om 4 0] (sq (sr [om 5 0] (.block 0 (.loop (sq (sr [ov 6 5,ov 7 0,oo 8 (lS Z7),ob 9 .lss 6 8] (.cond Z9 .skip (.exit 0))) (sq (.block 1 (sr [ov 12 0,ov 13 5,ox 14 1 12 13,ol 15 14,ov 16 1,ob 17 .eql 15 16] (.cond Z17 (sr [ov 18 5,ov 4 18] .ret) .skip))) (rg [ov 10 5,on 11 .add 10 1,ov 5 11])))))) (sr [oo 4 (.mov (nn (-1)))] .ret)),[.t 4]⟩
def F64:AF:=⟨sr [oo 3 (.box 3 Z0),oo 6 (.alloc [(.int .i64 0),(.int .i64 0)]),oo 7 (.mov aF)] (sq (sr [os 8 3 3,oo 9 (.call 58 [Z8]),on 10 .neq 9 0,ov 11 10,wF 12 (.mov Z1) 11,wF 13 (.bin .lss Z12 (nn 0)) 11,oo 14 (.pick Z11 aT Z13),ov 15 14,wF 16 (.mov Z1) 15,wF 17 (fA 2 Z3) 15,wF 18 (.load none Z17) 15,wF 19 (lS Z18) 15,wF 20 (.bin .geq Z16 Z19) 15,oo 21 (.pick Z15 aT Z20)] (.cond Z21 (sr [oo 22 (.build [(.int .i64 0),(.int .i64 0)] []),ou (.store 2 Z6 Z22),oo 7 (.mov aF)] .ret) .skip)) (sq (.draw [of 23 2 3,ol 24 23,ov 25 1,ox 26 3 24 25,os 27 3 26,of 28 2 3,ol 29 28,ov 30 1,ox 31 3 29 30,of 32 2 31,ol 33 32,oo 34 (lS Z33),ov 35 2,oo 36 (.call 84 [Z27,Z34,Z35]),oe 37 36 0,oe 38 36 1,ou (.store 2 Z6 Z37),ov 7 38] []) .ret)),[.cell 6 (some 2),.t 7]⟩
def F71:AF:=⟨sr [oo 1 (.box 3 Z0),oo 2 (.mov (.c (.sl none true 0 [])))] (sq (sr [os 6 3 1,oo 7 (.call 52 [Z6]),oo 8 (.un .not Z7)] (.cond Z8 (sr [oo 2 (.mov (.c (.sl none true 0 [])))] .ret) .skip)) (sr [oo 3 (.mov (.c (.sl none true 0 [])))] (sq (sr [of 9 2 1,ol 10 9,oo 11 (lS Z10),om 12 0] (.block 0 (.loop (sr [ob 13 .lss 12 11] (sq (.cond Z13 .skip (.exit 0)) (sq (.block 1 (sr [ov 14 12,ox 15 3 10 12,os 16 3 15,oo 5 (.alloc [(.int .i64 0),(.int .i64 0),(.sl none true 0 [])]),ov 4 14,ou (.store 3 Z5 Z16)] (sr [of 17 1 5,ol 18 17,on 19 .eql 18 1] (.cond Z19 (rg [ov 20 3,ov 21 4,oo 22 (.buildSl false 1 [(.int .i64 0)] [(0,1,Z21)] 1),oo 23 (.append false 1 8 Z20 Z22),ov 3 23]) .skip)))) (rg [on 24 .add 12 1,ov 12 24]))))))) (sr [ov 25 3,ov 2 25] .ret)))),[.t 2]⟩
def F74:AF:=⟨sr [oo 2 (.box 3 Z0),oo 3 (.box 2 Z1),oo 4 (.mov aF)] (sq (.seq (.draw [os 7 3 2,os 8 2 3,oo 9 (.call 120 [Z7,Z8]),oo 10 (.un .not Z9),ov 11 10,wF 12 (fA 2 Z2) 11,wF 13 (.load none Z12) 11,wF 14 (fA 0 Z3) 11,wF 15 (.load none Z14) 11,wF 16 (.idxSl 3 Z13 Z15) 11,wF 17 (fA 2 Z16) 11,wF 18 (.load none Z17) 11,wF 19 (fA 1 Z3) 11,wF 20 (.load none Z19) 11,wF 21 (.idxSl 4 Z18 Z20) 11,wF 22 (fA 0 Z21) 11,wF 23 (.load none Z22) 11,oo 24 (.pick Z11 aT Z23)] []) (.cond Z24 (sr [oo 4 (.mov aF)] .ret) .skip)) (sr [os 26 3 2,os 27 2 3,oo 28 (.call 121 [Z26,Z27]),ov 25 28,oe 29 25 0,oe 30 25 1,oo 5 (.alloc [(.int .i64 0),(.int .i64 0)]),ou (.store 2 Z5 Z29),ov 6 30] (sr [ov 31 6,oo 32 (.un .not Z31),ov 4 32] .ret))),[.t 4]⟩
def F75:AF:=⟨sr [oo 4 (.box 3 Z0),oo 8 (.mov (.c (.sl none true 0 [])))] (sr [of 13 2 4,ol 14 13,oo 15 (lS Z14),oo 16 (.mkSl false 1 1 [(.bool false)] Z15 Z15),ov 9 16] (sq (sr [oo 10 (.mov aT)] (.block 0 (.loop (sq (sr [ov 17 10] (.cond Z17 .skip (.exit 0))) (.block 1 (sr [oo 10 (.mov aF)] (sr [om 11 0] (.block 2 (.loop (sq (sr [ov 18 11,of 19 2 4,ol 20 19,oo 21 (lS Z20),ob 22 .lss 18 21] (.cond Z22 .skip (.exit 2))) (sq (.block 3 (sr [om 12 0] (.block 4 (.loop (sq (sr [ov 25 12,of 26 2 4,ol 27 26,oo 28 (lS Z27),ob 29 .lss 25 28] (.cond Z29 .skip (.exit 4))) (sq (.block 5 (sr [ov 32 9,ov 33 11,ox 34 1 32 33,ol 35 34,oo 36 (.un .not Z35),ov 37 36,wT 38 (.mov Z12) 37,wT 39 (.mov Z3) 37,wT 40 (.bin .eql Z38 Z39) 37,wT 41 (.mov Z40) 37,wF 42 (.mov Z9) 41,wF 43 (.mov Z12) 41,wF 44 (.idxSl 1 Z42 Z43) 41,wF 45 (.load none Z44) 41,wT 46 (.pick Z41 aT Z45) 37,oo 47 (.pick Z37 Z46 aF),ov 48 47,wT 49 (.load (some 3) Z4) 48,wT 50 (.mov Z1) 48,wT 51 (.mov Z2) 48,wT 52 (.mov Z11) 48,wT 53 (.mov Z12) 48,wT 54 (.call 122 [Z49,Z50,Z51,Z52,Z53]) 48,oo 55 (.pick Z48 Z54 aF)] (.cond Z55 (rg [ov 56 9,ov 57 11,ox 58 1 56 57,ou (.store 1 Z58 aT),oo 10 (.mov aT)]) .skip))) (rg [ov 30 12,on 31 .add 30 1,ov 12 31]))))))) (rg [ov 23 11,on 24 .add 23 1,ov 11 24])))))))))))) (sr [ov 59 9,ov 8 59] .ret))),[.t 8]⟩
def F84:AF:=⟨sr [oo 3 (.box 3 Z0),oo 6 (.alloc [(.int .i64 0),(.int .i64 0)]),oo 7 (.mov aF)] (sr [oo 11 (.build [(.int .i64 0),(.int .i64 0)] []),oo 8 (.alloc [(.int .i64 0),(.int .i64 0)]),ou (.store 2 Z8 Z11),oo 9 (.mov aF)] (sq (sr [om 10 0] (.block 0 (.loop (sq (sr [ov 12 10,ov 13 1,ob 14 .lss 12 13,ov 15 14,wT 16 (.mov Z10) 15,wT 17 (fA 2 Z3) 15,wT 18 (.load none Z17) 15,wT 19 (lS Z18) 15,wT 20 (.bin .lss Z16 Z19) 15,oo 21 (.pick Z15 Z20 aF)] (.cond Z21 .skip (.exit 0))) (sq (.block 1 (sr [of 24 2 3,ol 25 24,ov 26 10,ox 27 4 25 26,of 28 0 27,ol 29 28,ov 30 29,wT 31 (fA 2 Z3) 30,wT 32 (.load none Z31) 30,wT 33 (.mov Z10) 30,wT 34 (.idxSl 4 Z32 Z33) 30,wT 35 (fA 1 Z34) 30,wT 36 (.load none Z35) 30,wT 37 (.mov Z2) 30,wT 38 (.bin .eql Z36 Z37) 30,oo 39 (.pick Z30 Z38 aF)] (.cond Z39 (rg [of 40 2 3,ol 41 40,ov 42 10,ox 43 4 41 42,of 44 2 43,os 45 2 44,ou (.store 2 Z8 Z45),oo 9 (.mov aT)]) .skip))) (rg [ov 22 10,on 23 .add 22 1,ov 10 23])))))) (sr [os 46 2 8,ov 47 9,ou (.store 2 Z6 Z46),ov 7 47] .ret))),[.cell 6 (some 2),.t 7]⟩
def F86:AF:=⟨sr [oo 1 (.box 3 Z0),oo 2 (.mov (.c (.sl none true 0 [])))] (sr [oo 3 (.mov (.c (.sl none true 0 [])))] (sq (sr [os 8 3 1,oo 9 (.call 71 [Z8]),oo 10 (lS Z9),om 11 0] (.block 0 (.loop (sr [ob 12 .lss 11 10] (sq (.cond Z12 .skip (.exit 0)) (sq (.block 1 (sr [ox 13 1 9 11,ol 14 13,ov 5 14] (sr [of 15 2 1,ol 16 15,ov 17 5,ox 18 3 16 17,of 19 2 18,ol 20 19,oo 21 (lS Z20),om 22 0] (.block 2 (.loop (sr [ob 23 .lss 22 21] (sq (.cond Z23 .skip (.exit 2)) (sq (.block 3 (sr [ov 24 22,ov 6 24] (sr [ov 25 5,ov 26 6,oo 27 (.build [(.int .i64 0),(.int .i64 0)] [(0,1,Z25),(1,1,Z26)]),oo 7 (.alloc [(.int .i64 0),(.int .i64 0)]),ou (.store 2 Z7 Z27)] (sr [os 28 3 1,os 29 2 7,oo 30 (.call 136 [Z28,Z29])] (.cond Z30 (rg [ov 31 3,os 32 2 7,oo 33 (.buildSl false 2 [(.int .i64 0),(.int .i64 0)] [(0,2,Z32)] 1),oo 34 (.append false 2 16 Z31 Z33),ov 3 34]) .skip))))) (rg [on 35 .add 22 1,ov 22 35]))))))))) (rg [on 36 .add 11 1,ov 11 36]))))))) (sr [ov 37 3,ov 2 37] .ret))),[.t 2]⟩
def F97:AF:=cf true false Tryz.f97
def F100:AF:=cf true false Tryz.f100
def F103:AF:=⟨sr [oo 1 (.box 3 Z0),oo 2 (.alloc [(.int .i64 0)])] (sq (sr [os 5 3 1,oo 6 (.call 152 [Z5]),oo 7 (.un .not Z6),ov 8 7,wF 9 (fA 2 Z1) 8,wF 10 (.load none Z9) 8,wF 11 (.mkFn (.func 154) [] [.t 1]) 8,wF 12 (.call 153 [Z10,Z11]) 8,oo 13 (.pick Z8 aT Z12)] (.cond Z13 (sr [ou (.store 1 Z2 (nn 4))] .ret) .skip)) (sq (sr [os 14 3 1,oo 15 (.call 156 [Z14])] (.block 0 (.rangeFunc Z15 [16,17] (rg [oo 4 (.alloc [(.bool false),(.int .i64 0),(.int .i64 0),(.int .i64 0)]),ou (.store 4 Z4 Z17)]) (.block 1 (sr [os 18 3 1,os 19 4 4,oo 20 (.call 157 [Z18,Z19]),oo 21 (.un .not Z20)] (.cond Z21 (sr [ou (.store 1 Z2 (nn 4))] .ret) .skip)))))) (sq (sr [os 22 3 1,oo 23 (.call 158 [Z22]),oo 24 (.un .not Z23)] (.cond Z24 (sr [ou (.store 1 Z2 (nn 4))] .ret) .skip)) (sr [ou (.store 1 Z2 (nn 0))] .ret)))),[.cell 2 none]⟩
def F104:AF:=⟨sr [oo 1 (.box 3 Z0),oo 2 (.mov (.c (.sl none true 0 [])))] (sr [os 3 3 1,oo 4 (.call 159 [Z3,(.c (.fn (.func 160) [] []))]),ov 2 4] .ret),[.t 2]⟩
def F105:AF:=⟨sr [oo 1 (.box 3 Z0),oo 2 (.mov (.c (.sl none true 0 [])))] (sq (sr [os 6 3 1,oo 7 (.call 103 [Z6]),on 8 .neq 7 0] (.cond Z8 (sr [oo 2 (.mov (.c (.sl none true 0 [])))] .ret) .skip)) (sr [oo 3 (.alloc [(.sl none true 0 [])])] (sq (sr [os 9 3 1,oo 10 (.call 156 [Z9])] (.block 0 (.rangeFunc Z10 [11,12] (sr [oo 4 (.alloc [(.int .i64 0),(.int .i64 0)]),ou (.store 2 Z4 Z11)] (rg [oo 5 (.alloc [(.bool false),(.int .i64 0),(.int .i64 0),(.int .i64 0)]),ou (.store 4 Z5 Z12)])) (.block 1 (sr [of 13 2 5,of 14 0 13,ol 15 14,on 16 .eql 15 2] (.cond Z16 (rg [ol 17 3,os 18 2 4,oo 19 (.buildSl false 2 [(.int .i64 0),(.int .i64 0)] [(0,2,Z18)] 1),oo 20 (.append false 2 16 Z17 Z19),ou (.store 1 Z3 Z20)]) .skip)))))) (sr [ol 21 3,ov 2 21] .ret)))),[.t 2]⟩
def F106:AF:=⟨sr [qq 2 (.box 3 Z0),qq 4 (.mov (.c (.sl none true 0 []))),qq 5 (.mov (.c (.sl none true 0 []))),qq 6 (.mov aF)] (sr [qs 11 3 2,qq 12 (.call 161 [Z11]),qv 7 12] (sq (sr [qs 13 3 2,qq 14 (.call 52 [Z13]),qq 15 (.un .not Z14),qv 16 15,zF 17 (.mov Z7) 16,zF 18 (lS Z17) 16,zF 19 (.mov Z1) 16,zF 20 (lS Z19) 16,zF 21 (.bin .neq Z18 Z20) 16,qq 22 (.pick Z16 aT Z21)] (.cond Z22 (sr [qq 4 (.mov (.c (.sl none true 0 []))),qq 5 (.mov (.c (.sl none true 0 []))),qq 6 (.mov aF)] .ret) .skip)) (sr [qv 23 1,qq 24 (lS Z23),qq 25 (.mkSl true 1 8 [(.int .i64 0)] Z24 Z24),qv 8 25] (sq (sr [qv 26 7,qq 27 (lS Z26),qm 28 0] (.block 0 (.loop (sr [qb 29 .lss 28 27] (sq (.cond Z29 .skip (.exit 0)) (sq (.block 1 (sr [qv 30 28,qx 31 1 26 28,ql 32 31,qv 9 30,qv 10 32] (sr [qv 33 8,qv 34 9,qv 35 10,qv 36 1,qv 37 9,qx 38 1 36 37,ql 39 38,qq 40 (.call 127 [Z35,Z39]),qx 41 1 33 34,qu (.store 1 Z41 Z40)] (sr [qv 42 8,qv 43 9,qx 44 1 42 43,ql 45 44,qn 46 .lss 45 0] (.cond Z46 (sr [qq 4 (.mov (.c (.sl none true 0 []))),qq 5 (.mov (.c (.sl none true 0 []))),qq 6 (.mov aF)] .ret) .skip))))) (rg [qn 47 .add 28 1,qv 28 47]))))))) (sr [qv 48 7,qv 49 8,qv 4 48,qv 5 49,qq 6 (.mov aT)] .ret))))),[.t 4,.t 5,.t 6]⟩
def F108:AF:=cf false false Tryz.f108
def F109:AF:=cf true false Tryz.f109
def F110:AF:=⟨sr [oo 2 (.mov aF)] (sq (sr [om 3 0] (.block 0 (.loop (sq (sr [ov 4 3,ov 5 0,oo 6 (lS Z5),ob 7 .lss 4 6] (.cond Z7 .skip (.exit 0))) (sq (.block 1 (sq (.draw [ov 10 0,ov 11 3,ox 12 1 10 11,ol 13 12,oo 14 (.call 172 [Z13]),oo 15 (.un .not Z14),ov 16 15,wF 17 (.mov Z3) 16,wF 18 (.bin .gtr Z17 (nn 0)) 16,wF 19 (.mov Z18) 16,wT 20 (.mov Z0) 19,wT 21 (.mov Z3) 19,wT 22 (.bin .sub Z21 (nn 1)) 19,wT 23 (.idxSl 1 Z20 Z22) 19,wT 24 (.load none Z23) 19,wT 25 (.mov Z0) 19,wT 26 (.mov Z3) 19,wT 27 (.idxSl 1 Z25 Z26) 19,wT 28 (.load none Z27) 19,wT 29 (.call 173 [Z24,Z28]) 19,wT 30 (.un .not Z29) 19,wF 31 (.pick Z19 Z30 aF) 16,oo 32 (.pick Z16 aT Z31)] []) (.cond Z32 (sr [oo 2 (.mov aF)] .ret) .skip))) (rg [ov 8 3,on 9 .add 8 1,ov 3 9])))))) (sr [oo 2 (.mov aT)] .ret)),[.t 2]⟩
def F116:AF:=⟨sr [oo 3 (.box 3 Z0),oo 6 (.alloc [(.int .i64 0),(.int .i64 0)]),oo 7 (.mov aF)] (sr [os 8 3 3,ov 9 1,oo 10 (.call 176 [Z8,Z9]),ov 11 2,oo 12 (.call 177 [Z10,Z11]),oe 13 12 0,oe 14 12 1,ou (.store 2 Z6 Z13),ov 7 14] .ret),[.cell 6 (some 2),.t 7]⟩
def F118:AF:=cf false false Tryz.f118
def F120:AF:=⟨sr [oo 2 (.box 3 Z0),oo 3 (.box 2 Z1),oo 4 (.mov aF)] (sq (.draw [os 5 3 2,oo 6 (.call 58 [Z5]),on 7 .eql 6 0,ov 8 7,wT 9 (fA 0 Z3) 8,wT 10 (.load none Z9) 8,wT 11 (.bin .geq Z10 (nn 0)) 8,oo 12 (.pick Z8 Z11 aF),ov 13 12,wT 14 (fA 0 Z3) 13,wT 15 (.load none Z14) 13,wT 16 (fA 2 Z2) 13,wT 17 (.load none Z16) 13,wT 18 (lS Z17) 13,wT 19 (.bin .lss Z15 Z18) 13,oo 20 (.pick Z13 Z19 aF),ov 21 20,wT 22 (fA 1 Z3) 21,wT 23 (.load none Z22) 21,wT 24 (.bin .geq Z23 (nn 0)) 21,oo 25 (.pick Z21 Z24 aF),ov 26 25,wT 27 (fA 1 Z3) 26,wT 28 (.load none Z27) 26,wT 29 (fA 2 Z2) 26,wT 30 (.load none Z29) 26,wT 31 (fA 0 Z3) 26,wT 32 (.load none Z31) 26,wT 33 (.idxSl 3 Z30 Z32) 26,wT 34 (fA 2 Z33) 26,wT 35 (.load none Z34) 26,wT 36 (lS Z35) 26,wT 37 (.bin .lss Z28 Z36) 26,oo 38 (.pick Z26 Z37 aF),ov 4 38] []) .ret),[.t 4]⟩
def F121:AF:=⟨sr [oo 2 (.box 3 Z0),oo 3 (.box 2 Z1),oo 4 (.alloc [(.int .i64 0),(.int .i64 0)]),oo 5 (.mov aF)] (sq (sr [os 6 3 2,os 7 2 3,oo 8 (.call 120 [Z6,Z7]),oo 9 (.un .not Z8)] (.cond Z9 (sr [oo 10 (.build [(.int .i64 0),(.int .i64 0)] []),ou (.store 2 Z4 Z10),oo 5 (.mov aF)] .ret) .skip)) (sq (.draw [of 11 2 2,ol 12 11,of 13 0 3,ol 14 13,ox 15 3 12 14,os 16 3 15,of 17 1 3,ol 18 17,of 19 2 2,ol 20 19,of 21 0 3,ol 22 21,ox 23 3 20 22,of 24 2 23,ol 25 24,of 26 1 3,ol 27 26,ox 28 4 25 27,of 29 1 28,ol 30 29,oo 31 (.call 84 [Z16,Z18,Z30]),oe 32 31 0,oe 33 31 1,ou (.store 2 Z4 Z32),ov 5 33] []) .ret)),[.cell 4 (some 2),.t 5]⟩
def F122:AF:=⟨sr [oo 5 (.box 3 Z0),oo 10 (.mov aF)] (sq (sr [of 12 2 5,ol 13 12,ov 14 3,ox 15 3 13 14,of 16 1 15,ol 17 16,on 18 .neq 17 1,ov 19 18,wF 20 (fA 2 Z5) 19,wF 21 (.load none Z20) 19,wF 22 (.mov Z4) 19,wF 23 (.idxSl 3 Z21 Z22) 19,wF 24 (fA 1 Z23) 19,wF 25 (.load none Z24) 19,wF 26 (.bin .neq Z25 (nn 1)) 19,oo 27 (.pick Z19 aT Z26)] (.cond Z27 (sr [oo 10 (.mov aF)] .ret) .skip)) (sq (.seq (.draw [ov 28 3,ov 29 4,ob 30 .lss 28 29,ov 31 30,wT 32 (fA 2 Z5) 31,wT 33 (.load none Z32) 31,wT 34 (.mov Z3) 31,wT 35 (.idxSl 3 Z33 Z34) 31,wT 36 (fA 0 Z35) 31,wT 37 (.load none Z36) 31,wT 38 (fA 2 Z5) 31,wT 39 (.load none Z38) 31,wT 40 (.mov Z4) 31,wT 41 (.idxSl 3 Z39 Z40) 31,wT 42 (fA 0 Z41) 31,wT 43 (.load none Z42) 31,wT 44 (.bin .eql Z37 Z43) 31,oo 45 (.pick Z31 Z44 aF)] []) (.cond Z45 (sr [oo 10 (.mov aT)] .ret) .skip)) (sq (sr [om 11 0] (.block 0 (.loop (sq (sr [ov 46 11,ov 47 1,oo 48 (lS Z47),ob 49 .lss 46 48] (.cond Z49 .skip (.exit 0))) (sq (.block 1 (sr [ov 52 2,ov 53 11,ox 54 1 52 53,ol 55 54,ov 56 3,ob 57 .eql 55 56,ov 58 57,wT 59 (.mov Z1) 58,wT 60 (.mov Z11) 58,wT 61 (.idxSl 2 Z59 Z60) 58,wT 62 (fA 0 Z61) 58,wT 63 (.load none Z62) 58,wT 64 (.mov Z4) 58,wT 65 (.bin .eql Z63 Z64) 58,oo 66 (.pick Z58 Z65 aF)] (.cond Z66 (sr [oo 10 (.mov aT)] .ret) .skip))) (rg [ov 50 11,on 51 .add 50 1,ov 11 51])))))) (sr [oo 10 (.mov aF)] .ret)))),[.t 10]⟩
def F124:AF:=cf false false Tryz.f124
def F127:AF:=⟨sr [om 4 0] (sq (sr [ov 6 0,oo 7 (lS Z6),om 8 0] (.block 0 (.loop (sr [ob 9 .lss 8 7] (sq (.cond Z9 .skip (.exit 0)) (sq (.block 1 (sr [ov 10 8,ov 5 10] (sr [ov 11 1,ov 12 0,ov 13 5,ox 14 1 12 13,ol 15 14,ob 16 .eql 11 15] (.cond Z16 (sr [ov 17 5,ov 4 17] .ret) .skip)))) (rg [on 18 .add 8 1,ov 8 18]))))))) (sr [oo 4 (.mov (nn (-1)))] .ret)),[.t 4]⟩
def F128:AF:=cf false false Tryz.f128
def F130:AF:=cf false false Tryz.f130
def F136:AF:=⟨sr [oo 2 (.box 3 Z0),oo 3 (.box 2 Z1),oo 4 (.mov aF)] (sr [os 8 3 2,of 9 0 3,ol 10 9,oo 11 (.call 176 [Z8,Z10]),ov 5 11] (sq (sr [of 12 1 3,ol 13 12,on 14 .lss 13 0,ov 15 14,wF 16 (fA 1 Z3) 15,wF 17 (.load none Z16) 15,wF 18 (.mov Z5) 15,wF 19 (lS Z18) 15,wF 20 (.bin .geq Z17 Z19) 15,oo 21 (.pick Z15 aT Z20),ov 22 21,wF 23 (.mov Z5) 22,wF 24 (fA 1 Z3) 22,wF 25 (.load none Z24) 22,wF 26 (.idxSl 4 Z23 Z25) 22,wF 27 (fA 0 Z26) 22,wF 28 (.load none Z27) 22,oo 29 (.pick Z22 aT Z28)] (.cond Z29 (sr [oo 4 (.mov aF)] .ret) .skip)) (sq (.draw [ov 31 5,of 32 1 3,ol 33 32,oo 34 (.slSl 4 Z31 none (some Z33)),ov 35 5,of 36 1 3,ol 37 36,ox 38 4 35 37,of 39 1 38,ol 40 39,oo 41 (.call 177 [Z34,Z40]),ov 30 41,oe 42 30 0,oe 43 30 1,oo 6 (.alloc [(.int .i64 0),(.int .i64 0)]),ou (.store 2 Z6 Z42),ov 7 43] [(2,14),(6,14),(9,14),(10,14)]) (sr [ov 44 7,oo 45 (.un .not Z44),ov 4 45] .ret)))),[.t 4]⟩
def F145:AF:=cf false false Tryz.f145
def F146:AF:=cf false false Tryz.f146
def F147:AF:=cf false false Tryz.f147
def F148:AF:=cf false false Tryz.f148
def F149:AF:=cf false false Tryz.f149
def F152:AF:=⟨sr [oo 1 (.box 3 Z0),oo 2 (.mov aF)] (sr [of 3 0 1,ol 4 3,oo 5 (.call 212 [Z4]),ov 6 5,wT 7 (fA 1 Z1) 6,wT 8 (.load none Z7) 6,wT 9 (.call 212 [Z8]) 6,oo 10 (.pick Z6 Z9 aF),ov 11 10,wT 12 (fA 0 Z1) 11,wT 13 (.load none Z12) 11,wT 14 (lS Z13) 11,wT 15 (.bin .leq Z14 (nn 20)) 11,oo 16 (.pick Z11 Z15 aF),ov 17 16,wT 18 (fA 1 Z1) 17,wT 19 (.load none Z18) 17,wT 20 (lS Z19) 17,wT 21 (.bin .leq Z20 (nn 40)) 17,oo 22 (.pick Z17 Z21 aF),ov 23 22,wT 24 (fA 2 Z1) 23,wT 25 (.load none Z24) 23,wT 26 (lS Z25) 23,wT 27 (.bin .leq Z26 (nn 40)) 23,oo 28 (.pick Z23 Z27 aF),ov 2 28] .ret),[.t 2]⟩
def F155:AF:=⟨sr [oo 2 (.box 3 Z0),oo 3 (.box 3 Z1),oo 4 (.mov aF)] (sr [of 5 0 3,ol 6 5,of 7 0 2,ol 8 7,oo 9 (.call 214 [Z6,Z8]),ov 10 9,wT 11 (fA 1 Z3) 10,wT 12 (.load none Z11) 10,wT 13 (.bin .geq Z12 (nn 1)) 10,oo 14 (.pick Z10 Z13 aF),ov 15 14,wT 16 (fA 1 Z3) 15,wT 17 (.load none Z16) 15,wT 18 (.bin .leq Z17 (nn 3)) 15,oo 19 (.pick Z15 Z18 aF),ov 20 19,wT 21 (fA 2 Z3) 20,wT 22 (.load none Z21) 20,wT 23 (lS Z22) 20,wT 24 (.bin .leq Z23 (nn 20)) 20,oo 25 (.pick Z20 Z24 aF),ov 4 25] .ret),[.t 4]⟩
def F157:AF:=⟨sr [oo 2 (.box 3 Z0),oo 3 (.box 4 Z1),oo 4 (.mov aF)] (sr [of 5 1 3,ol 6 5,of 7 1 2,ol 8 7,oo 9 (.call 214 [Z6,Z8]),ov 10 9,wT 11 (fA 2 Z3) 10,wT 12 (.load (some 2) Z11) 10,wT 13 (.call 216 [Z12]) 10,oo 14 (.pick Z10 Z13 aF),ov 15 14,wT 16 (fA 0 Z3) 15,wT 17 (.load none Z16) 15,wT 18 (.un .not Z17) 15,wT 19 (.mov Z18) 15,wF 20 (fA 2 Z3) 19,wF 21 (fA 0 Z20) 19,wF 22 (.load none Z21) 19,wF 23 (.bin .eql Z22 (nn 1)) 19,wT 24 (.pick Z19 aT Z23) 15,oo 25 (.pick Z15 Z24 aF),ov 4 25] .ret),[.t 4]⟩
def F158:AF:=⟨sr [oo 1 (.box 3 Z0),oo 2 (.mov aF)] (sr [oo 9 (.mkMap),oo 10 (.mkMap),oo 4 (.alloc [.nilmap]),ov 3 9,ou (.store 1 Z4 Z10)] (sq (sr [of 11 2 1,ol 12 11,oo 13 (lS Z12),om 14 0] (.block 0 (.loop (sr [ob 15 .lss 14 13] (sq (.cond Z15 .skip (.exit 0)) (sq (.block 1 (sr [ox 16 3 12 14,os 17 3 16,oo 6 (.alloc [(.int .i64 0),(.int .i64 0),(.sl none true 0 [])]),ou (.store 3 Z6 Z17)] (rg [ov 18 3,of 19 0 6,ol 20 19,oo 21 (.lookup .int (.int .i64 0) false Z18 Z20),on 22 .add 21 1,ou (.mapSet .int Z18 Z20 Z22)]))) (rg [on 23 .add 14 1,ov 14 23]))))))) (sq (sr [os 24 3 1,oo 25 (.call 156 [Z24])] (.block 2 (.rangeFunc Z25 [26,27] (rg [oo 8 (.alloc [(.bool false),(.int .i64 0),(.int .i64 0),(.int .i64 0)]),ou (.store 4 Z8 Z27)]) (.block 3 (rg [ol 28 4,of 29 1 8,ol 30 29,oo 31 (.lookup .int (.int .i64 0) false Z28 Z30),on 32 .add 31 1,ou (.mapSet .int Z28 Z30 Z32)]))))) (sr [ov 33 3,oo 34 (.lenMap Z33),of 35 0 1,ol 36 35,oo 37 (lS Z36),ob 38 .eql 34 37,ov 39 38,wT 40 (.load none Z4) 39,wT 41 (.lenMap Z40) 39,wT 42 (fA 1 Z1) 39,wT 43 (.load none Z42) 39,wT 44 (lS Z43) 39,wT 45 (.bin .eql Z41 Z44) 39,oo 46 (.pick Z39 Z45 aF),ov 2 46] .ret)))),[.t 2]⟩
def F159:AF:=⟨sr [oo 2 (.box 3 Z0),oo 4 (.mov (.c (.sl none true 0 [])))] (sq (sr [os 8 3 2,oo 9 (.call 103 [Z8]),on 10 .neq 9 0] (.cond Z10 (sr [oo 4 (.mov (.c (.sl none true 0 [])))] .ret) .skip)) (sr [oo 5 (.mov (.c (.sl none true 0 [])))] (sq (sr [of 11 2 2,ol 12 11,oo 13 (lS Z12),om 14 0] (.block 0 (.loop (sr [ob 15 .lss 14 13] (sq (.cond Z15 .skip (.exit 0)) (sq (.block 1 (sr [ov 16 14,ox 17 3 12 14,os 18 3 17,oo 7 (.alloc [(.int .i64 0),(.int .i64 0),(.sl none true 0 [])]),ov 6 16,ou (.store 3 Z7 Z18)] (sr [ov 19 1,os 20 3 7,oo 21 (.callV Z19 [.t 20])] (.cond Z21 (rg [ov 22 5,ov 23 6,oo 24 (.buildSl false 1 [(.int .i64 0)] [(0,1,Z23)] 1),oo 25 (.append false 1 8 Z22 Z24),ov 5 25]) .skip)))) (rg [on 26 .add 14 1,ov 14 26]))))))) (sr [ov 27 5,ov 4 27] .ret)))),[.t 4]⟩
def F160:AF:=⟨sr [oo 1 (.box 3 Z0),oo 2 (.mov aF)] (sr [of 3 1 1,ol 4 3,on 5 .eql 4 3,ov 2 5] .ret),[.t 2]⟩
def F161:AF:=⟨sr [oo 1 (.box 3 Z0),oo 2 (.mov (.c (.sl none true 0 [])))] (sr [oo 3 (.mov (.c (.sl none true 0 [])))] (sq (sr [os 6 3 1,oo 7 (.call 86 [Z6]),oo 8 (lS Z7),om 9 0] (.block 0 (.loop (sr [ob 10 .lss 9 8] (sq (.cond Z10 .skip (.exit 0)) (sq (.block 1 (sr [ox 11 2 7 9,os 12 2 11,oo 5 (.alloc [(.int .i64 0),(.int .i64 0)]),ou (.store 2 Z5 Z12)] (rg [ov 13 3,os 14 3 1,os 15 2 5,oo 16 (.call 217 [Z14,Z15]),oo 17 (.buildSl false 1 [(.sl none true 0 [])] [(0,1,Z16)] 1),oo 18 (.append false 1 24 Z13 Z17),ov 3 18]))) (rg [on 19 .add 9 1,ov 9 19]))))))) (sr [ov 20 3,ov 2 20] .ret))),[.t 2]⟩
def F166:AF:=cf false false Tryz.f166
def F167:AF:=cf false false Tryz.f167
def F170:AF:=cf false false Tryz.f170
def F172:AF:=⟨sr [oo 2 (.mov aF)] (sr [ov 6 0,oo 7 (.call 234 [Z6]),ov 3 7] (sq (sr [ov 8 3,oo 9 (lS Z8),on 10 .lss 9 1,ov 11 10,wF 12 (.mov Z3) 11,wF 13 (lS Z12) 11,wF 14 (.bin .gtr Z13 (nn 20)) 11,oo 15 (.pick Z11 aT Z14),ov 16 15,wF 17 (.mov Z0) 16,wF 18 (.call 235 [Z17]) 16,oo 19 (.pick Z16 aT Z18),ov 20 19,wF 21 (.mov Z0) 20,wF 22 (.call 236 [Z21]) 20,wF 23 (.un .not Z22) 20,oo 24 (.pick Z20 aT Z23),ov 25 24,wF 26 (.mov Z3) 25,wF 27 (.idxSl 1 Z26 (nn 0)) 25,wF 28 (.load none Z27) 25,wF 29 (.bin .geq Z28 (nn 48)) 25,wF 30 (.mov Z29) 25,wT 31 (.mov Z3) 30,wT 32 (.idxSl 1 Z31 (nn 0)) 30,wT 33 (.load none Z32) 30,wT 34 (.bin .leq Z33 (nn 57)) 30,wF 35 (.pick Z30 Z34 aF) 25,oo 36 (.pick Z25 aT Z35)] (.cond Z36 (sr [oo 2 (.mov aF)] .ret) .skip)) (sq (sr [om 4 0] (.block 0 (.loop (sq (sr [ov 37 4,ov 38 3,oo 39 (lS Z38),ob 40 .lss 37 39] (.cond Z40 .skip (.exit 0))) (sq (.block 1 (sr [ov 43 3,ov 44 4,ox 45 1 43 44,ol 46 45,ov 5 46] (sr [ov 47 5,on 48 .lss 47 128,ov 49 48,wT 50 (.mov Z5) 49,wT 51 (.bin .neq Z50 (nn 95)) 49,oo 52 (.pick Z49 Z51 aF),ov 53 52,wT 54 (.mov Z5) 53,wT 55 (.bin .lss Z54 (nn 48)) 53,wT 56 (.mov Z55) 53,wF 57 (.mov Z5) 56,wF 58 (.bin .gtr Z57 (nn 57)) 56,wT 59 (.pick Z56 aT Z58) 53,oo 60 (.pick Z53 Z59 aF),ov 61 60,wT 62 (.mov Z5) 61,wT 63 (.bin .lss Z62 (nn 65)) 61,wT 64 (.mov Z63) 61,wF 65 (.mov Z5) 64,wF 66 (.bin .gtr Z65 (nn 90)) 64,wT 67 (.pick Z64 aT Z66) 61,oo 68 (.pick Z61 Z67 aF),ov 69 68,wT 70 (.mov Z5) 69,wT 71 (.bin .lss Z70 (nn 97)) 69,wT 72 (.mov Z71) 69,wF 73 (.mov Z5) 72,wF 74 (.bin .gtr Z73 (nn 122)) 72,wT 75 (.pick Z72 aT Z74) 69,oo 76 (.pick Z69 (.t 75) aF)] (.cond Z76 (sr [oo 2 (.mov aF)] .ret) .skip)))) (rg [ov 41 4,on 42 .add 41 1,ov 4 42])))))) (sr [oo 2 (.mov aT)] .ret)))),[.t 2]⟩
def F173:AF:=⟨sr [oo 4 (.mov aF)] (sr [ov 8 0,oo 9 (.call 234 [Z8]),ov 10 1,oo 11 (.call 234 [Z10]),ov 5 9,ov 6 11] (sq (sr [om 7 0] (.block 0 (.loop (sq (sr [ov 12 7,ov 13 5,oo 14 (lS Z13),ob 15 .lss 12 14,ov 16 15,wT 17 (.mov Z7) 16,wT 18 (.mov Z6) 16,wT 19 (lS Z18) 16,wT 20 (.bin .lss Z17 Z19) 16,oo 21 (.pick Z16 Z20 aF)] (.cond Z21 .skip (.exit 0))) (sq (.block 1 (sq (.draw [ov 24 5,ov 25 7,ox 26 1 24 25,ol 27 26,ov 28 6,ov 29 7,ox 30 1 28 29,ol 31 30,ob 32 .neq 27 31] []) (.cond Z32 (sq (.draw [ov 33 5,ov 34 7,ox 35 1 33 34,ol 36 35,ov 37 6,ov 38 7,ox 39 1 37 38,ol 40 39,ob 41 .lss 36 40,ov 4 41] []) .ret) .skip))) (rg [ov 22 7,on 23 .add 22 1,ov 7 23])))))) (sr [ov 42 5,oo 43 (lS Z42),ov 44 6,oo 45 (lS Z44),ob 46 .lss 43 45,ov 4 46] .ret))),[.t 4]⟩
def F174:AF:=⟨sr [oo 1 (.box 2 Z0),oo 2 (.mov aF)] (sr [of 3 0 1,ol 4 3,on 5 .eql 4 1,ov 6 5,wF 7 (fA 0 Z1) 6,wF 8 (.load none Z7) 6,wF 9 (.bin .eql Z8 (nn 0)) 6,wF 10 (.mov Z9) 6,wF 11 (fA 0 Z1) 10,wF 12 (.load none Z11) 10,wF 13 (.bin .eql Z12 (nn 2)) 10,wF 14 (.pick Z10 aT Z13) 6,wF 15 (.mov Z14) 6,wT 16 (fA 1 Z1) 15,wT 17 (.load none Z16) 15,wT 18 (.bin .eql Z17 (nn 0)) 15,wF 19 (.pick Z15 Z18 aF) 6,oo 20 (.pick Z6 aT Z19),ov 2 20] .ret),[.t 2]⟩
def F176:AF:=⟨sr [oo 2 (.box 3 Z0),oo 4 (.mov (.c (.sl none true 0 [])))] (sq (sr [os 5 3 2,oo 6 (.call 103 [Z5]),on 7 .neq 6 0,ov 8 7,wF 9 (.mov Z1) 8,wF 10 (.bin .lss Z9 (nn 0)) 8,oo 11 (.pick Z8 aT Z10),ov 12 11,wF 13 (.mov Z1) 12,wF 14 (fA 2 Z2) 12,wF 15 (.load none Z14) 12,wF 16 (lS Z15) 12,wF 17 (.bin .geq Z13 Z16) 12,oo 18 (.pick Z12 aT Z17)] (.cond Z18 (sr [oo 4 (.mov (.c (.sl none true 0 [])))] .ret) .skip)) (sr [of 19 2 2,ol 20 19,ov 21 1,ox 22 3 20 21,of 23 2 22,ol 24 23,ov 4 24] .ret)),[.t 4]⟩
def F177:AF:=⟨sr [oo 3 (.box 1 Z1),oo 4 (.alloc [(.int .i64 0),(.int .i64 0)]),oo 5 (.alloc [(.bool false)])] (sq (sr [ov 8 0,oo 9 (.call 237 [Z8])] (.block 0 (.rangeFunc Z9 [10,11] (rg [oo 7 (.alloc [(.bool false),(.int .i64 0),(.int .i64 0),(.int .i64 0)]),ou (.store 4 Z7 Z11)]) (.block 1 (sr [of 12 0 7,ol 13 12,ov 14 13,wT 15 (fA 1 Z7) 14,wT 16 (.load none Z15) 14,wT 17 (.load none Z3) 14,wT 18 (.bin .eql Z16 Z17) 14,oo 19 (.pick Z14 Z18 aF)] (.cond Z19 (sr [of 20 2 7,os 21 2 20,ou (.store 2 Z4 Z21),ou (.store 1 Z5 aT)] .ret) .skip)))))) (sr [oo 22 (.build [(.int .i64 0),(.int .i64 0)] []),ou (.store 2 Z4 Z22),ou (.store 1 Z5 aF)] .ret)),[.cell 4 (some 2),.cell 5 none]⟩
def F188:AF:=cf false false Tryz.f188
def F189:AF:=⟨sr [oo 2 (.mov aF)] (sr [ov 3 0,on 4 .geq 3 0,ov 5 4,wT 6 (.mov Z0) 5,wT 7 (.bin .lss Z6 (nn 500)) 5,oo 8 (.pick Z5 Z7 aF),ov 2 8] .ret),[.t 2]⟩
def F190:AF:=cf false false Tryz.f190
def F194:AF:=⟨sr [oo 6 (.mov (.c (.sl none true 0 []))),om 7 0] (sr [ov 11 0,ov 12 2,oo 13 (.call 144 [Z11,Z12]),ov 10 13,oe 14 10 0,oe 15 10 1,ov 8 14,ov 9 15] (sq (sr [ov 16 9,on 17 .neq 16 0] (.cond Z17 (sr [ov 18 9,oo 6 (.mov (.c (.sl none true 0 []))),ov 7 18] .ret) .skip)) (sq (sr [ov 19 1,on 20 .lss 19 0,ov 21 20,wF 22 (.mov Z1) 21,wF 23 (.mov Z0) 21,wF 24 (.bin .geq Z22 Z23) 21,oo 25 (.pick Z21 aT Z24)] (.cond Z25 (sr [oo 6 (.mov (.c (.sl none true 0 []))),om 7 2] .ret) .skip)) (sr [ov 26 8,oo 27 (.call 244 [Z26]),ov 28 1,ox 29 1 27 28,ol 30 29,oo 31 (.call 130 [Z30]),ov 32 9,ov 6 31,ov 7 32] .ret)))),[.t 6,.t 7]⟩
def F206:AF:=cf false false Tryz.f206
def F208:AF:=cf false false Tryz.f208
def F209:AF:=cf false false Tryz.f209
def F210:AF:=cf false false Tryz.f210
def F212:AF:=⟨sr [oo 2 (.mov aF)] (sq (sr [ov 5 0,oo 6 (lS Z5),om 7 0] (.block 0 (.loop (sr [ob 8 .lss 7 6] (sq (.cond Z8 .skip (.exit 0)) (sq (.block 1 (sr [ov 9 7,ox 10 1 5 7,ol 11 10,ov 3 9,ov 4 11] (sr [ov 12 4,oo 13 (.call 229 [Z12]),oo 14 (.un .not Z13),ov 15 14,wF 16 (.mov Z3) 15,wF 17 (.bin .gtr Z16 (nn 0)) 15,wF 18 (.mov Z17) 15,wT 19 (.mov Z0) 18,wT 20 (.mov Z3) 18,wT 21 (.bin .sub Z20 (nn 1)) 18,wT 22 (.idxSl 1 Z19 Z21) 18,wT 23 (.load none Z22) 18,wT 24 (.mov Z4) 18,wT 25 (.call 251 [Z23,Z24]) 18,wT 26 (.un .not Z25) 18,wF 27 (.pick Z18 Z26 aF) 15,oo 28 (.pick Z15 aT Z27)] (.cond Z28 (sr [oo 2 (.mov aF)] .ret) .skip)))) (rg [on 29 .add 7 1,ov 7 29]))))))) (sr [oo 2 (.mov aT)] .ret)),[.t 2]⟩
def F214:AF:=⟨sr [oo 4 (.mov aF)] (sr [ov 5 0,on 6 .geq 5 0,ov 7 6,wT 8 (.mov Z0) 7,wT 9 (.mov Z1) 7,wT 10 (lS Z9) 7,wT 11 (.bin .lss Z8 Z10) 7,oo 12 (.pick Z7 Z11 aF),ov 4 12] .ret),[.t 4]⟩
def F216:AF:=⟨sr [oo 1 (.box 2 Z0),oo 2 (.mov aF)] (sr [os 6 2 1,oo 7 (.call 253 [Z6]),oo 8 (.call 252 [Z7]),ov 5 8,oe 9 5 0,oe 10 5 1,oo 3 (.alloc [(.int .i64 0),(.int .i64 0)]),ou (.store 2 Z3 Z9),ov 4 10] (sr [ov 11 4,on 12 .eql 11 0,ov 13 12,wT 14 (.load (some 2) Z3) 13,wT 15 (.load (some 2) Z1) 13,wT 16 (.eq false (.struct [.int,.int]) Z14 Z15) 13,oo 17 (.pick Z13 Z16 aF),ov 2 17] .ret)),[.t 2]⟩
def F217:AF:=⟨sr [qq 2 (.box 3 Z0),qq 3 (.box 2 Z1),qq 4 (.mov (.c (.sl none true 0 [])))] (sr [qs 11 3 2,qs 12 2 3,qq 13 (.call 254 [Z11,Z12]),qv 10 13,qe 14 10 0,qe 15 10 1,qq 5 (.alloc [(.bool false),(.int .i64 0),(.int .i64 0),(.int .i64 0)]),qu (.store 4 Z5 Z14),qv 6 15] (sq (sr [qv 16 6,qq 17 (.un .not Z16)] (.cond Z17 (sr [qq 4 (.mov (.c (.sl none true 0 [])))] .ret) .skip)) (sr [qq 7 (.mov (.c (.sl none true 0 [])))] (sq (sr [qf 18 2 5,qf 19 0 18,ql 20 19,qn 21 .neq 20 1] (.cond Z21 (rg [qv 22 7,qq 23 (.buildSl true 1 [(.int .i64 0)] [(0,1,(nn (-1)))] 1),qq 24 (.append true 1 8 Z22 Z23),qv 7 24]) .skip)) (sq (sr [qs 25 3 2,qf 26 0 3,ql 27 26,qf 28 1 5,ql 29 28,qq 30 (.call 255 [Z25,Z27,Z29]),qq 31 (.range false Z30)] (.block 0 (.loop (sr [qq 32 (.nextMap Z31),qe 33 32 0] (sq (.cond Z33 .skip (.exit 0)) (.block 1 (sr [qq 34 (.entry Z31),qe 35 34 0,qe 36 34 1,qq 9 (.alloc [(.int .i64 0),(.int .i64 0)]),qv 8 35,qu (.store 2 Z9 Z36)] (sr [qf 37 2 5,qf 38 0 37,ql 39 38,qn 40 .eql 39 2,qv 41 40,zF 42 (.load (some 2) Z9) 41,zF 43 (fA 2 Z5) 41,zF 44 (.load (some 2) Z43) 41,zF 45 (.eq false (.struct [.int,.int]) Z42 Z44) 41,qq 46 (.pick Z41 aT Z45)] (.cond Z46 (rg [qv 47 7,qv 48 8,qq 49 (.buildSl true 1 [(.int .i64 0)] [(0,1,Z48)] 1),qq 50 (.append true 1 8 Z47 Z49),qv 7 50]) .skip))))))))) (sr [qv 51 7,qq 52 (.call 69 [Z51])] (sr [qv 53 7,qv 4 53] .ret))))))),[.t 4]⟩
def F223:AF:=cf false false Tryz.f223
def F224:AF:=cf false false Tryz.f224
def F225:AF:=cf false false Tryz.f225
def F226:AF:=cf false false Tryz.f226
def F227:AF:=cf false false Tryz.f227
def F228:AF:=cf false false Tryz.f228
def F229:AF:=⟨sr [oo 2 (.mov aF)] (sq (sr [ov 6 0,oo 7 (.call 264 [Z6]),ov 8 7,wF 9 (.mov Z0) 8,wF 10 (.call 265 [Z9]) 8,wF 11 (.un .not Z10) 8,oo 12 (.pick Z8 aT Z11)] (.cond Z12 (sr [oo 2 (.mov aF)] .ret) .skip)) (sr [om 3 0] (sq (sr [ov 13 0,oo 14 (.range true Z13)] (.block 0 (.loop (sr [oo 15 (.nextStr Z14),oe 16 15 0] (sq (.cond Z16 .skip (.exit 0)) (.block 1 (sr [oe 17 15 2,ov 5 17] (sq (sr [ov 18 5,oo 19 (.call 266 [Z18]),oo 20 (.un .not Z19),ov 21 20,wF 22 (.mov Z3) 21,wF 23 (.bin .eql Z22 (nn 0)) 21,wF 24 (.mov Z23) 21,wT 25 (.mov Z5) 24,wT 26 (.call 267 [Z25]) 24,wF 27 (.pick Z24 Z26 aF) 21,oo 28 (.pick Z21 aT Z27)] (.cond Z28 (sr [oo 2 (.mov aF)] .ret) .skip)) (rg [ov 29 3,on 30 .add 29 1,ov 3 30]))))))))) (sr [ov 31 3,on 32 .gtr 31 0,ov 33 32,wT 34 (.mov Z3) 33,wT 35 (.bin .leq Z34 (nn 20)) 33,oo 36 (.pick Z33 Z35 aF),ov 2 36] .ret)))),[.t 2]⟩
def F230:AF:=cf false false Tryz.f230
def F233:AF:=cf false false Tryz.f233
def F234:AF:=⟨sr [oo 2 (.mov (.c (.sl none true 0 [])))] (sr [oo 7 (.buildSl false 1 [] [] 0),ov 3 7] (sq (sr [om 4 0] (.block 0 (.loop (sq (sr [ov 8 4,ov 9 0,oo 10 (.lenStr Z9),ob 11 .lss 8 10] (.cond Z11 .skip (.exit 0))) (.block 1 (sr [ov 13 0,ov 14 4,oo 15 (.call 273 [Z13,Z14]),ov 12 15,oe 16 12 0,oe 17 12 1,ov 5 16,ov 6 17] (sr [ov 18 3,ov 19 6,oo 20 (.buildSl false 1 [(.int .i64 0)] [(0,1,Z19)] 1),oo 21 (.append false 1 8 Z18 Z20),ov 3 21] (rg [ov 22 4,ov 23 5,ob 24 .add 22 23,ov 4 24])))))))) (sr [ov 25 3,ov 2 25] .ret))),[.t 2]⟩
def F235:AF:=⟨sr [oo 2 (.mov aF)] (sr [ov 3 0,oo 4 (.bin .eql Z3 (.c (.str [98,101,103,105,110]))),ov 5 4,wF 6 (.mov Z0) 5,wF 7 (.bin .eql Z6 (.c (.str [114,101,97,100]))) 5,oo 8 (.pick Z5 aT Z7),ov 9 8,wF 10 (.mov Z0) 9,wF 11 (.bin .eql Z10 (.c (.str [119,114,105,116,101]))) 9,oo 12 (.pick Z9 aT Z11),ov 13 12,wF 14 (.mov Z0) 13,wF 15 (.bin .eql Z14 (.c (.str [111,107]))) 13,oo 16 (.pick Z13 aT Z15),ov 17 16,wF 18 (.mov Z0) 17,wF 19 (.bin .eql Z18 (.c (.str [102,97,105,108]))) 17,oo 20 (.pick Z17 aT Z19),ov 21 20,wF 22 (.mov Z0) 21,wF 23 (.bin .eql Z22 (.c (.str [105,110,102,111]))) 21,oo 24 (.pick Z21 aT Z23),ov 25 24,wF 26 (.mov Z0) 25,wF 27 (.bin .eql Z26 (.c (.str [110,105,108]))) 25,oo 28 (.pick Z25 aT Z27),ov 2 28] .ret),[.t 2]⟩
def F236:AF:=⟨sr [oo 2 (.mov aF)] (sq (sr [om 3 0] (.block 0 (.loop (sq (sr [ov 6 3,ov 7 0,oo 8 (.lenStr Z7),ob 9 .lss 6 8] (.cond Z9 .skip (.exit 0))) (.block 1 (sr [ov 11 0,ov 12 3,oo 13 (.call 273 [Z11,Z12]),ov 10 13,oe 14 10 0,oe 15 10 1,ov 4 14,ov 5 15] (sq (sr [ov 16 5,on 17 .eql 16 65533,ov 18 17,wT 19 (.mov Z4) 18,wT 20 (.bin .neq Z19 (nn 3)) 18,oo 21 (.pick Z18 Z20 aF)] (.cond Z21 (sr [oo 2 (.mov aF)] .ret) .skip)) (rg [ov 22 3,ov 23 4,ob 24 .add 22 23,ov 3 24])))))))) (sr [oo 2 (.mov aT)] .ret)),[.t 2]⟩
def F248:AF:=cf false false Tryz.f248
def F249:AF:=cf false false Tryz.f249
def F250:AF:=cf false false Tryz.f250
def F251:AF:=⟨sr [oo 4 (.mov aF)] (sr [ov 5 0,ov 6 1,oo 7 (.call 280 [Z5,Z6]),on 8 .lss 7 0,ov 4 8] .ret),[.t 4]⟩
def F252:AF:=⟨sr [oo 1 (.box 1 Z0),oo 2 (.alloc [(.int .i64 0),(.int .i64 0)]),om 3 0] (sq (sr [of 7 0 1,ol 8 7] (.block 0 (sr [oo 9 (.eq false .iface Z8 (.c .nilif))] (.cond Z9 (sr [ov 4 8] (sr [oo 10 (.build [(.int .i64 0),(.int .i64 0)] []),ou (.store 2 Z2 Z10),om 3 0] .ret)) (sr [oo 11 (.assert 2 (.int .i64 0) true Z8),oe 12 11 1,oe 13 11 0] (.cond Z12 (sr [ov 5 13] (sr [ov 14 5,oo 15 (.build [(.int .i64 0),(.int .i64 0)] [(0,1,(nn 1)),(1,1,Z14)]),ou (.store 2 Z2 Z15),om 3 0] .ret)) (sr [oo 16 (.assert 316 (.agg []) true Z8),oe 17 16 1,oe 18 16 0] (.cond Z17 (sr [oo 6 (.alloc []),ou (.store 0 Z6 Z18)] (sr [oo 19 (.build [(.int .i64 0),(.int .i64 0)] [(0,1,(nn 2))]),ou (.store 2 Z2 Z19),om 3 0] .ret)) .skip)))))))) (sr [oo 20 (.build [(.int .i64 0),(.int .i64 0)] []),ou (.store 2 Z2 Z20),om 3 15] .ret)),[.cell 2 (some 2),.t 3]⟩
def F253:AF:=⟨sr [oo 1 (.box 2 Z0),oo 2 (.alloc [.nilif])] (sq (sr [of 3 0 1,ol 4 3] (.block 0 (sr [on 6 .eql 4 1,ov 5 6] (.cond Z5 (sr [of 7 1 1,ol 8 7,oo 9 (.iface 2 Z8),oo 10 (.build [.nilif] [(0,1,Z9)]),ou (.store 1 Z2 Z10)] .ret) (sr [on 12 .eql 4 2,ov 11 12] (.cond Z11 (sr [oo 13 (.build [] []),oo 14 (.iface 316 Z13),oo 15 (.build [.nilif] [(0,1,Z14)]),ou (.store 1 Z2 Z15)] .ret) .skip)))))) (sr [oo 16 (.build [.nilif] []),ou (.store 1 Z2 Z16)] .ret)),[.cell 2 (some 1)]⟩
def F254:AF:=⟨sr [oo 2 (.box 3 Z0),oo 3 (.box 2 Z1),oo 4 (.alloc [(.bool false),(.int .i64 0),(.int .i64 0),(.int .i64 0)]),oo 5 (.mov aF)] (sq (.seq (.draw [os 7 3 2,oo 8 (.call 103 [Z7]),on 9 .neq 8 0,ov 10 9,wF 11 (fA 0 Z3) 10,wF 12 (.load none Z11) 10,wF 13 (.bin .lss Z12 (nn 0)) 10,oo 14 (.pick Z10 aT Z13),ov 15 14,wF 16 (fA 0 Z3) 15,wF 17 (.load none Z16) 15,wF 18 (fA 2 Z2) 15,wF 19 (.load none Z18) 15,wF 20 (lS Z19) 15,wF 21 (.bin .geq Z17 Z20) 15,oo 22 (.pick Z15 aT Z21),ov 23 22,wF 24 (fA 1 Z3) 23,wF 25 (.load none Z24) 23,wF 26 (.bin .lss Z25 (nn 0)) 23,oo 27 (.pick Z23 aT Z26),ov 28 27,wF 29 (fA 1 Z3) 28,wF 30 (.load none Z29) 28,wF 31 (fA 2 Z2) 28,wF 32 (.load none Z31) 28,wF 33 (fA 0 Z3) 28,wF 34 (.load none Z33) 28,wF 35 (.idxSl 3 Z32 Z34) 28,wF 36 (fA 2 Z35) 28,wF 37 (.load none Z36) 28,wF 38 (lS Z37) 28,wF 39 (.bin .geq Z30 Z38) 28,oo 40 (.pick Z28 aT Z39)] []) (.cond Z40 (sr [oo 41 (.build [(.bool false),(.int .i64 0),(.int .i64 0),(.int .i64 0)] []),ou (.store 4 Z4 Z41),oo 5 (.mov aF)] .ret) .skip)) (sq (.draw [of 42 2 2,ol 43 42,of 44 0 3,ol 45 44,ox 46 3 43 45,of 47 2 46,ol 48 47,of 49 1 3,ol 50 49,ox 51 4 48 50,os 52 4 51,oo 6 (.alloc [(.bool false),(.int .i64 0),(.int .i64 0),(.int .i64 0)]),ou (.store 4 Z6 Z52)] [(1,11),(3,11),(6,11),(8,11),(10,11)]) (sq (.draw [os 53 4 6,of 54 0 6,ol 55 54,oo 56 (.un .not Z55),ou (.store 4 Z4 Z53),ov 5 56] [(2,4)]) .ret))),[.cell 4 (some 4),.t 5]⟩
def F258:AF:=cf false false Tryz.f258
def F259:AF:=cf false false Tryz.f259
def F261:AF:=cf false false Tryz.f261
def F262:AF:=cf false false Tryz.f262
def F263:AF:=cf false false Tryz.f263
def F264:AF:=⟨sr [oo 2 (.mov aF)] (sq (sr [ov 3 0] (.block 0 (sq (sr [oo 5 (.bin .eql Z3 (.c (.str [98,101,103,105,110]))),ov 4 5] (.cond Z4 .skip (sr [oo 6 (.bin .eql Z3 (.c (.str [114,101,97,100]))),ov 4 6] (.cond Z4 .skip (sr [oo 7 (.bin .eql Z3 (.c (.str [119,114,105,116,101]))),ov 4 7] (.cond Z4 .skip (sr [oo 8 (.bin .eql Z3 (.c (.str [111,107]))),ov 4 8] (.cond Z4 .skip (sr [oo 9 (.bin .eql Z3 (.c (.str [102,97,105,108]))),ov 4 9] (.cond Z4 .skip (sr [oo 10 (.bin .eql Z3 (.c (.str [105,110,102,111]))),ov 4 10] (.cond Z4 .skip (rg [oo 11 (.bin .eql Z3 (.c (.str [110,105,108]))),ov 4 11]))))))))))))) (.cond Z4 (sr [oo 2 (.mov aT)] .ret) .skip)))) (sr [oo 2 (.mov aF)] .ret)),[.t 2]⟩
def F265:AF:=⟨sr [oo 2 (.mov aF)] (sq (.block 0 (.loop (sq (sr [ov 7 0,oo 8 (.lenStr Z7),on 9 .gtr 8 0] (.cond Z9 .skip (.exit 0))) (.block 1 (sr [ov 10 0,oo 11 (.idxStr Z10 (nn 0)),ov 3 11] (sq (sr [ov 12 3,oo 13 (.bin .lss Z12 (.c (.int .u8 128)))] (.cond Z13 (sr [ov 14 0,oo 15 (.slStr Z14 (some (nn 1)) none),ov 0 15] (sq (sr [ov 16 0,oo 17 (.lenStr Z16),on 18 .gtr 17 8,ov 19 18,wT 20 (.mov Z0) 19,wT 21 (.call 289 [Z20]) 19,wT 22 (.bin .and Z21 (.c (.int .u64 9259542123273814144))) 19,wT 23 (.bin .eql Z22 (.c (.int .u64 0))) 19,oo 24 (.pick Z19 Z23 aF)] (.cond Z24 (sr [ov 25 0,oo 26 (.slStr Z25 (some (nn 8)) none),ov 0 26] (sq (.draw [ov 27 0,oo 28 (.lenStr Z27),on 29 .gtr 28 16,ov 30 29,wT 31 (.mov Z0) 30,wT 32 (.call 289 [Z31]) 30,wT 33 (.mov Z0) 30,wT 34 (.slStr Z33 (some (nn 8)) none) 30,wT 35 (.call 289 [Z34]) 30,wT 36 (.bin .or Z32 Z35) 30,wT 37 (.bin .and Z36 (.c (.int .u64 9259542123273814144))) 30,wT 38 (.bin .eql Z37 (.c (.int .u64 0))) 30,oo 39 (.pick Z30 Z38 aF)] []) (.cond Z39 (sr [ov 40 0,oo 41 (.slStr Z40 (some (nn 16)) none),ov 0 41] (.block 2 (.loop (sq (.seq (.draw [ov 42 0,oo 43 (.lenStr Z42),on 44 .gtr 43 32,ov 45 44,wT 46 (.mov Z0) 45,wT 47 (.call 289 [Z46]) 45,wT 48 (.mov Z0) 45,wT 49 (.slStr Z48 (some (nn 8)) none) 45,wT 50 (.call 289 [Z49]) 45,wT 51 (.bin .or Z47 Z50) 45,wT 52 (.mov Z0) 45,wT 53 (.slStr Z52 (some (nn 16)) none) 45,wT 54 (.call 289 [Z53]) 45,wT 55 (.mov Z0) 45,wT 56 (.slStr Z55 (some (nn 24)) none) 45,wT 57 (.call 289 [Z56]) 45,wT 58 (.bin .or Z54 Z57) 45,wT 59 (.bin .or Z51 Z58) 45,wT 60 (.bin .and Z59 (.c (.int .u64 9259542123273814144))) 45,wT 61 (.bin .eql Z60 (.c (.int .u64 0))) 45,oo 62 (.pick Z45 Z61 aF)] []) (.cond Z62 .skip (.exit 2))) (.block 3 (rg [ov 63 0,oo 64 (.slStr Z63 (some (nn 32)) none),ov 0 64])))))) .skip))) .skip)) (.exit 1))) .skip)) (sr [ov 65 3,oo 66 (.idxArr 256 1 (.g 2) Z65),ol 67 66,ov 4 67] (sr [ov 68 4,oo 69 (.bin .and Z68 (.c (.int .u8 7))),oo 70 (.conv .i64 Z69),ov 5 70] (sr [ov 71 4,oo 72 (.bin .shr Z71 (.c (.int .u64 4))),oo 73 (.idxArr 16 2 (.g 3) Z72),os 74 2 73,oo 6 (.alloc [(.int .u8 0),(.int .u8 0)]),ou (.store 2 Z6 Z74)] (sr [ov 75 5] (.block 4 (sr [on 77 .eql 75 2,ov 76 77] (.cond Z76 (sq (.seq (.draw [ov 78 0,oo 79 (.lenStr (.t 78)),on 80 .lss 79 2,ov 81 80,wF 82 (.mov Z0) 81,wF 83 (.idxStr (.t 82) (nn 1)) 81,wF 84 (fA 0 Z6) 81,wF 85 (.load none (.t 84)) 81,wF 86 (.bin .lss (.t 83) Z85) 81,oo 87 (.pick (.t 81) aT (.t 86)),ov 88 87,wF 89 (fA 1 Z6) 88,wF 90 (.load none (.t 89)) 88,wF 91 (.mov Z0) 88,wF 92 (.idxStr (.t 91) (nn 1)) 88,wF 93 (.bin .lss (.t 90) (.t 92)) 88,oo 94 (.pick (.t 88) aT (.t 93))] []) (.cond (.t 94) (sr [oo 2 (.mov aF)] .ret) .skip)) (rg [ov 95 0,oo 96 (.slStr (.t 95) (some (nn 2)) none),ov 0 96])) (sr [on 98 .eql 75 3,ov 97 98] (.cond (.t 97) (sq (.seq (.draw [ov 99 0,oo 100 (.lenStr (.t 99)),on 101 .lss 100 3,ov 102 101,wF 103 (.mov Z0) 102,wF 104 (.idxStr (.t 103) (nn 1)) 102,wF 105 (fA 0 Z6) 102,wF 106 (.load none (.t 105)) 102,wF 107 (.bin .lss (.t 104) (.t 106)) 102,oo 108 (.pick (.t 102) aT (.t 107)),ov 109 108,wF 110 (fA 1 Z6) 109,wF 111 (.load none (.t 110)) 109,wF 112 (.mov Z0) 109,wF 113 (.idxStr (.t 112) (nn 1)) 109,wF 114 (.bin .lss (.t 111) (.t 113)) 109,oo 115 (.pick (.t 109) aT (.t 114)),ov 116 115,wF 117 (.mov Z0) 116,wF 118 (.idxStr (.t 117) (nn 2)) 116,wF 119 (.bin .lss (.t 118) (.c (.int .u8 128))) 116,oo 120 (.pick (.t 116) aT (.t 119)),ov 121 120,wF 122 (.mov Z0) 121,wF 123 (.idxStr (.t 122) (nn 2)) 121,wF 124 (.bin .lss (.c (.int .u8 191)) (.t 123)) 121,oo 125 (.pick (.t 121) aT (.t 124))] []) (.cond (.t 125) (sr [oo 2 (.mov aF)] .ret) .skip)) (rg [ov 126 0,oo 127 (.slStr (.t 126) (some (nn 3)) none),ov 0 127])) (sr [on 129 .eql 75 4,ov 128 129] (.cond (.t 128) (sq (.seq (.draw [ov 130 0,oo 131 (.lenStr (.t 130)),on 132 .lss 131 4,ov 133 132,wF 134 (.mov Z0) 133,wF 135 (.idxStr (.t 134) (nn 1)) 133,wF 136 (fA 0 Z6) 133,wF 137 (.load none (.t 136)) 133,wF 138 (.bin .lss (.t 135) (.t 137)) 133,oo 139 (.pick (.t 133) aT (.t 138)),ov 140 139,wF 141 (fA 1 Z6) 140,wF 142 (.load none (.t 141)) 140,wF 143 (.mov Z0) 140,wF 144 (.idxStr (.t 143) (nn 1)) 140,wF 145 (.bin .lss (.t 142) (.t 144)) 140,oo 146 (.pick (.t 140) aT (.t 145)),ov 147 146,wF 148 (.mov Z0) 147,wF 149 (.idxStr (.t 148) (nn 2)) 147,wF 150 (.bin .lss (.t 149) (.c (.int .u8 128))) 147,oo 151 (.pick (.t 147) aT (.t 150)),ov 152 151,wF 153 (.mov Z0) 152,wF 154 (.idxStr (.t 153) (nn 2)) 152,wF 155 (.bin .lss (.c (.int .u8 191)) (.t 154)) 152,oo 156 (.pick (.t 152) aT (.t 155)),ov 157 156,wF 158 (.mov Z0) 157,wF 159 (.idxStr (.t 158) (nn 3)) 157,wF 160 (.bin .lss (.t 159) (.c (.int .u8 128))) 157,oo 161 (.pick (.t 157) aT (.t 160)),ov 162 161,wF 163 (.mov Z0) 162,wF 164 (.idxStr (.t 163) (nn 3)) 162,wF 165 (.bin .lss (.c (.int .u8 191)) (.t 164)) 162,oo 166 (.pick (.t 162) aT (.t 165))] []) (.cond (.t 166) (sr [oo 2 (.mov aF)] .ret) .skip)) (rg [ov 167 0,oo 168 (.slStr (.t 167) (some (nn 4)) none),ov 0 168])) (sr [oo 2 (.mov aF)] .ret)))))))))))))))))) (sr [oo 2 (.mov aT)] .ret)),[.t 2]⟩
def F266:AF:=⟨sr [oo 2 (.mov aF)] (sr [ov 3 0,oo 4 (.bin .gtr Z3 (.c (.int .i32 127))),ov 5 4,wF 6 (.mov Z0) 5,wF 7 (.bin .eql Z6 (.c (.int .i32 95))) 5,oo 8 (.pick Z5 aT Z7),ov 9 8,wF 10 (.mov Z0) 9,wF 11 (.call 267 [Z10]) 9,oo 12 (.pick Z9 aT Z11),ov 13 12,wF 14 (.mov Z0) 13,wF 15 (.bin .geq Z14 (.c (.int .i32 97))) 13,wF 16 (.mov Z15) 13,wT 17 (.mov Z0) 16,wT 18 (.bin .leq Z17 (.c (.int .i32 122))) 16,wF 19 (.pick Z16 Z18 aF) 13,oo 20 (.pick Z13 aT Z19),ov 21 20,wF 22 (.mov Z0) 21,wF 23 (.bin .geq Z22 (.c (.int .i32 65))) 21,wF 24 (.mov Z23) 21,wT 25 (.mov Z0) 24,wT 26 (.bin .leq Z25 (.c (.int .i32 90))) 24,wF 27 (.pick Z24 Z26 aF) 21,oo 28 (.pick Z21 aT Z27),ov 2 28] .ret),[.t 2]⟩
def F267:AF:=⟨sr [oo 2 (.mov aF)] (sr [ov 3 0,oo 4 (.bin .geq Z3 (.c (.int .i32 48))),ov 5 4,wT 6 (.mov Z0) 5,wT 7 (.bin .leq Z6 (.c (.int .i32 57))) 5,oo 8 (.pick Z5 Z7 aF),ov 2 8] .ret),[.t 2]⟩
def F268:AF:=cf false false Tryz.f268
def F269:AF:=cf false false Tryz.f269
def F273:AF:=⟨sr [om 4 0,om 5 0] (sr [ov 12 0,ov 13 1,oo 14 (.idxStr Z12 Z13),oo 15 (.conv .i64 Z14),ov 6 15] (sq (sr [ov 16 6,on 17 .lss 16 128] (.cond Z17 (sr [ov 18 6,om 4 1,ov 5 18] .ret) .skip)) (sr [om 7 0,om 8 0,om 9 0] (sq (sr [ov 19 6,on 20 .geq 19 194,ov 21 20,wT 22 (.mov Z6) 21,wT 23 (.bin .leq Z22 (nn 223)) 21,oo 24 (.pick Z21 Z23 aF)] (.cond Z24 (rg [ov 25 6,on 26 .sub 25 192,om 7 2,om 8 128,ov 9 26]) .skip)) (sq (sr [ov 27 6,on 28 .geq 27 224,ov 29 28,wT 30 (.mov Z6) 29,wT 31 (.bin .leq Z30 (nn 239)) 29,oo 32 (.pick Z29 Z31 aF)] (.cond Z32 (rg [ov 33 6,on 34 .sub 33 224,om 7 3,om 8 2048,ov 9 34]) .skip)) (sq (sr [ov 35 6,on 36 .geq 35 240,ov 37 36,wT 38 (.mov Z6) 37,wT 39 (.bin .leq Z38 (nn 244)) 37,oo 40 (.pick Z37 Z39 aF)] (.cond Z40 (rg [ov 41 6,on 42 .sub 41 240,om 7 4,om 8 65536,ov 9 42]) .skip)) (sq (sr [ov 43 7,on 44 .eql 43 0,ov 45 44,wF 46 (.mov Z1) 45,wF 47 (.mov Z7) 45,wF 48 (.bin .add Z46 Z47) 45,wF 49 (.mov Z0) 45,wF 50 (.lenStr Z49) 45,wF 51 (.bin .gtr Z48 Z50) 45,oo 52 (.pick Z45 aT Z51)] (.cond Z52 (sr [om 4 1,om 5 65533] .ret) .skip)) (sq (sr [om 10 1] (.block 0 (.loop (sq (sr [ov 53 10,ov 54 7,ob 55 .lss 53 54] (.cond Z55 .skip (.exit 0))) (sq (.block 1 (sr [ov 58 0,ov 59 1,ov 60 10,ob 61 .add 59 60,oo 62 (.idxStr Z58 Z61),oo 63 (.conv .i64 Z62),ov 11 63] (sq (sr [ov 64 11,on 65 .lss 64 128,ov 66 65,wF 67 (.mov Z11) 66,wF 68 (.bin .gtr Z67 (nn 191)) 66,oo 69 (.pick Z66 aT Z68)] (.cond Z69 (sr [om 4 1,om 5 65533] .ret) .skip)) (rg [ov 70 9,oo 71 (.bin .mul (nn 64) Z70),ov 72 11,ob 73 .add 71 72,on 74 .sub 73 128,ov 9 74])))) (rg [ov 56 10,on 57 .add 56 1,ov 10 57])))))) (sq (sr [ov 75 9,ov 76 8,ob 77 .lss 75 76,ov 78 77,wF 79 (.mov Z9) 78,wF 80 (.bin .gtr (.t 79) (nn 1114111)) 78,oo 81 (.pick (.t 78) aT (.t 80)),ov 82 81,wF 83 (.mov Z9) 82,wF 84 (.bin .geq (.t 83) (nn 55296)) 82,wF 85 (.mov (.t 84)) 82,wT 86 (.mov Z9) 85,wT 87 (.bin .leq (.t 86) (nn 57343)) 85,wF 88 (.pick Z85 (.t 87) aF) 82,oo 89 (.pick (.t 82) aT (.t 88))] (.cond (.t 89) (sr [om 4 1,om 5 65533] .ret) .skip)) (sr [ov 90 7,ov 91 9,ov 4 90,ov 5 91] .ret)))))))))),[.t 4,.t 5]⟩
def F278:AF:=cf false false Tryz.f278
def F279:AF:=cf false false Tryz.f279
def F280:AF:=⟨sr [om 4 0] (sr [ov 5 0,oo 6 (.runesOfStr Z5),ov 7 1,oo 8 (.runesOfStr Z7),oo 9 (.call 293 [Z6,Z8]),ov 4 9] .ret),[.t 4]⟩
def F281:AF:=⟨sr [oo 2 (.box 3 Z0),oo 3 (.box 1 Z1),oo 4 (.mov (.c (.sl none true 0 [])))] (sq (sr [os 9 3 2,oo 10 (.call 103 [Z9]),on 11 .neq 10 0] (.cond Z11 (sr [oo 4 (.mov (.c (.sl none true 0 [])))] .ret) .skip)) (sr [oo 12 (.mkFn (.func 294) [] [.t 3]),ov 5 12] (sr [oo 6 (.mov (.c (.sl none true 0 [])))] (sq (sr [of 13 2 2,ol 14 13,oo 15 (lS Z14),om 16 0] (.block 0 (.loop (sr [ob 17 .lss 16 15] (sq (.cond Z17 .skip (.exit 0)) (sq (.block 1 (sr [ov 18 16,ox 19 3 14 16,os 20 3 19,oo 8 (.alloc [(.int .i64 0),(.int .i64 0),(.sl none true 0 [])]),ov 7 18,ou (.store 3 Z8 Z20)] (sr [ov 21 5,os 22 3 8,oo 23 (.callV Z21 [.t 22])] (.cond Z23 (rg [ov 24 6,ov 25 7,oo 26 (.buildSl false 1 [(.int .i64 0)] [(0,1,Z25)] 1),oo 27 (.append false 1 8 Z24 Z26),ov 6 27]) .skip)))) (rg [on 28 .add 16 1,ov 16 28]))))))) (sr [ov 29 6,ov 4 29] .ret))))),[.t 4]⟩
def F284:AF:=cf false false Tryz.f284
def F285:AF:=cf false false Tryz.f285
def F286:AF:=cf false false Tryz.f286
def F287:AF:=cf false false Tryz.f287
def F288:AF:=cf false false Tryz.f288
def F289:AF:=⟨sr [oo 2 (.mov (.c (.int .u64 0)))] (sq (.cond aF (sq (.draw [ov 3 0,oo 4 (.idxStr Z3 (nn 0)),oo 5 (.conv .u64 Z4),ov 6 0,oo 7 (.idxStr Z6 (nn 1)),oo 8 (.conv .u64 Z7),oo 9 (.bin .shl Z8 (.c (.int .u64 8))),ob 10 .or 5 9,ov 11 0,oo 12 (.idxStr Z11 (nn 2)),oo 13 (.conv .u64 Z12),oo 14 (.bin .shl Z13 (.c (.int .u64 16))),ob 15 .or 10 14,ov 16 0,oo 17 (.idxStr Z16 (nn 3)),oo 18 (.conv .u64 Z17),oo 19 (.bin .shl Z18 (.c (.int .u64 24))),ob 20 .or 15 19,ov 2 20] []) .ret) .skip) (sq (.draw [ov 21 0,oo 22 (.idxStr Z21 (nn 0)),oo 23 (.conv .u64 Z22),ov 24 0,oo 25 (.idxStr Z24 (nn 1)),oo 26 (.conv .u64 Z25),oo 27 (.bin .shl Z26 (.c (.int .u64 8))),ob 28 .or 23 27,ov 29 0,oo 30 (.idxStr Z29 (nn 2)),oo 31 (.conv .u64 Z30),oo 32 (.bin .shl Z31 (.c (.int .u64 16))),ob 33 .or 28 32,ov 34 0,oo 35 (.idxStr Z34 (nn 3)),oo 36 (.conv .u64 Z35),oo 37 (.bin .shl Z36 (.c (.int .u64 24))),ob 38 .or 33 37,ov 39 0,oo 40 (.idxStr Z39 (nn 4)),oo 41 (.conv .u64 Z40),oo 42 (.bin .shl Z41 (.c (.int .u64 32))),ob 43 .or 38 42,ov 44 0,oo 45 (.idxStr Z44 (nn 5)),oo 46 (.conv .u64 Z45),oo 47 (.bin .shl Z46 (.c (.int .u64 40))),ob 48 .or 43 47,ov 49 0,oo 50 (.idxStr Z49 (nn 6)),oo 51 (.conv .u64 Z50),oo 52 (.bin .shl Z51 (.c (.int .u64 48))),ob 53 .or 48 52,ov 54 0,oo 55 (.idxStr Z54 (nn 7)),oo 56 (.conv .u64 Z55),oo 57 (.bin .shl Z56 (.c (.int .u64 56))),ob 58 .or 53 57,ov 2 58] []) .ret)),[.t 2]⟩
def F290:AF:=cf false false Tryz.f290
def F293:AF:=⟨sr [om 4 0] (sq (sr [ov 9 0,oo 10 (lS Z9),om 11 0] (.block 0 (.loop (sr [ob 12 .lss 11 10] (sq (.cond Z12 .skip (.exit 0)) (sq (.block 1 (sr [ov 13 11,ox 14 1 9 11,ol 15 14,ov 5 13,ov 6 15] (sq (sr [ov 16 5,ov 17 1,oo 18 (lS Z17),ob 19 .geq 16 18] (.cond Z19 (sr [om 4 1] .ret) .skip)) (sr [ov 20 1,ov 21 5,ox 22 1 20 21,ol 23 22,ov 7 23] (sr [ov 24 6,ov 25 7,oo 26 (.call 304 [Z24,Z25]),ov 8 26] (sr [ov 27 8,on 28 .neq 27 0] (.cond Z28 (sr [ov 29 8,ov 4 29] .ret) .skip))))))) (rg [on 30 .add 11 1,ov 11 30]))))))) (sq (sr [ov 31 0,oo 32 (lS Z31),ov 33 1,oo 34 (lS Z33),ob 35 .lss 32 34] (.cond Z35 (sr [oo 4 (.mov (nn (-1)))] .ret) .skip)) (sr [om 4 0] .ret))),[.t 4]⟩
def F300:AF:=cf false false Tryz.f300
def F301:AF:=cf false false Tryz.f301
def F302:AF:=cf false false Tryz.f302
def F304:AF:=⟨sr [om 4 0] (sr [ov 7 0,oo 8 (.call 320 [Z7]),ov 5 8] (sr [ov 9 1,oo 10 (.call 320 [Z9]),ov 6 10] (sq (sr [ov 11 5] (.cond Z11 (sq (sr [ov 12 6] (.cond Z12 (sr [om 4 0] .ret) .skip)) (sr [oo 4 (.mov (nn (-1)))] .ret)) .skip)) (sq (sr [ov 13 6] (.cond Z13 (sr [om 4 1] .ret) .skip)) (sq (sr [ov 14 0,ov 15 1,ob 16 .lss 14 15] (.cond Z16 (sr [oo 4 (.mov (nn (-1)))] .ret) .skip)) (sq (sr [ov 17 0,ov 18 1,ob 19 .gtr 17 18] (.cond Z19 (sr [om 4 1] .ret) .skip)) (sr [om 4 0] .ret))))))),[.t 4]⟩
def F307:AF:=cf false false Tryz.f307
def F311:AF:=cf false false Tryz.f311
def F320:AF:=⟨sr [oo 2 (.mov aF)] (sr [ov 3 0,ov 4 0,ob 5 .neq 3 4,ov 2 5] .ret),[.t 2]⟩
def S51:AF:=⟨sr [qq 1 (.box 3 Z0),qq 2 (.alloc [(.sl none true 0 []),(.sl none true 0 []),(.sl none true 0 [])])] (sr [qq 8 (.build [(.sl none true 0 []),(.sl none true 0 []),(.sl none true 0 [])] []),qq 3 (.alloc [(.sl none true 0 []),(.sl none true 0 []),(.sl none true 0 [])]),qu (.store 3 Z3 Z8)] (sq (sr [qm 4 0] (.block 0 (.loop (sq (sr [qv 9 4,qf 10 0 1,ql 11 10,qq 12 (lS Z11),qb 13 .lss 9 12,qv 14 13,zT 15 (.mov Z4) 14,zT 16 (.bin .lss Z15 (nn 25)) 14,qq 17 (.pick Z14 Z16 aF)] (.cond Z17 .skip (.exit 0))) (sq (.block 1 (.draw [qf 20 0 3,ql 21 20,qf 22 0 1,ql 23 22,qv 24 4,qx 25 1 23 24,ql 26 25,qf 27 0 1,ql 28 27,qv 29 4,qx 30 1 28 29,ql 31 30,qq 32 (.lenStr Z31),qq 33 (.minmax false [Z32,(nn 100)]),qq 34 (.slStr Z26 none (some Z33)),qq 35 (.buildSl true 1 [(.str [])] [(0,1,Z34)] 1),qq 36 (.append true 1 16 Z21 Z35),qf 37 0 3,qu (.store 1 Z37 Z36)] [(1,15)])) (rg [qv 18 4,qn 19 .add 18 1,qv 4 19])))))) (sq (sr [qm 5 0] (.block 2 (.loop (sq (sr [qv 38 5,qf 39 1 1,ql 40 39,qq 41 (lS Z40),qb 42 .lss 38 41,qv 43 42,zT 44 (.mov Z5) 43,zT 45 (.bin .lss Z44 (nn 45)) 43,qq 46 (.pick Z43 Z45 aF)] (.cond Z46 .skip (.exit 2))) (sq (.block 3 (.draw [qf 49 1 3,ql 50 49,qf 51 1 1,ql 52 51,qv 53 5,qx 54 1 52 53,ql 55 54,qf 56 1 1,ql 57 56,qv 58 5,qx 59 1 57 58,ql 60 59,qq 61 (.lenStr Z60),qq 62 (.minmax false [Z61,(nn 100)]),qq 63 (.slStr Z55 none (some Z62)),qq 64 (.buildSl true 1 [(.str [])] [(0,1,Z63)] 1),qq 65 (.append true 1 16 Z50 Z64),qf 66 1 3,qu (.store 1 Z66 Z65)] [(1,15)])) (rg [qv 47 5,qn 48 .add 47 1,qv 5 48])))))) (sq (sr [qm 6 0] (.block 4 (.loop (sq (sr [qv 67 6,qf 68 2 1,ql 69 68,qq 70 (lS Z69),qb 71 .lss 67 70,qv 72 71,zT 73 (.mov Z6) 72,zT 74 (.bin .lss Z73 (nn 45)) 72,qq 75 (.pick Z72 Z74 aF)] (.cond (.t 75) .skip (.exit 4))) (sq (.block 5 (sr [qf 78 2 1,ql 79 78,qv 80 6,qx 81 3 79 80,qs 82 3 81,qq 7 (.alloc [(.int .i64 0),(.int .i64 0),(.sl none true 0 [])]),qu (.store 3 Z7 (.t 82))] (sr [qq 83 (.buildSl true 4 [] [] 0),qf 84 2 7,ql 85 84,qf 86 2 7,ql 87 86,qq 88 (lS (.t 87)),qq 89 (.minmax false [(.t 88),(nn 25)]),qq 90 (.slSl 4 Z85 none (some (.t 89))),qq 91 (.append true 4 32 (.t 83) (.t 90)),qf 92 2 7,qu (.store 1 (.t 92) (.t 91))] (rg [qf 93 2 3,ql 94 93,qs 95 3 7,qq 96 (.buildSl true 3 [(.int .i64 0),(.int .i64 0),(.sl none true 0 [])] [(0,3,(.t 95))] 1),qq 97 (.append true 3 40 (.t 94) (.t 96)),qf 98 2 3,qu (.store 1 (.t 98) (.t 97))])))) (rg [qv 76 6,qn 77 .add 76 1,qv 6 77])))))) (sr [qs 99 3 3,qu (.store 3 Z2 (.t 99))] .ret))))),[.cell 2 (some 3)]⟩
def S78:AF:=⟨sr [qq 2 (.mov (.c .nilptr))] (sr [qq 6 (.build [(.int .u64 0),(.int .u64 0),(.int .u64 0),(.int .u64 0),(.int .u64 0),(.int .u64 0),(.int .u64 0),(.int .u64 0)] []),qq 7 (.box 8 Z6),qv 3 7] (sq (sr [qv 8 0,qq 9 (lS Z8),qm 10 0] (.block 0 (.loop (sr [qb 11 .lss 10 9] (sq (.cond Z11 .skip (.exit 0)) (sq (.block 1 (sr [qx 12 1 8 10,ql 13 12,qv 5 13] (rg [qv 14 3,qv 15 5,qq 16 (.call 81 [Z14,Z15])]))) (rg [qn 17 .add 10 1,qv 10 17]))))))) (sr [qv 18 3,qv 2 18] .ret))),[.t 2]⟩
def S81:AF:=⟨sr [qm 4 0] (sr [qv 6 0,qv 7 1,qq 8 (.call 128 [Z6,Z7]),qv 5 8] (sq (sr [qv 9 5,qn 10 .eql 9 0] (.cond Z10 (.draw [qv 11 0,qv 12 1,qn 13 .quo 12 64,qq 14 (.nilCheck Z11),qf 15 0 14,qq 16 (.idxArr 8 1 Z15 Z13),ql 17 16,qv 18 1,qn 19 .rem 18 64,qq 20 (.bin .shl (.c (.int .u64 1)) Z19),qb 21 .or 17 20,qq 22 (.nilCheck Z11),qf 23 0 22,qq 24 (.idxArr 8 1 Z23 Z13),qu (.store 1 Z24 Z21)] []) .skip)) (sr [qv 25 5,qv 4 25] .ret))),[.t 4]⟩
def S87:AF:=⟨sr [qq 8 (.mkMap),qv 2 8] (sr [qv 9 0,qq 10 (.nilCheck Z9),qf 11 0 10,qs 12 3 11,qq 13 (.call 71 [Z12]),qq 14 (lS Z13),qm 15 0] (.block 0 (.loop (sr [qb 16 .lss 15 14] (sq (.cond Z16 .skip (.exit 0)) (sq (.block 1 (sr [qx 17 1 13 15,ql 18 17,qv 4 18] (sr [qv 19 0,qv 20 4,qq 21 (.call 137 [Z19,(nn (-1)),Z20])] (sr [qv 22 0,qq 23 (.nilCheck Z22),qf 24 0 23,qf 25 2 24,ql 26 25,qv 27 4,qx 28 3 26 27,qf 29 0 28,ql 30 29,qv 5 30] (sq (sr [qv 31 2,qv 32 5,qq 33 (.lookup .int (.sl none true 0 []) false Z31 Z32),qq 34 (lS Z33),qm 35 0] (.block 2 (.loop (sr [qb 36 .lss 35 34] (sq (.cond Z36 .skip (.exit 2)) (sq (.block 3 (sr [qx 37 1 33 35,ql 38 37,qv 7 38] (rg [qv 39 0,qv 40 7,qv 41 4,qq 42 (.call 137 [Z39,Z40,Z41])]))) (rg [qn 43 .add 35 1,qv 35 43]))))))) (rg [qv 44 2,qv 45 5,qv 46 2,qv 47 5,qq 48 (.lookup .int (.sl none true 0 []) false Z46 Z47),qv 49 4,qq 50 (.buildSl true 1 [(.int .i64 0)] [(0,1,Z49)] 1),qq 51 (.append true 1 8 Z48 Z50),qu (.mapSet .int Z44 Z45 Z51)])))))) (rg [qn 52 .add 15 1,qv 15 52]))))))),[]⟩
def S88:AF:=⟨sr [qv 4 0,qq 5 (.nilCheck Z4),qf 6 4 5,ql 7 6,qq 8 (lS Z7),qm 9 0] (.block 0 (.loop (sr [qb 10 .lss 9 8] (sq (.cond Z10 .skip (.exit 0)) (sq (.block 1 (sr [qv 11 9,qx 12 2 7 9,qs 13 2 12,qq 3 (.alloc [(.int .i64 0),(.int .i64 0)]),qv 2 11,qu (.store 2 Z3 Z13)] (sq (.draw [qv 14 0,qv 15 0,qq 16 (.nilCheck Z15),qf 17 3 16,ql 18 17,qv 19 2,qx 20 1 18 19,ql 21 20,qf 22 0 3,ql 23 22] []) (rg [qq 24 (.call 137 [Z14,Z21,Z23])])))) (rg [qn 25 .add 9 1,qv 9 25])))))),[]⟩
def S89:AF:=⟨sr [qv 10 0,qq 11 (.nilCheck Z10),qf 12 4 11,ql 13 12,qq 14 (lS Z13),qm 15 0] (.block 0 (.loop (sr [qb 16 .lss 15 14] (sq (.cond Z16 .skip (.exit 0)) (sq (.block 1 (sr [qv 17 15,qx 18 2 13 15,qs 19 2 18,qq 5 (.alloc [(.int .i64 0),(.int .i64 0)]),qv 4 17,qu (.store 2 Z5 Z19)] (sr [qv 20 1,qv 21 4,qq 22 (.callV Z20 [.t 21]),qq 23 (lS Z22),qm 24 0] (.block 2 (.loop (sr [qb 25 .lss 24 23] (sq (.cond Z25 .skip (.exit 2)) (sq (.block 3 (sr [qx 26 1 22 24,ql 27 26,qv 7 27] (sq (.draw [qv 29 0,qq 30 (.nilCheck Z29),qf 31 0 30,qs 32 3 31,qv 33 7,qv 34 0,qq 35 (.nilCheck Z34),qf 36 0 35,qf 37 2 36,ql 38 37,qf 39 0 5,ql 40 39,qx 41 3 38 40,qf 42 2 41,ql 43 42,qf 44 1 5,ql 45 44,qx 46 4 43 45,qf 47 1 46,ql 48 47,qq 49 (.call 116 [Z32,Z33,Z48]),qv 28 49,qe 50 28 0,qe 51 28 1,qq 8 (.alloc [(.int .i64 0),(.int .i64 0)]),qu (.store 2 Z8 Z50),qv 9 51] [(3,24),(9,24),(11,24),(14,24),(16,24),(19,24),(20,24)]) (sr [qv 52 9,qv 53 52,zT 54 (.mov Z7) 53,zT 55 (.mov Z0) 53,zT 56 (.nilCheck Z55) 53,zT 57 (fA 3 Z56) 53,zT 58 (.load none Z57) 53,zT 59 (.mov Z4) 53,zT 60 (.idxSl 1 Z58 Z59) 53,zT 61 (.load none Z60) 53,zT 62 (.bin .neq Z54 Z61) 53,qq 63 (.pick Z53 Z62 aF)] (.cond Z63 (rg [qv 64 0,qv 65 7,qv 66 0,qq 67 (.nilCheck Z66),qf 68 3 67,ql 69 68,qv 70 4,qx 71 1 69 70,ql 72 71,qq 73 (.call 137 [Z64,Z65,Z72])]) .skip))))) (rg [qn 74 .add 24 1,qv 24 74]))))))))) (rg [qn 75 .add 15 1,qv 15 75])))))),[]⟩
def S90:AF:=⟨sr [qq 2 (.box 1 Z0),qq 4 (.mov (.c .nilfn))] (sq (sr [qv 6 1,qn 7 .eql 6 2] (.cond Z7 (sr [ql 8 2,qq 9 (.call 138 [Z8]),qq 5 (.alloc [.nilfn]),qu (.store 1 Z5 Z9)] (sr [qq 10 (.mkFn (.func 139) [] [.t 5,.t 2]),qv 4 10] .ret)) .skip)) (sr [qq 11 (.mkFn (.func 140) [] [.t 2]),qv 4 11] .ret)),[.t 4]⟩
def S93:AF:=⟨sr [qq 2 (.mov (.c (.sl none true 0 [])))] (sq (sr [qv 6 0,qq 7 (lS Z6),qn 8 .lss 7 2] (.cond Z8 (sr [qv 9 0,qv 2 9] .ret) .skip)) (sq (sr [qm 3 1] (.block 0 (.loop (sq (sr [qv 10 3,qv 11 0,qq 12 (lS Z11),qb 13 .lss 10 12] (.cond Z13 .skip (.exit 0))) (sq (.block 1 (sq (.draw [qv 16 0,qv 17 3,qx 18 2 16 17,qs 19 2 18,qv 20 0,qv 21 3,qn 22 .sub 21 1,qx 23 2 20 22,qs 24 2 23,qq 25 (.eq false (.struct [.int,.int]) Z19 Z24)] []) (.cond Z25 (sr [qv 26 0,qv 27 3,qq 28 (.slSl 2 Z26 (some Z27) none),qv 4 28] (sq (sr [qm 5 1] (.block 2 (.loop (sq (sr [qv 29 5,qv 30 4,qq 31 (lS Z30),qb 32 .lss 29 31] (.cond Z32 .skip (.exit 2))) (sq (.block 3 (sq (.draw [qv 35 4,qv 36 5,qx 37 2 35 36,qs 38 2 37,qv 39 4,qv 40 5,qn 41 .sub 40 1,qx 42 2 39 41,qs 43 2 42,qq 44 (.eq true (.struct [.int,.int]) Z38 Z43)] []) (.cond Z44 (sr [qv 45 0,qv 46 3,qv 47 4,qv 48 5,qx 49 2 47 48,qs 50 2 49,qx 51 2 45 46,qu (.store 2 Z51 Z50)] (rg [qv 52 3,qn 53 .add 52 1,qv 3 53])) .skip))) (rg [qv 33 5,qn 34 .add 33 1,qv 5 34])))))) (sr [qv 54 0,qv 55 3,qq 56 (.slSl 2 Z54 (some Z55) none),qu (.clear 2 [(.int .i64 0),(.int .i64 0)] Z56)] (sr [qv 57 0,qv 58 3,qq 59 (.slSl 2 Z57 none (some Z58)),qv 2 59] .ret)))) .skip))) (rg [qv 14 3,qn 15 .add 14 1,qv 3 15])))))) (sr [qv 60 0,qv 2 60] .ret))),[.t 2]⟩
def S111:AF:=⟨sr [qq 3 (.box 3 Z0),qq 4 (.box 3 Z1),qq 6 (.mov aF)] (sq (sr [qf 9 0 4,ql 10 9,qn 11 .lss 10 0,qv 12 11,zF 13 (fA 0 Z4) 12,zF 14 (.load none Z13) 12,zF 15 (fA 0 Z3) 12,zF 16 (.load none Z15) 12,zF 17 (lS Z16) 12,zF 18 (.bin .geq Z14 Z17) 12,qq 19 (.pick Z12 aT Z18),qv 20 19,zF 21 (fA 1 Z4) 20,zF 22 (.load none Z21) 20,zF 23 (.bin .lss Z22 (nn 1)) 20,qq 24 (.pick Z20 aT Z23),qv 25 24,zF 26 (fA 1 Z4) 25,zF 27 (.load none Z26) 25,zF 28 (.bin .gtr Z27 (nn 3)) 25,qq 29 (.pick Z25 aT Z28),qv 30 29,zF 31 (fA 2 Z4) 30,zF 32 (.load none Z31) 30,zF 33 (lS Z32) 30,zF 34 (.bin .gtr Z33 (nn 20)) 30,qq 35 (.pick Z30 aT Z34)] (.cond Z35 (sr [qq 6 (.mov aF)] .ret) .skip)) (sq (sr [qm 7 0] (.block 0 (.loop (sq (sr [qv 36 7,qf 37 2 4,ql 38 37,qq 39 (lS Z38),qb 40 .lss 36 39] (.cond Z40 .skip (.exit 0))) (sq (.block 1 (sr [qf 43 2 4,ql 44 43,qv 45 7,qx 46 4 44 45,qs 47 4 46,qq 8 (.alloc [(.bool false),(.int .i64 0),(.int .i64 0),(.int .i64 0)]),qu (.store 4 Z8 Z47)] (sq (sr [qf 48 1 8,ql 49 48,qn 50 .lss 49 0,qv 51 50,zF 52 (fA 1 Z8) 51,zF 53 (.load none Z52) 51,zF 54 (fA 1 Z3) 51,zF 55 (.load none Z54) 51,zF 56 (lS Z55) 51,zF 57 (.bin .geq Z53 Z56) 51,qq 58 (.pick Z51 aT Z57),qv 59 58,zF 60 (fA 2 Z8) 59,zF 61 (.load (some 2) Z60) 59,zF 62 (.call 174 [Z61]) 59,zF 63 (.un .not Z62) 59,qq 64 (.pick Z59 aT Z63),qv 65 64,zF 66 (fA 0 Z8) 65,zF 67 (.load none Z66) 65,zF 68 (.mov Z67) 65,zT 69 (fA 2 Z8) 68,zT 70 (fA 0 Z69) 68,zT 71 (.load none Z70) 68,zT 72 (.bin .neq Z71 (nn 1)) 68,zF 73 (.pick Z68 Z72 aF) 65,qq 74 (.pick Z65 aT Z73)] (.cond Z74 (sr [qq 6 (.mov aF)] .ret) .skip)) (rg [qv 75 2,qf 76 1 8,ql 77 76,qx 78 1 75 77,qu (.store 1 (.t 78) aT)])))) (rg [qv 41 7,qn 42 .add 41 1,qv 7 42])))))) (sr [qq 6 (.mov aT)] .ret))),[.t 6]⟩
end
end Go.Pv.T
