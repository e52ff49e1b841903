/- The program's graph, in memory. -/
import Derived.Test.YtphecmnehkdihaaGreatDoorME
import Derived.Shelf.Sort.Plain
import Derived.Shelf.Slices.In.SortNone
import Derived.Test.YtphecmnehkdihaaGreatDoorRows
import Derived.Shelf.SlSortCmp.NoneTotal
import Derived.WalkKit
import Derived.Test.YtphecmnehkdihaaGreatDoorTie
import Derived.ProofKit
import Derived.LaidMore
import Derived.OpenShut
import Derived.Stop.Joined
import Derived.SizedLaws
import Derived.Carry
import Derived.Handed
import Derived.ChangeSame
set_option maxRecDepth 100000
set_option maxHeartbeats 8000000
namespace Go.Pv.T
open Go Go.Pv
def ptC (u:Nat):List V:=[.ptr (2*u+1) u 0]
theorem jhd (u:Nat):(ptC u).length=1:=rfl
def slU (o:Option Nat) (n sz:Nat):V:=match o with
 | none=>.sl none true 0 []
 | some u=>.osl (2*u+1) u 0 n sz
structure Gr (lo hi uG:Nat) (ut uf ue:Option Nat) (tu fu:List Nat) (WT WF:Nat→Nat) (T:List P2) (ob:ZO):Prop where
 o:ob (2*uG+1)=some ⟨uG,.cells [slU ut tu.length 1,slU uf fu.length 1,slU ue T.length 2,.bool true]⟩
 t:∀u,ut=some u→ob (2*u+1)=some ⟨u,.cells (tu.flatMap ptC)⟩
 f:∀u,uf=some u→ob (2*u+1)=some ⟨u,.cells (fu.flatMap ptC)⟩
 e:∀u,ue=some u→ob (2*u+1)=some ⟨u,.cells (T.flatMap edC)⟩
 z:(ut=none→tu=[])∧(uf=none→fu=[])∧(ue=none→T=[])
 st:∀i (h:i<tu.length),ob (2*tu[i]+1)=some ⟨tu[i],.cells (setC (WT i))⟩
 sf:∀i (h:i<fu.length),ob (2*fu[i]+1)=some ⟨fu[i],.cells (setC (WF i))⟩
 nT:tu.Nodup
 nF:fu.Nodup
 nX:∀x∈tu,x ∉ fu
 nS:∀x,x∈tu∨x∈fu→x≠uG∧ut≠some x∧uf≠some x∧ue≠some x
 nG:ut≠some uG∧uf≠some uG∧ue≠some uG
 nU:∀x,ut=some x→uf≠some x∧ue≠some x
 nV:∀x,uf=some x→ue≠some x
 rG:lo≤uG∧uG<hi
 rL:∀x,ut=some x∨uf=some x∨ue=some x→lo≤x∧x<hi
 rS:∀x,x∈tu∨x∈fu→lo≤x∧x<hi
section
variable {lo hi hi' uG:Nat}{ut uf ue:Option Nat}{tu fu:List Nat}{WT WF:Nat→Nat}{T:List P2}{ob ob':ZO}
theorem Gr.keep (h:Gr lo hi uG ut uf ue tu fu WT WF T ob) (d:∀x,lo≤x→x<hi→ob' (2*x+1)=ob (2*x+1)) (c:hi≤hi'):Gr lo hi' uG ut uf ue tu fu WT WF T ob':=by
 have g:=fun x a=>d x (h.rL x a).1 (h.rL x a).2
 have j:=fun x a=>d x (h.rS x a).1 (h.rS x a).2
 exact⟨(d uG h.rG.1 h.rG.2).trans h.o,fun u b=>(g u (.inl b)).trans (h.t u b),fun u b=>(g u (.inr (.inl b))).trans (h.f u b),fun u b=>(g u (.inr (.inr b))).trans (h.e u b),h.z,
  fun i hi=>(j _ (.inl (List.getElem_mem hi))).trans (h.st i hi),fun i hi=>(j _ (.inr (List.getElem_mem hi))).trans (h.sf i hi),h.nT,h.nF,h.nX,h.nS,h.nG,h.nU,h.nV,
  ⟨h.rG.1,Nat.lt_of_lt_of_le h.rG.2 c⟩,fun x a=>⟨(h.rL x a).1,Nat.lt_of_lt_of_le (h.rL x a).2 c⟩,fun x a=>⟨(h.rS x a).1,Nat.lt_of_lt_of_le (h.rS x a).2 c⟩⟩
theorem Gr.wide {lo':Nat}(h:Gr lo hi uG ut uf ue tu fu WT WF T ob) (b:lo'≤lo):Gr lo' hi uG ut uf ue tu fu WT WF T ob :=
 ⟨h.o,h.t,h.f,h.e,h.z,h.st,h.sf,h.nT,h.nF,h.nX,h.nS,h.nG,h.nU,h.nV,⟨Nat.le_trans b h.rG.1,h.rG.2⟩,fun x a=>⟨Nat.le_trans b (h.rL x a).1,(h.rL x a).2⟩,fun x a=>⟨Nat.le_trans b (h.rS x a).1,(h.rS x a).2⟩⟩
theorem Gr.off (h:Gr lo hi uG ut uf ue tu fu WT WF T ob) {x:Nat}(a:x<hi):Off hi (2*x+1):=Off.new a
theorem jhl {b:Type}{l:List b}(h:l.Nodup) {i j:Nat}(hi:i<l.length) (a:j<l.length) (e:l[i]=l[j]):i=j:=by
 rcases Nat.lt_trichotomy i j with h1|h1|h1
 ·exact absurd e (List.pairwise_iff_getElem.1 h i j hi a h1)
 ·exact h1
 ·exact absurd e.symm (List.pairwise_iff_getElem.1 h j i a hi h1)
theorem Gr.putT (h:Gr lo hi uG ut uf ue tu fu WT WF T ob) {a w:Nat}(k:a<tu.length) (n:ob' (2*tu[a]+1)=some ⟨tu[a],.cells (setC w)⟩) (d:∀x,lo≤x→x<hi→x≠tu[a]→ob' (2*x+1)=ob (2*x+1)) (j:hi≤hi') :
 Gr lo hi' uG ut uf ue tu fu (fun i=>if i=a then w else WT i) WF T ob':=by
 have l:tu[a]∈tu:=List.getElem_mem k
 obtain⟨q,r,s,v⟩:=h.nS _ (.inl l)
 have g:=fun x (b:ut=some x∨uf=some x∨ue=some x)=>d x (h.rL x b).1 (h.rL x b).2 (fun e=>by subst e;rcases b with b|b|b <;> contradiction)
 have m:=fun x b=>d x (h.rS x b).1 (h.rS x b).2
 refine⟨(d uG h.rG.1 h.rG.2 (Ne.symm q)).trans h.o,fun u c=>(g u (.inl c)).trans (h.t u c),fun u c=>(g u (.inr (.inl c))).trans (h.f u c),fun u c=>(g u (.inr (.inr c))).trans (h.e u c),h.z,
  fun i hi=>?_,fun i hi=>(m _ (.inr (List.getElem_mem hi)) (fun e=>h.nX _ l (e▸List.getElem_mem hi))).trans (h.sf i hi),h.nT,h.nF,h.nX,h.nS,h.nG,h.nU,h.nV,
  ⟨h.rG.1,Nat.lt_of_lt_of_le h.rG.2 j⟩,fun x b=>⟨(h.rL x b).1,Nat.lt_of_lt_of_le (h.rL x b).2 j⟩,fun x b=>⟨(h.rS x b).1,Nat.lt_of_lt_of_le (h.rS x b).2 j⟩⟩
 by_cases e:i=a
 ·subst e
  rw[if_pos rfl]
  exact n
 ·rw[if_neg e]
  exact(m _ (.inl (List.getElem_mem hi)) (fun p=>e (jhl h.nT hi k p))).trans (h.st i hi)
theorem Gr.putF (h:Gr lo hi uG ut uf ue tu fu WT WF T ob) {a w:Nat}(k:a<fu.length) (n:ob' (2*fu[a]+1)=some ⟨fu[a],.cells (setC w)⟩) (d:∀x,lo≤x→x<hi→x≠fu[a]→ob' (2*x+1)=ob (2*x+1)) (j:hi≤hi') :
 Gr lo hi' uG ut uf ue tu fu WT (fun i=>if i=a then w else WF i) T ob':=by
 have l:fu[a]∈fu:=List.getElem_mem k
 obtain⟨q,r,s,v⟩:=h.nS _ (.inr l)
 have g:=fun x (b:ut=some x∨uf=some x∨ue=some x)=>d x (h.rL x b).1 (h.rL x b).2 (fun e=>by subst e;rcases b with b|b|b <;> contradiction)
 have m:=fun x b=>d x (h.rS x b).1 (h.rS x b).2
 refine⟨(d uG h.rG.1 h.rG.2 (Ne.symm q)).trans h.o,fun u c=>(g u (.inl c)).trans (h.t u c),fun u c=>(g u (.inr (.inl c))).trans (h.f u c),fun u c=>(g u (.inr (.inr c))).trans (h.e u c),h.z,
  fun i hi=>(m _ (.inl (List.getElem_mem hi)) (fun e=>h.nX _ (List.getElem_mem hi) (e▸l))).trans (h.st i hi),fun i hi=>?_,h.nT,h.nF,h.nX,h.nS,h.nG,h.nU,h.nV,
  ⟨h.rG.1,Nat.lt_of_lt_of_le h.rG.2 j⟩,fun x b=>⟨(h.rL x b).1,Nat.lt_of_lt_of_le (h.rL x b).2 j⟩,fun x b=>⟨(h.rS x b).1,Nat.lt_of_lt_of_le (h.rS x b).2 j⟩⟩
 by_cases e:i=a
 ·subst e
  rw[if_pos rfl]
  exact n
 ·rw[if_neg e]
  exact(m _ (.inr (List.getElem_mem hi)) (fun p=>e (jhl h.nF hi k p))).trans (h.sf i hi)
theorem Gr.edge (h:Gr lo hi uG ut uf ue tu fu WT WF T ob) {x:Nat}{p:P2}(m:ob' (2*uG+1)=some ⟨uG,.cells [slU ut tu.length 1,slU uf fu.length 1,slU (some x) (T.length+1) 2,.bool true]⟩) (n:ob' (2*x+1)=some ⟨x,.cells ((T++[p]).flatMap edC)⟩)
 (g:∀y,lo≤y→y<hi→y≠uG→ue≠some y→ob' (2*y+1)=ob (2*y+1)) (v:hi≤x) (r:x<hi'):Gr lo hi' uG ut uf (some x) tu fu WT WF (T++[p]) ob':=by
 have j:hi≤hi':=zO
 have l:lo≤x:=by have:=h.rG;omega
 have ne:∀y,ut=some y∨uf=some y∨ue=some y→y≠x:=fun y a e=>by have:=(h.rL y a).2;omega
 have s:∀y,y∈tu∨y∈fu→y≠x:=fun y a e=>by have:=(h.rS y a).2;omega
 refine⟨by rw[List.length_append];exact m,fun u b=>(g u (h.rL u (.inl b)).1 (h.rL u (.inl b)).2 (fun e=>h.nG.1 (e▸b)) (h.nU u b).2).trans (h.t u b),fun u b=>(g u (h.rL u (.inr (.inl b))).1 (h.rL u (.inr (.inl b))).2 (fun e=>h.nG.2.1 (e▸b)) (h.nV u b)).trans (h.f u b),
  fun u b=>by cases b;exact n,⟨h.z.1,h.z.2.1,fun e=>by cases e⟩,fun i hi=>?_,fun i hi=>?_,h.nT,h.nF,h.nX,fun y a=>?_,⟨h.nG.1,h.nG.2.1,fun e=>?_⟩,fun y a=>⟨(h.nU y a).1,fun e=>ne y (.inl a) (by injection e with e;exact e.symm)⟩,fun y a e=>ne y (.inr (.inl a)) (by injection e with e;exact e.symm),
  ⟨h.rG.1,Nat.lt_of_lt_of_le h.rG.2 j⟩,fun y a=>?_,fun y a=>⟨(h.rS y a).1,Nat.lt_of_lt_of_le (h.rS y a).2 j⟩⟩
 ·have c:=List.getElem_mem hi
  obtain⟨d,_,_,k⟩:=h.nS _ (.inl c)
  exact(g _ (h.rS _ (.inl c)).1 (h.rS _ (.inl c)).2 d k).trans (h.st i hi)
 ·have c:=List.getElem_mem hi
  obtain⟨d,_,_,k⟩:=h.nS _ (.inr c)
  exact(g _ (h.rS _ (.inr c)).1 (h.rS _ (.inr c)).2 d k).trans (h.sf i hi)
 ·obtain⟨d,o,q,_⟩:=h.nS y a
  exact⟨d,o,q,fun e=>s y a (by injection e with e;exact e.symm)⟩
 ·have:=h.rG.2
  injection e with e
  omega
 ·rcases a with a|a|a
  ·exact⟨(h.rL y (.inl a)).1,Nat.lt_of_lt_of_le (h.rL y (.inl a)).2 j⟩
  ·exact⟨(h.rL y (.inr (.inl a))).1,Nat.lt_of_lt_of_le (h.rL y (.inr (.inl a))).2 j⟩
  ·cases a
   exact⟨l,r⟩
theorem Gr.node {a b c d:Nat}(h:Gr lo hi uG ut uf none tu fu (fun _=>0) (fun _=>0) [] ob) (r:ob' (2*uG+1)=some ⟨uG,.cells [slU (some b) (tu.length+1) 1,slU (some d) (fu.length+1) 1,.sl none true 0 [],.bool true]⟩)
 (x:ob' (2*b+1)=some ⟨b,.cells ((tu++[a]).flatMap ptC)⟩) (t:ob' (2*d+1)=some ⟨d,.cells ((fu++[c]).flatMap ptC)⟩) (p:ob' (2*a+1)=some ⟨a,.cells (setC 0)⟩) (B:ob' (2*c+1)=some ⟨c,.cells (setC 0)⟩)
 (s:∀y,lo≤y→y<hi→y≠uG→ut≠some y→uf≠some y→ob' (2*y+1)=ob (2*y+1)) (q:hi≤a∧a<b∧b<c∧c<d∧d<hi'):Gr lo hi' uG (some b) (some d) none (tu++[a]) (fu++[c]) (fun _=>0) (fun _=>0) [] ob':=by
 obtain⟨K,H,J,G,F⟩:=q
 have I:hi≤hi':=zO
 have n:=h.rG
 have j:∀y,y∈tu∨y∈fu→lo≤y∧y<hi:=h.rS
 have o:∀y,y∈tu∨y∈fu→ob' (2*y+1)=ob (2*y+1):=fun y f=>by
  obtain⟨w,v,D,_⟩:=h.nS y f
  exact s y (j y f).1 (j y f).2 w v D
 have g:∀y,y∈tu++[a]∨y∈fu++[c]→(y∈tu∨y∈fu)∨y=a∨y=c:=fun y f=>by
  simp only[List.mem_append,List.mem_singleton]at f
  rcases f with(h|h)|(h|h)
  ·exact .inl (.inl h)
  ·exact .inr (.inl h)
  ·exact .inl (.inr h)
  ·exact .inr (.inr h)
 refine⟨by simpa[slU] using r,fun u k=>(by cases k;exact x),fun u k=>(by cases k;exact t),fun u k=>(by cases k),⟨fun e=>(by cases e),fun e=>(by cases e),fun _=>rfl⟩,fun i hi=>?_,fun i hi=>?_,?_,?_,fun y f=>?_,fun y f=>?_,⟨fun e=>?_,fun e=>?_,fun e=>(by cases e)⟩,
  fun y f=>⟨fun e=>?_,fun e=>(by cases e)⟩,fun y _ e=>(by cases e),⟨n.1,zO⟩,fun y f=>?_,fun y f=>?_⟩
 ·by_cases e:i<tu.length
  ·rw[List.getElem_append_left e]
   exact(o _ (.inl (List.getElem_mem e))).trans (h.st i e)
  ·have:i=tu.length:=by rw[List.length_append,List.length_singleton]at hi;omega
   subst this
   rw[List.getElem_append_right zR]
   simpa using p
 ·by_cases e:i<fu.length
  ·rw[List.getElem_append_left e]
   exact(o _ (.inr (List.getElem_mem e))).trans (h.sf i e)
  ·have:i=fu.length:=by rw[List.length_append,List.length_singleton]at hi;omega
   subst this
   rw[List.getElem_append_right zR]
   simpa using B
 ·rw[List.nodup_append]
  exact⟨h.nT,zS,fun y f z l e=>by rw[List.mem_singleton]at l;have:=(j y (.inl f)).2;omega⟩
 ·rw[List.nodup_append]
  exact⟨h.nF,zS,fun y f z l e=>by rw[List.mem_singleton]at l;have:=(j y (.inr f)).2;omega⟩
 ·simp only[List.mem_append,List.mem_singleton]at f ⊢
  rintro(m|m)
  ·rcases f with h3|h3
   ·exact h.nX y h3 m
   ·have:=(j y (.inr m)).2;omega
  ·rcases f with h3|h3
   ·have:=(j y (.inl h3)).2;omega
   ·omega
 ·refine⟨?_,fun e=>?_,fun e=>?_,fun e=>(by cases e)⟩
  ·rcases g y f with h3|h3|h3
   ·exact(h.nS y h3).1
   ·omega
   ·omega
  ·injection e with e
   rcases g y f with h3|h3|h3
   ·have:=(j y h3).2;omega
   ·omega
   ·omega
  ·injection e with e
   rcases g y f with h3|h3|h3
   ·have:=(j y h3).2;omega
   ·omega
   ·omega
 ·injection e with e;omega
 ·injection e with e;omega
 ·injection f with f
  injection e with e
  omega
 ·rcases f with f|f|f
  ·injection f with f;omega
  ·injection f with f;omega
  ·cases f
 ·rcases g y f with h3|h3|h3
  ·have:=j y h3;omega
  ·omega
  ·omega
end
def Js (o:Option Nat):List Nat:=match o with
 | none=>[]
 | some u=>[2*u+1]
theorem jej {st:St}{ub:Nat}{K:List FP→St→Prop}{d:Option Nat}{r:List AOpr}{ut:Option Nat}{tu:List Nat}{a:Nat}{s x:A}(f:eval E st.tm s=slU ut tu.length 1) (j:∀u,ut=some u→st.ob (2*u+1)=some ⟨u,.cells (tu.flatMap ptC)⟩∧st.ro≤u) (k:ut=none→tu=[])
 (g:slCells st.ob 1 (eval E st.tm x)=some (ptC a)) (n:tu.length≤1000000)
 (h:Wt E r K (eval E st.tm) (.append true 1 8 s x) st d ub { v:=.osl (2*ub+1) ub 0 (tu.length+1) 1,obs:=[(2*ub+1,⟨ub,.cells ((tu++[a]).flatMap ptC)⟩)],kill:=Js ut }):jE E (⟨d,.append true 1 8 s x,none,true⟩::r) st ub K:=by
 rw[Jo rfl]
 have c:ptC a≠[]:=by simp[ptC]
 have b:(ptC a).all V.leaf=true:=rfl
 have i:=j4 jhd tu
 cases ut with
 | none=>
  have:=k rfl
  subst this
  simp only[aop,f,slU,g,Option.bind_some,if_neg c,Bool.and_self,if_true,Jq,Wn]
  rw[if_pos ⟨zD,b,by simp[ptC],by simp[ptC]⟩]
  simp only[Jg,jK]
  simpa[ptC,Js] using h
 | some u=>
  obtain⟨l,m⟩:=j u rfl
  have e:objCells st.ob (2*u+1) u=some (tu.flatMap ptC):=by simp[objCells,l]
  simp only[aop,f,slU,g,e,Option.bind_some,if_neg c,Jq,Wn]
  rw[if_pos ⟨Nat.ble_eq▸m,trivial,trivial,zO,zD,b,by simp[ptC];omega,by simp[ptC];omega⟩,jK]
  rw[show(tu.flatMap ptC).take (tu.length*1)=tu.flatMap ptC from List.take_of_length_le zO]
  simpa[ptC,Js,List.flatMap_append] using h
theorem j19 (l u o:Nat):lOf (.ptr l u o)=[l]:=rfl
theorem j2a (l u o n z:Nat):lOf (.osl l u o n z)=[l]:=rfl
theorem beqN {a b:Nat}(h:¬ a=b):Nat.beq (2*a+1) (2*b+1)=false:=JW zO
theorem juc (a:Nat) (x y:List Nat):Qv (a::x) y=(!(y.any fun b=>Nat.beq a b) && Qv x y):=by simp[Qv,Bool.not_or]
theorem jyr (y:List Nat):Qv [] y=true:=rfl
theorem jys (x a y:List Nat):Qv (x++a) y=(Qv x y && Qv a y):=by simp[Qv,List.any_append,Bool.not_or]
section
variable {ob:ZO}{ub:Nat}
def PgR (ob:ZO) (ub n:Nat) (WT WF:Nat→Nat) (k:Nat) (r:V × (ZO) × (Nat→Bool) × Nat):Prop :=
 ∃uG ut uf ue tu fu T,r.1=.tup [.ptr (2*uG+1) uG 0,.int .i64 0]∧Gr ub r.2.2.2 uG (some ut) (some uf) ue tu fu WT WF T r.2.1∧tu.length=n∧fu.length=n∧T.length≤k∧ub≤r.2.2.2∧∀key,Off ub key→r.2.1 key=ob key
theorem sv204 {Yf:YF}{tk:Nat→Bool}{ro base n:Nat}(c3:ro≤ub) (U:0<n) (h9:n≤9):∃r,EvS E Yf.y 204 [.int .i64 (n:Int)] ob tk ro base ub r∧PgR ob ub n (fun _=>0) (fun _=>0) 0 r:=by
 refine Jn (af:=S204) rfl zD ?_
 show wpC E Yf S204.body _ (XT S204.res _)
 have b5:¬ (n:Int)<0:=zO
 have c0:¬ (500:Int)<n:=zO
 simp(disch:=first|(simp;done)|omega) [S204,b5,c0,V.cells,j2]
 refine jY fun D k=>?_
 obtain⟨p,u1,u2,g4,gG⟩:∃u,ub≤u∧u<D.nx∧D.tm 4=.ptr (2*u+1) u 0∧D.ob (2*u+1)=some ⟨u,.cells [.sl none true 0 [],.sl none true 0 [],.sl none true 0 [],.bool true]⟩:=by
  refine⟨ub+576,zO,by rw[k];first|omega|(simp;done)|(simp;omega),by rw[k];simp,by rw[k];simp[Nat.add_assoc]⟩
 have b9:D.tm 13=.int .i64 n:=by rw[k];simp
 have O:D.tm 14=.int .i64 0:=by rw[k];simp
 have gd:D.df=[]:=by rw[k];simp
 have gr:D.ro=ro:=by rw[k];simp
 have go:∀g,Off ub g→D.ob g=ob g:=fun g v=>by
  have:=v.ne
  rw[k]
  simp(disch:=first|(simp;done)|omega) [this]
 clear k
 obtain⟨J,hJ⟩:∃J:Nat→St→Prop,J=fun i s=>s.tm 14=.int .i64 i∧(∃ut l tu K,Gr ub s.nx p ut l none tu K (fun _=>0) (fun _=>0) [] s.ob∧tu.length=i∧K.length=i∧((ut=none∧l=none∧i=0)∨∃a b,ut=some a∧l=some b))∧ub≤s.nx∧∀g,Off ub g→s.ob g=ob g:=⟨_,rfl⟩
 refine j8 [(14,36)] n J rfl rfl ?_ ?_
 ·rw[hJ]
  refine⟨by simpa using O,⟨none,none,[],[],⟨by simpa[slU] using gG,fun u h=>(by cases h),fun u h=>(by cases h),fun u h=>(by cases h),⟨fun _=>rfl,fun _=>rfl,fun _=>rfl⟩,fun i h=>(by simp at h),fun i h=>(by simp at h),List.nodup_nil,List.nodup_nil,fun x h=>(by simp at h),fun x h=>(by simp at h),⟨zS,zS,zS⟩,fun x h=>(by cases h),fun x h=>(by cases h),⟨u1,u2⟩,fun x h=>(by simp at h),fun x h=>(by simp at h)⟩,rfl,rfl,.inl ⟨rfl,rfl,rfl⟩⟩,zO,go⟩
 clear O go gG u2
 intro i s hi N f
 rw[hJ]at N
 obtain⟨F,⟨ut,l,tu,K,j,ht,hf,q⟩,sn,so⟩:=N
 have s4:s.tm 4=.ptr (2*p+1) p 0:=by rw[f.t 4 zS,g4]
 have M:s.tm 13=.int .i64 n:=by rw[f.t 13 zS,b9]
 have sd:s.df=[]:=by rw[f.d,gd]
 have sr:s.ro=ro:=by rw[f.r,gr]
 clear f
 by_cases G:i<n
 ·have a0:=jb G zO
  have H:=j.o
  have c2:=j.rG
  have nG:∀m,s.nx≤m→¬ p=m:=fun m w=>by omega
  have kt:∀m,s.nx≤m→(Js ut).any (Nat.beq (2*m+1))=false:=fun m w=>by
   cases ut with
   | none=>rfl
   | some u=>
    have:=j.rL u (.inl rfl)
    simp only[Js,List.any_cons,List.any_nil,Bool.or_false]
    exact JW zO
  have X:∀m,s.nx≤m→(Js l).any (Nat.beq (2*m+1))=false:=fun m w=>by
   cases l with
   | none=>rfl
   | some u=>
    have:=j.rL u (.inr (.inl rfl))
    simp only[Js,List.any_cons,List.any_nil,Bool.or_false]
    exact JW zO
  have I:∀x,ut≠some x→(Js ut).any (Nat.beq (2*x+1))=false:=fun x Z=>by
   cases ut with
   | none=>rfl
   | some u=>
    simp only[Js,List.any_cons,List.any_nil,Bool.or_false]
    exact JW fun e=>Z (by rw[show x=u by omega])
  have P:∀x,l≠some x→(Js l).any (Nat.beq (2*x+1))=false:=fun x Z=>by
   cases l with
   | none=>rfl
   | some u=>
    simp only[Js,List.any_cons,List.any_nil,Bool.or_false]
    exact JW fun e=>Z (by rw[show x=u by omega])
  have c1:∀g,Off ub g→(Js ut).any (Nat.beq g)=false:=fun g v=>by
   cases ut with
   | none=>rfl
   | some u=>
    have:=j.rL u (.inl rfl)
    simp only[Js,List.any_cons,List.any_nil,Bool.or_false]
    exact JW (v u this.1)
  have b0:∀g,Off ub g→(Js l).any (Nat.beq g)=false:=fun g v=>by
   cases l with
   | none=>rfl
   | some u=>
    have:=j.rL u (.inr (.inl rfl))
    simp only[Js,List.any_cons,List.any_nil,Bool.or_false]
    exact JW (v u this.1)
  simp(disch:=first|(simp;done)|omega) [F,M,s4,G,objCells,H]
  refine jzw zS rfl rfl rfl ?_
  simp
  refine JN (cs:=ptC (s.nx+448)) (by simp[j2,ptC,Nat.add_assoc,V.cells,V.leaf]) rfl rfl ?_
  simp
  refine jej (ut:=ut) (tu:=tu) (a:=s.nx+448) zS (fun u L=>?_) j.z.1 (by simp[slCells,objCells,ptC,Nat.add_assoc]) zO ?_
  ·have:=j.rL u (.inl L)
   have nu:∀m,s.nx≤m→¬ u=m:=fun m w=>by omega
   refine⟨?_,by simp[sr];omega⟩
   simp(disch:=first|(simp;done)|omega) [two_inj,nu,j.t u L]
  have k1:=I p j.nG.1
  simp(disch:=first|(simp;done)|omega) [jD,objCells,H,two_inj,nG,k1,s4]
  refine jzw zS rfl rfl rfl ?_
  simp
  refine JN (cs:=ptC (s.nx+896)) (by simp[j2,ptC,Nat.add_assoc,V.cells,V.leaf]) rfl rfl ?_
  simp
  refine jej (ut:=l) (tu:=K) (a:=s.nx+896) zS (fun u L=>?_) j.z.2.1 (by simp[slCells,objCells,ptC,Nat.add_assoc]) zO ?_
  ·have:=j.rL u (.inr (.inl L))
   have nu:∀m,s.nx≤m→¬ u=m:=fun m w=>by omega
   have k2:=I u fun e=>(j.nU u e).1 L
   refine⟨?_,by simp[sr];omega⟩
   simp(disch:=first|(simp;done)|omega) [jD,two_inj,nu,j.f u L,k2]
  have k3:=P p j.nG.2.1
  simp(disch:=first|(simp;done)|omega) [jD,objCells,H,two_inj,nG,k1,k3,j2]
  have b7:(∀m,s.nx≤m→Nat.beq (2*p+1) (2*m+1)=false)∧(∀m,s.nx≤m→Nat.beq (2*m+1) (2*p+1)=false):=⟨fun m w=>JW zO,fun m w=>JW zO⟩
  obtain⟨Q,T⟩:=b7
  have S:∀o:Option Nat,(o=ut∨o=l)→∀n,lOf (slU o n 1)=Js o∧uOf (slU o n 1)=[]:=fun o _ n=>by cases o <;> exact⟨rfl,rfl⟩
  have hd1:=S ut (.inl rfl)
  have b8:=S l (.inr rfl)
  have kk:(Js ut).any (fun a=>(Js l).any fun b=>Nat.beq a b)=false∧(Js l).any (fun a=>(Js ut).any fun b=>Nat.beq a b)=false:=by
   rcases q with⟨rfl,rfl,rfl⟩|⟨a,b,rfl,rfl⟩
   ·exact⟨rfl,rfl⟩
   ·have:=(j.nU a rfl).1
    have c4:a≠b:=fun e=>this (by rw[e])
    simp only[Js,List.any_cons,List.any_nil,Bool.or_false]
    exact⟨JW zO,JW zO⟩
  have c6:∀m,s.nx≤m→(Js ut).any (fun a=>Nat.beq a (2*m+1))=false:=fun m w=>by
   cases ut with
   | none=>rfl
   | some u=>
    have:=j.rL u (.inl rfl)
    simp only[Js,List.any_cons,List.any_nil,Bool.or_false]
    exact JW zO
  have c5:∀m,s.nx≤m→(Js l).any (fun a=>Nat.beq a (2*m+1))=false:=fun m w=>by
   cases l with
   | none=>rfl
   | some u=>
    have:=j.rL u (.inr (.inl rfl))
    simp only[Js,List.any_cons,List.any_nil,Bool.or_false]
    exact JW zO
  have b6:(Js ut).any (fun a=>Nat.beq a (2*p+1))=false∧(Js l).any (fun a=>Nat.beq a (2*p+1))=false:=by
   rcases q with⟨rfl,rfl,rfl⟩|⟨a,b,rfl,rfl⟩
   ·exact⟨rfl,rfl⟩
   ·have U:=j.nG
    simp only[Js,List.any_cons,List.any_nil,Bool.or_false]
    exact⟨JW fun e=>U.1 (by rw[show a=p by omega]),JW fun e=>U.2.1 (by rw[show b=p by omega])⟩
  refine⟨zO,by simp(disch:=first|(simp;done)|omega) [Jw,QR,Qv,jbf,rdOb,rdTk,lOf,uOf,Delta.wo,Delta.wt,Q,T,b6],jw3 (by simp(disch:=first|(simp;done)|omega) [jso,jpm,Wp,juc,jyr,jys,jbf,rdOb,rdTk,j19,j2a,Delta.wo,Delta.wt,Q,T,hd1,b8,kt,X,k1,k3,beqN]),?_⟩
  simp(disch:=first|(simp;done)|omega) [F,a0,G]
  rw[hJ]
  have B:∀m,s.nx≤m→¬ m=p:=fun m w=>by omega
  refine⟨zS,⟨some (s.nx+576),some (s.nx+1024),tu++[s.nx+448],K++[s.nx+896],j.node (a:=s.nx+448) (b:=s.nx+576) (c:=s.nx+896) (d:=s.nx+1024) ?_ ?_ ?_ ?_ ?_ (fun y U h2 h3 h4 h5=>?_) ⟨zO,zO,zO,zO,zL⟩,by simp[ht],by simp[hf],.inr ⟨_,_,rfl,rfl⟩⟩,zL,fun g v=>?_⟩
  ·simp(disch:=first|(simp;done)|omega) [slU,Nat.add_assoc]
  ·simp(disch:=first|(simp;done)|omega) [jD,two_inj,B,X,Nat.add_assoc]
  ·simp(disch:=first|(simp;done)|omega) [jD,two_inj,B,Nat.add_assoc]
  ·simp(disch:=first|(simp;done)|omega) [jD,two_inj,B,kt,X,Nat.add_assoc,jiv]
  ·simp(disch:=first|(simp;done)|omega) [jD,two_inj,B,X,Nat.add_assoc,jiv]
  ·have ny:∀m,s.nx≤m→¬ y=m:=fun m w=>by omega
   have q1:=I y h4
   have q2:=P y h5
   simp(disch:=first|(simp;done)|omega) [jD,two_inj,ny,q1,q2,h3]
  ·have q1:=c1 g v
   have q2:=b0 g v
   have q3:=(v.up (show ub≤s.nx by omega)).ne
   have q4:¬ g=2*p+1:=v p c2.1
   simp(disch:=first|(simp;done)|omega) [jD,q1,q2,q3,q4]
   exact so g v
 ·have:i=n:=zO
  subst this
  simp(disch:=first|(simp;done)|omega) [F,M,s4]
  rcases q with⟨_,_,rfl⟩|⟨a,b,rfl,rfl⟩
  ·omega
  refine jgp (by simp[sd]) ⟨p,a,b,none,tu,K,[],zS,j.keep (fun x _ _=>by simp) zL,ht,hf,zS,zL,fun g v=>by simpa using so g v⟩
end
section
variable {lo hi uG:Nat}{ut uf:Nat}{ue:Option Nat}{tu fu:List Nat}{WT WF:Nat→Nat}{T:List P2}{ob:ZO}{ub:Nat}
theorem jt6 (b:Gr lo hi uG (some ut) (some uf) ue tu fu WT WF T ob) (e:hi≤ub) (tk:Nat→Bool) (base:Nat):EvO E 248 [.ptr (2*uG+1) uG 0] ob tk base ub (.bool true):=by
 have a:=b.o
 have c:∀m,ub≤m→¬ uG=m:=fun m d=>by have:=b.rG;omega
 refine Jz (af:=S248) rfl ?_
 simp(disch:=first|(simp;done)|omega) [S248,objCells,a]
 exact j1 zS zS rfl
theorem jn6 (c:Gr lo hi uG (some ut) (some uf) ue tu fu WT WF T ob) (d:hi≤ub) (a:Int) (tk:Nat→Bool) (base:Nat):EvO E 206 [.ptr (2*uG+1) uG 0,.int .i64 a] ob tk base ub (.bool (decide (0≤a) && decide (a<tu.length))):=by
 have b:=c.o
 have e:∀m,ub≤m→¬ uG=m:=fun m f=>by have:=c.rG;omega
 refine Jz (af:=S206) rfl ?_
 simp(disch:=first|(simp;done)|omega) [S206]
 refine jh (vs:=[.ptr (2*uG+1) uG 0]) zS rfl rfl (jt6 (c.keep (fun x _ _=>by simp) d) zO _ _) ?_
 by_cases h:0≤a
 ·simp(disch:=first|(simp;done)|omega) [objCells,b,slU,h]
  exact j1 zS zS rfl
 ·simp(disch:=first|(simp;done)|omega) [h]
  exact j1 zS zS rfl
theorem ji9 {l:List Nat}{i:Nat}(h:i<l.length):(l.flatMap ptC)[i]? = some (.ptr (2*l[i]+1) l[i] 0):=by
 have:=jR jhd l h (by decide:0<1)
 rw[Nat.mul_one,Nat.add_zero]at this
 rw[this]
 rfl
theorem evo249 (c:Gr lo hi uG (some ut) (some uf) ue tu fu WT WF T ob) (j:hi≤ub) {a b:Nat}(d:a<tu.length) (h:b<64) (s:WT a<2 ^ 64) (tk:Nat→Bool) (base:Nat):EvO E 249 [.ptr (2*uG+1) uG 0,.int .i64 (a:Int),.int .i64 (b:Int)] ob tk base ub (.bool ((WT a).testBit b)):=by
 have e:=c.o
 have f:=c.t ut rfl
 have y:∀m,ub≤m→¬ uG=m:=fun m p=>by have:=c.rG;omega
 have z:∀m,ub≤m→¬ ut=m:=fun m p=>by have:=c.rL ut (.inl rfl);omega
 have g:=c.st a d
 have v:=c.rS tu[a] (.inl (List.getElem_mem d))
 have q:=ju1 (l:=2*ut+1) (u:=ut) (kk:=.i64) d
 have i:=ji9 d
 have r:((a:Int)<(tu.length:Int)):=zO
 refine Jz (af:=S249) rfl ?_
 simp(disch:=first|(simp;done)|omega) [S249]
 refine jh (vs:=[.ptr (2*uG+1) uG 0,.int .i64 a]) zS rfl rfl (jn6 (c.keep (fun x _ _=>by simp) j) zO _ _ _) ?_
 simp(disch:=first|(simp;done)|omega) [objCells,e,slU,d,f,q,i]
 refine jh (vs:=[.ptr (2*tu[a]+1) tu[a] 0,.int .i64 b]) zS rfl rfl (jz8 (w:=WT a) (by simpa using g) (Off.new zO) h s _ _) ?_
 simp
 exact j1 zS zS rfl
end
section
variable {ub n k:Nat}{uG ut uf:Nat}{ue:Option Nat}{tu fu:List Nat}{WT WF:Nat→Nat}{T:List P2}{lo:Nat}{ob:ZO}
def GPut (lo:Nat) (ob:ZO) (ub uG ut uf:Nat) (tu fu:List Nat) (WT WF:Nat→Nat) (k:Nat) (r:V × (ZO) × (Nat→Bool) × Nat):Prop :=
 ∃bb ue T,r.1=.tup [.bool bb,.int .i64 0]∧Gr lo r.2.2.2 uG (some ut) (some uf) ue tu fu WT WF T r.2.1∧T.length≤k∧ub≤r.2.2.2∧∀key,Off lo key→r.2.1 key=ob key
theorem jzm {w b:Nat}(h:w.testBit b=true):w ||| 1 <<< b=w:=by
 refine Nat.eq_of_testBit_eq fun i=>?_
 rw[Nat.testBit_or,Nat.one_shiftLeft,Nat.testBit_two_pow]
 by_cases e:b=i
 ·subst e;simp[h]
 ·simp[e]
def Dual (n:Nat) (WT WF:Nat→Nat):Prop:=∀a b,a<n→b<n→(WT a).testBit b=(WF b).testBit a
theorem jly {F:Env}{Yf:YF}{q:Nat}{ue:Option Nat}{T:List P2}{p:P2}{s x:A}{st:St}{K:St→Nat→Prop}{d:Option Nat}(a:eval F st.tm s=slU ue T.length 2) (e:∀u,ue=some u→st.ob (2*u+1)=some ⟨u,.cells (T.flatMap edC)⟩∧st.ro≤u) (f:ue=none→T=[])
 (b:slCells st.ob 2 (eval F st.tm x)=some (edC p)) (j:T.length≤1000000) (h:WZ K st d q { v:=.osl (2*q+1) q 0 (T.length+1) 2,obs:=[(2*q+1,⟨q,.cells ((T++[p]).flatMap edC)⟩)],kill:=Js ue }):j6 F Yf ⟨d,.append true 2 16 s x,none,true⟩ st q K:=by
 cases ue with
 | none=>
  have:=f rfl
  subst this
  refine XE a b (by simp[edC]) zD rfl (by simp[edC]) (by simp[edC]) ?_
  simpa[edC,jG,Js] using h
 | some u=>
  obtain⟨g,i⟩:=e u rfl
  have c:=j4 JO T
  refine XN (cs:=T.flatMap edC) a b g (by simp[edC]) i zO zD rfl (by simp[edC];omega) (by simp[edC];omega) ?_
  rw[List.take_of_length_le zO]
  simpa[edC,jG,Js] using h
theorem jjy {ue:Option Nat}{x:Nat}(h:ue≠some x):(Js ue).any (Nat.beq (2*x+1))=false:=by
 cases ue with
 | none=>rfl
 | some u=>
  simp only[Js,List.any_cons,List.any_nil,Bool.or_false]
  exact JW fun e=>h (by rw[show x=u by omega])
theorem js3 {ue:Option Nat}{key l:Nat}(h:∀u,ue=some u→l≤u) (a:Off l key):(Js ue).any (Nat.beq key)=false:=by
 cases ue with
 | none=>rfl
 | some u=>
  simp only[Js,List.any_cons,List.any_nil,Bool.or_false]
  exact JW (a u (h u rfl))
theorem sv205 {Yf:YF}{tk:Nat→Bool}{ro base:Nat}(g:Gr lo ub uG (some ut) (some uf) ue tu fu WT WF T ob) (c2:ro≤lo) (M:tu.length=n) (hf:fu.length=n) (h9:n≤64) {a b:Nat}(S:a<n) (Z:b<n) (U:∀i,i<n→WT i<2 ^ n) (a0:∀i,i<n→WF i<2 ^ n) (hd:Dual n WT WF) (hT:T.length≤100000) :
 ∃r,EvS E Yf.y 205 [.ptr (2*uG+1) uG 0,.int .i64 (a:Int),.int .i64 (b:Int)] ob tk ro base ub r∧GPut lo ob ub uG ut uf tu fu (fun i=>if i=a then WT a ||| 1 <<< b else WT i) (fun i=>if i=b then WF b ||| 1 <<< a else WF i) (T.length+1) r:=by
 have hp:(2:Nat) ^ n≤2 ^ 64:=Nat.pow_le_pow_right zD h9
 have w1:WT a<2 ^ 64:=Nat.lt_of_lt_of_le (U a S) hp
 have w2:WF b<2 ^ 64:=Nat.lt_of_lt_of_le (a0 b Z) hp
 have b5:=g.o
 have c1:=g.rG
 have nG:∀m,ub≤m→¬ uG=m:=fun m H=>by omega
 refine Jn (af:=S205) rfl zD ?_
 show wpC E Yf S205.body _ (XT S205.res _)
 simp(disch:=first|(simp;done)|omega) [S205]
 refine jh (vs:=[.ptr (2*uG+1) uG 0]) zS rfl rfl (jt6 (g.keep (fun x _ _=>by simp) zR) zO _ _) ?_
 simp
 refine jh (vs:=[.ptr (2*uG+1) uG 0,.int .i64 a]) zS rfl rfl (jn6 (g.keep (fun x _ _=>by simp) zR) zO _ _ _) ?_
 simp(disch:=first|(simp;done)|omega) [M,S]
 refine jh (vs:=[.ptr (2*uG+1) uG 0,.int .i64 b]) zS rfl rfl (jn6 (g.keep (fun x _ _=>by simp) zR) zO _ _ _) ?_
 simp(disch:=first|(simp;done)|omega) [M,Z]
 refine jh (vs:=[.ptr (2*uG+1) uG 0,.int .i64 a,.int .i64 b]) zS rfl rfl (evo249 (g.keep (fun x _ _=>by simp) zR) zO zO zO w1 _ _) ?_
 cases hh:(WT a).testBit b
 ·have s:a<tu.length:=zO
  have v:b<fu.length:=zO
  have b6:=g.t ut rfl
  have nt:∀m,ub≤m→¬ ut=m:=fun m H=>by have:=g.rL ut (.inl rfl);omega
  have Q:=ju1 (l:=2*ut+1) (u:=ut) (kk:=.i64) s
  have e2:=ji9 s
  have e3:=ju1 (l:=2*uf+1) (u:=uf) (kk:=.i64) v
  have e4:=ji9 v
  rw[M]at Q
  rw[hf]at e3
  have b7:=g.rS tu[a] (.inl (List.getElem_mem s))
  have X:=g.rS fu[b] (.inr (List.getElem_mem v))
  have hs:=g.st a s
  simp(disch:=first|(simp;done)|omega) [objCells,b5,slU,b6,M,Q,e2]
  refine jU (vs:=[.ptr (2*tu[a]+1) tu[a] 0,.int .i64 b]) zS rfl (sv81 (w:=WT a) (by simpa using hs) (Off.new zL) (by simp;omega) zO w1) ?_
  rintro v1 O c5 j ⟨_,B,J⟩
  simp only at B J
  have q1:ub≤j:=by first|omega|(simp at J;omega)
  have q:Gr lo j uG (some ut) (some uf) ue tu fu (fun i=>if i=a then WT a ||| 1 <<< b else WT i) WF T O:=by
   refine g.putT s ?_ (fun x h1 h2 h3=>?_) q1
   ·have:=B (2*tu[a]+1) (Off.new zL)
    rwa [if_pos rfl]at this
   ·have:=B (2*x+1) (Off.new zL)
    rw[if_neg zO]at this
    simpa using this
  have c0:∀c,Off lo c→O c=ob c:=fun c h=>by
   have:=B c (h.up zL)
   rw[if_neg (h tu[a] b7.1)]at this
   simpa using this
  clear B J
  have F:=q.o
  have D:=q.f uf rfl
  have c3:∀m,j≤m→¬ uG=m:=fun m H=>by omega
  have c4:∀m,j≤m→¬ uf=m:=fun m H=>by have:=g.rL uf (.inr (.inl rfl));omega
  have K:=q.sf b v
  simp(disch:=first|(simp;done)|omega) [objCells,F,slU,D,hf,e3,e4]
  refine jU (vs:=[.ptr (2*fu[b]+1) fu[b] 0,.int .i64 a]) zS rfl (sv81 (w:=WF b) (by simpa using K) (Off.new zL) (by simp;omega) zO w2) ?_
  rintro v2 N c6 d ⟨_,B,J⟩
  simp only at B J
  have q2:j≤d:=by first|omega|(simp at J;omega)
  have I:Gr lo d uG (some ut) (some uf) ue tu fu (fun i=>if i=a then WT a ||| 1 <<< b else WT i) (fun i=>if i=b then WF b ||| 1 <<< a else WF i) T N:=by
   refine q.putF v ?_ (fun x h1 h2 h3=>?_) q2
   ·have:=B (2*fu[b]+1) (Off.new zL)
    rwa [if_pos rfl]at this
   ·have:=B (2*x+1) (Off.new zL)
    rw[if_neg zO]at this
    simpa using this
  have b0:∀c,Off lo c→N c=ob c:=fun c h=>by
   have:=B c (h.up zL)
   rw[if_neg (h fu[b] X.1)]at this
   rw[← c0 c h]
   simpa using this
  clear B J F D q K
  have G:=I.o
  have b8:∀m,d≤m→¬ uG=m:=fun m H=>by omega
  simp(disch:=first|(simp;done)|omega) [objCells,G,j2]
  refine jo (cs:=[.int .i64 (a:Int),.int .i64 (b:Int)]) (by simp[j2]) rfl rfl ?_
  simp
  refine jly (ue:=ue) (T:=T) (p:=((a:Int),(b:Int))) zS (fun u P=>?_) g.z.2.2 (by simp[slCells,objCells,edC]) zO ?_
  ·have:=g.rL u (.inr (.inr P))
   have nu:∀m,d≤m→¬ u=m:=fun m H=>by omega
   refine⟨?_,by simp;omega⟩
   simp(disch:=first|(simp;done)|omega) [two_inj,nu,I.e u P]
  have k1:=jjy (ue:=ue) g.nG.2.2
  simp(disch:=first|(simp;done)|omega) [jD,objCells,G,two_inj,b8,j2,k1]
  have L:∀m,d≤m→¬ m=uG:=fun m H=>by omega
  refine⟨zO,jgp zS ⟨true,some (d+576),T++[((a:Int),(b:Int))],zS,I.edge (x:=d+576) (p:=((a:Int),(b:Int))) ?_ ?_ (fun y h1 h2 h3 h4=>?_) zO zL,zS,zL,fun c h=>?_⟩⟩
  ·simp(disch:=first|(simp;done)|omega) [slU,Nat.add_assoc,M,hf]
  ·simp(disch:=first|(simp;done)|omega) [jD,two_inj,L,Nat.add_assoc,slU]
  ·have ny:∀m,d≤m→¬ y=m:=fun m H=>by omega
   have k2:=jjy h4
   simp(disch:=first|(simp;done)|omega) [jD,two_inj,ny,k2,h3]
  ·have k2:=js3 (ue:=ue) (l:=lo) (fun u P=>(g.rL u (.inr (.inr P))).1) h
   have q3:=(h.up (show lo≤d by omega)).ne
   have q4:¬ c=2*uG+1:=h uG c1.1
   simp(disch:=first|(simp;done)|omega) [jD,k2,q3,q4]
   exact b0 c h
 ·simp
  have b9:(WF b).testBit a=true:=by rw[← hd a b S Z];exact hh
  have Q:(fun i=>if i=a then WT a ||| 1 <<< b else WT i)=WT:=funext fun i=>by
   split
   ·rename_i e;rw[e,jzm hh]
   ·rfl
  have e2:(fun i=>if i=b then WF b ||| 1 <<< a else WF i)=WF:=funext fun i=>by
   split
   ·rename_i e;rw[e,jzm b9]
   ·rfl
  rw[Q,e2]
  exact jgp zS ⟨false,ue,T,zS,g.keep (fun x _ _=>by simp) zL,zO,zL,fun c h=>by simp⟩
end
def rowW (L:List P2) (a:Nat):Nat:=L.foldl (fun w z=>if z.1=(a:Int) then w ||| 1 <<< z.2.toNat else w) 0
def colW (L:List P2) (b:Nat):Nat:=L.foldl (fun w z=>if z.2=(b:Int) then w ||| 1 <<< z.1.toNat else w) 0
theorem ji2 (L:List P2) (z:P2) (a:Nat):rowW (L++[z]) a=if z.1=(a:Int) then rowW L a ||| 1 <<< z.2.toNat else rowW L a:=by simp[rowW]
theorem jke (L:List P2) (z:P2) (b:Nat):colW (L++[z]) b=if z.2=(b:Int) then colW L b ||| 1 <<< z.1.toNat else colW L b:=by simp[colW]
def InG (n:Nat) (L:List P2):Prop:=∀z∈L,∃a b:Nat,z=((a:Int),(b:Int))∧a<n∧b<n
theorem jdh {n:Nat}(p:List P2→Nat→Nat) (i:∀a,p [] a=0) (q:P2→Int × Int) (g:∀L z a,p (L++[z]) a=if (q z).1=(a:Int) then p L a ||| 1 <<< (q z).2.toNat else p L a) (L:List P2) (l:∀z∈L,0≤(q z).2∧(q z).2<n) :
 ∀k,k≤L.length→∀a,p (L.take k) a<2 ^ n∧∀b,(p (L.take k) a).testBit b=(L.take k).any fun z=>decide ((q z).1=(a:Int)∧(q z).2=(b:Int))
 | 0,_,a=>by
  rw[List.take_zero,i]
  exact⟨Nat.two_pow_pos n,fun b=>by simp⟩
 | k+1,hk,a=>by
  obtain⟨f,j⟩:=jdh p i q g L l k zO a
  have o:L[k]∈L:=List.getElem_mem zO
  obtain⟨m,r⟩:=l _ o
  rw[List.take_succ_eq_append_getElem zO,g]
  obtain⟨c,h⟩:=Int.eq_ofNat_of_zero_le m
  have d:c<n:=zO
  by_cases e:(q L[k]).1=(a:Int)
  ·rw[if_pos e,h]
   refine⟨Nat.or_lt_two_pow f (by rw[Int.toNat_natCast,Nat.one_shiftLeft];exact Nat.pow_lt_pow_right zD d),fun b=>?_⟩
   rw[Nat.testBit_or,j,List.any_append,Int.toNat_natCast,Nat.one_shiftLeft,Nat.testBit_two_pow]
   simp[e,h,Int.ofNat_inj]
  ·rw[if_neg e]
   refine⟨f,fun b=>?_⟩
   rw[j,List.any_append]
   simp[e]
theorem Yz {n:Nat}{L:List P2}(h:InG n L) (a:Nat):rowW L a<2 ^ n∧∀b:Nat,(rowW L a).testBit b=L.contains ((a:Int),(b:Int)):=by
 have:=jdh (n:=n) rowW (fun _=>rfl) (fun z=>(z.1,z.2)) ji2 L (fun z e=>by obtain⟨c,d,rfl,_,f⟩:=h z e;simp;omega) L.length zR a
 rw[List.take_length]at this
 refine⟨this.1,fun b=>?_⟩
 rw[this.2,Bool.eq_iff_iff]
 simp[List.any_eq_true]
theorem jkd {n:Nat}{L:List P2}(h:InG n L) (b:Nat):colW L b<2 ^ n∧∀a:Nat,(colW L b).testBit a=L.contains ((a:Int),(b:Int)):=by
 have:=jdh (n:=n) colW (fun _=>rfl) (fun z=>(z.2,z.1)) jke L (fun z e=>by obtain⟨c,d,rfl,f,_⟩:=h z e;simp;omega) L.length zR b
 rw[List.take_length]at this
 refine⟨this.1,fun a=>?_⟩
 rw[this.2,Bool.eq_iff_iff]
 simp only[List.any_eq_true,decide_eq_true_eq,List.contains_iff_mem]
 constructor
 ·rintro⟨z,e,g,f⟩
  obtain⟨x,y⟩:=z
  simp only at g f
  subst g f
  exact e
 ·exact fun i=>⟨_,i,rfl,rfl⟩
theorem InG.take {n:Nat}{L:List P2}(h:InG n L) (k:Nat):InG n (L.take k):=fun z a=>h z (List.mem_of_mem_take a)
def EdA (lo:Nat) (ob:ZO) (v:V) (L:List P2):Prop :=
 (∃t nl,v=.sl t nl L.length (L.flatMap edC))∨∃k u,v=.osl k u 0 L.length 2∧ob k=some ⟨u,.cells (L.flatMap edC)⟩∧Off lo k
theorem EdA.len {lo:Nat}{ob:ZO}{v:V}{L:List P2}(h:EdA lo ob v L):Qa v=some (.int .i64 (L.length:Nat)):=by
 rcases h with⟨t,a,rfl⟩|⟨k,u,rfl,_⟩ <;> rfl
theorem EdA.at {lo:Nat}{ob:ZO}{v:V}{L:List P2}(h:EdA lo ob v L) {i:Nat}(hi:i<L.length) :
 ∃p,JP 2 v (.int .i64 (i:Int))=some p∧∀a:ZO,(∀b,Off lo b→a b=ob b)→Ws a (some 2) p=some (.agg [.int .i64 L[i].1,.int .i64 L[i].2]):=by
 have f:=XP JO L i hi
 have e:i*2+2≤(L.flatMap edC).length:=by rw[j4 JO];omega
 have c:Xb (some 2) (L.flatMap edC) (i*2)=some (.agg [.int .i64 L[i].1,.int .i64 L[i].2]):=by
  simp only[Xb]
  rw[if_pos e,f]
  rfl
 rcases h with⟨t,l,rfl⟩|⟨k,u,rfl,d,j⟩
 ·refine⟨_,JY JO t l L .i64 hi,fun a _=>?_⟩
  simpa[Ws] using c
 ·refine⟨_,idx0 hi,fun a g=>?_⟩
  have:objCells a k u=some (L.flatMap edC):=by simp[objCells,g k j,d]
  simp only[Ws,this,Option.bind_some]
  exact c
theorem EdA.up {lo lo':Nat}{ob ob':ZO}{v:V}{L:List P2}(h:EdA lo ob v L) (e:∀a,Off lo a→ob' a=ob a) (d:lo≤lo'):EdA lo' ob' v L:=by
 rcases h with h|⟨k,u,c,f,b⟩
 ·exact .inl h
 ·exact .inr ⟨k,u,c,(e k b).trans f,b.up d⟩
section
variable {ub n:Nat}{ob:ZO}{L:List P2}{v:V}
theorem dual_W (h:InG n L):Dual n (rowW L) (colW L):=fun a b _ _=>by rw[(Yz h a).2,(jkd h b).2]
theorem jrf:rowW []=fun _=>0:=rfl
theorem jug:colW []=fun _=>0:=rfl
theorem j48 {Yf:YF}{tk:Nat→Bool}{ro base:Nat}(b7:ro≤ub) (h1:0<n) (h9:n≤9) (hv:EdA ub ob v L) (N:InG n L) (hl:L.length≤10000) :
 ∃r,EvS E Yf.y 144 [.int .i64 (n:Int),v] ob tk ro base ub r∧PgR ob ub n (rowW L) (colW L) L.length r:=by
 have K:=hv.len
 refine Jn (af:=S144) rfl zD ?_
 show wpC E Yf S144.body _ (XT S144.res _)
 simp(disch:=first|(simp;done)|omega) [S144]
 refine jU (vs:=[.int .i64 n]) zS rfl (sv204 (by simp;omega) h1 h9) ?_
 rintro v1 a0 c0 D ⟨uG,ut,uf,S,tu,fu,T0,rfl,z,ht,hf,O,q1,B⟩
 simp only at z q1 B
 simp(disch:=first|(simp;done)|omega) [K]
 refine jY fun l g=>?_
 have b8:ub≤D:=by first|omega|(simp at q1;omega)
 have g6:l.tm 6=.ptr (2*uG+1) uG 0:=by rw[g];simp
 have g7:l.tm 7=.int .i64 0:=by rw[g];simp
 have b5:l.tm 20=v:=by rw[g];simp
 have b0:l.tm 21=.int .i64 L.length:=by rw[g];simp
 have H:l.tm 22=.int .i64 0:=by rw[g];simp
 have gd:l.df=[]:=by rw[g];simp
 have gr:l.ro=ro:=by rw[g];simp
 have gn:D≤l.nx:=by rw[g];first|omega|(simp;done)|(simp;omega)
 have go:l.ob=a0:=by rw[g];simp
 clear g
 obtain⟨J,Z⟩:∃J:Nat→St→Prop,J=fun i s=>s.tm 22=.int .i64 i∧(∃ue T,Gr ub s.nx uG (some ut) (some uf) ue tu fu (rowW (L.take i)) (colW (L.take i)) T s.ob∧T.length≤i)∧ub≤s.nx∧∀c,Off ub c→s.ob c=ob c:=⟨_,rfl⟩
 have o:=z.wide (lo':=ub) zL
 refine j8 [(4,5),(9,11),(22,38)] L.length J rfl rfl ?_ ?_
 ·rw[Z]
  refine⟨by simpa using H,⟨S,T0,?_,O⟩,zO,fun c k=>?_⟩
  ·rw[List.take_zero,jrf,jug,go]
   exact o.keep (fun _ _ _=>rfl) zO
  ·rw[go]
   have:=B c (k.up zL)
   simpa using this
 clear H go gn z o B
 intro i s hi G f
 rw[Z]at G
 obtain⟨u,⟨ue,T,X,hT⟩,sn,so⟩:=G
 have s6:s.tm 6=.ptr (2*uG+1) uG 0:=by rw[f.t 6 zS,g6]
 have s7:s.tm 7=.int .i64 0:=by rw[f.t 7 zS,g7]
 have Q:s.tm 20=v:=by rw[f.t 20 zS,b5]
 have M:s.tm 21=.int .i64 L.length:=by rw[f.t 21 zS,b0]
 have sd:s.df=[]:=by rw[f.d,gd]
 have sr:s.ro=ro:=by rw[f.r,gr]
 clear f
 by_cases h:i<L.length
 ·have P:=jb h zO
  obtain⟨p,U,I⟩:=hv.at h
  obtain⟨a,b,hz,ha,hb⟩:=N _ (List.getElem_mem h)
  have F:L.take (i+1)=L.take i++[((a:Int),(b:Int))]:=by rw[List.take_succ_eq_append_getElem h,hz]
  rw[hz]at I
  simp(disch:=first|(simp;done)|omega) [u,M,Q,h,U]
  rw[I _ fun c k=>by simpa using so c k]
  simp(disch:=first|(simp;done)|omega) [s6,objCells,j2]
  refine⟨by simp[sr];omega,?_⟩
  refine jU (vs:=[.ptr (2*uG+1) uG 0,.int .i64 a,.int .i64 b]) zS rfl (sv205 (n:=n) (lo:=ub) (X.keep (fun x _ _=>?_) ?_) ?_ ht hf zO ha hb (fun i _=>(Yz (N.take _) i).1) (fun i _=>(jkd (N.take _) i).1) (dual_W (N.take _)) zO) ?_
  ·have:∀m,s.nx≤m→¬ x=m:=fun m hm=>by omega
   simp(disch:=first|(simp;done)|omega) [two_inj,this]
  ·show _≤_
   first|omega|(simp;omega)
  ·first|omega|(simp[sr];omega)
  rintro v2 c1 c2 c3 ⟨bb,b6,T2,rfl,q,b9,q2,w⟩
  simp only at q q2 w
  simp(disch:=first|(simp;done)|omega) [u,P,h]
  rw[Z]
  refine⟨zS,⟨b6,T2,?_,zO⟩,zL,fun c k=>?_⟩
  ·have e1:(fun j=>if j=a then rowW (L.take i) a ||| 1 <<< b else rowW (L.take i) j)=rowW (L.take (i+1)):=funext fun x=>by
    rw[F,ji2]
    by_cases e:x=a
    ·subst e;simp
    ·rw[if_neg e,if_neg (by simp only;omega)]
   have e2:(fun j=>if j=b then colW (L.take i) b ||| 1 <<< a else colW (L.take i) j)=colW (L.take (i+1)):=funext fun x=>by
    rw[F,jke]
    by_cases e:x=b
    ·subst e;simp
    ·rw[if_neg e,if_neg (by simp only;omega)]
   rw[e1,e2]at q
   exact q.keep (fun x _ _=>by simp) zL
  ·have:=w c k
   have hn:=k.up (show ub≤s.nx by omega)
   have:=hn.ne
   simp
   rw[w c k]
   simp(disch:=first|(simp;done)|omega) [this]
   exact so c k
 ·have:i=L.length:=zO
  subst this
  rw[List.take_length]at X
  simp(disch:=first|(simp;done)|omega) [u,M,s6,s7]
  exact jgp (by simp[sd]) ⟨uG,ut,uf,ue,tu,fu,T,zS,X.keep (fun x _ _=>by simp) zL,ht,hf,hT,zL,fun c k=>by simpa using so c k⟩
end
section
variable {lo hi uG:Nat}{ut uf:Nat}{ue:Option Nat}{tu fu:List Nat}{WT WF:Nat→Nat}{T:List P2}{ob:ZO}{ub:Nat}
theorem evo208 (b:Gr lo hi uG (some ut) (some uf) ue tu fu WT WF T ob) (c:hi≤ub) (tk:Nat→Bool) (base:Nat):EvO E 208 [.ptr (2*uG+1) uG 0] ob tk base ub (.int .i64 tu.length):=by
 have a:=b.o
 have d:∀m,ub≤m→¬ uG=m:=fun m e=>by have:=b.rG;omega
 refine Jz (af:=S208) rfl ?_
 simp(disch:=first|(simp;done)|omega) [S208]
 refine jh (vs:=[.ptr (2*uG+1) uG 0]) zS rfl rfl (jt6 (b.keep (fun x _ _=>by simp) c) zO _ _) ?_
 simp(disch:=first|(simp;done)|omega) [objCells,a,slU]
 exact j1 zS zS rfl
theorem evo146 (b:Gr lo hi uG (some ut) (some uf) ue tu fu WT WF T ob) (p:hi≤ub) {a:Nat}(c:a<tu.length) (y:WT a<512) (tk:Nat→Bool) (base:Nat):∃v,EvO E 146 [.ptr (2*uG+1) uG 0,.int .i64 (a:Int)] ob tk base ub v∧j0i (ints (jd (WT a))) v:=by
 have e:=b.o
 have f:=b.t ut rfl
 have B:∀m,ub≤m→¬ uG=m:=fun m q=>by have:=b.rG;omega
 have D:∀m,ub≤m→¬ ut=m:=fun m q=>by have:=b.rL ut (.inl rfl);omega
 have i:=b.st a c
 have z:=b.rS tu[a] (.inl (List.getElem_mem c))
 have s:=ju1 (l:=2*ut+1) (u:=ut) (kk:=.i64) c
 have j:=ji9 c
 refine jb6 (af:=S146) rfl zD ?_
 simp(disch:=first|(simp;done)|omega) [S146]
 refine jh (vs:=[.ptr (2*uG+1) uG 0,.int .i64 a]) zS rfl rfl (jn6 (b.keep (fun x _ _=>by simp) p) zO _ _ _) ?_
 simp(disch:=first|(simp;done)|omega) [objCells,e,slU,c,f,s,j]
 obtain⟨nl,d⟩:=QE (ints (jd (WT a)))
 refine jh (vs:=[.ptr (2*tu[a]+1) tu[a] 0]) zS rfl rfl (jt7 (w:=WT a) (by simpa using i) (Off.new zO) y _ _) ?_
 refine XZ d fun g add=>?_
 simp
 exact slE (t:=g) (nl:=nl) (k:=(ints (jd (WT a))).length) (cs:=(ints (jd (WT a))).flatMap intC) (fun r h=>⟨nl,h⟩) zS zS
end
def orL (L:List Nat):Nat:=L.foldl (fun w b=>w ||| 1 <<< b) 0
theorem jhg (L:List Nat) (b:Nat):orL (L++[b])=orL L ||| 1 <<< b:=by simp[orL]
theorem jnb (L:List Nat):∀k,k≤L.length→∀i,(orL (L.take k)).testBit i=decide (i∈L.take k)
 | 0,_,i=>by simp[orL]
 | k+1,h,i=>by
  have a:=jnb L k zO i
  rw[List.take_succ_eq_append_getElem zO,jhg,Nat.testBit_or,a,Nat.one_shiftLeft,Nat.testBit_two_pow,Bool.eq_iff_iff]
  simp only[Bool.or_eq_true,decide_eq_true_eq,List.mem_append,List.mem_singleton]
  exact or_congr Iff.rfl eq_comm
theorem jwk {w:Nat}(h:w<512):orL (jd w)=w:=by
 refine Nat.eq_of_testBit_eq fun i=>?_
 have:=jnb (jd w) (jd w).length zR i
 rw[List.take_length]at this
 rw[this,Bool.eq_iff_iff,decide_eq_true_eq,bitsUp_mem]
 constructor
 ·exact fun h=>h.2
 ·intro a
  refine⟨?_,a⟩
  rcases Nat.lt_or_ge i 9 with h1|h1
  ·exact h1
  ·have:w.testBit i=false:=Nat.testBit_lt_two_pow (Nat.lt_of_lt_of_le h (Nat.pow_le_pow_right zD h1:2 ^ 9≤2 ^ i))
   rw[this]at a
   cases a
theorem j52 {L:List Nat}(h:∀b∈L,b<64) (k:Nat) (c:k≤L.length):orL (L.take k)<2 ^ 64:=by
 induction k with
 | zero=>simp[orL]
 | succ k a=>
  rw[List.take_succ_eq_append_getElem zO,jhg]
  exact or_lt (a zO) (h _ (List.getElem_mem _))
section
variable {ob:ZO}{ub:Nat}
def SetR (ob:ZO) (ub w:Nat) (r:V × (ZO) × (Nat→Bool) × Nat):Prop :=
 ∃m,ub≤m∧m<r.2.2.2∧r.1=.ptr (2*m+1) m 0∧r.2.1 (2*m+1)=some ⟨m,.cells (setC w)⟩∧∀key,Off ub key→r.2.1 key=ob key
theorem sv78l {Yf:YF}{tk:Nat→Bool}{ro base:Nat}{t:Option (Nat × Nat)}{nl:Bool}{L:List Nat}(X:ro≤ub) (I:∀b∈L,b<64) (hl:L.length≤100000):∃r,EvS E Yf.y 78 [.sl t nl L.length ((ints L).flatMap intC)] ob tk ro base ub r∧SetR ob ub (orL L) r:=by
 refine Jn (af:=S78) rfl zD ?_
 show wpC E Yf S78.body _ (XT S78.res _)
 simp[S78,V.cells]
 refine jY fun g c=>?_
 obtain⟨m,N,M,g3,Q⟩:∃u,ub≤u∧u<g.nx∧g.tm 3=.ptr (2*u+1) u 0∧g.ob (2*u+1)=some ⟨u,.cells (setC 0)⟩:=⟨ub+128,zO,by rw[c];first|omega|(simp;done)|(simp;omega),by rw[c];simp[Nat.add_assoc],by rw[c];simp[Nat.add_assoc,setC]⟩
 have T:g.tm 8=.sl t nl L.length ((ints L).flatMap intC):=by rw[c];simp
 have g9:g.tm 9=.int .i64 L.length:=by rw[c];simp
 have n:g.tm 10=.int .i64 0:=by rw[c];simp
 have gd:g.df=[]:=by rw[c];simp
 have Z:g.ro=ro:=by rw[c];simp
 have go:∀a,Off ub a→g.ob a=ob a:=fun a h=>by
  have:=h.ne
  rw[c]
  simp(disch:=first|(simp;done)|omega) [this]
 clear c
 obtain⟨J,q⟩:∃J:Nat→St→Prop,J=fun i s=>s.tm 10=.int .i64 i∧m<s.nx∧s.ob (2*m+1)=some ⟨m,.cells (setC (orL (L.take i)))⟩∧∀a,Off ub a→s.ob a=ob a:=⟨_,rfl⟩
 refine j8 [(5,5),(10,17)] L.length J rfl rfl ?_ ?_
 ·rw[q]
  exact⟨by simpa using n,M,by simpa[orL] using Q,go⟩
 clear n go Q M
 intro i s hi l f
 rw[q]at l
 obtain⟨j,sm,D,O⟩:=l
 have H:s.tm 3=.ptr (2*m+1) m 0:=by rw[f.t 3 zS,g3]
 have s8:s.tm 8=.sl t nl L.length ((ints L).flatMap intC):=by rw[f.t 8 zS,T]
 have K:s.tm 9=.int .i64 L.length:=by rw[f.t 9 zS,g9]
 have U:s.df=[]:=by rw[f.d,gd]
 have sr:s.ro=ro:=by rw[f.r,Z]
 clear f
 by_cases e:i<L.length
 ·have z:=jb e zO
  have o:i<(ints L).length:=by simpa[ints] using e
  have G:JP 1 (.sl t nl L.length ((ints L).flatMap intC)) (.int .i64 (i:Int))=some (.eptr ((ints L).flatMap intC) (i*1)):=by
   have:=JY jC t nl (ints L) .i64 o
   rwa [show(ints L).length=L.length by simp[ints]]at this
  have p:=JX (ints L) o
  have B:(ints L)[i]=((L[i]:Nat):Int):=by simp[ints]
  rw[B]at p
  have hb:=I _ (List.getElem_mem e)
  have x:orL (L.take (i+1))=orL (L.take i) ||| 1 <<< L[i]:=by rw[List.take_succ_eq_append_getElem e,jhg]
  have nm:∀k,s.nx≤k→¬ m=k:=fun k h=>by omega
  simp(disch:=first|(simp;done)|omega) [j,K,s8,H,e,G,p]
  refine jU (vs:=[.ptr (2*m+1) m 0,.int .i64 (L[i]:Nat)]) zS rfl (sv81 (w:=orL (L.take i)) (by simpa using D) (Off.new zL) (by simp[sr];omega) hb (j52 I i zO)) ?_
  rintro v1 a0 S v ⟨_,F,P⟩
  simp only at F P
  have b0:s.nx≤v:=by first|omega|(simp at P;omega)
  simp(disch:=first|(simp;done)|omega) [j,z,e]
  rw[q]
  refine⟨zS,zL,?_,fun a h=>?_⟩
  ·have:=F (2*m+1) (Off.new zL)
   rw[if_pos rfl]at this
   simpa[x] using this
  ·have:=F a (h.up zL)
   rw[if_neg (h m N)]at this
   simpa[O a h] using this
 ·have:i=L.length:=zO
  subst this
  rw[List.take_length]at D
  simp(disch:=first|(simp;done)|omega) [j,K,H]
  exact Yi (by simp[U]) ⟨m,N,zL,zS,by simpa using D,fun a h=>by simpa using O a h⟩
theorem j3o (v w:Nat):jj [.int,.int,.int,.int,.int,.int,.int,.int] (setC v) (setC w)=some (v == w):=by
 simp only[jj,setC,YT,if_true,Option.bind_some,Option.map_some,beq_self_eq_true,Bool.and_true]
 congr 1
 rw[Bool.eq_iff_iff]
 simp only[beq_iff_eq,Int.ofNat_inj]
theorem jox {X x i:Nat}(h:i<8) (a:i≠0→x=0):j2 (setC X) i [.int .u64 (x:Int)]=setC (if i=0 then x else X):=by
 match i,h with
 | 0,_=>rfl
 | 1,_|2,_|3,_|4,_|5,_|6,_|7,_=>rw[a zD];rfl
theorem sv276 {Yf:YF}{tk:Nat→Bool}{ro base a b v w:Nat}(T:ob (2*a+1)=some ⟨a,.cells (setC v)⟩) (hb:ob (2*b+1)=some ⟨b,.cells (setC w)⟩) (la:a<ub) (lb:b<ub) (a0:ro≤a) (hv:v<2 ^ 64) (hw:w<2 ^ 64) :
 ∃r,EvS E Yf.y 276 [.ptr (2*a+1) a 0,.ptr (2*b+1) b 0] ob tk ro base ub r∧(ub≤r.2.2.2∧∀c,Off ub c→r.2.1 c=if c=2*a+1 then some ⟨a,.cells (setC (v ||| w))⟩ else ob c):=by
 refine Jn (af:=S276) rfl zD ?_
 show wpC E Yf S276.body _ (XT S276.res _)
 have l:∀v,(setC v).length=8:=fun _=>rfl
 have B:∀v,(setC v).take 8=setC v:=fun _=>rfl
 have na:∀m,ub≤m→¬ a=m:=fun m M=>by omega
 have nb:∀m,ub≤m→¬ b=m:=fun m M=>by omega
 simp(disch:=first|(simp;done)|omega) [S276,objCells,T,hb,l,two_inj,nb,B]
 refine⟨zO,by simp[setC,V.leaf],?_⟩
 refine jY fun j g=>?_
 obtain⟨o,u1,u2,g5,U⟩:∃u,ub≤u∧u<j.nx∧j.tm 5=.ptr (2*u+1) u 0∧j.ob (2*u+1)=some ⟨u,.cells (setC v)⟩:=⟨ub+704,zO,by rw[g];first|omega|(simp;done)|(simp;omega),by rw[g];simp[Nat.add_assoc],by rw[g];simp[Nat.add_assoc,j2,l]⟩
 have g0:j.tm 0=.ptr (2*a+1) a 0:=by rw[g];simp
 have P:j.tm 21=.agg (setC w):=by rw[g];simp
 have q:j.tm 22=.int .i64 0:=by rw[g];simp
 have gd:j.df=[]:=by rw[g];simp
 have gr:j.ro=ro:=by rw[g];simp
 have go:∀c,Off ub c→j.ob c=ob c:=fun c n=>by
  have:=n.ne
  rw[g]
  simp(disch:=first|(simp;done)|omega) [this]
 clear g
 obtain⟨J,K⟩:∃J:Nat→St→Prop,J=fun i s=>s.tm 22=.int .i64 i∧o<s.nx∧s.ob (2*o+1)=some ⟨o,.cells (setC v)⟩∧∀c,Off ub c→s.ob c=if c=2*a+1 then some ⟨a,.cells (setC (if i=0 then v else v ||| w))⟩ else ob c:=⟨_,rfl⟩
 refine j8 [(6,7),(22,37)] 8 J rfl rfl ?_ ?_
 ·rw[K]
  refine⟨by simpa using q,u2,U,fun c n=>?_⟩
  rw[go c n]
  by_cases e:c=2*a+1
  ·rw[if_pos e,e,T];rfl
  ·rw[if_neg e]
 clear q go U u2
 intro i s hi p f
 rw[K]at p
 obtain⟨z,sm,Z,N⟩:=p
 have s0:s.tm 0=.ptr (2*a+1) a 0:=by rw[f.t 0 zS,g0]
 have s5:s.tm 5=.ptr (2*o+1) o 0:=by rw[f.t 5 zS,g5]
 have Q:s.tm 21=.agg (setC w):=by rw[f.t 21 zS,P]
 have sd:s.df=[]:=by rw[f.d,gd]
 have sr:s.ro=ro:=by rw[f.r,gr]
 clear f
 have I:=N (2*a+1) (Off.new la)
 rw[if_pos rfl]at I
 have nw:∀m,s.nx≤m→¬ o=m:=fun m M=>by omega
 have b0:∀m,s.nx≤m→¬ a=m:=fun m M=>by omega
 by_cases h:i<8
 ·have L:=jb h zD
  have O:(i:Int)<8:=zO
  have F:Qs none 8 1 (.agg (setC w)) (.int .i64 (i:Int))=some (.int .u64 (if i=0 then w else 0:Nat)):=by
   have:=jk6 (w:=w) h
   simp[Qs,O,Xb,this]
  have S:Yr 8 1 (.ptr (2*a+1) a 0) (.int .i64 (i:Int))=some (.ptr (2*a+1) a i):=by simp[Yr,O]
  obtain⟨X,H⟩:∃X,X=if i=0 then v else v ||| w:=⟨_,rfl⟩
  rw[← H]at I
  have x:=jk6 (w:=X) h
  have k:Y8 .or (.int .u64 ((if i=0 then X else 0:Nat):Int)) (.int .u64 ((if i=0 then w else 0:Nat):Int))=some (.int .u64 ((if i=0 then v ||| w else 0:Nat):Int)):=by
   by_cases e:i=0
   ·rw[if_pos e]at H
    rw[if_pos e,if_pos e,if_pos e,H]
    exact jik hv hw
   ·rw[if_neg e,if_neg e,if_neg e]
    exact jik zD zD
  generalize b5:(if i=0 then w else 0:Nat)=x0 at F k
  generalize b6:(if i=0 then X else 0:Nat)=x1 at x k
  generalize D:(if i=0 then v ||| w else 0:Nat)=x2 at k
  simp(disch:=first|(simp;done)|omega) [z,Q,s0,O,F,S,objCells,I,x,k,l]
  refine⟨zO,?_⟩
  simp(disch:=first|(simp;done)|omega) [L]
  rw[K]
  have G:j2 (setC X) i [.int .u64 (x2:Int)]=setC (v ||| w):=by
   rw[jox h fun e=>by rw[← D,if_neg e],← D,H]
   by_cases e:i=0
   ·rw[if_pos e,if_pos e]
   ·rw[if_neg e,if_neg e]
  refine⟨zO,h,zS,zL,?_,fun c n=>?_⟩
  ·simp(disch:=first|(simp;done)|omega) [two_inj,show ¬ o=a by omega,Z]
  ·by_cases e:c=2*a+1
   ·simp[e,G]
   ·have:=N c n
    rw[if_neg e]at this
    simp[e,this]
 ·have:i=8:=zO
  subst this
  simp(disch:=first|(simp;done)|omega) [z,s0,s5,objCells,I,Z,l,B,j3o]
  exact Yi (by simp[sd]) ⟨zL,fun c n=>by simpa using N c n⟩
end
structure Rs (lo hi uL:Nat) (lu:List Nat) (m:Nat) (W:Nat→Nat) (ob:ZO):Prop where
 o:ob (2*uL+1)=some ⟨uL,.cells (lu.flatMap ptC++List.replicate m .nilptr)⟩
 s:∀i (h:i<lu.length),ob (2*lu[i]+1)=some ⟨lu[i],.cells (setC (W i))⟩
 n:lu.Nodup
 x:uL ∉ lu
 r:lo≤uL∧uL<hi
 rs:∀x∈lu,lo≤x∧x<hi
section
variable {lo hi hi' uL m:Nat}{lu:List Nat}{W:Nat→Nat}{ob ob':ZO}
theorem Rs.keep (h:Rs lo hi uL lu m W ob) (a:∀x,lo≤x→x<hi→ob' (2*x+1)=ob (2*x+1)) (b:hi≤hi'):Rs lo hi' uL lu m W ob' :=
 ⟨(a uL h.r.1 h.r.2).trans h.o,fun i hi=>(a _ (h.rs _ (List.getElem_mem hi)).1 (h.rs _ (List.getElem_mem hi)).2).trans (h.s i hi),h.n,h.x,⟨h.r.1,Nat.lt_of_lt_of_le h.r.2 b⟩,fun x c=>⟨(h.rs x c).1,Nat.lt_of_lt_of_le (h.rs x c).2 b⟩⟩
theorem Rs.congr (h:Rs lo hi uL lu m W ob) {a:Nat→Nat}(b:∀i,i<lu.length→a i=W i):Rs lo hi uL lu m a ob:=⟨h.o,fun i hi=>by rw[b i hi];exact h.s i hi,h.n,h.x,h.r,h.rs⟩
theorem Rs.put (h:Rs lo hi uL lu m W ob) {a w:Nat}(b:a<lu.length) (j:ob' (2*lu[a]+1)=some ⟨lu[a],.cells (setC w)⟩) (f:∀x,lo≤x→x<hi→x≠lu[a]→ob' (2*x+1)=ob (2*x+1)) (c:hi≤hi'):Rs lo hi' uL lu m (fun i=>if i=a then w else W i) ob':=by
 have g:lu[a]∈lu:=List.getElem_mem b
 refine⟨(f uL h.r.1 h.r.2 (fun e=>h.x (e▸g))).trans h.o,fun i hi=>?_,h.n,h.x,⟨h.r.1,Nat.lt_of_lt_of_le h.r.2 c⟩,fun x d=>⟨(h.rs x d).1,Nat.lt_of_lt_of_le (h.rs x d).2 c⟩⟩
 by_cases e:i=a
 ·subst e
  rw[if_pos rfl]
  exact j
 ·rw[if_neg e]
  have:=h.rs _ (List.getElem_mem hi)
  exact(f _ this.1 this.2 fun k=>e (jhl h.n hi b k)).trans (h.s i hi)
theorem Rs.add (h:Rs lo hi uL lu (m+1) W ob) {x:Nat}(d:ob' (2*uL+1)=some ⟨uL,.cells (j2 (lu.flatMap ptC++List.replicate (m+1) .nilptr) lu.length (ptC x))⟩) (g:ob' (2*x+1)=some ⟨x,.cells (setC (W lu.length))⟩) (j:∀y∈lu,ob' (2*y+1)=ob (2*y+1)) (o:hi≤x) (p:x<hi'):Rs lo hi' uL (lu++[x]) m W ob':=by
 have l:hi≤hi':=zO
 have k:=h.r
 have b:=j4 jhd lu
 refine⟨?_,fun i hi=>?_,?_,?_,⟨h.r.1,Nat.lt_of_lt_of_le h.r.2 l⟩,fun y c=>?_⟩
 ·rw[d]
  congr 3
  unfold j2
  rw[List.take_left' zO,List.drop_append,List.drop_of_length_le (by rw[b];simp[ptC])]
  simp[ptC,List.replicate_succ,b]
 ·by_cases e:i<lu.length
  ·rw[List.getElem_append_left e]
   exact(j _ (List.getElem_mem e)).trans (h.s i e)
  ·have:i=lu.length:=by rw[List.length_append,List.length_singleton]at hi;omega
   subst this
   rw[List.getElem_append_right zR]
   simpa using g
 ·rw[List.nodup_append]
  exact⟨h.n,zS,fun y c z f e=>by rw[List.mem_singleton]at f;have:=(h.rs y c).2;omega⟩
 ·rw[List.mem_append,List.mem_singleton]
  rintro(a|a)
  ·exact h.x a
  ·omega
 ·rw[List.mem_append,List.mem_singleton]at c
  rcases c with a|a
  ·have:=h.rs y a;omega
  ·omega
end
def WIs (n:Nat) (W:Nat→Nat) (f:Nat→Nat→Bool):Prop:=∀b,b<n→W b<2 ^ n∧∀a,a<n→(W b).testBit a=f b a
theorem WIs.congr {n:Nat}{W:Nat→Nat}{f d:Nat→Nat→Bool}(h:WIs n W f) (e:∀b a,b<n→a<n→f b a=d b a):WIs n W d:=fun b c=>⟨(h b c).1,fun a g=>((h b c).2 a g).trans (e b a c g)⟩
theorem WIs.join {n:Nat}{W:Nat→Nat}{r:Nat→Nat→Bool}{k b:Nat}(h:WIs n W (fD2 r k b)) (l:k<n) (q:b<n) (u:(W b).testBit k=true):WIs n (fun i=>if i=b then W b ||| W k else W i) (fD2 r k (b+1)):=by
 intro c o
 have f:=h b q
 have p:=h k l
 by_cases e:c=b
 ·subst e
  simp only[if_true]
  refine⟨Nat.or_lt_two_pow f.1 p.1,fun a d=>?_⟩
  rw[Nat.testBit_or,f.2 a d,p.2 a d]
  have g:war r k c k=true:=by
   have:=f.2 k l
   rw[u]at this
   simpa[fD2] using this.symm
  have t:fD2 r k c c a=war r k c a:=jz3 r k c a
  have s:fD2 r k c k a=war r k k a:=by
   unfold fD2
   split
   ·exact jvk r k a
   ·rfl
  rw[t,s]
  unfold fD2
  rw[if_pos zO,war,g,Bool.true_and]
 ·simp only[if_neg e]
  refine⟨(h c o).1,fun a d=>?_⟩
  rw[(h c o).2 a d]
  unfold fD2
  by_cases j:c<b
  ·rw[if_pos j,if_pos zO]
  ·rw[if_neg j,if_neg zO]
theorem j2g {Yf:YF}{f:FuncId}{xs:List A}{st:St}{ub:Nat}{K:St→Nat→Prop}{d:Option Nat}{nm:Bool}{vs:List V}{l:List Int}(e:xs.map (eval E st.tm)=vs) (c:E.sh nm f=false) (hp:(vs.all fun v=>v.strip.pureTop)=false)
 (h:∃v,EvO E f vs st.ob st.tk ((st.fb+d.getD 0+1)*1024) ub v∧j0i l v) (g:∀t b add,WZ K st d ub { v:=.sl t b l.length (l.flatMap intC),add:=add }):j6 E Yf ⟨d,.call f xs,none,nm⟩ st ub K:=by
 obtain⟨v,i,b,a⟩:=h
 exact jh e c hp i (XZ a fun t add=>g t b add)
section
variable {lo uG ut uf:Nat}{ue:Option Nat}{tu fu:List Nat}{WT WF:Nat→Nat}{T:List P2}{ob:ZO}{ub n:Nat}
theorem j47 {Yf:YF}{tk:Nat→Bool}{ro base:Nat}(hG:Gr lo ub uG (some ut) (some uf) ue tu fu WT WF T ob) (e1:ro≤ub) (ht:tu.length=n) (h1:0<n) (h9:n≤9) {r:Nat→Nat→Bool}(hW:WIs n WT fun b a=>r a b) :
 ∃q,EvS E Yf.y 244 [.ptr (2*uG+1) uG 0] ob tk ro base ub q∧∃uL lu W,q.1=.osl (2*uL+1) uL 0 n 1∧lu.length=n∧Rs ub q.2.2.2 uL lu 0 W q.2.1∧WIs n W (war r n):=by
 have hp:(2:Nat) ^ n≤512:=Nat.pow_le_pow_right zD h9
 have c7:∀a,a<n→WT a<512:=fun a ha=>Nat.lt_of_lt_of_le (hW a ha).1 hp
 refine Jn (af:=S244) rfl zD ?_
 show wpC E Yf S244.body _ (XT S244.res _)
 simp(disch:=first|(simp;done)|omega) [S244]
 refine jh (vs:=[.ptr (2*uG+1) uG 0]) zS rfl rfl (evo208 (hG.keep (fun x _ _=>by simp) zR) zO _ _) ?_
 simp
 refine jno (n:=n) (by simp[ht]) (by simp[ht]) zO zO rfl zD ?_
 rw[jv7]
 simp
 refine jY fun j g=>?_
 obtain⟨uL,u1,u2,g3,gL⟩:∃u,ub≤u∧u<j.nx∧j.tm 3=.osl (2*u+1) u 0 n 1∧j.ob (2*u+1)=some ⟨u,.cells (List.replicate n .nilptr)⟩:=⟨ub+192,zO,by rw[g];first|omega|(simp;done)|(simp;omega),by rw[g];simp[Nat.add_assoc],by rw[g];simp[Nat.add_assoc]⟩
 have g0:j.tm 0=.ptr (2*uG+1) uG 0:=by rw[g];simp
 have c9:j.tm 11=.int .i64 n:=by rw[g];simp
 have b8:j.tm 12=.int .i64 0:=by rw[g];simp
 have gd:j.df=[]:=by rw[g];simp
 have gr:j.ro=ro:=by rw[g];simp
 have go:∀z,Off ub z→j.ob z=ob z:=fun z hk=>by
  have:=hk.ne
  rw[g]
  simp(disch:=first|(simp;done)|omega) [this]
 clear g
 obtain⟨J,hJ⟩:∃J:Nat→St→Prop,J=fun i s=>s.tm 12=.int .i64 i∧ub≤s.nx∧(∃lu,lu.length=i∧Rs ub s.nx uL lu (n - i) WT s.ob)∧∀z,Off ub z→s.ob z=ob z:=⟨_,rfl⟩
 refine j8 [(4,4),(12,22)] n J rfl rfl ?_ ?_
 ·rw[hJ]
  exact⟨by simpa using b8,zO,⟨[],rfl,⟨by simpa using gL,fun i hi=>(by simp at hi),List.nodup_nil,List.not_mem_nil,⟨u1,u2⟩,fun x hx=>(by cases hx)⟩⟩,go⟩
 clear b8 gL
 intro i s hi b5 f
 rw[hJ]at b5
 obtain⟨O,sn,⟨lu,H,K⟩,so⟩:=b5
 have s0:s.tm 0=.ptr (2*uG+1) uG 0:=by rw[f.t 0 zS,g0]
 have s3:s.tm 3=.osl (2*uL+1) uL 0 n 1:=by rw[f.t 3 zS,g3]
 have U:s.tm 11=.int .i64 n:=by rw[f.t 11 zS,c9]
 have sd:s.df=[]:=by rw[f.d,gd]
 have sr:s.ro=ro:=by rw[f.r,gr]
 have c0:Gr lo s.nx uG (some ut) (some uf) ue tu fu WT WF T s.ob:=hG.keep (fun x _ h=>so _ (Off.new h)) sn
 clear f
 by_cases F:i<n
 ·have Q:=jb F zO
  simp(disch:=first|(simp;done)|omega) [O,U,s3,s0,F]
  refine j2g (vs:=[.ptr (2*uG+1) uG 0,.int .i64 i]) zS rfl rfl (evo146 (c0.keep (fun x _ h=>?_) ?_) zR zO (c7 i F) _ _) fun tt nl add=>?_
  ·simp
  ·first|omega|(simp;done)|(simp;omega)
  have e2:=jh2 (WT i)
  simp
  refine jU (vs:=[.sl tt nl (jd (WT i)).length ((ints (jd (WT i))).flatMap intC)]) (by simp[jnr]) rfl (sv78l (by simp[sr];omega) (fun b hb=>?_) zO) ?_
  ·have:=(bitsUp_mem.1 hb).1
   omega
  rintro v1 X d5 P ⟨x,q1,q2,rfl,q4,q5⟩
  rw[jwk (c7 i F)]at q4
  simp only at q1 q2 q4 q5
  have d3:s.nx≤x:=by first|omega|(simp at q1;omega)
  have G:=K.o
  have c6:=K.r
  have d4:=ju1 (l:=2*uL+1) (u:=uL) (kk:=.i64) F
  have c4:∀y,y<s.nx→X (2*y+1)=s.ob (2*y+1):=fun y hy=>by
   rw[q5 _ (Off.new zL)]
   simp
  have c5:X (2*uL+1)=_:=(c4 uL c6.2).trans G
  have c2:=j4 jhd lu
  have d0:(lu.flatMap ptC++List.replicate (n - i) V.nilptr).length=n:=by rw[List.length_append,List.length_replicate,c2];omega
  have d9:(lu.flatMap ptC).length+(n - i)=n:=by rw[c2];omega
  have nL:∀m,P≤m→¬ uL=m:=fun m hm=>by omega
  simp(disch:=first|(simp;done)|omega) [d4,objCells,c5,d0,V.cells,V.leaf]
  refine⟨zO,zO,?_⟩
  simp(disch:=first|(simp;done)|omega) [O,Q,F]
  rw[hJ]
  have d6:n - i=(n - (i+1))+1:=zO
  rw[d6]at K ⊢
  have d1:¬ x=uL:=zO
  refine⟨zS,zL,⟨lu++[x],by simp[H],K.add ?_ ?_ (fun y hy=>?_) d3 zL⟩,fun z hk=>?_⟩
  ·simp[H,ptC]
  ·simp(disch:=first|(simp;done)|omega) [two_inj,d1,q4,H]
  ·have h3:=K.rs y hy
   have:¬ y=uL:=fun e=>K.x (e▸hy)
   simp(disch:=first|(simp;done)|omega) [two_inj,this,c4 y h3.2]
  ·have h3:¬ z=2*uL+1:=hk uL u1
   simp[h3]
   rw[q5 z (hk.up zL)]
   simpa using so z hk
 ·have:i=n:=zO
  subst this
  simp(disch:=first|(simp;done)|omega) [O,U,s3]
  rw[Nat.sub_self]at K
  refine jY fun j g=>?_
  have g3:j.tm 3=.osl (2*uL+1) uL 0 i 1:=by rw[g];simp[s3]
  have b9:j.tm 24=.int .i64 i:=by rw[g];simp
  have L:j.tm 25=.int .i64 0:=by rw[g];simp
  have gd:j.df=[]:=by rw[g];simp[sd]
  have gr:j.ro=ro:=by rw[g];simp[sr]
  have gn:ub≤j.nx:=by rw[g];first|omega|(simp;done)|(simp;omega)
  have gR:Rs ub j.nx uL lu 0 WT j.ob:=K.keep (fun x _ _=>by rw[g];simp) (by rw[g];first|omega|(simp;done)|(simp;omega))
  clear g K c0 O s0 s3 U sd sr
  obtain⟨J2,S⟩:∃J2:Nat→St→Prop,J2=fun k s=>s.tm 25=.int .i64 k∧ub≤s.nx∧∃W,Rs ub s.nx uL lu 0 W s.ob∧WIs i W (war r k):=⟨_,rfl⟩
  refine j8 [(5,6),(25,49)] i J2 rfl rfl (by rw[S];exact⟨by simpa using L,gn,WT,gR,hW⟩) ?_
  clear L gn gR
  intro k p hk c1 f
  rw[S]at c1
  obtain⟨Z,pn,W,pR,pW⟩:=c1
  have p3:p.tm 3=.osl (2*uL+1) uL 0 i 1:=by rw[f.t 3 zS,g3]
  have a0:p.tm 24=.int .i64 i:=by rw[f.t 24 zS,b9]
  have pd:p.df=[]:=by rw[f.d,gd]
  have pr:p.ro=ro:=by rw[f.r,gr]
  clear f
  by_cases D:k<i
  ·have Q:=jb D zO
   simp(disch:=first|(simp;done)|omega) [Z,a0,p3,D]
   refine jY fun j g=>?_
   have g3:j.tm 3=.osl (2*uL+1) uL 0 i 1:=by rw[g];simp[p3]
   have g5:j.tm 5=.int .i64 k:=by rw[g];simp
   have b9:j.tm 24=.int .i64 i:=by rw[g];simp[a0]
   have L:j.tm 25=.int .i64 k:=by rw[g];simp[Z]
   have d7:j.tm 29=.int .i64 i:=by rw[g];simp
   have b6:j.tm 30=.int .i64 0:=by rw[g];simp
   have gd:j.df=[]:=by rw[g];simp[pd]
   have gr:j.ro=ro:=by rw[g];simp[pr]
   have gn:ub≤j.nx:=by rw[g];first|omega|(simp;done)|(simp;omega)
   have gR:Rs ub j.nx uL lu 0 W j.ob:=pR.keep (fun x _ _=>by rw[g];simp) (by rw[g];first|omega|(simp;done)|(simp;omega))
   clear g pR
   obtain⟨J3,I⟩:∃J3:Nat→St→Prop,J3=fun b s=>s.tm 30=.int .i64 b∧ub≤s.nx∧∃W,Rs ub s.nx uL lu 0 W s.ob∧WIs i W (fD2 r k b):=⟨_,rfl⟩
   refine j8 [(6,6),(30,48)] i J3 rfl rfl (by rw[I];exact⟨by simpa using b6,gn,W,gR,pW.congr fun b a _ _=>(jym r k b a).symm⟩) ?_
   clear b6 gn gR
   intro b q hb c8 f
   rw[I]at c8
   obtain⟨M,qn,W,N,qW⟩:=c8
   have q3:q.tm 3=.osl (2*uL+1) uL 0 i 1:=by rw[f.t 3 zS,g3]
   have q5:q.tm 5=.int .i64 k:=by rw[f.t 5 zS,g5]
   have d2:q.tm 25=.int .i64 k:=by rw[f.t 25 zS,L]
   have b0:q.tm 29=.int .i64 i:=by rw[f.t 29 zS,d7]
   have qd:q.df=[]:=by rw[f.d,gd]
   have qr:q.ro=ro:=by rw[f.r,gr]
   clear f
   by_cases B:b<i
   ·have c3:=jb B zO
    have G:=N.o
    have c6:=N.r
    rw[List.replicate_zero,List.append_nil]at G
    have x1:=ju1 (l:=2*uL+1) (u:=uL) (kk:=.i64) B
    have x2:=ji9 (l:=lu) (i:=b) zO
    have x3:=ju1 (l:=2*uL+1) (u:=uL) (kk:=.i64) D
    have x4:=ji9 (l:=lu) (i:=k) zO
    have nL:∀m,q.nx≤m→¬ uL=m:=fun m hm=>by omega
    have b7:=N.s b zO
    have d8:=N.s k zO
    have lb:=N.rs _ (List.getElem_mem (show b<lu.length by omega))
    have lk:=N.rs _ (List.getElem_mem (show k<lu.length by omega))
    have wb:=Nat.lt_of_lt_of_le (qW b B).1 hp
    have wk:=Nat.lt_of_lt_of_le (qW k D).1 hp
    simp(disch:=first|(simp;done)|omega) [M,b0,q3,q5,B,x1,x2,objCells,G]
    refine jh (vs:=[.ptr (2*lu[b]+1) lu[b] 0,.int .i64 k]) zS rfl rfl (jz8 (w:=W b) (by simpa using b7) (Off.new zL) zO zO _ _) ?_
    cases hh:(W b).testBit k
    ·simp(disch:=first|(simp;done)|omega) [M,c3,B]
     rw[I]
     refine⟨zS,zL,W,N.keep (fun x _ _=>by simp) zL,qW.congr fun c a _ _=>jyn ?_ c a⟩
     have:=(qW b B).2 k D
     rw[hh,jz3]at this
     exact this.symm
    ·simp(disch:=first|(simp;done)|omega) [q3,q5,x1,x2,x3,x4,objCells,G]
     refine jU (vs:=[.ptr (2*lu[b]+1) lu[b] 0,.ptr (2*lu[k]+1) lu[k] 0]) zS rfl (sv276 (v:=W b) (w:=W k) (by simpa using b7) (by simpa using d8) zL zL (by simp[qr];omega) zO zO) ?_
     rintro v1 X d5 P ⟨r1,r2⟩
     simp only at r1 r2
     have e0:q.nx≤P:=by first|omega|(simp at r1;omega)
     simp(disch:=first|(simp;done)|omega) [M,c3,B]
     rw[I]
     refine⟨zS,zL,_,N.put (a:=b) (w:=W b ||| W k) zO ?_ (fun x _ h2 h3=>?_) zL,qW.join D B hh⟩
     ·have:=r2 (2*lu[b]+1) (Off.new zL)
      rw[if_pos rfl]at this
      simpa using this
     ·have:=r2 (2*x+1) (Off.new zL)
      rw[if_neg zO]at this
      simpa using this
   ·have:b=i:=zO
    subst this
    simp(disch:=first|(simp;done)|omega) [M,b0,d2,Q,D]
    rw[S]
    exact⟨zS,zL,W,N.keep (fun x _ _=>by simp) zL,qW.congr fun c a hc _=>j3f hc a⟩
  ·have:k=i:=zO
   subst this
   simp(disch:=first|(simp;done)|omega) [Z,a0,p3]
   exact Yi (by simp[pd]) ⟨uL,zS,lu,H,W,pR.keep (fun x _ _=>by simp) zL,pW⟩
end
def edB (L:List P2) (x y:Nat):Bool:=L.contains ((y:Int),(x:Int))
def FromR (w:Nat) (v:V):Prop:=∃nl,jy3 [.sl none nl (ints (jd w)).length ((ints (jd w)).flatMap intC),.int .i64 0] v
section
variable {ob:ZO}{ub n:Nat}{v:V}{L:List P2}
theorem evo194 (B:0<n) (k:n≤9) (hv:EdA ub ob v L) (g:InG n L) (S:L.length≤10000) {t:Nat}(G:t<n) (tk:Nat→Bool) (base:Nat) :
 ∃q,EvO E 194 [.int .i64 (n:Int),.int .i64 (t:Int),v] ob tk base ub q∧∃w,(w<2 ^ n∧∀a,a<n→w.testBit a=war (edB L) n t a)∧FromR w q:=by
 have hp:(2:Nat) ^ n≤512:=Nat.pow_le_pow_right zD k
 have m:¬ (t:Int)<0:=zO
 have f:¬ (n:Int)≤t:=zO
 have D:¬ (n≤t):=zO
 refine jb6 (af:=S194) rfl zD ?_
 simp(disch:=first|(simp;done)|omega) [S194]
 refine jU (vs:=[.int .i64 n,v]) zS rfl (j48 ?_ B k (hv.up zS ?_) g S) ?_
 ·simp;omega
 ·first|omega|(simp;done)|(simp;omega)
 rintro v1 U K M ⟨I,ut,uf,ue,tu,fu,T,rfl,F,y,Q,hT,q1,p⟩
 simp only at F q1 p
 simp(disch:=first|(simp;done)|omega) [m,f]
 refine jU (vs:=[.ptr (2*I+1) I 0]) zS rfl (j47 (n:=n) (r:=edB L) (F.keep (fun x _ _=>?_) ?_) ?_ y B k (fun b _=>⟨(Yz g b).1,fun a _=>(Yz g b).2 a⟩)) ?_
 ·simp
 ·first|omega|(simp;done)|(simp;omega)
 ·first|omega|(simp;done)|(simp;omega)
 rintro v2 P a0 b5 ⟨H,e,W,rfl,N,c,X⟩
 simp only at c
 have d:=c.o
 rw[List.replicate_zero,List.append_nil]at d
 have b0:=c.r
 have O:=ju1 (l:=2*H+1) (u:=H) (kk:=.i64) G
 have x2:=ji9 (l:=e) (i:=t) zO
 have Z:=c.s t zO
 have ls:=c.rs _ (List.getElem_mem (show t<e.length by omega))
 have ws:=X t G
 simp(disch:=first|(simp;done)|omega) [O,x2,objCells,d]
 obtain⟨z,j⟩:=QE (ints (jd (W t)))
 refine jh (vs:=[.ptr (2*e[t]+1) e[t] 0]) zS rfl rfl (jt7 (w:=W t) (by simpa using Z) (Off.new zL) zO _ _) ?_
 refine XZ j fun J add=>?_
 simp
 refine jzb (ns:=[6,7]) (ls:=[.sl none z (ints (jd (W t))).length ((ints (jd (W t))).flatMap intC),.int .i64 0]) (fun r h=>⟨W t,ws,z,h⟩) zS rfl zS zS ?_
 simp
 exact⟨QC rfl (WH _ J z _ _),JI rfl,trivial⟩
end
section
variable {g:Hist'}{M:List Int}{mn rn:Bool}{rt:Option (Nat × Nat)}{kX uX lo:Nat}{ob:ZO}{ub:Nat}{L:List P2}
def srcL (g:Hist') (M:List Int) (i:Nat):List P2:=(List.range i).map (juy g M)
theorem jq5 (g:Hist') (M:List Int) (i:Nat):srcL g M (i+1)=srcL g M i++[juy g M i]:=by
 unfold srcL
 rw[List.range_succ,List.map_append]
 rfl
theorem jg2 (g:Hist') (M:List Int) (i:Nat):(srcL g M i).length=i:=by simp[srcL]
def rdV (rt:Option (Nat × Nat)) (rn:Bool) (R:List (Int × Int)):V:=.sl rt rn R.length (R.flatMap jB)
theorem sv88 {Yf:YF}{tk:Nat→Bool}{ro base:Nat}(X:MkR g (slOf mn intC M) (rdV rt rn (readH g)) kX uX lo ob ub L) (hm:jav g M=true) (l:Off lo kX) (D:lo≤ub) (b0:ro≤lo) (b8:ro≤uX) (hl:L.length≤10000) (hR:(readH g).length≤10000) :
 ∃r,EvS E Yf.y 88 [.ptr kX uX 0] ob tk ro base ub r∧ub≤r.2.2.2∧MkR g (slOf mn intC M) (rdV rt rn (readH g)) kX uX lo r.2.1 r.2.2.2 (L++srcL g M (readH g).length)∧∀c,Off lo c→c≠kX→r.2.1 c=ob c:=by
 have b7:=Yp hm
 obtain⟨b5,v,_⟩:=id X
 refine Jn (af:=S88) rfl zD ?_
 show wpC E Yf S88.body _ (XT S88.res _)
 simp(disch:=first|(simp;done)|omega) [S88,objCells,v,mkS,histC,rdV]
 refine jY fun m h=>?_
 have g0:m.tm 0=.ptr kX uX 0:=by rw[h];simp
 have g7:m.tm 7=rdV rt rn (readH g):=by rw[h];simp[rdV]
 have g8:m.tm 8=.int .i64 (readH g).length:=by rw[h];simp
 have g9:m.tm 9=.int .i64 0:=by rw[h];simp
 have gd:m.df=[]:=by rw[h];simp
 have gr:m.ro=ro:=by rw[h];simp
 have P:ub≤m.nx:=by rw[h];first|omega|(simp;done)|(simp;omega)
 have go:m.ob=ob:=by rw[h];simp
 clear h
 obtain⟨J,x⟩:∃J:Nat→St→Prop,J=fun i s=>s.tm 9=.int .i64 i∧MkR g (slOf mn intC M) (rdV rt rn (readH g)) kX uX lo s.ob s.nx (L++srcL g M i)∧ub≤s.nx∧∀c,Off lo c→c≠kX→s.ob c=ob c:=⟨_,rfl⟩
 refine j8 [(2,3),(9,25)] (readH g).length J rfl rfl ?_ ?_
 ·rw[x]
  exact⟨by simpa using g9,by simpa[srcL] using X.keep (fun c _=>by rw[go]) (l.up D) P,P,fun c _ _=>by rw[go]⟩
 clear v g9 go P
 intro i s hi q f
 rw[x]at q
 obtain⟨G,O,sn,Z⟩:=q
 have s0:s.tm 0=.ptr kX uX 0:=by rw[f.t 0 zS,g0]
 have s7:s.tm 7=rdV rt rn (readH g):=by rw[f.t 7 zS,g7]
 have s8:s.tm 8=.int .i64 (readH g).length:=by rw[f.t 8 zS,g8]
 have sd:s.df=[]:=by rw[f.d,gd]
 have sr:s.ro=ro:=by rw[f.r,gr]
 clear f
 by_cases j:i<(readH g).length
 ·have H:=jb j zO
  have n:i<M.length:=zO
  obtain⟨lv,Q,_⟩:=id O
  have oX:=(l.up (show lo≤s.nx by omega)).ne
  have U:=JY jN rt rn (readH g) .i64 j
  have u:=fun ob=>WL (readH g) ob j
  have K:=j5 jC mn M .i64 n
  have T:=JX M n
  have N:=jq5 g M i
  have B:juy g M i=(JF g M[i],(readH g)[i].1):=by
   unfold juy
   simp[List.getD_eq_getElem?_getD,List.getElem?_eq_getElem n,List.getElem?_eq_getElem j]
  have I:=jg2 g M i
  generalize hp:(readH g)[i]=p at *
  obtain⟨a,b⟩:=p
  simp only at u
  simp(disch:=first|(simp;done)|omega) [G,s8,s7,s0,j,rdV,U,u,objCells,j2,two_inj]
  refine⟨by first|omega|(simp[sr];omega),?_⟩
  simp(disch:=first|(simp;done)|omega) [s0,objCells,j2,two_inj,Q,mkS,histC,oX,K,T]
  refine jU (vs:=[.ptr kX uX 0,.int .i64 M[i],.int .i64 a]) zS rfl (sv137 (L:=L++srcL g M i) (lo:=lo) (O.keep (fun c l=>?_) (l.up zO) zL) l zL (by first|omega|(simp[sr];omega)) (by first|omega|(simp[sr];omega)) (by rw[List.length_append,I];omega) _ _) ?_
  ·have:=l.ne
   simp(disch:=first|(simp;done)|omega) [this]
  rintro v1 b6 a0 z ⟨r1,S,r3⟩
  simp only at r1 S r3
  have q1:s.nx≤z:=by first|omega|(simp at r1;omega)
  have F:JF g (a:Int)=a:=by
   unfold JF
   obtain⟨k,l,_⟩:=jf0 j
   have e:(readH g).getD i (0,0)=(a,b):=by simp[List.getD_eq_getElem?_getD,List.getElem?_eq_getElem j,hp]
   rw[e]at l
   have:a=(k:Int):=l
   rw[if_neg zO]
  rw[List.append_assoc,F,← B,← N]at S
  simp(disch:=first|(simp;done)|omega) [G,H,j]
  rw[x]
  refine⟨zS,S.keep (fun c _=>by simp) (l.up zO) zL,zL,fun c o w=>?_⟩
  have h3:=(o.up (show lo≤s.nx by omega)).ne
  simp
  rw[r3 c o w]
  simp(disch:=first|(simp;done)|omega) [h3]
  exact Z c o w
 ·have:i=(readH g).length:=zO
  subst this
  simp(disch:=first|(simp;done)|omega) [G,s8]
  exact jda (.inl rfl) (by simp[sd]) ⟨zL,O.keep (fun c _=>by simp) (l.up zO) zL,fun c o w=>by simpa using Z c o w⟩
end
def sesK (g:Hist') (i k:Nat):List P2:=((g.ts.length:Int),(comL g).getD i 0)::((List.range k).filter fun k=>sesAt g ((comL g).getD k 0).toNat == sesAt g ((comL g).getD i 0).toNat).map fun k=>((comL g).getD k 0,(comL g).getD i 0)
def sesL (g:Hist') (i:Nat):List P2:=(List.range i).flatMap (jv2 g)
theorem jix (g:Hist') (i:Nat):sesL g (i+1)=sesL g i++sesK g i i:=by
 unfold sesL
 rw[List.range_succ,List.flatMap_append]
 simp[jv2,sesK]
theorem jiy (g:Hist') (i k:Nat):sesK g i (k+1)=sesK g i k++if sesAt g ((comL g).getD k 0).toNat == sesAt g ((comL g).getD i 0).toNat then [((comL g).getD k 0,(comL g).getD i 0)] else []:=by
 unfold sesK
 rw[List.range_succ,List.filter_append,List.map_append,List.cons_append]
 congr 2
 cases h:sesAt g ((comL g).getD k 0).toNat == sesAt g ((comL g).getD i 0).toNat <;> simp only[List.filter_cons,List.filter_nil,h,if_true,Bool.false_eq_true,if_false,List.map_cons,List.map_nil]
theorem jg7 (g:Hist') (i:Nat):∀k,(sesK g i k).length≤k+1
 | 0=>by simp[sesK]
 | k+1=>by
  have:=jg7 g i k
  rw[jiy]
  split <;> simp <;> omega
theorem Q8 (g:Hist') (N:Nat):∀i,i≤N→(sesL g i).length≤i*(N+1)
 | 0,_=>by simp[sesL]
 | i+1,h=>by
  have a:=Q8 g N i zO
  have b:=jg7 g i i
  rw[jix,List.length_append,Nat.succ_mul]
  omega
def rdK (g:Hist') (lvl:Int) (M:List Int) (i j:Nat):List P2:=juy g M i::askE g M ((Jd g lvl M i).take j) i
def rdL (g:Hist') (lvl:Int) (M:List Int) (i:Nat):List P2:=(List.range i).flatMap fun i=>rdK g lvl M i (Jd g lvl M i).length
theorem jm6 (g:Hist') (lvl:Int) (M:List Int) (i:Nat):rdL g lvl M (i+1)=rdL g lvl M i++rdK g lvl M i (Jd g lvl M i).length:=by
 unfold rdL
 rw[List.range_succ,List.flatMap_append]
 simp
theorem jwa {g:Hist'}{lvl:Int}{M:List Int}{i j:Nat}(h:j<(Jd g lvl M i).length):rdK g lvl M i (j+1)=rdK g lvl M i j++if Yq g (Jd g lvl M i)[j] (jff g ((readH g).getD i (0,0))) && ((Jd g lvl M i)[j] != M.getD i 0) then [((Jd g lvl M i)[j],JF g (M.getD i 0))] else []:=by
 unfold rdK askE
 rw[List.take_succ_eq_append_getElem h,List.filter_append,List.map_append,List.cons_append]
 congr 2
 cases h:Yq g (Jd g lvl M i)[j] (jff g ((readH g).getD i (0,0))) && ((Jd g lvl M i)[j] != M.getD i 0) <;> simp only[List.filter_cons,List.filter_nil,h,if_true,Bool.false_eq_true,if_false,List.map_cons,List.map_nil]
theorem jro (g:Hist') (lvl:Int) (M:List Int) (i j:Nat):(rdK g lvl M i j).length≤j+1:=by
 unfold rdK askE
 have a:=List.length_filter_le (fun t=>Yq g t (jff g ((readH g).getD i (0,0))) && (t != M.getD i 0)) ((Jd g lvl M i).take j)
 rw[List.length_take]at a
 simp only[List.length_cons,List.length_map]
 omega
theorem ji1 (g:Hist') (lvl:Int) (M:List Int) (i:Nat):(Jd g lvl M i).length≤g.ts.length:=jeu _ _
theorem jlc (g:Hist') (lvl:Int) (M:List Int) (a:g.ts.length≤8):∀i,(rdL g lvl M i).length≤i*9
 | 0=>by simp[rdL]
 | i+1=>by
  have b:=jlc g lvl M a i
  have d:=jro g lvl M i (Jd g lvl M i).length
  have c:=ji1 g lvl M i
  rw[jm6,List.length_append]
  omega
theorem jv3 {g:Hist'}{lvl:Int}{M O:List Int}{p:Int × Int}(h:lvl≠3):jbl g lvl M O p=jbl g lvl M [] p:=by
 unfold jbl
 refine jev fun k _=>?_
 unfold jbk
 rw[if_neg h,if_neg h]
theorem j35 (g:Hist') (lvl:Int) (M:List Int):jh9 g lvl M (sesL g (comL g).length++rdL g lvl M (readH g).length):=by
 intro z
 rw[List.mem_append,sesL,rdL,List.mem_flatMap,List.mem_flatMap]
 simp only[List.mem_range,rdK,List.mem_cons,List.take_length]
section
variable {g:Hist'}{M:List Int}
theorem jk8 {lvl:Int}(i:jav g M=true) {l:List P2}(h:jh9 g lvl M l):∀z∈l,∃a b:Nat,z=((a:Int),(b:Int))∧a<g.ts.length+1∧b<g.ts.length+1:=by
 intro z d
 have:z∈jV (g.ts.length+1) (QV g lvl M):=by rw[← Wh i h,compP_mem,(X1 l).mem_iff];exact d
 obtain⟨a,b,c,f,_,e⟩:=edgesOf_mem.1 this
 exact⟨a,b,e,c,f⟩
theorem ev46 (hs:Small g) (h8:g.ts.length≤8) (hR:(readH g).length≤1000) {mn:Bool}(lvl:Int) (h9:lvl≠3) (U:jav g M=true):∃v,Ev E 46 [.int .i64 lvl,.agg (histC g),slOf mn intC M] v∧∃l,jh9 g lvl M l∧SlR v false (jV (g.ts.length+1) fun a b=>l.contains ((a:Int),(b:Int))).length ((jV (g.ts.length+1) fun a b=>l.contains ((a:Int),(b:Int))).flatMap edC):=by
 have i3:=Yp U
 have g5:=ev39 g zO
 rw[show numsTo Jl g.ts g.ts.length=comL g from rfl]at g5
 obtain⟨vr,i6,k3⟩:=ev31 hs
 have l2:=jdb g
 have d8:=j35 g lvl M
 obtain⟨P,hP⟩:∃P:List P2→V→Prop,P=fun l v=>SlR v false (jV (g.ts.length+1) fun a b=>l.contains ((a:Int),(b:Int))).length ((jV (g.ts.length+1) fun a b=>l.contains ((a:Int),(b:Int))).flatMap edC):=⟨_,rfl⟩
 suffices h:∃v,Ev E 46 [.int .i64 lvl,.agg (histC g),slOf mn intC M] v∧∃l,jh9 g lvl M l∧P l v by rw[hP]at h;exact h
 refine XF (af:=F46) rfl zD ?_
 simp(disch:=first|(simp;done)|omega) [F46,objCells,histC,slOf]
 refine JN (cs:=[]) rfl rfl rfl ?_
 simp[objCells]
 refine kD_evT g5 (by simp[histC,slOf]) rfl (by simp[histC,slOf]) fun u1 _=>?_
 simp[objCells]
 refine X5 i6 (by simp[histC,slOf]) rfl (by simp[histC,slOf]) ?_
 refine XZ k3 fun rt add=>?_
 simp
 refine⟨by simp[Jw,QR,Qv,jbf,rdOb,rdTk,lOf,uOf,Delta.wo,Delta.wt];try rfl,?_⟩
 refine jY fun st F=>?_
 obtain⟨t8,g8⟩:∃t,st.tm 8=.sl t false (comL g).length ((comL g).flatMap intC):=⟨_,by rw[F];simp;rfl⟩
 have g0:st.tm 0=.int .i64 lvl:=by rw[F];simp
 have g2:st.tm 2=slOf mn intC M:=by rw[F];simp[slOf]
 have g4:st.tm 4=.ptr 1 0 0:=by rw[F];simp
 have g7:∃v,st.tm 7=v∧EdL st.ob 64 st.nx v (sesL g 0):=⟨.osl 257 128 0 0 2,by rw[F];simp,128,rfl,by rw[F];simp[sesL],zD,by rw[F];simp⟩
 have g9:st.tm 9=rdV rt false (readH g):=by rw[F];simp[rdV]
 have f6:st.tm 10=.int .i64 0:=by rw[F];simp
 have gB:st.ob 1=some ⟨0,.cells (histC g)⟩:=by rw[F];simp[histC,slOf]
 have gd:st.df=[]:=by rw[F];simp
 have gr:st.ro=0:=by rw[F];simp
 have gn:64≤st.nx:=by rw[F];simp
 clear F
 obtain⟨J,hJ⟩:∃J:Nat→St→Prop,J=fun i s=>s.tm 10=.int .i64 i∧(∃v,s.tm 7=v∧EdL s.ob 64 s.nx v (sesL g i))∧s.ob 1=some ⟨0,.cells (histC g)⟩∧64≤s.nx:=⟨_,rfl⟩
 refine j8 [(7,7),(10,11),(23,75)] (comL g).length J rfl rfl (by rw[hJ];exact⟨by simpa using f6,g7,gB,gn⟩) ?_
 clear g7 f6 gB gn
 intro i s hi c3 f
 rw[hJ]at c3
 obtain⟨c8,⟨v,s7,sI⟩,sB,sn⟩:=c3
 have s0:s.tm 0=.int .i64 lvl:=by rw[f.t 0 zS,g0]
 have s2:s.tm 2=slOf mn intC M:=by rw[f.t 2 zS,g2]
 have s4:s.tm 4=.ptr 1 0 0:=by rw[f.t 4 zS,g4]
 have s8:s.tm 8=.sl t8 false (comL g).length ((comL g).flatMap intC):=by rw[f.t 8 zS,g8]
 have s9:s.tm 9=rdV rt false (readH g):=by rw[f.t 9 zS,g9]
 have sd:s.df=[]:=by rw[f.d,gd]
 have sr:s.ro=0:=by rw[f.r,gr]
 clear f
 have n1:∀m,64≤m→¬ 1=2*m+1:=fun m U=>by omega
 by_cases o:i<(comL g).length
 ·have e0:=jb o zO
  have c5:=JY jC t8 false (comL g) .i64 o
  have f0:=JX (comL g) o
  have i1:=Q8 g 8 i zO
  have d9:(comL g).getD i 0=(comL g)[i]:=by simp[List.getD_eq_getElem?_getD,List.getElem?_eq_getElem o]
  obtain⟨c,hc,_,h0⟩:=jkc o
  rw[d9]at hc
  have b0:sesK g i 0=[((g.ts.length:Int),(comL g)[i])]:=by simp only[sesK,List.range_zero,List.filter_nil,List.map_nil,d9]
  obtain⟨u,hv,h2,h3,h4⟩:=sI
  have nu:∀m,s.nx≤m→¬ u=m:=fun m U=>by omega
  simp(disch:=first|(simp;done)|omega) [c8,s8,s7,s4,o,c5,f0,objCells,sB,histC,slOf,j2]
  refine JN (cs:=[.int .i64 g.ts.length,.int .i64 (comL g)[i]]) (by simp[j2]) rfl rfl ?_
  simp
  refine YO (lo:=64) (hi:=s.nx) (v:=v) (L:=sesL g i) (p:=((g.ts.length:Int),(comL g)[i])) (by simp[s7]) (.inr ⟨u,hv,by simp(disch:=first|(simp;done)|omega) [two_inj,nu,h2],h3,h4⟩) (by simp[sr]) (by simp[slCells,objCells,edC]) zO fun kl hq=>?_
  have Q:∀D,Off 64 D→kl.any (Nat.beq D)=false:=fun D hk=>by
   rcases hq with rfl|⟨u,h1,h2,rfl⟩
   ·rfl
   ·simp only[List.any_cons,List.any_nil,Bool.or_false]
    exact Yu (hk u h1)
  have K:=Q 1 n1
  rw[← b0]
  simp(disch:=first|(simp;done)|omega)
  refine jY fun p I=>?_
  have p4:p.tm 4=.ptr 1 0 0:=by rw[I];simp[s4]
  have p8:p.tm 8=.sl t8 false (comL g).length ((comL g).flatMap intC):=by rw[I];simp[s8]
  have i7:p.tm 10=.int .i64 i:=by rw[I];simp[c8]
  have g6:p.tm 11=.int .i64 0:=by rw[I];simp
  have pd:p.df=[]:=by rw[I];simp[sd]
  have pr:p.ro=0:=by rw[I];simp[sr]
  have pn:64≤p.nx:=by rw[I];first|omega|(simp;done)|(simp;omega)
  have pB:p.ob 1=some ⟨0,.cells (histC g)⟩:=by
   rw[I]
   simp(disch:=first|(simp;done)|omega) [jD,n1,K,sB]
  have pI:∃v,p.tm 7=v∧EdL p.ob 64 p.nx v (sesL g i++sesK g i 0):=by
   refine⟨.osl (2*(s.nx+896)+1) (s.nx+896) 0 ((sesL g i).length+1) 2,by rw[I];simp[Nat.add_assoc],s.nx+896,by rw[b0];simp,?_,zO,?_⟩
   ·rw[I]
    simp(disch:=first|(simp;done)|omega) [jD,Nat.add_assoc]
   ·rw[I]
    first|omega|(simp;done)|(simp;omega)
  clear I
  obtain⟨J2,d3⟩:∃J2:Nat→St→Prop,J2=fun k q=>q.tm 11=.int .i64 k∧(∃v,q.tm 7=v∧EdL q.ob 64 q.nx v (sesL g i++sesK g i k))∧q.ob 1=some ⟨0,.cells (histC g)⟩∧64≤q.nx:=⟨_,rfl⟩
  refine j8 [(7,7),(11,11),(40,75)] i J2 rfl rfl (by rw[d3];exact⟨by simpa using g6,pI,pB,pn⟩) ?_
  clear pI g6 pB pn
  intro k q l0 c7 f
  rw[d3]at c7
  obtain⟨c0,⟨w,q7,qI⟩,qB,qn⟩:=c7
  have q4:q.tm 4=.ptr 1 0 0:=by rw[f.t 4 zS,p4]
  have q8:q.tm 8=.sl t8 false (comL g).length ((comL g).flatMap intC):=by rw[f.t 8 zS,p8]
  have e2:q.tm 10=.int .i64 i:=by rw[f.t 10 zS,i7]
  have qd:q.df=[]:=by rw[f.d,pd]
  have qr:q.ro=0:=by rw[f.r,pr]
  clear f
  by_cases d4:k<i
  ·have G:=jb d4 zO
   have d0:k<(comL g).length:=zO
   have d7:=JY jC t8 false (comL g) .i64 d0
   have c6:=JX (comL g) d0
   have g3:(comL g).getD k 0=(comL g)[k]:=by simp[List.getD_eq_getElem?_getD,List.getElem?_eq_getElem d0]
   obtain⟨a,ha,_,e9⟩:=jkc d0
   rw[g3]at ha
   have n:=jiy g i k
   rw[g3,d9,ha,hc,Int.toNat_natCast,Int.toNat_natCast]at n
   have l3:=jg7 g i k
   have f3:∀ {x:Nat}(h:x<g.ts.length),(g.ts.flatMap jn)[x*3]? = some (.int .i64 (sesAt g x)):=fun {x} h=>by
    have:=jR j7 g.ts h (by decide:0<3)
    rw[Nat.add_zero]at this
    rw[this]
    simp[jn,sesAt,h]
   have f1:=f3 e9
   have f2:=f3 h0
   have x1:=j5 j7 g.tn g.ts .i64 e9
   have x2:=j5 j7 g.tn g.ts .i64 h0
   rw[ha]at c6
   have b7:=f0
   rw[hc]at b7
   simp(disch:=first|(simp;done)|omega) [c0,e2,q8,q4,d4,d7,c6,c5,b7,objCells,qB,histC,x1,x2,f1,f2]
   obtain⟨u2,hw,w2,w3,w4⟩:=qI
   cases c1:(sesAt g a == sesAt g c)
   ·rw[c1,if_neg zD,List.append_nil]at n
    simp(disch:=first|(simp;done)|omega) [c0,G,d4]
    rw[d3]
    exact⟨zS,⟨w,by simp[q7],u2,by rw[n,hw],by rw[n];simpa using w2,w3,zL⟩,by simpa using qB,zL⟩
   ·rw[c1,if_pos rfl]at n
    have c2:∀m,q.nx≤m→¬ u2=m:=fun m U=>by omega
    simp(disch:=first|(simp;done)|omega) [c0,e2,q8,q7,d7,c6,c5,b7,j2]
    refine JN (cs:=[.int .i64 (a:Int),.int .i64 (c:Int)]) (by simp[j2]) rfl rfl ?_
    simp
    refine YO (lo:=64) (hi:=q.nx) (v:=w) (L:=sesL g i++sesK g i k) (p:=((a:Int),(c:Int))) (by simp[q7]) (.inr ⟨u2,hw,by simp(disch:=first|(simp;done)|omega) [two_inj,c2,w2],w3,w4⟩) (by simp[qr]) (by simp[slCells,objCells,edC]) (by rw[List.length_append];omega) fun kl hq=>?_
    have Q:∀D,Off 64 D→kl.any (Nat.beq D)=false:=fun D hk=>by
     rcases hq with rfl|⟨u,h1,h2,rfl⟩
     ·rfl
     ·simp only[List.any_cons,List.any_nil,Bool.or_false]
      exact Yu (hk u h1)
    have K:=Q 1 n1
    rw[List.append_assoc,← n]
    have c4:(sesL g i++sesK g i (k+1)).length=(sesL g i++sesK g i k).length+1:=by rw[n,← List.append_assoc,List.length_append (bs:=[_])];rfl
    generalize hB:sesL g i++sesK g i (k+1)=B at *
    generalize sesL g i++sesK g i k=A at *
    simp(disch:=first|(simp;done)|omega) [c0,G,d4]
    rw[d3]
    refine⟨zS,⟨.osl (2*(q.nx+2112)+1) (q.nx+2112) 0 B.length 2,by simp[c4,Nat.add_assoc],q.nx+2112,by rw[hB],?_,zO,zL⟩,?_,zL⟩
    ·rw[hB]
     simp(disch:=first|(simp;done)|omega) [jD,Nat.add_assoc]
    ·simp(disch:=first|(simp;done)|omega) [jD,n1,K,qB]
  ·have e:k=i:=zO
   subst e
   simp(disch:=first|(simp;done)|omega) [c0,e2,e0,o]
   rw[hJ]
   rw[← jix]at qI
   obtain⟨u2,hw,w2,w3,w4⟩:=qI
   exact⟨zS,⟨w,by simpa using q7,u2,hw,by simpa using w2,w3,zL⟩,by simpa using qB,zL⟩
 ·have e:i=(comL g).length:=zO
  subst e
  simp(disch:=first|(simp;done)|omega) [c8,s8]
  refine jY fun x Z=>?_
  have x0:x.tm 0=.int .i64 lvl:=by rw[Z];simp[s0]
  have x2:x.tm 2=slOf mn intC M:=by rw[Z];simp[s2]
  have x4:x.tm 4=.ptr 1 0 0:=by rw[Z];simp[s4]
  have x8:x.tm 8=.sl t8 false (comL g).length ((comL g).flatMap intC):=by rw[Z];simp[s8]
  have x9:x.tm 9=rdV rt false (readH g):=by rw[Z];simp[s9]
  have g1:x.tm 12=.int .i64 0:=by rw[Z];simp
  have xd:x.df=[]:=by rw[Z];simp[sd]
  have xr:x.ro=0:=by rw[Z];simp[sr]
  have xn:64≤x.nx:=by rw[Z];first|omega|(simp;done)|(simp;omega)
  have xB:x.ob 1=some ⟨0,.cells (histC g)⟩:=by rw[Z];simpa using sB
  have xI:∃v,x.tm 7=v∧EdL x.ob 64 x.nx v (sesL g (comL g).length++rdL g lvl M 0):=by
   obtain⟨u,hv,h2,h3,h4⟩:=sI
   refine⟨v,by rw[Z];simp[s7],u,by rw[hv];simp[rdL],?_,h3,?_⟩
   ·rw[Z]
    simpa[rdL] using h2
   ·rw[Z]
    first|omega|(simp;done)|(simp;omega)
  clear Z s0 s2 s4 s7 s8 s9 sB sd sr sn sI c8
  have hS:=Q8 g 8 (comL g).length zO
  have l6:(sesL g (comL g).length).length≤72:=Nat.le_trans hS (by have:(comL g).length*(8+1)≤8*9:=Nat.mul_le_mul_right 9 zO;omega)
  clear hS
  generalize sesL g (comL g).length=S at *
  obtain⟨J3,e4⟩:∃J3:Nat→St→Prop,J3=fun i s=>s.tm 12=.int .i64 i∧(∃v,s.tm 7=v∧EdL s.ob 64 s.nx v (S++rdL g lvl M i))∧s.ob 1=some ⟨0,.cells (histC g)⟩∧64≤s.nx:=⟨_,rfl⟩
  refine j8 [(7,7),(12,17),(76,156)] (readH g).length J3 rfl rfl (by rw[e4];exact⟨by simpa using g1,xI,xB,xn⟩) ?_
  clear g1 xI xB xn
  intro i s hi c3 f
  rw[e4]at c3
  obtain⟨b9,⟨v,s7,sI⟩,sB,sn⟩:=c3
  have s0:s.tm 0=.int .i64 lvl:=by rw[f.t 0 zS,x0]
  have s2:s.tm 2=slOf mn intC M:=by rw[f.t 2 zS,x2]
  have s4:s.tm 4=.ptr 1 0 0:=by rw[f.t 4 zS,x4]
  have s8:s.tm 8=.sl t8 false (comL g).length ((comL g).flatMap intC):=by rw[f.t 8 zS,x8]
  have s9:s.tm 9=rdV rt false (readH g):=by rw[f.t 9 zS,x9]
  have sd:s.df=[]:=by rw[f.d,xd]
  have sr:s.ro=0:=by rw[f.r,xr]
  clear f
  by_cases o:i<(readH g).length
  ·have e0:=jb o zO
   have e1:i<M.length:=zO
   have f5:=jii (jea U)
   have c5:=JY jN rt false (readH g) .i64 o
   have f9:=fun ob=>WL (readH g) ob o
   have d1:=j5 jC mn M .i64 e1
   have d5:=JX M e1
   have k0:=jlc g lvl M h8 i
   obtain⟨a,b,ha,hb,I,h7,_⟩:=jrn f5 o
   have e6:(readH g).getD i (0,0)=((a:Int),(b:Int)):=by simp[List.getD_eq_getElem?_getD,List.getElem?_eq_getElem o,I]
   have f8:M.getD i 0=M[i]:=by simp[List.getD_eq_getElem?_getD,List.getElem?_eq_getElem e1]
   have b0:rdK g lvl M i 0=[(JF g M[i],(a:Int))]:=by
    unfold rdK askE juy
    rw[List.take_zero,f8,e6]
    rfl
   have f4:=ev94 g M[i]
   simp only[I]at f9
   obtain⟨u,hv,h2,h3,h4⟩:=sI
   have nu:∀m,s.nx≤m→¬ u=m:=fun m U=>by omega
   simp(disch:=first|(simp;done)|omega) [b9,s9,rdV,o,c5,f9,objCells,j2,two_inj]
   refine⟨by first|omega|(simp[sr];omega),?_⟩
   simp(disch:=first|(simp;done)|omega) [b9,s7,s4,s2,objCells,j2,two_inj,sB,n1,histC,d1,d5]
   refine X5 f4 (by simp[histC,slOf]) rfl (by simp[histC,slOf]) ?_
   simp(disch:=first|(simp;done)|omega) [objCells,j2,two_inj]
   refine JN (cs:=[.int .i64 (JF g M[i]),.int .i64 (a:Int)]) (by simp[j2]) rfl rfl ?_
   simp
   refine YO (lo:=64) (hi:=s.nx) (v:=v) (L:=S++rdL g lvl M i) (p:=(JF g M[i],(a:Int))) (by simp[s7]) (.inr ⟨u,hv,by simp(disch:=first|(simp;done)|omega) [two_inj,nu,h2],h3,h4⟩) (by simp[sr]) (by simp[slCells,objCells,edC]) (by rw[List.length_append];omega) fun kl hq=>?_
   have Q:∀D,Off 64 D→kl.any (Nat.beq D)=false:=fun D hk=>by
    rcases hq with rfl|⟨u,h1,h2,rfl⟩
    ·rfl
    ·simp only[List.any_cons,List.any_nil,Bool.or_false]
     exact Yu (hk u h1)
   have k2:∀m,s.nx≤m→kl.any (Nat.beq (2*m+1))=false:=fun m U=>by
    rcases hq with rfl|⟨u,h1,h2,rfl⟩
    ·rfl
    ·simp only[List.any_cons,List.any_nil,Bool.or_false]
     exact Yu zO
   have K:=Q 1 n1
   rw[← b0]
   obtain⟨vs,es,e7⟩:=ev33 hs (nl:=mn) (on:=false) (O:=comL g) i3 zO lvl o ha (by rw[I])
   rw[jv3 h9,show jbl g lvl M [] (readH g)[i]=Jd g lvl M i by rw[Jd,e6,I]]at e7
   generalize k1:List.flatMap edC (S++rdL g lvl M i++rdK g lvl M i 0)=cs9
   simp(disch:=first|(simp;done)|omega) [s0,s4,s2,s8,b9,objCells,j2,two_inj,jD,K,n1,sB,histC,slOf]
   refine jO es (by simp[histC,slOf]) rfl (by simp[histC,slOf]) ?_
   refine XZ e7 fun e3 i4=>?_
   simp
   refine jY fun p y=>?_
   obtain⟨z,z1,z2,k5,pZ,p7,pE,zw⟩:∃z,64≤z∧z<p.nx∧p.tm 13=.ptr (2*z+1) z 0∧p.ob (2*z+1)=some ⟨z,.cells [.int .i64 (a:Int),.int .i64 (b:Int)]⟩∧p.tm 7=.osl (2*(s.nx+1344)+1) (s.nx+1344) 0 ((S++rdL g lvl M i).length+1) 2∧p.ob (2*(s.nx+1344)+1)=some ⟨s.nx+1344,.cells cs9⟩∧s.nx+1344<p.nx∧z<s.nx+1344:=by
    refine⟨s.nx+512,zO,?_,by rw[y];simp[Nat.add_assoc],?_,by rw[y];simp[Nat.add_assoc],?_,?_,zO⟩
    ·rw[y]
     first|omega|(simp;done)|(simp;omega)
    ·rw[y]
     have:=k2 (s.nx+512) zO
     simp(disch:=first|(simp;done)|omega) [jD,two_inj,Nat.add_assoc,this]
    ·rw[y]
     simp(disch:=first|(simp;done)|omega) [jD,two_inj,Nat.add_assoc]
    ·rw[y]
     first|omega|(simp;done)|(simp;omega)
   obtain⟨zw,zz⟩:=zw
   have p2:p.tm 2=slOf mn intC M:=by rw[y];simp[s2]
   have p4:p.tm 4=.ptr 1 0 0:=by rw[y];simp[s4]
   have i2:p.tm 12=.int .i64 i:=by rw[y];simp[b9]
   have i0:p.tm 14=.sl e3 false (Jd g lvl M i).length ((Jd g lvl M i).flatMap intC):=by rw[y];simp
   have f7:p.tm 15=.int .i64 0:=by rw[y];simp
   have pd:p.df=[]:=by rw[y];simp[sd]
   have pr:p.ro=0:=by rw[y];simp[sr]
   have pn:64≤p.nx:=zO
   have pB:p.ob 1=some ⟨0,.cells (histC g)⟩:=by
    rw[y]
    simp(disch:=first|(simp;done)|omega) [jD,n1,K,sB]
   clear y
   have k8:=ji1 g lvl M i
   have h6:(g.ts.flatMap jn)[a*3+2]? = some (slOf (g.ts[a]).nl opC (g.ts[a]).ops):=by rw[jR j7 g.ts ha (by decide:2<3)];rfl
   have i5:((g.ts[a]).ops.flatMap opC)[b*4+1]? = some (.int .i64 ((g.ts[a]).ops[b]).key):=by rw[jR jH (g.ts[a]).ops hb (by decide:1<4)];rfl
   have i9:jff g ((readH g).getD i (0,0))=((g.ts[a]).ops[b]).key:=by rw[e6,← I];exact h7
   have d6:=jm6 g lvl M i
   have k7:(S++rdL g lvl M i).length≤20000:=by rw[List.length_append];omega
   have e8:(S++rdL g lvl M i++rdK g lvl M i 0).length=(S++rdL g lvl M i).length+1:=by rw[b0,List.length_append (bs:=[_])];rfl
   rw[← List.append_right_inj S,← List.append_assoc]at d6
   generalize k9:S++rdL g lvl M i=B at *
   obtain⟨J4,b6⟩:∃J4:Nat→St→Prop,J4=fun j q=>q.tm 15=.int .i64 j∧(∃v,q.tm 7=v∧EdL q.ob (z+1) q.nx v (B++rdK g lvl M i j))∧q.ob (2*z+1)=some ⟨z,.cells [.int .i64 (a:Int),.int .i64 (b:Int)]⟩∧q.ob 1=some ⟨0,.cells (histC g)⟩∧z<q.nx:=⟨_,rfl⟩
   refine j8 [(7,7),(15,17),(104,156)] (Jd g lvl M i).length J4 rfl rfl (by rw[b6];exact⟨by simpa using f7,⟨_,p7,s.nx+1344,by rw[e8],by rw[pE,k1],zO,zO⟩,pZ,pB,z2⟩) ?_
   clear f7 p7 pE
   intro j q hj c7 f
   rw[b6]at c7
   obtain⟨a0,⟨w,q7,qI⟩,qZ,qB,qz⟩:=c7
   have q2:q.tm 2=slOf mn intC M:=by rw[f.t 2 zS,p2]
   have q4:q.tm 4=.ptr 1 0 0:=by rw[f.t 4 zS,p4]
   have d2:q.tm 12=.int .i64 i:=by rw[f.t 12 zS,i2]
   have h5:q.tm 13=.ptr (2*z+1) z 0:=by rw[f.t 13 zS,k5]
   have b5:q.tm 14=.sl e3 false (Jd g lvl M i).length ((Jd g lvl M i).flatMap intC):=by rw[f.t 14 zS,i0]
   have qd:q.df=[]:=by rw[f.d,pd]
   have qr:q.ro=0:=by rw[f.r,pr]
   clear f
   obtain⟨u2,hw,w2,w3,w4⟩:=qI
   by_cases H:j<(Jd g lvl M i).length
   ·have G:=jb H zO
    have X:=JY jC e3 false (Jd g lvl M i) .i64 H
    have T:=JX (Jd g lvl M i) H
    obtain⟨t,et,l5⟩:=jk7 (List.getElem_mem H)
    have n:=jwa (M:=M) H
    rw[f8,et,i9]at n
    rw[et]at T
    have el:=ev64 hs (t:Int) ((g.ts[a]).ops[b]).key
    have ez:(W3 (Jp g (t:Int)).2 ((g.ts[a]).ops[b]).key).2=Yq g t ((g.ts[a]).ops[b]).key:=rfl
    rw[ez]at el
    have k6:=jro g lvl M i j
    simp(disch:=first|(simp;done)|omega) [a0,b5,h5,q4,H,X,T,qB,qZ,objCells,histC,ha,hb,j5 j7,j5 jH,h6,i5]
    refine X5 el (by simp[histC]) rfl (by simp[histC]) ?_
    rw[Ji (by simp[V.plain,jv])]
    generalize (W3 (Jp g (t:Int)).2 ((g.ts[a]).ops[b]).key).1=rv at *
    generalize Yq g t ((g.ts[a]).ops[b]).key=rb at *
    simp(disch:=first|(simp;done)|omega) [jv,j2,objCells]
    refine⟨by first|omega|(simp[qr];omega),?_,?_⟩
    ·simp(disch:=first|(simp;done)|omega) [Jw,QR,Qv,jbf,rdOb,rdTk,lOf,uOf,Delta.wo,Delta.wt,q4,h5]
     exact⟨JW zO,JW zO⟩
    have n2:∀m,q.nx≤m→¬ 2*z+1=2*m+1:=fun m U=>by omega
    have c2:∀m,q.nx≤m→¬ u2=m:=fun m U=>by omega
    have e5:∀m,q.nx≤m→¬ z=m:=fun m U=>by omega
    have c9:∀m,q.nx≤m→¬ 1=2*m+1:=fun m U=>by omega
    cases b8:((t:Int) != M[i])
    ·rw[b8,Bool.and_false,if_neg zD,List.append_nil]at n
     simp(disch:=first|(simp;done)|omega) [a0,b5,q2,d2,X,T,d1,d5,b8,G,H]
     rw[b6]
     refine⟨zS,⟨w,by simp[q7],u2,by rw[n,hw],?_,w3,zL⟩,?_,?_,zL⟩
     ·rw[n]
      simp(disch:=first|(simp;done)|omega) [jD,two_inj,c2,w2]
     ·simp(disch:=first|(simp;done)|omega) [jD,two_inj,e5,qZ]
     ·simp(disch:=first|(simp;done)|omega) [jD,c9,qB]
    ·rw[b8,Bool.and_true]at n
     cases rb
     ·rw[if_neg zD,List.append_nil]at n
      simp(disch:=first|(simp;done)|omega) [a0,b5,q2,d2,X,T,d1,d5,b8,G,H]
      rw[b6]
      refine⟨zS,⟨w,by simp[q7],u2,by rw[n,hw],?_,w3,zL⟩,?_,?_,zL⟩
      ·rw[n]
       simp(disch:=first|(simp;done)|omega) [jD,two_inj,c2,w2]
      ·simp(disch:=first|(simp;done)|omega) [jD,two_inj,e5,qZ]
      ·simp(disch:=first|(simp;done)|omega) [jD,c9,qB]
     ·rw[if_pos rfl]at n
      simp(disch:=first|(simp;done)|omega) [a0,b5,q2,d2,q7,q4,X,T,d1,d5,b8,objCells,qB,c9,histC]
      refine X5 f4 (by simp[histC,slOf]) rfl (by simp[histC,slOf]) ?_
      simp(disch:=first|(simp;done)|omega) [objCells,j2,two_inj]
      refine JN (cs:=[.int .i64 (t:Int),.int .i64 (JF g M[i])]) (by simp[j2]) rfl rfl ?_
      simp
      refine YO (lo:=z+1) (hi:=q.nx) (v:=w) (L:=B++rdK g lvl M i j) (p:=((t:Int),JF g M[i])) (by simp[q7]) (.inr ⟨u2,hw,by simp(disch:=first|(simp;done)|omega) [two_inj,c2,w2],w3,w4⟩) (by simp[qr]) (by simp[slCells,objCells,edC]) (by rw[List.length_append];omega) fun kl hq=>?_
      have Q:∀D,Off (z+1) D→kl.any (Nat.beq D)=false:=fun D hk=>by
       rcases hq with rfl|⟨u,h1,h2,rfl⟩
       ·rfl
       ·simp only[List.any_cons,List.any_nil,Bool.or_false]
        exact Yu (hk u h1)
      have K:=Q 1 fun m U=>by omega
      have i8:=Q (2*z+1) fun m U=>by omega
      rw[List.append_assoc,← n]
      have c4:(B++rdK g lvl M i (j+1)).length=(B++rdK g lvl M i j).length+1:=by rw[n,← List.append_assoc,List.length_append (bs:=[_])];rfl
      generalize hB:B++rdK g lvl M i (j+1)=B' at *
      generalize B++rdK g lvl M i j=A at *
      simp(disch:=first|(simp;done)|omega) [a0,G,H]
      rw[b6]
      refine⟨zS,⟨.osl (2*(q.nx+3392)+1) (q.nx+3392) 0 B'.length 2,by simp[c4,Nat.add_assoc],q.nx+3392,by rw[hB],?_,zO,zL⟩,?_,?_,zL⟩
      ·rw[hB]
       simp(disch:=first|(simp;done)|omega) [jD,Nat.add_assoc]
      ·simp(disch:=first|(simp;done)|omega) [jD,two_inj,e5,i8,qZ]
      ·simp(disch:=first|(simp;done)|omega) [jD,c9,K,qB]
   ·have e:j=(Jd g lvl M i).length:=zO
    subst e
    simp(disch:=first|(simp;done)|omega) [a0,b5,d2,e0,o]
    rw[e4]
    rw[← d6]at hw w2
    exact⟨zS,⟨w,by simpa using q7,u2,hw,by simpa using w2,zO,zL⟩,by simpa using qB,zL⟩
  ·have e:i=(readH g).length:=zO
   subst e
   obtain⟨u,hv,h2,h3,h4⟩:=sI
   have k0:=jlc g lvl M h8 (readH g).length
   have i1:(S++rdL g lvl M (readH g).length).length≤20000:=by rw[List.length_append];omega
   generalize S++rdL g lvl M (readH g).length=l at *
   have k4:=jb (Nat.lt_succ_self g.ts.length) zO
   simp(disch:=first|(simp;done)|omega) [b9,s9,s4,rdV,objCells,sB,histC,k4]
   refine jU (vs:=[.int .i64 ((g.ts.length+1:Nat):Int),v]) (by simp[s7]) rfl (sv95 (N:=g.ts.length+1) (l:=l) (lo:=64) (hi:=s.nx) (.inr ⟨u,hv,by simpa using h2,h3,h4⟩) zL zO (jk8 U d8) (by first|omega|(simp[sr];done)|(simp[sr];omega))) ?_
   rintro v1 l7 l4 l1 ⟨w,w1,w2,w3,w4,_⟩
   simp only at w1 w2 w3 w4
   subst w3
   simp
   refine js6 (vs:=[.ptr (2*w+1) w 0]) zS rfl rfl (evo96 (L:=ofE l) (lo:=w+1) (kG:=2*w+1) (uG:=w) (N:=g.ts.length+1) (by simpa using w4) (Off.new zL) (Nat.le_trans (ofE_len l) zO) zO _ _) fun r hr=>?_
   refine XZ hr fun t1 add=>?_
   simp
   have he:J6 (ofE l) (g.ts.length+1) (g.ts.length+1)=jV (g.ts.length+1) fun a b=>l.contains ((a:Int),(b:Int)):=by
    rw[jl9]
    congr
    funext a b
    rw[Bool.eq_iff_iff]
    simp[j10]
   rw[he]at hr
   refine slE (k:=(J6 (ofE l) (g.ts.length+1) (g.ts.length+1)).length) (cs:=(J6 (ofE l) (g.ts.length+1) (g.ts.length+1)).flatMap edC) (nl:=false) (t:=t1) (fun r hr=>⟨l,d8,?_⟩) (by simp[sd]) zS
   rw[hP]
   show SlR _ _ _ _
   rw[← he]
   exact hr
end
section
variable {g:Hist'}{M:List Int}{kX uX lo:Nat}{ob:ZO}{ub:Nat}{L:List P2}
def sesT (g:Hist') (i:Nat) (s:Int):List Int:=((comL g).take i).filter fun a=>sesAt g a.toNat == s
theorem jiw {i:Nat}(h:i<(comL g).length) (s:Int):sesT g (i+1) s=sesT g i s++if sesAt g (comL g)[i].toNat == s then [(comL g)[i]] else []:=by
 unfold sesT
 rw[List.take_succ_eq_append_getElem h,List.filter_append]
 congr 1
 cases h:sesAt g (comL g)[i].toNat == s <;> simp only[List.filter_cons,List.filter_nil,h,if_true,Bool.false_eq_true,if_false]
theorem jv1 (g:Hist') (i:Nat) (s:Int):(sesT g i s).length≤i:=by
 unfold sesT
 have:=List.length_filter_le (fun a:Int=>sesAt g a.toNat == s) ((comL g).take i)
 rw[List.length_take]at this
 omega
theorem jmr (l:List Int) (p:Int→Bool):∀i,i≤l.length→((List.range i).filter fun k=>p (l.getD k 0)).map (fun k=>l.getD k 0)=(l.take i).filter p
 | 0,_=>rfl
 | i+1,h=>by
  have e:l.getD i 0=l[i]:=by simp[List.getD_eq_getElem?_getD,List.getElem?_eq_getElem (show i<l.length by omega)]
  rw[List.range_succ,List.filter_append,List.map_append,jmr l p i zO,List.take_succ_eq_append_getElem zO,List.filter_append]
  congr 1
  cases a:p l[i] <;> simp only[List.filter_cons,List.filter_nil,e,a,if_true,Bool.false_eq_true,if_false,List.map_cons,List.map_nil]
theorem j5o {i:Nat}(h:i<(comL g).length):jv2 g i=((g.ts.length:Int),(comL g)[i])::(sesT g i (sesAt g (comL g)[i].toNat)).map fun a=>(a,(comL g)[i]):=by
 have e:(comL g).getD i 0=(comL g)[i]:=by simp[List.getD_eq_getElem?_getD,List.getElem?_eq_getElem h]
 unfold jv2 sesT
 rw[e,← jmr (comL g) (fun a=>sesAt g a.toNat == sesAt g (comL g)[i].toNat) i zO,List.map_map]
 rfl
def osV (p:Nat × Nat):V:=.osl (2*p.1+1) p.1 0 p.2 1
structure SesM (g:Hist') (ob:ZO) (lo hi kM uM i:Nat) (m:List (Int × (Nat × Nat))):Prop where
 o:ob kM=some ⟨uM,.mp i (MP osV m)⟩
 z:∀s,(JS m s).map (·.2)=none→sesT g i s=[]
 s:∀s u n,(JS m s).map (·.2)=some (u,n)→n=(sesT g i s).length∧ob (2*u+1)=some ⟨u,.cells ((sesT g i s).flatMap intC)⟩∧lo≤u∧u<hi
 j:∀s s' u n n',(JS m s).map (·.2)=some (u,n)→(JS m s').map (·.2)=some (u,n')→s=s'
theorem SesM.frame {ob':ZO}{hi a b d i:Nat}{m:List (Int × (Nat × Nat))}(h:SesM g ob lo hi b d i m) (l:ob' b=ob b) (k:∀s u n,(JS m s).map (·.2)=some (u,n)→ob' (2*u+1)=ob (2*u+1)) (r:hi≤a):SesM g ob' lo a b d i m :=
 ⟨l.trans h.o,h.z,fun s u n c=>by
  obtain⟨e,p,f,q⟩:=h.s s u n c
  exact⟨e,(k s u n c).trans p,f,zO⟩,h.j⟩
theorem SesM.next {ob':ZO}{hi d t v i w:Nat}{m:List (Int × (Nat × Nat))}(h:SesM g ob lo hi t v i m) (l:i<(comL g).length) {b:Int}(x:b=sesAt g (comL g)[i].toNat) (D:ob' t=some ⟨v,.mp (i+1) (MP osV (jib m b (w,(sesT g i b).length+1)))⟩)
 (q:∀s u n,s≠b→(JS m s).map (·.2)=some (u,n)→ob' (2*u+1)=ob (2*u+1)) (F:ob' (2*w+1)=some ⟨w,.cells ((sesT g i b++[(comL g)[i]]).flatMap intC)⟩) (K:hi≤w) (G:lo≤w) (y:w<d) (O:hi≤d):SesM g ob' lo d t v (i+1) (jib m b (w,(sesT g i b).length+1)):=by
 have o:∀s,s≠b→sesT g (i+1) s=sesT g i s:=fun s q=>by
  rw[jiw l,show(sesAt g (comL g)[i].toNat == s)=false by rw[← x];simpa using Ne.symm q,if_neg zD,List.append_nil]
 have r:sesT g (i+1) b=sesT g i b++[(comL g)[i]]:=by rw[jiw l,← x,beq_self_eq_true,if_pos rfl]
 refine⟨D,fun s f=>?_,fun s u n c=>?_,fun s p u n I c a=>?_⟩
 ·rw[Wq]at f
  by_cases e:s=b
  ·rw[if_pos e]at f
   cases f
  ·rw[if_neg e]at f
   rw[o s e]
   exact h.z s f
 ·rw[Wq]at c
  by_cases e:s=b
  ·rw[if_pos e]at c
   cases c
   subst e
   rw[r]
   exact⟨zS,F,G,y⟩
  ·rw[if_neg e]at c
   rw[o s e]
   obtain⟨J,B,H,N⟩:=h.s s u n c
   exact⟨J,(q s u n e c).trans B,H,zO⟩
 ·rw[Wq]at c a
  by_cases e:s=b
  ·by_cases k:p=b
   ·rw[e,k]
   ·rw[if_pos e]at c
    rw[if_neg k]at a
    cases c
    have:=(h.s p _ _ a).2.2.2
    omega
  ·by_cases k:p=b
   ·rw[if_neg e]at c
    rw[if_pos k]at a
    cases a
    have:=(h.s s _ _ c).2.2.2
    omega
   ·rw[if_neg e]at c
    rw[if_neg k]at a
    exact h.j s p u n I c a
end
def LsV (ob:ZO) (lo hi:Nat) (v:V) (T:List Int):Prop:=(v=.sl none true 0 []∧T=[])∨IntL ob lo hi v T
theorem LsV.len {ob:ZO}{lo hi:Nat}{v:V}{L:List Int}(h:LsV ob lo hi v L):Qa v=some (.int .i64 (L.length:Nat)):=by
 rcases h with⟨rfl,rfl⟩|⟨u,rfl,_⟩ <;> rfl
theorem jl0 {F:Env}{Yf:YF}{lo hi ub:Nat}{v:V}{T:List Int}{p:Int}{s x:A}{st:St}{K:St→Nat→Prop}{d:Option Nat}(b:eval F st.tm s=v) (l:LsV st.ob lo hi v T) (k:st.ro≤lo) (c:slCells st.ob 1 (eval F st.tm x)=some (intC p)) (o:T.length≤1000000)
 (h:∀a:List Nat,(a=[]∨∃u,v=.osl (2*u+1) u 0 T.length 1∧lo≤u∧u<hi∧a=[2*u+1])→WZ K st d ub { v:=.osl (2*ub+1) ub 0 (T.length+1) 1,obs:=[(2*ub+1,⟨ub,.cells ((T++[p]).flatMap intC)⟩)],kill:=a }):j6 F Yf ⟨d,.append true 1 8 s x,none,true⟩ st ub K:=by
 rcases l with⟨rfl,rfl⟩|⟨u,rfl,j,e,n⟩
 ·refine XE b c (by simp[intC]) zD rfl (by simp[intC]) (by simp[intC]) ?_
  simpa[intC,jG] using h [] (.inl rfl)
 ·have f:=j4 jC T
  refine XN (cs:=T.flatMap intC) b c j (by simp[intC]) zO zO zD rfl (by simp[intC];omega) (by simp[intC];omega) ?_
  have:=h [2*u+1] (.inr ⟨u,rfl,e,n,rfl⟩)
  rw[List.take_of_length_le zO]
  simpa[intC,jG] using this
def lkV (m:List (Int × (Nat × Nat))) (s:Int):V:=match JS m s with
 | none=>.sl none true 0 []
 | some p=>osV p.2
section
variable {g:Hist'}{mv rv:V}{kX uX lo kM uM:Nat}{ob0 ob:ZO}{nx i:Nat}{Z:List P2}{m:List (Int × (Nat × Nat))}
theorem SesM.look {hi:Nat}(h:SesM g ob lo hi kM uM i m) (s:Int):Qq ob .int (.sl none true 0 []) false (.map kM uM) (.int .i64 s)=some (lkV m s):=by
 rw[jgg (f:=osV) m (by simp[jg,h.o])]
 unfold lkV
 cases JS m s <;> rfl
theorem SesM.ls {hi:Nat}(h:SesM g ob lo hi kM uM i m) (s:Int):LsV ob lo hi (lkV m s) (sesT g i s):=by
 unfold lkV
 cases a:JS m s with
 | none=>exact .inl ⟨rfl,h.z s (by rw[a];rfl)⟩
 | some p=>
  obtain⟨j,u,n⟩:=p
  obtain⟨b,d,c,e⟩:=h.s s u n (by rw[a];rfl)
  exact .inr ⟨u,by rw[← b];rfl,d,c,e⟩
structure SesJ (g:Hist') (mv rv:V) (kX uX lo kM uM:Nat) (ob0 ob:ZO) (nx:Nat) (Z:List P2) (i:Nat) (m:List (Int × (Nat × Nat))):Prop where
 e:∃lv,ob kX=some ⟨uX,.cells (mkS g mv rv lv)⟩∧EdV ob lo nx lv Z∧jy4 lv Z kM∧∀s u n,(JS m s).map (·.2)=some (u,n)→jy4 lv Z (2*u+1)
 q:SesM g ob (uM+1) nx kM uM i m
 w:∀key,Off lo key→key≠kX→ob key=ob0 key
 h:lo≤uM∧uM<nx∧kM=2*uM+1
 x:Off lo kX
theorem SesJ.up {nx':Nat}(h:SesJ g mv rv kX uX lo kM uM ob0 ob nx Z i m) (a:nx≤nx'):SesJ g mv rv kX uX lo kM uM ob0 ob nx' Z i m:=by
 obtain⟨⟨j,c,f,k,d⟩,q,w,⟨b,l,e⟩,x⟩:=h
 exact⟨⟨j,c,f.frame (fun _ _ _=>rfl) a,k,d⟩,q.frame rfl (fun _ _ _ _=>rfl) a,w,⟨b,zO,e⟩,x⟩
theorem SesJ.put {Yf:YF}{tk:Nat→Bool}{ro base:Nat}(h:SesJ g mv rv kX uX lo kM uM ob0 ob nx Z i m) (l:ro≤lo) (z:ro≤uX) (L:Z.length≤100000) (a b:Int) :
 ∃r,EvS E Yf.y 137 [.ptr kX uX 0,.int .i64 a,.int .i64 b] ob tk ro base nx r∧nx≤r.2.2.2∧SesJ g mv rv kX uX lo kM uM ob0 r.2.1 r.2.2.2 (Z++[(JF g a,JF g b)]) i m:=by
 obtain⟨⟨lv,Q,I,T,M⟩,q,w,⟨B,F,k⟩,x⟩:=h
 obtain⟨r,N,J,⟨j,U,u,H,P,X,K⟩,v⟩:=jq0 (Yf:=Yf) (tk:=tk) (ro:=ro) (base:=base) Q I x zO l z L a b
 have c:∀y,y<nx→jy4 j (Z++[(JF g a,JF g b)]) (2*y+1):=fun y d w D=>by
  rw[H]at D
  have:u=w:=by injection D
  omega
 have p:kM≠kX:=fun e=>x uM B (by rw[← k,e])
 have t:∀y,uM+1≤y→2*y+1≠kX:=fun y d e=>x y zO e.symm
 refine⟨r,N,J,⟨j,U,.inr ⟨u,H,P,zO,K⟩,by rw[k];exact c uM F,fun s y n d=>c y (q.s s y n d).2.2.2⟩,q.frame (v kM (by rw[k];exact Off.new F) p T) (fun s y n d=>?_) J,fun f o G=>(v f (o.up zO) G (I.off o)).trans (w f o G),⟨B,zO,k⟩,x⟩
 obtain⟨_,_,S,O⟩:=q.s s y n d
 exact v _ (Off.new O) (t y S) (M s y n d)
theorem SesJ.next {ob':ZO}{nx' w:Nat}{kl:List Nat}{c:Int}(h:SesJ g mv rv kX uX lo kM uM ob0 ob nx Z i m) (I:i<(comL g).length) (h0:c=sesAt g (comL g)[i].toNat)
 (hM:ob' kM=some ⟨uM,.mp (i+1) (MP osV (jib m c (w,(sesT g i c).length+1)))⟩) (hw:ob' (2*w+1)=some ⟨w,.cells ((sesT g i c++[(comL g)[i]]).flatMap intC)⟩) (G:kl=[]∨∃u,lkV m c=.osl (2*u+1) u 0 (sesT g i c).length 1∧uM+1≤u∧u<nx∧kl=[2*u+1])
 (l:∀a,Off nx a→a≠kM→kl.any (Nat.beq a)=false→ob' a=ob a) (L:nx≤w) (h2:w<nx'):SesJ g mv rv kX uX lo kM uM ob0 ob' nx' Z (i+1) (jib m c (w,(sesT g i c).length+1)):=by
 obtain⟨⟨K,e1,r,Q,O⟩,q,U,⟨t,l2,z⟩,x⟩:=h
 have J:kX≠kM:=fun e=>x uM t (by rw[← z,e])
 have d:∀a,(∀u n,(JS m c).map (·.2)=some (u,n)→a≠2*u+1)→kl.any (Nat.beq a)=false:=fun a B=>by
  rcases G with rfl|⟨u,b,_,_,rfl⟩
  ·rfl
  ·simp only[List.any_cons,List.any_nil,Bool.or_false]
   refine JW (B u (sesT g i c).length ?_)
   unfold lkV at b
   cases M:JS m c with
   | none=>rw[M]at b;cases b
   | some p=>
    rw[M]at b
    obtain⟨j,v,n⟩:=p
    simp only[osV]at b
    injection b with _ a2 _ a4 _
    subst a2 a4
    rfl
 have f:∀a,Off lo a→kl.any (Nat.beq a)=false:=fun a B=>d a fun u n b e=>B u (by have:=(q.s c u n b).2.2.1;omega) e
 have H:EdV ob' lo nx' K Z:=by
  rcases r with r|⟨v,rfl,S,X,N⟩
  ·exact .inl r
  ·refine .inr ⟨v,rfl,(l _ (Off.new N) (fun e=>Q v rfl e.symm) (d _ fun u n b e=>O c u n b v rfl e.symm)).trans S,X,zO⟩
 have k:∀y,nx≤y→jy4 K Z (2*y+1):=fun y hy v P=>by
  rcases r with⟨rfl,_⟩|⟨T,rfl,_,_,N⟩
  ·cases P
  ·have:T=v:=by injection P
   omega
 refine⟨⟨K,(l _ (x.up zO) J (f _ x)).trans e1,H,Q,fun s u n b=>?_⟩,q.next I h0 hM (fun s u n D b=>?_) hw L zO h2 zO,fun a o k2=>(l a (o.up zO) (fun e=>o uM t (by rw[← z,e])) (f _ o)).trans (U a o k2),⟨t,zO,z⟩,x⟩
 ·rw[Wq]at b
  by_cases e:s=c
  ·rw[if_pos e]at b
   cases b
   exact k _ L
  ·rw[if_neg e]at b
   exact O s u n b
 ·obtain⟨_,_,q3,q4⟩:=q.s s u n b
  refine l _ (Off.new q4) zO (d _ fun u' n' F e=>?_)
  have:u=u':=zO
  subst this
  exact D (q.j s c u n n' b F)
end
section
variable {g:Hist'}{mv rv:V}{kX uX lo:Nat}{ob:ZO}{ub:Nat}
theorem sv87 {Yf:YF}(hs:Small g) (hw:JQ g=true) (h8:g.ts.length≤8) {tk:Nat→Bool}{ro base:Nat}(hX:MkR g mv rv kX uX lo ob ub []) (hk:Off lo kX) (O:lo≤ub) (g4:ro≤lo) (g6:ro≤uX) :
 ∃r,EvS E Yf.y 87 [.ptr kX uX 0] ob tk ro base ub r∧ub≤r.2.2.2∧MkR g mv rv kX uX lo r.2.1 r.2.2.2 (sesL g (comL g).length)∧∀b,Off lo b→b≠kX→r.2.1 b=ob b:=by
 have g1:=jdb g
 obtain⟨vc,f3,b8⟩:=ev71 hs
 rw[juf hw]at b8
 obtain⟨e3,c6,b5⟩:=hX
 have oX:=(hk.up O).ne
 refine Jn (af:=S87) rfl zD ?_
 show wpC E Yf S87.body _ (XT S87.res _)
 simp(disch:=first|(simp;done)|omega) [S87,objCells,c6,mkS,histC,oX]
 refine jO f3 (by simp[histC]) rfl (by simp[histC]) ?_
 refine XZ b8 fun L add=>?_
 simp
 refine jY fun H x=>?_
 obtain⟨z,u1,u2,g2,gM⟩:∃u,ub≤u∧u<H.nx∧H.tm 2=.map (2*u+1) u∧H.ob (2*u+1)=some ⟨u,.mp 0 []⟩:=by
  refine⟨ub,zR,?_,by rw[x];simp,by rw[x];simp⟩
  rw[x]
  simp
  omega
 have g0:H.tm 0=.ptr kX uX 0:=by rw[x];simp
 have f2:H.tm 13=.sl L (comL g).isEmpty (comL g).length ((comL g).flatMap intC):=by rw[x];simp
 have d6:H.tm 14=.int .i64 (comL g).length:=by rw[x];simp
 have c2:H.tm 15=.int .i64 0:=by rw[x];simp
 have gd:H.df=[]:=by rw[x];simp
 have gr:H.ro=ro:=by rw[x];simp
 have go:∀b,Off ub b→H.ob b=ob b:=fun b hk=>by
  have:=hk.ne
  rw[x]
  simp(disch:=first|(simp;done)|omega) [this]
 clear x
 have gJ:SesJ g mv rv kX uX lo (2*z+1) z ob H.ob H.nx [] 0 []:=by
  refine⟨⟨e3,(go _ (hk.up O)).trans c6,b5.frame (fun u _ h=>go _ (Off.new h)) zO,?_,fun s u n h=>by simp[JS]at h⟩,⟨gM,fun s _=>by simp[sesT],fun s u n h=>by simp[JS]at h,fun s s' u n n' h=>by simp[JS]at h⟩,fun b k1 _=>go b (k1.up O),⟨zO,u2,rfl⟩,hk⟩
  rcases b5 with⟨rfl,_⟩|⟨w,rfl,_,_,w4⟩
  ·exact fun u hu=>by cases hu
  ·exact fun u hu=>by
    have:w=u:=by injection hu
    omega
 obtain⟨J,hJ⟩:∃J:Nat→St→Prop,J=fun i s=>s.tm 15=.int .i64 i∧∃m,SesJ g mv rv kX uX lo (2*z+1) z ob s.ob s.nx (sesL g i) i m:=⟨_,rfl⟩
 refine j8 [(4,7),(15,52)] (comL g).length J rfl rfl (by rw[hJ];exact⟨by simpa using c2,[],gJ⟩) ?_
 clear gJ c2 go gM
 intro i s hi c1 f
 rw[hJ]at c1
 obtain⟨M,m,sJ⟩:=c1
 have s0:s.tm 0=.ptr kX uX 0:=by rw[f.t 0 zS,g0]
 have s2:s.tm 2=.map (2*z+1) z:=by rw[f.t 2 zS,g2]
 have c0:s.tm 13=.sl L (comL g).isEmpty (comL g).length ((comL g).flatMap intC):=by rw[f.t 13 zS,f2]
 have X:s.tm 14=.int .i64 (comL g).length:=by rw[f.t 14 zS,d6]
 have sd:s.df=[]:=by rw[f.d,gd]
 have sr:s.ro=ro:=by rw[f.r,gr]
 clear f
 by_cases B:i<(comL g).length
 ·have d0:=jb B zO
  have e6:=JY jC L (comL g).isEmpty (comL g) .i64 B
  have b6:=JX (comL g) B
  have c9:(comL g).getD i 0=(comL g)[i]:=by simp[List.getD_eq_getElem?_getD,List.getElem?_eq_getElem B]
  obtain⟨c,hc,_,c5⟩:=jkc B
  rw[c9]at hc
  have d3:=Q8 g 8 i zO
  have f5:(sesL g i).length≤72:=Nat.le_trans d3 (by have:i*(8+1)≤8*9:=Nat.mul_le_mul_right 9 zO;omega)
  have hE:=j5o B
  have f0:sesL g (i+1)=sesL g i++jv2 g i:=by unfold sesL;rw[List.range_succ,List.flatMap_append];simp
  have b0:sesAt g (comL g)[i].toNat=sesAt g c:=by rw[hc,Int.toNat_natCast]
  have x1:=j5 j7 g.tn g.ts .i64 c5
  have x2:(g.ts.flatMap jn)[c*3]? = some (.int .i64 (sesAt g c)):=j1f c5
  have g8:=jv1 g i (sesAt g c)
  rw[b0]at hE
  rw[hc]at b6
  have d5:JF g (-1)=g.ts.length:=rfl
  have b7:JF g (c:Int)=c:=by unfold JF;rw[if_neg zO]
  simp(disch:=first|(simp;done)|omega) [M,X,c0,s0,B,e6,b6]
  refine jU (vs:=[.ptr kX uX 0,.int .i64 (-1),.int .i64 (c:Int)]) zS rfl ((sJ.up zL).put (by first|omega|(simp[sr];done)|(simp[sr];omega)) (by first|omega|(simp[sr];done)|(simp[sr];omega)) zO _ _) ?_
  rintro v1 f1 g7 g3 ⟨r1,N⟩
  simp only at r1 N
  rw[d5,b7]at N
  obtain⟨f9,c7,_⟩:=id N.e
  simp(disch:=first|(simp;done)|omega) [s0,objCells,c7,mkS,histC,x1,x2,s2]
  have I:=N.q.look (sesAt g c)
  have F:=N.q.ls (sesAt g c)
  simp(disch:=first|(simp;done)|omega) [I,F.len]
  refine jY fun p G=>?_
  have p0:p.tm 0=.ptr kX uX 0:=by rw[G];simp[s0]
  have p2:p.tm 2=.map (2*z+1) z:=by rw[G];simp[s2]
  have p4:p.tm 4=.int .i64 c:=by rw[G];simp
  have p5:p.tm 5=.int .i64 (sesAt g c):=by rw[G];simp
  have g9:p.tm 13=.sl L (comL g).isEmpty (comL g).length ((comL g).flatMap intC):=by rw[G];simp[c0]
  have d2:p.tm 14=.int .i64 (comL g).length:=by rw[G];simp[X]
  have d8:p.tm 15=.int .i64 i:=by rw[G];simp[M]
  have e0:p.tm 33=lkV m (sesAt g c):=by rw[G];simp
  have e7:p.tm 34=.int .i64 (sesT g i (sesAt g c)).length:=by rw[G];simp
  have a0:p.tm 35=.int .i64 0:=by rw[G];simp
  have pd:p.df=[]:=by rw[G];simp[sd]
  have pr:p.ro=ro:=by rw[G];simp[sr]
  have pJ:SesJ g mv rv kX uX lo (2*z+1) z ob p.ob p.nx (sesL g i++((g.ts.length:Int),(c:Int))::((sesT g i (sesAt g c)).take 0).map fun a=>(a,(c:Int))) i m:=by
   have:=N.up (nx':=p.nx) (by rw[G];first|omega|(simp;done)|(simp;omega))
   have e:p.ob=f1:=by rw[G];simp
   rw[e]
   simpa using this
  clear G I F N c7
  have d1:∀a∈sesT g i (sesAt g c),JF g a=a:=fun a ha=>by
   unfold sesT at ha
   obtain⟨k,hk,_⟩:=comL_mem.1 (List.mem_of_mem_take (List.mem_filter.1 ha).1)
   unfold JF
   rw[if_neg zO]
  rw[hc]at hE
  generalize K:sesT g i (sesAt g c)=T at *
  obtain⟨J2,P⟩:∃J2:Nat→St→Prop,J2=fun j q=>q.tm 35=.int .i64 j∧SesJ g mv rv kX uX lo (2*z+1) z ob q.ob q.nx (sesL g i++((g.ts.length:Int),(c:Int))::(T.take j).map fun a=>(a,(c:Int))) i m:=⟨_,rfl⟩
  refine j8 [(7,7),(35,43)] T.length J2 rfl rfl (by rw[P];exact⟨by simpa using a0,pJ⟩) ?_
  clear a0 pJ
  intro j q hj c8 f
  rw[P]at c8
  obtain⟨U,Q⟩:=c8
  have q0:q.tm 0=.ptr kX uX 0:=by rw[f.t 0 zS,p0]
  have q2:q.tm 2=.map (2*z+1) z:=by rw[f.t 2 zS,p2]
  have q4:q.tm 4=.int .i64 c:=by rw[f.t 4 zS,p4]
  have q5:q.tm 5=.int .i64 (sesAt g c):=by rw[f.t 5 zS,p5]
  have d7:q.tm 15=.int .i64 i:=by rw[f.t 15 zS,d8]
  have f6:q.tm 14=.int .i64 (comL g).length:=by rw[f.t 14 zS,d2]
  have e8:q.tm 33=lkV m (sesAt g c):=by rw[f.t 33 zS,e0]
  have b9:q.tm 34=.int .i64 T.length:=by rw[f.t 34 zS,e7]
  have qd:q.df=[]:=by rw[f.d,pd]
  have Z:q.ro=ro:=by rw[f.r,pr]
  clear f
  have F:=Q.q.ls (sesAt g c)
  rw[K]at F
  by_cases D:j<T.length
  ·have c3:=jb D zO
   rcases F with⟨_,rfl⟩|⟨u,hv,ho,_,_⟩
   ·simp at D
   have e5:=ju1 (l:=2*u+1) (u:=u) (kk:=.i64) D
   have c4:=JX T D
   have d4:=d1 _ (List.getElem_mem D)
   have d9:(T.take (j+1)).map (fun a=>(a,(c:Int)))=(T.take j).map (fun a=>(a,(c:Int)))++[(T[j],(c:Int))]:=by rw[List.take_succ_eq_append_getElem D,List.map_append];rfl
   simp(disch:=first|(simp;done)|omega) [U,b9,e8,q0,q4,D,hv,e5,objCells,ho,c4]
   refine jU (vs:=[.ptr kX uX 0,.int .i64 T[j],.int .i64 (c:Int)]) zS rfl ((Q.up zL).put (by first|omega|(simp[Z];done)|(simp[Z];omega)) (by first|omega|(simp[Z];done)|(simp[Z];omega)) (by simp;omega) _ _) ?_
   rintro v2 e9 f7 f4 ⟨z1,z2⟩
   simp only at z1 z2
   rw[d4,b7,List.append_assoc,List.cons_append,← d9]at z2
   simp(disch:=first|(simp;done)|omega) [U,c3,D]
   rw[P]
   exact⟨zS,(by simpa using z2:SesJ g mv rv kX uX lo (2*z+1) z ob e9 f4 _ i m).up zL⟩
  ·have:j=T.length:=zO
   subst this
   rw[List.take_of_length_le zR,← hE,← f0]at Q
   have I:=Q.q.look (sesAt g c)
   simp(disch:=first|(simp;done)|omega) [U,b9,q2,q4,q5,I]
   refine jo (cs:=[.int .i64 (c:Int)]) (by simp[j2]) rfl rfl ?_
   simp
   have f8:=F
   refine jl0 (lo:=z+1) (hi:=q.nx) (v:=lkV m (sesAt g c)) (T:=T) (p:=(c:Int)) zS ?_ (by simp[Z];omega) (by simp[slCells,objCells,intC]) zO fun kl S=>?_
   ·rcases F with h|⟨u,hv,ho,h3,h4⟩
    ·exact .inl h
    ·refine .inr ⟨u,hv,?_,h3,h4⟩
     have:∀m,q.nx≤m→¬ u=m:=fun m hm=>by omega
     simp(disch:=first|(simp;done)|omega) [two_inj,this,ho]
   have hq:=Q.q.o
   obtain⟨l1,l2,l3⟩:=Q.h
   have nM:∀m,q.nx≤m→¬ z=m:=fun m hm=>by omega
   have e4:kl.any (Nat.beq (2*z+1))=false:=by
    rcases S with rfl|⟨u,_,h1,_,rfl⟩
    ·rfl
    ·simp only[List.any_cons,List.any_nil,Bool.or_false]
     exact JW zO
   have g5:∀m,q.nx≤m→kl.any (Nat.beq (2*m+1))=false:=fun m hm=>by
    rcases S with rfl|⟨u,_,_,h2,rfl⟩
    ·rfl
    ·simp only[List.any_cons,List.any_nil,Bool.or_false]
     exact JW zO
   simp(disch:=first|(simp;done)|omega)
   refine jaz (f:=osV) (a:=(q.nx+512,T.length+1)) (ver:=i) (l:=2*z+1) (u:=z) (k:=sesAt g c) m zS zS (by simp[osV,Nat.add_assoc,V.strip]) (by simp(disch:=first|(simp;done)|omega) [jD,two_inj,nM,e4,hq]) (by simp[Z];omega) ?_
   simp(disch:=first|(simp;done)|omega) [d7,d0,B]
   rw[hJ]
   rw[← K]
   refine⟨zS,jib m (sesAt g c) (q.nx+512,(sesT g i (sesAt g c)).length+1),Q.next (kl:=kl) B b0.symm ?_ ?_ (by rw[K];exact S) (fun b k1 k2 k3=>?_) zO zL⟩
   ·simp
   ·rw[K,hc]
    simp(disch:=first|(simp;done)|omega) [jD,two_inj,Nat.add_assoc,Ne.symm (nM _ _)]
   ·have:=k1.ne
    simp(disch:=first|(simp;done)|omega) [jD,this,k2,k3]
 ·have:i=(comL g).length:=zO
  subst this
  simp(disch:=first|(simp;done)|omega) [M,X]
  obtain⟨⟨lv,e1,e2,_⟩,_,w,h,_⟩:=sJ
  exact jda (.inl rfl) (by simp[sd]) ⟨zL,⟨lv,by simpa using e1,e2.frame (fun _ _ _=>by simp) zL⟩,fun b h1 h2=>by simpa using w b h1 h2⟩
end
def revE (n:Nat) (L:List P2):List P2:=(L.filter fun z=>decide (z.1<(n:Int))).map fun z=>(z.2,z.1)
theorem jri (n:Nat) (L:List P2) (z:P2):revE n (L++[z])=revE n L++if z.1<(n:Int) then [(z.2,z.1)] else []:=by
 unfold revE
 rw[List.filter_append,List.map_append]
 congr 1
 by_cases h:z.1<(n:Int) <;> simp[h]
theorem jmz (n:Nat) (L:List P2):(revE n L).length≤L.length:=by
 unfold revE
 rw[List.length_map]
 exact List.length_filter_le _ _
theorem EdV.toA {ob:ZO}{lo hi a:Nat}{v:V}{L:List P2}(h:EdV ob lo hi v L) (f:hi≤a):EdA a ob v L:=by
 rcases h with⟨rfl,rfl⟩|⟨u,b,c,d,e⟩
 ·exact .inl ⟨none,true,rfl⟩
 ·exact .inr ⟨2*u+1,u,b,c,Off.new zO⟩
structure PastO (kX uX:Nat) (R:List P2) (u1 u3 hi:Nat) (ob:ZO):Prop where
 a:ob (2*u1+1)=some ⟨u1,.cells [.ptr kX uX 0]⟩
 b:∃lv,ob (2*u3+1)=some ⟨u3,.cells [lv]⟩∧EdV ob (u3+1) hi lv R
 h:u1<u3∧u3<hi
theorem PastO.keep {kX uX d f hi c:Nat}{R:List P2}{ob ob':ZO}(h:PastO kX uX R d f hi ob) (e:∀u,d≤u→u<hi→ob' (2*u+1)=ob (2*u+1)) (k:hi≤c):PastO kX uX R d f c ob':=by
 obtain⟨l,b1,b2⟩:=h.b
 have i:=h.h
 exact⟨(e d zR zO).trans h.a,⟨l,(e f zO i.2).trans b1,b2.frame (fun u m j=>e u zO j) k⟩,i.1,zO⟩
section
variable {g:Hist'}{mv rv:V}{kX uX lo:Nat}{ob:ZO}{ub:Nat}{L:List P2}
theorem sv138 {Yf:YF}{tk:Nat→Bool}{ro base:Nat}(hX:MkR g mv rv kX uX lo ob ub L) (k:Off lo kX) (M:lo≤ub) (c1:ro≤lo) (hl:L.length≤10000) :
 ∃r,EvS E Yf.y 138 [.ptr kX uX 0] ob tk ro base ub r∧∃l j,r.1=.fn (.func 193) [] [.ptr (2*l+1) l 0,.ptr (2*j+1) j 0]∧ub≤l∧PastO kX uX (revE g.ts.length L) l j r.2.2.2 r.2.1∧∀c,Off ub c→r.2.1 c=ob c:=by
 obtain⟨lv,Z,hE⟩:=hX
 have hA:=hE.toA zR
 have Q:=hA.len
 have oX:=(k.up M).ne
 have B:¬ ub=ub+64+64:=zO
 refine Jn (af:=S138) rfl zD ?_
 show wpC E Yf S138.body _ (XT S138.res _)
 simp(disch:=first|(simp;done)|omega) [S138,objCells,Z,mkS,histC,oX,V.cells,V.leaf,Q,two_inj,B]
 refine jY fun q e=>?_
 obtain⟨l,j,a1,a2,a3,g1,g3,gA,gB⟩:∃l j,ub≤l∧l<j∧j<q.nx∧q.tm 1=.ptr (2*l+1) l 0∧q.tm 3=.ptr (2*j+1) j 0∧q.ob (2*l+1)=some ⟨l,.cells [.ptr kX uX 0]⟩∧q.ob (2*j+1)=some ⟨j,.cells [.sl none true 0 []]⟩ :=
  ⟨ub,ub+128,zO,zO,by rw[e];first|omega|(simp;done)|(simp;omega),by rw[e];simp,by rw[e];simp[Nat.add_assoc],by rw[e];simp[two_inj,B],by rw[e];simp[Nat.add_assoc]⟩
 have g9:q.tm 9=lv:=by rw[e];simp
 have b9:q.tm 10=.int .i64 L.length:=by rw[e];simp
 have K:q.tm 11=.int .i64 0:=by rw[e];simp
 have gd:q.df=[]:=by rw[e];simp
 have gr:q.ro=ro:=by rw[e];simp
 have go:∀c,Off ub c→q.ob c=ob c:=fun c k=>by
  have:=k.ne
  rw[e]
  simp(disch:=first|(simp;done)|omega) [this]
 clear e
 obtain⟨J,hJ⟩:∃J:Nat→St→Prop,J=fun i s=>s.tm 11=.int .i64 i∧PastO kX uX (revE g.ts.length (L.take i)) l j s.nx s.ob∧∀c,Off ub c→s.ob c=ob c:=⟨_,rfl⟩
 refine j8 [(5,5),(11,32)] L.length J rfl rfl ?_ ?_
 ·rw[hJ]
  exact⟨by simpa using K,⟨gA,⟨_,gB,.inl ⟨rfl,by simp[revE]⟩⟩,a2,a3⟩,go⟩
 clear K gA gB go a3
 intro i s hi N f
 rw[hJ]at N
 obtain⟨w,I,T⟩:=N
 have s1:s.tm 1=.ptr (2*l+1) l 0:=by rw[f.t 1 zS,g1]
 have s3:s.tm 3=.ptr (2*j+1) j 0:=by rw[f.t 3 zS,g3]
 have s9:s.tm 9=lv:=by rw[f.t 9 zS,g9]
 have S:s.tm 10=.int .i64 L.length:=by rw[f.t 10 zS,b9]
 have sd:s.df=[]:=by rw[f.d,gd]
 have sr:s.ro=ro:=by rw[f.r,gr]
 clear f
 have hh:=I.h
 by_cases o:i<L.length
 ·have O:=jb o zO
  obtain⟨p,b7,D⟩:=hA.at o
  have n:=jri g.ts.length (L.take i) L[i]
  rw[← List.take_succ_eq_append_getElem o]at n
  have X:s.ob kX=_:=(T kX (k.up M)).trans Z
  have U:=(k.up (show lo≤s.nx by omega)).ne
  have F:=I.a
  obtain⟨lw,P,a0⟩:=I.b
  have n1:∀m,s.nx≤m→¬ l=m:=fun m hm=>by omega
  have n3:∀m,s.nx≤m→¬ j=m:=fun m hm=>by omega
  generalize L[i]=z at D n
  obtain⟨x,y⟩:=z
  simp only at D n
  simp(disch:=first|(simp;done)|omega) [w,S,s9,o,b7]
  rw[D _ fun c k=>by simpa using T c k]
  have c0:=jmz g.ts.length (L.take i)
  rw[List.length_take]at c0
  by_cases hc:x<(g.ts.length:Int)
  ·rw[if_pos hc]at n
   simp(disch:=first|(simp;done)|omega) [s1,s3,objCells,j2,two_inj,n1,n3,F,P,X,mkS,histC,U,slOf,hc]
   refine⟨zO,?_⟩
   refine jo (cs:=[.int .i64 y,.int .i64 x]) (by simp[j2]) rfl rfl ?_
   simp
   refine jeh (lo:=j+1) (hi:=s.nx) (v:=lw) (L:=revE g.ts.length (L.take i)) (p:=(y,x)) zS (a0.frame (fun u h1 h2=>?_) zR) (by simp[sr];omega) (by simp[slCells,objCells,edC]) zO fun kl b6=>?_
   ·have:∀m,s.nx≤m→¬ u=m:=fun m hm=>by omega
    simp(disch:=first|(simp;done)|omega) [two_inj,this]
   have H:∀c,Off (j+1) c→kl.any (Nat.beq c)=false:=fun c k=>by
    rcases b6 with rfl|⟨u,h1,_,rfl,_⟩
    ·rfl
    ·simp only[List.any_cons,List.any_nil,Bool.or_false]
     exact Yu (k u h1)
   have k3:=H (2*j+1) (Off.new zO)
   have k1:=H (2*l+1) (Off.new zO)
   have b5:¬ l=j:=zO
   rw[← n]
   have G:(revE g.ts.length (L.take (i+1))).length=(revE g.ts.length (L.take i)).length+1:=by rw[n];simp
   generalize b0:revE g.ts.length (L.take (i+1))=R1 at *
   simp(disch:=first|(simp;done)|omega) [s3,objCells,j2,two_inj,n3,P,jD,k3,V.cells,V.leaf]
   refine⟨zO,?_⟩
   simp(disch:=first|(simp;done)|omega) [w,O,o]
   rw[hJ]
   simp only[b0]
   have b8:∀m,s.nx≤m→¬ m=j:=fun m hm=>by omega
   refine⟨zS,⟨?_,⟨.osl (2*(s.nx+1344)+1) (s.nx+1344) 0 R1.length 2,?_,.inr ⟨s.nx+1344,rfl,?_,zO,zL⟩⟩,a2,zL⟩,fun c k=>?_⟩
   ·simp(disch:=first|(simp;done)|omega) [jD,two_inj,n1,b5,k1,F]
   ·simp(disch:=first|(simp;done)|omega) [Nat.add_assoc,G]
   ·simp(disch:=first|(simp;done)|omega) [jD,two_inj,Nat.add_assoc,b8]
   ·have h1:=H c (k.up zO)
    have h2:=(k.up (show ub≤s.nx by omega)).ne
    have h3:¬ c=2*j+1:=k j zO
    simp(disch:=first|(simp;done)|omega) [jD,h1,h2,h3]
    exact T c k
  ·rw[if_neg hc,List.append_nil]at n
   simp(disch:=first|(simp;done)|omega) [s1,objCells,j2,two_inj,n1,F,X,mkS,histC,U,slOf,hc]
   refine⟨zO,?_⟩
   simp(disch:=first|(simp;done)|omega) [w,O,o]
   rw[hJ]
   have h2:∀c,Off ub c→∀m,s.nx≤m→¬ c=2*m+1:=fun c k=>(k.up (show ub≤s.nx by omega)).ne
   refine⟨zS,?_,fun c k=>?_⟩
   ·rw[n]
    refine I.keep (fun u h3 h4=>?_) zL
    have:∀m,s.nx≤m→¬ u=m:=fun m hm=>by omega
    simp(disch:=first|(simp;done)|omega) [two_inj,this]
   ·have h3:=h2 c k
    simp(disch:=first|(simp;done)|omega) [h3]
    exact T c k
 ·have:i=L.length:=zO
  subst this
  rw[List.take_length]at I
  simp(disch:=first|(simp;done)|omega) [w,S,s1,s3]
  exact Yi (by simp[sd]) ⟨l,j,zS,a1,I.keep (fun u _ _=>by simp) zL,fun c k=>by simpa using T c k⟩
end
theorem jxh {Yf:YF}{f:FuncId}{xs:List A}{st:St}{ub:Nat}{K:St→Nat→Prop}{d:Option Nat}{nm:Bool}{vs:List V}{P:V→Prop}(c:xs.map (eval E st.tm)=vs) (b:E.sh nm f=false) (hp:(vs.all fun v=>v.strip.pureTop)=false)
 (h:∃v,EvO E f vs st.ob st.tk ((st.fb+d.getD 0+1)*1024) ub v∧P v) (e:∀v,P v→wpD (Xa ub v) (WZ K st d ub)):j6 E Yf ⟨d,.call f xs,none,nm⟩ st ub K:=by
 obtain⟨v,i,a⟩:=h
 exact jh c b hp i (e v a)
theorem jnn {Yf:YF}{f:FuncId}{q:A}{xs:List A}{st:St}{ub:Nat}{K:St→Nat→Prop}{d:Option Nat}{nm:Bool}{first captured vs:List V}{P:V→Prop}(j:eval E st.tm q=.fn (.func f) first captured) (a:first++xs.map (eval E st.tm)++captured=vs) (c:E.sh nm f=false)
 (hp:(vs.all fun v=>v.strip.pureTop)=false) (h:∃v,EvO E f vs st.ob st.tk ((st.fb+d.getD 0+1)*1024) ub v∧P v) (e:∀v,P v→wpD (Xa ub v) (WZ K st d ub)):j6 E Yf ⟨d,.callV q xs,none,nm⟩ st ub K:=by
 obtain⟨v,i,b⟩:=h
 exact ja0 j c (by rw[a];exact hp) (by rw[a];exact i) (e v b)
def j4b (n:Nat) (R:List P2) (t:Nat) (v:V):Prop:=∃w,(w<2 ^ n∧∀a,a<n→w.testBit a=war (edB R) n t a)∧j0i (ints (jd w)) v
theorem ev194n {n:Nat}(D:0<n) (m:n≤9) {t:Nat}(H:t<n) :
 ∃q,Ev E 194 [.int .i64 (n:Int),.int .i64 (t:Int),.sl none true 0 []] q∧∃w,(w<2 ^ n∧∀a,a<n→w.testBit a=war (edB []) n t a)∧FromR w q:=by
 have hp:(2:Nat) ^ n≤512:=Nat.pow_le_pow_right zD m
 have p:¬ (t:Int)<0:=zO
 have j:¬ (n:Int)≤t:=zO
 have F:¬ (n≤t):=zO
 refine XF (af:=F194) rfl zD ?_
 simp(disch:=first|(simp;done)|omega) [F194]
 refine jU (vs:=[.int .i64 n,.sl none true 0 []]) zS rfl (j48 (L:=[]) ?_ D m (.inl ⟨none,true,rfl⟩) (fun z c=>by cases c) zS) ?_
 ·simp
 rintro v1 U M N ⟨J,ut,uf,ue,tu,fu,T,rfl,G,y,S,hT,q1,v⟩
 simp only at G q1 v
 simp(disch:=first|(simp;done)|omega) [p,j]
 refine jU (vs:=[.ptr (2*J+1) J 0]) zS rfl (j47 (n:=n) (r:=edB []) (G.keep (fun x _ _=>?_) ?_) ?_ y D m (fun b _=>⟨(Yz (n:=n) (L:=[]) (fun z c=>by cases c) b).1,fun a _=>(Yz (n:=n) (L:=[]) (fun z c=>by cases c) b).2 a⟩)) ?_
 ·simp
 ·first|omega|(simp;done)|(simp;omega)
 ·first|omega|(simp;done)|(simp;omega)
 rintro v2 Q a0 b5 ⟨I,f,W,rfl,O,d,X⟩
 simp only at d
 have e:=d.o
 rw[List.replicate_zero,List.append_nil]at e
 have b0:=d.r
 have P:=ju1 (l:=2*I+1) (u:=I) (kk:=.i64) H
 have x2:=ji9 (l:=f) (i:=t) zO
 have Z:=d.s t zO
 have ls:=d.rs _ (List.getElem_mem (show t<f.length by omega))
 have ws:=X t H
 simp(disch:=first|(simp;done)|omega) [P,x2,objCells,e]
 obtain⟨B,k⟩:=QE (ints (jd (W t)))
 refine jh (vs:=[.ptr (2*f[t]+1) f[t] 0]) zS rfl rfl (jt7 (w:=W t) (by simpa using Z) (Off.new zL) zO _ _) ?_
 refine XZ k fun K add=>?_
 simp
 refine jzb (ns:=[6,7]) (ls:=[.sl none B (ints (jd (W t))).length ((ints (jd (W t))).flatMap intC),.int .i64 0]) (fun r h=>⟨W t,ws,B,h⟩) zS rfl zS zS ?_
 simp
 exact⟨QC rfl (WH _ K B _ _),JI rfl,trivial⟩
section
variable {g:Hist'}{mv rv:V}{kX uX:Nat}{ob:ZO}{ub u1 u3 hi:Nat}{R:List P2}
theorem evo193 (j:PastO kX uX R u1 u3 hi ob) (J:hi≤ub) (l:∃z,ob kX=some ⟨uX,.cells (mkS g mv rv z)⟩) (F:Off ub kX) (y:0<g.ts.length) (O:g.ts.length≤8) (K:InG g.ts.length R) (H:R.length≤10000) {t:Nat}(u:t<g.ts.length) (tk:Nat→Bool) (base:Nat) :
 ∃v,EvO E 193 [.int .i64 (t:Int),.ptr (2*u1+1) u1 0,.ptr (2*u3+1) u3 0] ob tk base ub v∧j4b g.ts.length R t v:=by
 obtain⟨z,l⟩:=l
 have M:=F.ne
 have o:=j.a
 obtain⟨Q,n,c⟩:=j.b
 have N:=j.h
 have P:∀m,ub≤m→¬ u1=m:=fun m D=>by omega
 have L:∀m,ub≤m→¬ u3=m:=fun m D=>by omega
 refine jb6 (af:=S193) rfl zD ?_
 simp(disch:=first|(simp;done)|omega) [S193,objCells,o,n,l,mkS,histC,slOf]
 have f:∀q w e add d,(w<2 ^ g.ts.length∧∀a,a<g.ts.length→w.testBit a=war (edB R) g.ts.length t a)→d.df=[]→d.tm 4=.sl e q (ints (jd w)).length ((ints (jd w)).flatMap intC)→add=add→ja2 [.t 4] (j4b g.ts.length R t) .ret d:=fun q w e _ d i hd h4 (_:()=())=>
  slE (t:=e) (nl:=q) (k:=(ints (jd w)).length) (cs:=(ints (jd w)).flatMap intC) (fun r h=>⟨w,i,q,h⟩) hd h4
 rcases c with⟨rfl,rfl⟩|c
 ·obtain⟨q,s,w,i,nl,p⟩:=ev194n y zO u
  refine jO s zS rfl zS ?_
  refine jo2 p fun e add=>?_
  simp
  exact f nl w e () _ i zS zS rfl
 ·have G:=EdV.toA (.inr c) J
  obtain⟨x,rfl,_⟩:=c
  refine jxh (vs:=[.int .i64 g.ts.length,.int .i64 t,.osl (2*x+1) x 0 R.length 2]) zS rfl rfl (evo194 y zO (G.up (fun B _=>by simp) ?_) K H u _ _) fun q I=>?_
  ·first|omega|(simp;done)|(simp;omega)
  obtain⟨w,i,nl,p⟩:=I
  refine jo2 p fun e add=>?_
  simp
  exact f nl w e () _ i zS zS rfl
end
section
variable {g:Hist'}{M:List Int}{mn:Bool}{rt:Option (Nat × Nat)}{rn:Bool}{kX uX:Nat}{ob:ZO}{ub u1 u2 u3 u5 hi:Nat}{R:List P2}
theorem evo139 (p:PastO kX uX R u1 u3 hi ob) (G:hi≤ub) (B:ob (2*u5+1)=some ⟨u5,.cells [.fn (.func 193) [] [.ptr (2*u1+1) u1 0,.ptr (2*u3+1) u3 0]]⟩) (z:ob (2*u2+1)=some ⟨u2,.cells [.ptr kX uX 0]⟩) (L:u5<ub) (P:u2<ub)
 (q:∃n,ob kX=some ⟨uX,.cells (mkS g (slOf mn intC M) (rdV rt rn (readH g)) n)⟩) (o:Off ub kX) (H:g.ts.length≤8) (F:InG g.ts.length R) (x:R.length≤10000) {i:Nat}(hi:i<(readH g).length) (tk:Nat→Bool) (base:Nat) :
 ∃v,EvO E 139 [.int .i64 (i:Int),.ptr (2*u5+1) u5 0,.ptr (2*u2+1) u2 0] ob tk base ub v∧j4b g.ts.length R ((readH g).getD i (0,0)).1.toNat v:=by
 obtain⟨n,b⟩:=id q
 have O:=o.ne
 have N:∀m,ub≤m→¬ u5=m:=fun m s=>by omega
 have K:∀m,ub≤m→¬ u2=m:=fun m s=>by omega
 have l:=JY jN rt rn (readH g) .i64 hi
 obtain⟨a,d,_,j⟩:=jf0 hi
 have c:((readH g).flatMap jB)[i*2]? = some (.int .i64 (a:Int)):=by
  have:=jR jN (readH g) hi (by decide:0<2)
  rw[Nat.add_zero]at this
  rw[this]
  have e:(readH g).getD i (0,0)=(readH g)[i]:=by simp[List.getD_eq_getElem?_getD,List.getElem?_eq_getElem hi]
  rw[e]at d
  simp[jB,d]
 rw[d,Int.toNat_natCast]
 refine jb6 (af:=S139) rfl zD ?_
 simp(disch:=first|(simp;done)|omega) [S139,objCells,B,z,b,mkS,histC,slOf,rdV,l,c]
 refine jnn (f:=193) (first:=[]) (captured:=[.ptr (2*u1+1) u1 0,.ptr (2*u3+1) u3 0]) (vs:=[.int .i64 a,.ptr (2*u1+1) u1 0,.ptr (2*u3+1) u3 0]) zS zS rfl rfl (evo193 (mv:=slOf mn intC M) (rv:=rdV rt rn (readH g)) (p.keep (fun u _ _=>by simp) G) ?_ ?_ (o.up ?_) zO H F x j _ _) fun v I=>?_
 ·first|omega|(simp;done)|(simp;omega)
 ·exact⟨n,by simpa using b⟩
 ·first|omega|(simp;done)|(simp;omega)
 obtain⟨w,y,nl,D⟩:=I
 refine XZ D fun J add=>?_
 simp
 exact slE (t:=J) (nl:=nl) (k:=(ints (jd w)).length) (cs:=(ints (jd w)).flatMap intC) (fun r h=>⟨w,y,nl,h⟩) zS zS
def rcQ (g:Hist') (M:List Int) (i k:Nat):Bool:=((readH g).getD k (0,0)).1 == ((readH g).getD i (0,0)).1 && (decide (((readH g).getD k (0,0)).2<((readH g).getD i (0,0)).2) && decide (0≤M.getD k 0))
def rcS (g:Hist') (M:List Int) (i n:Nat):List Int:=((List.range n).filter (rcQ g M i)).map fun k=>M.getD k 0
theorem jwb (g:Hist') (M:List Int) (i n:Nat):rcS g M i (n+1)=rcS g M i n++if rcQ g M i n then [M.getD n 0] else []:=by
 unfold rcS
 rw[List.range_succ,List.filter_append,List.map_append]
 congr 1
 cases h:rcQ g M i n <;> simp[h]
theorem jrq (g:Hist') (M:List Int) (i n:Nat):(rcS g M i n).length≤n:=by
 unfold rcS
 rw[List.length_map]
 exact Nat.le_trans (List.length_filter_le _ _) zS
theorem evo140 (hm:jav g M=true) (h2:ob (2*u2+1)=some ⟨u2,.cells [.ptr kX uX 0]⟩) (l2:u2<ub) (hX:∃lv,ob kX=some ⟨uX,.cells (mkS g (slOf mn intC M) (rdV rt rn (readH g)) lv)⟩) (o:Off ub kX) (hR:(readH g).length≤1000) {i:Nat}(hi:i<(readH g).length) (tk:Nat→Bool) (base:Nat) :
 EvO E 140 [.int .i64 (i:Int),.ptr (2*u2+1) u2 0] ob tk base ub (jhv (rcS g M i (readH g).length)):=by
 obtain⟨lv,hX⟩:=hX
 have c6:=Yp hm
 have oX:=o.ne
 have n2:∀m,ub≤m→¬ u2=m:=fun m hm=>by omega
 have a0:∀ {k:Nat}(h:k<(readH g).length),((readH g).flatMap jB)[k*2]? = some (.int .i64 ((readH g).getD k (0,0)).1)∧((readH g).flatMap jB)[k*2+1]? = some (.int .i64 ((readH g).getD k (0,0)).2):=fun {k} h=>by
  have e:(readH g).getD k (0,0)=(readH g)[k]:=by simp[List.getD_eq_getElem?_getD,List.getElem?_eq_getElem h]
  have a1:=jR jN (readH g) h (by decide:0<2)
  have a2:=jR jN (readH g) h (by decide:1<2)
  rw[Nat.add_zero]at a1
  rw[a1,a2,e]
  exact⟨rfl,rfl⟩
 have G:=JY jN rt rn (readH g) .i64 hi
 obtain⟨f1,f2⟩:=a0 hi
 refine Jz (af:=S140) rfl ?_
 simp(disch:=first|(simp;done)|omega) [S140,objCells,h2,hX,mkS,histC,slOf,rdV]
 refine jY fun y c=>?_
 have g0:y.tm 0=.int .i64 i:=by rw[c];simp
 have g1:y.tm 1=.ptr (2*u2+1) u2 0:=by rw[c];simp
 have g4:y.tm 4=.sl none true 0 []:=by rw[c];simp
 have c5:y.tm 10=rdV rt rn (readH g):=by rw[c];simp[rdV]
 have b6:y.tm 11=.int .i64 (readH g).length:=by rw[c];simp
 have Z:y.tm 12=.int .i64 0:=by rw[c];simp
 have gd:y.df=[]:=by rw[c];simp
 have gr:y.ro=ub:=by rw[c];simp
 have gn:ub≤y.nx:=by rw[c];first|omega|(simp;done)|(simp;omega)
 have go:∀a,Off ub a→y.ob a=ob a:=fun a o=>by rw[c];simp
 clear c
 obtain⟨P,L⟩:∃P:Nat→Nat→Prop,P=fun hi u=>ub≤u∧u<hi:=⟨_,rfl⟩
 obtain⟨J,hJ⟩:∃J:Nat→St→Prop,J=fun k s=>s.tm 12=.int .i64 k∧IntsO s.ob (P s.nx) (rcS g M i k) (s.tm 4)∧ub≤s.nx∧∀a,Off ub a→s.ob a=ob a:=⟨_,rfl⟩
 refine j8 [(4,6),(12,61)] (readH g).length J rfl rfl (by rw[hJ];exact⟨by simpa using Z,.inl ⟨by simp[rcS],g4⟩,gn,go⟩) ?_
 clear Z g4 gn go
 intro k s c8 S f
 rw[hJ]at S
 obtain⟨w,sI,sn,so⟩:=S
 have s0:s.tm 0=.int .i64 i:=by rw[f.t 0 zS,g0]
 have s1:s.tm 1=.ptr (2*u2+1) u2 0:=by rw[f.t 1 zS,g1]
 have c4:s.tm 10=rdV rt rn (readH g):=by rw[f.t 10 zS,c5]
 have U:s.tm 11=.int .i64 (readH g).length:=by rw[f.t 11 zS,b6]
 have sd:s.df=[]:=by rw[f.d,gd]
 have sr:s.ro=ub:=by rw[f.r,gr]
 clear f
 by_cases j:k<(readH g).length
 ·have B:=jb j zO
  have N:k<M.length:=zO
  have b8:=JY jN rt rn (readH g) .i64 j
  obtain⟨k1,k2⟩:=a0 j
  have T:=fun ob=>WL (readH g) ob j
  have b0:=JY jC none mn M .i64 N
  have b5:=JX M N
  have b:=jwb g M i k
  have c7:=jrq g M i k
  have D:s.ob (2*u2+1)=_:=(so _ (Off.new l2)).trans h2
  have I:s.ob kX=_:=(so _ o).trans hX
  have H:=(o.up sn).ne
  have F:∀m,s.nx≤m→¬ u2=m:=fun m hm=>by omega
  have b7:M.getD k 0=M[k]:=by simp[List.getD_eq_getElem?_getD,List.getElem?_eq_getElem N]
  have b9:(readH g).getD k (0,0)=(readH g)[k]:=by simp[List.getD_eq_getElem?_getD,List.getElem?_eq_getElem j]
  unfold rcQ at b
  rw[b7,b9]at b
  generalize (readH g).getD i (0,0)=p at *
  generalize (readH g)[k]=q at *
  obtain⟨pa,pb⟩:=p
  obtain⟨qa,qb⟩:=q
  simp only at T b f1 f2
  simp(disch:=first|(simp;done)|omega) [w,U,c4,s1,j,b8,T,rdV,objCells,j2,two_inj]
  refine⟨zO,?_⟩
  have skip:rcS g M i (k+1)=rcS g M i k→∀Q:St,Q.tm 12=.int .i64 ((k:Int)+1)→Q.tm 4=s.tm 4→s.nx≤Q.nx→(∀a,Off s.nx a→Q.ob a=s.ob a)→J (k+1) Q:=fun e Q h1 h2 h3 h4=>by
   rw[hJ]
   refine⟨by simpa using h1,?_,zO,fun a o=>(h4 a (o.up sn)).trans (so a o)⟩
   rw[e,h2]
   exact sI.frame (fun u n=>by rw[L]at n;exact h4 _ (Off.new n.2)) fun u n=>by rw[L]at n ⊢;exact⟨n.1,by have:=n.2;omega⟩
  cases K:(qa == pa)
  ·rw[K,Bool.false_and,if_neg zD,List.append_nil]at b
   simp(disch:=first|(simp;done)|omega) [w,s0,objCells,D,I,mkS,histC,H,F,rdV,slOf,G,f1,K,B,j]
   exact skip b _ zS zS zL fun a o=>by simp(disch:=first|(simp;done)|omega) [o.ne]
  by_cases O:qb<pb
  ·by_cases c3:0≤M[k]
   ·rw[K,decide_eq_true O,decide_eq_true c3,Bool.true_and,Bool.true_and,if_pos rfl]at b
    simp(disch:=first|(simp;done)|omega) [s1,s0,objCells,two_inj,D,I,mkS,histC,H,F,rdV,slOf,G,f1,f2,K,O,c3,b0,b5]
    refine jo (cs:=[.int .i64 M[k]]) (by simp[j2]) rfl rfl ?_
    simp
    refine QH (p:=P s.nx) (l:=rcS g M i k) (z:=M[k]) (v:=s.tm 4) (X:=2*(s.nx+3136)+1) (uX:=s.nx+3136) zS (sI.frame (fun u n=>?_) fun _ h=>h) (by simp[Nat.add_assoc]) (by simp[Nat.add_assoc]) (fun u n=>by rw[L]at n;simp[sr];exact n.1) zO fun kl c0=>?_
    ·rw[L]at n
     have:∀m,s.nx≤m→¬ u=m:=fun m hm=>by omega
     simp(disch:=first|(simp;done)|omega) [two_inj,this]
    simp(disch:=first|(simp;done)|omega) [w,B,j]
    rw[hJ]
    refine⟨zS,.inr ⟨by rw[b];simp,s.nx+3200,by rw[b];simp[Nat.add_assoc],by rw[b];simp[Nat.add_assoc,je7],?_⟩,zL,fun a o=>?_⟩
    ·rw[L]
     simp
     omega
    ·have h3:=(o.up sn).ne
     have h4:kl.any (Nat.beq a)=false:=by
      rw[List.any_eq_false]
      intro x hx hb
      obtain⟨u,n,rfl⟩:=c0 x hx
      rw[L]at n
      exact o u n.1 (Nat.eq_of_beq_eq_true hb)
     simp(disch:=first|(simp;done)|omega) [je7,h3,h4]
     exact so a o
   ·rw[K,decide_eq_true O,decide_eq_false c3,Bool.true_and,Bool.true_and,if_neg zD,List.append_nil]at b
    simp(disch:=first|(simp;done)|omega) [w,s1,s0,objCells,two_inj,D,I,mkS,histC,H,F,rdV,slOf,G,f1,f2,K,O,c3,b0,b5,B,j]
    exact skip b _ zS zS zL fun a o=>by simp(disch:=first|(simp;done)|omega) [o.ne]
  ·rw[K,decide_eq_false O,Bool.false_and,Bool.and_false,if_neg zD,List.append_nil]at b
   simp(disch:=first|(simp;done)|omega) [w,s1,s0,objCells,two_inj,D,I,mkS,histC,H,F,rdV,slOf,G,f1,f2,K,O,B,j]
   exact skip b _ zS zS zL fun a o=>by simp(disch:=first|(simp;done)|omega) [o.ne]
 ·have:k=(readH g).length:=zO
  subst this
  simp(disch:=first|(simp;done)|omega) [w,U]
  exact W4 (by simp[sd]) zS (sI.frame (fun u n=>by simp) fun u n=>n) (fun u n=>by rw[L]at n;simp[sr];exact n.1)
end
section
variable {g:Hist'}{M:List Int}{lvl:Int}
def askL (g:Hist') (M:List Int) (S:Nat→List Int) (n:Nat):List P2:=(List.range n).flatMap fun i=>askE g M (S i) i
theorem jb5 {S a:List Int}(h:∀x,x∈S ↔ x∈a) (i:Nat) (z:P2):z∈askE g M S i ↔ z∈askE g M a i:=by
 unfold askE
 simp only[List.mem_map,List.mem_filter,h]
theorem j5p {S:Nat→List Int}(b:∀i,i<(readH g).length→∀x,x∈S i ↔ x∈Jd g lvl M i):jh9 g lvl M (sesL g (comL g).length++srcL g M (readH g).length++askL g M S (readH g).length):=by
 intro z
 simp only[List.mem_append,sesL,srcL,askL,List.mem_flatMap,List.mem_map,List.mem_range]
 constructor
 ·rintro((⟨i,a,h⟩|⟨i,a,rfl⟩)|⟨i,a,h⟩)
  ·exact .inl ⟨i,a,h⟩
  ·exact .inr ⟨i,a,.inl rfl⟩
  ·exact .inr ⟨i,a,.inr ((jb5 (b i a) i z).1 h)⟩
 ·rintro(⟨i,a,h⟩|⟨i,a,h|h⟩)
  ·exact .inl (.inl ⟨i,a,h⟩)
  ·exact .inl (.inr ⟨i,a,h.symm⟩)
  ·exact .inr ⟨i,a,(jb5 (b i a) i z).2 h⟩
theorem jdq (g:Hist') (M:List Int) (i:Nat):Jd g 0 M i=[]:=by
 unfold Jd jbl
 rw[List.eq_nil_iff_forall_not_mem]
 intro x a
 obtain⟨k,_,_,h⟩:=filTo_mem.1 a
 simp[jbk]at h
theorem jg9 (g:Hist') (M:List Int):jh9 g 0 M (sesL g (comL g).length++srcL g M (readH g).length):=by
 have:=j5p (g:=g) (M:=M) (lvl:=0) (S:=fun _=>[]) fun i _ x=>by rw[jdq]
 have e:askL g M (fun _=>[]) (readH g).length=[]:=by simp[askL,askE]
 rwa [e,List.append_nil]at this
theorem jry (p:jav g M=true) {x y:Nat}(G:x<g.ts.length) (H:y<g.ts.length):(sesL g (comL g).length++srcL g M (readH g).length).contains ((x:Int),(y:Int))=jct g M x y:=by
 have w:=jg9 g M
 have D:((x:Int),(y:Int))∈(sesL g (comL g).length++srcL g M (readH g).length) ↔ QV g 0 M x y=true:=by
  rw[← (X1 _).mem_iff,← compP_mem,Wh p w,edgesOf_mem]
  constructor
  ·rintro⟨a,b,_,_,h,e⟩
   have d:(x:Int)=a:=congrArg Prod.fst e
   have l:(y:Int)=b:=congrArg Prod.snd e
   rw[show x=a by omega,show y=b by omega]
   exact h
  ·exact fun h=>⟨x,y,zO,zO,h,rfl⟩
 rw[Bool.eq_iff_iff,List.contains_iff_mem,D]
 have r:(x == g.ts.length)=false:=by simp;omega
 unfold QV jct
 rw[r,Bool.false_and,Bool.false_or,Bool.or_eq_true]
 constructor
 ·rintro(h|h)
  ·simp only[Bool.and_eq_true]at h ⊢
   exact⟨⟨h.1.1.1,h.1.1.2⟩,by simp[h.1.2,h.2]⟩
  ·obtain⟨i,f,h⟩:=List.any_eq_true.1 h
   have f:=List.mem_range.1 f
   rw[jdq,show askE g M [] i=[] from rfl]at h
   simp only[List.contains_nil,Bool.or_false,beq_iff_eq]at h
   obtain⟨b,n,m,_⟩:=jf0 f
   have d:JF g (M.getD i 0)=(x:Int):=congrArg Prod.fst h
   have l:((readH g).getD i (0,0)).1=(y:Int):=congrArg Prod.snd h
   have F:=Yp p
   have q:y=b:=by rw[n]at l;omega
   rcases jsw p f with c|⟨a,v,s,_⟩
   ·unfold JF at d
    rw[if_pos c]at d
    omega
   ·have t:x=a:=by
     unfold JF at d
     rw[if_neg zO]at d
     omega
    rw[t,q,s,m,Bool.and_self,Bool.true_and,Bool.or_eq_true]
    refine .inr (List.any_eq_true.2 ⟨((readH g)[i],M[i]),?_,?_⟩)
    ·rw[List.mem_iff_getElem]
     exact⟨i,by simp;omega,zS⟩
    ·have u:M.getD i 0=M[i]:=by simp[List.getD_eq_getElem?_getD,List.getElem?_eq_getElem (show i<M.length by omega)]
     have o:(readH g).getD i (0,0)=(readH g)[i]:=by simp[List.getD_eq_getElem?_getD,List.getElem?_eq_getElem f]
     rw[u]at v
     rw[o]at n
     simp[v,n]
 ·intro h
  simp only[Bool.and_eq_true,Bool.or_eq_true]at h
  obtain⟨⟨d,l⟩,c⟩:=h
  rcases c with c|c
  ·left
   simp only[Bool.and_eq_true]
   exact⟨⟨⟨d,l⟩,c.1⟩,c.2⟩
  ·right
   obtain⟨z,B,k⟩:=List.any_eq_true.1 c
   obtain⟨i,f,e⟩:=List.getElem_of_mem B
   simp only[List.length_zip]at f
   have j:i<(readH g).length:=zO
   rw[List.getElem_zip]at e
   simp only[Bool.and_eq_true,beq_iff_eq]at k
   rw[← e]at k
   simp only at k
   refine List.any_eq_true.2 ⟨i,List.mem_range.2 j,?_⟩
   rw[Bool.or_eq_true]
   left
   have u:M.getD i 0=M[i]:=by simp[List.getD_eq_getElem?_getD,List.getElem?_eq_getElem (show i<M.length by omega)]
   have o:(readH g).getD i (0,0)=(readH g)[i]:=by simp[List.getD_eq_getElem?_getD,List.getElem?_eq_getElem j]
   unfold juy JF
   rw[u,o,k.1,k.2,if_neg zO]
   simp
theorem jaa {n:Nat}{r c:Nat→Nat→Bool}(h:∀x y,x<n→y<n→r x y=c x y):∀K,K≤n→∀b a,b<n→a<n→war r K b a=war c K b a
 | 0,_,b,a,hb,ha=>h a b ha hb
 | K+1,hK,b,a,hb,ha=>by
  rw[war,war,jaa h K zO b a hb ha,jaa h K zO b K hb zO,jaa h K zO K a zO ha]
theorem j3p {n:Nat}{L:List P2}{x y:Nat}(i:x<n):edB (revE n L) x y=L.contains ((x:Int),(y:Int)):=by
 rw[Bool.eq_iff_iff]
 unfold edB revE
 simp only[List.contains_iff_mem,List.mem_map,List.mem_filter,decide_eq_true_eq]
 constructor
 ·rintro⟨⟨a,b⟩,⟨c,_⟩,e⟩
  have d:b=(y:Int):=congrArg Prod.fst e
  have f:a=(x:Int):=congrArg Prod.snd e
  rw[← d,← f]
  exact c
 ·exact fun h=>⟨_,⟨h,by simp only;omega⟩,rfl⟩
theorem jo5 (n:jav g M=true) (p:g.ts.length≤8) {i w:Nat}(hi:i<(readH g).length) (k:w<2 ^ g.ts.length∧∀a,a<g.ts.length→w.testBit a=war (edB (revE g.ts.length (sesL g (comL g).length++srcL g M (readH g).length))) g.ts.length ((readH g).getD i (0,0)).1.toNat a) (x:Int) :
 x∈ints (jd w) ↔ x∈Jd g 2 M i:=by
 obtain⟨b,f,_,j⟩:=jf0 hi
 rw[f,Int.toNat_natCast]at k
 have c:∀a,a<g.ts.length→w.testBit a=farB g M b a:=fun a d=>by
  rw[k.2 a d]
  exact jaa (fun x y m o=>by rw[j3p m];exact jry n m o) _ zR b a j d
 unfold Jd jbl ints
 rw[filTo_mem,List.mem_map]
 constructor
 ·rintro⟨a,d,rfl⟩
  obtain⟨_,l⟩:=bitsUp_mem.1 d
  have e:a<g.ts.length:=by
   rcases Nat.lt_or_ge a g.ts.length with h|h
   ·exact h
   ·rw[Nat.testBit_lt_two_pow (Nat.lt_of_lt_of_le k.1 (Nat.pow_le_pow_right zD h))]at l
    cases l
  refine⟨a,e,rfl,?_⟩
  unfold jbk
  rw[if_neg zD,if_pos rfl,f,Int.toNat_natCast,← c a e]
  exact l
 ·rintro⟨a,d,rfl,h⟩
  refine⟨a,bitsUp_mem.2 ⟨zO,?_⟩,rfl⟩
  unfold jbk at h
  rw[if_neg zD,if_pos rfl,f,Int.toNat_natCast,← c a d]at h
  exact h
theorem j1m (n:jav g M=true) {i:Nat}(x:Int):x∈rcS g M i (readH g).length ↔ x∈Jd g 1 M i:=by
 have p:=Yp n
 unfold Jd jbl rcS
 rw[filTo_mem,List.mem_map]
 simp only[List.mem_filter,List.mem_range]
 constructor
 ·rintro⟨k,⟨f,c⟩,rfl⟩
  unfold rcQ at c
  simp only[Bool.and_eq_true,beq_iff_eq,decide_eq_true_eq]at c
  rcases jsw n f with r|⟨a,d,q,l⟩
  ·omega
  ·refine⟨a,l,d,?_⟩
   unfold jbk rcB
   rw[if_pos rfl,List.any_eq_true]
   have j:M.getD k 0=M[k]:=by simp[List.getD_eq_getElem?_getD,List.getElem?_eq_getElem (show k<M.length by omega)]
   have m:(readH g).getD k (0,0)=(readH g)[k]:=by simp[List.getD_eq_getElem?_getD,List.getElem?_eq_getElem f]
   rw[j]at d
   rw[m]at c
   refine⟨((readH g)[k],M[k]),?_,by
    show((readH g)[k].1 == _ && (decide ((readH g)[k].2<_) && M[k] == (a:Int)))=true
    rw[c.1,decide_eq_true c.2.1,d]
    simp⟩
   rw[List.mem_iff_getElem]
   exact⟨k,by simp;omega,zS⟩
 ·rintro⟨a,d,rfl,h⟩
  unfold jbk rcB at h
  rw[if_pos rfl,List.any_eq_true]at h
  obtain⟨z,o,b⟩:=h
  obtain⟨k,f,e⟩:=List.getElem_of_mem o
  simp only[List.length_zip]at f
  rw[List.getElem_zip]at e
  simp only[Bool.and_eq_true,beq_iff_eq,decide_eq_true_eq]at b
  rw[← e]at b
  simp only at b
  have j:M.getD k 0=M[k]:=by simp[List.getD_eq_getElem?_getD,List.getElem?_eq_getElem (show k<M.length by omega)]
  have m:(readH g).getD k (0,0)=(readH g)[k]:=by simp[List.getD_eq_getElem?_getD,List.getElem?_eq_getElem (show k<(readH g).length by omega)]
  refine⟨k,⟨zO,?_⟩,by rw[j];exact b.2.2⟩
  unfold rcQ
  rw[j,m,b.2.2,b.1,decide_eq_true b.2.1]
  simp
end
section
variable {g:Hist'}{M:List Int}{lvl:Int}
theorem j1g {A:List P2}(b:∀z,z∈A ↔ ∃i,i<(readH g).length∧z∈askE g M (Jd g lvl M i) i):jh9 g lvl M (sesL g (comL g).length++srcL g M (readH g).length++A):=by
 intro z
 rw[List.mem_append,b]
 simp only[List.mem_append,sesL,srcL,List.mem_flatMap,List.mem_map,List.mem_range]
 constructor
 ·rintro((⟨i,a,h⟩|⟨i,a,rfl⟩)|⟨i,a,h⟩)
  ·exact .inl ⟨i,a,h⟩
  ·exact .inr ⟨i,a,.inl rfl⟩
  ·exact .inr ⟨i,a,.inr h⟩
 ·rintro(⟨i,a,h⟩|⟨i,a,h|h⟩)
  ·exact .inl (.inl ⟨i,a,h⟩)
  ·exact .inl (.inr ⟨i,a,h.symm⟩)
  ·exact .inr ⟨i,a,h⟩
theorem j5r (m:jav g M=true):InG g.ts.length (revE g.ts.length (sesL g (comL g).length++srcL g M (readH g).length)):=by
 intro z d
 unfold revE at d
 simp only[List.mem_map,List.mem_filter,decide_eq_true_eq]at d
 obtain⟨p,⟨l,j⟩,rfl⟩:=d
 obtain⟨a,b,rfl,t,u⟩:=jk8 m (jg9 g M) p l
 simp only at j ⊢
 refine⟨b,a,rfl,?_,zO⟩
 rcases Nat.lt_or_ge b g.ts.length with h|h
 ·exact h
 ·have o:b=g.ts.length:=zO
  have k:QV g 0 M a b=true:=by
   have:((a:Int),(b:Int))∈jV (g.ts.length+1) (QV g 0 M):=by rw[← Wh m (jg9 g M),compP_mem,(X1 _).mem_iff];exact l
   obtain⟨x,y,_,_,h,e⟩:=edgesOf_mem.1 this
   have s:(a:Int)=x:=congrArg Prod.fst e
   have r:(b:Int)=y:=congrArg Prod.snd e
   rw[show a=x by omega,show b=y by omega]
   exact h
  unfold QV at k
  have n:Xx g b=false:=by
   cases h:Xx g b
   ·rfl
   ·have:=WV h
    omega
  rw[n,Bool.and_false,Bool.false_or,Bool.and_false,Bool.false_and,Bool.false_and,Bool.false_or]at k
  obtain⟨i,f,h⟩:=List.any_eq_true.1 k
  have f:=List.mem_range.1 f
  rw[jdq,show askE g M [] i=[] from rfl]at h
  simp only[List.contains_nil,Bool.or_false,beq_iff_eq]at h
  obtain⟨c,n,_,q⟩:=jf0 f
  have r:((readH g).getD i (0,0)).1=(b:Int):=congrArg Prod.snd h
  omega
end
structure SeenF (g:Hist') (lvl:Int) (M:List Int) (mv rv:V) (kX uX ub0:Nat) (K:Nat→Prop) (ob0:ZO) (f:FuncId) (cap:List V):Prop where
 sh:E.sh true f=false
 np:(cap.all fun v=>v.strip.pureTop)=false
 ev:∀i,i<(readH g).length→∀ (ob':ZO) (ub':Nat) (tk:Nat→Bool) (base:Nat),ub0≤ub'→(∃lv,ob' kX=some ⟨uX,.cells (mkS g mv rv lv)⟩)→(∀key,K key→ob' key=ob0 key) →
  ∃v,EvO E f (.int .i64 (i:Int)::cap) ob' tk base ub' v∧∃l,(∀x,x∈l ↔ x∈Jd g lvl M i)∧l.length≤100∧j0i l v
def jqe (ub kX:Nat) (lv:V) (Z:List P2) (key:Nat):Prop:=Off ub key∧key≠kX∧jy4 lv Z key
section
variable {g:Hist'}{M:List Int}{lvl:Int}{mn rn:Bool}{rt:Option (Nat × Nat)}{kX uX lo:Nat}{ob:ZO}{ub:Nat}{lv:V}
theorem ji0 {Z:List P2}{ob:ZO}(b:EdV ob lo ub lv Z) (f:Off lo kX) (c:lo≤ub) {u nx:Nat}(h:ub≤u) (d:u<nx):jqe nx kX lv Z (2*u+1):=by
 refine⟨Off.new d,fun e=>f u zO e.symm,fun w a=>?_⟩
 rcases b with⟨rfl,_⟩|⟨v,rfl,_,_,i⟩
 ·cases a
 ·have:v=w:=by injection a
  omega
theorem sv90 {Yf:YF}{tk:Nat→Bool}{ro base:Nat}(hX:ob kX=some ⟨uX,.cells (mkS g (slOf mn intC M) (rdV rt rn (readH g)) lv)⟩) (D:EdV ob lo ub lv (sesL g (comL g).length++srcL g M (readH g).length)) (b:Off lo kX) (e:lo≤ub) (a0:ro≤lo) (l:jav g M=true) (S:g.ts.length≤8) (hR:(readH g).length≤100) (O:lvl=1∨lvl=2) :
 ∃r,EvS E Yf.y 90 [.ptr kX uX 0,.int .i64 lvl] ob tk ro base ub r∧ub≤r.2.2.2∧(∀c,Off ub c→r.2.1 c=ob c)∧∃f o,r.1=.fn (.func f) [] o∧SeenF g lvl M (slOf mn intC M) (rdV rt rn (readH g)) kX uX r.2.2.2 (jqe r.2.2.2 kX lv (sesL g (comL g).length++srcL g M (readH g).length)) r.2.1 f o:=by
 have X:=jdb g
 have hl:(sesL g (comL g).length++srcL g M (readH g).length).length≤10000:=by
  rw[List.length_append,jg2]
  have:=Q8 g 8 (comL g).length zO
  have:(comL g).length*(8+1)≤8*9:=Nat.mul_le_mul_right 9 zO
  omega
 have q:=j5r l
 have b6:=jmz g.ts.length (sesL g (comL g).length++srcL g M (readH g).length)
 have G:=fun {i:Nat}(n:i<(readH g).length) {w:Nat}=>jo5 (w:=w) l S n
 generalize sesL g (comL g).length++srcL g M (readH g).length=Z at *
 have oX:=(b.up e).ne
 refine Jn (af:=S90) rfl zD ?_
 show wpC E Yf S90.body _ (XT S90.res _)
 rcases O with rfl|rfl
 ·simp(disch:=first|(simp;done)|omega) [S90,V.cells,V.leaf]
  refine Yi zS ⟨zL,fun c b=>?_,140,[.ptr (2*ub+1) ub 0],zS,rfl,rfl,fun i n s d tk base N j P=>?_⟩
  ·have:=b.ne
   simp(disch:=first|(simp;done)|omega) [this]
  ·have p:ub<d:=by first|omega|(simp at N;omega)
   have J:=P (2*ub+1) (ji0 D b e zR zL)
   exact⟨_,evo140 l (u2:=ub) (by rw[J];simp) p j (b.up zO) zO n _ _,_,fun x=>j1m l x,Nat.le_trans (jrq _ _ _ _) hR,QE _⟩
 ·simp(disch:=first|(simp;done)|omega) [S90,V.cells,V.leaf,objCells]
  refine jU (vs:=[.ptr kX uX 0]) zS rfl (sv138 (g:=g) (lo:=lo) (mv:=slOf mn intC M) (rv:=rdV rt rn (readH g)) (L:=Z) ⟨lv,?_,D.frame (fun u _ h=>?_) ?_⟩ b ?_ ?_ zO) ?_
  ·simp(disch:=first|(simp;done)|omega) [oX,hX]
  ·have:∀m,ub≤m→¬ u=m:=fun m l=>by omega
   simp(disch:=first|(simp;done)|omega) [two_inj,this]
  ·first|omega|(simp;done)|(simp;omega)
  ·first|omega|(simp;done)|(simp;omega)
  ·first|omega|(simp;done)|(simp;omega)
  rintro v1 K U a ⟨Q,u3,rfl,T,B,H⟩
  simp only at T B H
  have b0:=B.h
  have b5:ub<Q:=by first|omega|(simp at T;omega)
  have F:K (2*ub+1)=some ⟨ub,.cells [.ptr kX uX 0]⟩:=by
   rw[H _ (Off.new zL)]
   simp
  simp(disch:=first|(simp;done)|omega) [V.cells,V.leaf,objCells,j2]
  refine⟨zO,?_⟩
  refine Yi zS ⟨zL,fun c b=>?_,139,[.ptr (2*a+1) a 0,.ptr (2*ub+1) ub 0],zS,rfl,rfl,fun i n s d tk base N j P=>?_⟩
  ·have t:=(b.up (show ub≤a by omega)).ne
   simp(disch:=first|(simp;done)|omega) [t]
   rw[H _ (b.up zL)]
   have:=b.ne
   simp(disch:=first|(simp;done)|omega) [this]
  ·have p:a<d:=by first|omega|(simp at N;omega)
   have k:=fun(u:Nat) (t:ub≤u) (J:u≤a)=>P (2*u+1) (ji0 D b e t zL)
   have I:PastO kX uX (revE g.ts.length Z) Q u3 a s:=B.keep (fun u t J=>by
    rw[k u zO zO]
    have:∀m,a≤m→¬ u=m:=fun m l=>by omega
    simp(disch:=first|(simp;done)|omega) [two_inj,this]) zR
   obtain⟨v,hv,w,z,hn⟩:=evo139 (M:=M) (mn:=mn) (rt:=rt) (rn:=rn) (u5:=a) (u2:=ub) (ub:=d) I zO (by rw[k a zO zO];simp) (by
    rw[k ub zO zO]
    simp(disch:=first|(simp;done)|omega) [two_inj,show ¬ ub=a by omega,F]) zO zO j (b.up zO) S q zO n tk base
   refine⟨v,hv,_,fun x=>G n z x,?_,hn⟩
   rw[jnr]
   have:=jh2 w
   omega
end
section
variable {g:Hist'}{M:List Int}{lvl:Int}{mn rn:Bool}{rt:Option (Nat × Nat)}{kX uX lo:Nat}{ob:ZO}{ub:Nat}{lv:V}{Z:List P2}
structure AskJ (g:Hist') (mv rv:V) (kX uX lo ub:Nat) (K:Nat→Prop) (ob0:ZO) (L:List P2) (ob:ZO) (nx:Nat):Prop where
 e:∃lv',ob kX=some ⟨uX,.cells (mkS g mv rv lv')⟩∧EdV ob lo nx lv' L∧∀key,K key→ob key=ob0 key∧jy4 lv' L key
 w:∀key,Off lo key→key≠kX→ob key=ob0 key
 h:lo≤ub∧ub≤nx
 x:Off lo kX
 k:∀key,K key→Off ub key∧key≠kX
theorem AskJ.up {mv rv:V}{K:Nat→Prop}{ob0:ZO}{L:List P2}{nx nx':Nat}{ob':ZO}(h:AskJ g mv rv kX uX lo ub K ob0 L ob nx) (c:∀a,Off nx a→ob' a=ob a) (i:nx≤nx'):AskJ g mv rv kX uX lo ub K ob0 L ob' nx':=by
 obtain⟨⟨d,l,j,e⟩,w,⟨f,m⟩,x,k⟩:=h
 exact⟨⟨d,(c _ (x.up zO)).trans l,j.frame (fun u _ h=>c _ (Off.new h)) i,fun a b=>⟨(c _ ((k a b).1.up m)).trans (e a b).1,(e a b).2⟩⟩,fun a b n=>(c _ (b.up zO)).trans (w a b n),⟨f,zO⟩,x,k⟩
theorem AskJ.put {Yf:YF}{mv rv:V}{K:Nat→Prop}{ob0:ZO}{L:List P2}{nx:Nat}{tk:Nat→Bool}{ro base:Nat}(h:AskJ g mv rv kX uX lo ub K ob0 L ob nx) (f:ro≤lo) (i:ro≤uX) (v:L.length≤100000) (a b:Int) :
 ∃r,EvS E Yf.y 137 [.ptr kX uX 0,.int .i64 a,.int .i64 b] ob tk ro base nx r∧nx≤r.2.2.2∧AskJ g mv rv kX uX lo ub K ob0 (L++[(JF g a,JF g b)]) r.2.1 r.2.2.2:=by
 obtain⟨⟨s,G,n,p⟩,w,⟨q,z⟩,x,k⟩:=h
 obtain⟨r,B,H,⟨F,I,u,m,D,J,t⟩,o⟩:=jq0 (Yf:=Yf) (tk:=tk) (ro:=ro) (base:=base) G n x zO f i v a b
 refine⟨r,B,H,⟨⟨F,I,.inr ⟨u,m,D,zO,t⟩,fun c d=>⟨?_,fun w j e=>?_⟩⟩,fun c d l=>(o c (d.up zO) l (n.off d)).trans (w c d l),⟨q,zO⟩,x,k⟩⟩
 ·exact(o c ((k c d).1.up z) (k c d).2 (p c d).2).trans (p c d).1
 ·rw[m]at j
  have:u=w:=by injection j
  exact(k c d).1 w zO e
def askT (g:Hist') (M:List Int) (l:List Int) (i j:Nat):List P2:=askE g M (l.take j) i
theorem jup {l:List Int}{j:Nat}(h:j<l.length) (i:Nat):askT g M l i (j+1)=askT g M l i j++if Yq g l[j] (jff g ((readH g).getD i (0,0))) && (l[j] != M.getD i 0) then [(l[j],JF g (M.getD i 0))] else []:=by
 unfold askT askE
 rw[List.take_succ_eq_append_getElem h,List.filter_append,List.map_append]
 congr 1
 cases a:Yq g l[j] (jff g ((readH g).getD i (0,0))) && (l[j] != M.getD i 0) <;> simp only[List.filter_cons,List.filter_nil,a,if_true,Bool.false_eq_true,if_false,List.map_cons,List.map_nil]
theorem job (l:List Int) (i j:Nat):(askT g M l i j).length≤l.length:=by
 unfold askT askE
 rw[List.length_map]
 refine Nat.le_trans (List.length_filter_le _ _) ?_
 rw[List.length_take]
 omega
def AskR (g:Hist') (lvl:Int) (M:List Int) (mv rv:V) (kX uX lo:Nat) (ob:ZO) (ub:Nat) (Z:List P2) (r:V × (ZO) × (Nat→Bool) × Nat):Prop :=
 ub≤r.2.2.2∧(∃A,(∀z,z∈A ↔ ∃i,i<(readH g).length∧z∈askE g M (Jd g lvl M i) i)∧A.length≤10000∧MkR g mv rv kX uX lo r.2.1 r.2.2.2 (Z++A))∧∀key,Off lo key→key≠kX→r.2.1 key=ob key
theorem sv89 {Yf:YF}{tk:Nat→Bool}{ro base:Nat}{f:FuncId}{cap:List V}(hs:Small g) (hm:jav g M=true) (hR:(readH g).length≤100) (hS:SeenF g lvl M (slOf mn intC M) (rdV rt rn (readH g)) kX uX ub (jqe ub kX lv Z) ob f cap)
 (hX:ob kX=some ⟨uX,.cells (mkS g (slOf mn intC M) (rdV rt rn (readH g)) lv)⟩) (hE:EdV ob lo ub lv Z) (F:Off lo kX) (c4:lo≤ub) (g6:ro≤lo) (g8:ro≤uX) (hZ:Z.length≤10000) :
 ∃r,EvS E Yf.y 89 [.ptr kX uX 0,.fn (.func f) [] cap] ob tk ro base ub r∧AskR g lvl M (slOf mn intC M) (rdV rt rn (readH g)) kX uX lo ob ub Z r:=by
 have g3:=Yp hm
 have b8:=jii (jea hm)
 refine Jn (af:=S89) rfl zD ?_
 show wpC E Yf S89.body _ (XT S89.res _)
 simp(disch:=first|(simp;done)|omega) [S89,objCells,hX,mkS,histC,rdV]
 refine jY fun K o=>?_
 have g0:K.tm 0=.ptr kX uX 0:=by rw[o];simp
 have g1:K.tm 1=.fn (.func f) [] cap:=by rw[o];simp
 have f6:K.tm 13=rdV rt rn (readH g):=by rw[o];simp[rdV]
 have d7:K.tm 14=.int .i64 (readH g).length:=by rw[o];simp
 have c6:K.tm 15=.int .i64 0:=by rw[o];simp
 have gd:K.df=[]:=by rw[o];simp
 have gr:K.ro=ro:=by rw[o];simp
 have gJ:AskJ g (slOf mn intC M) (rdV rt rn (readH g)) kX uX lo ub (jqe ub kX lv Z) ob Z K.ob K.nx:=by
  have e:K.ob=ob:=by rw[o];simp
  have hn:ub≤K.nx:=by rw[o];first|omega|(simp;done)|(simp;omega)
  rw[e]
  exact⟨⟨lv,hX,hE.frame (fun _ _ _=>rfl) hn,fun c h=>⟨rfl,h.2.2⟩⟩,fun _ _ _=>rfl,⟨c4,hn⟩,F,fun c h=>⟨h.1,h.2.1⟩⟩
 clear o
 obtain⟨J,hJ⟩:∃J:Nat→St→Prop,J=fun i s=>s.tm 15=.int .i64 i∧∃A,(∀z,z∈A ↔ ∃k,k<i∧z∈askE g M (Jd g lvl M k) k)∧A.length≤i*100∧AskJ g (slOf mn intC M) (rdV rt rn (readH g)) kX uX lo ub (jqe ub kX lv Z) ob (Z++A) s.ob s.nx:=⟨_,rfl⟩
 refine j8 [(4,9),(15,75)] (readH g).length J rfl rfl (by rw[hJ];exact⟨by simpa using c6,[],fun z=>by simp,zS,by simpa using gJ⟩) ?_
 clear gJ c6
 intro i s hi c5 fr
 rw[hJ]at c5
 obtain⟨U,A,hA,h0,sJ⟩:=c5
 have s0:s.tm 0=.ptr kX uX 0:=by rw[fr.t 0 zS,g0]
 have s1:s.tm 1=.fn (.func f) [] cap:=by rw[fr.t 1 zS,g1]
 have c0:s.tm 13=rdV rt rn (readH g):=by rw[fr.t 13 zS,f6]
 have b0:s.tm 14=.int .i64 (readH g).length:=by rw[fr.t 14 zS,d7]
 have sd:s.df=[]:=by rw[fr.d,gd]
 have sr:s.ro=ro:=by rw[fr.r,gr]
 clear fr
 by_cases D:i<(readH g).length
 ·have d6:=jb D zO
  have X:i<M.length:=zO
  have f1:=JY jN rt rn (readH g) .i64 D
  have c7:=fun ob=>WL (readH g) ob D
  have b7:=j5 jC mn M .i64 X
  have d4:=JX M X
  obtain⟨a,b,ha,hb,hp,c8,_⟩:=jrn b8 D
  have f5:(readH g).getD i (0,0)=((a:Int),(b:Int)):=by simp[List.getD_eq_getElem?_getD,List.getElem?_eq_getElem D,hp]
  have e9:M.getD i 0=M[i]:=by simp[List.getD_eq_getElem?_getD,List.getElem?_eq_getElem X]
  simp only[hp]at c7
  obtain⟨Q,e1,e2,e3⟩:=sJ.e
  have f7:=sJ.h
  simp(disch:=first|(simp;done)|omega) [U,b0,c0,D,rdV,f1,c7,objCells,j2]
  refine⟨by first|omega|(simp[sr];omega),?_⟩
  simp(disch:=first|(simp;done)|omega) [s1]
  refine jnn (f:=f) (first:=[]) (captured:=cap) (vs:=.int .i64 (i:Int)::cap) zS zS hS.sh (by simp only[List.all_cons,hS.np,Bool.and_false]) (hS.ev i D _ _ _ _ ?_ ⟨Q,?_⟩ fun c H=>?_) fun v hv=>?_
  ·first|omega|(simp;done)|(simp;omega)
  ·have:=(F.up (show lo≤s.nx by omega)).ne
   simp(disch:=first|(simp;done)|omega) [this,e1]
  ·have:=(H.1.up f7.2).ne
   simp(disch:=first|(simp;done)|omega) [this]
   exact(e3 c H).1
  obtain⟨l,hl,g2,nl,f4⟩:=hv
  refine XZ f4 fun b5 d9=>?_
  simp
  refine jY fun p n=>?_
  obtain⟨z,z1,z2,p5,pZ⟩:∃z,s.nx≤z∧z<p.nx∧p.tm 5=.ptr (2*z+1) z 0∧p.ob (2*z+1)=some ⟨z,.cells [.int .i64 (a:Int),.int .i64 (b:Int)]⟩:=by
   refine⟨s.nx+256,zO,by rw[n];first|omega|(simp;done)|(simp;omega),by rw[n];simp[Nat.add_assoc],by rw[n];simp[Nat.add_assoc]⟩
  have p0:p.tm 0=.ptr kX uX 0:=by rw[n];simp[s0]
  have p1:p.tm 1=.fn (.func f) [] cap:=by rw[n];simp[s1]
  have p4:p.tm 4=.int .i64 i:=by rw[n];simp
  have h8:p.tm 13=rdV rt rn (readH g):=by rw[n];simp[c0]
  have f9:p.tm 14=.int .i64 (readH g).length:=by rw[n];simp[b0]
  have e6:p.tm 15=.int .i64 i:=by rw[n];simp[U]
  have e7:p.tm 22=.sl b5 nl l.length (l.flatMap intC):=by rw[n];simp
  have f3:p.tm 23=.int .i64 l.length:=by rw[n];simp
  have d3:p.tm 24=.int .i64 0:=by rw[n];simp
  have pd:p.df=[]:=by rw[n];simp[sd]
  have pr:p.ro=ro:=by rw[n];simp[sr]
  have pw:∀c,Off s.nx c→p.ob c=s.ob c:=fun c F=>by
   have:=F.ne
   rw[n]
   simp(disch:=first|(simp;done)|omega) [this]
  clear n
  have pJ:=sJ.up (nx':=p.nx) (ob':=p.ob) pw zO
  obtain⟨K2,N⟩:∃K2:Nat→Prop,K2=fun c=>jqe ub kX lv Z c∨c=2*z+1:=⟨_,rfl⟩
  have c9:AskJ g (slOf mn intC M) (rdV rt rn (readH g)) kX uX lo p.nx K2 p.ob (Z++A) p.ob p.nx:=by
   refine⟨⟨Q,(pw _ (F.up zO)).trans e1,e2.frame (fun u _ h=>pw _ (Off.new h)) zO,fun c H=>⟨rfl,?_⟩⟩,fun _ _ _=>rfl,⟨zO,zR⟩,F,fun c H=>?_⟩
   ·rw[N]at H
    rcases H with H|rfl
    ·exact(e3 c H).2
    ·intro w hw
     rcases e2 with⟨rfl,_⟩|⟨w',rfl,_,_,h4⟩
     ·cases hw
     ·have:w'=w:=by injection hw
      omega
   ·rw[N]at H
    rcases H with H|rfl
    ·exact⟨H.1.up zO,H.2.1⟩
    ·exact⟨Off.new z2,fun e=>F z zO e.symm⟩
  have d0:(g.ts.flatMap jn)[a*3+2]? = some (slOf (g.ts[a]).nl opC (g.ts[a]).ops):=by rw[jR j7 g.ts ha (by decide:2<3)];rfl
  have e4:((g.ts[a]).ops.flatMap opC)[b*4+1]? = some (.int .i64 ((g.ts[a]).ops[b]).key):=by rw[jR jH (g.ts[a]).ops hb (by decide:1<4)];rfl
  have e5:jff g ((readH g).getD i (0,0))=((g.ts[a]).ops[b]).key:=by rw[f5,← hp];exact c8
  have e8:∀t∈l,∃k:Nat,t=k∧k<g.ts.length:=fun t ht=>jk7 ((hl t).1 ht)
  obtain⟨J2,S⟩:∃J2:Nat→St→Prop,J2=fun j q=>q.tm 24=.int .i64 j∧AskJ g (slOf mn intC M) (rdV rt rn (readH g)) kX uX lo p.nx K2 p.ob (Z++A++askT g M l i j) q.ob q.nx:=⟨_,rfl⟩
  refine j8 [(7,9),(24,74)] l.length J2 rfl rfl (by rw[S];exact⟨by simpa using d3,by simpa[askT,askE] using c9⟩) ?_
  clear d3 c9
  intro j q hj d5 fr
  rw[S]at d5
  obtain⟨I,qJ⟩:=d5
  have q0:q.tm 0=.ptr kX uX 0:=by rw[fr.t 0 zS,p0]
  have q4:q.tm 4=.int .i64 i:=by rw[fr.t 4 zS,p4]
  have q5:q.tm 5=.ptr (2*z+1) z 0:=by rw[fr.t 5 zS,p5]
  have d8:q.tm 15=.int .i64 i:=by rw[fr.t 15 zS,e6]
  have f2:q.tm 22=.sl b5 nl l.length (l.flatMap intC):=by rw[fr.t 22 zS,e7]
  have b9:q.tm 23=.int .i64 l.length:=by rw[fr.t 23 zS,f3]
  have qd:q.df=[]:=by rw[fr.d,pd]
  have qr:q.ro=ro:=by rw[fr.r,pr]
  clear fr
  obtain⟨f0,c1,c2,c3⟩:=qJ.e
  have h5:=qJ.h
  by_cases B:j<l.length
  ·have L:=jb B zO
   have b6:=JY jC b5 nl l .i64 B
   have T:=JX l B
   obtain⟨t,et,g9⟩:=e8 _ (List.getElem_mem B)
   have G:=jup (g:=g) (M:=M) B i
   rw[e9,et,e5]at G
   rw[et]at T
   have el:=ev116 hs (t:Int) ((g.ts[a]).ops[b]).key
   have ez:(W3 (Jp g (t:Int)).2 ((g.ts[a]).ops[b]).key).2=Yq g t ((g.ts[a]).ops[b]).key:=rfl
   rw[ez]at el
   have g7:=job (g:=g) (M:=M) l i j
   have qZ:q.ob (2*z+1)=_:=(c3 _ (by rw[N];exact .inr rfl)).1.trans pZ
   have a0:=(F.up (show lo≤q.nx by omega)).ne
   have nz:∀m,q.nx≤m→¬ z=m:=fun m hm=>by omega
   simp(disch:=first|(simp;done)|omega) [I,b9,f2,q0,q5,B,b6,T,c1,qZ,objCells,mkS,histC,j5 j7,j5 jH,d0,e4]
   refine X5 el (by simp[histC]) rfl (by simp[histC]) ?_
   rw[Ji (by simp[V.plain,jv])]
   generalize (W3 (Jp g (t:Int)).2 ((g.ts[a]).ops[b]).key).1=rv9 at *
   generalize Yq g t ((g.ts[a]).ops[b]).key=rb at *
   simp(disch:=first|(simp;done)|omega) [jv,j2,objCells]
   have bX:∀m,q.nx≤m→Nat.beq kX (2*m+1)=false:=fun m hm=>JW (a0 m hm)
   refine⟨by first|omega|(simp[qr];omega),?_,?_⟩
   ·simp(disch:=first|(simp;done)|omega) [Jw,QR,Qv,jbf,rdOb,rdTk,lOf,Delta.wo,Delta.wt,bX]
    exact JW zO
   have keep:askT g M l i (j+1)=askT g M l i j→∀s':St,s'.tm 24=.int .i64 ((j:Int)+1)→q.nx≤s'.nx→(∀c,Off q.nx c→s'.ob c=q.ob c)→J2 (j+1) s':=fun e s' P h2 h3=>by
    rw[S]
    refine⟨by simpa using P,?_⟩
    rw[e]
    exact qJ.up h3 h2
   cases O:((t:Int) != M[i])
   ·rw[O,Bool.and_false,if_neg zD,List.append_nil]at G
    cases rb
    all_goals
     simp(disch:=first|(simp;done)|omega) [I,q0,q4,b7,d4,O,objCells,c1,a0,mkS,histC,L,B]
     exact keep G _ zS zL fun c F=>by simp(disch:=first|(simp;done)|omega) [F.ne]
   ·rw[O,Bool.and_true]at G
    cases rb
    ·rw[if_neg zD,List.append_nil]at G
     simp(disch:=first|(simp;done)|omega) [I,L,B]
     exact keep G _ zS zL fun c F=>by simp(disch:=first|(simp;done)|omega) [F.ne]
    ·rw[if_pos rfl]at G
     simp(disch:=first|(simp;done)|omega) [q0,q4,b7,d4,O,objCells,c1,a0,mkS,histC]
     refine jU (vs:=[.ptr kX uX 0,.int .i64 (t:Int),.int .i64 M[i]]) zS rfl ((qJ.up (fun c F=>?_) ?_).put ?_ ?_ ?_ _ _) ?_
     ·simp(disch:=first|(simp;done)|omega) [F.ne]
     ·first|omega|(simp;done)|(simp;omega)
     ·first|omega|(simp[qr];omega)
     ·first|omega|(simp[qr];omega)
     ·rw[List.length_append,List.length_append]
      have:i*100≤100*100:=Nat.mul_le_mul_right 100 zO
      omega
     rintro v9 h7 f8 g5 ⟨r1,r2⟩
     simp only at r1 r2
     have e0:JF g (t:Int)=t:=by unfold JF;rw[if_neg zO]
     rw[e0,List.append_assoc,← G]at r2
     simp(disch:=first|(simp;done)|omega) [I,L,B]
     rw[S]
     exact⟨zS,r2.up (fun c _=>by simp) zL⟩
  ·have:j=l.length:=zO
   subst this
   simp(disch:=first|(simp;done)|omega) [I,b9,d8,d6,D]
   rw[hJ]
   have h6:=job (g:=g) (M:=M) l i l.length
   have hT:∀x,x∈askT g M l i l.length ↔ x∈askE g M (Jd g lvl M i) i:=fun x=>by
    unfold askT
    rw[List.take_length]
    exact jb5 hl i x
   rw[List.append_assoc]at qJ
   refine⟨zS,A++askT g M l i l.length,fun x=>?_,?_,?_⟩
   ·rw[List.mem_append,hA,hT]
    constructor
    ·rintro(⟨k,F,h⟩|h)
     ·exact⟨k,zO,h⟩
     ·exact⟨i,zO,h⟩
    ·rintro⟨k,F,h⟩
     rcases Nat.lt_or_ge k i with P|P
     ·exact .inl ⟨k,P,h⟩
     ·rw[show k=i by omega]at h
      exact .inr h
   ·rw[List.length_append,Nat.succ_mul]
    omega
   ·have g4:=qJ.h
    refine AskJ.up (ob:=q.ob) (nx:=q.nx) ⟨⟨f0,c1,by rw[← List.append_assoc];exact c2,fun c H=>?_⟩,fun c P h2=>?_,⟨c4,zO⟩,F,fun c h=>⟨h.1,h.2.1⟩⟩ (fun c _=>by simp) zL
    ·obtain⟨d1,d2⟩:=c3 c (by rw[N];exact .inl H)
     rw[← List.append_assoc]
     exact⟨d1.trans (pJ.e.choose_spec.2.2 c H).1,d2⟩
    ·exact(qJ.w c P h2).trans (pJ.w c P h2)
 ·have:i=(readH g).length:=zO
  subst this
  simp(disch:=first|(simp;done)|omega) [U,b0]
  obtain⟨⟨Q,e1,e2,_⟩,w,h,_,_⟩:=sJ
  exact jda (.inl rfl) (by simp[sd]) ⟨zL,⟨A,hA,zO,Q,by simpa[rdV] using e1,e2.frame (fun _ _ _=>by simp) zL⟩,fun c P h2=>by simpa using w c P h2⟩
end
theorem sv93v {Yf:YF}{l u:Nat}{T:List Val'}(hT:T.length≤100000) {ob:ZO}{tk:Nat→Bool}{ro base ub:Nat}(ho:ob l=some ⟨u,.cells (T.flatMap jv)⟩) (b7:ro≤u) :
 ∃r,EvS E Yf.y 93 [.osl l u 0 T.length 2] ob tk ro base ub r∧CompP l u T.length (JD T T.length) ob tk ub r:=by
 refine Jn (af:=S93) rfl zD ?_
 show wpC E Yf S93.body _ (XT S93.res _)
 have c4:=j4 Q5 T
 by_cases h2:T.length<2
 ·have hc:JD T T.length=T:=by
   match T,h2 with
   | [],_=>rfl
   | [x],_=>rfl
   | _::_::_,h=>simp at h;omega
  have b0:(T.length:Int)<2:=zO
  rw[hc]
  simp[S93,b0]
  exact Yi zS ⟨zS,⟨_,by simpa using ho,c4,zR,List.take_of_length_le zO⟩,fun a h=>by simp,zS,by simp;omega⟩
 have b0:¬ (T.length:Int)<2:=zO
 simp[S93,b0]
 refine j8 [(2,5),(10,59)] (T.length - 1) (fun k s=>s.tm 3=.int .i64 ((1+k:Nat):Int)∧JD T (1+k)=T.take (1+k)∧s.ob=ob∧s.tk=tk∧ub≤s.nx) rfl rfl ⟨zS,?_,zS,zS,by simp;omega⟩ ?_
 ·rw[Nat.add_zero,jez (T:=T) (j:=0) zO (fun h=>absurd h zO),List.take_succ_eq_append_getElem zO]
  rfl
 rintro k s hk ⟨U,c,b,I,d3⟩ f
 have f0:s.tm 0=.osl l u 0 T.length 2:=by rw[f.t 0 zS];simp
 have fd:s.df=[]:=by rw[f.d];simp
 have fr:s.ro=ro:=by rw[f.r];simp
 clear f
 obtain⟨q,hq⟩:∃q,1+k=q:=⟨_,rfl⟩
 rw[hq]at U c
 by_cases o:q<T.length
 ·have b8:(q:Int)<T.length:=zO
  have hw:=jb o zO
  have c7:IntKind.i64.wrap ((q:Int) - 1)=((q - 1:Nat):Int):=by rw[j4y zO zO];omega
  have i1:=idx2 (l:=l) (u:=u) (off:=0) (n:=T.length) (kk:=.i64) (X:=(q:Int)) rfl o
  have i0:=idx2 (l:=l) (u:=u) (off:=0) (n:=T.length) (kk:=.i64) (X:=((q - 1:Nat):Int)) rfl zO
  have l1:=ld2 ho o
  have l0:=ld2 ho (show q - 1<T.length by omega)
  have Z:T[q]=T[q - 1]→JD T (q+1)=JD T q:=jka zO o
  have d6:T[q]≠T[q - 1]→JD T (q+1)=JD T q++[T[q]]:=fun h=>jez o fun _=>h
  have c9:T.take (q+1)=T.take q++[T[q]]:=List.take_succ_eq_append_getElem o
  have H:=jy9 T[q] (T[q - 1]' zO)
  rw[Nat.zero_add]at i1 i0
  generalize hx:T[q]=x at *
  generalize hy:T[q - 1]' zO=y at *
  generalize e3:((q - 1:Nat):Int)=Q1 at *
  cases K:(x == y)
  ·have d2:x≠y:=by simpa using K
   rw[K]at H
   simp[U,f0,b8,c7,i1,i0,b,l1,l0]
   simp[jv,← H,U,hw]
   refine⟨zO,zO,?_,b,I,zO⟩
   rw[show 1+(k+1)=q+1 by omega,d6 d2,c,c9]
  ·have he:x=y:=by simpa using K
   rw[K]at H
   simp[U,f0,b8,c7,i1,i0,b,l1,l0]
   have d1:=jfs (L:=l) (u:=u) (n:=T.length) (i:=q) zO
   simp[jv,← H,U,f0,d1]
   refine j8 [(3,3),(5,5),(29,53)] (T.length - q - 1) (fun j s=>s.tm 5=.int .i64 ((1+j:Nat):Int)∧∃w:Nat,s.tm 3=.int .i64 (w:Int)∧w=(JD T (q+1+j)).length ∧
    (∃M:List Val',s.ob l=some ⟨u,.cells (M.flatMap jv)⟩∧M.length=T.length∧M.take w=JD T (q+1+j)∧∀m,q+j≤m→M[m]? = T[m]?)∧(∀a,a≠l→s.ob a=ob a)∧s.tk=tk∧ub≤s.nx) rfl rfl
    ⟨zS,q,by simp[U],?_,⟨T,by simp[b,ho],rfl,?_,fun _ _=>rfl⟩,fun a h=>by simp[b],by simp[I],by simp;omega⟩ ?_
   ·rw[Nat.add_zero,Z he,c,List.length_take];omega
   ·rw[Nat.add_zero,Z he,c]
   clear d3 I b U
   rintro j s1 hj ⟨g5,w,g3,v,⟨M,gM,b6,z,G⟩,B,b5,e2⟩ f
   have g0:s1.tm 0=.osl l u 0 T.length 2:=by rw[f.t 0 zS];simp[f0]
   have g4:s1.tm 4=.osl l u (q*2) (T.length - q) 2:=by rw[f.t 4 zS];simp
   have gd:s1.df=[]:=by rw[f.d];simp[fd]
   have gr:s1.ro=ro:=by rw[f.r];simp[fr]
   clear f
   obtain⟨p,hp⟩:∃p,1+j=p:=⟨_,rfl⟩
   rw[hp]at g5
   rw[show q+1+j=q+p by omega]at v z
   have e0:=jgr T (q+p) zO
   have d9:w≤q+j:=by
    have e1:JD T (q+1)=T.take q:=by rw[Z he,c]
    have a:∀j,q+1+j≤T.length→(JD T (q+1+j)).length≤q+j:=by
     intro j
     induction j with
     | zero=>intro _;rw[Nat.add_zero,e1,List.length_take];omega
     | succ j ih=>
      intro h
      have:=ih zO
      rw[← Nat.add_assoc]
      simp only[JD,List.length_append,List.getElem?_eq_getElem (show q+1+j<T.length by omega)]
      split <;> simp <;> omega
    have:=a j zO
    rw[show q+1+j=q+p by omega]at this
    omega
   by_cases c3:p<T.length - q
   ·have a0:q+p<T.length:=zO
    have J:(p:Int)<((T.length - q:Nat):Int):=zO
    have c2:=jb (i:=p) (N:=T.length) zO zO
    have P:IntKind.i64.wrap ((p:Int) - 1)=((p - 1:Nat):Int):=by rw[j4y zO zO];omega
    have d4:=jb (i:=w) (N:=T.length) zO zO
    have k1:=idx2 (l:=l) (u:=u) (off:=q*2) (n:=T.length - q) (kk:=.i64) (X:=(p:Int)) rfl c3
    have k0:=idx2 (l:=l) (u:=u) (off:=q*2) (n:=T.length - q) (kk:=.i64) (X:=((p - 1:Nat):Int)) rfl zO
    have kw:=idx2 (l:=l) (u:=u) (off:=0) (n:=T.length) (kk:=.i64) (X:=(w:Int)) rfl zO
    rw[show q*2+p*2=(q+p)*2 by omega]at k1
    rw[show q*2+(p - 1)*2=(q+p - 1)*2 by omega]at k0
    rw[Nat.zero_add]at kw
    have d0:M[q+p]' zO=T[q+p]:=by
     have:=G (q+p) zO
     rw[List.getElem?_eq_getElem zO,List.getElem?_eq_getElem a0]at this
     exact Option.some.inj this
    have d5:M[q+p - 1]' zO=T[q+p - 1]' zO:=by
     have:=G (q+p - 1) zO
     rw[List.getElem?_eq_getElem zO,List.getElem?_eq_getElem zO]at this
     exact Option.some.inj this
    have m1:=ld2 gM (show q+p<M.length by omega)
    have m0:=ld2 gM (show q+p - 1<M.length by omega)
    rw[d0]at m1
    rw[d5]at m0
    have D:=j4 Q5 M
    have c6:=st2 (M:=M) (x:=w) zO T[q+p]
    have O:T[q+p]=T[q+p - 1]' zO→JD T (q+p+1)=JD T (q+p):=jka zO a0
    have Q:T[q+p]≠T[q+p - 1]' zO→JD T (q+p+1)=JD T (q+p)++[T[q+p]]:=fun h=>jez a0 fun _=>h
    have g:=jy9 T[q+p] (T[q+p - 1]' zO)
    have c8:w*2+2≤T.length*2:=zO
    generalize e6:T[q+p]=x2 at *
    generalize e4:T[q+p - 1]' zO=y2 at *
    generalize e5:((p - 1:Nat):Int)=Q2 at *
    generalize F:((T.length - q:Nat):Int)=Q3 at *
    cases e:(x2 == y2)
    ·have S:x2≠y2:=by simpa using e
     rw[e]at g
     simp[g5,g4,F,J,P,k1,k0,m1,m0]
     simp[jv]at c6
     simp[jv,← g,g5,g4,g3,g0,c2,d4,k1,m1,kw,objCells,gM,D,b6,c8,gr,b7,c6]
     refine⟨zO,zO,w+1,rfl,?_,⟨M.set w x2,rfl,by simp[b6],?_,fun m hm=>?_⟩,fun a h=>by simp[h,B],by simp[JG,b5],zO⟩
     ·rw[show q+1+(j+1)=q+p+1 by omega,Q S,List.length_append,← v];rfl
     ·rw[show q+1+(j+1)=q+p+1 by omega,Q S,← z]
      rw[List.take_set,List.take_succ_eq_append_getElem (show w<M.length by omega),List.set_append_right _ _ (by rw[List.length_take];omega),List.length_take,Nat.min_eq_left zO,Nat.sub_self]
      rfl
     ·rw[List.getElem?_set_ne zO]
      exact G m zO
    ·have b9:x2=y2:=by simpa using e
     rw[e]at g
     simp[g5,g4,F,J,P,k1,k0,m1,m0]
     simp[jv,← g,g5,c2]
     exact⟨zO,zO,w,g3,by rw[show q+1+(j+1)=q+p+1 by omega,O b9];exact v,⟨M,gM,b6,by rw[show q+1+(j+1)=q+p+1 by omega,O b9];exact z,fun m hm=>G m zO⟩,B,b5,zO⟩
   ·have d7:q+p=T.length:=zO
    rw[d7]at v z
    have J:¬ (p:Int)<((T.length - q:Nat):Int):=zO
    generalize F:((T.length - q:Nat):Int)=Q3 at *
    have c5:w≤T.length:=zO
    have c0:=jfs (L:=l) (u:=u) c5
    have c1:=jvy (L:=l) (u:=u) c5
    have D:=j4 Q5 M
    simp[g5,g4,F,J,g0,g3,c0]
    refine jxp (l:=l) (u:=u) (off:=w*2) (n:=T.length - w) (cs:=M.flatMap jv) zS (by simp[gM]) (by simp[gr,b7]) rfl (by rw[D];omega) ?_
    simp[g0,g3,c1]
    refine Yi (by simp[gd]) ⟨by simp[v],⟨_,by simp;rfl,?_,zO,?_⟩,fun a h=>by simp[h,B],by simp[JG,b5],by simp;omega⟩
    ·unfold j2
     have d8:(QX (T.length - w) [V.int .i64 0,V.int .i64 0]).length=(T.length - w)*2:=by simp[QX]
     simp only[List.length_append,List.length_take,List.length_drop,D,d8]
     omega
    ·rw[← v,← z]
     unfold j2
     rw[List.append_assoc,List.take_append_of_le_length (by rw[List.length_take,D];omega),List.take_take,Nat.min_self]
     exact jac Q5 M w
 ·have:q=T.length:=zO
  subst this
  simp[U,f0]
  rw[List.take_length]at c
  rw[c]
  exact Yi (by simp[fd]) ⟨zS,⟨_,by simp[b,ho],c4,zR,List.take_of_length_le zO⟩,fun a h=>by simp[b],by simp[I],by simp;omega⟩
def toV (p:P2):Val':=⟨p.1,p.2⟩
theorem toV_inj {p q:P2}:toV p=toV q ↔ p=q:=by
 obtain⟨a,b⟩:=p
 obtain⟨c,d⟩:=q
 simp[toV]
theorem j0a (L:List P2):L.flatMap edC=(L.map toV).flatMap jv:=by
 rw[List.flatMap_map]
 rfl
def cF:P2→List P2→List P2
 | _,[]=>[]
 | x,y::s=>if x=y then cF y s else y::cF y s
theorem jum (z:P2):∀ (r:List P2) (x:P2),cF x (r++[z])=cF x r++if (x::r).getLast? = some z then [] else [z]
 | [],x=>by
  by_cases h:x=z <;> simp[cF,h]
 | y::s,x=>by
  rw[List.cons_append,cF,cF,jum z s y,show(x::y::s).getLast? = (y::s).getLast? from by simp[List.getLast?_cons_cons]]
  by_cases h:x=y
  ·rw[if_pos h,if_pos h]
  ·rw[if_neg h,if_neg h,List.cons_append]
theorem jn8:∀ (r:List P2) (x:P2),QT (x::r)=x::cF x r
 | [],x=>rfl
 | y::s,x=>by
  have a:=jn8 s y
  rw[QT,a,cF]
theorem jkb (x:P2) (r:List P2):∀j,j≤r.length→JD ((x::r).map toV) (j+1)=(x::cF x (r.take j)).map toV
 | 0,_=>by simp[JD,cF]
 | j+1,h=>by
  rw[JD,jkb x r j zO,List.take_succ_eq_append_getElem zO,jum,← List.cons_append,List.map_append]
  congr 1
  have f:((x::r).map toV)[j+1]? = some (toV r[j]):=by rw[List.getElem?_map,List.getElem?_cons_succ,List.getElem?_eq_getElem zO];rfl
  have e:((x::r).map toV)[j+1 - 1]? = ((x::r.take j).getLast?).map toV:=by
   rw[Nat.add_sub_cancel,List.getElem?_map]
   congr 1
   rw[List.getLast?_eq_getElem?]
   cases j with
   | zero=>simp
   | succ j=>simp[List.length_take,Nat.min_eq_left (show j+1≤r.length by omega)]
  rw[f,e]
  by_cases b:(x::r.take j).getLast? = some r[j]
  ·rw[if_pos b,if_pos ⟨zO,by rw[b];rfl⟩]
   rfl
  ·rw[if_neg b,if_neg fun d=>b ?_]
   ·rfl
   ·obtain⟨_,a⟩:=d
    cases c:(x::r.take j).getLast? with
    | none=>rw[c]at a;cases a
    | some w=>
     rw[c]at a
     simp only[Option.map_some,Option.some.injEq]at a
     rw[toV_inj.1 a]
theorem jyu (L:List P2):JD (L.map toV) L.length=(QT L).map toV:=by
 cases L with
 | nil=>rfl
 | cons x r=>
  have:=jkb x r r.length zR
  rw[List.take_length]at this
  rw[jn8]
  exact this
theorem sv93 {Yf:YF}{l u:Nat}{L:List P2}(i:L.length≤100000) {ob:ZO}{tk:Nat→Bool}{ro base ub:Nat}(h:ob l=some ⟨u,.cells (L.flatMap edC)⟩) (d:ro≤u) :
 ∃r,EvS E Yf.y 93 [.osl l u 0 L.length 2] ob tk ro base ub r∧r.1=.osl l u 0 (QT L).length 2∧∃cs,r.2.1 l=some ⟨u,.cells cs⟩∧(QT L).length*2≤cs.length∧cs.take ((QT L).length*2)=(QT L).flatMap edC:=by
 have a:(L.map toV).length=L.length:=List.length_map ..
 obtain⟨r,f,c,⟨cs,g,j,e,b⟩,_⟩:=sv93v (Yf:=Yf) (l:=l) (u:=u) (T:=L.map toV) (by rw[a];exact i) (ob:=ob) (tk:=tk) (ro:=ro) (base:=base) (ub:=ub) (by rw[← j0a];exact h) d
 rw[a]at f c j e b
 rw[jyu]at c e b
 rw[List.length_map]at c e b
 refine⟨r,f,c,cs,g,zO,?_⟩
 rw[b,j0a]
theorem jua:∀L:List P2,(L.flatMap edC).mapM int64? = some (Ys L)
 | []=>rfl
 | x::L=>by
  rw[List.flatMap_cons]
  show(V.int .i64 x.1::V.int .i64 x.2::L.flatMap edC).mapM int64? = _
  simp only[List.mapM_cons,jua L]
  rfl
theorem jf3:∀L:List P2,pairsI (Ys L)=L
 | []=>rfl
 | (a,b)::L=>by simp only[Ys,pairsI,jf3 L]
theorem jn0:∀L:List P2,(Ys L).map (V.int .i64)=L.flatMap edC
 | []=>rfl
 | (a,b)::L=>by simp only[Ys,List.map_cons,jn0 L,List.flatMap_cons,edC];rfl
theorem jfr:∀ {L:List P2},(∀z∈L,Y5 z.1=true∧Y5 z.2=true)→(Ys L).all Y5=true
 | [],_=>rfl
 | (a,b)::L,h=>by
  have c:=h (a,b) (List.mem_cons_self ..)
  simp only[Ys,List.all_cons,c.1,c.2,jfr fun z d=>h z (List.mem_cons_of_mem _ d),Bool.and_self]
theorem sv91 {Yf:YF}{l u:Nat}{L:List P2}(i:L.length≤100000) (d:∀z∈L,Y5 z.1=true∧Y5 z.2=true) {ob:ZO}{tk:Nat→Bool}{ro base ub:Nat}(f:ob l=some ⟨u,.cells (L.flatMap edC)⟩) (c:ro≤u) :
 ∃r,EvS E Yf.y 91 [.osl l u 0 L.length 2,.fn (.func 92) [] []] ob tk ro base ub r∧ub≤r.2.2.2∧∀a,r.2.1 a=if a=l then some ⟨u,.cells ((QQ L).flatMap edC)⟩ else ob a:=by
 have e:=j4 JO L
 refine⟨(.tup [],upd ob l (some ⟨u,.cells ((QQ L).flatMap edC)⟩),tk,ub),jia (m:=some 92) rfl ?_ rfl,zR,fun a=>by simp[j3]⟩
 have h:objCells ob l u=some (L.flatMap edC):=by simp[objCells,f]
 have b:jmv (some 92) (Ys L)=true:=jfr d
 simp only[jou,jio,jfd,Wb,h,Option.bind_some,if_true]
 rw[if_pos ⟨Nat.ble_eq▸c,trivial,zO,zO⟩,List.drop_zero,List.take_of_length_le zO,jua,Option.bind_some,if_pos b,jf3,jn0]
 have:((QQ L).flatMap edC).length=(L.flatMap edC).length:=by rw[j4 JO,j4 JO,(X1 L).length_eq]
 rw[j2,List.take_zero,List.nil_append,List.drop_of_length_le zO,List.append_nil]
theorem sv91n {Yf:YF}{ob:ZO}{tk:Nat→Bool}{ro base ub:Nat}:∃r,EvS E Yf.y 91 [.sl none true 0 [],.fn (.func 92) [] []] ob tk ro base ub r∧r.2.1=ob∧ub≤r.2.2.2 :=
 ⟨(.tup [],ob,tk,ub),jia (m:=some 92) rfl rfl rfl,rfl,zR⟩
theorem sv93n {Yf:YF}{ob:ZO}{tk:Nat→Bool}{ro base ub:Nat}:∃r,EvS E Yf.y 93 [.sl none true 0 []] ob tk ro base ub r∧r.1=.sl none true 0 []∧ub≤r.2.2.2:=by
 refine Jn (af:=S93) rfl zD ?_
 show wpC E Yf S93.body _ (XT S93.res _)
 simp[S93]
 exact Yi zS ⟨zS,zL⟩
theorem jkv {F:Env}{Yf:YF}{o:AOpr}{st:St}{ub:Nat}{K:St→Nat→Prop}(h:∀s u,s=st→u=ub→j6 F Yf o s u K):j6 F Yf o st ub K:=h st ub rfl rfl
def jha (g:Hist') (lvl:Int) (M:List Int):List P2 × Int:=if jew g lvl M=0 then (jV (g.ts.length+1) (QV g lvl M),0) else ([],jew g lvl M)
def SatR (r:List P2 × Int) (v:V):Prop:=∃nl,(nl=true→r.1=[])∧jy3 [.sl none nl r.1.length (r.1.flatMap edC),.int .i64 r.2] v
section
variable {g:Hist'}{M:List Int}
theorem ev42 (hs:Small g) (h8:g.ts.length≤8) {mn:Bool}(lvl:Int) (hM:M.length≤100):∃v,Ev E 42 [.int .i64 lvl,.agg (histC g),slOf mn intC M] v∧SatR (jha g lvl M) v:=by
 have c0:=ev52 hs
 have N:=ev53 hs (b:=mn) M zO
 rw[is_eq]at N
 have j:∀ {k:St}{e:Int},k.df=[]→k.tm 6=.sl none true 0 []→k.tm 7=.int .i64 e→jha g lvl M=([],e)→ja2 [.t 6,.t 7] (SatR (jha g lvl M)) .ret k:=fun {k e} hd h6 h7 he=>by
  rw[he]
  exact jzb (ns:=[6,7]) (vs:=[.sl none true 0 [],.int .i64 e]) (ls:=[.sl none true 0 [],.int .i64 e]) (fun r h=>⟨true,fun _=>rfl,h⟩) hd (by simp[h6,h7]) zS zS ⟨JI rfl,JI rfl,trivial⟩
 refine XF (af:=F42) rfl zD ?_
 simp[F42,objCells,histC,slOf,V.cells,V.leaf]
 refine jO c0 (by simp[histC,slOf]) rfl (by simp[histC,slOf]) ?_
 cases F:JQ g
 ·simp
  exact j (e:=4) zS zS zS (by simp[jha,jew,F])
 by_cases B:lvl<1
 ·simp[B]
  exact j (e:=2) zS zS zS (by simp[jha,jew,F,B])
 by_cases P:2<lvl
 ·simp[B,P]
  exact j (e:=2) zS zS zS (by simp[jha,jew,F,B,P])
 simp[B,P,objCells]
 refine jO N (by simp[histC,slOf]) rfl (by simp[histC,slOf]) ?_
 cases s:jav g M
 ·simp
  exact j (e:=2) zS zS zS (by simp[jha,jew,F,B,P,s])
 have c6:lvl=1∨lvl=2:=zO
 have hE:jha g lvl M=(jV (g.ts.length+1) (QV g lvl M),0):=by simp[jha,jew,F,B,P,s]
 rw[hE]
 obtain⟨vr,c7,T⟩:=ev86 hs
 rw[show jbn g=readH g by simp[jbn,F]]at T
 have e7:=Yp s
 have hR:(readH g).length≤100:=zO
 simp[objCells]
 refine X5 c7 (by simp[histC,slOf]) rfl (by simp[histC,slOf]) ?_
 refine XZ T fun rt add=>?_
 generalize d5:(readH g).isEmpty=rn
 clear d5
 simp[j2,V.cells,V.leaf]
 refine jkv fun k nx i U=>?_
 obtain⟨c,u1,D,gX⟩:∃c,c<nx∧k.tm 8=.ptr (2*c+1) c 0∧k.ob (2*c+1)=some ⟨c,.cells (mkS g (slOf mn intC M) (rdV rt rn (readH g)) (.sl none true 0 []))⟩:=by
  refine⟨1600,by rw[U];simp,by rw[i];simp,by rw[i];simp[mkS,histC,slOf,rdV]⟩
 have g0:k.tm 0=.int .i64 lvl:=by rw[i];simp
 have gd:k.df=[]:=by rw[i];simp
 have n:k.ro=0:=by rw[i];simp
 have c4:k.tm 32=.ptr (2*c+1) c 0:=by rw[← D,i];simp
 clear i U
 have b8:MkR g (slOf mn intC M) (rdV rt rn (readH g)) (2*c+1) c (c+1) k.ob nx []:=⟨_,gX,.inl ⟨rfl,rfl⟩⟩
 have J:Off (c+1) (2*c+1):=Off.new (Nat.lt_succ_self _)
 have d8:=jdb g
 have d0:=Q8 g 8 (comL g).length zO
 have d6:(sesL g (comL g).length).length≤72:=Nat.le_trans d0 (by have:(comL g).length*(8+1)≤8*9:=Nat.mul_le_mul_right 9 zO;omega)
 refine jU (vs:=[.ptr (2*c+1) c 0]) (by simp[c4]) rfl (sv87 hs F h8 (lo:=c+1) b8 J zO ?_ ?_) ?_
 ·simp[n]
 ·simp[n]
 rintro v1 f2 e8 L ⟨q1,I,b7⟩
 simp only at q1 I b7
 have e4:nx≤L:=by first|omega|(simp at q1;omega)
 clear b8 gX
 simp[D]
 refine jU (vs:=[.ptr (2*c+1) c 0]) zS rfl (sv88 (rt:=rt) (rn:=rn) (lo:=c+1) (I.keep (fun d9 _=>by simp) (J.up ?_) ?_) s J ?_ ?_ ?_ zO zO) ?_
 ·omega
 ·first|omega|(simp;done)|(simp;omega)
 ·first|omega|(simp;done)|(simp;omega)
 ·simp[n]
 ·simp[n]
 rintro v2 f1 f4 H ⟨q2,O,a0⟩
 simp only at q2 O a0
 have e9:L≤H:=by first|omega|(simp at q2;omega)
 clear I
 have d7:=jg2 g M (readH g).length
 obtain⟨lv,m,l⟩:=O
 simp[D,g0]
 refine jU (vs:=[.ptr (2*c+1) c 0,.int .i64 lvl]) zS rfl (sv90 (rt:=rt) (rn:=rn) (mn:=mn) (lo:=c+1) (lv:=lv) ?_ (l.frame (fun u _ _=>by simp) ?_) J ?_ ?_ s h8 hR c6) ?_
 ·simpa using m
 ·first|omega|(simp;done)|(simp;omega)
 ·first|omega|(simp;done)|(simp;omega)
 ·simp[n]
 rintro v3 b0 e3 b6 ⟨q3,o,f,d2,rfl,hS⟩
 simp only at q3 o hS
 have e1:H≤b6:=by first|omega|(simp at q3;omega)
 have w:b0 (2*c+1)=some ⟨c,.cells (mkS g (slOf mn intC M) (rdV rt rn (readH g)) lv)⟩:=by
  rw[o _ (J.up zL)]
  simpa using m
 have q:EdV b0 (c+1) H lv (sesL g (comL g).length++srcL g M (readH g).length):=l.frame (fun u _ h=>by
  rw[o _ (Off.new zL)]
  simp) zR
 clear m l
 simp
 refine jU (vs:=[.ptr (2*c+1) c 0,.fn (.func f) [] d2]) zS rfl (sv89 (lvl:=lvl) (rt:=rt) (rn:=rn) (mn:=mn) (lo:=c+1) (lv:=lv) (Z:=sesL g (comL g).length++srcL g M (readH g).length) hs s hR hS (by simpa using w) (q.frame (fun u _ _=>by simp) zO) J zO ?_ ?_ (by rw[List.length_append];omega)) ?_
 ·simp[n]
 ·simp[n]
 rintro v4 e6 e5 c1 ⟨q4,⟨A,hA,f0,e0,d,y⟩,X⟩
 simp only at q4 d y X
 have f3:b6≤c1:=by first|omega|(simp at q4;omega)
 have x:=j1g hA
 have b5:=jk8 s x
 have Q:(sesL g (comL g).length++srcL g M (readH g).length++A).length≤100000:=by rw[List.length_append,List.length_append];omega
 have S:=Wh s x
 have b9:=(X1 (sesL g (comL g).length++srcL g M (readH g).length++A)).length_eq
 generalize sesL g (comL g).length++srcL g M (readH g).length++A=Z at *
 have d3:∀z∈Z,Y5 z.1=true∧Y5 z.2=true:=fun z hz=>by
  obtain⟨a,b,rfl,ha,hb⟩:=b5 z hz
  simp only[Y5,Bool.and_eq_true,decide_eq_true_eq]
  omega
 clear w q hS o a0 b7 X hA
 rcases y with⟨rfl,rfl⟩|⟨u,rfl,c5,e2,f5⟩
 ·simp(disch:=first|(simp;done)|omega) [D,objCells,d,mkS,histC]
  refine jU (vs:=[.sl none true 0 [],.fn (.func 92) [] []]) zS rfl sv91n ?_
  rintro v5 p c2 c3 ⟨K,q5⟩
  simp only at K q5
  have G:p (2*c+1)=some ⟨c,.cells (mkS g (slOf mn intC M) (rdV rt rn (readH g)) (.sl none true 0 []))⟩:=by rw[K];simpa using d
  simp(disch:=first|(simp;done)|omega) [D,objCells,G,mkS,histC]
  refine jU (vs:=[.sl none true 0 []]) zS rfl sv93n ?_
  rintro v6 d4 d1 c8 ⟨rfl,q6⟩
  simp
  have he:jV (g.ts.length+1) (QV g lvl M)=[]:=S.symm
  rw[he]
  refine jzb (ns:=[6,7]) (vs:=[.sl none true 0 [],.int .i64 0]) (ls:=[.sl none true 0 [],.int .i64 0]) (fun r h=>⟨true,fun _=>rfl,h⟩) (by simp[gd]) zS zS zS ⟨JI rfl,JI rfl,trivial⟩
 ·simp(disch:=first|(simp;done)|omega) [D,objCells,d,mkS,histC]
  refine jU (vs:=[.osl (2*u+1) u 0 Z.length 2,.fn (.func 92) [] []]) zS rfl (sv91 Q d3 (by simpa using c5) ?_) ?_
  ·simp[n]
  rintro v5 p c2 c3 ⟨q5,K⟩
  simp only at K q5
  have G:p (2*c+1)=some ⟨c,.cells (mkS g (slOf mn intC M) (rdV rt rn (readH g)) (.osl (2*u+1) u 0 Z.length 2))⟩:=by
   rw[K,if_neg zO]
   simpa using d
  have c9:p (2*u+1)=some ⟨u,.cells ((QQ Z).flatMap edC)⟩:=by rw[K,if_pos rfl]
  simp(disch:=first|(simp;done)|omega) [D,objCells,G,mkS,histC]
  refine jU (vs:=[.osl (2*u+1) u 0 (QQ Z).length 2]) (by simp[b9]) rfl (sv93 zO (by simpa using c9) ?_) ?_
  ·simp[n]
  rintro v6 d4 d1 c8 ⟨rfl,cs,h6,l6,t6⟩
  simp only at h6
  rw[S]at l6 t6 ⊢
  simp
  refine jzb (ns:=[6,7]) (vs:=[.osl (2*u+1) u 0 (jV (g.ts.length+1) (QV g lvl M)).length 2,.int .i64 0]) (ls:=[.sl none false (jV (g.ts.length+1) (QV g lvl M)).length ((jV (g.ts.length+1) (QV g lvl M)).flatMap edC),.int .i64 0]) (fun r h=>⟨false,fun h=>(by cases h),h⟩) (by simp[gd]) zS zS zS ⟨QC rfl (jow (cs:=cs) (by simpa using h6) ?_ l6 t6 (jub _)),JI rfl,trivial⟩
  simp[n]
end
def j45:List UInt8:=[98,101,103,105,110,32,115,10,114,101,97,100,32,115,32,121,32,50,10,119,114,105,116,101,32,115,32,120,32,49,10,111,107,32,115,10,98,101,103,105,110,32,116,10,114,101,97,100,32,116,32,120,32,49,10,119,114,105,116,101,32,116,32,121,32,50,10,111,107,32,116]
def H44:Hist':=⟨false,[[115],[116]],false,[[120],[121]],false,[⟨0,1,false,[⟨false,1,⟨1,2⟩⟩,⟨true,0,⟨1,1⟩⟩]⟩,⟨1,1,false,[⟨false,0,⟨1,1⟩⟩,⟨true,1,⟨1,2⟩⟩]⟩]⟩
theorem k44:(callers E 100 noY).d 57 [.str j45]=some (.tup [(.agg [(.sl (some (0,1)) false 2 [(.str [115]),(.str [116])]),(.sl (some (1,1)) false 2 [(.str [120]),(.str [121])]),(.sl (some (2,3)) false 2 [(.int .i64 0),(.int .i64 1),(.sl none false 2 [(.bool false),(.int .i64 1),(.int .i64 1),(.int .i64 2),(.bool true),(.int .i64 0),(.int .i64 1),(.int .i64 1)]),(.int .i64 1),(.int .i64 1),(.sl none false 2 [(.bool false),(.int .i64 0),(.int .i64 1),(.int .i64 1),(.bool true),(.int .i64 1),(.int .i64 1),(.int .i64 2)])])]),(.int .i64 0),(.int .i64 0)]):=by kernel_rfl
def ed44:List V:=[.int .i64 0,.int .i64 1,.int .i64 1,.int .i64 0,.int .i64 2,.int .i64 0,.int .i64 2,.int .i64 1]
theorem k97:(callers E 100 noY).d 97 [.int .i64 3,.sl none false 4 ed44]=some (.tup [.sl none true 0 [],.int .i64 3]):=by kernel_rfl
theorem k100:(callers E 100 noY).d 100 [.int .i64 3,.sl none false 4 ed44]=some (.tup [.sl (some (0,1)) false 2 [.int .i64 0,.int .i64 1],.int .i64 0]):=by kernel_rfl
def j4w (r:List Int × Int) (v:V):Prop:=∃nl,(nl=true→r.1=[])∧jy3 [.sl none nl r.1.length (r.1.flatMap intC),.int .i64 r.2] v
theorem jhc {ub:Nat}{v:V}{r:List Int × Int}{K:Delta→Prop}(d:j4w r v) (h:∀t a add,(a=true→r.1=[])→K { v:=.tup [.sl t a r.1.length (r.1.flatMap intC),.int .i64 r.2],add:=add }):wpD (Xa ub v) K:=by
 obtain⟨a,b,c⟩:=d
 exact jo2 c fun t add=>h t a add b
theorem jhk {st:St}{a b:Nat}{r:List Int × Int}{t:Option (Nat × Nat)}{nl:Bool}(f:st.df=[]) (c:st.tm a=.sl t nl r.1.length (r.1.flatMap intC)) (d:st.tm b=.int .i64 r.2) (e:nl=true→r.1=[]):ja2 [.t a,.t b] (j4w r) .ret st :=
 jzb (ns:=[a,b]) (vs:=[.sl t nl r.1.length (r.1.flatMap intC),.int .i64 r.2]) (ls:=[.sl none nl r.1.length (r.1.flatMap intC),.int .i64 r.2]) (fun _ h=>⟨nl,e,h⟩) f (by simp[c,d]) zS zS ⟨QC rfl (WH _ t nl _ _),JI rfl,trivial⟩
section
variable {g:Hist'}{M:List Int}
theorem ev48 (l:Small g) (s:g.ts.length≤8) {mn:Bool}(lvl:Int) (q:M.length≤100) (R:List Int × Int)
 (b:jew g lvl M=0→∀nl,(nl=true→jV (g.ts.length+1) (QV g lvl M)=[])→∃v,Ev E 100 [.int .i64 ((g.ts.length+1:Nat):Int),.sl none nl (jV (g.ts.length+1) (QV g lvl M)).length ((jV (g.ts.length+1) (QV g lvl M)).flatMap edC)] v∧j4w R v) :
 ∃v,Ev E 48 [.int .i64 lvl,.agg (histC g),slOf mn intC M] v∧j4w (if jew g lvl M=0 then R else ([],jew g lvl M)) v:=by
 obtain⟨u,f,d,j,x⟩:=ev42 l s (mn:=mn) lvl q
 have w:=jm (n:=((g.ts.length:Int)+1)) zO zO
 refine XF (af:=F48) rfl zD ?_
 simp[F48,objCells,histC,slOf,V.cells,V.leaf]
 refine jO f (by simp[histC,slOf]) rfl (by simp[histC,slOf]) ?_
 refine jo2 x fun z k=>?_
 by_cases a:jew g lvl M=0
 ·have e:jha g lvl M=(jV (g.ts.length+1) (QV g lvl M),0):=by simp[jha,a]
  rw[e]at j ⊢
  obtain⟨v,c,p⟩:=b a d j
  rw[if_pos a]
  simp[objCells,w]
  refine jO c (by simp[V.strip,V.strip1]) rfl zS ?_
  refine jhc p fun y o i h=>?_
  simp
  exact jhk zS (by simp;rfl) zS h
 ·have e:jha g lvl M=([],jew g lvl M):=by simp[jha,a]
  rw[e,if_neg a]
  have m:(jew g lvl M != 0)=true:=by simpa using a
  simp[m]
  exact jhk (r:=([],jew g lvl M)) (t:=none) (nl:=true) zS zS zS (fun _=>rfl)
end
section
variable {g:Hist'}{M:List Int}
theorem ev47e (j:Small g) (q:g.ts.length≤8) {mn:Bool}(lvl:Int) (p:M.length≤100) (w:jew g lvl M=0) {e:Int}(y:e≠0)
 (b:∀nl,(nl=true→jV (g.ts.length+1) (QV g lvl M)=[])→∃v,Ev E 97 [.int .i64 ((g.ts.length+1:Nat):Int),.sl none nl (jV (g.ts.length+1) (QV g lvl M)).length ((jV (g.ts.length+1) (QV g lvl M)).flatMap edC)] v∧j4w ([],e) v) :
 ∃v,Ev E 47 [.int .i64 lvl,.agg (histC g),slOf mn intC M] v∧j4w ([],e) v:=by
 obtain⟨s,d,c,h,z⟩:=ev42 j q (mn:=mn) lvl p
 have x:=jm (n:=((g.ts.length:Int)+1)) zO zO
 refine XF (af:=F47) rfl zD ?_
 simp[F47,objCells,histC,slOf,V.cells,V.leaf]
 refine jO d (by simp[histC,slOf]) rfl (by simp[histC,slOf]) ?_
 refine jo2 z fun D i=>?_
 have u:jha g lvl M=(jV (g.ts.length+1) (QV g lvl M),0):=by simp[jha,w]
 rw[u]at h ⊢
 obtain⟨v,a,m⟩:=b c h
 simp[objCells,x]
 refine jO a (by simp[V.strip,V.strip1]) rfl zS ?_
 refine jhc m fun B l f o=>?_
 have k:(e != 0)=true:=by simpa using y
 simp[k]
 exact jhk (r:=([],e)) (t:=none) (nl:=true) zS zS zS (fun _=>rfl)
end
theorem s44:Small H44:=⟨zD,zD,zD,zD,zD,zD⟩
theorem s44e:jew H44 1 [1,0]=0:=by decide +kernel
theorem s44d:jV (H44.ts.length+1) (QV H44 1 [1,0])=[(0,1),(1,0),(2,0),(2,1)]:=by decide +kernel
theorem ev44:Ev E 44 [] (.bool true):=by
 obtain⟨t,q,j⟩:=ev48 s44 zD (mn:=false) (M:=[1,0]) 1 zD ([0,1],0) fun _ c d=>by
  rw[s44d]at d ⊢
  obtain rfl:c=false:=by cases c;rfl;cases d rfl
  exact⟨_,⟨100,k100⟩,false,fun h=>(by cases h),[.sl (some (0,1)) false 2 [.int .i64 0,.int .i64 1],.int .i64 0],rfl,rfl,zD⟩
 rw[if_pos s44e]at j
 obtain⟨u,n,r⟩:=ev47e s44 zD (mn:=false) (M:=[1,0]) 1 zD s44e (e:=3) zD fun c d=>by
  rw[s44d]at d ⊢
  obtain rfl:c=false:=by cases c;rfl;cases d rfl
  exact⟨_,⟨100,k97⟩,true,fun _=>rfl,[.sl none true 0 [],.int .i64 3],rfl,rfl,zD⟩
 have i:Ev E 57 [.str j45] _:=⟨100,k44⟩
 have m:∀c,Ev E 32 [slOf c intC [0,1],slOf false intC [0,1]] (.bool true):=fun c=>by
  have:=ev32 (a:=c) (b:=false) [0,1] [0,1] zD zD
  rwa [show(([0,1]:List Int) == [0,1])=true from rfl]at this
 refine jQ (af:=F44) rfl ?_
 simp[F44]
 refine jO i rfl rfl rfl ?_
 simp[Xa,toksRes,V.toks,V.tok,jbx,jbw,Y6,Nat.blt,objCells,j2]
 refine jJ (cs:=[.int .i64 1,.int .i64 0]) (by simp[j2]) rfl rfl ?_
 simp
 refine jO q (by simp[slOf,intC,histC,H44,Jk,jn,opC,V.strip,V.strip1]) rfl (by simp[slOf,intC,histC]) ?_
 refine jhc j fun v f k s=>?_
 simp[objCells]
 refine jJ (cs:=[.int .i64 1,.int .i64 0]) (by simp[j2]) rfl rfl ?_
 simp
 refine jO n (by simp[slOf,intC,histC,H44,Jk,jn,opC,V.strip,V.strip1]) rfl (by simp[slOf,intC,histC]) ?_
 refine jhc r fun w o l p=>?_
 simp
 refine jJ (cs:=[.int .i64 0,.int .i64 1]) (by simp[j2]) rfl rfl ?_
 simp
 refine jO (m f) (by simp[slOf,intC,V.strip,V.strip1]) rfl (by simp[slOf,intC]) ?_
 simp
 exact j1 rfl zS rfl
theorem jhz {N:Nat}{p q:Nat→Nat→Bool}(h:∀a b,a<N→b<N→p a b=q a b):jV N p=jV N q :=
 jd1 (jb1 N p) (jb1 N q) fun z=>by
  rw[edgesOf_mem,edgesOf_mem]
  constructor
  ·rintro⟨a,b,c,d,f,e⟩
   exact⟨a,b,c,d,by rw[← h a b c d];exact f,e⟩
  ·rintro⟨a,b,c,d,f,e⟩
   exact⟨a,b,c,d,by rw[h a b c d];exact f,e⟩
theorem j1h {g:Hist'}{lvl:Int}{M:List Int}(f:jav g M=true) {l:List P2}(h:jh9 g lvl M l):jV (g.ts.length+1) (fun a b=>l.contains ((a:Int),(b:Int)))=jV (g.ts.length+1) (QV g lvl M):=by
 refine jhz fun a b c d=>?_
 rw[Bool.eq_iff_iff,List.contains_iff_mem,← (X1 l).mem_iff,← compP_mem,Wh f h,edgesOf_mem]
 constructor
 ·rintro⟨x,y,_,_,h,e⟩
  have i:(a:Int)=x:=congrArg Prod.fst e
  have j:(b:Int)=y:=congrArg Prod.snd e
  rw[show a=x by omega,show b=y by omega]
  exact h
 ·exact fun h=>⟨a,b,c,d,h,rfl⟩
theorem jt9 (N:Nat) (p:Nat→Nat→Bool):(jV N p).length≤N*N:=by
 unfold jV
 rw[List.length_flatMap]
 have:∀l:List Nat,(l.map fun a=>(((List.range N).filter (p a)).map fun b:Nat=>((a:Int),(b:Int))).length).sum≤l.length*N:=by
  intro l
  induction l with
  | nil=>simp
  | cons x l c=>
   have d:((List.range N).filter (p x)).length≤N:=Nat.le_trans (List.length_filter_le _ _) zS
   simp only[List.map_cons,List.sum_cons,List.length_map,List.length_cons,Nat.succ_mul]
   simp only[List.length_map]at c
   omega
 simpa using this (List.range N)
theorem ev12 (h:Hist') (lvl:Int) {nl:Bool}(M:List Int):Ev E 12 [.int .i64 lvl,.agg (histC h),slOf nl intC M] (.bool true):=by
 obtain⟨r,Q,L⟩:=ev15 h
 obtain⟨r2,x,m⟩:=ev15 (QJ h)
 rw[jyh]at m
 have z:=j5h h
 have I:=j3d h
 generalize QJ h=g at *
 have v:jbq false [.int .i64 (M.length:Int),.int .i64 60]=some (.int .i64 ((min M.length 60:Nat):Int)):=jd9 M.length 60
 have u:min M.length 60≤M.length:=Nat.min_le_left _ _
 have S:min M.length 60≤60:=Nat.min_le_right _ _
 generalize min M.length 60=k1 at *
 have y:=j04 jC none nl M u
 have Z:(M.take k1).length≤60:=by rw[List.length_take];omega
 generalize M.take k1=M' at *
 obtain⟨vm,q,n⟩:=ev25 nl M' zO
 obtain⟨U,k,i⟩:=ev25 false M' zO
 obtain⟨N,t,p,D,d⟩:=ev42 z I (mn:=false) (M:=M') lvl zO
 have B:=ev43 z lvl (mn:=false) (M:=M') zO
 refine jQ (af:=F12) rfl ?_
 simp[F12,histC,objCells]
 refine X5 Q (by simp[histC,slOf]) rfl (by simp[histC,slOf]) ?_
 refine jrj L fun a1 b1 c1 G=>?_
 simp[v,y,slOf]
 refine X5 q (by simp[slOf]) rfl (by simp[slOf]) ?_
 refine XZ n fun a2 j=>?_
 simp[objCells,j2]
 refine jO x (by simp[histC,slOf]) rfl (by simp[histC,slOf]) ?_
 refine jrj m fun a4 b4 c4 J=>?_
 simp
 refine jO k (by simp[slOf]) rfl (by simp[slOf]) ?_
 refine XZ i fun a5 F=>?_
 simp
 refine jO t (by simp[histC,slOf]) rfl (by simp[histC,slOf]) ?_
 refine jo2 d fun t1 add=>?_
 simp[objCells]
 refine jO B (by simp[histC,slOf]) rfl (by simp[histC,slOf]) ?_
 by_cases a:jew g lvl M'=0
 ·have s:jha g lvl M'=(jV (g.ts.length+1) (QV g lvl M'),0):=by simp[jha,a]
  rw[s]
  have c:jav g M'=true:=by
   cases c:jav g M'
   ·unfold jew at a
    split at a
    ·cases a
    ·rw[if_pos (.inr (.inr c))]at a
     cases a
   ·rfl
  have o:lvl≠3:=by
   intro e
   unfold jew at a
   split at a
   ·cases a
   ·rw[if_pos (.inr (.inl zO))]at a
    cases a
  have X:=Yp c
  obtain⟨K,w,l,O,b⟩:=ev46 z I zO (mn:=false) lvl o c
  rw[j1h c O]at b
  have P:=jt9 (g.ts.length+1) (QV g lvl M')
  have H:(g.ts.length+1)*(g.ts.length+1)≤9*9:=Nat.mul_le_mul zO zO
  have f:=ev45 (an:=p) (bn:=false) (jV (g.ts.length+1) (QV g lvl M')) (jV (g.ts.length+1) (QV g lvl M')) zO
  rw[beq_self_eq_true]at f
  rw[a]
  simp[objCells]
  refine jO w (by simp[histC,slOf]) rfl (by simp[histC,slOf]) ?_
  refine XZ b fun t2 j=>?_
  simp
  refine jO f (by simp[slOf]) rfl (by simp[slOf]) ?_
  simp
  refine jO ev44 zS rfl zS ?_
  simp
  exact j1 rfl zS rfl
 ·have s:jha g lvl M'=([],jew g lvl M'):=by simp[jha,a]
  rw[s]
  have T:(jew g lvl M' != 0)=true:=by simpa using a
  simp[T]
  refine jO ev44 zS rfl zS ?_
  simp
  exact j1 rfl zS rfl
end Go.Pv.T
namespace Go.Pv.T
open Go Go.Pv Go.Proofs Go.Shelf
def renS:Ren where
 f:=fun x=>match x with
  | 189=>69
  | 125=>118
  | 257=>117
  | 128=>187
  | 129=>188
  | 294=>178
  | 295=>179
  | 296=>180
  | 297=>181
  | 298=>182
  | 299=>183
  | 216=>184
  | 300=>185
  | 301=>186
  | 328=>238
  | 329=>239
  | 330=>240
  | 331=>241
  | 332=>242
  | 215=>243
  | 343=>275
  | n=>n
 t:=fun x=>match x with
  | 28=>26
  | 3=>3
  | 46=>160
  | 0=>0
  | 51=>236
  | 53=>165
  | 4=>4
  | 183=>230
  | 182=>229
  | 131=>157
  | 5=>5
  | 9=>9
  | 218=>275
  | 222=>279
  | 228=>307
  | 229=>304
  | n=>n
 g:=fun x=>x
theorem laysS:Lays.n189 Tryz.prog renS where
 mixed:=by kernel_rfl
 f125:=Tryz.func118.trans (congrArg some (by kernel_rfl))
 f128:=Tryz.func187.trans (congrArg some (by kernel_rfl))
 f129:=Tryz.func188.trans (congrArg some (by kernel_rfl))
 f189:=Tryz.func69.trans (congrArg some (by kernel_rfl))
 f215:=Tryz.func243.trans (congrArg some (by kernel_rfl))
 f216:=Tryz.func184.trans (congrArg some (by kernel_rfl))
 f257:=Tryz.func117.trans (congrArg some (by kernel_rfl))
 f294:=Tryz.func178.trans (congrArg some (by kernel_rfl))
 f295:=Tryz.func179.trans (congrArg some (by kernel_rfl))
 f296:=Tryz.func180.trans (congrArg some (by kernel_rfl))
 f297:=Tryz.func181.trans (congrArg some (by kernel_rfl))
 f298:=Tryz.func182.trans (congrArg some (by kernel_rfl))
 f299:=Tryz.func183.trans (congrArg some (by kernel_rfl))
 f300:=Tryz.func185.trans (congrArg some (by kernel_rfl))
 f301:=Tryz.func186.trans (congrArg some (by kernel_rfl))
 f328:=Tryz.func238.trans (congrArg some (by kernel_rfl))
 f329:=Tryz.func239.trans (congrArg some (by kernel_rfl))
 f330:=Tryz.func240.trans (congrArg some (by kernel_rfl))
 f331:=Tryz.func241.trans (congrArg some (by kernel_rfl))
 f332:=Tryz.func242.trans (congrArg some (by kernel_rfl))
 f343:=Tryz.func275.trans (congrArg some (by kernel_rfl))
 t0:=Tryz.underlying0
 a0:=Tryz.isAgg0
 z0:=Tryz.sizeOf0
 v0:=Tryz.zeroValue0
 t3:=Tryz.underlying3
 a3:=Tryz.isAgg3
 z3:=Tryz.sizeOf3
 v3:=Tryz.zeroValue3
 t4:=Tryz.underlying4
 a4:=Tryz.isAgg4
 z4:=Tryz.sizeOf4
 v4:=Tryz.zeroValue4
 t5:=Tryz.underlying5
 a5:=Tryz.isAgg5
 z5:=Tryz.sizeOf5
 v5:=Tryz.zeroValue5
 t9:=Tryz.underlying9
 a9:=Tryz.isAgg9
 z9:=Tryz.sizeOf9
 v9:=Tryz.zeroValue9
 t28:=Tryz.underlying26
 a28:=Tryz.isAgg26
 z28:=Tryz.sizeOf26
 v28:=Tryz.zeroValue26
 t46:=Tryz.underlying160
 a46:=Tryz.isAgg160
 z46:=Tryz.sizeOf160
 v46:=Tryz.zeroValue160
 t51:=Tryz.underlying236
 a51:=Tryz.isAgg236
 z51:=Tryz.sizeOf236
 v51:=Tryz.zeroValue236
 t53:=Tryz.underlying165
 a53:=Tryz.isAgg165
 z53:=Tryz.sizeOf165
 v53:=Tryz.zeroValue165
 t131:=Tryz.underlying157
 a131:=Tryz.isAgg157
 z131:=Tryz.sizeOf157
 v131:=Tryz.zeroValue157
 t182:=Tryz.underlying229
 a182:=Tryz.isAgg229
 z182:=Tryz.sizeOf229
 v182:=Tryz.zeroValue229
 t183:=Tryz.underlying230
 a183:=Tryz.isAgg230
 z183:=Tryz.sizeOf230
 v183:=Tryz.zeroValue230
 t218:=Tryz.underlying275
 a218:=Tryz.isAgg275
 z218:=Tryz.sizeOf275
 v218:=Tryz.zeroValue275
 t222:=Tryz.underlying279
 a222:=Tryz.isAgg279
 z222:=Tryz.sizeOf279
 v222:=Tryz.zeroValue279
 t228:=Tryz.underlying307
 a228:=Tryz.isAgg307
 z228:=Tryz.sizeOf307
 v228:=Tryz.zeroValue307
 t229:=Tryz.underlying304
 a229:=Tryz.isAgg304
 z229:=Tryz.sizeOf304
 v229:=Tryz.zeroValue304
theorem jq6:jh7 Tryz.prog 69 none:=by
 refine⟨⟨Tryz.f69,_,Tryz.func69,rfl,by kernel_rfl⟩,fun p cap w=>?_,fun blk off cap n zs w hlen _ h1 h2 h3=>?_⟩
 ·exact Any.slices_Sort_int_none laysS p cap w
 ·obtain rfl:zs.length=n:=by simpa[jfd] using hlen
  have:=Any.slices_Sort_int laysS blk off cap zs w h1 h2 h3
  rwa [jk2]at this
end Go.Pv.T
namespace Go.Pv.T
open Go Go.Pv Go.Proofs Go.Shelf Go.Sort Go.Lib
def renF:Ren where
 f:=fun x=>match x with
  | 6=>91
  | 14=>141
  | 15=>118
  | 20=>195
  | 21=>196
  | 22=>197
  | 23=>198
  | 24=>199
  | 25=>200
  | 26=>201
  | 27=>202
  | 28=>187
  | 29=>188
  | 46=>245
  | 47=>239
  | 48=>240
  | 49=>246
  | 50=>247
  | 57=>277
  | n=>n
 t:=fun x=>match x with
  | 0=>0
  | 3=>3
  | 4=>4
  | 5=>5
  | 9=>9
  | 22=>58
  | 25=>130
  | 39=>160
  | 45=>229
  | 46=>230
  | 50=>157
  | 53=>236
  | 55=>165
  | 66=>275
  | 70=>279
  | 76=>307
  | 77=>304
  | 24=>70
  | n=>n
 g:=fun x=>x
theorem laysF:SlLaysF0.n6 Tryz.prog renF where
 mixed:=by kernel_rfl
 f6:=⟨Tryz.f91.name,by kernel_rfl,Tryz.func91.trans (congrArg some (by kernel_rfl))⟩
 f14:=⟨Tryz.f141.name,by kernel_rfl,Tryz.func141.trans (congrArg some (by kernel_rfl))⟩
 f15:=Tryz.func118.trans (congrArg some (by kernel_rfl))
 f20:=⟨Tryz.f195.name,by kernel_rfl,Tryz.func195.trans (congrArg some (by kernel_rfl))⟩
 f21:=⟨Tryz.f196.name,by kernel_rfl,Tryz.func196.trans (congrArg some (by kernel_rfl))⟩
 f22:=⟨Tryz.f197.name,by kernel_rfl,Tryz.func197.trans (congrArg some (by kernel_rfl))⟩
 f23:=⟨Tryz.f198.name,by kernel_rfl,Tryz.func198.trans (congrArg some (by kernel_rfl))⟩
 f24:=⟨Tryz.f199.name,by kernel_rfl,Tryz.func199.trans (congrArg some (by kernel_rfl))⟩
 f25:=⟨Tryz.f200.name,by kernel_rfl,Tryz.func200.trans (congrArg some (by kernel_rfl))⟩
 f26:=⟨Tryz.f201.name,by kernel_rfl,Tryz.func201.trans (congrArg some (by kernel_rfl))⟩
 f27:=⟨Tryz.f202.name,by kernel_rfl,Tryz.func202.trans (congrArg some (by kernel_rfl))⟩
 f28:=Tryz.func187.trans (congrArg some (by kernel_rfl))
 f29:=Tryz.func188.trans (congrArg some (by kernel_rfl))
 f46:=⟨Tryz.f245.name,by kernel_rfl,Tryz.func245.trans (congrArg some (by kernel_rfl))⟩
 f47:=Tryz.func239.trans (congrArg some (by kernel_rfl))
 f48:=Tryz.func240.trans (congrArg some (by kernel_rfl))
 f49:=⟨Tryz.f246.name,by kernel_rfl,Tryz.func246.trans (congrArg some (by kernel_rfl))⟩
 f50:=⟨Tryz.f247.name,by kernel_rfl,Tryz.func247.trans (congrArg some (by kernel_rfl))⟩
 f57:=⟨Tryz.f277.name,by kernel_rfl,Tryz.func277.trans (congrArg some (by kernel_rfl))⟩
 t0:=Tryz.underlying0
 a0:=Tryz.isAgg0
 z0:=Tryz.sizeOf0
 v0:=Tryz.zeroValue0
 t3:=Tryz.underlying3
 a3:=Tryz.isAgg3
 z3:=Tryz.sizeOf3
 v3:=Tryz.zeroValue3
 t4:=Tryz.underlying4
 a4:=Tryz.isAgg4
 z4:=Tryz.sizeOf4
 v4:=Tryz.zeroValue4
 t5:=Tryz.underlying5
 a5:=Tryz.isAgg5
 z5:=Tryz.sizeOf5
 v5:=Tryz.zeroValue5
 t9:=Tryz.underlying9
 a9:=Tryz.isAgg9
 z9:=Tryz.sizeOf9
 v9:=Tryz.zeroValue9
 t22:=Tryz.underlying58
 a22:=Tryz.isAgg58
 z22:=Tryz.sizeOf58
 v22:=Tryz.zeroValue58
 t25:=Tryz.underlying130
 a25:=Tryz.isAgg130
 z25:=Tryz.sizeOf130
 v25:=Tryz.zeroValue130
 t39:=Tryz.underlying160
 a39:=Tryz.isAgg160
 z39:=Tryz.sizeOf160
 v39:=Tryz.zeroValue160
 t45:=Tryz.underlying229
 a45:=Tryz.isAgg229
 z45:=Tryz.sizeOf229
 v45:=Tryz.zeroValue229
 t46:=Tryz.underlying230
 a46:=Tryz.isAgg230
 z46:=Tryz.sizeOf230
 v46:=Tryz.zeroValue230
 t50:=Tryz.underlying157
 a50:=Tryz.isAgg157
 z50:=Tryz.sizeOf157
 v50:=Tryz.zeroValue157
 t53:=Tryz.underlying236
 a53:=Tryz.isAgg236
 z53:=Tryz.sizeOf236
 v53:=Tryz.zeroValue236
 t55:=Tryz.underlying165
 a55:=Tryz.isAgg165
 z55:=Tryz.sizeOf165
 v55:=Tryz.zeroValue165
 t66:=Tryz.underlying275
 a66:=Tryz.isAgg275
 z66:=Tryz.sizeOf275
 v66:=Tryz.zeroValue275
 t70:=Tryz.underlying279
 a70:=Tryz.isAgg279
 z70:=Tryz.sizeOf279
 v70:=Tryz.zeroValue279
 t76:=Tryz.underlying307
 a76:=Tryz.isAgg307
 z76:=Tryz.sizeOf307
 v76:=Tryz.zeroValue307
 t77:=Tryz.underlying304
 a77:=Tryz.isAgg304
 z77:=Tryz.sizeOf304
 v77:=Tryz.zeroValue304
abbrev SP:Type:={ p:P2 // Y5 p.1=true∧Y5 p.2=true }
instance:Inhabited SP:=⟨⟨(0,0),zD⟩⟩
def j4t (x:SP):List Value:=[.int .i64 x.1.1,.int .i64 x.1.2]
def cfP (x y:SP):Int:=if x.1.1=y.1.1 then x.1.2 - y.1.2 else x.1.1 - y.1.1
theorem jc0 {z:Int}(h:Y5 z=true):-1000000000000≤z∧z≤1000000000000:=by simpa[Y5] using h
theorem j3w (x y:SP) (W:World):Calls Tryz.prog 92 #[.agg #[.int .i64 x.1.1,.int .i64 x.1.2],.agg #[.int .i64 y.1.1,.int .i64 y.1.2]] W fun e w'=>e=.returned (.int .i64 (cfP x y))∧∃q os',w'=grow (W.drewN q) os':=by
 obtain⟨⟨a,b⟩,h1,h2⟩:=x
 obtain⟨⟨c,d⟩,h3,h4⟩:=y
 have:=jc0 h1
 have:=jc0 h2
 have:=jc0 h3
 have:=jc0 h4
 have w1:IntKind.i64.wrap (a - c)=a - c:=jm zO zO
 have w2:IntKind.i64.wrap (b - d)=b - d:=jm zO zO
 unfold cfP
 simp only
 by_cases h:a=c
 ·rw[if_pos h]
  have hb:(a != c)=false:=by simpa using h
  go_enter Tryz.func92,Tryz.ntmps92
  go_wp2
  go_ret
  exact⟨rfl,0,_,by rw[alloc_eq_grow,alloc_eq_grow,grow_grow];rfl⟩
 ·rw[if_neg h]
  have hb:(a != c)=true:=by simpa using h
  go_enter Tryz.func92,Tryz.ntmps92
  go_wp2
  go_ret
  exact⟨rfl,0,_,by rw[alloc_eq_grow,alloc_eq_grow,grow_grow];rfl⟩
theorem jni (x y:SP):ltOf cfP x y=true ↔ pLt x.1 y.1:=by
 unfold ltOf cfP pLt
 rw[decide_eq_true_eq]
 split <;> omega
theorem jaw (x y:SP):ltOf cfP x y=false ↔ ¬ pLt x.1 y.1:=by rw[← jni];simp
theorem swoP:SWO (ltOf cfP) where
 irrefl x:=(jaw x x).2 (XL _)
 trans x y z h1 h2:=(jni x z).2 (Xq ((jni x y).1 h1) ((jni y z).1 h2))
 ntrans x y z h1 h2:=by
  rw[jaw]at *
  intro h
  rcases Wl x.1 y.1 with h3|h3|h3
  ·exact h1 h3
  ·rw[h3]at h
   exact h2 h
  ·exact h2 (Xq h3 h)
theorem totP (x y:SP) (h1:ltOf cfP x y=false) (h2:ltOf cfP y x=false):x=y:=by
 rw[jaw]at h1 h2
 rcases Wl x.1 y.1 with h|h|h
 ·exact absurd h h1
 ·exact Subtype.ext h
 ·exact absurd h h2
theorem jlh {x y:P2}(h:Wk x y=true) (h':Wk y x=true):x=y:=by
 rw[pairLe_iff]at h h'
 rcases h with h|h
 ·rcases h' with h'|h'
  ·exact absurd (Xq h h') (XL _)
  ·exact h'.symm
 ·exact h
theorem jip:∀ {l m:List P2},l.Perm m→l.Pairwise (fun a b=>Wk a b=true)→m.Pairwise (fun a b=>Wk a b=true)→l=m
 | [],m,h,_,_=>(List.nil_perm.1 h).symm
 | x::r,m,h,hs,hm=>by
  cases m with
  | nil=>exact absurd h.length_eq zS
  | cons y q=>
   rw[List.pairwise_cons]at hs hm
   have hx:x∈y::q:=h.mem_iff.1 zS
   have hy:y∈x::r:=h.mem_iff.2 zS
   have e:x=y:=by
    rcases List.mem_cons.1 hx with h1|h1
    ·exact h1
    ·rcases List.mem_cons.1 hy with h2|h2
     ·exact h2.symm
     ·exact jlh (hs.1 y h2) (hm.1 x h1)
   subst e
   rw[jip ((List.perm_cons x).1 h) hs.2 hm.2]
theorem jpo (l:List SP):(l.mergeSort fun x y=>!(ltOf cfP) y x).map (·.1)=QQ (l.map (·.1)):=by
 refine jip (((List.mergeSort_perm l _).map _).trans (X1 _).symm) ?_ (jg3 _)
 rw[List.pairwise_map]
 refine(List.pairwise_mergeSort (fun a b c h1 h2=>?_) (fun a b=>?_) l).imp fun {a b} h=>?_
 ·simp only[Bool.not_eq_true']at *
  exact swoP.ntrans c b a h2 h1
 ·simp only[Bool.or_eq_true,Bool.not_eq_true',jaw]
  rcases Wl a.1 b.1 with h|h|h
  ·exact .inl fun h'=>XL _ (Xq h h')
  ·rw[h];exact .inl (XL _)
  ·exact .inr fun h'=>XL _ (Xq h h')
 ·simp only[Bool.not_eq_true',jaw]at h
  rw[pairLe_iff]
  rcases Wl a.1 b.1 with h1|h1|h1
  ·exact .inl h1
  ·exact .inr h1
  ·exact absurd h1 h
theorem jgm:∀ {n:Nat}{zs:List Int},zs.length=n*2→Ys (pairsI zs)=zs∧(pairsI zs).length=n
 | 0,zs,h=>by
  have:zs=[]:=List.length_eq_zero_iff.1 zO
  subst this
  exact⟨rfl,rfl⟩
 | n+1,[],h=>by simp at h
 | n+1,[_],h=>by simp at h;omega
 | n+1,a::b::r,h=>by
  obtain⟨h1,h2⟩:=jgm (n:=n) (zs:=r) (by simp at h;omega)
  exact⟨by simp only[pairsI,Ys,h1],by simp only[pairsI,List.length_cons,h2]⟩
theorem jdm:∀ {zs:List Int},zs.all Y5=true→∀z∈pairsI zs,Y5 z.1=true∧Y5 z.2=true
 | [],_,z,hz=>by simp[pairsI]at hz
 | [_],_,z,hz=>by simp[pairsI]at hz
 | a::b::r,h,z,hz=>by
  simp only[List.all_cons,Bool.and_eq_true]at h
  rcases List.mem_cons.1 hz with rfl|hz
  ·exact⟨h.1,h.2.1⟩
  ·exact jdm h.2.2 z hz
theorem jt4:∀L:List P2,(Ys L).length=L.length*2
 | []=>rfl
 | _::L=>by simp only[Ys,List.length_cons,jt4 L];omega
theorem jz2:∀ (L:List SP) (t:Nat),t<L.length*2→(j4t L[t / 2]!)[t % 2]! = .int .i64 (Ys (L.map (·.1)))[t]!
 | [],t,h=>by simp at h
 | x::L,0,_=>rfl
 | x::L,1,_=>rfl
 | x::L,t+2,h=>by
  have ih:=jz2 L t (by simp at h;omega)
  have e1:(t+2) / 2=t / 2+1:=zO
  have e2:(t+2) % 2=t % 2:=zO
  rw[e1,e2]
  simpa[Ys] using ih
theorem jer (L:List SP):flatK j4t 2 L.toArray=((Ys (L.map (·.1))).map (Value.int .i64)).toArray:=by
 apply Array.ext
 ·simp[jt4]
 ·intro t h1 h2
  have ht:t<L.length*2:=by simpa using h1
  have:=jz2 L t ht
  have h3:=get_flatK j4t 2 L.toArray t (by simpa using ht)
  rw[getElem!_pos _ t h1]at h3
  rw[h3]
  have e:L.toArray[t / 2]! = L[t / 2]!:=zS
  rw[e,this,getElem!_pos _ t (by rw[jt4];simpa using ht)]
  simp
theorem ji7 (off:Nat) (L:List Int) (c:Array Value):putCells id off (L.map (Value.int .i64)).toArray c=putCells (Value.int .i64) off L.toArray c:=by
 unfold putCells
 congr 1
 funext k x
 simp only[List.size_toArray,List.length_map]
 split
 ·rename_i h
  rw[getElem!_pos _ _ (by simp;omega),getElem!_pos _ _ (by simp;omega)]
  simp
 ·rfl
theorem jmw:jh7 Tryz.prog 91 (some 92):=by
 refine⟨⟨Tryz.f91,_,Tryz.func91,rfl,by kernel_rfl⟩,fun p cap w=>?_,fun blk off cap n zs w hlen hmay hH hblk hn=>?_⟩
 ·exact AnyF.slices_SortFunc_none laysF p cap _ w
 ·obtain⟨h1,h2⟩:=jgm (n:=n) (zs:=zs) hlen
  have hsm:=jdm hmay
  obtain⟨L,hL⟩:∃L:List SP,L.map (·.1)=pairsI zs:=⟨(pairsI zs).pmap (fun p h=>⟨p,h⟩) hsm,by rw[List.map_pmap];simp⟩
  have hLl:L.length=n:=by rw[← h2,← hL,List.length_map]
  have eg:∀args w,(callFunc 92 args).run Tryz.prog w=.ok (.enter 92 args) w:=enters_of Tryz.func92 (by kernel_rfl) rfl
  have hz:zs=Ys (L.map (·.1)):=by rw[hL,h1]
  have hHK:HoldsK j4t 2 w blk off L.toArray:=by
   unfold HoldsK
   rw[jer,← hz]
   intro j hj
   have hj':j<zs.length:=by simpa using hj
   have:=hH j (by simpa using hj')
   rw[getElem!_pos _ _ (by simpa using hj')]at this ⊢
   simpa using this
  have key:=AnyQ.slices_SortFunc_total laysF 2 Tryz.isAgg70 Tryz.sizeOf70 j4t (fun _=>rfl) (fun x v hv=>by simp[j4t]at hv;rcases hv with rfl|rfl <;> rfl) cfP swoP 92 #[] blk off cap L.toArray w eg
   (fun _ _ _ _ x y=>j3w x y _) hHK hblk (by simpa[hLl] using hn) totP
  rw[show L.toArray.size=n by simpa using hLl]at key
  refine key.mono ?_
  rintro e w' ⟨rfl,m,os,rfl⟩
  refine⟨rfl,m,os,?_⟩
  unfold sortWorldK putRowK
  rw[jer,jpo,show L.toArray.toList.map (·.1)=pairsI zs from hL]
  unfold putRow
  congr 1
  congr 1
  funext c
  exact ji7 off _ c
end Go.Pv.T
namespace Go.Pv.T
open Go Go.Pv Go.Proofs
theorem j11 (p:Option Addr) (cap:Nat) (w:World):Calls Tryz.prog 78 #[.slice p 0 cap] w fun e a=>e=.returned (.pointer (some ⟨w.heap.size,0,none⟩))∧∃t,a=w.alloc (.cells #[.int .u64 0,.int .u64 0,.int .u64 0,.int .u64 0,.int .u64 0,.int .u64 0,.int .u64 0,.int .u64 0] t):=by
 go_enter Tryz.func78,Tryz.ntmps78
 go_wp2
 refine wp_loop_rounds 1 ?_
 rw[rounds_succ]
 go_wp2
 go_ret
 exact⟨rfl,_,rfl⟩
theorem mkLaw:j4f Tryz.prog 78 j5n:=by
 refine⟨⟨_,_,Tryz.func78,rfl,by kernel_rfl⟩,fun p a w=>(j11 p a w).mono ?_⟩
 rintro e d ⟨rfl,t,rfl⟩
 refine⟨rfl,_,t,rfl,rfl,fun j x v c b=>?_⟩
 match j with
 | 0|1|2|3|4|5|6|7=>
  simp[j5n]at c b
  subst c b
  exact⟨rfl,fun I=>.int _ _⟩
 | j+8=>simp[j5n]at b
abbrev Jzz:=jI Tryz.prog false
theorem j0 {P:Program} {r:Bool} {f:FuncId} {fn:Func} {af:AF} (h1:P.funcs[f]? = some fn) (m:Bool:=false) (h2:j3q P m r fn=some af:=by kernel_rfl) (h3:(fn.name == "runtime.NumGoroutine")=false:=by kernel_rfl) (h4:af.body.dstOk fn.ntmps=true:=by kernel_rfl):jI P r f af:=by
  unfold j3q at h2
  cases hb:fn.body with
  | none=>rw[hb]at h2;cases h2
  | some c=>
    rw[hb,Option.bind_some]at h2
    cases hc:comp P m r c with
    | none=>rw[hc]at h2;cases h2
    | some b=>
      rw[hc,Option.bind_some]at h2
      cases hr:fn.results.toList.mapM (YV P) with
      | none=>rw[hr]at h2;cases h2
      | some res=>
        rw[hr]at h2
        cases h2
        exact⟨m,fn,c,h1,hb,hc,hr,h3,h4⟩
theorem j8m:Jzz 251 F251:=j0 Tryz.func251
theorem j8l:Jzz 252 F252:=j0 Tryz.func252
theorem j8k:Jzz 253 F253:=j0 Tryz.func253
theorem j8j:Jzz 254 F254:=j0 Tryz.func254
theorem j8i:Jzz 258 F258:=j0 Tryz.func258
theorem j8h:Jzz 259 F259:=j0 Tryz.func259
theorem j8g:Jzz 261 F261:=j0 Tryz.func261
theorem j8f:Jzz 262 F262:=j0 Tryz.func262
theorem j8e:Jzz 263 F263:=j0 Tryz.func263
theorem j8d:Jzz 264 F264:=j0 Tryz.func264
theorem j8c:Jzz 265 F265:=j0 Tryz.func265
theorem j8b:Jzz 266 F266:=j0 Tryz.func266
theorem j8a:Jzz 267 F267:=j0 Tryz.func267
theorem j79:Jzz 268 F268:=j0 Tryz.func268
theorem j78:Jzz 269 F269:=j0 Tryz.func269
theorem j77:Jzz 273 F273:=j0 Tryz.func273
theorem j76:Jzz 278 F278:=j0 Tryz.func278
theorem j75:Jzz 279 F279:=j0 Tryz.func279
theorem j74:Jzz 280 F280:=j0 Tryz.func280
theorem j73:Jzz 281 F281:=j0 Tryz.func281
theorem j72:Jzz 284 F284:=j0 Tryz.func284
theorem j71:Jzz 285 F285:=j0 Tryz.func285
theorem j70:Jzz 286 F286:=j0 Tryz.func286
theorem j7z:Jzz 287 F287:=j0 Tryz.func287
theorem j7y:Jzz 288 F288:=j0 Tryz.func288
theorem j7x:Jzz 289 F289:=j0 Tryz.func289
theorem j7w:Jzz 290 F290:=j0 Tryz.func290
theorem j7v:Jzz 293 F293:=j0 Tryz.func293
theorem j7u:Jzz 300 F300:=j0 Tryz.func300
theorem j7t:Jzz 301 F301:=j0 Tryz.func301
theorem j7s:Jzz 302 F302:=j0 Tryz.func302
theorem j7r:Jzz 304 F304:=j0 Tryz.func304
theorem j7q:Jzz 307 F307:=j0 Tryz.func307
theorem j7p:Jzz 311 F311:=j0 Tryz.func311
theorem j7o:Jzz 320 F320:=j0 Tryz.func320
theorem j90:Jzz 130 F130:=j0 Tryz.func130
theorem j9z:Jzz 136 F136:=j0 Tryz.func136
theorem j9y:Jzz 145 F145:=j0 Tryz.func145
theorem j9x:Jzz 146 F146:=j0 Tryz.func146
theorem j9w:Jzz 147 F147:=j0 Tryz.func147
theorem j9v:Jzz 148 F148:=j0 Tryz.func148
theorem j9u:Jzz 149 F149:=j0 Tryz.func149
theorem j9t:Jzz 152 F152:=j0 Tryz.func152
theorem j9s:Jzz 155 F155:=j0 Tryz.func155
theorem j9r:Jzz 157 F157:=j0 Tryz.func157
theorem j9q:Jzz 158 F158:=j0 Tryz.func158
theorem j9p:Jzz 159 F159:=j0 Tryz.func159
theorem j9o:Jzz 160 F160:=j0 Tryz.func160
theorem j9n:Jzz 161 F161:=j0 Tryz.func161
theorem j9m:Jzz 166 F166:=j0 Tryz.func166
theorem j9l:Jzz 167 F167:=j0 Tryz.func167
theorem j9k:Jzz 170 F170:=j0 Tryz.func170
theorem j9j:Jzz 172 F172:=j0 Tryz.func172
theorem j9i:Jzz 173 F173:=j0 Tryz.func173
theorem j9h:Jzz 174 F174:=j0 Tryz.func174
theorem j9g:Jzz 175 F175:=j0 Tryz.func175
theorem j9f:Jzz 176 F176:=j0 Tryz.func176
theorem j9e:Jzz 177 F177:=j0 Tryz.func177
theorem j9d:Jzz 188 F188:=j0 Tryz.func188
theorem j9c:Jzz 189 F189:=j0 Tryz.func189
theorem j9b:Jzz 190 F190:=j0 Tryz.func190
theorem j9a:Jzz 194 F194:=j0 Tryz.func194
theorem j89:Jzz 206 F206:=j0 Tryz.func206
theorem j88:Jzz 208 F208:=j0 Tryz.func208
theorem j87:Jzz 209 F209:=j0 Tryz.func209
theorem j86:Jzz 210 F210:=j0 Tryz.func210
theorem j85:Jzz 212 F212:=j0 Tryz.func212
theorem j84:Jzz 214 F214:=j0 Tryz.func214
theorem j83:Jzz 216 F216:=j0 Tryz.func216
theorem j82:Jzz 217 F217:=j0 (m:=true) Tryz.func217
theorem j81:Jzz 223 F223:=j0 Tryz.func223
theorem j80:Jzz 224 F224:=j0 Tryz.func224
theorem j8z:Jzz 225 F225:=j0 Tryz.func225
theorem j8y:Jzz 226 F226:=j0 Tryz.func226
theorem j8x:Jzz 227 F227:=j0 Tryz.func227
theorem j8w:Jzz 228 F228:=j0 Tryz.func228
theorem j8v:Jzz 229 F229:=j0 Tryz.func229
theorem j8u:Jzz 230 F230:=j0 Tryz.func230
theorem j8t:Jzz 233 F233:=j0 Tryz.func233
theorem j8s:Jzz 234 F234:=j0 Tryz.func234
theorem j8r:Jzz 235 F235:=j0 Tryz.func235
theorem j8q:Jzz 236 F236:=j0 Tryz.func236
theorem j8p:Jzz 248 F248:=j0 Tryz.func248
theorem j8o:Jzz 249 F249:=j0 Tryz.func249
theorem j8n:Jzz 250 F250:=j0 Tryz.func250
theorem okc12:Jzz 12 F12:=j0 Tryz.func12
theorem okc15:Jzz 15 F15:=j0 (m:=true) Tryz.func15
theorem okc21:Jzz 21 F21:=j0 Tryz.func21
theorem okc22:Jzz 22 F22:=j0 Tryz.func22
theorem okc25:Jzz 25 F25:=j0 Tryz.func25
theorem okc31:Jzz 31 F31:=j0 Tryz.func31
theorem okc32:Jzz 32 F32:=j0 Tryz.func32
theorem okc33:Jzz 33 F33:=j0 Tryz.func33
theorem okc39:Jzz 39 F39:=j0 Tryz.func39
theorem okc42:Jzz 42 F42:=j0 (m:=true) Tryz.func42
theorem okc43:Jzz 43 F43:=j0 Tryz.func43
theorem okc44:Jzz 44 F44:=j0 Tryz.func44
theorem okc45:Jzz 45 F45:=j0 Tryz.func45
theorem okc46:Jzz 46 F46:=j0 (m:=true) Tryz.func46
theorem okc47:Jzz 47 F47:=j0 (m:=true) Tryz.func47
theorem okc48:Jzz 48 F48:=j0 (m:=true) Tryz.func48
theorem okc52:Jzz 52 F52:=j0 Tryz.func52
theorem okc53:Jzz 53 F53:=j0 Tryz.func53
theorem okc57:Jzz 57 F57:=j0 Tryz.func57
theorem okc58:Jzz 58 F58:=j0 (m:=true) Tryz.func58
theorem okc59:Jzz 59 F59:=j0 Tryz.func59
theorem okc60:Jzz 60 F60:=j0 Tryz.func60
theorem okc61:Jzz 61 F61:=j0 Tryz.func61
theorem okc62:Jzz 62 F62:=j0 Tryz.func62
theorem okc63:Jzz 63 F63:=j0 Tryz.func63
theorem okc64:Jzz 64 F64:=j0 Tryz.func64
theorem okc71:Jzz 71 F71:=j0 Tryz.func71
theorem okc74:Jzz 74 F74:=j0 Tryz.func74
theorem okc75:Jzz 75 F75:=j0 Tryz.func75
theorem okc84:Jzz 84 F84:=j0 Tryz.func84
theorem okc86:Jzz 86 F86:=j0 Tryz.func86
theorem okc94:Jzz 94 F94:=j0 Tryz.func94
theorem okc97:Jzz 97 F97:=j0 (m:=true) Tryz.func97
theorem okc100:Jzz 100 F100:=j0 (m:=true) Tryz.func100
theorem okc103:Jzz 103 F103:=j0 Tryz.func103
theorem okc104:Jzz 104 F104:=j0 Tryz.func104
theorem okc105:Jzz 105 F105:=j0 Tryz.func105
theorem okc106:Jzz 106 F106:=j0 (m:=true) Tryz.func106
theorem okc108:Jzz 108 F108:=j0 Tryz.func108
theorem okc109:Jzz 109 F109:=j0 (m:=true) Tryz.func109
theorem okc110:Jzz 110 F110:=j0 Tryz.func110
theorem j99:Jzz 112 F112:=j0 Tryz.func112
theorem j98:Jzz 116 F116:=j0 Tryz.func116
theorem j97:Jzz 118 F118:=j0 Tryz.func118
theorem j96:Jzz 120 F120:=j0 Tryz.func120
theorem j95:Jzz 121 F121:=j0 Tryz.func121
theorem j94:Jzz 122 F122:=j0 Tryz.func122
theorem j93:Jzz 124 F124:=j0 Tryz.func124
theorem j92:Jzz 127 F127:=j0 Tryz.func127
theorem j91:Jzz 128 F128:=j0 Tryz.func128
theorem fc_2Ok {f:FuncId}{af:AF}(h:fc_2 f=some af):Jzz f af:=by
  unfold fc_2 at h
  split at h
  · cases h;exact j8m
  · cases h;exact j8l
  · cases h;exact j8k
  · cases h;exact j8j
  · cases h;exact j8i
  · cases h;exact j8h
  · cases h;exact j8g
  · cases h;exact j8f
  · cases h;exact j8e
  · cases h;exact j8d
  · cases h;exact j8c
  · cases h;exact j8b
  · cases h;exact j8a
  · cases h;exact j79
  · cases h;exact j78
  · cases h;exact j77
  · cases h;exact j76
  · cases h;exact j75
  · cases h;exact j74
  · cases h;exact j73
  · cases h;exact j72
  · cases h;exact j71
  · cases h;exact j70
  · cases h;exact j7z
  · cases h;exact j7y
  · cases h;exact j7x
  · cases h;exact j7w
  · cases h;exact j7v
  · cases h;exact j7u
  · cases h;exact j7t
  · cases h;exact j7s
  · cases h;exact j7r
  · cases h;exact j7q
  · cases h;exact j7p
  · cases h;exact j7o
  · cases h
theorem fc_1Ok {f:FuncId}{af:AF}(h:fc_1 f=some af):Jzz f af:=by
  unfold fc_1 at h
  split at h
  · cases h;exact j90
  · cases h;exact j9z
  · cases h;exact j9y
  · cases h;exact j9x
  · cases h;exact j9w
  · cases h;exact j9v
  · cases h;exact j9u
  · cases h;exact j9t
  · cases h;exact j9s
  · cases h;exact j9r
  · cases h;exact j9q
  · cases h;exact j9p
  · cases h;exact j9o
  · cases h;exact j9n
  · cases h;exact j9m
  · cases h;exact j9l
  · cases h;exact j9k
  · cases h;exact j9j
  · cases h;exact j9i
  · cases h;exact j9h
  · cases h;exact j9g
  · cases h;exact j9f
  · cases h;exact j9e
  · cases h;exact j9d
  · cases h;exact j9c
  · cases h;exact j9b
  · cases h;exact j9a
  · cases h;exact j89
  · cases h;exact j88
  · cases h;exact j87
  · cases h;exact j86
  · cases h;exact j85
  · cases h;exact j84
  · cases h;exact j83
  · cases h;exact j82
  · cases h;exact j81
  · cases h;exact j80
  · cases h;exact j8z
  · cases h;exact j8y
  · cases h;exact j8x
  · cases h;exact j8w
  · cases h;exact j8v
  · cases h;exact j8u
  · cases h;exact j8t
  · cases h;exact j8s
  · cases h;exact j8r
  · cases h;exact j8q
  · cases h;exact j8p
  · cases h;exact j8o
  · cases h;exact j8n
  · exact fc_2Ok h
theorem fcOk {f:FuncId}{af:AF}(h:fc f=some af):Jzz f af:=by
  unfold fc at h
  split at h
  · cases h;exact okc12
  · cases h;exact okc15
  · cases h;exact okc21
  · cases h;exact okc22
  · cases h;exact okc25
  · cases h;exact okc31
  · cases h;exact okc32
  · cases h;exact okc33
  · cases h;exact okc39
  · cases h;exact okc42
  · cases h;exact okc43
  · cases h;exact okc44
  · cases h;exact okc45
  · cases h;exact okc46
  · cases h;exact okc47
  · cases h;exact okc48
  · cases h;exact okc52
  · cases h;exact okc53
  · cases h;exact okc57
  · cases h;exact okc58
  · cases h;exact okc59
  · cases h;exact okc60
  · cases h;exact okc61
  · cases h;exact okc62
  · cases h;exact okc63
  · cases h;exact okc64
  · cases h;exact okc71
  · cases h;exact okc74
  · cases h;exact okc75
  · cases h;exact okc84
  · cases h;exact okc86
  · cases h;exact okc94
  · cases h;exact okc97
  · cases h;exact okc100
  · cases h;exact okc103
  · cases h;exact okc104
  · cases h;exact okc105
  · cases h;exact okc106
  · cases h;exact okc108
  · cases h;exact okc109
  · cases h;exact okc110
  · cases h;exact j99
  · cases h;exact j98
  · cases h;exact j97
  · cases h;exact j96
  · cases h;exact j95
  · cases h;exact j94
  · cases h;exact j93
  · cases h;exact j92
  · cases h;exact j91
  · exact fc_1Ok h
theorem j6j:jI Tryz.prog true 244 S244:=j0 (m:=true) Tryz.func244
theorem j6i:jI Tryz.prog true 248 S248:=j0 (m:=true) Tryz.func248
theorem j6h:jI Tryz.prog true 249 S249:=j0 (m:=true) Tryz.func249
theorem j6g:jI Tryz.prog true 255 S255:=j0 (m:=true) Tryz.func255
theorem j6f:jI Tryz.prog true 270 S270:=j0 (m:=true) Tryz.func270
theorem j6e:jI Tryz.prog true 271 S271:=j0 (m:=true) Tryz.func271
theorem j6d:jI Tryz.prog true 272 S272:=j0 (m:=true) Tryz.func272
theorem j6c:jI Tryz.prog true 274 S274:=j0 (m:=true) Tryz.func274
theorem j6b:jI Tryz.prog true 276 S276:=j0 (m:=true) Tryz.func276
theorem j6a:jI Tryz.prog true 291 S291:=j0 (m:=true) Tryz.func291
theorem j59:jI Tryz.prog true 292 S292:=j0 (m:=true) Tryz.func292
theorem j58:jI Tryz.prog true 294 S294:=j0 (m:=true) Tryz.func294
theorem j57:jI Tryz.prog true 295 S295:=j0 (m:=true) Tryz.func295
theorem j56:jI Tryz.prog true 296 S296:=j0 (m:=true) Tryz.func296
theorem j55:jI Tryz.prog true 303 S303:=j0 (m:=true) Tryz.func303
theorem j54:jI Tryz.prog true 305 S305:=j0 (m:=true) Tryz.func305
theorem j53:jI Tryz.prog true 312 S312:=j0 (m:=true) Tryz.func312
theorem oks51:jI Tryz.prog true 51 S51:=j0 (m:=true) Tryz.func51
theorem oks78:jI Tryz.prog true 78 S78:=j0 (m:=true) Tryz.func78
theorem oks81:jI Tryz.prog true 81 S81:=j0 (m:=true) Tryz.func81
theorem oks87:jI Tryz.prog true 87 S87:=j0 (m:=true) Tryz.func87
theorem oks88:jI Tryz.prog true 88 S88:=j0 (m:=true) Tryz.func88
theorem oks89:jI Tryz.prog true 89 S89:=j0 (m:=true) Tryz.func89
theorem oks90:jI Tryz.prog true 90 S90:=j0 (m:=true) Tryz.func90
theorem oks93:jI Tryz.prog true 93 S93:=j0 (m:=true) Tryz.func93
theorem oks95:jI Tryz.prog true 95 S95:=j0 (m:=true) Tryz.func95
theorem oks96:jI Tryz.prog true 96 S96:=j0 (m:=true) Tryz.func96
theorem j7n:jI Tryz.prog true 111 S111:=j0 (m:=true) Tryz.func111
theorem j7m:jI Tryz.prog true 124 S124:=j0 (m:=true) Tryz.func124
theorem j7l:jI Tryz.prog true 127 S127:=j0 (m:=true) Tryz.func127
theorem j7k:jI Tryz.prog true 128 S128:=j0 (m:=true) Tryz.func128
theorem j7j:jI Tryz.prog true 130 S130:=j0 (m:=true) Tryz.func130
theorem j7i:jI Tryz.prog true 137 S137:=j0 (m:=true) Tryz.func137
theorem j7h:jI Tryz.prog true 138 S138:=j0 (m:=true) Tryz.func138
theorem j7g:jI Tryz.prog true 139 S139:=j0 (m:=true) Tryz.func139
theorem j7f:jI Tryz.prog true 140 S140:=j0 (m:=true) Tryz.func140
theorem j7e:jI Tryz.prog true 142 S142:=j0 (m:=true) Tryz.func142
theorem j7d:jI Tryz.prog true 143 S143:=j0 (m:=true) Tryz.func143
theorem j7c:jI Tryz.prog true 144 S144:=j0 (m:=true) Tryz.func144
theorem j7b:jI Tryz.prog true 145 S145:=j0 (m:=true) Tryz.func145
theorem j7a:jI Tryz.prog true 146 S146:=j0 (m:=true) Tryz.func146
theorem j69:jI Tryz.prog true 147 S147:=j0 (m:=true) Tryz.func147
theorem j68:jI Tryz.prog true 148 S148:=j0 (m:=true) Tryz.func148
theorem j67:jI Tryz.prog true 149 S149:=j0 (m:=true) Tryz.func149
theorem j66:jI Tryz.prog true 153 S153:=j0 (m:=true) Tryz.func153
theorem j65:jI Tryz.prog true 154 S154:=j0 (m:=true) Tryz.func154
theorem j64:jI Tryz.prog true 156 S156:=j0 (m:=true) Tryz.func156
theorem j63:jI Tryz.prog true 168 S168:=j0 (m:=true) Tryz.func168
theorem j62:jI Tryz.prog true 169 S169:=j0 (m:=true) Tryz.func169
theorem j61:jI Tryz.prog true 171 S171:=j0 (m:=true) Tryz.func171
theorem j60:jI Tryz.prog true 189 S189:=j0 (m:=true) Tryz.func189
theorem j6z:jI Tryz.prog true 192 S192:=j0 (m:=true) Tryz.func192
theorem j6y:jI Tryz.prog true 193 S193:=j0 (m:=true) Tryz.func193
theorem j6x:jI Tryz.prog true 194 S194:=j0 (m:=true) Tryz.func194
theorem j6w:jI Tryz.prog true 203 S203:=j0 (m:=true) Tryz.func203
theorem j6v:jI Tryz.prog true 204 S204:=j0 (m:=true) Tryz.func204
theorem j6u:jI Tryz.prog true 205 S205:=j0 (m:=true) Tryz.func205
theorem j6t:jI Tryz.prog true 206 S206:=j0 (m:=true) Tryz.func206
theorem j6s:jI Tryz.prog true 207 S207:=j0 (m:=true) Tryz.func207
theorem j6r:jI Tryz.prog true 208 S208:=j0 (m:=true) Tryz.func208
theorem j6q:jI Tryz.prog true 209 S209:=j0 (m:=true) Tryz.func209
theorem j6p:jI Tryz.prog true 210 S210:=j0 (m:=true) Tryz.func210
theorem j6o:jI Tryz.prog true 213 S213:=j0 (m:=true) Tryz.func213
theorem j6n:jI Tryz.prog true 215 S215:=j0 (m:=true) Tryz.func215
theorem j6m:jI Tryz.prog true 231 S231:=j0 (m:=true) Tryz.func231
theorem j6l:jI Tryz.prog true 232 S232:=j0 (m:=true) Tryz.func232
theorem j6k:jI Tryz.prog true 237 S237:=j0 (m:=true) Tryz.func237
theorem fs_1Ok {f:FuncId}{af:AF}(h:fs_1 f=some af):jI Tryz.prog true f af:=by
  unfold fs_1 at h
  split at h
  · cases h;exact j6j
  · cases h;exact j6i
  · cases h;exact j6h
  · cases h;exact j6g
  · cases h;exact j6f
  · cases h;exact j6e
  · cases h;exact j6d
  · cases h;exact j6c
  · cases h;exact j6b
  · cases h;exact j6a
  · cases h;exact j59
  · cases h;exact j58
  · cases h;exact j57
  · cases h;exact j56
  · cases h;exact j55
  · cases h;exact j54
  · cases h;exact j53
  · cases h
theorem fsOk {f:FuncId}{af:AF}(h:fs f=some af):jI Tryz.prog true f af:=by
  unfold fs at h
  split at h
  · cases h;exact oks51
  · cases h;exact oks78
  · cases h;exact oks81
  · cases h;exact oks87
  · cases h;exact oks88
  · cases h;exact oks89
  · cases h;exact oks90
  · cases h;exact oks93
  · cases h;exact oks95
  · cases h;exact oks96
  · cases h;exact j7n
  · cases h;exact j7m
  · cases h;exact j7l
  · cases h;exact j7k
  · cases h;exact j7j
  · cases h;exact j7i
  · cases h;exact j7h
  · cases h;exact j7g
  · cases h;exact j7f
  · cases h;exact j7e
  · cases h;exact j7d
  · cases h;exact j7c
  · cases h;exact j7b
  · cases h;exact j7a
  · cases h;exact j69
  · cases h;exact j68
  · cases h;exact j67
  · cases h;exact j66
  · cases h;exact j65
  · cases h;exact j64
  · cases h;exact j63
  · cases h;exact j62
  · cases h;exact j61
  · cases h;exact j60
  · cases h;exact j6z
  · cases h;exact j6y
  · cases h;exact j6x
  · cases h;exact j6w
  · cases h;exact j6v
  · cases h;exact j6u
  · cases h;exact j6t
  · cases h;exact j6s
  · cases h;exact j6r
  · cases h;exact j6q
  · cases h;exact j6p
  · cases h;exact j6o
  · cases h;exact j6n
  · cases h;exact j6m
  · cases h;exact j6l
  · cases h;exact j6k
  · exact fs_1Ok h
theorem envOk:EnvOk Tryz.prog E:=⟨fun _ _ h=>fcOk h,fun _ _ h=>fsOk h,(fun f m h=>by
  simp only[E]at h
  split at h
  · cases h;exact jq6
  · cases h;exact jmw
  · cases h),(fun f cs h=>by
  simp only[E]at h
  split at h
  · cases h;exact mkLaw
  · cases h)⟩
end Go.Pv.T
namespace Go.Pv.T
open Go Go.Pv Go.Proofs Go.ChangeShapes Go.WideShapes Go.ChangeAt Go.RowKit Go.Proofs.YtphecmnehkdihaaGreatDoor
theorem own:ownKnob Tryz.prog.godebug=none:=by kernel_rfl
theorem js2:laidOutB Tryz.prog=true:=by kernel_rfl
theorem mixed:Tryz.prog.follows .mixedOrders=true:=by kernel_rfl
def jpq:List (String × DataW Unit):=[("math/bits.deBruijn64tab",Rows.laid_math_bits_deBruijn64tab),("unicode/utf8.acceptRanges",Rows.laid_unicode_utf8_acceptRanges),("deemster/event.words",Rows.laid_deemster_event_words),("unicode/utf8.first",Rows.laid_unicode_utf8_first)]
def js0:V→Value
  | .int k n=>.int k n
  | .str s=>.string ⟨s.toArray⟩
  | _=>.nilFunc
def putCells (h:Array Obj) (g:Nat) (cs:Array Value):Array Obj:=h.modify g fun
    | .cells _ t frozen=>.cells cs t frozen
    | o=>o
def jmh:Array Value:=#[.int .u8 128,.int .u8 191,.int .u8 160,.int .u8 191,.int .u8 128,.int .u8 159,.int .u8 144,.int .u8 191,.int .u8 128,.int .u8 143,.int .u8 0,.int .u8 0,.int .u8 0,.int .u8 0,.int .u8 0,.int .u8 0,.int .u8 0,.int .u8 0,.int .u8 0,.int .u8 0,.int .u8 0,.int .u8 0,.int .u8 0,.int .u8 0,.int .u8 0,.int .u8 0,.int .u8 0,.int .u8 0,.int .u8 0,.int .u8 0,.int .u8 0,.int .u8 0]
noncomputable def laidWorld (os:Os):World :=
  let w0:=World.holding Tryz.prog os ⟨#[],#[],[]⟩
  { w0 with heap:=putCells (putCells (putCells (putCells w0.heap 0 (bruij.map js0).toArray) 1 (words.map js0).toArray) 2 (utf8first.map js0).toArray) 3 jmh }
theorem jyq (os:Os) (args:Array Value):laidMetH Tryz.prog jpq ((laidWorld os).forCall (fun _ _=>0) ⟨#[],args,[]⟩).memory:=by
  rw[MakeChecks.laidMetH_plain _ _ _ (by kernel_rfl)]
  exact laidMet_of_run' 8 (by kernel_rfl) (by kernel_rfl)
theorem gWords:Tryz.prog.globalNamed "deemster/event.words" = some 1:=by kernel_rfl
theorem gFirst:Tryz.prog.globalNamed "unicode/utf8.first" = some 2:=by kernel_rfl
theorem gBruij:Tryz.prog.globalNamed "math/bits.deBruijn64tab" = some 0:=by kernel_rfl
theorem tBruij:(Tryz.prog.globals[0]?).map (·.type)=some 281:=by kernel_rfl
theorem tWords:(Tryz.prog.globals[1]?).map (·.type)=some 300:=by kernel_rfl
theorem tFirst:(Tryz.prog.globals[2]?).map (·.type)=some 319:=by kernel_rfl
def Xy (W:World):IMap:=fun b o=>W.cell? ⟨b,o,none⟩
theorem juj (W:World):jkq (Xy W) W:=fun _ _ _ h=>h
def jkt:DataW Unit→V
  | .lit (.int k n)=>.int k n
  | .lit (.string s)=>.str s
  | _=>.undef
theorem jmf     {W:World} {t e:TypeId} {n fuel:Nat} {cs:List Value} {ds:List (DataW Unit)} {p:List MemPlace} (ht:Tryz.prog.underlying t=some (.array n e)) (hc:Tryz.prog.cellsOf e=1)
    (he:Tryz.prog.underlying e=some .string∨∃k,Tryz.prog.underlying e=some (.int k)) (h:DataW.trod (fun _=>()) Tryz.prog W 0 (fun _=>true) false fuel t cs=some (.agg ds,p)) (I:IMap) :
    ∀ (j:Nat) (d:DataW Unit),ds[j]? = some d→∃x,cs[j]? = some x∧RepP I x (jkt d):=by
  obtain⟨xs,m,rfl,hx,hlen,hn,hel⟩:=DataW.trod_array ht h
  intro j d hd
  simp only[Prod.mk.injEq,DataW.agg.injEq]at hx
  rw[hx.1,List.getElem?_map]at hd
  cases hy:xs[j]? with
  | none=>simp[hy]at hd
  | some y=>
    rw[hy]at hd
    simp only[Option.map_some,Option.some.injEq]at hd
    have hj:j<n:=by rw[← hn];exact(List.getElem?_eq_some_iff.1 hy).1
    have:=hel j hj
    rw[hc,Nat.mul_one,hy]at this
    have one:∀c,(cs.drop j).take 1=[c]→cs[j]? = some c:=by
      intro c hcc
      have:=congrArg List.head? hcc
      simpa[List.head?_take,List.head?_drop] using this
    rcases he with he|⟨k,he⟩
    · obtain⟨s,e1,e2,_⟩:=DataW.trod_string he this
      refine⟨_,one _ e1,?_⟩
      rw[← hd,e2]
      exact RepP.str s
    · obtain⟨s,e1,e2,_⟩:=DataW.trod_int he this
      refine⟨_,one _ e1,?_⟩
      rw[← hd,e2]
      exact RepP.int k s
theorem jnv    {W:World} {nm:String} {g:Nat} {cs:Array Value} {ds:List (DataW Unit)} (hg:Tryz.prog.globalNamed nm=some g) (hv:W.var? Tryz.prog nm=some cs) (hp:(ds.map jkt ).all V.pureLeaf=true)
    (h:∀ (j:Nat) (d:DataW Unit),ds[j]? = some d→∃x,cs.toList[j]? = some x∧RepP (Xy W) x (jkt d)):RepP (Xy W) (.pointer (some ⟨g,0,none⟩)) (.eptr (ds.map jkt) 0):=by
  have hc:=World.var?_cell hg hv
  refine RepP.eptr g 0 0 (ds.map jkt) (fun j=>(cs[j]?).getD .nilFunc) (fun j hj=>?_) (fun j v hj=>?_) (fun j v hj=>?_)
  · rw[List.length_map]at hj
    obtain⟨x,hx,_⟩:=h j ds[j] (List.getElem?_eq_getElem hj)
    have hx':cs[j]? = some x:=by simpa using hx
    show W.cell? ⟨g,0+j,none⟩=_
    rw[Nat.zero_add,hc j,hx']
    rfl
  · exact List.all_eq_true.1 hp v (List.mem_of_getElem? hj)
  · rw[List.getElem?_map]at hj
    cases hd:ds[j]? with
    | none=>rw[hd]at hj;cases hj
    | some d=>
      rw[hd]at hj
      cases hj
      obtain⟨x,hx,hr⟩:=h j d hd
      have hx':cs[j]? = some x:=by simpa using hx
      rw[hx']
      exact hr
def aggOf:DataW Unit→List (DataW Unit)
  | .agg l=>l
  | _=>[]
theorem jvj:(aggOf Rows.laid_deemster_event_words).map jkt=words:=by kernel_rfl
theorem jyy:(aggOf Rows.laid_math_bits_deBruijn64tab).map jkt=bruij:=by kernel_rfl
theorem juo:Rows.laid_math_bits_deBruijn64tab=.agg (aggOf Rows.laid_math_bits_deBruijn64tab):=by kernel_rfl
theorem jp9:((aggOf Rows.laid_math_bits_deBruijn64tab).map jkt).all V.pureLeaf=true:=by kernel_rfl
theorem jyf:(aggOf Rows.laid_unicode_utf8_first).map jkt=utf8first:=by kernel_rfl
theorem jt2:Rows.laid_unicode_utf8_first=.agg (aggOf Rows.laid_unicode_utf8_first):=by kernel_rfl
theorem jon:((aggOf Rows.laid_deemster_event_words).map jkt).all V.pureLeaf=true:=by kernel_rfl
theorem jp1:((aggOf Rows.laid_unicode_utf8_first).map jkt).all V.pureLeaf=true:=by kernel_rfl
theorem jkk       {H:Type} {enc:TypeId × Value→H} {W W':World} (hb:Below W.heap.size W W'):∀ {ts:List TypeId} {vs:List Value} {ds:List (DataW H)} {ps:List MemPlace},
    (∀t∈ts,Tryz.prog.readableRec t=true∧t<Tryz.prog.types.size)→(∀x∈ps,x.block<W.heap.size) →
    DataW.TrodAll enc Tryz.prog W 0 (fun _=>true) true ts vs ds ps→DataW.TrodAll enc Tryz.prog W' 0 (fun b=>decide (b<W.heap.size)) true ts vs ds ps
  | [],[],[],_,_,_,h=>h
  | t::ts,v::vs,d::ds,_,ht,hlt,⟨p,q,h1,h2,e⟩=>by
    subst e
    exact⟨p,q,Below.trod js2 (ht t (List.mem_cons_self ..)).1 (ht t (List.mem_cons_self ..)).2 h1 hb (fun x hx=>hlt x (List.mem_append_left _ hx)),
      jkk hb (fun t' h'=>ht t' (List.mem_cons_of_mem _ h')) (fun x hx=>hlt x (List.mem_append_right _ hx)) h2,rfl⟩
  | [],_::_,_,_,_,_,h=>h.elim
  | [],[],_::_,_,_,_,h=>h.elim
  | _::_,[],_,_,_,_,h=>h.elim
  | _::_,_::_,[],_,_,_,h=>h.elim
theorem jru       {H:Type} {enc:TypeId × Value→H} {fn:Func} {s:ChangeSpec} {W W':World} {args:Array Value} {ds gs:List (DataW H)} {before:List MemPlace} (hW:DataW.Whole enc Tryz.prog fn.params.toList s.vars false W args.toList ds gs before)
    (hv:s.vars=[]) (hr:fn.resultTypes = #[4]) (hs:(s.fn H ds).results=[.lit (.bool true)]) (ha:(s.fn H ds).args=ds) (hvs:(s.fn H ds).vars=[])
    (ht:∀t∈fn.params.toList,Tryz.prog.readableRec t=true∧t<Tryz.prog.types.size) (hg:W.grownBy W' none):s.post enc Tryz.prog fn false true false false W args (.bool true) W':=by
  have hb:Below W.heap.size W W':=(Below.refl _ W).grown hg zR (fun _ h=>by cases h)
  have hW':=hW
  obtain⟨p,q,hA,hV,rfl,_,_⟩:=hW
  rw[hv]at hV
  obtain⟨rfl,rfl⟩:=trodVars_none hV
  have hlt:∀x∈p,x.block<W.heap.size:=fun x hx=>by simpa using hW'.lt x (List.mem_append_left _ hx)
  refine⟨ds,[],_,[],p,[],hW',?_,?_,?_,hb.frame _,fun h=>by cases h⟩
  · rw[List.append_nil,hs,hr]
    exact trodAll_mk1 (shut_bool Tryz.underlying4 _)
  · rw[List.append_nil,ha]
    exact jkk hb ht hlt hA
  · rw[List.append_nil,hvs,hv]
    rfl
end Go.Pv.T
namespace Go.Pv.T
open Go Go.Pv Go.Proofs Go.ChangeShapes Go.WideShapes Go.ChangeAt Go.RowKit
inductive Ty where
 | bool
 | int (k:IntKind)
 | str
 | unit
 | pair (a b:Ty)
 | slice (t:Ty)
def Ty.cells:Ty→Nat
 | .unit=>0
 | .pair a b=>a.cells+b.cells
 | _=>1
inductive Sh:Ty→List V→Prop where
 | bool (b:Bool):Sh .bool [.bool b]
 | int (k:IntKind) (n:Int):Sh (.int k) [.int k n]
 | str (s:List UInt8):Sh .str [.str s]
 | unit:Sh .unit []
 | pair {a b:Ty}{va vb:List V}(ha:Sh a va) (hb:Sh b vb):Sh (.pair a b) (va++vb)
 | nil {t:Ty}:Sh (.slice t) [.sl none true 0 []]
 | slice {t:Ty}(es:List (List V)) (hn:es.length≤maxLen) (h:∀e∈es,Sh t e):Sh (.slice t) [.sl none false es.length es.flatten]
def WR (P:Program) (g:TypeId→Option Ty):List Field→Nat→Option Ty
 | [],_=>some .unit
 | f::r,off=>if f.offset=off then (g f.type).bind fun a=>if P.cellsOf f.type=a.cells then (WR P g r (off+a.cells)).map (.pair a) else none else none
def jza (P:Program):Nat→TypeId→Option Ty
 | 0,_=>none
 | n+1,t=>match P.underlying t with
  | some .bool=>some .bool
  | some (.int k)=>some (.int k)
  | some .string=>some .str
  | some (.slice e)=>(jza P n e).bind fun ty=>if P.cellsOf e=ty.cells then some (.slice ty) else none
  | some (.struct fs)=>(WR P (jza P n) fs.toList 0).bind fun ty=>if P.cellsOf t=ty.cells then some ty else none
  | _=>none
theorem Sh.len {t:Ty}{vs:List V}(h:Sh t vs):vs.length=t.cells:=by
 induction h with
 | pair _ _ a b=>simp[Ty.cells,a,b]
 | _=>rfl
theorem Sh.pure {t:Ty}{vs:List V}(h:Sh t vs):∀v∈vs,v.pureLeaf=true:=by
 induction h with
 | pair _ _ b c=>intro v a;rcases List.mem_append.1 a with h|h;exact b v h;exact c v h
 | unit=>intro v a;cases a
 | _=>intro v a;rw[List.mem_singleton]at a;subst a;rfl
def Reps (I:IMap) (cs:List Value) (vs:List V):Prop:=cs.length=vs.length∧∀ (j:Nat) (x:Value) (v:V),cs[j]? = some x→vs[j]? = some v→RepP I x v
theorem Reps.one {I:IMap}{x:Value}{v:V}(h:RepP I x v):Reps I [x] [v] :=
 ⟨rfl,fun j y u a b=>by
  match j,a,b with
  | 0,a,b=>cases a;cases b;exact h
  | j+1,a,_=>simp at a⟩
theorem jhx {d:Type}{sz:Nat}(c:0<sz):∀ (es:List (List d)),(∀e∈es,e.length=sz)→∀j,es.flatten[j]? = (es[j / sz]?).bind fun e=>e[j % sz]?
 | [],_,j=>by simp
 | e::es,h,j=>by
  have b:=h e (List.mem_cons_self ..)
  rw[List.flatten_cons,List.getElem?_append,b]
  split
  ·rename_i a
   rw[Nat.div_eq_of_lt a,Nat.mod_eq_of_lt a]
   rfl
  ·rename_i g
   have f:j=(j - sz)+sz:=zO
   rw[jhx c es (fun e b=>h e (List.mem_cons_of_mem _ b)) (j - sz)]
   conv=>rhs;rw[f,Nat.add_div_right _ c,Nat.add_mod_right]
   rfl
theorem jn1 {a:Type}{sz:Nat}:∀ (es:List (List a)),(∀e∈es,e.length=sz)→es.flatten.length=es.length*sz
 | [],_=>by simp
 | e::es,h=>by
  rw[List.flatten_cons,List.length_append,h e (List.mem_cons_self ..),jn1 es (fun e b=>h e (List.mem_cons_of_mem _ b)),List.length_cons,Nat.succ_mul]
  omega
section
variable {H:Type}{enc:TypeId × Value→H}{W:World}{P:Program}
theorem jjc {e:Type}{p:Nat→e→Prop}:∀ (n:Nat),(∀i,i<n→∃a,p i a)→∃l:List e,l.length=n∧∀i a,l[i]? = some a→p i a
 | 0,_=>⟨[],rfl,fun i a h=>by simp at h⟩
 | n+1,h=>by
  obtain⟨l,d,g⟩:=jjc n (fun i k=>h i zO)
  obtain⟨a,f⟩:=h n zO
  refine⟨l++[a],by simp[d],fun i b c=>?_⟩
  rw[List.getElem?_append]at c
  split at c
  ·exact g i b c
  ·rename_i j
   have:i=n:=by
    have:=(List.getElem?_eq_some_iff.1 c).1
    simp at this
    omega
   subst this
   simp[d]at c
   subst c
   exact f
theorem jgo {g:TypeId→Option Ty}{n:Nat}{cs:List Value}(z:∀t ty,g t=some ty→∀cs x,DataW.trod enc P W 0 (fun _=>true) true n t cs=some x→∃c,Sh ty c∧Reps (Xy W) cs c) :
 ∀ (fs:List Field) (off:Nat) (ty:Ty),WR P g fs off=some ty→(∀f∈fs,∃x,DataW.trod enc P W 0 (fun _=>true) true n f.type ((cs.drop f.offset).take (P.cellsOf f.type))=some x)→cs.length=off+ty.cells →
  ∃c,Sh ty c∧Reps (Xy W) (cs.drop off) c
 | [],off,ty,h,_,hl=>by
  simp only[WR,Option.some.injEq]at h
  subst h
  simp only[Ty.cells,Nat.add_zero]at hl
  exact⟨[],.unit,by simp[hl],fun j x v _ J=>by simp at J⟩
 | f::r,off,ty,h,hx,hl=>by
  simp only[WR]at h
  split at h
  ·rename_i i
   cases p:g f.type with
   | none=>rw[p]at h;cases h
   | some a=>
    rw[p,Option.bind_some]at h
    split at h
    ·rename_i F
     cases m:WR P g r (off+a.cells) with
     | none=>rw[m]at h;cases h
     | some b=>
      rw[m]at h
      cases h
      simp only[Ty.cells]at hl
      obtain⟨x,s⟩:=hx f (List.mem_cons_self ..)
      obtain⟨K,k,e⟩:=z f.type a p _ _ s
      obtain⟨I,w,l⟩:=jgo z r (off+a.cells) b m (fun G B=>hx G (List.mem_cons_of_mem _ B)) zO
      refine⟨K++I,.pair k w,?_,fun j y u q d=>?_⟩
      ·have:=k.len;have:=w.len
       simp only[List.length_drop,List.length_append]
       omega
      ·rw[i,F]at e
       rw[List.getElem?_append]at d
       rw[k.len]at d
       rw[List.getElem?_drop]at q
       split at d
       ·rename_i o
        exact e.2 j y u (by rw[List.getElem?_take,if_pos o,List.getElem?_drop];exact q) d
       ·rename_i D
        exact l.2 (j - a.cells) y u (by rw[List.getElem?_drop,show off+a.cells+(j - a.cells)=off+j from by omega];exact q) d
    ·cases h
  ·cases h
theorem jm4:∀ (n:Nat) (t:TypeId) (ty:Ty),jza P n t=some ty→∀ (D:Nat) (cs:List Value) (x:DataW H × List MemPlace),DataW.trod enc P W 0 (fun _=>true) true D t cs=some x→∃I,Sh ty I∧Reps (Xy W) cs I
 | 0,_,_,h,_,_,_,_=>by cases h
 | n+1,t,ty,h,D,cs,x,G=>by
  simp only[jza]at h
  split at h
  ·rename_i z
   cases h
   obtain⟨b,rfl,_⟩:=DataW.trod_bool z G
   exact⟨_,.bool b,Reps.one (.bool b)⟩
  ·rename_i k z
   cases h
   obtain⟨b,rfl,_⟩:=DataW.trod_int z G
   exact⟨_,.int k b,Reps.one (.int k b)⟩
  ·rename_i z
   cases h
   obtain⟨s,rfl,_⟩:=DataW.trod_string z G
   exact⟨_,.str s.data.toList,Reps.one (.str s)⟩
  ·rename_i e z
   cases K:jza P n e with
   | none=>rw[K]at h;cases h
   | some g=>
    rw[K,Option.bind_some]at h
    split at h
    ·rename_i hc
     cases h
     rcases DataW.trod_slice z G with⟨rfl,_⟩|⟨a,len,b8,b9,c2,m,_,rfl,_,_,M,hm,c3,L,_,_⟩
     ·exact⟨_,.nil,Reps.one .slnil⟩
     ·have N:∀i,i<len→∃I,Sh g I∧∃c,W.cells? 0 (a.add (i*g.cells)) g.cells=some c∧Reps (Xy W) c I:=by
       intro i T
       have r:=L i T
       rw[List.getElem?_eq_getElem zO,hc]at r
       obtain⟨c,a0,c0⟩:=Option.bind_eq_some_iff.1 r
       obtain⟨I,h3,h4⟩:=jm4 n e g K m c _ c0
       exact⟨I,h3,c,a0,h4⟩
      obtain⟨p,r,h2⟩:=jjc len N
      have X:∀e∈p,Sh g e:=fun e K=>by
       obtain⟨i,T⟩:=List.getElem?_of_mem K
       exact(h2 i e T).1
      have S:∀e∈p,e.length=g.cells:=fun e K=>(X e K).len
      have F:∀ (j:Nat) (v:V),p.flatten[j]? = some v→0<g.cells∧j / g.cells<len∧∃y,W.cell? ((a.add (j / g.cells*g.cells)).add (j % g.cells))=some y∧RepP (Xy W) y v∧v.pureLeaf=true:=by
       intro j v d
       have h0:0<g.cells:=by
        rcases Nat.eq_zero_or_pos g.cells with h|h
        ·have:=jn1 p S
         rw[h,Nat.mul_zero]at this
         rw[List.length_eq_zero_iff.1 this]at d
         simp at d
        ·exact h
       rw[jhx h0 p S]at d
       cases u:p[j / g.cells]? with
       | none=>rw[u]at d;cases d
       | some e=>
        rw[u,Option.bind_some]at d
        have J:j / g.cells<len:=by rw[← r];exact(List.getElem?_eq_some_iff.1 u).1
        obtain⟨O,c,b5,U⟩:=h2 _ e u
        have c1:=Nat.mod_lt j h0
        have q:=(World.cells?_some b5).2.2 _ c1
        have b0:c.length=g.cells:=by rw[U.1,O.len]
        rw[List.getElem?_eq_getElem zO]at q
        exact⟨h0,J,_,q,U.2 _ _ v (List.getElem?_eq_getElem zO) d,O.pure v (List.mem_of_getElem? d)⟩
      have B:p.flatten≠[]→a.spot=none:=by
       intro b6
       obtain⟨v,hv⟩:∃v,p.flatten[0]? = some v:=by
        cases Q:p.flatten with
        | nil=>exact absurd Q b6
        | cons v l=>exact⟨v,rfl⟩
       obtain⟨h0,_,y,w,_⟩:=F 0 v hv
       rw[Nat.zero_div,Nat.zero_mod,Nat.zero_mul]at w
       simpa[Addr.add] using World.cell?_spot w
      have o:∀ (j:Nat) (v:V),p.flatten[j]? = some v→∃y,W.cell? ⟨a.block,a.off+j,none⟩=some y∧RepP (Xy W) y v:=by
       intro j v d
       obtain⟨h0,_,y,w,hr,_⟩:=F j v d
       have hs:=B (fun h=>by rw[h]at d;simp at d)
       obtain⟨b,off,sp⟩:=a
       simp only at hs
       subst hs
       rw[add_plain,add_plain]at w
       refine⟨y,?_,hr⟩
       rw[← w,Nat.add_assoc,Nat.div_add_mod']
      rw[← r]at M
      refine⟨_,.slice p (Nat.le_trans M hm) X,Reps.one ?_⟩
      rw[r]at M ⊢
      refine RepP.sl a len b8 p.flatten (fun j=>(W.cell? ⟨a.block,a.off+j,none⟩).getD .nilFunc) B M hm (fun j d=>?_) (fun j v d=>?_) (fun j v d=>?_)
      ·obtain⟨y,w,_⟩:=o j _ (List.getElem?_eq_getElem d)
       show W.cell? _=some ((W.cell? _).getD _)
       rw[w]
       rfl
      ·exact(F j v d).2.2.choose_spec.2.2
      ·obtain⟨y,w,hr⟩:=o j v d
       show RepP _ ((W.cell? _).getD _) v
       rw[w]
       exact hr
    ·cases h
  ·rename_i fs z
   cases Q:WR P (jza P n) fs.toList 0 with
   | none=>rw[Q]at h;cases h
   | some b=>
    rw[Q,Option.bind_some]at h
    split at h
    ·rename_i hc
     cases h
     obtain⟨xs,m,rfl,_,M,hn,L⟩:=DataW.trod_struct z G
     have:=jgo (n:=m) (cs:=cs) (fun t ty h cs x G=>jm4 n t ty h m cs x G) fs.toList 0 ty Q (fun f b7=>by
      obtain⟨i,T⟩:=List.getElem?_of_mem b7
      have Z:fs[i]? = some f:=by simpa using T
      have r:=L i f Z
      have J:i<xs.length:=by rw[hn];exact(Array.getElem?_eq_some_iff.1 Z).1
      rw[List.getElem?_eq_getElem J]at r
      exact⟨_,r⟩) (by rw[Nat.zero_add,M,hc])
     simpa using this
    ·cases h
  ·cases h
end
end Go.Pv.T
namespace Go.Pv.T
open Go Go.Pv Go.Proofs Go.ChangeShapes Go.WideShapes Go.ChangeAt Go.RowKit Go.Proofs.YtphecmnehkdihaaGreatDoor
theorem jy0      {W:World} {t e:TypeId} {n fuel:Nat} {cs:List Value} {ds:List (DataW Unit)} {p:List MemPlace} {f0 f1:Field} {k0 k1:IntKind} (ht:Tryz.prog.underlying t=some (.array n e)) (hc:Tryz.prog.cellsOf e=2)
    (he:Tryz.prog.underlying e=some (.struct #[f0,f1])) (o0:f0.offset=0) (o1:f1.offset=1) (c0:Tryz.prog.cellsOf f0.type=1) (c1:Tryz.prog.cellsOf f1.type=1)
    (u0:Tryz.prog.underlying f0.type=some (.int k0)) (u1:Tryz.prog.underlying f1.type=some (.int k1)) (h:DataW.trod (fun _=>()) Tryz.prog W 0 (fun _=>true) false fuel t cs=some (.agg ds,p)) (I:IMap) :
    ∀ (j:Nat) (d:DataW Unit),(ds.map aggOf).flatten[j]? = some d→∃x,cs[j]? = some x∧RepP I x (jkt d):=by
  obtain⟨xs,m,rfl,hx,hlen,hn,hel⟩:=DataW.trod_array ht h
  simp only[Prod.mk.injEq,DataW.agg.injEq]at hx
  have one:∀ (l:List Value) (j:Nat) c,(l.drop j).take 1=[c]→l[j]? = some c:=by
    intro l j c hcc
    have:=congrArg List.head? hcc
    simpa[List.head?_take,List.head?_drop] using this
  have each:∀ (j:Nat) (y:DataW Unit × List MemPlace),xs[j]? = some y→∃d0 d1 x0 x1,y.1=.agg [d0,d1]∧cs[j*2]? = some x0∧RepP I x0 (jkt d0)∧cs[j*2+1]? = some x1∧RepP I x1 (jkt d1):=by
    intro j y hy
    have hj:j<n:=by rw[← hn];exact(List.getElem?_eq_some_iff.1 hy).1
    have h2:=hel j hj
    rw[hc,hy]at h2
    obtain⟨y0,y1,m',e1,hl2,g0,g1⟩:=trod_struct2 he h2
    rw[o0,c0]at g0
    rw[o1,c1]at g1
    obtain⟨z0,a0,b0,_⟩:=DataW.trod_int u0 g0
    obtain⟨z1,a1,b1,_⟩:=DataW.trod_int u1 g1
    have q0:=one _ _ _ a0
    have q1:=one _ _ _ a1
    rw[List.getElem?_take,if_pos zO,List.getElem?_drop]at q0 q1
    refine⟨y0.1,y1.1,_,_,by rw[e1],by simpa using q0,?_,q1,?_⟩
    · rw[b0];exact RepP.int k0 z0
    · rw[b1];exact RepP.int k1 z1
  have hds:ds=xs.map (·.1):=hx.1
  have len2:∀e∈ds.map aggOf,e.length=2:=by
    intro e he
    rw[hds,List.map_map]at he
    obtain⟨y,hy,rfl⟩:=List.mem_map.1 he
    obtain⟨j,hj⟩:=List.getElem?_of_mem hy
    obtain⟨d0,d1,x0,x1,e,_⟩:=each j y hj
    simp only[Function.comp,e,aggOf,List.length_cons,List.length_nil]
  intro k d hd
  rw[jhx zD _ len2]at hd
  rw[hds,List.map_map,List.getElem?_map]at hd
  cases hy:xs[k / 2]? with
  | none=>rw[hy]at hd;cases hd
  | some y=>
    rw[hy]at hd
    obtain⟨d0,d1,x0,x1,e,g0,r0,g1,r1⟩:=each _ y hy
    simp only[Option.map_some,Option.bind_some,Function.comp,e,aggOf]at hd
    rcases Nat.mod_two_eq_zero_or_one k with hk|hk
    · rw[hk]at hd
      cases hd
      rw[show k / 2*2=k from by omega]at g0
      exact⟨x0,g0,r0⟩
    · rw[hk]at hd
      cases hd
      rw[show k / 2*2+1=k from by omega]at g1
      exact⟨x1,g1,r1⟩
def accD:List (DataW Unit):=((aggOf Rows.laid_unicode_utf8_acceptRanges).map aggOf).flatten
theorem gAcc:Tryz.prog.globalNamed "unicode/utf8.acceptRanges" = some 3:=by kernel_rfl
theorem acc_eq:accD.map jkt=accR:=by kernel_rfl
theorem j37:Rows.laid_unicode_utf8_acceptRanges=.agg (aggOf Rows.laid_unicode_utf8_acceptRanges):=by kernel_rfl
theorem jy2:(accD.map jkt).all V.pureLeaf=true:=by kernel_rfl
theorem tAcc:(Tryz.prog.globals[3]?).map (·.type)=some 322:=by kernel_rfl
theorem glOk {W:World}(h:laidMetH Tryz.prog jpq W):GlOk E (Xy W):=by
  rw[MakeChecks.laidMetH_plain _ _ _ (by kernel_rfl)]at h
  obtain⟨ps,⟨g3,t3,cs3,f3,p3,q3,hg3,ht3,hv3,hd3,⟨g2,t2,cs2,f2,p2,q2,hg2,ht2,hv2,hd2,⟨g0,t0,cs0,f0,p0,q0,hg0,ht0,hv0,hd0,⟨g1,t1,cs1,f1,p1,q1,hg1,ht1,hv1,hd1,_,_⟩,_⟩,_⟩,_⟩,_,_⟩:=h
  obtain rfl:=Option.some.inj (gWords.symm.trans hg0)
  obtain rfl:=Option.some.inj (gFirst.symm.trans hg1)
  obtain rfl:=Option.some.inj (tWords.symm.trans ht0)
  obtain rfl:=Option.some.inj (tFirst.symm.trans ht1)
  obtain rfl:=Option.some.inj (gBruij.symm.trans hg3)
  obtain rfl:=Option.some.inj (tBruij.symm.trans ht3)
  obtain rfl:=Option.some.inj (gAcc.symm.trans hg2)
  obtain rfl:=Option.some.inj (tAcc.symm.trans ht2)
  intro g cs hcs
  simp only[E]at hcs
  split at hcs
  · cases hcs
    rw[← jyy]
    rw[juo]at hd3
    exact jnv gBruij hv3 jp9 (jmf Tryz.underlying281 (by kernel_rfl) (Or.inr ⟨.u8,by kernel_rfl⟩) hd3 _)
  · cases hcs
    rw[← jvj]
    exact jnv gWords hv0 jon (jmf Tryz.underlying300 (by kernel_rfl) (Or.inl (by kernel_rfl)) hd0 _)
  · cases hcs
    rw[← jyf]
    rw[jt2]at hd1
    exact jnv gFirst hv1 jp1 (jmf Tryz.underlying319 (by kernel_rfl) (Or.inr ⟨.u8,by kernel_rfl⟩) hd1 _)
  · cases hcs
    rw[← acc_eq]
    rw[j37]at hd2
    exact jnv gAcc hv2 jy2 (jy0 (k0:=.u8) (k1:=.u8) Tryz.underlying322 (by kernel_rfl) Tryz.underlying321 rfl rfl (by kernel_rfl) (by kernel_rfl) (by kernel_rfl) (by kernel_rfl) hd2 _)
  · cases hcs
theorem jp8        {f:FuncId} {W:World} {args:Array Value} {vs:List V} (hL:laidMetH Tryz.prog jpq   W) (hlen:args.size=vs.length) (hr:∀ (j:Nat) (x:Value) (v:V),args[j]? = some x→vs[j]? = some v→RepP (Xy     W) x v)
    (he:Ev E f vs (.bool true)):Calls Tryz.prog f args W fun e w'=>e=.returned (.bool true)∧W.grownBy w' none:=by
  refine(Ev.sound mixed envOk he W (Xy W) args (juj W) (glOk hL) hlen hr).mono fun e W' ⟨x,τ,I',h1,h2,_,_,_,h3,_⟩=>⟨?_,h2⟩
  rw[h1]
  have h4:RepP I' x (.bool true):=h3
  cases h4
  rfl
end Go.Pv.T
