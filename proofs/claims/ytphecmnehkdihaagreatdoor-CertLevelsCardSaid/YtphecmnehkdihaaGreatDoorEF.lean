/- Transactions that are one's own, in a slice that is one's own. -/
import Derived.Test.YtphecmnehkdihaaGreatDoorEE
import Derived.Shelf.Sort.Plain
import Derived.Shelf.Slices.In.SortNone
import Derived.Test.YtphecmnehkdihaaGreatDoorRows
import Derived.Test.YtphecmnehkdihaaGreatDoorTie
import Derived.ProofKit
import Derived.LaidMore
import Derived.OpenShut
import Derived.Stop.Joined
import Derived.SizedLaws
import Derived.Carry
import Derived.Handed
import Derived.ChangeSame
set_option maxRecDepth 100000
namespace Go.Pv.T
open Go Go.Pv
theorem solid_leaf {st:St} {k:Nat} {v:V} (h:v.pureLeaf=true):solid st (k+1) v=some v:=by
 cases v with
 | sl t nl n cs=>cases t with
  | none=>rfl
  | some t=>cases h
 | osl l u a n s=>cases h
 | _=>simp [solid,h]
theorem solid_leafs {st:St} {k:Nat}:∀ {l:List V},l.all V.pureLeaf=true→l.mapM (solid st (k+1))=some l
 | [],_=>rfl
 | v::l,h=>by
  rw [List.all_cons,Bool.and_eq_true] at h
  rw [List.mapM_cons,solid_leaf h.1,solid_leafs h.2]
  rfl
theorem leaf_ops (l:List Op'):(l.flatMap opC).all V.pureLeaf=true:=by
 rw [List.all_flatMap,List.all_eq_true]
 intro t _
 rfl
theorem mapM_app {f:V→Option V}:∀ {l m l' m':List V},l.mapM f=some l'→m.mapM f=some m'→(l++m).mapM f=some (l'++m')
 | [],m,l',m',h,h'=>by
  cases (show some []=some l' from h)
  exact h'
 | v::l,m,l',m',h,h'=>by
  rw [List.mapM_cons] at h
  rw [List.cons_append,List.mapM_cons]
  cases hv:f v with
  | none=>rw [hv] at h;cases h
  | some v' =>
   rw [hv] at h
   cases hl:l.mapM f with
   | none=>rw [hl] at h;cases h
   | some r =>
    rw [hl] at h
    cases (show some (v'::r)=some l' from h)
    rw [mapM_app hl h']
    rfl
def txU (p:Txn' × Nat):List V:=[.int .i64 p.1.s,.int .i64 p.1.f,.osl (2 * p.2+1) p.2 0 p.1.ops.length 4]
@[simp] theorem txU_len (p:Txn' × Nat):(txU p).length=3:=rfl
structure InO (ob:Nat→Option Obj') (lo hi:Nat) (p:Txn' × Nat):Prop where
 nl:p.1.nl=false
 lo:lo≤p.2
 hi:p.2<hi
 ob:∃ X,ob (2 * p.2+1)=some ⟨p.2,.cells X⟩∧p.1.ops.length * 4≤X.length∧X.take (p.1.ops.length * 4)=p.1.ops.flatMap opC
theorem InO.frame {ob ob':Nat→Option Obj'} {lo hi hi':Nat} {p:Txn' × Nat} (h:InO ob lo hi p) (ho:ob' (2 * p.2+1)=ob (2 * p.2+1)) (hh:hi≤hi'):InO ob' lo hi' p :=
 ⟨h.nl,h.lo,by have:=h.hi;omega,by rw [ho];exact h.ob⟩
def TsO (ob:Nat→Option Obj') (lo hi:Nat) (P:List (Txn' × Nat)) (v:V):Prop :=
 (∀ p∈P,InO ob lo hi p)∧((P=[]∧v = .sl none true 0 [])∨(P≠[]∧∃ u,lo≤u∧u<hi∧(∀ p∈P,p.2≠u)∧v = .osl (2 * u+1) u 0 P.length 3∧ob (2 * u+1)=some ⟨u,.cells (P.flatMap txU)⟩))
theorem TsO.frame {ob ob':Nat→Option Obj'} {lo hi hi':Nat} {P:List (Txn' × Nat)} {v:V} (h:TsO ob lo hi P v) (ho:∀ u,lo≤u→u<hi→ob' (2 * u+1)=ob (2 * u+1)) (hh:hi≤hi'):TsO ob' lo hi' P v:=by
 refine ⟨fun p hp=>(h.1 p hp).frame (ho _ (h.1 p hp).lo (h.1 p hp).hi) hh,?_⟩
 rcases h.2 with h2 | ⟨hne,u,h1,h2,h3,h4,h5⟩
 ·exact .inl h2
 ·exact .inr ⟨hne,u,h1,by omega,h3,h4,by rw [ho u h1 h2];exact h5⟩
theorem solid_in {st:St} {lo hi:Nat} {p:Txn' × Nat} (h:InO st.ob lo hi p) (hr:st.ro≤lo):solid st 5 (.osl (2 * p.2+1) p.2 0 p.1.ops.length 4)=some (slOf p.1.nl opC p.1.ops):=by
 obtain ⟨X,h1,h2,h3⟩:=h.ob
 have hlo:=h.lo
 have hoc:objCells st.ob (2 * p.2+1) p.2=some X:=by simp [objCells,h1]
 show ((objCells st.ob (2 * p.2+1) p.2).bind fun cs=>if Nat.ble st.ro p.2=true∧0+p.1.ops.length * 4≤cs.length then (((cs.drop 0).take (p.1.ops.length * 4)).mapM (solid st 4)).map fun cs'=>V.sl none false p.1.ops.length cs' else none)=_
 rw [hoc,Option.bind_some,if_pos ⟨Nat.ble_eq ▸ (by omega),by omega⟩,List.drop_zero,h3,solid_leafs (leaf_ops _),h.nl]
 rfl
theorem solid_txs {st:St} {lo hi:Nat} (hr:st.ro≤lo):∀ {P:List (Txn' × Nat)},(∀ p∈P,InO st.ob lo hi p)→(P.flatMap txU).mapM (solid st 5)=some ((P.map (·.1)).flatMap txnC)
 | [],_=>rfl
 | p::P,h=>by
  rw [List.flatMap_cons,List.map_cons,List.flatMap_cons]
  refine mapM_app ?_ (solid_txs hr fun q hq=>h q (List.mem_cons_of_mem _ hq))
  have:=solid_in (h p (List.mem_cons_self ..)) hr
  show [V.int .i64 p.1.s,.int .i64 p.1.f,.osl (2 * p.2+1) p.2 0 p.1.ops.length 4].mapM (solid st 5)=_
  rw [List.mapM_cons,List.mapM_cons,List.mapM_cons,this]
  rfl
theorem TsO.out {st:St} {lo hi:Nat} {P:List (Txn' × Nat)} {v:V} (h:TsO st.ob lo hi P v) (hr:st.ro≤lo):SlOut st v P.isEmpty P.length ((P.map (·.1)).flatMap txnC):=by
 rcases h.2 with ⟨rfl,rfl⟩ | ⟨hne,u,h1,h2,h3,rfl,h5⟩
 ·exact slOut_sl _ none true 0 []
 ·intro keep i
  have hoc:objCells st.ob (2 * u+1) u=some (P.flatMap txU):=by simp [objCells,h5]
  have hs:solid st 6 (.osl (2 * u+1) u 0 P.length 3)=some (.sl none false P.length ((P.map (·.1)).flatMap txnC)):=by
   show ((objCells st.ob (2 * u+1) u).bind fun cs=>if Nat.ble st.ro u=true∧0+P.length * 3≤cs.length then (((cs.drop 0).take (P.length * 3)).mapM (solid st 5)).map fun cs'=>V.sl none false P.length cs' else none)=_
   rw [hoc,Option.bind_some,if_pos ⟨Nat.ble_eq ▸ (by omega),by rw [flatMap_len txU_len];omega⟩,List.drop_zero,← flatMap_len txU_len P,List.take_length,solid_txs hr h.1]
   rfl
  have he:P.isEmpty=false:=by cases P <;> simp_all
  rw [he]
  refine ⟨_,by simp only [outLeaf,hs,Option.bind_some,hoc,Option.map_some];rfl,?_⟩
  split
  ·exact .inr ⟨_,rfl⟩
  ·exact .inl rfl
section
variable {Yf:YF} {st:St} {ub:Nat} {K:St→Nat→Prop} {d:Nat}
theorem kS_copyO {α:Type} {f:α→List V} {l:List α} {z sz bytes:Nat} {s x:A} (hs:eval E st.tm s = .osl (2 * z+1) z 0 0 sz) (ho:st.ob (2 * z+1)=some ⟨z,.cells []⟩) (hro:st.ro≤z)
 (hx:slCells st.ob sz (eval E st.tm x)=some (l.flatMap f)) (hf:∀ a,(f a).length=sz) (h0:0<sz) (hp:(l.flatMap f).all V.leaf=true) (hb:l.length * bytes≤140737488355328) (hb2:l.length≤140737488355328)
 (h:∀ (s1:St) (u:Nat),(u=z∨u=ub)→s1.ob (2 * u+1)=some ⟨u,.cells (l.flatMap f)⟩→(∀ key,key≠2 * z+1→key≠2 * ub+1→s1.ob key=st.ob key)→(∀ t,s1.tm t=if t=d then .osl (2 * u+1) u 0 l.length sz else st.tm t)→s1.df=st.df→s1.ro=st.ro→s1.fb=st.fb→s1.tk=st.tk→K s1 (ub+64)) :
 wpStep E Yf ⟨some d,.append true sz bytes s x,none,true⟩ st ub K:=by
 cases l with
 | nil =>
  rw [wpStep_of _ rfl rfl]
  simp only [aop,hs,hx,Option.bind_some,List.flatMap_nil,if_true]
  have hoc:objCells st.ob (2 * z+1) z=some []:=by simp [objCells,ho]
  rw [hoc,Option.bind_some,wpD_one]
  show kApp K st (some d) ub _
  rw [kApp_app]
  exact h _ z (.inl rfl) (by simpa using ho) (fun key _ _=>by simp) (fun t=>by rw [app_tm];rfl) rfl rfl rfl (by simp)
 | cons a l =>
  have h1:((a::l).flatMap f).length / sz=(a::l).length:=by rw [flatMap_len hf];exact Nat.mul_div_cancel _ h0
  have hne:(a::l).flatMap f≠[]:=fun e=>by have:=congrArg List.length e;rw [flatMap_len hf] at this;have:=Nat.mul_pos (show 0<(a::l).length by simp) h0;simp_all
  refine kS_appendO (l:=2 * z+1) (u:=z) (n:=0) (cs:=[]) (ys:=(a::l).flatMap f) hs hx ho hne hro (by simp) h0 hp (by rw [h1,Nat.zero_add];exact hb) (by rw [h1,Nat.zero_add];exact hb2) ?_
  rw [kApp_app,h1,Nat.zero_add]
  refine h _ ub (.inr rfl) ?_ (fun key k1 k2=>?_) (fun t=>by rw [app_tm];rfl) rfl rfl rfl ?_
  ·simp [objName]
  ·simp [objName,k1,k2]
  ·rfl
theorem kS_appendTs {lo hi:Nat} {P:List (Txn' × Nat)} {p:Txn' × Nat} {s x:A} (hT:TsO st.ob lo hi P (eval E st.tm s)) (hle:hi≤ub) (hro:st.ro≤lo) (hx:slCells st.ob 3 (eval E st.tm x)=some (txU p)) (hp:InO st.ob hi ub p) (hlh:lo≤hi) (hlen:P.length≤100000)
 (h:∀ (s1:St) (v':V),TsO s1.ob lo (ub+64) (P++[p]) v'→(∀ key,(∀ u,lo≤u→u<hi→key≠2 * u+1)→key≠2 * ub+1→s1.ob key=st.ob key)→(∀ t,s1.tm t=if t=d then v' else st.tm t)→s1.df=st.df→s1.ro=st.ro→s1.fb=st.fb→s1.tk=st.tk→K s1 (ub+64)) :
 wpStep E Yf ⟨some d,.append true 3 40 s x,none,true⟩ st ub K:=by
 have hpl:=hp.lo
 have hph:=hp.hi
 rcases hT.2 with ⟨rfl,h0⟩ | ⟨hne,u,h1,h2,h3,h4,h5⟩
 ·refine kS_appendO_nil (n:=0) (cs:=[]) (ys:=txU p) h0 hx (by simp [txU]) (by decide) rfl (by simp) (by simp) ?_
  rw [kApp_app,show (txU p).length / 3=1 by rw [txU_len]]
  refine h _ (.osl (2 * ub+1) ub 0 1 3) ⟨?_,.inr ⟨by simp,ub,by omega,by omega,?_,by simp,?_⟩⟩ (fun key k1 k2=>?_) (fun t=>by rw [app_tm];rfl) rfl rfl rfl ?_
  ·intro q hq
   simp only [List.nil_append,List.mem_singleton] at hq
   subst hq
   refine ⟨hp.nl,by omega,by omega,?_⟩
   have:¬ 2 * q.2=2 * ub:=by omega
   simpa [objName,app_ob1,this] using hp.ob
  ·intro q hq
   simp only [List.nil_append,List.mem_singleton] at hq
   subst hq
   omega
  ·simp [objName,app_ob1]
  ·simp [objName,app_ob1,k2]
  ·rfl
 ·refine kS_appendO (l:=2 * u+1) (u:=u) (n:=P.length) (cs:=P.flatMap txU) (ys:=txU p) h4 hx h5 (by simp [txU]) (by omega) (by rw [flatMap_len txU_len];omega) (by decide) rfl (by simp;omega) (by simp;omega) ?_
  rw [kApp_app,show (txU p).length / 3=1 by rw [txU_len]]
  refine h _ (.osl (2 * ub+1) ub 0 (P.length+1) 3) ⟨?_,.inr ⟨by simp,ub,by omega,by omega,?_,by simp,?_⟩⟩ (fun key k1 k2=>?_) (fun t=>by rw [app_tm];rfl) rfl rfl rfl ?_
  ·intro q hq
   rw [List.mem_append,List.mem_singleton] at hq
   rcases hq with hq | rfl
   ·have hi:=hT.1 q hq
    refine ⟨hi.nl,hi.lo,by have:=hi.hi;omega,?_⟩
    have e1:¬ 2 * q.2=2 * ub:=by have:=hi.hi;omega
    have e2:¬ 2 * q.2=2 * u:=by have:=h3 q hq;omega
    simpa [objName,e1,e2] using hi.ob
   ·refine ⟨hp.nl,by omega,by omega,?_⟩
    have e1:¬ 2 * q.2=2 * ub:=by omega
    have e2:¬ 2 * q.2=2 * u:=by omega
    simpa [objName,e1,e2] using hp.ob
  ·intro q hq
   rw [List.mem_append,List.mem_singleton] at hq
   rcases hq with hq | rfl
   ·have:=(hT.1 q hq).hi;omega
   ·omega
  ·simp [objName]
   exact List.take_of_length_le (by rw [flatMap_len txU_len];omega)
  ·have e:=k1 u h1 h2
   simp [objName,e,k2]
  ·rfl
end
section
variable {E:Env} {st:St} {ub:Nat} {K:List FP→St→Prop} {d:Option Nat} {r:List AOpr}
theorem kD_buildSlO {sz n:Nat} {zero:List V} {parts:List (Nat × Nat × A)} {cs:List V} (hf:fill zero (evalParts (eval E st.tm) parts)=some cs) (hl:cs.length=n * sz) (hp:cs.all V.leaf=true)
 (h:kDApp E r K (eval E st.tm) (.buildSl true sz zero parts n) st d ub { v:=.osl (2 * ub+1) ub 0 n sz,obs:=[(2 * ub+1,⟨ub,.cells cs⟩)] }):wpDraw E (⟨d,.buildSl true sz zero parts n,none,true⟩::r) st ub K:=by
 rw [wpDraw_of rfl]
 simp only [aop,hf,Option.bind_some,if_true]
 rw [if_pos ⟨hl,hp⟩,mkObj,wpD_some]
 exact h
end
theorem isEmpty_len {α β:Type} {l:List α} {m:List β} (h:l.length=m.length):l.isEmpty=m.isEmpty:=by
 cases l <;> cases m <;> simp_all
def StO (ob:Nat→Option Obj') (lo hi:Nat) (l:List (List UInt8)) (v:V):Prop :=
 (l=[]∧v = .sl none true 0 [])∨(l≠[]∧∃ u,lo≤u∧u<hi∧v = .osl (2 * u+1) u 0 l.length 1∧ob (2 * u+1)=some ⟨u,.cells (l.flatMap strC)⟩)
theorem StO.frame {ob ob':Nat→Option Obj'} {lo hi lo' hi':Nat} {l:List (List UInt8)} {v:V} (h:StO ob lo hi l v) (ho:∀ u,lo≤u→u<hi→ob' (2 * u+1)=ob (2 * u+1)) (hl:lo'≤lo) (hh:hi≤hi'):StO ob' lo' hi' l v:=by
 rcases h with h | ⟨hne,u,h1,h2,h3,h4⟩
 ·exact .inl h
 ·exact .inr ⟨hne,u,by omega,by omega,h3,by rw [ho u h1 h2];exact h4⟩
theorem StO.leaf {ob:Nat→Option Obj'} {lo hi:Nat} {l:List (List UInt8)} {v:V} (h:StO ob lo hi l v):v.leaf=true∧v.cells=[v]:=by
 rcases h with ⟨_,rfl⟩ | ⟨_,u,_,_,rfl,_⟩ <;> exact ⟨rfl,rfl⟩
theorem TsO.leaf {ob:Nat→Option Obj'} {lo hi:Nat} {P:List (Txn' × Nat)} {v:V} (h:TsO ob lo hi P v):v.leaf=true∧v.cells=[v]:=by
 rcases h.2 with ⟨_,rfl⟩ | ⟨_,u,_,_,_,rfl,_⟩ <;> exact ⟨rfl,rfl⟩
theorem StO.out {st:St} {lo hi:Nat} {l:List (List UInt8)} {v:V} (h:StO st.ob lo hi l v) (hr:st.ro≤lo):SlOut st v l.isEmpty l.length (l.flatMap strC):=by
 rcases h with ⟨rfl,rfl⟩ | ⟨hne,u,h1,h2,rfl,h4⟩
 ·exact slOut_sl _ none true 0 []
 ·have he:l.isEmpty=false:=by cases l <;> simp_all
  rw [he]
  exact slOut_osl h4 (by rw [flatMap_len strC_len,Nat.mul_one]) (by omega) (by rw [List.all_flatMap,List.all_eq_true];intro _ _;rfl)
theorem app_obks (st:St) (d:Option Nat) (v:V) (l k:Nat) (o':Obj') (ks:List Nat):(st.app d { v:=v,obs:=[(l,o')],kill:=ks }).ob k=if k=l then some o' else if ks.any (Nat.beq k) then none else st.ob k:=by
 simp [St.app,setObs,upd_apply]
theorem kD_appendSt {E:Env} {st:St} {ub:Nat} {K:List FP→St→Prop} {d:Option Nat} {r:List AOpr} {lo hi:Nat} {l:List (List UInt8)} {c:List UInt8} {s x:A} (hS:StO st.ob lo hi l (eval E st.tm s)) (hx:slCells st.ob 1 (eval E st.tm x)=some (strC c)) (hro:st.ro≤lo) (hlen:l.length≤1000)
 (h:∀ ks:List Nat,(∀ k∈ks,∃ u,lo≤u∧u<hi∧k=2 * u+1)→kDApp E r K (eval E st.tm) (.append true 1 16 s x) st d ub { v:=.osl (2 * ub+1) ub 0 (l.length+1) 1,obs:=[(2 * ub+1,⟨ub,.cells ((l++[c]).flatMap strC)⟩)],kill:=ks }) :
 wpDraw E (⟨d,.append true 1 16 s x,none,true⟩::r) st ub K:=by
 rw [wpDraw_of rfl]
 rcases hS with ⟨rfl,h0⟩ | ⟨hne,u,h1,h2,h3,h4⟩
 ·simp only [aop,h0,hx,Option.bind_some]
  rw [if_neg (by simp [strC]),if_pos (show (true && true)=true from rfl),if_pos ⟨by decide,rfl,by simp [strC],by simp [strC]⟩,mkObj,wpD_some]
  have:=h [] (fun k hk=>by cases hk)
  have e:([]++[c]).flatMap strC=strC c:=by simp
  rw [e] at this
  have e2:(strC c).length / 1=1:=by simp [strC]
  rw [e2]
  exact this
 ·have hoc:objCells st.ob (2 * u+1) u=some (l.flatMap strC):=by simp [objCells,h4]
  simp only [aop,h3,hx,Option.bind_some,hoc]
  have hll:(l.flatMap strC).length=l.length:=by rw [flatMap_len strC_len,Nat.mul_one]
  rw [if_neg (by simp [strC]),if_pos ⟨Nat.ble_eq ▸ (by omega),trivial,trivial,by rw [hll];omega,by decide,rfl,by simp [strC];omega,by simp [strC];omega⟩,wpD_some]
  have:=h [2 * u+1] (fun k hk=>by simp only [List.mem_singleton] at hk;exact ⟨u,h1,h2,hk⟩)
  have e:(l++[c]).flatMap strC=(l.flatMap strC).take (l.length * 1)++strC c:=by
   rw [List.take_of_length_le (by rw [hll];omega),List.flatMap_append]
   simp
  rw [e] at this
  have e2:(strC c).length / 1=1:=by simp [strC]
  rw [e2]
  exact this
theorem any_no {ks:List Nat} {key:Nat} (h:∀ k∈ks,key≠k):ks.any (Nat.beq key)=false:=by
 rw [List.any_eq_false]
 intro k hk he
 exact h k hk (Nat.eq_of_beq_eq_true he)
def few1S:C:=tlC (tlC S51.body)
def few2S:C:=tlC few1S
def few3S:C:=tlC few2S
def few4S:C:=tlC few3S
structure FewO (h:Hist') (ob0:Nat→Option Obj') (ub ro:Nat) (s:St) (a b N1 N2:Nat) (Sv Kv Tv:V) (P:List (Txn' × Nat)):Prop where
 t1:s.tm 1 = .ptr (2 * ub+1) ub 0
 t2:s.tm 2 = .ptr (2 * (ub+64)+1) (ub+64) 0
 t3:s.tm 3 = .ptr (2 * (ub+192)+1) (ub+192) 0
 d:s.df=[]
 ro:s.ro=ro
 o1:s.ob (2 * ub+1)=some ⟨ub,.cells (histC h)⟩
 o2:s.ob (2 * (ub+64)+1)=some ⟨ub+64,.cells [.sl none true 0 [],.sl none true 0 [],.sl none true 0 []]⟩
 o3:s.ob (2 * (ub+192)+1)=some ⟨ub+192,.cells [Sv,Kv,Tv]⟩
 gS:StO s.ob (ub+256) N1 (fewS a h.ss) Sv
 gK:StO s.ob N1 N2 (fewS b h.ks) Kv
 gT:TsO s.ob N2 s.nx P Tv
 n0:ub+256≤N1
 n1:N1≤N2
 n2:N2≤s.nx
 fr:∀ key,(∀ m,ub≤m→key≠2 * m+1)→s.ob key=ob0 key
theorem few0S {h:Hist'} {Yf:YF} {ob:Nat→Option Obj'} {tk:Nat→Bool} {ro base ub:Nat} {Q:Ex→St→Prop} (hro:ro≤ub) (hrest:∀ s,FewO h ob ub ro s 0 0 s.nx s.nx (.sl none true 0 []) (.sl none true 0 []) (.sl none true 0 []) []→wpC E Yf few1S s Q) :
 wpC E Yf S51.body (startS [.agg (histC h)] ob tk ro base ub) Q:=by
 have e:S51.body = .seq (hdC S51.body) (.seq (hdC (tlC S51.body)) few1S):=rfl
 rw [e]
 simp [hdC,tlC,S51,histC,objCells,splice]
 have a1:¬ 2 * ub=2 * (ub+64):=by omega
 have a2:¬ 2 * ub=2 * (ub+64+64+64):=by omega
 have a3:¬ 2 * (ub+64)=2 * (ub+64+64+64):=by omega
 refine ⟨by omega,hrest _ ⟨by simp,by simp,by simp,by simp,by simp,by simp [histC,a1,a2],by simp [a3],by simp,.inl ⟨rfl,rfl⟩,.inl ⟨rfl,rfl⟩,⟨by simp,.inl ⟨rfl,rfl⟩⟩,by simp,Nat.le_refl _,Nat.le_refl _,fun key hk=>?_⟩⟩
 have e1:=hk ub (Nat.le_refl _)
 have e2:=hk (ub+64) (by omega)
 have e3:=hk (ub+64+64+64) (by omega)
 simp [e1,e2,e3]
theorem few1S_eq:few1S = .seq (hdC few1S) few2S:=rfl
theorem few1O {h:Hist'} {Yf:YF} {ob0:Nat→Option Obj'} {ub ro:Nat} {s0:St} {Q:Ex→St→Prop} (hru:ro≤ub) (hs:FewO h ob0 ub ro s0 0 0 s0.nx s0.nx (.sl none true 0 []) (.sl none true 0 []) (.sl none true 0 []) [])
 (hrest:∀ s Sv,FewO h ob0 ub ro s 25 0 s.nx s.nx Sv (.sl none true 0 []) (.sl none true 0 []) []→wpC E Yf few2S s Q):wpC E Yf few1S s0 Q:=by
 rw [few1S_eq]
 obtain ⟨f1,f2,f3,fd,fr,o1,o2,o3,gS,gK,gT,n0,n1,n2,ff⟩:=hs
 simp [hdC,few1S,tlC,S51]
 refine wp_loopUp [(4,4),(9,37)] 25 (fun i s=>s.tm 4 = .int .i64 i∧i≤h.ss.length∧∃ Sv,FewO h ob0 ub ro s i 0 s.nx s.nx Sv (.sl none true 0 []) (.sl none true 0 []) []) rfl rfl ?_ ?_
 ·refine ⟨by simp,by simp,.sl none true 0 [],⟨by simp [f1],by simp [f2],by simp [f3],by simp [fd],by simp [fr],by simp [o1],by simp [o2],by simp [o3],.inl ⟨rfl,rfl⟩,.inl ⟨rfl,rfl⟩,⟨by simp,.inl ⟨rfl,rfl⟩⟩,by simp;omega,Nat.le_refl _,Nat.le_refl _,fun key hk=>by simp [ff key hk]⟩⟩
 rintro i s hi ⟨h4,hle,Sv,f1,f2,f3,fd,fr,o1,o2,o3,gS,gK,gT,n0,n1,n2,ff⟩ f
 clear f
 have hend:¬ (i<h.ss.length∧i<25)→∀ s':St,(s'.tm 1=s.tm 1∧s'.tm 2=s.tm 2∧s'.tm 3=s.tm 3)→s'.df=s.df→s'.ro=s.ro→s'.ob=s.ob→s.nx≤s'.nx→wpC E Yf few2S s' Q:=by
  intro hx s' ⟨q1,q2,q3⟩ e2 e3 e4 e5
  refine hrest s' Sv ⟨q1.trans f1,q2.trans f2,q3.trans f3,by rw [e2];exact fd,by rw [e3];exact fr,by rw [e4];exact o1,by rw [e4];exact o2,by rw [e4];exact o3,?_,.inl ⟨rfl,rfl⟩,⟨by simp,.inl ⟨rfl,rfl⟩⟩,by omega,Nat.le_refl _,Nat.le_refl _,fun key hk=>by rw [e4];exact ff key hk⟩
  rw [← fewS_end hle hi hx,e4]
  exact gS.frame (fun _ _ _=>rfl) (Nat.le_refl _) e5
 have o1':s.ob (2 * ub+1)=some ⟨ub,.cells [slOf h.sn strC h.ss,slOf h.kn strC h.ks,slOf h.tn txnC h.ts]⟩:=o1
 by_cases hlt:i<h.ss.length
 ·by_cases hl5:i<25
  ·have hw:=wrapU hl5 (by omega)
   have hl5':(i:Int)<25:=by omega
   obtain ⟨c,hc⟩:∃ c,h.ss[i]=c:=⟨_,rfl⟩
   have hsi:=str_at h.ss hlt
   have hsn:=fewS_succ hlt hl5
   rw [hc] at hsi hsn
   have hmn:=min_len c.length 100
   have hst:=slStr_to (l:=c) (kk:=.i64) (Nat.min_le_left c.length 100)
   have htk:=take_min100 c
   rw [htk] at hst
   rw [show ((100:Nat):Int)=100 from rfl] at hmn
   simp [hmn,hst,h4,f1,o1',objCells,hlt,hl5',f3,o3,idx_slOf strC_len,hsi]
   refine kD_buildSlO (cs:=[.str (c.take 100)]) (by simp [splice]) rfl rfl ?_
   simp
   have e24:s.nx≤(s.nx+64+64+64+64+64+64+64+64+64+64+64+64+64+64+64+64+64+64+64+64+64+64+64+64):=by omega
   have e25:s.nx≤(s.nx+64+64+64+64+64+64+64+64+64+64+64+64+64+64+64+64+64+64+64+64+64+64+64+64+64):=by omega
   have e26:(s.nx+64+64+64+64+64+64+64+64+64+64+64+64+64+64+64+64+64+64+64+64+64+64+64+64)<(s.nx+64+64+64+64+64+64+64+64+64+64+64+64+64+64+64+64+64+64+64+64+64+64+64+64+64):=by omega
   have hll:=fewS_len i h.ss
   refine kD_appendSt (lo:=ub+256) (hi:=s.nx) (l:=fewS i h.ss) (c:=c.take 100) ?_ (by simp [slCells,objCells];rfl) (by simp [fr];omega) (by omega) fun ks hks=>?_
   ·simp
    refine gS.frame (fun u h1 h2=>?_) (Nat.le_refl _) (Nat.le_refl _)
    have e1:¬ 2 * u=2 * (s.nx+64+64+64+64+64+64+64+64+64+64+64+64+64+64+64+64+64+64+64+64+64+64+64+64):=by omega
    simp [e1]
   rw [← hsn]
   have hlen:(fewS i h.ss).length+1=(fewS (i+1) h.ss).length:=by rw [hsn];simp
   rw [hlen]
   have hno:∀ key,(∀ u,ub+256≤u→u<s.nx→key≠2 * u+1)→ks.any (Nat.beq key)=false:=fun key hk=>any_no fun k hkk=>by
    obtain ⟨u,h1,h2,h3⟩:=hks k hkk
    rw [h3];exact hk u h1 h2
   have hn1:=hno (2 * ub+1) (fun u _ _=>by omega)
   have hn2:=hno (2 * (ub+64)+1) (fun u _ _=>by omega)
   have hn3:=hno (2 * (ub+192)+1) (fun u _ _=>by omega)
   have w1:¬ 2 * ub=2 * (s.nx+64+64+64+64+64+64+64+64+64+64+64+64+64+64+64+64+64+64+64+64+64+64+64+64+64):=by omega
   have w2:¬ 2 * (ub+64)=2 * (s.nx+64+64+64+64+64+64+64+64+64+64+64+64+64+64+64+64+64+64+64+64+64+64+64+64+64):=by omega
   have w3:¬ 2 * (ub+192)=2 * (s.nx+64+64+64+64+64+64+64+64+64+64+64+64+64+64+64+64+64+64+64+64+64+64+64+64+64):=by omega
   have w4:¬ 2 * ub=2 * (s.nx+64+64+64+64+64+64+64+64+64+64+64+64+64+64+64+64+64+64+64+64+64+64+64+64):=by omega
   have w5:¬ 2 * (ub+64)=2 * (s.nx+64+64+64+64+64+64+64+64+64+64+64+64+64+64+64+64+64+64+64+64+64+64+64+64):=by omega
   have w6:¬ 2 * (ub+192)=2 * (s.nx+64+64+64+64+64+64+64+64+64+64+64+64+64+64+64+64+64+64+64+64+64+64+64+64):=by omega
   have w7:¬ 2 * (s.nx+64+64+64+64+64+64+64+64+64+64+64+64+64+64+64+64+64+64+64+64+64+64+64+64+64)=2 * (ub+192):=by omega
   have w8:¬ 2 * ub=2 * (ub+192):=by omega
   have w9:¬ 2 * (ub+64)=2 * (ub+192):=by omega
   simp [f3,objCells,app_obks,hn3,w3,w6,o3,fr,splice,h4,hw]
   refine ⟨by omega,?_,?_⟩
   ·simp [drawOk,indep,disj,fpOf,rdOb,rdTk,lOf,Delta.wo,Delta.wt]
    exact nbeq (by omega)
   have hne:fewS (i+1) h.ss≠[]:=by rw [hsn];simp
   refine ⟨hl5,by omega,.osl (2 * (s.nx+64+64+64+64+64+64+64+64+64+64+64+64+64+64+64+64+64+64+64+64+64+64+64+64+64)+1) (s.nx+64+64+64+64+64+64+64+64+64+64+64+64+64+64+64+64+64+64+64+64+64+64+64+64+64) 0 (fewS (i+1) h.ss).length 1,⟨by simp [f1],by simp [f2],by simp [f3],by simp [fd],by simp [fr],by simp [app_obks,hn1,w1,w4,w8,o1],by simp [app_obks,hn2,w2,w5,w9,o2],by simp,
    .inr ⟨hne,(s.nx+64+64+64+64+64+64+64+64+64+64+64+64+64+64+64+64+64+64+64+64+64+64+64+64+64),by omega,by simp,rfl,by simp [app_obks,w7]⟩,.inl ⟨rfl,rfl⟩,⟨by simp,.inl ⟨rfl,rfl⟩⟩,by simp;omega,Nat.le_refl _,Nat.le_refl _,fun key hk=>?_⟩⟩
   have k1:=hk (ub+192) (by omega)
   have k2:=hk (s.nx+64+64+64+64+64+64+64+64+64+64+64+64+64+64+64+64+64+64+64+64+64+64+64+64+64) (by omega)
   have k3:=hk (s.nx+64+64+64+64+64+64+64+64+64+64+64+64+64+64+64+64+64+64+64+64+64+64+64+64) (by omega)
   have k4:=hno key (fun u h1 h2=>hk u (by omega))
   simp [app_obks,k1,k2,k3,k4]
   exact ff key hk
  ·have hl5':¬ (i:Int)<25:=by omega
   simp [h4,f1,o1',objCells,hlt,hl5']
   exact hend (by omega) _ ⟨by simp,by simp,by simp⟩ (by simp) (by simp) (by funext k;simp) (by simp;omega)
 ·simp [h4,f1,o1',objCells,hlt]
  exact hend (by omega) _ ⟨by simp,by simp,by simp⟩ (by simp) (by simp) (by funext k;simp) (by simp;omega)
theorem few2S_eq:few2S = .seq (hdC few2S) few3S:=rfl
theorem few2O {h:Hist'} {Yf:YF} {ob0:Nat→Option Obj'} {ub ro:Nat} {s0:St} {Q:Ex→St→Prop} {N1:Nat} {S0:V} (hru:ro≤ub) (hs:FewO h ob0 ub ro s0 25 0 N1 s0.nx S0 (.sl none true 0 []) (.sl none true 0 []) [])
 (hrest:∀ s Kv,FewO h ob0 ub ro s 25 45 N1 s.nx S0 Kv (.sl none true 0 []) []→wpC E Yf few3S s Q):wpC E Yf few2S s0 Q:=by
 rw [few2S_eq]
 obtain ⟨f1,f2,f3,fd,fr,o1,o2,o3,gS,gK,gT,n0,n1,n2,ff⟩:=hs
 simp [hdC,few2S,few1S,tlC,S51]
 refine wp_loopUp [(5,5),(38,66)] 45 (fun i s=>s.tm 5 = .int .i64 i∧i≤h.ks.length∧∃ Kv,FewO h ob0 ub ro s 25 i N1 s.nx S0 Kv (.sl none true 0 []) []) rfl rfl ?_ ?_
 ·refine ⟨by simp,by simp,.sl none true 0 [],⟨by simp [f1],by simp [f2],by simp [f3],by simp [fd],by simp [fr],by simp [o1],by simp [o2],by simp [o3],gS.frame (fun _ _ _=>by simp) (Nat.le_refl _) (Nat.le_refl _),.inl ⟨rfl,rfl⟩,⟨by simp,.inl ⟨rfl,rfl⟩⟩,n0,by simp;omega,Nat.le_refl _,fun key hk=>by simp [ff key hk]⟩⟩
 rintro i s hi ⟨h4,hle,Kv,f1,f2,f3,fd,fr,o1,o2,o3,gS,gK,gT,n0,n1,n2,ff⟩ f
 clear f
 have hend:¬ (i<h.ks.length∧i<45)→∀ s':St,(s'.tm 1=s.tm 1∧s'.tm 2=s.tm 2∧s'.tm 3=s.tm 3)→s'.df=s.df→s'.ro=s.ro→s'.ob=s.ob→s.nx≤s'.nx→wpC E Yf few3S s' Q:=by
  intro hx s' ⟨q1,q2,q3⟩ e2 e3 e4 e5
  refine hrest s' Kv ⟨q1.trans f1,q2.trans f2,q3.trans f3,by rw [e2];exact fd,by rw [e3];exact fr,by rw [e4];exact o1,by rw [e4];exact o2,by rw [e4];exact o3,by rw [e4];exact gS,?_,⟨by simp,.inl ⟨rfl,rfl⟩⟩,n0,by omega,Nat.le_refl _,fun key hk=>by rw [e4];exact ff key hk⟩
  rw [← fewS_end hle hi hx,e4]
  exact gK.frame (fun _ _ _=>rfl) (Nat.le_refl _) e5
 have o1':s.ob (2 * ub+1)=some ⟨ub,.cells [slOf h.sn strC h.ss,slOf h.kn strC h.ks,slOf h.tn txnC h.ts]⟩:=o1
 by_cases hlt:i<h.ks.length
 ·by_cases hl5:i<45
  ·have hw:=wrapU hl5 (by omega)
   have hl5':(i:Int)<45:=by omega
   obtain ⟨c,hc⟩:∃ c,h.ks[i]=c:=⟨_,rfl⟩
   have hsi:=str_at h.ks hlt
   have hsn:=fewS_succ hlt hl5
   rw [hc] at hsi hsn
   have hmn:=min_len c.length 100
   have hst:=slStr_to (l:=c) (kk:=.i64) (Nat.min_le_left c.length 100)
   have htk:=take_min100 c
   rw [htk] at hst
   rw [show ((100:Nat):Int)=100 from rfl] at hmn
   simp [hmn,hst,h4,f1,o1',objCells,hlt,hl5',f3,o3,idx_slOf strC_len,hsi]
   refine kD_buildSlO (cs:=[.str (c.take 100)]) (by simp [splice]) rfl rfl ?_
   simp
   have e24:s.nx≤(s.nx+64+64+64+64+64+64+64+64+64+64+64+64+64+64+64+64+64+64+64+64+64+64+64+64):=by omega
   have e25:s.nx≤(s.nx+64+64+64+64+64+64+64+64+64+64+64+64+64+64+64+64+64+64+64+64+64+64+64+64+64):=by omega
   have e26:(s.nx+64+64+64+64+64+64+64+64+64+64+64+64+64+64+64+64+64+64+64+64+64+64+64+64)<(s.nx+64+64+64+64+64+64+64+64+64+64+64+64+64+64+64+64+64+64+64+64+64+64+64+64+64):=by omega
   have hll:=fewS_len i h.ks
   refine kD_appendSt (lo:=N1) (hi:=s.nx) (l:=fewS i h.ks) (c:=c.take 100) ?_ (by simp [slCells,objCells];rfl) (by simp [fr];omega) (by omega) fun ks hks=>?_
   ·simp
    refine gK.frame (fun u h1 h2=>?_) (Nat.le_refl _) (Nat.le_refl _)
    have e1:¬ 2 * u=2 * (s.nx+64+64+64+64+64+64+64+64+64+64+64+64+64+64+64+64+64+64+64+64+64+64+64+64):=by omega
    simp [e1]
   rw [← hsn]
   have hlen:(fewS i h.ks).length+1=(fewS (i+1) h.ks).length:=by rw [hsn];simp
   rw [hlen]
   have hno:∀ key,(∀ u,N1≤u→u<s.nx→key≠2 * u+1)→ks.any (Nat.beq key)=false:=fun key hk=>any_no fun k hkk=>by
    obtain ⟨u,h1,h2,h3⟩:=hks k hkk
    rw [h3];exact hk u h1 h2
   have hn1:=hno (2 * ub+1) (fun u _ _=>by omega)
   have hn2:=hno (2 * (ub+64)+1) (fun u _ _=>by omega)
   have hn3:=hno (2 * (ub+192)+1) (fun u _ _=>by omega)
   have w1:¬ 2 * ub=2 * (s.nx+64+64+64+64+64+64+64+64+64+64+64+64+64+64+64+64+64+64+64+64+64+64+64+64+64):=by omega
   have w2:¬ 2 * (ub+64)=2 * (s.nx+64+64+64+64+64+64+64+64+64+64+64+64+64+64+64+64+64+64+64+64+64+64+64+64+64):=by omega
   have w3:¬ 2 * (ub+192)=2 * (s.nx+64+64+64+64+64+64+64+64+64+64+64+64+64+64+64+64+64+64+64+64+64+64+64+64+64):=by omega
   have w4:¬ 2 * ub=2 * (s.nx+64+64+64+64+64+64+64+64+64+64+64+64+64+64+64+64+64+64+64+64+64+64+64+64):=by omega
   have w5:¬ 2 * (ub+64)=2 * (s.nx+64+64+64+64+64+64+64+64+64+64+64+64+64+64+64+64+64+64+64+64+64+64+64+64):=by omega
   have w6:¬ 2 * (ub+192)=2 * (s.nx+64+64+64+64+64+64+64+64+64+64+64+64+64+64+64+64+64+64+64+64+64+64+64+64):=by omega
   have w7:¬ 2 * (s.nx+64+64+64+64+64+64+64+64+64+64+64+64+64+64+64+64+64+64+64+64+64+64+64+64+64)=2 * (ub+192):=by omega
   have w8:¬ 2 * ub=2 * (ub+192):=by omega
   have w9:¬ 2 * (ub+64)=2 * (ub+192):=by omega
   simp [f3,objCells,app_obks,hn3,w3,w6,o3,fr,splice,h4,hw]
   refine ⟨by omega,?_,?_⟩
   ·simp [drawOk,indep,disj,fpOf,rdOb,rdTk,lOf,Delta.wo,Delta.wt]
    exact nbeq (by omega)
   have hne:fewS (i+1) h.ks≠[]:=by rw [hsn];simp
   refine ⟨hl5,by omega,.osl (2 * (s.nx+64+64+64+64+64+64+64+64+64+64+64+64+64+64+64+64+64+64+64+64+64+64+64+64+64)+1) (s.nx+64+64+64+64+64+64+64+64+64+64+64+64+64+64+64+64+64+64+64+64+64+64+64+64+64) 0 (fewS (i+1) h.ks).length 1,⟨by simp [f1],by simp [f2],by simp [f3],by simp [fd],by simp [fr],by simp [app_obks,hn1,w1,w4,w8,o1],by simp [app_obks,hn2,w2,w5,w9,o2],by simp,
    gS.frame (fun u h1 h2=>?_) (Nat.le_refl _) (Nat.le_refl _),.inr ⟨hne,(s.nx+64+64+64+64+64+64+64+64+64+64+64+64+64+64+64+64+64+64+64+64+64+64+64+64+64),by omega,by simp,rfl,by simp [app_obks,w7]⟩,⟨by simp,.inl ⟨rfl,rfl⟩⟩,n0,by first | omega | (simp;omega),Nat.le_refl _,fun key hk=>?_⟩⟩
   ·have k1:¬ 2 * u=2 * (ub+192):=by omega
    have k2:¬ 2 * u=2 * (s.nx+64+64+64+64+64+64+64+64+64+64+64+64+64+64+64+64+64+64+64+64+64+64+64+64+64):=by omega
    have k3:¬ 2 * u=2 * (s.nx+64+64+64+64+64+64+64+64+64+64+64+64+64+64+64+64+64+64+64+64+64+64+64+64):=by omega
    have k4:=hno (2 * u+1) (fun u' _ _=>by omega)
    simp [app_obks,k1,k2,k3,k4]
   have k1:=hk (ub+192) (by omega)
   have k2:=hk (s.nx+64+64+64+64+64+64+64+64+64+64+64+64+64+64+64+64+64+64+64+64+64+64+64+64+64) (by omega)
   have k3:=hk (s.nx+64+64+64+64+64+64+64+64+64+64+64+64+64+64+64+64+64+64+64+64+64+64+64+64) (by omega)
   have k4:=hno key (fun u h1 h2=>hk u (by omega))
   simp [app_obks,k1,k2,k3,k4]
   exact ff key hk
  ·have hl5':¬ (i:Int)<45:=by omega
   simp [h4,f1,o1',objCells,hlt,hl5']
   exact hend (by omega) _ ⟨by simp,by simp,by simp⟩ (by simp) (by simp) (by funext k;simp) (by simp;omega)
 ·simp [h4,f1,o1',objCells,hlt]
  exact hend (by omega) _ ⟨by simp,by simp,by simp⟩ (by simp) (by simp) (by funext k;simp) (by simp;omega)
section
variable {g:Hist'} {lvl:Int} {M:List Int}
theorem kD_appendRow {N:WN} {ob0:Nat→Option Obj'} {ub0:Nat} {v:V} {rs:List (Int × Int × Int)} {r:Int × Int × Int} {s x:A} {st:St} {ub:Nat} {K:List FP→St→Prop} {d:Option Nat} {q:List AOpr} (hs:eval E st.tm s=v) (hv:RowV N ob0 ub0 v rs) (hob:∀ l u,v = .osl l u 0 rs.length 3→st.ob l=ob0 l∧st.ro≤u)
 (hx:slCells st.ob 3 (eval E st.tm x)=some (rdC r)) (hl:rs.length≤1000000)
 (h:∀ kill:List Nat,(kill=[]∨∃ l u,v = .osl l u 0 rs.length 3∧kill=[l])→kDApp E q K (eval E st.tm) (.append true 3 24 s x) st d ub { v:=.osl (2 * ub+1) ub 0 (rs.length+1) 3,obs:=[(2 * ub+1,⟨ub,.cells ((rs++[r]).flatMap rdC)⟩)],kill:=kill }):wpDraw E (⟨d,.append true 3 24 s x,none,true⟩::q) st ub K:=by
 have hne:rdC r≠[]:=by simp [rdC]
 have hlf:(rdC r).all V.leaf=true:=rfl
 have hfl:=flatMap_len rdC_len rs
 rw [wpDraw_of rfl]
 rcases hv with ⟨rfl,rfl⟩ | ⟨l,u,rfl,ho,hf⟩
 ·simp only [aop,hs,hx,Option.bind_some,if_neg hne,Bool.and_self,if_true,name_eq,objName_t]
  rw [if_pos ⟨by decide,hlf,by simp [rdC],by simp [rdC]⟩]
  simp only [mkObj,wpD_some]
  have:=h [] (.inl rfl)
  simpa [rdC] using this
 ·obtain ⟨e1,e2⟩:=hob l u rfl
  have hoc:objCells st.ob l u=some (rs.flatMap rdC):=by simp [objCells,e1,ho]
  simp only [aop,hs,hx,hoc,Option.bind_some,if_neg hne,name_eq,objName_t]
  rw [if_pos ⟨Nat.ble_eq ▸ e2,trivial,trivial,by omega,by decide,hlf,by simp [rdC];omega,by simp [rdC];omega⟩,wpD_some]
  have:=h [l] (.inr ⟨l,u,rfl,rfl⟩)
  rw [show (rs.flatMap rdC).take (rs.length * 3)=rs.flatMap rdC from List.take_of_length_le (by omega)]
  simpa [rdC,List.flatMap_append] using this
def rdG (g:Hist') (M:List Int) (i:Nat) (t:Int):List (Int × Int × Int):=((mfind (rdAt g M i) t).map (·.2)).getD []
theorem rdG_succ {i:Nat} {p:Int × Int} {m:Int} (h1:(readH g)[i]? = some p) (h2:M[i]? = some m) (t:Int):rdG g M (i+1) t=if t=p.1 then rdG g M i t++[(p.2,keyAt g p,m)] else rdG g M i t:=by
 unfold rdG
 rw [rdAt_succ h1 h2,mval_mset]
 by_cases h:t=p.1
 ·subst h
  simp
 ·simp [h]
def rowAt (mr:List (Int × Nat × Nat × Nat)) (t:Int):V:=((mfind mr t).map fun p=>rowV p.2).getD (.sl none true 0 [])
theorem rowAt_set (mr:List (Int × Nat × Nat × Nat)) (k:Int) (a:Nat × Nat × Nat) (t:Int):rowAt (mset mr k a) t=if t=k then rowV a else rowAt mr t:=by
 unfold rowAt
 have:=mval_mset k a t mr
 have h2:∀ o:Option (Nat × Nat × Nat × Nat),(o.map fun p=>rowV p.2)=(o.map (·.2)).map rowV:=fun o=>by cases o <;> rfl
 rw [h2,this,h2]
 split <;> rfl
theorem RowV.inv {N:WN} {ob:Nat→Option Obj'} {ub l u n:Nat} {rs:List (Int × Int × Int)} (h:RowV N ob ub (.osl l u 0 n 3) rs):n=rs.length∧ob l=some ⟨u,.cells (rs.flatMap rdC)⟩∧Fix N ub l:=by
 rcases h with ⟨h,_⟩ | ⟨l',u',h,h2,h3⟩
 ·cases h
 ·cases h
  exact ⟨rfl,h2,h3⟩
def RdI (g:Hist') (M:List Int) (N:WN) (n0 i:Nat) (ob:Nat→Option Obj') (ub:Nat):Prop :=
 ∃ ver mr,ob N.kR=some ⟨N.uR,.mp ver (MP rowV mr)⟩∧(∀ t,RowV N ob ub (rowAt mr t) (rdG g M i t))∧(∀ t l u n,rowAt mr t = .osl l u 0 n 3→l=2 * u+1∧n0≤u)∧∀ t t' l u n n',rowAt mr t = .osl l u 0 n 3→rowAt mr t' = .osl l u 0 n' 3→t=t'
def BegW (g:Hist') (lvl:Int) (M O:List Int) (ob:Nat→Option Obj') (ub:Nat) (r:V × (Nat→Option Obj') × (Nat→Bool) × Nat):Prop :=
 ub≤r.2.2.2∧Was ub ob r.2.1∧∃ N:WN,r.1 = .ptr N.kW N.uW 0∧Wk g lvl M N (atM O 0) (wlM g O 0) (wsM g O 0) (pastP g M O 0) r.2.1 r.2.2.2∧ub≤N.uA∧ub≤N.uL∧ub≤N.uS∧ub≤N.uP
theorem sv55 {Yf:YF} (hs:Small g) (hm:mapR g M=true) (lvl:Int) (O:List Int) {nl:Bool} {ob:Nat→Option Obj'} {tk:Nat→Bool} {ro base ub:Nat} (hro:ro≤ub) :
 ∃ r,EvS E Yf.y 55 [.int .i64 lvl,.agg (histC g),slOf nl intC M] ob tk ro base ub r∧BegW g lvl M O ob ub r:=by
 have hw:=map_whole hm
 have hM:=map_len hm
 have hR:=readH_len hs
 have hmay:=whole_may hw
 obtain ⟨vr,evr,hvr⟩:=ev86 hs
 have hrd:readW g=readH g:=by simp [readW,hw]
 rw [hrd] at hvr
 refine EvS_wp (af:=S55) rfl (by decide) ?_
 show wpC E Yf S55.body _ (kEndS S55.res _)
 simp (disch:=first | (simp;done) | omega) [S55,objCells,histC,V.cells,Nat.add_assoc]
 refine kS_mapSet (f:=intV) (a:=(-1:Int)) (ver:=0) (k:=-1) [] rfl rfl rfl (by simp [MP]) (by simp;omega) ?_
 simp (disch:=first | (simp;done) | omega) [objCells,V.cells,Nat.add_assoc,splice,two_inj,mset,mfind,slOf]
 refine kS_ev evr (by simp [histC,slOf]) rfl (by simp [histC,slOf]) ?_
 refine retSl hvr fun tr addr=>?_
 simp (disch:=first | (simp;done) | omega)
 refine wpC_gen fun st hst=>?_
 obtain ⟨uR,hR1⟩:∃ u,u=ub+256:=⟨_,rfl⟩
 obtain ⟨uA,hA1⟩:∃ u,u=ub+320:=⟨_,rfl⟩
 obtain ⟨uL,hL1⟩:∃ u,u=ub+512:=⟨_,rfl⟩
 obtain ⟨uS,hS1⟩:∃ u,u=ub+576:=⟨_,rfl⟩
 obtain ⟨uP,hP1⟩:∃ u,u=ub+640:=⟨_,rfl⟩
 obtain ⟨uW,hW1⟩:∃ u,u=ub+768:=⟨_,rfl⟩
 obtain ⟨N,hN⟩:∃ N:WN,N=⟨2 * uW+1,uW,2 * uR+1,uR,2 * uA+1,uA,2 * uL+1,uL,2 * uS+1,uS,2 * uP+1,uP⟩:=⟨_,rfl⟩
 have g2:st.tm 2=slOf nl intC M:=by rw [hst];simp [slOf]
 have g4:st.tm 4 = .ptr (2 * ub+1) ub 0:=by rw [hst];simp
 have g7:st.tm 7 = .ptr (2 * uW+1) uW 0:=by rw [hst,hW1];simp
 have g21:st.tm 21 = .sl tr (readH g).isEmpty (readH g).length ((readH g).flatMap placeC):=by rw [hst];simp
 have g22:st.tm 22 = .int .i64 (readH g).length:=by rw [hst];simp
 have g23:st.tm 23 = .int .i64 0:=by rw [hst];simp
 have gd:st.df=[]:=by rw [hst];simp
 have gr:st.ro=ro:=by rw [hst];simp
 have gn:uW<st.nx:=by rw [hst,hW1];simp
 have gw:Was ub ob st.ob:=fun key hk=>by rw [hst];simp (disch:=first | (simp;done) | omega) [show ∀ m,ub≤m→¬ key=2 * m+1 from hk]
 have pB:st.ob (2 * ub+1)=some ⟨ub,.cells (histC g)⟩:=by rw [hst];simp (disch:=first | (simp;done) | omega) [two_inj,histC];exact ⟨rfl,rfl,rfl⟩
 have pW:st.ob (2 * uW+1)=some ⟨uW,.cells (wC g lvl N)⟩:=by rw [hst,hN,hW1,hR1,hA1,hL1,hS1,hP1];simp (disch:=first | (simp;done) | omega) [wC];exact ⟨rfl,rfl,rfl⟩
 have pR:st.ob (2 * uR+1)=some ⟨uR,.mp 0 (MP rowV ([]:List (Int × Nat × Nat × Nat)))⟩:=by rw [hst,hR1];simp (disch:=first | (simp;done) | omega) [two_inj,MP]
 have pA:st.ob (2 * uA+1)=some ⟨uA,.mp 1 (MP intV [(-1,-1)])⟩:=by rw [hst,hA1];simp (disch:=first | (simp;done) | omega) [two_inj]
 have pL:st.ob (2 * uL+1)=some ⟨uL,.mp 0 (MP intV ([]:List (Int × Int)))⟩:=by rw [hst,hL1];simp (disch:=first | (simp;done) | omega) [two_inj,MP]
 have pS:st.ob (2 * uS+1)=some ⟨uS,.mp 0 (MP intV ([]:List (Int × Int)))⟩:=by rw [hst,hS1];simp (disch:=first | (simp;done) | omega) [two_inj,MP]
 have pP:st.ob (2 * uP+1)=some ⟨uP,.mp 0 (MP mapV ([]:List (Int × Nat × Nat)))⟩:=by rw [hst,hP1];simp (disch:=first | (simp;done) | omega) [two_inj,MP]
 clear hst
 obtain ⟨o1,o2,o3,o4,o5,o6⟩:ub<uR∧uR<uA∧uA<uL∧uL<uS∧uS<uP∧uP<uW:=by omega
 clear hR1 hA1 hL1 hS1 hP1 hW1
 obtain ⟨ob1,hob1⟩:∃ o,o=st.ob:=⟨_,rfl⟩
 obtain ⟨n0,hn0⟩:∃ n,n=st.nx:=⟨_,rfl⟩
 rw [← hob1] at gw pB pW pR pA pL pS pP
 rw [← hn0] at gn
 obtain ⟨J,hJ⟩:∃ J:Nat→St→Prop,J=fun i s=>s.tm 23 = .int .i64 i∧RdI g M N n0 i s.ob s.nx∧(∀ key,Off n0 key→key≠2 * uR+1→s.ob key=ob1 key)∧n0≤s.nx:=⟨_,rfl⟩
 have hNR:N.kR=2 * uR+1∧N.uR=uR:=by rw [hN];exact ⟨rfl,rfl⟩
 refine wp_loopUp [(8,9),(23,62)] (readH g).length J rfl rfl (by
  rw [hJ]
  refine ⟨by simpa using g23,⟨0,[],by rw [hNR.1,hNR.2,← hob1];exact pR,fun t=>.inl ⟨rfl,rfl⟩,fun t l u n h=>by simp [rowAt,mfind] at h,fun t t' l u n n' h=>by simp [rowAt,mfind] at h⟩,fun key _ _=>by rw [hob1],by omega⟩) ?_
 clear pR
 intro i s hi hJs f
 rw [hJ] at hJs
 obtain ⟨s23,sR,sw,sn⟩:=hJs
 have s2:s.tm 2=slOf nl intC M:=by rw [f.t 2 (by simp)];simp [g2]
 have s4:s.tm 4 = .ptr (2 * ub+1) ub 0:=by rw [f.t 4 (by simp)];simp [g4]
 have s7:s.tm 7 = .ptr (2 * uW+1) uW 0:=by rw [f.t 7 (by simp)];simp [g7]
 have s21:s.tm 21 = .sl tr (readH g).isEmpty (readH g).length ((readH g).flatMap placeC):=by rw [f.t 21 (by simp)];simp [g21]
 have s22:s.tm 22 = .int .i64 (readH g).length:=by rw [f.t 22 (by simp)];simp [g22]
 have sd:s.df=[]:=by rw [f.d];simp [gd]
 have sr:s.ro=ro:=by rw [f.r];simp [gr]
 clear f
 by_cases hlt:i<(readH g).length
 ·have hwk:=wrapU hlt (by omega)
  have hiM:i<M.length:=by omega
  obtain ⟨a,k,ha,hk,e,hkey,hc⟩:=read_op hmay hlt
  have hix:=idx_sl placeC_len tr (readH g).isEmpty (readH g) .i64 hlt
  have hpa:=fun ob=>place_at (readH g) ob hlt
  simp only [e] at hpa
  have hmi:=int_at M hiM
  have hl3:(g.ts.flatMap txnC)[a * 3+2]? = some (slOf (g.ts[a]).nl opC (g.ts[a]).ops):=by rw [fld_at txnC_len g.ts ha (by decide:2<3)];rfl
  have hlk:((g.ts[a]).ops.flatMap opC)[k * 4+1]? = some (.int .i64 ((g.ts[a]).ops[k]).key):=by rw [fld_at opC_len (g.ts[a]).ops hk (by decide:1<4)];rfl
  have qB:s.ob (2 * ub+1)=some ⟨ub,.cells (histC g)⟩:=by rw [sw _ (Off.new (by omega)) (by omega)];exact pB
  have qW:s.ob (2 * uW+1)=some ⟨uW,.cells (wC g lvl N)⟩:=by rw [sw _ (Off.new (by omega)) (by omega)];exact pW
  obtain ⟨ver,mr,rR,rr,ru,rj⟩:=sR
  rw [hNR.1,hNR.2] at rR
  have hrow:=fun (ob':Nat→Option Obj') (h:ob' (2 * uR+1)=s.ob (2 * uR+1)) (t:Int)=>show lookupV ob' .int (.sl none true 0 []) false (.map (2 * uR+1) uR) (.int .i64 t)=some (rowAt mr t) by
   rw [lookupV_MP (f:=rowV) mr (by simp [objMap,h,rR])]
   unfold rowAt
   cases mfind mr t <;> rfl
  have nB:∀ m,s.nx≤m→¬ ub=m:=fun m hm=>by omega
  have nW:∀ m,s.nx≤m→¬ uW=m:=fun m hm=>by omega
  have nR:∀ m,s.nx≤m→¬ uR=m:=fun m hm=>by omega
  simp (disch:=first | (simp;done) | omega) [s23,s22,s21,s7,hlt,hix,hpa,objCells,splice,two_inj,nW,qW,wC,hNR]
  refine ⟨by first | omega | (simp [sr];omega),?_⟩
  rw [hrow _ (by simp (disch:=first | (simp;done) | omega) [two_inj,nR])]
  simp (disch:=first | (simp;done) | omega) [objCells,splice,two_inj,nB,qB,s4,histC,idx_slOf txnC_len,idx_slOf opC_len,idx_slOf intC_len,hl3,hlk,hmi,s2,Nat.add_assoc]
  obtain ⟨key,hkey'⟩:∃ key,key=keyAt g (readH g)[i]:=⟨_,rfl⟩
  rw [← hkey'] at hkey
  rw [← hkey]
  refine kD_buildSlO (cs:=rdC ((k:Int),key,M[i])) (by simp [splice,rdC]) rfl rfl ?_
  simp
  refine kD_appendRow (N:=N) (ob0:=s.ob) (ub0:=s.nx) (rs:=rdG g M i a) (r:=((k:Int),key,M[i])) (v:=rowAt mr a) (by simp) (rr a) (fun l u h=>?_) ?_ ?_ fun kill hkill=>?_
  ·have h1:=(h ▸ rr a:RowV N s.ob s.nx (.osl l u 0 (rdG g M i a).length 3) (rdG g M i a)).inv
   have h2:=ru _ _ _ _ h
   have h3:=h1.2.2.f.ne
   exact ⟨by simp (disch:=first | (simp;done) | omega) [h3],by first | omega | (simp [sr];omega)⟩
  ·simp [slCells,objCells,rdC]
  ·have:=rdAt_le g M i (a:Int)
   unfold rdG
   omega
  have hk0:∀ key,Off n0 key→kill.any (Nat.beq key)=false:=fun key hkey=>by
   rcases hkill with rfl | ⟨l,u,h,rfl⟩
   ·rfl
   ·obtain ⟨h1,h2⟩:=ru _ _ _ _ h
    subst h1
    simp only [List.any_cons,List.any_nil,Bool.or_false]
    exact beq_off (hkey u h2)
  have hk1:∀ m,s.nx≤m→kill.any (Nat.beq (2 * m+1))=false:=fun m hm=>by
   rcases hkill with rfl | ⟨l,u,h,rfl⟩
   ·rfl
   ·have h1:=(h ▸ rr a:RowV N s.ob s.nx (.osl l u 0 (rdG g M i a).length 3) (rdG g M i a)).inv
    simp only [List.any_cons,List.any_nil,Bool.or_false]
    exact beq_off fun e=>h1.2.2.f m hm e.symm
  have hkR:=hk0 (2 * uR+1) (Off.new (by omega))
  have hkW:=hk0 (2 * uW+1) (Off.new (by omega))
  have hk9:=hk1 (s.nx+256) (by omega)
  have hk60:=hk1 (s.nx+2496) (by omega)
  simp
  refine kD_mapSet (f:=rowV) (a:=(2 * (s.nx+2560)+1,s.nx+2560,(rdG g M i a).length+1)) (ver:=ver) (l:=2 * uR+1) (u:=uR) (k:=(a:Int)) mr (by simp) (by simp) (by simp [rowV,V.strip]) (by simp (disch:=first | (simp;done) | omega) [app_obks,hkR,two_inj,nR,rR]) (by first | omega | (simp [sr];omega)) ?_
  generalize hfl:List.flatMap rdC _++_=cs61
  simp (disch:=first | (simp;done) | omega) [drawOk,indep,disj,fpOf,rdOb,rdTk,lOf,Delta.wo,Delta.wt,List.any_append,hkW,hk9]
  refine ⟨⟨beq_off (by omega),beq_off (by omega),beq_off (by omega),beq_off (by omega),beq_off (by omega),beq_off (by omega),beq_off (by omega)⟩,?_⟩
  simp [s23,hwk,hlt]
  rw [hJ]
  have hcs:cs61=(rdG g M i a++[((k:Int),key,M[i])]).flatMap rdC:=by rw [← hfl];simp [List.flatMap_append]
  have hstep:=fun t=>rdG_succ (g:=g) (M:=M) (i:=i) (p:=((a:Int),(k:Int))) (m:=M[i]) (by rw [List.getElem?_eq_getElem hlt,e]) (List.getElem?_eq_getElem hiM) t
  simp only at hstep
  rw [show keyAt g ((a:Int),(k:Int))=key by rw [hkey',e]] at hstep
  have hA':rowV (2 * (s.nx+2560)+1,s.nx+2560,(rdG g M i a).length+1) = .osl (2 * (s.nx+2560)+1) (s.nx+2560) 0 ((rdG g M i a).length+1) 3:=rfl
  have hfixN:∀ ub',s.nx+2560<ub'→Fix N ub' (2 * (s.nx+2560)+1):=fun ub' h=>by
   rw [hN]
   exact ⟨by show _≠2 * uA+1;omega,by show _≠2 * uL+1;omega,by show _≠2 * uS+1;omega,by show _≠2 * uP+1;omega,Off.new h,by omega⟩
  refine ⟨by simp,⟨ver+1,mset mr a (2 * (s.nx+2560)+1,s.nx+2560,(rdG g M i a).length+1),by rw [hNR.1,hNR.2];simp,fun t=>?_,fun t l u n h=>?_,fun t t' l u n n' h h'=>?_⟩,fun key hk hne=>?_,by first | omega | (simp;omega)⟩
  ·rw [rowAt_set,hstep t]
   by_cases ht:t=a
   ·rw [if_pos ht,if_pos ht,hA',ht]
    refine .inr ⟨2 * (s.nx+2560)+1,s.nx+2560,by simp,?_,hfixN _ (by first | omega | (simp;done) | (simp;omega))⟩
    rw [← hcs]
    simp (disch:=first | (simp;done) | omega) [app_obks,two_inj,show ¬ s.nx+2560=uR from by omega]
   ·rw [if_neg ht,if_neg ht]
    rcases rr t with h | ⟨l,u,h1,h2,h3⟩
    ·exact .inl h
    ·obtain ⟨l1,l2⟩:=ru _ _ _ _ h1
     have hkl:kill.any (Nat.beq l)=false:=by
      rcases hkill with rfl | ⟨l0,u0,h0,rfl⟩
      ·rfl
      ·simp only [List.any_cons,List.any_nil,Bool.or_false]
       refine beq_off fun e=>ht ?_
       subst e
       obtain ⟨l3,l4⟩:=ru _ _ _ _ h0
       have:u=u0:=by omega
       subst this
       exact rj _ _ _ _ _ _ h1 h0
     refine .inr ⟨l,u,h1,?_,h3.up (by first | omega | (simp;omega))⟩
     have f1:=h3.f.ne
     have f2:¬ l=2 * uR+1:=by omega
     simp (disch:=first | (simp;done) | omega) [app_obks,f1,f2,hkl,h2]
  ·rw [rowAt_set] at h
   by_cases ht:t=a
   ·rw [if_pos ht,hA'] at h
    cases h
    exact ⟨rfl,by omega⟩
   ·rw [if_neg ht] at h
    exact ru _ _ _ _ h
  ·rw [rowAt_set] at h h'
   have hoff:∀ t:Int,t≠(a:Int)→rowAt mr t≠.osl (2 * (s.nx+2560)+1) (s.nx+2560) 0 n 3∧rowAt mr t≠.osl (2 * (s.nx+2560)+1) (s.nx+2560) 0 n' 3:=fun t _=>by
    constructor <;>
    ·intro h
     have:=(h ▸ rr t:RowV N s.ob s.nx _ (rdG g M i t)).inv
     exact this.2.2.f (s.nx+2560) (by omega) rfl
   by_cases ht:t=a
   ·by_cases ht':t'=a
    ·rw [ht,ht']
    ·rw [if_pos ht,hA'] at h
     rw [if_neg ht'] at h'
     cases h
     exact absurd h' (hoff t' ht').2
   ·by_cases ht':t'=a
    ·rw [if_pos ht',hA'] at h'
     rw [if_neg ht] at h
     cases h'
     exact absurd h (hoff t ht).1
    ·rw [if_neg ht] at h
     rw [if_neg ht'] at h'
     exact rj _ _ _ _ _ _ h h'
  ·have f1:=hk.ne
   simp (disch:=first | (simp;done) | omega) [app_obks,f1,hne,hk0 key hk,sw key hk hne]
 ·have:i=(readH g).length:=by omega
  subst this
  clear hlt hi
  obtain ⟨ver,mr,rR,rr,ru,rj⟩:=sR
  have st':=fun (u:Nat) (h1:u<n0) (h2:u≠uR)=>sw (2 * u+1) (Off.new h1) (by omega)
  simp [s23,s22,s7]
  refine endS_1 (by simp [sd]) ⟨by first | omega | (simp;omega),fun key hk=>?_,N,by rw [hN];simp,?_,by rw [hN];show ub≤uA;omega,by rw [hN];show ub≤uL;omega,by rw [hN];show ub≤uS;omega,by rw [hN];show ub≤uP;omega⟩
  ·simp
   rw [sw key (hk.up (by omega)) (hk uR (by omega))]
   exact gw key hk
  ·have hWk:Wk g lvl M N (atM O 0) (wlM g O 0) (wsM g O 0) (pastP g M O 0) s.ob s.nx:=by
    have hfx:∀ u,u<n0→u≠uA→u≠uL→u≠uS→u≠uP→Fix N s.nx (2 * u+1):=fun u h1 h2 h3 h4 h5=>by
     rw [hN]
     exact ⟨by show _≠2 * uA+1;omega,by show _≠2 * uL+1;omega,by show _≠2 * uS+1;omega,by show _≠2 * uP+1;omega,Off.new (by omega),by omega⟩
    refine ⟨?_,⟨ver,mr,rR,fun t=>?_⟩,⟨1,?_⟩,⟨0,?_⟩,⟨0,?_⟩,⟨0,[],?_,fun t=>.inl ⟨rfl,rfl⟩⟩,?_,?_,?_,?_,?_,?_,?_,?_⟩
    ·have:=(st' uW (by omega) (by omega)).trans pW
     rw [hN] at this ⊢;exact this
    ·have:=rr t
     unfold rdG at this
     rw [rdAt_get] at this
     exact this
    ·have:=(st' uA (by omega) (by omega)).trans pA
     rw [hN];exact this
    ·have:=(st' uL (by omega) (by omega)).trans pL
     rw [hN];exact this
    ·have:=(st' uS (by omega) (by omega)).trans pS
     rw [hN];exact this
    ·have:=(st' uP (by omega) (by omega)).trans pP
     rw [hN];exact this
    ·have:=hfx uW (by omega) (by omega) (by omega) (by omega) (by omega)
     rw [hN] at this ⊢;exact this
    ·have:=hfx uR (by omega) (by omega) (by omega) (by omega) (by omega)
     rw [hN] at this ⊢;exact this
    ·rw [hN];exact Off.new (by omega)
    ·rw [hN];exact Off.new (by omega)
    ·rw [hN];exact Off.new (by omega)
    ·rw [hN];exact Off.new (by omega)
    ·rw [hN];refine ⟨?_,?_,?_,?_⟩ <;> simp <;> omega
    ·rw [hN];refine ⟨?_,?_,?_,?_,?_,?_⟩ <;> simp <;> omega
   exact hWk.keep (fun key _ _=>by simp) (by first | omega | (simp;omega))
end
def certB (g:Hist') (lvl:Int) (M O:List Int):Int:=if !wholeH g then 4 else if lvl<1∨3<lvl then 2 else if mapR g M && (orderB g O && holdsB g lvl M O) then 0 else 14
theorem ev54 {g:Hist'} (hs:Small g) (hw:wholeH g=true) {on:Bool} {O:List Int} (hon:on=true→O=[]) (hO:O.length≤1000000000):Ev E 54 [.agg (histC g),slOf on intC O] (.bool (orderB g O)):=by
 obtain ⟨vc,evc,hvc⟩:=ev71 hs
 refine Ev_wpK (af:=F54) rfl ?_
 rw [comH_comL hw] at hvc
 have hcl:=comL_len g
 have hts:=hs.ts
 simp [F54,histC]
 cases on
 ·refine kS_callP (vs:=[slOf false intC O]) (by simp) rfl (sv68 O hO (by simp)) ?_
  rintro v ob1 tk1 ub1 ⟨⟨m,hm1,hm2,hv,hmo⟩,hold,htk,hub⟩
  simp only at hv hmo hold htk hub hm2
  subst hv
  simp
  refine kS_callP (vs:=[.osl (2 * m+1) m 0 O.length 1]) (by simp) rfl (sv69 (sortI_perm O).symm (sortI_pw O) hO hmo (by simp) (fun k hk=>by omega) (by simp)) ?_
  rintro w ob2 tk2 ub2 ⟨h1,h2,h3,h4⟩
  simp only at h1 h2 h3 h4
  have o4:ob2 4=some ⟨0,.cells (histC g)⟩:=by
   rw [h2 4 (by omega) (fun k hk=>by omega)]
   simp
   rw [hold 4 (fun k hk=>by omega)]
   simp [histC]
  simp [objCells,o4,histC]
  refine kS_ev evc (by simp [histC]) rfl (by simp [histC]) ?_
  refine retSl hvc fun tc addc=>?_
  simp
  refine kS_callO (vs:=[.osl (2 * m+1) m 0 O.length 1,.sl tc (comL g).isEmpty (comL g).length ((comL g).flatMap intC)]) (by simp) rfl rfl (by
   have hl:=(sortI_perm O).length_eq
   rw [← hl]
   exact evo70 (by simpa using h1) (fun k hk=>by omega) (by rw [hl];exact hO) (by omega) _ _) ?_
  rw [order_sorted hw (sortI_perm O).symm (sortI_pw O)]
  simp
  exact endV_1 (by simp) (by simp) rfl
 ·have:=hon rfl
  subst this
  refine kS_callP (vs:=[.sl none true 0 []]) (by simp [slOf]) rfl sv68n ?_
  rintro v ob1 tk1 ub1 ⟨h1,h2,h3,h4⟩
  simp only at h1 h2 h3 h4
  subst h1 h2
  simp
  refine kS_callP (vs:=[.sl none true 0 []]) (by simp) rfl sv69n ?_
  rintro w ob2 tk2 ub2 ⟨h1,h2,h5⟩
  simp only at h1 h2 h5
  subst h1
  simp [objCells]
  refine kS_ev evc (by simp [histC]) rfl (by simp [histC]) ?_
  refine retSl hvc fun tc addc=>?_
  simp
  refine kS_ev (ev70 (nl:=(comL g).isEmpty) (n:=(comL g).length) (cs:=(comL g).flatMap intC)) (by simp) rfl (by simp) ?_
  have:=order_sorted (g:=g) (O:=[]) hw (S:=[]) (.refl _) .nil
  rw [← this]
  simp
  refine endV_1 (by simp) ?_ rfl
  cases comL g <;> simp
theorem kS_callPF {F:Env} {Yf:YF} {f:FuncId} {xs:List A} {st:St} {ub:Nat} {K:St→Nat→Prop} {d:Option Nat} {nm:Bool} {vs:List V} {P:V × (Nat→Option Obj') × (Nat→Bool) × Nat→Prop} (hx:xs.map (eval F st.tm)=vs) (hs:F.sh nm f=true)
 (he:∃ r,EvS F Yf.y f vs st.ob st.tk st.ro ((st.fb+d.getD 0+1) * 1024) ub r∧P r) (h:∀ v ob' tk' ub',P (v,ob',tk',ub')→K (retS st d v ob' tk') ub'):wpStep F Yf ⟨d,.call f xs,none,nm⟩ st ub K:=by
 obtain ⟨r,hr,hP⟩:=he
 exact kS_callS hx hs ⟨r,hr,h r.1 r.2.1 r.2.2.1 r.2.2.2 hP⟩
theorem ev18 {g:Hist'} (hs:Small g) (lvl:Int) {mn on:Bool} {M O:List Int} (hM:M.length≤1000000) (hO:O.length≤1000000) (hon:on=true→O=[]):Ev E1 18 [.int .i64 lvl,.agg (histC g),.agg [slOf mn intC M,slOf on intC O]] (.int .i64 (certB g lvl M O)):=by
 have e52:=Ev.e1 (ev52 hs)
 have e53:=Ev.e1 (ev53 hs (b:=mn) M hM)
 rw [is_eq] at e53
 refine Ev_wpK (af:=F18) rfl ?_
 simp (disch:=first | (simp;done) | omega) [F18,objCells,histC]
 refine kS_ev e52 (by simp [histC]) rfl (by simp [histC]) ?_
 unfold certB
 cases hw:wholeH g
 ·simp
  exact endV_1 rfl (by simp) rfl
 have e54:=Ev.e1 (ev54 hs hw (on:=on) hon (O:=O) (by omega))
 simp
 by_cases c1:lvl<1
 ·simp [c1]
  exact endV_1 rfl (by simp) rfl
 by_cases c2:3<lvl
 ·simp [c1,c2]
  exact endV_1 rfl (by simp) rfl
 simp (disch:=first | (simp;done) | omega) [c1,c2,objCells,slOf]
 refine kD_ev e53 (by simp [histC,slOf]) rfl (by simp [histC,slOf]) ?_
 cases hm:mapR g M
 ·simp (disch:=first | (simp;done) | omega)
  exact endV_1 (by simp) (by simp) rfl
 simp (disch:=first | (simp;done) | omega) [objCells]
 refine kD_ev e54 (by simp [histC,slOf]) rfl (by simp [histC,slOf]) ?_
 cases ho:orderB g O
 ·simp (disch:=first | (simp;done) | omega)
  exact endV_1 (by simp) (by simp) rfl
 simp (disch:=first | (simp;done) | omega) [objCells]
 have h55:∀ (ob:Nat→Option Obj') (tk:Nat→Bool) (base ub:Nat),∃ r,EvS E1 noYF.y 55 [.int .i64 lvl,.agg (histC g),slOf mn intC M] ob tk 0 base ub r∧BegW g lvl M O ob ub r:=fun ob tk base ub=>by
  obtain ⟨r,h1,h2⟩:=sv55 (Yf:=noYF) hs hm lvl O (nl:=mn) (ob:=ob) (tk:=tk) (ro:=0) (base:=base) (ub:=ub) (by omega)
  exact ⟨r,EvS.e1 h1,h2⟩
 refine kS_callPF (vs:=[.int .i64 lvl,.agg (histC g),slOf mn intC M]) (by simp [histC,slOf]) rfl (h55 _ _ _ _) ?_
 rintro v ob1 tk1 ub1 ⟨b1,b2,N,b3,b4,b5,b6,b7,b8⟩
 simp only at b1 b2 b3 b4
 subst b3
 have o129:ob1 129=some ⟨64,.cells [slOf mn intC M,slOf on intC O]⟩:=by
  rw [b2 129 (fun m hm=>by first | omega | (simp at hm;omega))]
  simp [slOf]
 simp (disch:=first | (simp;done) | omega) [objCells,o129,slOf]
 refine kS_callLP (vs:=[.ptr N.kW N.uW 0,slOf on intC O]) (by simp [slOf]) rfl (sv56 hs hm ho hO (b4.keep (fun key _ _=>by first | rfl | simp) (by first | omega | (simp;done) | (simp;omega))) (by first | omega | (simp;done) | (simp;omega)) (by first | omega | (simp;done) | (simp;omega)) (by first | omega | (simp;done) | (simp;omega)) (by first | omega | (simp;done) | (simp;omega)) (by first | omega | (simp;done) | (simp;omega)) _ _) ?_
 rintro v2 ob2 tk2 ub2 h2
 simp only at h2
 subst h2
 rw [walk_holds hm ho (by omega) (by omega)]
 cases holdsB g lvl M O
 ·simp
  exact endV_1 (by simp) (by simp) rfl
 ·simp
  exact endV_1 (by simp) (by simp) rfl
def CertR (r:V) (M O:List Int):Prop:=∃ a b:Option (Nat × Nat),r = .agg [.sl a false M.length (M.flatMap intC),.sl b false O.length (O.flatMap intC)]∧(∀ p∈a.toList++b.toList,p.1<64)
theorem endC2 {st:St} {p l u:Nat} {x y:V} {M O:List Int} {P:V→Prop} (hP:∀ r,CertR r M O→P r) (hd:st.df=[]) (hp:st.tm p = .ptr l u 0) (ho:st.ob l=some ⟨u,.cells [x,y]⟩)
 (hx:SlOut st x false M.length (M.flatMap intC)) (hy:SlOut st y false O.length (O.flatMap intC)):kEndE [.cell p (some 2)] P .ret st:=by
 have h1:(objCells st.ob l u)=some [x,y]:=by simp [objCells,ho]
 have hres:[ARes.cell p (some 2)].mapM (resOf st)=some [.agg [x,y]]:=by simp [resOf,hp,h1]
 obtain ⟨a,ha,ha'⟩:=hx (nodup (List.flatMap V.toks [.agg [x,y]])) 0
 obtain ⟨b,hb,hb'⟩:=hy (nodup (List.flatMap V.toks [.agg [x,y]])) 1
 refine ⟨.agg [.sl a false M.length (M.flatMap intC),.sl b false O.length (O.flatMap intC)],?_,hP _ ⟨a,b,rfl,?_⟩⟩
 ·simp only [endV,dfOk_of hd,noDf_of hd,if_true,hres,Option.bind_some,outRes]
  generalize nodup (List.flatMap V.toks [.agg [x,y]])=keep at *
  simp only [outTops,outTop,outList,ha,hb,Nat.zero_add,Option.bind_some,Option.map_some]
  have hnd:nodup (List.flatMap V.toks [.agg [.sl a false M.length (M.flatMap intC),.sl b false O.length (O.flatMap intC)]])=true:=by
   simp only [List.flatMap_cons,List.flatMap_nil,List.append_nil,V.toks,toks_sl]
   rcases ha' with rfl | ⟨_,rfl⟩ <;> rcases hb' with rfl | ⟨_,rfl⟩ <;> rfl
  rw [if_pos hnd]
 ·intro p hp
  simp only [List.mem_append] at hp
  rcases hp with hp | hp
  ·rcases ha' with rfl | ⟨_,rfl⟩
   ·simp at hp
   ·simp at hp;subst hp;simp
  ·rcases hb' with rfl | ⟨_,rfl⟩
   ·simp at hp
   ·simp at hp;subst hp;simp
theorem retCert {ub:Nat} {r:V} {M O:List Int} {K:Delta→Prop} (h:CertR r M O) (hK:∀ a b add,K { v:=.agg [.sl a false M.length (M.flatMap intC),.sl b false O.length (O.flatMap intC)],add:=add }):wpD (retA ub r) K:=by
 obtain ⟨a,b,rfl,hlt⟩:=h
 have e:∀ x y:V,toksRes (.agg [x,y])=x.tok++y.tok:=fun x y=>by simp [toksRes,V.toks]
 have hall:(toksRes (.agg [.sl a false M.length (M.flatMap intC),.sl b false O.length (O.flatMap intC)])).all (fun i=>Nat.blt i 64)=true:=by
  rw [e,List.all_eq_true]
  intro i hi
  have:∃ p∈a.toList++b.toList,p.1=i:=by
   rw [List.mem_append,tokm,tokm] at hi
   rcases hi with ⟨p,hp,h⟩ | ⟨p,hp,h⟩
   ·exact ⟨p,by simp [hp],h⟩
   ·exact ⟨p,by simp [hp],h⟩
  obtain ⟨p,hp,rfl⟩:=this
  rw [Nat.blt_eq]
  exact hlt p hp
 have hin:∀ (t:Option (Nat × Nat)) (nl:Bool) (n:Nat) (cs:List V),∃ t',inLeaf ub (.sl t nl n cs) = .sl t' nl n cs:=fun t nl n cs=>by
  cases t with
  | none=>exact ⟨none,rfl⟩
  | some p=>exact ⟨_,rfl⟩
 obtain ⟨a',ha⟩:=hin a false M.length (M.flatMap intC)
 obtain ⟨b',hb⟩:=hin b false O.length (O.flatMap intC)
 rw [retA,if_pos hall,wpD_some]
 have:=hK a' b' ((toksRes (.agg [.sl a false M.length (M.flatMap intC),.sl b false O.length (O.flatMap intC)])).map (ub + ·))
 have e2:inRes ub (.agg [.sl a false M.length (M.flatMap intC),.sl b false O.length (O.flatMap intC)]) = .agg [.sl a' false M.length (M.flatMap intC),.sl b' false O.length (O.flatMap intC)]:=by
  simp [inRes,inTop,ha,hb]
 rw [e2]
 exact this
def few60 (l:List Int):List Int:=l.take (min l.length 60)
theorem few60_len (l:List Int):(few60 l).length≤60:=by unfold few60;rw [List.length_take];omega
theorem ev16 {a b:Bool} (M O:List Int):∃ r,Ev E 16 [.agg [slOf a intC M,slOf b intC O]] r∧CertR r (few60 M) (few60 O):=by
 have hm1:minmaxV false [.int .i64 (M.length:Int),.int .i64 60]=some (.int .i64 ((min M.length 60:Nat):Int)):=min_len M.length 60
 have hm2:minmaxV false [.int .i64 (O.length:Int),.int .i64 60]=some (.int .i64 ((min O.length 60:Nat):Int)):=min_len O.length 60
 have hs1:=sl_head intC_len none a M (Nat.min_le_left M.length 60)
 have hs2:=sl_head intC_len none b O (Nat.min_le_left O.length 60)
 have l1:=few60_len M
 have l2:=few60_len O
 change slSlV _ _ _ _=some (.sl none _ (few60 M).length ((few60 M).flatMap intC)) at hs1
 change slSlV _ _ _ _=some (.sl none _ (few60 O).length ((few60 O).flatMap intC)) at hs2
 obtain ⟨vm,evm,hvm⟩:=ev25 a (few60 M) (by omega)
 obtain ⟨vo,evo,hvo⟩:=ev25 b (few60 O) (by omega)
 refine Ev_wpE (af:=F16) rfl (by decide) ?_
 simp [F16,slOf,objCells,hm1,hs1]
 refine kD_ev evm (by simp [slOf]) rfl (by simp [slOf]) ?_
 refine retSl hvm fun a1 add1=>?_
 simp [objCells,hm2,hs2]
 refine kD_ev evo (by simp [slOf]) rfl (by simp [slOf]) ?_
 refine retSl hvo fun a2 add2=>?_
 simp [objCells,splice]
 exact endC2 (l:=4) (u:=64) (x:=.sl a1 false (few60 M).length ((few60 M).flatMap intC)) (y:=.sl a2 false (few60 O).length ((few60 O).flatMap intC)) (fun r h=>h) (by simp) (by simp) (by simp) (slOut_sl _ _ _ _ _) (slOut_sl _ _ _ _ _)
theorem ev19 {g:Hist'} (hs:Small g) (lvl:Int) {mn on:Bool} {M O:List Int} (hM:M.length≤1000000) (hO:O.length≤1000000) (hon:on=true→O=[]):Ev E1 19 [.int .i64 lvl,.agg (histC g),.agg [slOf mn intC M,slOf on intC O]] (.bool (certB g lvl M O == 0)):=by
 have e18:=ev18 hs lvl (mn:=mn) (on:=on) hM hO hon
 refine Ev_wpK (af:=F19) rfl ?_
 simp [F19,objCells,histC,slOf]
 refine kS_ev e18 (by simp [histC,slOf]) rfl (by simp [histC,slOf]) ?_
 simp
 exact endV_1 rfl (by simp) rfl
def txt20:List UInt8:=[98,101,103,105,110,32,115,10,114,101,97,100,32,115,32,120,32,110,105,108,10,111,107,32,115]
def H20:Hist':=⟨false,[[115]],false,[[120]],false,[⟨0,1,false,[⟨false,0,⟨0,0⟩⟩]⟩]⟩
theorem k20:(callers E 100 noY).d 57 [.str txt20]=some (.tup [(.agg [(.sl (some (0,1)) false 1 [(.str [115])]),(.sl (some (1,1)) false 1 [(.str [120])]),(.sl (some (2,3)) false 1 [(.int .i64 0),(.int .i64 1),(.sl none false 1 [(.bool false),(.int .i64 0),(.int .i64 0),(.int .i64 0)])])]),(.int .i64 0),(.int .i64 0)]):=by kernel_rfl
end Go.Pv.T
namespace Go.Pv.T
open Go Go.Pv
end Go.Pv.T
namespace Go.Pv.T
open Go Go.Pv
end Go.Pv.T
namespace Go.Pv.T
open Go Go.Pv
theorem few3S_eq:few3S = .seq (hdC few3S) few4S:=rfl
theorem few3O {h:Hist'} {Yf:YF} {ob0:Nat→Option Obj'} {ub ro:Nat} {s0:St} {Q:Ex→St→Prop} {N1 N2:Nat} {S0 K0:V} (hru:ro≤ub) (hs:FewO h ob0 ub ro s0 25 45 N1 N2 S0 K0 (.sl none true 0 []) [])
 (hrest:∀ s Tv P,P.map (·.1)=(h.ts.take 45).map fewT→FewO h ob0 ub ro s 25 45 N1 N2 S0 K0 Tv P→wpC E Yf few4S s Q):wpC E Yf few3S s0 Q:=by
 rw [few3S_eq]
 obtain ⟨f1,f2,f3,fd,fr,o1,o2,o3,gS,gK,gT,n0,n1,n2,ff⟩:=hs
 simp [hdC,few3S,few2S,few1S,tlC,S51]
 refine wp_loopUp [(6,7),(67,98)] 45 (fun i s=>s.tm 6 = .int .i64 i∧i≤h.ts.length∧∃ Tv P,P.map (·.1)=(h.ts.take i).map fewT∧FewO h ob0 ub ro s 25 45 N1 N2 S0 K0 Tv P) rfl rfl ?_ ?_
 ·refine ⟨by simp,by simp,.sl none true 0 [],[],by simp,⟨by simp [f1],by simp [f2],by simp [f3],by simp [fd],by simp [fr],by simp [o1],by simp [o2],by simp [o3],gS.frame (fun _ _ _=>by simp) (Nat.le_refl _) (Nat.le_refl _),gK.frame (fun _ _ _=>by simp) (Nat.le_refl _) (Nat.le_refl _),⟨by simp,.inl ⟨rfl,rfl⟩⟩,n0,n1,by simp;omega,fun key hk=>by simp [ff key hk]⟩⟩
 rintro i s hi ⟨h4,hle,Tv,P,hP,f1,f2,f3,fd,fr,o1,o2,o3,gS,gK,gT,n0,n1,n2,ff⟩ f
 clear f
 have hend:¬ (i<h.ts.length∧i<45)→∀ s':St,(s'.tm 1=s.tm 1∧s'.tm 2=s.tm 2∧s'.tm 3=s.tm 3)→s'.df=s.df→s'.ro=s.ro→s'.ob=s.ob→s.nx≤s'.nx→wpC E Yf few4S s' Q:=by
  intro hx s' ⟨q1,q2,q3⟩ e2 e3 e4 e5
  refine hrest s' Tv P (hP.trans (few_end hle hi hx)) ⟨q1.trans f1,q2.trans f2,q3.trans f3,by rw [e2];exact fd,by rw [e3];exact fr,by rw [e4];exact o1,by rw [e4];exact o2,by rw [e4];exact o3,by rw [e4];exact gS,by rw [e4];exact gK,?_,n0,n1,by omega,fun key hk=>by rw [e4];exact ff key hk⟩
  exact gT.frame (fun _ _ _=>by rw [e4]) e5
 have o1':s.ob (2 * ub+1)=some ⟨ub,.cells [slOf h.sn strC h.ss,slOf h.kn strC h.ks,slOf h.tn txnC h.ts]⟩:=o1
 by_cases hlt:i<h.ts.length
 ·by_cases hl5:i<45
  ·have hw:=wrapU hl5 (by omega)
   have hl5':(i:Int)<45:=by omega
   obtain ⟨t,ht⟩:∃ t,h.ts[i]=t:=⟨_,rfl⟩
   have hmn:=min_len t.ops.length 25
   rw [show ((25:Nat):Int)=25 from rfl] at hmn
   have hss:=slSl_any opC_len t.nl t.ops 25 .i64
   have hmm:min t.ops.length 25=(t.ops.take 25).length:=by rw [List.length_take,Nat.min_comm]
   rw [hmm] at hss hmn
   generalize hL:t.ops.take 25=L at *
   have hLl:L.length≤25:=by rw [← hL,List.length_take];omega
   have hlfO:(L.flatMap opC).all V.leaf=true:=by rw [List.all_flatMap,List.all_eq_true];intro _ _;rfl
   obtain ⟨z,hz⟩:∃ z,s.nx=z:=⟨_,rfl⟩
   simp [h4,f1,o1',objCells,hlt,hl5',idx_slOf txnC_len,load_slOf txnC_len,ht,txnC,fr,splice,hz]
   refine ⟨by omega,?_⟩
   refine kS_buildSlO (cs:=[]) rfl rfl rfl ?_
   simp [objCells]
   obtain ⟨zB,hB⟩:∃ y,(z+64+64+64+64+64+64+64+64+64+64+64+64+64+64+64+64)=y:=⟨_,rfl⟩
   obtain ⟨zA,hA⟩:∃ y,(z+64+64+64+64+64+64+64+64+64+64+64+64+64+64)=y:=⟨_,rfl⟩
   have hAB:zB=zA+128:=by omega
   have hA0:z+896=zA:=by omega
   rw [hB,hA]
   have w1:¬ 2 * zA=2 * zB:=by omega
   have w2:¬ 2 * zB=2 * zA:=by omega
   simp [objCells,w1,hmn,hss]
   refine kS_copyO (f:=opC) (l:=L) (z:=zB) (by simp) (by simp) (by simp [fr];omega) (by simp [slOf,slCells,flatMap_len opC_len]) opC_len (by decide) hlfO (by omega) (by omega) ?_
   intro s1 u hu c0 cf ct cd cr cb ck
   have hu1:zB≤u:=by omega
   have hu2:u≤zB+512:=by omega
   have cA:s1.ob (2 * zA+1)=some ⟨zA,.cells [.int .i64 t.s,.int .i64 t.f,slOf t.nl opC t.ops]⟩:=by
    rw [cf _ (by omega) (by omega)];simp [w1]
   have cO:∀ key,key≠2 * zA+1→key≠2 * zB+1→key≠2 * (zB+512)+1→s1.ob key=s.ob key:=by
    intro key k1 k2 k3
    rw [cf _ k2 (by omega)]
    simp [k1,k2]
   have v1:¬ 2 * zA=2 * (ub+192):=by omega
   have v2:¬ 2 * (ub+192)=2 * zA:=by omega
   have c3:s1.ob (2 * (ub+192)+1)=some ⟨ub+192,.cells [S0,K0,Tv]⟩:=(cO _ (by omega) (by omega) (by omega)).trans o3
   have hra:ro≤zA:=by omega
   simp [ct,objCells,cA,cr,fr,splice,f3,c3,v2,hra]
   obtain ⟨p,hp⟩:∃ p,(fewT t,u)=p:=⟨_,rfl⟩
   have hpu:txU p=[.int .i64 t.s,.int .i64 t.f,.osl (2 * u+1) u 0 L.length 4]:=by
    rw [← hp]
    simp [txU,fewT,← hL]
   refine kS_buildSlO (cs:=txU p) (by rw [hpu];simp [splice]) rfl (by rw [hpu];rfl) ?_
   simp
   obtain ⟨zE,hE⟩:∃ y,(zB+64+64+64+64+64+64+64+64+64+64+64+64+64+64)=y:=⟨_,rfl⟩
   have hE0:zB+896=zE:=by omega
   rw [hE]
   have hPl:P.length=i:=by
    have:=congrArg List.length hP
    rw [List.length_map,List.length_map,List.length_take] at this
    omega
   have hp2:p.2=u:=by rw [← hp]
   have hp1:p.1=fewT t:=by rw [← hp]
   have hpo:p.1.ops=L:=by rw [hp1];exact hL
   rw [hz] at gT n2
   have hsame:∀ y,y<z→s1.ob (2 * y+1)=s.ob (2 * y+1):=fun y y2=>cO _ (by omega) (by omega) (by omega)
   refine kS_appendTs (lo:=N2) (hi:=z) (P:=P) (p:=p) ?_ (by omega) (by simp [cr,fr];omega) (by simp [slCells,objCells];rfl) ?_ n2 (by omega) ?_
   ·simp
    refine gT.frame (fun y y1 y2=>?_) (Nat.le_refl _)
    have e1:¬ 2 * y=2 * zE:=by omega
    have e2:¬ 2 * y=2 * zA:=by omega
    simp [e1,e2]
    exact hsame y y2
   ·refine ⟨by rw [hp1];rfl,by rw [hp2];omega,by rw [hp2];omega,L.flatMap opC,?_,?_,?_⟩
    ·rw [hp2]
     have e1:¬ 2 * u=2 * zE:=by omega
     have e2:¬ 2 * u=2 * zA:=by omega
     simp [e1,e2]
     exact c0
    ·rw [hpo,flatMap_len opC_len];exact Nat.le_refl _
    ·rw [hpo,← flatMap_len opC_len,List.take_length]
   intro s4 v4 hT4 x4 xt xd xr xb xk
   obtain ⟨hlf4,hc4⟩:=hT4.leaf
   have x5:∀ y,(y<N2)→s4.ob (2 * y+1)=s.ob (2 * y+1):=by
    intro y hy
    rw [x4 _ (fun y y1 y2=>by omega) (by omega)]
    have e1:¬ 2 * y=2 * zE:=by omega
    have e2:¬ 2 * y=2 * zA:=by omega
    simp [e1,e2]
    exact hsame y (by omega)
   have x3:=(x5 (ub+192) (by omega)).trans o3
   have hP1:(P++[p]).map (·.1)=(h.ts.take (i+1)).map fewT:=by
    rw [List.map_append,hP,List.take_succ_eq_append_getElem hlt,List.map_append,ht,← hp]
    rfl
   simp [xt,ct,f3,objCells,x3,xr,cr,fr,splice,hlf4,hc4,h4,hw]
   have b1:¬ 2 * ub=2 * (ub+192):=by omega
   have b2:¬ 2 * (ub+64)=2 * (ub+192):=by omega
   refine ⟨by omega,hl5,by omega,v4,P++[p],by rw [hP1,List.map_take],⟨by simp [xt,ct,f1],by simp [xt,ct,f2],by simp [xt,ct,f3],by simp [xd,cd,fd],by simp [xr,cr,fr],by simp [b1];exact (x5 ub (by omega)).trans o1,by simp [b2];exact (x5 (ub+64) (by omega)).trans o2,by simp,
    gS.frame (fun y h1 h2=>?_) (Nat.le_refl _) (Nat.le_refl _),gK.frame (fun y h1 h2=>?_) (Nat.le_refl _) (Nat.le_refl _),hT4.frame (fun y h1 h2=>?_) (by simp <;> omega),n0,n1,by simp <;> omega,fun key hk=>?_⟩⟩
   ·have e1:¬ 2 * y=2 * (ub+192):=by omega
    simp [e1]
    exact x5 y (by omega)
   ·have e1:¬ 2 * y=2 * (ub+192):=by omega
    simp [e1]
    exact x5 y (by omega)
   ·have e1:¬ 2 * y=2 * (ub+192):=by omega
    simp [e1]
   ·have e1:=hk (ub+192) (by omega)
    have e2:=hk zE (by omega)
    have e3:=hk zA (by omega)
    simp [e1]
    rw [x4 _ (fun y y1 y2=>hk y (by omega)) (hk _ (by omega))]
    simp [e2,e3]
    exact (cO key e3 (hk zB (by omega)) (hk (zB+512) (by omega))).trans (ff key hk)
  ·have hl5':¬ (i:Int)<45:=by omega
   simp [h4,f1,o1',objCells,hlt,hl5']
   exact hend (by omega) _ ⟨by simp,by simp,by simp⟩ (by simp) (by simp) (by funext k;simp) (by simp;omega)
 ·simp [h4,f1,o1',objCells,hlt]
  exact hend (by omega) _ ⟨by simp,by simp,by simp⟩ (by simp) (by simp) (by funext k;simp) (by simp;omega)
def FewP (h:Hist') (ob:Nat→Option Obj') (ub:Nat) (r:V × (Nat→Option Obj') × (Nat→Bool) × Nat):Prop :=
 ∃ Sv Kv Tv P N1 N2,r.1 = .agg [Sv,Kv,Tv]∧StO r.2.1 (ub+256) N1 (fewS 25 h.ss) Sv∧StO r.2.1 N1 N2 (fewS 45 h.ks) Kv∧TsO r.2.1 N2 r.2.2.2 P Tv∧P.map (·.1)=(h.ts.take 45).map fewT∧ub+256≤N1∧N1≤N2∧N2≤r.2.2.2 ∧
  ∀ key,(∀ m,ub≤m→key≠2 * m+1)→r.2.1 key=ob key
theorem sv51 {Yf:YF} {h:Hist'} {ob:Nat→Option Obj'} {tk:Nat→Bool} {ro base ub:Nat} (hro:ro≤ub):∃ r,EvS E Yf.y 51 [.agg (histC h)] ob tk ro base ub r∧FewP h ob ub r:=by
 refine EvS_wp (af:=S51) rfl (by decide) ?_
 show wpC E Yf S51.body _ (kEndS S51.res _)
 refine few0S hro fun s1 h1=>?_
 refine few1O hro h1 fun s2 Sv h2=>?_
 refine few2O hro h2 fun s3 Kv h3=>?_
 refine few3O hro h3 fun s4 Tv P hP h4=>?_
 obtain ⟨f1,f2,f3,fd,fr,o1,o2,o3,gS,gK,gT,n0,n1,n2,ff⟩:=h4
 obtain ⟨lS,cS⟩:=gS.leaf
 obtain ⟨lK,cK⟩:=gK.leaf
 obtain ⟨lT,cT⟩:=gT.leaf
 have b1:¬ 2 * (ub+192)=2 * (ub+64):=by omega
 have hre:S51.res=[.cell 2 (some 3)]:=rfl
 rw [hre]
 generalize hP':kEndS [.cell 2 (some 3)] (FewP h ob ub)=Q
 simp [few4S,few3S,few2S,few1S,tlC,S51,f2,f3,o2,o3,objCells,fr,splice,lS,lK,lT]
 refine ⟨by omega,?_⟩
 rw [← hP']
 refine ⟨(.agg [Sv,Kv,Tv],_,_,_),by simp [endS,fd,resOf,f2,objCells];exact ⟨rfl,rfl,rfl⟩,Sv,Kv,Tv,P,_,_,rfl,gS.frame (fun y h1 h2=>?_) (Nat.le_refl _) (Nat.le_refl _),gK.frame (fun y h1 h2=>?_) (Nat.le_refl _) (Nat.le_refl _),gT.frame (fun y h1 h2=>?_) ?_,hP,n0,n1,?_,fun key hk=>?_⟩
 ·have e1:¬ 2 * y=2 * (ub+64):=by omega
  simp [e1]
 ·have e1:¬ 2 * y=2 * (ub+64):=by omega
  simp [e1]
 ·have e1:¬ 2 * y=2 * (ub+64):=by omega
  simp [e1]
 ·simp;omega
 ·simp;omega
 ·have e1:=hk (ub+64) (by omega)
  simp [e1]
  exact ff key hk
def sixT (t:Txn'):Txn':={ t with ops:=t.ops.take 6 }
def few8 (h:Hist'):Hist':=if 8<(fewH h).ts.length then { fewH h with tn:=true,ts:=[] } else { fewH h with ts:=(fewH h).ts.map sixT }
def mixT (P:List (Txn' × Nat)) (i:Nat):List (Txn' × Nat):=P.mapIdx fun j p=>if j<i then (sixT p.1,p.2) else p
theorem mixT_len {P:List (Txn' × Nat)} {i:Nat}:(mixT P i).length=P.length:=by simp [mixT]
theorem mixT_zero {P:List (Txn' × Nat)}:mixT P 0=P:=by
 apply List.ext_getElem?
 intro n
 simp [mixT]
theorem mixT_end {P:List (Txn' × Nat)}:(mixT P P.length).map (·.1)=(P.map (·.1)).map sixT:=by
 apply List.ext_getElem?
 intro n
 simp only [mixT,List.getElem?_map,List.getElem?_mapIdx]
 cases h:P[n]? with
 | none=>rfl
 | some o =>
  have:=(List.getElem?_eq_some_iff.1 h).1
  simp [this]
theorem mixT_at {P:List (Txn' × Nat)} {i:Nat} (h:i<P.length):(mixT P i)[i]'(by rw [mixT_len];exact h)=P[i]:=by simp [mixT]
theorem mixT_step {P:List (Txn' × Nat)} {i:Nat} (_:i<P.length):mixT P (i+1)=(mixT P i).modify i fun p=>(sixT p.1,p.2):=by
 apply List.ext_getElem?
 intro n
 simp only [mixT,List.getElem?_mapIdx,List.getElem?_modify]
 cases hn:P[n]? with
 | none=>simp
 | some o =>
  simp only [Option.map_some,Option.map_eq_map]
  by_cases h3:i=n
  ·subst h3
   simp
  ·simp only [if_neg h3]
   by_cases h1:n<i
   ·rw [if_pos h1,if_pos (by omega)]
   ·rw [if_neg (by omega),if_neg h1]
theorem txU_set:∀ {P:List (Txn' × Nat)} {i:Nat} (h:i<P.length),splice (P.flatMap txU) (i * 3+2) [.osl (2 * (P[i]).2+1) (P[i]).2 0 (sixT (P[i]).1).ops.length 4]=(P.modify i fun p=>(sixT p.1,p.2)).flatMap txU
 | [],_,h=>by simp at h
 | p::P,0,_=>by simp [List.modify_cons,splice,txU,sixT]
 | p::P,i+1,h=>by
  have ih:=txU_set (P:=P) (i:=i) (by simpa using h)
  simp only [List.modify_cons,Nat.add_one_ne_zero,if_false,Nat.add_sub_cancel,List.flatMap_cons,List.getElem_cons_succ]
  rw [← ih]
  have:(i+1) * 3+2=(txU p).length+(i * 3+2):=by simp;omega
  rw [this]
  simp only [splice,Nat.add_assoc]
  rw [List.take_length_add_append,List.drop_length_add_append]
  simp only [List.append_assoc]
theorem InO.six {ob:Nat→Option Obj'} {lo hi:Nat} {p:Txn' × Nat} (h:InO ob lo hi p):InO ob lo hi (sixT p.1,p.2):=by
 obtain ⟨X,h1,h2,h3⟩:=h.ob
 refine ⟨h.nl,h.lo,h.hi,X,h1,?_,?_⟩
 ·simp only [sixT,List.length_take];omega
 ·have e:X.take ((sixT p.1).ops.length * 4)=(X.take (p.1.ops.length * 4)).take ((sixT p.1).ops.length * 4):=by
   rw [List.take_take]
   congr 1
   simp only [sixT,List.length_take]
   omega
  rw [e,h3,take_ops]
  congr 1
  simp only [sixT,List.length_take]
  rcases Nat.le_total p.1.ops.length 6 with h' | h'
  ·rw [Nat.min_eq_right h',List.take_length,List.take_of_length_le h']
  ·rw [Nat.min_eq_left h']
theorem slSl4_to {L u n i:Nat} (h:i≤n):slSlV 4 none (some (.int .i64 (i:Int))) (.osl L u 0 n 4)=some (.osl L u 0 i 4):=by
 simp [slSlV,bounds,h]
theorem TsO.len {ob:Nat→Option Obj'} {lo hi:Nat} {P:List (Txn' × Nat)} {v:V} (h:TsO ob lo hi P v):lenSlV v=some (.int .i64 P.length):=by
 rcases h.2 with ⟨rfl,rfl⟩ | ⟨_,u,_,_,_,rfl,_⟩ <;> rfl
theorem ev15 (h:Hist'):∃ v,Ev E 15 [.agg (histC h)] v∧HistR v (few8 h):=by
 refine Ev_wpE (af:=F15) rfl (by decide) ?_
 generalize hPP:(kEndE [.cell 2 (some 3)] fun r=>HistR r (few8 h))=PP
 simp [F15,histC,objCells,hPP]
 refine kS_callP (vs:=[.agg (histC h)]) (by simp [histC]) rfl (sv51 (h:=h) (Nat.zero_le _)) ?_
 rintro v ob1 tk1 ub1 ⟨Sv,Kv,Tv,P,N1,N2,hv,gS,gK,gT,hP,n0,n1,n2,ff⟩
 simp only at hv gS gK gT hP n0 n1 n2 ff
 subst hv
 obtain ⟨lS,cS⟩:=gS.leaf
 obtain ⟨lK,cK⟩:=gK.leaf
 obtain ⟨lT,cT⟩:=gT.leaf
 have hTl:=gT.len
 have b1:ob1 1=some ⟨0,.cells (histC h)⟩:=by rw [ff 1 (fun m hm=>by omega)];simp [histC]
 have b2:ob1 129=some ⟨64,.cells [.sl none true 0 [],.sl none true 0 [],.sl none true 0 []]⟩:=by rw [ff 129 (fun m hm=>by omega)];simp
 have e1:(few8 h).ss=fewS 25 h.ss:=by unfold few8;split <;> rfl
 have e2:(few8 h).sn=(fewS 25 h.ss).isEmpty:=by unfold few8;split <;> rfl
 have e3:(few8 h).ks=fewS 45 h.ks:=by unfold few8;split <;> rfl
 have e4:(few8 h).kn=(fewS 45 h.ks).isEmpty:=by unfold few8;split <;> rfl
 have hPl:(fewH h).ts.length=P.length:=by
  show ((h.ts.take 45).map fewT).length=P.length
  rw [← hP,List.length_map]
 simp [b1,objCells,histC,splice]
 generalize hK:kSeq E noYF _ PP=K
 have rest:∀ (s:St) (P':List (Txn' × Nat)) (Tv':V),P'.length≤8→(few8 h).ts=(P'.map (·.1)).map sixT→(few8 h).tn=P'.isEmpty→s.tm 1 = .ptr 1 0 0→s.tm 2 = .ptr 129 64 0→s.df=[]→s.ro=0→s.fb=0→ub1≤s.nx →
  s.ob 1=some ⟨0,.cells [Sv,Kv,Tv']⟩→s.ob 129=some ⟨64,.cells [.sl none true 0 [],.sl none true 0 [],.sl none true 0 []]⟩→StO s.ob (192+256) N1 (fewS 25 h.ss) Sv→StO s.ob N1 N2 (fewS 45 h.ks) Kv→TsO s.ob N2 ub1 P' Tv'→K .nrm s:=by
  intro s P' Tv' hl8 ht8 hn8 g1 g2 gd gr gb gn p1 p2 gS gK gT
  rw [← hK,kSeq_nrm]
  clear hK
  have lT':=gT.leaf
  simp
  refine wp_loopUp [(3,3),(11,37)] P'.length (fun i s=>s.tm 3 = .int .i64 i∧s.ob 1=some ⟨0,.cells [Sv,Kv,Tv']⟩∧s.ob 129=some ⟨64,.cells [.sl none true 0 [],.sl none true 0 [],.sl none true 0 []]⟩∧StO s.ob (192+256) N1 (fewS 25 h.ss) Sv∧StO s.ob N1 N2 (fewS 45 h.ks) Kv∧TsO s.ob N2 ub1 (mixT P' i) Tv') rfl rfl
   ⟨by simp,by simp [p1],by simp [p2],gS.frame (fun _ _ _=>by simp) (Nat.le_refl _) (Nat.le_refl _),gK.frame (fun _ _ _=>by simp) (Nat.le_refl _) (Nat.le_refl _),by rw [mixT_zero];exact gT.frame (fun _ _ _=>by simp) (Nat.le_refl _)⟩ ?_
  clear gS gK
  rintro i s1 hi ⟨h3,o1,o2,gS,gK,gX⟩ f
  have f1:s1.tm 1 = .ptr 1 0 0:=by rw [f.t 1 (by simp)];simp [g1]
  have f2:s1.tm 2 = .ptr 129 64 0:=by rw [f.t 2 (by simp)];simp [g2]
  have fd:s1.df=[]:=by rw [f.d];simp [gd]
  have fb:s1.fb=0:=by rw [f.b];simp [gb]
  have fr:s1.ro=0:=by rw [f.r];simp [gr]
  clear f
  have hXl:=gX.len
  rw [mixT_len] at hXl
  by_cases hlt:i<P'.length
  ·have hw:=wrapU hlt (by omega)
   have hl3:i<(mixT P' i).length:=by rw [mixT_len];exact hlt
   rcases gX.2 with ⟨he,_⟩ | ⟨hne,u,h1,h2,h4,rfl,h5⟩
   ·rw [he] at hl3;simp at hl3
   have hin:=gX.1 (P'[i]) (by rw [← mixT_at hlt];exact List.getElem_mem hl3)
   have hixT:idxSlV 3 (.osl (2 * u+1) u 0 (mixT P' i).length 3) (.int .i64 (i:Int))=some (.ptr (2 * u+1) u (i * 3)):=by simp [idxSlV,hl3]
   have hcell:((mixT P' i).flatMap txU)[i * 3+2]? = some (.osl (2 * (P'[i]).2+1) (P'[i]).2 0 (P'[i]).1.ops.length 4):=by
    rw [fld_at txU_len _ hl3 (by decide:2<3),mixT_at hlt]
    rfl
   have hset:=txU_set (P:=mixT P' i) (i:=i) hl3
   rw [← mixT_step hlt] at hset
   simp only [mixT_at hlt] at hset
   have hmn:=min_len (P'[i]).1.ops.length 6
   rw [show ((6:Nat):Int)=6 from rfl] at hmn
   have hsl:=fun L u=>slSl4_to (L:=L) (u:=u) (n:=(P'[i]).1.ops.length) (i:=min (P'[i]).1.ops.length 6) (Nat.min_le_left _ _)
   have hs6:(sixT (P'[i]).1).ops.length=min (P'[i]).1.ops.length 6:=by simp only [sixT,List.length_take,Nat.min_comm]
   rw [hs6] at hset
   have n1':¬ 2 * u=0:=by omega
   have n2':¬ 2 * u=128:=by omega
   have hlen:i * 3+2+1≤((mixT P' i).flatMap txU).length:=by rw [flatMap_len txU_len];omega
   simp [h3,f1,o1,objCells,hXl,hlt,hixT,h5,hcell,hmn,hsl,fr,n1',n2',hset]
   have hq:∀ q∈mixT P' (i+1),InO s1.ob N2 ub1 q∧q.2≠u:=by
    intro q hq
    rw [mixT_step hlt] at hq
    rcases mem_modify hq with hq | ⟨x,hx,rfl⟩
    ·exact ⟨gX.1 q hq,h4 q hq⟩
    ·have hx':=List.mem_of_getElem? hx
     exact ⟨(gX.1 x hx').six,h4 x hx'⟩
   have hll:(mixT P' (i+1)).length=(mixT P' i).length:=by rw [mixT_len,mixT_len]
   refine ⟨by have:=hlen;simp only [List.length_flatMap,txU_len] at this;exact this,hw,o2,gS.frame (fun y y1 y2=>?_) (Nat.le_refl _) (Nat.le_refl _),gK.frame (fun y y1 y2=>?_) (Nat.le_refl _) (Nat.le_refl _),fun q hqm=>?_,.inr ⟨?_,u,h1,h2,fun q hqm=>(hq q hqm).2,by rw [hll],by simp⟩⟩
   ·have w:¬ 2 * y=2 * u:=by omega
    simp [w]
   ·have w:¬ 2 * y=2 * u:=by omega
    simp [w]
   ·obtain ⟨a,b⟩:=hq q hqm
    have w:¬ 2 * q.2=2 * u:=by omega
    exact a.frame (by simp [w]) (Nat.le_refl _)
   ·intro e
    rw [e] at hll
    simp at hll
    omega
  ·have:i=P'.length:=by omega
   subst this
   simp [h3,f1,o1,objCells,hXl,f2,o2,splice,fr,gS.leaf.1,gK.leaf.1,lT'.1]
   rw [← hPP]
   have hml:(mixT P' P'.length).isEmpty=(few8 h).tn:=by rw [hn8];exact isEmpty_len mixT_len
   refine kE1 (g:=few8 h) (l:=129) (u:=64) (x:=Sv) (y:=Kv) (z:=Tv') (by simp [fd]) (by simp [f2]) (by simp) ?_ ?_ ?_
   ·rw [e1,e2]
    refine StO.out (lo:=192+256) (hi:=N1) (gS.frame (fun y q1 q2=>?_) (Nat.le_refl _) (Nat.le_refl _)) (by simp [fr])
    have w:¬ 2 * y=128:=by omega
    simp [w]
   ·rw [e3,e4]
    refine StO.out (lo:=N1) (hi:=N2) (gK.frame (fun y q1 q2=>?_) (Nat.le_refl _) (Nat.le_refl _)) (by simp [fr])
    have w:¬ 2 * y=128:=by omega
    simp [w]
   ·have hl9:(few8 h).ts.length=(mixT P' P'.length).length:=by rw [ht8,mixT_len];simp
    rw [hl9,← hml,ht8,← mixT_end]
    refine TsO.out (lo:=N2) (hi:=ub1) (gX.frame (fun y q1 q2=>?_) (Nat.le_refl _)) (by simp [fr])
    have w:¬ 2 * y=128:=by omega
    simp [w]
 refine ⟨⟨lS,lK,lT⟩,?_⟩
 simp [hTl]
 have q1:∀ y,192≤y→¬ 2 * y=0:=fun y hy=>by omega
 by_cases h8:8<P.length
 ·have h8':(8:Int)<(P.length:Int):=by omega
  simp [h8',objCells,splice]
  exact rest _ [] (.sl none true 0 []) (by simp) (by unfold few8;rw [if_pos (by rw [hPl];exact h8)];rfl) (by unfold few8;rw [if_pos (by rw [hPl];exact h8)];rfl) (by simp) (by simp) (by simp) (by simp) (by simp) (by simp <;> omega) (by simp) (by simp [b2])
   (gS.frame (fun y y1 y2=>by simp [q1 y (by omega)]) (Nat.le_refl _) (Nat.le_refl _)) (gK.frame (fun y y1 y2=>by simp [q1 y (by omega)]) (Nat.le_refl _) (Nat.le_refl _)) ⟨by simp,.inl ⟨rfl,rfl⟩⟩
 ·have h8':¬ (8:Int)<(P.length:Int):=by omega
  simp [h8']
  exact rest _ P Tv (by omega) (by unfold few8;rw [if_neg (by rw [hPl];exact h8),hP];rfl) (by unfold few8;rw [if_neg (by rw [hPl];exact h8)];show ((h.ts.take 45).map fewT).isEmpty=_;rw [← hP];exact isEmpty_len (by simp)) (by simp) (by simp) (by simp) (by simp) (by simp) (by simp <;> omega) (by simp) (by simp [b2])
   (gS.frame (fun y y1 y2=>by simp [q1 y (by omega)]) (Nat.le_refl _) (Nat.le_refl _)) (gK.frame (fun y y1 y2=>by simp [q1 y (by omega)]) (Nat.le_refl _) (Nat.le_refl _)) (gT.frame (fun y y1 y2=>by simp [q1 y (by omega)]) (Nat.le_refl _))
theorem small8 (h:Hist'):Small (few8 h):=by
 have hs:=small_few h
 unfold few8
 split
 ·exact ⟨hs.ss,hs.sl,hs.ks,hs.kl,by simp,by simp⟩
 ·refine ⟨hs.ss,hs.sl,hs.ks,hs.kl,by simpa using hs.ts,fun t ht=>?_⟩
  simp only [List.mem_map] at ht
  obtain ⟨t',ht',rfl⟩:=ht
  have:=hs.os t' ht'
  simp only [sixT,List.length_take]
  omega
theorem err_is0 {g:Hist'} {lvl:Int} {M O:List Int} (h:errB g lvl M O=0):holdsE g lvl M O=holdsB g lvl M O:=by
 obtain ⟨_,h1,h3,hm,ho⟩:=err0 h
 simp [holdsE,h,holds_eq h1 h3 hm ho]
theorem err_lvl {g:Hist'} {M O:List Int}:errB g 2 M O=errB g 1 M O∧errB g 3 M O=errB g 1 M O:=by simp [errB]
theorem h32 {g:Hist'} {M O:List Int} (h:holdsE g 3 M O=true):holdsE g 2 M O=true:=by
 have h0:errB g 3 M O=0:=by
  unfold holdsE at h
  simp only [Bool.and_eq_true,beq_iff_eq] at h
  exact h.1
 obtain ⟨_,_,_,hm,ho⟩:=err0 h0
 rw [err_is0 h0] at h
 have h0':errB g 2 M O=0:=by rw [err_lvl.1,← err_lvl.2];exact h0
 rw [err_is0 h0']
 exact ser_cc hm ho h
theorem h21 {g:Hist'} {M O:List Int} (h:holdsE g 2 M O=true):holdsE g 1 M O=true:=by
 have h0:errB g 2 M O=0:=by
  unfold holdsE at h
  simp only [Bool.and_eq_true,beq_iff_eq] at h
  exact h.1
 obtain ⟨_,_,_,hm,ho⟩:=err0 h0
 rw [err_is0 h0] at h
 have h0':errB g 1 M O=0:=by rw [← err_lvl.1];exact h0
 rw [err_is0 h0']
 exact cc_rc hm h
theorem small20:Small H20:=⟨by decide,by decide,by decide,by decide,by decide,by decide⟩
theorem c20a:certB H20 3 [-1] [0]=0:=by decide +kernel
theorem c20b:certB H20 3 [-1] []=14:=by decide +kernel
theorem c20c:certB H20 1 [-1] [0]=0:=by decide +kernel
theorem ev20:Ev E1 20 [] (.bool true):=by
 have e1:=ev18 small20 3 (mn:=false) (on:=false) (M:=[-1]) (O:=[0]) (by decide) (by decide) (by simp)
 have e2:=ev18 small20 3 (mn:=false) (on:=true) (M:=[-1]) (O:=[]) (by decide) (by decide) (by simp)
 have e3:=ev19 small20 1 (mn:=false) (on:=false) (M:=[-1]) (O:=[0]) (by decide) (by decide) (by simp)
 rw [c20a] at e1
 rw [c20b] at e2
 rw [c20c] at e3
 have e57:Ev E 57 [.str txt20] _:=⟨100,k20⟩
 refine Ev_wpK (af:=F20) rfl ?_
 simp [F20]
 refine kS_ev (Ev.e1 e57) rfl rfl rfl ?_
 simp [retA,toksRes,V.toks,V.tok,inRes,inTop,inLeaf,Nat.blt,objCells,splice]
 refine kS_buildSl (cs:=[.int .i64 (-1)]) (by simp [splice]) rfl rfl ?_
 try simp
 refine kS_buildSl (cs:=[.int .i64 0]) (by simp [splice]) rfl rfl ?_
 simp [splice]
 refine kS_ev e1 (by simp [slOf,intC,histC,H20,strC,txnC,opC,V.strip,V.strip1]) rfl (by simp [slOf,intC,histC]) ?_
 simp [objCells]
 refine kS_buildSl (cs:=[.int .i64 (-1)]) (by simp [splice]) rfl rfl ?_
 simp [splice]
 refine kS_ev e2 (by simp [slOf,intC,histC,H20,strC,txnC,opC,V.strip,V.strip1]) rfl (by simp [slOf,intC,histC]) ?_
 simp [objCells]
 refine kS_buildSl (cs:=[.int .i64 (-1)]) (by simp [splice]) rfl rfl ?_
 try simp
 refine kS_buildSl (cs:=[.int .i64 0]) (by simp [splice]) rfl rfl ?_
 simp [splice]
 refine kS_ev e3 (by simp [slOf,intC,histC,H20,strC,txnC,opC,V.strip,V.strip1]) rfl (by simp [slOf,intC,histC]) ?_
 simp
 exact endV_1 rfl (by simp) rfl
end Go.Pv.T
namespace Go.Pv.T
open Go Go.Pv
end Go.Pv.T
namespace Go.Pv.T
open Go Go.Pv
theorem cert0 {g:Hist'} {lvl:Int} {M O:List Int} (h:certB g lvl M O=0):wholeH g=true∧mapR g M=true∧orderB g O=true∧holdsB g lvl M O=true∧1≤lvl∧lvl≤3:=by
 unfold certB at h
 cases h1:wholeH g
 ·simp [h1] at h
 ·by_cases h2:lvl<1∨3<lvl
  ·simp [h1,h2] at h
  ·cases h3:mapR g M
   ·simp [h1,h2,h3] at h
   ·cases h4:orderB g O
    ·simp [h1,h2,h3,h4] at h
    ·cases h5:holdsB g lvl M O
     ·simp [h1,h2,h3,h4,h5] at h
     ·exact ⟨rfl,rfl,rfl,rfl,by omega,by omega⟩
theorem cert_of {g:Hist'} {lvl:Int} {M O:List Int} (h1:wholeH g=true) (h2:mapR g M=true) (h3:orderB g O=true) (h4:1≤lvl) (h5:lvl≤3):(certB g lvl M O == 0)=holdsB g lvl M O:=by
 unfold certB
 have:¬ (lvl<1∨3<lvl):=by omega
 cases holdsB g lvl M O <;> simp [h1,h2,h3,this]
theorem holdsE_of {g:Hist'} {lvl:Int} {M O:List Int} (h1:wholeH g=true) (h2:mapR g M=true) (h3:orderB g O=true) (h4:1≤lvl) (h5:lvl≤3):holdsE g lvl M O=holdsB g lvl M O:=by
 have h0:errB g lvl M O=0:=by simp [errB,h1,h2,h3];omega
 unfold holdsE
 rw [h0,holds_eq h4 h5 h2 h3]
 rfl
theorem c32 {g:Hist'} {M O:List Int} (h:(certB g 3 M O == 0)=true):(certB g 2 M O == 0)=true:=by
 obtain ⟨q1,q2,q3,q4,_⟩:=cert0 (by simpa using h)
 rw [cert_of q1 q2 q3 (by decide) (by decide),← holdsE_of q1 q2 q3 (by decide) (by decide)]
 exact h32 (by rw [holdsE_of q1 q2 q3 (by decide) (by decide)];exact q4)
theorem c21 {g:Hist'} {M O:List Int} (h:(certB g 2 M O == 0)=true):(certB g 1 M O == 0)=true:=by
 obtain ⟨q1,q2,q3,q4,_⟩:=cert0 (by simpa using h)
 rw [cert_of q1 q2 q3 (by decide) (by decide),← holdsE_of q1 q2 q3 (by decide) (by decide)]
 exact h21 (by rw [holdsE_of q1 q2 q3 (by decide) (by decide)];exact q4)
theorem ev5 (h:Hist') {mn on:Bool} (M O:List Int):Ev E1 5 [.agg (histC h),.agg [slOf mn intC M,slOf on intC O]] (.bool true):=by
 obtain ⟨r,ev,hr⟩:=ev15 h
 have hs:=small8 h
 generalize few8 h=g at *
 obtain ⟨c,ec,hc⟩:=ev16 (a:=mn) (b:=on) M O
 have l1:=few60_len M
 have l2:=few60_len O
 generalize few60 M=M' at *
 generalize few60 O=O' at *
 have e3:=ev19 hs 3 (mn:=false) (on:=false) (M:=M') (O:=O') (by omega) (by omega) (by simp)
 have e2:=ev19 hs 2 (mn:=false) (on:=false) (M:=M') (O:=O') (by omega) (by omega) (by simp)
 have e1:=ev19 hs 1 (mn:=false) (on:=false) (M:=M') (O:=O') (by omega) (by omega) (by simp)
 have i1:=c32 (g:=g) (M:=M') (O:=O')
 have i2:=c21 (g:=g) (M:=M') (O:=O')
 generalize (certB g 3 M' O' == 0)=x3 at *
 generalize (certB g 2 M' O' == 0)=x2 at *
 generalize (certB g 1 M' O' == 0)=x1 at *
 refine Ev_wpK (af:=F5) rfl ?_
 simp [F5,histC]
 refine kS_ev ev20 (by simp) rfl (by simp) ?_
 simp [objCells]
 refine kD_ev (Ev.e1 ev) (by simp [histC,slOf]) rfl (by simp [histC,slOf]) ?_
 refine retHist hr fun a1 b1 c1 add1=>?_
 simp [objCells,slOf]
 refine kD_ev (Ev.e1 ec) (by simp [slOf]) rfl (by simp [slOf]) ?_
 refine retCert hc fun a2 b2 add2=>?_
 simp [objCells,splice]
 refine kD_ev e3 (by simp [histC,slOf]) rfl (by simp [histC,slOf]) ?_
 simp [objCells]
 refine kD_ev e2 (by simp [histC,slOf]) rfl (by simp [histC,slOf]) ?_
 simp [objCells]
 refine kD_ev e1 (by simp [histC,slOf]) rfl (by simp [histC,slOf]) ?_
 simp
 cases x3
 ·cases x2
  ·simp
   exact endV_1 rfl (by simp) rfl
  ·rw [i2 rfl]
   simp
   exact endV_1 rfl (by simp) rfl
 ·rw [i1 rfl,i2 (i1 rfl)]
  simp
  exact endV_1 rfl (by simp) rfl
end Go.Pv.T
namespace Go.Pv.T
open Go Go.Pv Go.Proofs Go.Shelf
def renS:Ren where
 f:=fun x=>match x with
  | 189=>69
  | 125=>118
  | 257=>117
  | 128=>187
  | 129=>188
  | 294=>178
  | 295=>179
  | 296=>180
  | 297=>181
  | 298=>182
  | 299=>183
  | 216=>184
  | 300=>185
  | 301=>186
  | 328=>238
  | 329=>239
  | 330=>240
  | 331=>241
  | 332=>242
  | 215=>243
  | 343=>275
  | n=>n
 t:=fun x=>match x with
  | 28=>26
  | 3=>3
  | 46=>160
  | 0=>0
  | 51=>236
  | 53=>165
  | 4=>4
  | 183=>230
  | 182=>229
  | 131=>157
  | 5=>5
  | 9=>9
  | 218=>275
  | 222=>279
  | 228=>307
  | 229=>304
  | n=>n
 g:=fun x=>x
theorem laysS:Lays.n189 Tryz.prog renS where
 mixed:=by kernel_rfl
 f125:=Tryz.func118.trans (congrArg some (by kernel_rfl))
 f128:=Tryz.func187.trans (congrArg some (by kernel_rfl))
 f129:=Tryz.func188.trans (congrArg some (by kernel_rfl))
 f189:=Tryz.func69.trans (congrArg some (by kernel_rfl))
 f215:=Tryz.func243.trans (congrArg some (by kernel_rfl))
 f216:=Tryz.func184.trans (congrArg some (by kernel_rfl))
 f257:=Tryz.func117.trans (congrArg some (by kernel_rfl))
 f294:=Tryz.func178.trans (congrArg some (by kernel_rfl))
 f295:=Tryz.func179.trans (congrArg some (by kernel_rfl))
 f296:=Tryz.func180.trans (congrArg some (by kernel_rfl))
 f297:=Tryz.func181.trans (congrArg some (by kernel_rfl))
 f298:=Tryz.func182.trans (congrArg some (by kernel_rfl))
 f299:=Tryz.func183.trans (congrArg some (by kernel_rfl))
 f300:=Tryz.func185.trans (congrArg some (by kernel_rfl))
 f301:=Tryz.func186.trans (congrArg some (by kernel_rfl))
 f328:=Tryz.func238.trans (congrArg some (by kernel_rfl))
 f329:=Tryz.func239.trans (congrArg some (by kernel_rfl))
 f330:=Tryz.func240.trans (congrArg some (by kernel_rfl))
 f331:=Tryz.func241.trans (congrArg some (by kernel_rfl))
 f332:=Tryz.func242.trans (congrArg some (by kernel_rfl))
 f343:=Tryz.func275.trans (congrArg some (by kernel_rfl))
 t0:=Tryz.underlying0
 a0:=Tryz.isAgg0
 z0:=Tryz.sizeOf0
 v0:=Tryz.zeroValue0
 t3:=Tryz.underlying3
 a3:=Tryz.isAgg3
 z3:=Tryz.sizeOf3
 v3:=Tryz.zeroValue3
 t4:=Tryz.underlying4
 a4:=Tryz.isAgg4
 z4:=Tryz.sizeOf4
 v4:=Tryz.zeroValue4
 t5:=Tryz.underlying5
 a5:=Tryz.isAgg5
 z5:=Tryz.sizeOf5
 v5:=Tryz.zeroValue5
 t9:=Tryz.underlying9
 a9:=Tryz.isAgg9
 z9:=Tryz.sizeOf9
 v9:=Tryz.zeroValue9
 t28:=Tryz.underlying26
 a28:=Tryz.isAgg26
 z28:=Tryz.sizeOf26
 v28:=Tryz.zeroValue26
 t46:=Tryz.underlying160
 a46:=Tryz.isAgg160
 z46:=Tryz.sizeOf160
 v46:=Tryz.zeroValue160
 t51:=Tryz.underlying236
 a51:=Tryz.isAgg236
 z51:=Tryz.sizeOf236
 v51:=Tryz.zeroValue236
 t53:=Tryz.underlying165
 a53:=Tryz.isAgg165
 z53:=Tryz.sizeOf165
 v53:=Tryz.zeroValue165
 t131:=Tryz.underlying157
 a131:=Tryz.isAgg157
 z131:=Tryz.sizeOf157
 v131:=Tryz.zeroValue157
 t182:=Tryz.underlying229
 a182:=Tryz.isAgg229
 z182:=Tryz.sizeOf229
 v182:=Tryz.zeroValue229
 t183:=Tryz.underlying230
 a183:=Tryz.isAgg230
 z183:=Tryz.sizeOf230
 v183:=Tryz.zeroValue230
 t218:=Tryz.underlying275
 a218:=Tryz.isAgg275
 z218:=Tryz.sizeOf275
 v218:=Tryz.zeroValue275
 t222:=Tryz.underlying279
 a222:=Tryz.isAgg279
 z222:=Tryz.sizeOf279
 v222:=Tryz.zeroValue279
 t228:=Tryz.underlying307
 a228:=Tryz.isAgg307
 z228:=Tryz.sizeOf307
 v228:=Tryz.zeroValue307
 t229:=Tryz.underlying304
 a229:=Tryz.isAgg304
 z229:=Tryz.sizeOf304
 v229:=Tryz.zeroValue304
theorem sortLaw:SortLaw Tryz.prog 69:=by
 refine ⟨⟨Tryz.f69,_,Tryz.func69,rfl,by kernel_rfl⟩,fun p cap w=>?_,fun blk off cap zs w h1 h2 h3=>?_⟩
 ·exact Any.slices_Sort_int_none laysS p cap w
 ·exact Any.slices_Sort_int laysS blk off cap zs w h1 h2 h3
end Go.Pv.T
namespace Go.Pv.T
open Go Go.Pv Go.Proofs
theorem afOk_of {P:Program} {m r:Bool} {f:FuncId} {fn:Func} {af:AF} (h1:P.funcs[f]? = some fn) (h2:compF P m r fn=some af) (h3:(fn.name == "runtime.NumGoroutine")=false) (h4:af.body.dstOk fn.ntmps=true):AfOk P r f af:=by
  unfold compF at h2
  cases hb:fn.body with
  | none=>rw [hb] at h2;cases h2
  | some c =>
    rw [hb,Option.bind_some] at h2
    cases hc:comp P m r c with
    | none=>rw [hc] at h2;cases h2
    | some b =>
      rw [hc,Option.bind_some] at h2
      cases hr:fn.results.toList.mapM (compRes P) with
      | none=>rw [hr] at h2;cases h2
      | some res =>
        rw [hr] at h2
        cases h2
        exact ⟨m,fn,c,h1,hb,hc,hr,h3,h4⟩
theorem okc233:AfOk Tryz.prog false 233 F233:=afOk_of (m:=false) Tryz.func233 (by kernel_rfl) (by kernel_rfl) (by kernel_rfl)
theorem okc251:AfOk Tryz.prog false 251 F251:=afOk_of (m:=false) Tryz.func251 (by kernel_rfl) (by kernel_rfl) (by kernel_rfl)
theorem okc252:AfOk Tryz.prog false 252 F252:=afOk_of (m:=false) Tryz.func252 (by kernel_rfl) (by kernel_rfl) (by kernel_rfl)
theorem okc253:AfOk Tryz.prog false 253 F253:=afOk_of (m:=false) Tryz.func253 (by kernel_rfl) (by kernel_rfl) (by kernel_rfl)
theorem okc254:AfOk Tryz.prog false 254 F254:=afOk_of (m:=false) Tryz.func254 (by kernel_rfl) (by kernel_rfl) (by kernel_rfl)
theorem okc258:AfOk Tryz.prog false 258 F258:=afOk_of (m:=false) Tryz.func258 (by kernel_rfl) (by kernel_rfl) (by kernel_rfl)
theorem okc259:AfOk Tryz.prog false 259 F259:=afOk_of (m:=false) Tryz.func259 (by kernel_rfl) (by kernel_rfl) (by kernel_rfl)
theorem okc261:AfOk Tryz.prog false 261 F261:=afOk_of (m:=false) Tryz.func261 (by kernel_rfl) (by kernel_rfl) (by kernel_rfl)
theorem okc262:AfOk Tryz.prog false 262 F262:=afOk_of (m:=false) Tryz.func262 (by kernel_rfl) (by kernel_rfl) (by kernel_rfl)
theorem okc263:AfOk Tryz.prog false 263 F263:=afOk_of (m:=false) Tryz.func263 (by kernel_rfl) (by kernel_rfl) (by kernel_rfl)
theorem okc264:AfOk Tryz.prog false 264 F264:=afOk_of (m:=false) Tryz.func264 (by kernel_rfl) (by kernel_rfl) (by kernel_rfl)
theorem okc265:AfOk Tryz.prog false 265 F265:=afOk_of (m:=false) Tryz.func265 (by kernel_rfl) (by kernel_rfl) (by kernel_rfl)
theorem okc266:AfOk Tryz.prog false 266 F266:=afOk_of (m:=false) Tryz.func266 (by kernel_rfl) (by kernel_rfl) (by kernel_rfl)
theorem okc267:AfOk Tryz.prog false 267 F267:=afOk_of (m:=false) Tryz.func267 (by kernel_rfl) (by kernel_rfl) (by kernel_rfl)
theorem okc268:AfOk Tryz.prog false 268 F268:=afOk_of (m:=false) Tryz.func268 (by kernel_rfl) (by kernel_rfl) (by kernel_rfl)
theorem okc269:AfOk Tryz.prog false 269 F269:=afOk_of (m:=false) Tryz.func269 (by kernel_rfl) (by kernel_rfl) (by kernel_rfl)
theorem okc280:AfOk Tryz.prog false 280 F280:=afOk_of (m:=false) Tryz.func280 (by kernel_rfl) (by kernel_rfl) (by kernel_rfl)
theorem okc281:AfOk Tryz.prog false 281 F281:=afOk_of (m:=false) Tryz.func281 (by kernel_rfl) (by kernel_rfl) (by kernel_rfl)
theorem okc284:AfOk Tryz.prog false 284 F284:=afOk_of (m:=false) Tryz.func284 (by kernel_rfl) (by kernel_rfl) (by kernel_rfl)
theorem okc285:AfOk Tryz.prog false 285 F285:=afOk_of (m:=false) Tryz.func285 (by kernel_rfl) (by kernel_rfl) (by kernel_rfl)
theorem okc286:AfOk Tryz.prog false 286 F286:=afOk_of (m:=false) Tryz.func286 (by kernel_rfl) (by kernel_rfl) (by kernel_rfl)
theorem okc288:AfOk Tryz.prog false 288 F288:=afOk_of (m:=false) Tryz.func288 (by kernel_rfl) (by kernel_rfl) (by kernel_rfl)
theorem okc289:AfOk Tryz.prog false 289 F289:=afOk_of (m:=false) Tryz.func289 (by kernel_rfl) (by kernel_rfl) (by kernel_rfl)
theorem okc293:AfOk Tryz.prog false 293 F293:=afOk_of (m:=false) Tryz.func293 (by kernel_rfl) (by kernel_rfl) (by kernel_rfl)
theorem okc300:AfOk Tryz.prog false 300 F300:=afOk_of (m:=false) Tryz.func300 (by kernel_rfl) (by kernel_rfl) (by kernel_rfl)
theorem okc304:AfOk Tryz.prog false 304 F304:=afOk_of (m:=false) Tryz.func304 (by kernel_rfl) (by kernel_rfl) (by kernel_rfl)
theorem okc307:AfOk Tryz.prog false 307 F307:=afOk_of (m:=false) Tryz.func307 (by kernel_rfl) (by kernel_rfl) (by kernel_rfl)
theorem okc320:AfOk Tryz.prog false 320 F320:=afOk_of (m:=false) Tryz.func320 (by kernel_rfl) (by kernel_rfl) (by kernel_rfl)
theorem okc5:AfOk Tryz.prog false 5 F5:=afOk_of (m:=false) Tryz.func5 (by kernel_rfl) (by kernel_rfl) (by kernel_rfl)
theorem okc15:AfOk Tryz.prog false 15 F15:=afOk_of (m:=true) Tryz.func15 (by kernel_rfl) (by kernel_rfl) (by kernel_rfl)
theorem okc16:AfOk Tryz.prog false 16 F16:=afOk_of (m:=false) Tryz.func16 (by kernel_rfl) (by kernel_rfl) (by kernel_rfl)
theorem okc18:AfOk Tryz.prog false 18 F18:=afOk_of (m:=true) Tryz.func18 (by kernel_rfl) (by kernel_rfl) (by kernel_rfl)
theorem okc19:AfOk Tryz.prog false 19 F19:=afOk_of (m:=false) Tryz.func19 (by kernel_rfl) (by kernel_rfl) (by kernel_rfl)
theorem okc20:AfOk Tryz.prog false 20 F20:=afOk_of (m:=false) Tryz.func20 (by kernel_rfl) (by kernel_rfl) (by kernel_rfl)
theorem okc25:AfOk Tryz.prog false 25 F25:=afOk_of (m:=false) Tryz.func25 (by kernel_rfl) (by kernel_rfl) (by kernel_rfl)
theorem okc52:AfOk Tryz.prog false 52 F52:=afOk_of (m:=false) Tryz.func52 (by kernel_rfl) (by kernel_rfl) (by kernel_rfl)
theorem okc53:AfOk Tryz.prog false 53 F53:=afOk_of (m:=false) Tryz.func53 (by kernel_rfl) (by kernel_rfl) (by kernel_rfl)
theorem okc54:AfOk Tryz.prog false 54 F54:=afOk_of (m:=false) Tryz.func54 (by kernel_rfl) (by kernel_rfl) (by kernel_rfl)
theorem okc57:AfOk Tryz.prog false 57 F57:=afOk_of (m:=false) Tryz.func57 (by kernel_rfl) (by kernel_rfl) (by kernel_rfl)
theorem okc70:AfOk Tryz.prog false 70 F70:=afOk_of (m:=false) Tryz.func70 (by kernel_rfl) (by kernel_rfl) (by kernel_rfl)
theorem okc71:AfOk Tryz.prog false 71 F71:=afOk_of (m:=false) Tryz.func71 (by kernel_rfl) (by kernel_rfl) (by kernel_rfl)
theorem okc86:AfOk Tryz.prog false 86 F86:=afOk_of (m:=false) Tryz.func86 (by kernel_rfl) (by kernel_rfl) (by kernel_rfl)
theorem okc103:AfOk Tryz.prog false 103 F103:=afOk_of (m:=false) Tryz.func103 (by kernel_rfl) (by kernel_rfl) (by kernel_rfl)
theorem okc104:AfOk Tryz.prog false 104 F104:=afOk_of (m:=false) Tryz.func104 (by kernel_rfl) (by kernel_rfl) (by kernel_rfl)
theorem okc105:AfOk Tryz.prog false 105 F105:=afOk_of (m:=false) Tryz.func105 (by kernel_rfl) (by kernel_rfl) (by kernel_rfl)
theorem okc106:AfOk Tryz.prog false 106 F106:=afOk_of (m:=true) Tryz.func106 (by kernel_rfl) (by kernel_rfl) (by kernel_rfl)
theorem okc108:AfOk Tryz.prog false 108 F108:=afOk_of (m:=false) Tryz.func108 (by kernel_rfl) (by kernel_rfl) (by kernel_rfl)
theorem okc109:AfOk Tryz.prog false 109 F109:=afOk_of (m:=true) Tryz.func109 (by kernel_rfl) (by kernel_rfl) (by kernel_rfl)
theorem okc114:AfOk Tryz.prog false 114 F114:=afOk_of (m:=false) Tryz.func114 (by kernel_rfl) (by kernel_rfl) (by kernel_rfl)
theorem okc116:AfOk Tryz.prog false 116 F116:=afOk_of (m:=false) Tryz.func116 (by kernel_rfl) (by kernel_rfl) (by kernel_rfl)
theorem okc118:AfOk Tryz.prog false 118 F118:=afOk_of (m:=false) Tryz.func118 (by kernel_rfl) (by kernel_rfl) (by kernel_rfl)
theorem okc127:AfOk Tryz.prog false 127 F127:=afOk_of (m:=false) Tryz.func127 (by kernel_rfl) (by kernel_rfl) (by kernel_rfl)
theorem okc136:AfOk Tryz.prog false 136 F136:=afOk_of (m:=false) Tryz.func136 (by kernel_rfl) (by kernel_rfl) (by kernel_rfl)
theorem okc152:AfOk Tryz.prog false 152 F152:=afOk_of (m:=false) Tryz.func152 (by kernel_rfl) (by kernel_rfl) (by kernel_rfl)
theorem okc155:AfOk Tryz.prog false 155 F155:=afOk_of (m:=false) Tryz.func155 (by kernel_rfl) (by kernel_rfl) (by kernel_rfl)
theorem okc157:AfOk Tryz.prog false 157 F157:=afOk_of (m:=false) Tryz.func157 (by kernel_rfl) (by kernel_rfl) (by kernel_rfl)
theorem okc158:AfOk Tryz.prog false 158 F158:=afOk_of (m:=false) Tryz.func158 (by kernel_rfl) (by kernel_rfl) (by kernel_rfl)
theorem okc159:AfOk Tryz.prog false 159 F159:=afOk_of (m:=false) Tryz.func159 (by kernel_rfl) (by kernel_rfl) (by kernel_rfl)
theorem okc160:AfOk Tryz.prog false 160 F160:=afOk_of (m:=false) Tryz.func160 (by kernel_rfl) (by kernel_rfl) (by kernel_rfl)
theorem okc161:AfOk Tryz.prog false 161 F161:=afOk_of (m:=false) Tryz.func161 (by kernel_rfl) (by kernel_rfl) (by kernel_rfl)
theorem okc166:AfOk Tryz.prog false 166 F166:=afOk_of (m:=false) Tryz.func166 (by kernel_rfl) (by kernel_rfl) (by kernel_rfl)
theorem okc167:AfOk Tryz.prog false 167 F167:=afOk_of (m:=false) Tryz.func167 (by kernel_rfl) (by kernel_rfl) (by kernel_rfl)
theorem okc170:AfOk Tryz.prog false 170 F170:=afOk_of (m:=false) Tryz.func170 (by kernel_rfl) (by kernel_rfl) (by kernel_rfl)
theorem okc176:AfOk Tryz.prog false 176 F176:=afOk_of (m:=false) Tryz.func176 (by kernel_rfl) (by kernel_rfl) (by kernel_rfl)
theorem okc177:AfOk Tryz.prog false 177 F177:=afOk_of (m:=false) Tryz.func177 (by kernel_rfl) (by kernel_rfl) (by kernel_rfl)
theorem okc188:AfOk Tryz.prog false 188 F188:=afOk_of (m:=false) Tryz.func188 (by kernel_rfl) (by kernel_rfl) (by kernel_rfl)
theorem okc212:AfOk Tryz.prog false 212 F212:=afOk_of (m:=false) Tryz.func212 (by kernel_rfl) (by kernel_rfl) (by kernel_rfl)
theorem okc214:AfOk Tryz.prog false 214 F214:=afOk_of (m:=false) Tryz.func214 (by kernel_rfl) (by kernel_rfl) (by kernel_rfl)
theorem okc216:AfOk Tryz.prog false 216 F216:=afOk_of (m:=false) Tryz.func216 (by kernel_rfl) (by kernel_rfl) (by kernel_rfl)
theorem okc217:AfOk Tryz.prog false 217 F217:=afOk_of (m:=true) Tryz.func217 (by kernel_rfl) (by kernel_rfl) (by kernel_rfl)
theorem okc223:AfOk Tryz.prog false 223 F223:=afOk_of (m:=false) Tryz.func223 (by kernel_rfl) (by kernel_rfl) (by kernel_rfl)
theorem okc224:AfOk Tryz.prog false 224 F224:=afOk_of (m:=false) Tryz.func224 (by kernel_rfl) (by kernel_rfl) (by kernel_rfl)
theorem okc225:AfOk Tryz.prog false 225 F225:=afOk_of (m:=false) Tryz.func225 (by kernel_rfl) (by kernel_rfl) (by kernel_rfl)
theorem okc226:AfOk Tryz.prog false 226 F226:=afOk_of (m:=false) Tryz.func226 (by kernel_rfl) (by kernel_rfl) (by kernel_rfl)
theorem okc227:AfOk Tryz.prog false 227 F227:=afOk_of (m:=false) Tryz.func227 (by kernel_rfl) (by kernel_rfl) (by kernel_rfl)
theorem okc228:AfOk Tryz.prog false 228 F228:=afOk_of (m:=false) Tryz.func228 (by kernel_rfl) (by kernel_rfl) (by kernel_rfl)
theorem okc229:AfOk Tryz.prog false 229 F229:=afOk_of (m:=false) Tryz.func229 (by kernel_rfl) (by kernel_rfl) (by kernel_rfl)
theorem okc230:AfOk Tryz.prog false 230 F230:=afOk_of (m:=false) Tryz.func230 (by kernel_rfl) (by kernel_rfl) (by kernel_rfl)
theorem fc_1Ok {f:FuncId} {af:AF} (h:fc_1 f=some af):AfOk Tryz.prog false f af:=by
  unfold fc_1 at h
  split at h
  · cases h;exact okc233
  · cases h;exact okc251
  · cases h;exact okc252
  · cases h;exact okc253
  · cases h;exact okc254
  · cases h;exact okc258
  · cases h;exact okc259
  · cases h;exact okc261
  · cases h;exact okc262
  · cases h;exact okc263
  · cases h;exact okc264
  · cases h;exact okc265
  · cases h;exact okc266
  · cases h;exact okc267
  · cases h;exact okc268
  · cases h;exact okc269
  · cases h;exact okc280
  · cases h;exact okc281
  · cases h;exact okc284
  · cases h;exact okc285
  · cases h;exact okc286
  · cases h;exact okc288
  · cases h;exact okc289
  · cases h;exact okc293
  · cases h;exact okc300
  · cases h;exact okc304
  · cases h;exact okc307
  · cases h;exact okc320
  · cases h
theorem fcOk {f:FuncId} {af:AF} (h:fc f=some af):AfOk Tryz.prog false f af:=by
  unfold fc at h
  split at h
  · cases h;exact okc5
  · cases h;exact okc15
  · cases h;exact okc16
  · cases h;exact okc18
  · cases h;exact okc19
  · cases h;exact okc20
  · cases h;exact okc25
  · cases h;exact okc52
  · cases h;exact okc53
  · cases h;exact okc54
  · cases h;exact okc57
  · cases h;exact okc70
  · cases h;exact okc71
  · cases h;exact okc86
  · cases h;exact okc103
  · cases h;exact okc104
  · cases h;exact okc105
  · cases h;exact okc106
  · cases h;exact okc108
  · cases h;exact okc109
  · cases h;exact okc114
  · cases h;exact okc116
  · cases h;exact okc118
  · cases h;exact okc127
  · cases h;exact okc136
  · cases h;exact okc152
  · cases h;exact okc155
  · cases h;exact okc157
  · cases h;exact okc158
  · cases h;exact okc159
  · cases h;exact okc160
  · cases h;exact okc161
  · cases h;exact okc166
  · cases h;exact okc167
  · cases h;exact okc170
  · cases h;exact okc176
  · cases h;exact okc177
  · cases h;exact okc188
  · cases h;exact okc212
  · cases h;exact okc214
  · cases h;exact okc216
  · cases h;exact okc217
  · cases h;exact okc223
  · cases h;exact okc224
  · cases h;exact okc225
  · cases h;exact okc226
  · cases h;exact okc227
  · cases h;exact okc228
  · cases h;exact okc229
  · cases h;exact okc230
  · exact fc_1Ok h
theorem oks51:AfOk Tryz.prog true 51 S51:=afOk_of (m:=true) Tryz.func51 (by kernel_rfl) (by kernel_rfl) (by kernel_rfl)
theorem oks55:AfOk Tryz.prog true 55 S55:=afOk_of (m:=true) Tryz.func55 (by kernel_rfl) (by kernel_rfl) (by kernel_rfl)
theorem oks68:AfOk Tryz.prog true 68 S68:=afOk_of (m:=true) Tryz.func68 (by kernel_rfl) (by kernel_rfl) (by kernel_rfl)
theorem oks70:AfOk Tryz.prog true 70 S70:=afOk_of (m:=true) Tryz.func70 (by kernel_rfl) (by kernel_rfl) (by kernel_rfl)
theorem oks153:AfOk Tryz.prog true 153 S153:=afOk_of (m:=true) Tryz.func153 (by kernel_rfl) (by kernel_rfl) (by kernel_rfl)
theorem oks154:AfOk Tryz.prog true 154 S154:=afOk_of (m:=true) Tryz.func154 (by kernel_rfl) (by kernel_rfl) (by kernel_rfl)
theorem oks156:AfOk Tryz.prog true 156 S156:=afOk_of (m:=true) Tryz.func156 (by kernel_rfl) (by kernel_rfl) (by kernel_rfl)
theorem oks163:AfOk Tryz.prog true 163 S163:=afOk_of (m:=true) Tryz.func163 (by kernel_rfl) (by kernel_rfl) (by kernel_rfl)
theorem oks164:AfOk Tryz.prog true 164 S164:=afOk_of (m:=true) Tryz.func164 (by kernel_rfl) (by kernel_rfl) (by kernel_rfl)
theorem oks165:AfOk Tryz.prog true 165 S165:=afOk_of (m:=true) Tryz.func165 (by kernel_rfl) (by kernel_rfl) (by kernel_rfl)
theorem oks168:AfOk Tryz.prog true 168 S168:=afOk_of (m:=true) Tryz.func168 (by kernel_rfl) (by kernel_rfl) (by kernel_rfl)
theorem oks169:AfOk Tryz.prog true 169 S169:=afOk_of (m:=true) Tryz.func169 (by kernel_rfl) (by kernel_rfl) (by kernel_rfl)
theorem oks171:AfOk Tryz.prog true 171 S171:=afOk_of (m:=true) Tryz.func171 (by kernel_rfl) (by kernel_rfl) (by kernel_rfl)
theorem oks213:AfOk Tryz.prog true 213 S213:=afOk_of (m:=true) Tryz.func213 (by kernel_rfl) (by kernel_rfl) (by kernel_rfl)
theorem oks215:AfOk Tryz.prog true 215 S215:=afOk_of (m:=true) Tryz.func215 (by kernel_rfl) (by kernel_rfl) (by kernel_rfl)
theorem oks219:AfOk Tryz.prog true 219 S219:=afOk_of (m:=true) Tryz.func219 (by kernel_rfl) (by kernel_rfl) (by kernel_rfl)
theorem oks220:AfOk Tryz.prog true 220 S220:=afOk_of (m:=true) Tryz.func220 (by kernel_rfl) (by kernel_rfl) (by kernel_rfl)
theorem oks221:AfOk Tryz.prog true 221 S221:=afOk_of (m:=true) Tryz.func221 (by kernel_rfl) (by kernel_rfl) (by kernel_rfl)
theorem oks222:AfOk Tryz.prog true 222 S222:=afOk_of (m:=true) Tryz.func222 (by kernel_rfl) (by kernel_rfl) (by kernel_rfl)
theorem oks231:AfOk Tryz.prog true 231 S231:=afOk_of (m:=true) Tryz.func231 (by kernel_rfl) (by kernel_rfl) (by kernel_rfl)
theorem oks232:AfOk Tryz.prog true 232 S232:=afOk_of (m:=true) Tryz.func232 (by kernel_rfl) (by kernel_rfl) (by kernel_rfl)
theorem oks237:AfOk Tryz.prog true 237 S237:=afOk_of (m:=true) Tryz.func237 (by kernel_rfl) (by kernel_rfl) (by kernel_rfl)
theorem oks255:AfOk Tryz.prog true 255 S255:=afOk_of (m:=true) Tryz.func255 (by kernel_rfl) (by kernel_rfl) (by kernel_rfl)
theorem oks256:AfOk Tryz.prog true 256 S256:=afOk_of (m:=true) Tryz.func256 (by kernel_rfl) (by kernel_rfl) (by kernel_rfl)
theorem oks257:AfOk Tryz.prog true 257 S257:=afOk_of (m:=true) Tryz.func257 (by kernel_rfl) (by kernel_rfl) (by kernel_rfl)
theorem oks270:AfOk Tryz.prog true 270 S270:=afOk_of (m:=true) Tryz.func270 (by kernel_rfl) (by kernel_rfl) (by kernel_rfl)
theorem oks271:AfOk Tryz.prog true 271 S271:=afOk_of (m:=true) Tryz.func271 (by kernel_rfl) (by kernel_rfl) (by kernel_rfl)
theorem oks272:AfOk Tryz.prog true 272 S272:=afOk_of (m:=true) Tryz.func272 (by kernel_rfl) (by kernel_rfl) (by kernel_rfl)
theorem oks274:AfOk Tryz.prog true 274 S274:=afOk_of (m:=true) Tryz.func274 (by kernel_rfl) (by kernel_rfl) (by kernel_rfl)
theorem oks282:AfOk Tryz.prog true 282 S282:=afOk_of (m:=true) Tryz.func282 (by kernel_rfl) (by kernel_rfl) (by kernel_rfl)
theorem oks291:AfOk Tryz.prog true 291 S291:=afOk_of (m:=true) Tryz.func291 (by kernel_rfl) (by kernel_rfl) (by kernel_rfl)
theorem oks292:AfOk Tryz.prog true 292 S292:=afOk_of (m:=true) Tryz.func292 (by kernel_rfl) (by kernel_rfl) (by kernel_rfl)
theorem oks294:AfOk Tryz.prog true 294 S294:=afOk_of (m:=true) Tryz.func294 (by kernel_rfl) (by kernel_rfl) (by kernel_rfl)
theorem oks295:AfOk Tryz.prog true 295 S295:=afOk_of (m:=true) Tryz.func295 (by kernel_rfl) (by kernel_rfl) (by kernel_rfl)
theorem oks296:AfOk Tryz.prog true 296 S296:=afOk_of (m:=true) Tryz.func296 (by kernel_rfl) (by kernel_rfl) (by kernel_rfl)
theorem oks303:AfOk Tryz.prog true 303 S303:=afOk_of (m:=true) Tryz.func303 (by kernel_rfl) (by kernel_rfl) (by kernel_rfl)
theorem oks305:AfOk Tryz.prog true 305 S305:=afOk_of (m:=true) Tryz.func305 (by kernel_rfl) (by kernel_rfl) (by kernel_rfl)
theorem oks312:AfOk Tryz.prog true 312 S312:=afOk_of (m:=true) Tryz.func312 (by kernel_rfl) (by kernel_rfl) (by kernel_rfl)
theorem fsOk {f:FuncId} {af:AF} (h:fs f=some af):AfOk Tryz.prog true f af:=by
  unfold fs at h
  split at h
  · cases h;exact oks51
  · cases h;exact oks55
  · cases h;exact oks68
  · cases h;exact oks70
  · cases h;exact oks153
  · cases h;exact oks154
  · cases h;exact oks156
  · cases h;exact oks163
  · cases h;exact oks164
  · cases h;exact oks165
  · cases h;exact oks168
  · cases h;exact oks169
  · cases h;exact oks171
  · cases h;exact oks213
  · cases h;exact oks215
  · cases h;exact oks219
  · cases h;exact oks220
  · cases h;exact oks221
  · cases h;exact oks222
  · cases h;exact oks231
  · cases h;exact oks232
  · cases h;exact oks237
  · cases h;exact oks255
  · cases h;exact oks256
  · cases h;exact oks257
  · cases h;exact oks270
  · cases h;exact oks271
  · cases h;exact oks272
  · cases h;exact oks274
  · cases h;exact oks282
  · cases h;exact oks291
  · cases h;exact oks292
  · cases h;exact oks294
  · cases h;exact oks295
  · cases h;exact oks296
  · cases h;exact oks303
  · cases h;exact oks305
  · cases h;exact oks312
  · cases h
theorem envOk:EnvOk Tryz.prog E:=⟨fun _ _ h=>fcOk h,fun _ _ h=>fsOk h,fun f h=>by
  have e:f=69:=by simpa [E,srl] using h
  subst e;exact sortLaw⟩
theorem oks56:AfOk Tryz.prog true 56 S56:=afOk_of (m:=true) Tryz.func56 (by kernel_rfl) (by kernel_rfl) (by kernel_rfl)
theorem oks107:AfOk Tryz.prog true 107 S107:=afOk_of (m:=true) Tryz.func107 (by kernel_rfl) (by kernel_rfl) (by kernel_rfl)
theorem oks162:AfOk Tryz.prog true 162 S162:=afOk_of (m:=true) Tryz.func162 (by kernel_rfl) (by kernel_rfl) (by kernel_rfl)
theorem oks218:AfOk Tryz.prog true 218 S218:=afOk_of (m:=true) Tryz.func218 (by kernel_rfl) (by kernel_rfl) (by kernel_rfl)
theorem fs1Ok {f:FuncId} {af:AF} (h:fs1 f=some af):AfOk Tryz.prog true f af:=by
  unfold fs1 at h
  split at h
  · cases h;exact oks56
  · cases h;exact oks107
  · cases h;exact oks162
  · cases h;exact oks218
  · exact fsOk h
theorem envOk1:EnvOk Tryz.prog E1:=⟨fun _ _ h=>fcOk h,fun _ _ h=>fs1Ok h,fun f h=>by
  have e:f=69:=by simpa [E1,E,srl] using h
  subst e;exact sortLaw⟩
end Go.Pv.T
namespace Go.Pv.T
open Go Go.Pv Go.Proofs Go.ChangeShapes Go.WideShapes Go.ChangeAt Go.RowKit Go.Proofs.YtphecmnehkdihaaGreatDoor
theorem own:ownKnob Tryz.prog.godebug=none:=by kernel_rfl
theorem laidOut:laidOutB Tryz.prog=true:=by kernel_rfl
theorem mixed:Tryz.prog.follows .mixedOrders=true:=by kernel_rfl
def laidL:List (String × DataW Unit):=[("unicode/utf8.acceptRanges",Rows.laid_unicode_utf8_acceptRanges),("deemster/event.words",Rows.laid_deemster_event_words),("unicode/utf8.first",Rows.laid_unicode_utf8_first)]
def litVal:V→Value
  | .int k n=>.int k n
  | .str s=>.string ⟨s.toArray⟩
  | _=>.nilFunc
def putCells (h:Array Obj) (g:Nat) (cs:Array Value):Array Obj:=h.modify g fun
    | .cells _ t frozen=>.cells cs t frozen
    | o=>o
def acceptCells:Array Value:=#[.int .u8 128,.int .u8 191,.int .u8 160,.int .u8 191,.int .u8 128,.int .u8 159,.int .u8 144,.int .u8 191,.int .u8 128,.int .u8 143,.int .u8 0,.int .u8 0,.int .u8 0,.int .u8 0,.int .u8 0,.int .u8 0,.int .u8 0,.int .u8 0,.int .u8 0,.int .u8 0,.int .u8 0,.int .u8 0,.int .u8 0,.int .u8 0,.int .u8 0,.int .u8 0,.int .u8 0,.int .u8 0,.int .u8 0,.int .u8 0,.int .u8 0,.int .u8 0]
noncomputable def laidWorld (os:Os):World :=
  let w0:=World.holding Tryz.prog os ⟨#[],#[],[]⟩
  { w0 with heap:=putCells (putCells (putCells w0.heap 1 (words.map litVal).toArray) 2 (utf8first.map litVal).toArray) 3 acceptCells }
theorem door_met (os:Os) (args:Array Value):laidMetH Tryz.prog laidL ((laidWorld os).forCall (fun _ _=>0) ⟨#[],args,[]⟩).memory:=by
  rw [MakeChecks.laidMetH_plain _ _ _ (by kernel_rfl)]
  exact laidMet_of_run' 8 (by kernel_rfl) (by kernel_rfl)
theorem gWords:Tryz.prog.globalNamed "deemster/event.words" = some 1:=by kernel_rfl
theorem gFirst:Tryz.prog.globalNamed "unicode/utf8.first" = some 2:=by kernel_rfl
theorem tWords:(Tryz.prog.globals[1]?).map (·.type)=some 300:=by kernel_rfl
theorem tFirst:(Tryz.prog.globals[2]?).map (·.type)=some 319:=by kernel_rfl
def cellsI (W:World):IMap:=fun b o=>W.cell? ⟨b,o,none⟩
theorem cellsI_ok (W:World):ImmOk (cellsI W) W:=fun _ _ _ h=>h
def litV:DataW Unit→V
  | .lit (.int k n)=>.int k n
  | .lit (.string s)=>.str s
  | _=>.undef
theorem arr_rep {W:World} {t e:TypeId} {n fuel:Nat} {cs:List Value} {ds:List (DataW Unit)} {p:List MemPlace} (ht:Tryz.prog.underlying t=some (.array n e)) (hc:Tryz.prog.cellsOf e=1)
    (he:Tryz.prog.underlying e=some .string∨∃ k,Tryz.prog.underlying e=some (.int k)) (h:DataW.trod (fun _=>()) Tryz.prog W 0 (fun _=>true) false fuel t cs=some (.agg ds,p)) (I:IMap) :
    ∀ (j:Nat) (d:DataW Unit),ds[j]? = some d→∃ x,cs[j]? = some x∧RepP I x (litV d):=by
  obtain ⟨xs,m,rfl,hx,hlen,hn,hel⟩:=DataW.trod_array ht h
  intro j d hd
  simp only [Prod.mk.injEq,DataW.agg.injEq] at hx
  rw [hx.1,List.getElem?_map] at hd
  cases hy:xs[j]? with
  | none=>simp [hy] at hd
  | some y =>
    rw [hy] at hd
    simp only [Option.map_some,Option.some.injEq] at hd
    have hj:j<n:=by rw [← hn];exact (List.getElem?_eq_some_iff.1 hy).1
    have:=hel j hj
    rw [hc,Nat.mul_one,hy] at this
    have one:∀ c,(cs.drop j).take 1=[c]→cs[j]? = some c:=by
      intro c hcc
      have:=congrArg List.head? hcc
      simpa [List.head?_take,List.head?_drop] using this
    rcases he with he | ⟨k,he⟩
    · obtain ⟨s,e1,e2,_⟩:=DataW.trod_string he this
      refine ⟨_,one _ e1,?_⟩
      rw [← hd,e2]
      exact RepP.str s
    · obtain ⟨s,e1,e2,_⟩:=DataW.trod_int he this
      refine ⟨_,one _ e1,?_⟩
      rw [← hd,e2]
      exact RepP.int k s
theorem gl_rep {W:World} {nm:String} {g:Nat} {cs:Array Value} {ds:List (DataW Unit)} (hg:Tryz.prog.globalNamed nm=some g) (hv:W.var? Tryz.prog nm=some cs) (hp:(ds.map litV).all V.pureLeaf=true)
    (h:∀ (j:Nat) (d:DataW Unit),ds[j]? = some d→∃ x,cs.toList[j]? = some x∧RepP (cellsI W) x (litV d)):RepP (cellsI W) (.pointer (some ⟨g,0,none⟩)) (.eptr (ds.map litV) 0):=by
  have hc:=World.var?_cell hg hv
  refine RepP.eptr g 0 0 (ds.map litV) (fun j=>(cs[j]?).getD .nilFunc) (fun j hj=>?_) (fun j v hj=>?_) (fun j v hj=>?_)
  · rw [List.length_map] at hj
    obtain ⟨x,hx,_⟩:=h j ds[j] (List.getElem?_eq_getElem hj)
    have hx':cs[j]? = some x:=by simpa using hx
    show W.cell? ⟨g,0+j,none⟩=_
    rw [Nat.zero_add,hc j,hx']
    rfl
  · exact List.all_eq_true.1 hp v (List.mem_of_getElem? hj)
  · rw [List.getElem?_map] at hj
    cases hd:ds[j]? with
    | none=>rw [hd] at hj;cases hj
    | some d =>
      rw [hd] at hj
      cases hj
      obtain ⟨x,hx,hr⟩:=h j d hd
      have hx':cs[j]? = some x:=by simpa using hx
      rw [hx']
      exact hr
def aggOf:DataW Unit→List (DataW Unit)
  | .agg l=>l
  | _=>[]
theorem words_eq:(aggOf Rows.laid_deemster_event_words).map litV=words:=by kernel_rfl
theorem first_eq:(aggOf Rows.laid_unicode_utf8_first).map litV=utf8first:=by kernel_rfl
theorem first_agg:Rows.laid_unicode_utf8_first = .agg (aggOf Rows.laid_unicode_utf8_first):=by kernel_rfl
theorem words_pure:((aggOf Rows.laid_deemster_event_words).map litV).all V.pureLeaf=true:=by kernel_rfl
theorem first_pure:((aggOf Rows.laid_unicode_utf8_first).map litV).all V.pureLeaf=true:=by kernel_rfl
theorem all_below {H:Type} {enc:TypeId × Value→H} {W W':World} (hb:Below W.heap.size W W'):∀ {ts:List TypeId} {vs:List Value} {ds:List (DataW H)} {ps:List MemPlace},
    (∀ t∈ts,Tryz.prog.readableRec t=true∧t<Tryz.prog.types.size)→(∀ x∈ps,x.block<W.heap.size) →
    DataW.TrodAll enc Tryz.prog W 0 (fun _=>true) true ts vs ds ps→DataW.TrodAll enc Tryz.prog W' 0 (fun b=>decide (b<W.heap.size)) true ts vs ds ps
  | [],[],[],_,_,_,h=>h
  | t::ts,v::vs,d::ds,_,ht,hlt,⟨p,q,h1,h2,e⟩=>by
    subst e
    exact ⟨p,q,Below.trod laidOut (ht t (List.mem_cons_self ..)).1 (ht t (List.mem_cons_self ..)).2 h1 hb (fun x hx=>hlt x (List.mem_append_left _ hx)),
      all_below hb (fun t' h'=>ht t' (List.mem_cons_of_mem _ h')) (fun x hx=>hlt x (List.mem_append_right _ hx)) h2,rfl⟩
  | [],_::_,_,_,_,_,h=>h.elim
  | [],[],_::_,_,_,_,h=>h.elim
  | _::_,[],_,_,_,_,h=>h.elim
  | _::_,_::_,[],_,_,_,h=>h.elim
theorem post_true {H:Type} {enc:TypeId × Value→H} {fn:Func} {s:ChangeSpec} {W W':World} {args:Array Value} {ds gs:List (DataW H)} {before:List MemPlace} (hW:DataW.Whole enc Tryz.prog fn.params.toList s.vars false W args.toList ds gs before)
    (hv:s.vars=[]) (hr:fn.resultTypes = #[4]) (hs:(s.fn H ds).results=[.lit (.bool true)]) (ha:(s.fn H ds).args=ds) (hvs:(s.fn H ds).vars=[])
    (ht:∀ t∈fn.params.toList,Tryz.prog.readableRec t=true∧t<Tryz.prog.types.size) (hg:W.grownBy W' none):s.post enc Tryz.prog fn false true false false W args (.bool true) W':=by
  have hb:Below W.heap.size W W':=(Below.refl _ W).grown hg (Nat.le_refl _) (fun _ h=>by cases h)
  have hW':=hW
  obtain ⟨p,q,hA,hV,rfl,_,_⟩:=hW
  rw [hv] at hV
  obtain ⟨rfl,rfl⟩:=trodVars_none hV
  have hlt:∀ x∈p,x.block<W.heap.size:=fun x hx=>by simpa using hW'.lt x (List.mem_append_left _ hx)
  refine ⟨ds,[],_,[],p,[],hW',?_,?_,?_,hb.frame _,fun h=>by cases h⟩
  · rw [List.append_nil,hs,hr]
    exact trodAll_mk1 (shut_bool Tryz.underlying4 _)
  · rw [List.append_nil,ha]
    exact all_below hb ht hlt hA
  · rw [List.append_nil,hvs,hv]
    rfl
end Go.Pv.T
namespace Go.Pv.T
open Go Go.Pv Go.Proofs Go.ChangeShapes Go.WideShapes Go.ChangeAt Go.RowKit
inductive Ty where
 | bool
 | int (k:IntKind)
 | str
 | unit
 | pair (a b:Ty)
 | slice (t:Ty)
def Ty.cells:Ty→Nat
 | .unit=>0
 | .pair a b=>a.cells+b.cells
 | _=>1
inductive Sh:Ty→List V→Prop where
 | bool (b:Bool):Sh .bool [.bool b]
 | int (k:IntKind) (n:Int):Sh (.int k) [.int k n]
 | str (s:List UInt8):Sh .str [.str s]
 | unit:Sh .unit []
 | pair {a b:Ty} {va vb:List V} (ha:Sh a va) (hb:Sh b vb):Sh (.pair a b) (va++vb)
 | nil {t:Ty}:Sh (.slice t) [.sl none true 0 []]
 | slice {t:Ty} (es:List (List V)) (hn:es.length≤maxLen) (h:∀ e∈es,Sh t e):Sh (.slice t) [.sl none false es.length es.flatten]
def fieldsTy (P:Program) (g:TypeId→Option Ty):List Field→Nat→Option Ty
 | [],_=>some .unit
 | f::r,off=>if f.offset=off then (g f.type).bind fun a=>if P.cellsOf f.type=a.cells then (fieldsTy P g r (off+a.cells)).map (.pair a) else none else none
def tyOf (P:Program):Nat→TypeId→Option Ty
 | 0,_=>none
 | n+1,t=>match P.underlying t with
  | some .bool=>some .bool
  | some (.int k)=>some (.int k)
  | some .string=>some .str
  | some (.slice e)=>(tyOf P n e).bind fun ty=>if P.cellsOf e=ty.cells then some (.slice ty) else none
  | some (.struct fs)=>(fieldsTy P (tyOf P n) fs.toList 0).bind fun ty=>if P.cellsOf t=ty.cells then some ty else none
  | _=>none
theorem Sh.len {t:Ty} {vs:List V} (h:Sh t vs):vs.length=t.cells:=by
 induction h with
 | pair _ _ iha ihb=>simp [Ty.cells,iha,ihb]
 | _=>rfl
theorem Sh.pure {t:Ty} {vs:List V} (h:Sh t vs):∀ v∈vs,v.pureLeaf=true:=by
 induction h with
 | pair _ _ iha ihb=>intro v hv;rcases List.mem_append.1 hv with h | h;exact iha v h;exact ihb v h
 | unit=>intro v hv;cases hv
 | _=>intro v hv;rw [List.mem_singleton] at hv;subst hv;rfl
def Reps (I:IMap) (cs:List Value) (vs:List V):Prop:=cs.length=vs.length∧∀ (j:Nat) (x:Value) (v:V),cs[j]? = some x→vs[j]? = some v→RepP I x v
theorem Reps.one {I:IMap} {x:Value} {v:V} (h:RepP I x v):Reps I [x] [v] :=
 ⟨rfl,fun j y u hj hu=>by
  match j,hj,hu with
  | 0,hj,hu=>cases hj;cases hu;exact h
  | j+1,hj,_=>simp at hj⟩
theorem flat_get {α:Type} {sz:Nat} (hs:0<sz):∀ (es:List (List α)),(∀ e∈es,e.length=sz)→∀ j,es.flatten[j]? = (es[j / sz]?).bind fun e=>e[j % sz]?
 | [],_,j=>by simp
 | e::es,h,j=>by
  have he:=h e (List.mem_cons_self ..)
  rw [List.flatten_cons,List.getElem?_append,he]
  split
  ·rename_i hlt
   rw [Nat.div_eq_of_lt hlt,Nat.mod_eq_of_lt hlt]
   rfl
  ·rename_i hge
   have hj:j=(j - sz)+sz:=by omega
   rw [flat_get hs es (fun e he=>h e (List.mem_cons_of_mem _ he)) (j - sz)]
   conv=>rhs;rw [hj,Nat.add_div_right _ hs,Nat.add_mod_right]
   rfl
theorem flat_len {α:Type} {sz:Nat}:∀ (es:List (List α)),(∀ e∈es,e.length=sz)→es.flatten.length=es.length * sz
 | [],_=>by simp
 | e::es,h=>by
  rw [List.flatten_cons,List.length_append,h e (List.mem_cons_self ..),flat_len es (fun e he=>h e (List.mem_cons_of_mem _ he)),List.length_cons,Nat.succ_mul]
  omega
section
variable {H:Type} {enc:TypeId × Value→H} {W:World} {P:Program}
theorem pick_list {α:Type} {p:Nat→α→Prop}:∀ (n:Nat),(∀ i,i<n→∃ a,p i a)→∃ l:List α,l.length=n∧∀ i a,l[i]? = some a→p i a
 | 0,_=>⟨[],rfl,fun i a h=>by simp at h⟩
 | n+1,h=>by
  obtain ⟨l,h1,h2⟩:=pick_list n (fun i hi=>h i (by omega))
  obtain ⟨a,ha⟩:=h n (by omega)
  refine ⟨l++[a],by simp [h1],fun i b hb=>?_⟩
  rw [List.getElem?_append] at hb
  split at hb
  ·exact h2 i b hb
  ·rename_i hge
   have:i=n:=by
    have:=(List.getElem?_eq_some_iff.1 hb).1
    simp at this
    omega
   subst this
   simp [h1] at hb
   subst hb
   exact ha
theorem fields_rep {g:TypeId→Option Ty} {n:Nat} {cs:List Value} (ih:∀ t ty,g t=some ty→∀ cs x,DataW.trod enc P W 0 (fun _=>true) true n t cs=some x→∃ vs,Sh ty vs∧Reps (cellsI W) cs vs) :
 ∀ (fs:List Field) (off:Nat) (ty:Ty),fieldsTy P g fs off=some ty→(∀ f∈fs,∃ x,DataW.trod enc P W 0 (fun _=>true) true n f.type ((cs.drop f.offset).take (P.cellsOf f.type))=some x)→cs.length=off+ty.cells →
  ∃ vs,Sh ty vs∧Reps (cellsI W) (cs.drop off) vs
 | [],off,ty,h,_,hl=>by
  simp only [fieldsTy,Option.some.injEq] at h
  subst h
  simp only [Ty.cells,Nat.add_zero] at hl
  exact ⟨[],.unit,by simp [hl],fun j x v _ hv=>by simp at hv⟩
 | f::r,off,ty,h,hx,hl=>by
  simp only [fieldsTy] at h
  split at h
  ·rename_i hoff
   cases hg:g f.type with
   | none=>rw [hg] at h;cases h
   | some a =>
    rw [hg,Option.bind_some] at h
    split at h
    ·rename_i hc
     cases hr:fieldsTy P g r (off+a.cells) with
     | none=>rw [hr] at h;cases h
     | some b =>
      rw [hr] at h
      cases h
      simp only [Ty.cells] at hl
      obtain ⟨x,hx0⟩:=hx f (List.mem_cons_self ..)
      obtain ⟨va,ha,hra⟩:=ih f.type a hg _ _ hx0
      obtain ⟨vb,hb,hrb⟩:=fields_rep ih r (off+a.cells) b hr (fun f' hf=>hx f' (List.mem_cons_of_mem _ hf)) (by omega)
      refine ⟨va++vb,.pair ha hb,?_,fun j y u hj hu=>?_⟩
      ·have:=ha.len;have:=hb.len
       simp only [List.length_drop,List.length_append]
       omega
      ·rw [hoff,hc] at hra
       rw [List.getElem?_append] at hu
       rw [ha.len] at hu
       rw [List.getElem?_drop] at hj
       split at hu
       ·rename_i hlt
        exact hra.2 j y u (by rw [List.getElem?_take,if_pos hlt,List.getElem?_drop];exact hj) hu
       ·rename_i hge
        exact hrb.2 (j - a.cells) y u (by rw [List.getElem?_drop,show off+a.cells+(j - a.cells)=off+j from by omega];exact hj) hu
    ·cases h
  ·cases h
theorem rep_of:∀ (n:Nat) (t:TypeId) (ty:Ty),tyOf P n t=some ty→∀ (fuel:Nat) (cs:List Value) (x:DataW H × List MemPlace),DataW.trod enc P W 0 (fun _=>true) true fuel t cs=some x→∃ vs,Sh ty vs∧Reps (cellsI W) cs vs
 | 0,_,_,h,_,_,_,_=>by cases h
 | n+1,t,ty,h,fuel,cs,x,hx=>by
  simp only [tyOf] at h
  split at h
  ·rename_i ht
   cases h
   obtain ⟨b,rfl,_⟩:=DataW.trod_bool ht hx
   exact ⟨_,.bool b,Reps.one (.bool b)⟩
  ·rename_i k ht
   cases h
   obtain ⟨b,rfl,_⟩:=DataW.trod_int ht hx
   exact ⟨_,.int k b,Reps.one (.int k b)⟩
  ·rename_i ht
   cases h
   obtain ⟨s,rfl,_⟩:=DataW.trod_string ht hx
   exact ⟨_,.str s.data.toList,Reps.one (.str s)⟩
  ·rename_i e ht
   cases he:tyOf P n e with
   | none=>rw [he] at h;cases h
   | some te =>
    rw [he,Option.bind_some] at h
    split at h
    ·rename_i hc
     cases h
     rcases DataW.trod_slice ht hx with ⟨rfl,_⟩ | ⟨a,len,cap,elems,rest,m,_,rfl,_,_,hl,hm,hlen,hel,_,_⟩
     ·exact ⟨_,.nil,Reps.one .slnil⟩
     ·have each:∀ i,i<len→∃ vs,Sh te vs∧∃ c,W.cells? 0 (a.add (i * te.cells)) te.cells=some c∧Reps (cellsI W) c vs:=by
       intro i hi
       have h1:=hel i hi
       rw [List.getElem?_eq_getElem (by omega),hc] at h1
       obtain ⟨c,hc1,hc2⟩:=Option.bind_eq_some_iff.1 h1
       obtain ⟨vs,h3,h4⟩:=rep_of n e te he m c _ hc2
       exact ⟨vs,h3,c,hc1,h4⟩
      obtain ⟨es,h1,h2⟩:=pick_list len each
      have hsh:∀ e∈es,Sh te e:=fun e he=>by
       obtain ⟨i,hi⟩:=List.getElem?_of_mem he
       exact (h2 i e hi).1
      have hsz:∀ e∈es,e.length=te.cells:=fun e he=>(hsh e he).len
      have key:∀ (j:Nat) (v:V),es.flatten[j]? = some v→0<te.cells∧j / te.cells<len∧∃ y,W.cell? ((a.add (j / te.cells * te.cells)).add (j % te.cells))=some y∧RepP (cellsI W) y v∧v.pureLeaf=true:=by
       intro j v hj
       have h0:0<te.cells:=by
        rcases Nat.eq_zero_or_pos te.cells with h | h
        ·have:=flat_len es hsz
         rw [h,Nat.mul_zero] at this
         rw [List.length_eq_zero_iff.1 this] at hj
         simp at hj
        ·exact h
       rw [flat_get h0 es hsz] at hj
       cases hee:es[j / te.cells]? with
       | none=>rw [hee] at hj;cases hj
       | some e =>
        rw [hee,Option.bind_some] at hj
        have hlt:j / te.cells<len:=by rw [← h1];exact (List.getElem?_eq_some_iff.1 hee).1
        obtain ⟨hse,c,hcc,hrr⟩:=h2 _ e hee
        have hme:=Nat.mod_lt j h0
        have hcell:=(World.cells?_some hcc).2.2 _ hme
        have hclen:c.length=te.cells:=by rw [hrr.1,hse.len]
        rw [List.getElem?_eq_getElem (by omega)] at hcell
        exact ⟨h0,hlt,_,hcell,hrr.2 _ _ v (List.getElem?_eq_getElem (by omega)) hj,hse.pure v (List.mem_of_getElem? hj)⟩
      have spot:es.flatten≠[]→a.spot=none:=by
       intro hne
       obtain ⟨v,hv⟩:∃ v,es.flatten[0]? = some v:=by
        cases hf:es.flatten with
        | nil=>exact absurd hf hne
        | cons v l=>exact ⟨v,rfl⟩
       obtain ⟨h0,_,y,hy,_⟩:=key 0 v hv
       rw [Nat.zero_div,Nat.zero_mod,Nat.zero_mul] at hy
       simpa [Addr.add] using World.cell?_spot hy
      have cellAt:∀ (j:Nat) (v:V),es.flatten[j]? = some v→∃ y,W.cell? ⟨a.block,a.off+j,none⟩=some y∧RepP (cellsI W) y v:=by
       intro j v hj
       obtain ⟨h0,_,y,hy,hr,_⟩:=key j v hj
       have hs:=spot (fun h=>by rw [h] at hj;simp at hj)
       obtain ⟨b,off,sp⟩:=a
       simp only at hs
       subst hs
       rw [add_plain,add_plain] at hy
       refine ⟨y,?_,hr⟩
       rw [← hy,Nat.add_assoc,Nat.div_add_mod']
      rw [← h1] at hl
      refine ⟨_,.slice es (Nat.le_trans hl hm) hsh,Reps.one ?_⟩
      rw [h1] at hl ⊢
      refine RepP.sl a len cap es.flatten (fun j=>(W.cell? ⟨a.block,a.off+j,none⟩).getD .nilFunc) spot hl hm (fun j hj=>?_) (fun j v hj=>?_) (fun j v hj=>?_)
      ·obtain ⟨y,hy,_⟩:=cellAt j _ (List.getElem?_eq_getElem hj)
       show W.cell? _=some ((W.cell? _).getD _)
       rw [hy]
       rfl
      ·exact (key j v hj).2.2.choose_spec.2.2
      ·obtain ⟨y,hy,hr⟩:=cellAt j v hj
       show RepP _ ((W.cell? _).getD _) v
       rw [hy]
       exact hr
    ·cases h
  ·rename_i fs ht
   cases hf:fieldsTy P (tyOf P n) fs.toList 0 with
   | none=>rw [hf] at h;cases h
   | some b =>
    rw [hf,Option.bind_some] at h
    split at h
    ·rename_i hc
     cases h
     obtain ⟨xs,m,rfl,_,hl,hn,hel⟩:=DataW.trod_struct ht hx
     have:=fields_rep (n:=m) (cs:=cs) (fun t ty h cs x hx=>rep_of n t ty h m cs x hx) fs.toList 0 ty hf (fun f hfm=>by
      obtain ⟨i,hi⟩:=List.getElem?_of_mem hfm
      have hi':fs[i]? = some f:=by simpa using hi
      have h1:=hel i f hi'
      have hlt:i<xs.length:=by rw [hn];exact (Array.getElem?_eq_some_iff.1 hi').1
      rw [List.getElem?_eq_getElem hlt] at h1
      exact ⟨_,h1⟩) (by rw [Nat.zero_add,hl,hc])
     simpa using this
    ·cases h
  ·cases h
end
end Go.Pv.T
namespace Go.Pv.T
open Go Go.Pv Go.Proofs Go.ChangeShapes Go.WideShapes Go.ChangeAt Go.RowKit Go.Proofs.YtphecmnehkdihaaGreatDoor
theorem arr2_rep {W:World} {t e:TypeId} {n fuel:Nat} {cs:List Value} {ds:List (DataW Unit)} {p:List MemPlace} {f0 f1:Field} {k0 k1:IntKind} (ht:Tryz.prog.underlying t=some (.array n e)) (hc:Tryz.prog.cellsOf e=2)
    (he:Tryz.prog.underlying e=some (.struct #[f0,f1])) (o0:f0.offset=0) (o1:f1.offset=1) (c0:Tryz.prog.cellsOf f0.type=1) (c1:Tryz.prog.cellsOf f1.type=1)
    (u0:Tryz.prog.underlying f0.type=some (.int k0)) (u1:Tryz.prog.underlying f1.type=some (.int k1)) (h:DataW.trod (fun _=>()) Tryz.prog W 0 (fun _=>true) false fuel t cs=some (.agg ds,p)) (I:IMap) :
    ∀ (j:Nat) (d:DataW Unit),(ds.map aggOf).flatten[j]? = some d→∃ x,cs[j]? = some x∧RepP I x (litV d):=by
  obtain ⟨xs,m,rfl,hx,hlen,hn,hel⟩:=DataW.trod_array ht h
  simp only [Prod.mk.injEq,DataW.agg.injEq] at hx
  have one:∀ (l:List Value) (j:Nat) c,(l.drop j).take 1=[c]→l[j]? = some c:=by
    intro l j c hcc
    have:=congrArg List.head? hcc
    simpa [List.head?_take,List.head?_drop] using this
  have each:∀ (j:Nat) (y:DataW Unit × List MemPlace),xs[j]? = some y→∃ d0 d1 x0 x1,y.1 = .agg [d0,d1]∧cs[j * 2]? = some x0∧RepP I x0 (litV d0)∧cs[j * 2+1]? = some x1∧RepP I x1 (litV d1):=by
    intro j y hy
    have hj:j<n:=by rw [← hn];exact (List.getElem?_eq_some_iff.1 hy).1
    have h2:=hel j hj
    rw [hc,hy] at h2
    obtain ⟨y0,y1,m',e1,hl2,g0,g1⟩:=trod_struct2 he h2
    rw [o0,c0] at g0
    rw [o1,c1] at g1
    obtain ⟨z0,a0,b0,_⟩:=DataW.trod_int u0 g0
    obtain ⟨z1,a1,b1,_⟩:=DataW.trod_int u1 g1
    have q0:=one _ _ _ a0
    have q1:=one _ _ _ a1
    rw [List.getElem?_take,if_pos (by omega),List.getElem?_drop] at q0 q1
    refine ⟨y0.1,y1.1,_,_,by rw [e1],by simpa using q0,?_,q1,?_⟩
    · rw [b0];exact RepP.int k0 z0
    · rw [b1];exact RepP.int k1 z1
  have hds:ds=xs.map (·.1):=hx.1
  have len2:∀ e∈ds.map aggOf,e.length=2:=by
    intro e he
    rw [hds,List.map_map] at he
    obtain ⟨y,hy,rfl⟩:=List.mem_map.1 he
    obtain ⟨j,hj⟩:=List.getElem?_of_mem hy
    obtain ⟨d0,d1,x0,x1,e,_⟩:=each j y hj
    simp only [Function.comp,e,aggOf,List.length_cons,List.length_nil]
  intro k d hd
  rw [flat_get (by decide) _ len2] at hd
  rw [hds,List.map_map,List.getElem?_map] at hd
  cases hy:xs[k / 2]? with
  | none=>rw [hy] at hd;cases hd
  | some y =>
    rw [hy] at hd
    obtain ⟨d0,d1,x0,x1,e,g0,r0,g1,r1⟩:=each _ y hy
    simp only [Option.map_some,Option.bind_some,Function.comp,e,aggOf] at hd
    rcases Nat.mod_two_eq_zero_or_one k with hk | hk
    · rw [hk] at hd
      cases hd
      rw [show k / 2 * 2=k from by omega] at g0
      exact ⟨x0,g0,r0⟩
    · rw [hk] at hd
      cases hd
      rw [show k / 2 * 2+1=k from by omega] at g1
      exact ⟨x1,g1,r1⟩
def accD:List (DataW Unit):=((aggOf Rows.laid_unicode_utf8_acceptRanges).map aggOf).flatten
theorem gAcc:Tryz.prog.globalNamed "unicode/utf8.acceptRanges" = some 3:=by kernel_rfl
theorem acc_eq:accD.map litV=accR:=by kernel_rfl
theorem acc_agg:Rows.laid_unicode_utf8_acceptRanges = .agg (aggOf Rows.laid_unicode_utf8_acceptRanges):=by kernel_rfl
theorem acc_pure:(accD.map litV).all V.pureLeaf=true:=by kernel_rfl
theorem tAcc:(Tryz.prog.globals[3]?).map (·.type)=some 322:=by kernel_rfl
theorem glOk {W:World} (h:laidMetH Tryz.prog laidL W):GlOk E (cellsI W):=by
  rw [MakeChecks.laidMetH_plain _ _ _ (by kernel_rfl)] at h
  obtain ⟨ps,⟨g2,t2,cs2,f2,p2,q2,hg2,ht2,hv2,hd2,⟨g0,t0,cs0,f0,p0,q0,hg0,ht0,hv0,hd0,⟨g1,t1,cs1,f1,p1,q1,hg1,ht1,hv1,hd1,_,_⟩,_⟩,_⟩,_,_⟩:=h
  obtain rfl:=Option.some.inj (gWords.symm.trans hg0)
  obtain rfl:=Option.some.inj (gFirst.symm.trans hg1)
  obtain rfl:=Option.some.inj (tWords.symm.trans ht0)
  obtain rfl:=Option.some.inj (tFirst.symm.trans ht1)
  obtain rfl:=Option.some.inj (gAcc.symm.trans hg2)
  obtain rfl:=Option.some.inj (tAcc.symm.trans ht2)
  intro g cs hcs
  simp only [E] at hcs
  split at hcs
  · cases hcs
    rw [← words_eq]
    exact gl_rep gWords hv0 words_pure (arr_rep Tryz.underlying300 (by kernel_rfl) (Or.inl (by kernel_rfl)) hd0 _)
  · cases hcs
    rw [← first_eq]
    rw [first_agg] at hd1
    exact gl_rep gFirst hv1 first_pure (arr_rep Tryz.underlying319 (by kernel_rfl) (Or.inr ⟨.u8,by kernel_rfl⟩) hd1 _)
  · cases hcs
    rw [← acc_eq]
    rw [acc_agg] at hd2
    exact gl_rep gAcc hv2 acc_pure (arr2_rep (k0:=.u8) (k1:=.u8) Tryz.underlying322 (by kernel_rfl) Tryz.underlying321 rfl rfl (by kernel_rfl) (by kernel_rfl) (by kernel_rfl) (by kernel_rfl) hd2 _)
  · cases hcs
abbrev valTy:Ty:=.pair (.int .i64) (.pair (.int .i64) .unit)
abbrev opTy:Ty:=.pair .bool (.pair (.int .i64) (.pair valTy .unit))
abbrev txnTy:Ty:=.pair (.int .i64) (.pair (.int .i64) (.pair (.slice opTy) .unit))
abbrev histTy:Ty:=.pair (.slice .str) (.pair (.slice .str) (.pair (.slice txnTy) .unit))
theorem sh_slice {α:Type} {t:Ty} {f:α→List V} (hf:∀ e,Sh t e→∃ a,e=f a) {vs:List V} (h:Sh (.slice t) vs):∃ nl l,vs=[slOf nl f l]:=by
 cases h with
 | nil=>exact ⟨true,[],rfl⟩
 | slice es hn h =>
  have all:∀ es:List (List V),(∀ e∈es,Sh t e)→∃ l:List α,es=l.map f:=by
   intro es
   induction es with
   | nil=>intro _;exact ⟨[],rfl⟩
   | cons e es ih =>
    intro h
    obtain ⟨a,rfl⟩:=hf e (h e (List.mem_cons_self ..))
    obtain ⟨l,rfl⟩:=ih (fun e he=>h e (List.mem_cons_of_mem _ he))
    exact ⟨a::l,rfl⟩
  obtain ⟨l,rfl⟩:=all es h
  exact ⟨false,l,by simp [slOf,List.flatMap]⟩
theorem sh_val {vs:List V} (h:Sh valTy vs):∃ v:Val',vs=valC v:=by
 cases h with
 | pair ha hb=>cases ha with
  | int _ k=>cases hb with
   | pair hc hd=>cases hc with
    | int _ n=>cases hd;exact ⟨⟨k,n⟩,rfl⟩
theorem sh_op {vs:List V} (h:Sh opTy vs):∃ o:Op',vs=opC o:=by
 cases h with
 | pair ha hb=>cases ha with
  | bool w=>cases hb with
   | pair hc hd=>cases hc with
    | int _ k=>cases hd with
     | pair he hf =>
      obtain ⟨v,rfl⟩:=sh_val he
      cases hf
      exact ⟨⟨w,k,v⟩,rfl⟩
theorem sh_txn {vs:List V} (h:Sh txnTy vs):∃ t:Txn',vs=txnC t:=by
 cases h with
 | pair ha hb=>cases ha with
  | int _ s=>cases hb with
   | pair hc hd=>cases hc with
    | int _ f=>cases hd with
     | pair he hf =>
      obtain ⟨nl,l,rfl⟩:=sh_slice (f:=opC) (fun e=>sh_op) he
      cases hf
      exact ⟨⟨s,f,nl,l⟩,rfl⟩
theorem sh_str {vs:List V} (h:Sh .str vs):∃ s:List UInt8,vs=strC s:=by
 cases h with
 | str s=>exact ⟨s,rfl⟩
theorem sh_hist {vs:List V} (h:Sh histTy vs):∃ g:Hist',vs=histC g:=by
 cases h with
 | pair ha hb=>cases hb with
  | pair hc hd=>cases hd with
   | pair he hf =>
    obtain ⟨n0,l0,rfl⟩:=sh_slice (f:=strC) (fun e=>sh_str) ha
    obtain ⟨n1,l1,rfl⟩:=sh_slice (f:=strC) (fun e=>sh_str) hc
    obtain ⟨n2,l2,rfl⟩:=sh_slice (f:=txnC) (fun e=>sh_txn) he
    cases hf
    exact ⟨⟨n0,l0,n1,l1,n2,l2⟩,rfl⟩
theorem leaf_of_pure {v:V} (h:v.pureLeaf=true):v.leaf=true:=by cases v <;> first | rfl | cases h
section
variable {H:Type} {enc:TypeId × Value→H} {W:World} {v:Value} {d:DataW H} {p:List MemPlace} {base:Nat}
theorem struct_arg {t:TypeId} {fs:Array Field} {n:Nat} {ty:Ty} (ht:Tryz.prog.underlying t=some (.struct fs)) (hty:tyOf Tryz.prog n t=some ty) (hval:Value.okWide Tryz.prog W .any base t v)
 (h:DataW.Trod enc Tryz.prog W 0 (fun _=>true) true t v d p):∃ vs,Sh ty vs∧RepP (cellsI W) v (.agg vs):=by
 obtain ⟨cs,rfl,_⟩:=okWide_struct ht hval
 obtain ⟨fuel,hf⟩:=h
 obtain ⟨vs,hs,hr⟩:=rep_of n t ty hty fuel _ _ hf
 refine ⟨vs,hs,RepP.agg cs vs (by simpa [Value.cells] using hr.1) (fun j v hj=>leaf_of_pure (hs.pure v (List.mem_of_getElem? hj))) (fun j x v hx hv=>hr.2 j x v (by simpa [Value.cells] using hx) hv)⟩
theorem read_ok (ts:List TypeId) (h:(ts.all fun t=>Tryz.prog.readableRec t && decide (t<Tryz.prog.types.size))=true) (t:TypeId) (ht:t∈ts):Tryz.prog.readableRec t=true∧t<Tryz.prog.types.size:=by
 have:=List.all_eq_true.1 h t ht
 simpa using this
theorem hist_arg (hval:Value.okWide Tryz.prog W .any base 25 v) (h:DataW.Trod enc Tryz.prog W 0 (fun _=>true) true 25 v d p):∃ g:Hist',RepP (cellsI W) v (.agg (histC g)):=by
 obtain ⟨vs,hs,hr⟩:=struct_arg (n:=8) (ty:=histTy) Tryz.underlying25 (by kernel_rfl) hval h
 obtain ⟨g,rfl⟩:=sh_hist hs
 exact ⟨g,hr⟩
end
theorem calls_true1 {f:FuncId} {W:World} {args:Array Value} {vs:List V} (hL:laidMetH Tryz.prog laidL W) (hlen:args.size=vs.length) (hr:∀ (j:Nat) (x:Value) (v:V),args[j]? = some x→vs[j]? = some v→RepP (cellsI W) x v)
 (he:Ev E1 f vs (.bool true)):Calls Tryz.prog f args W fun e w'=>e = .returned (.bool true)∧W.grownBy w' none:=by
 refine (Ev.sound mixed envOk1 he W (cellsI W) args (cellsI_ok W) (glOk hL) hlen hr).mono fun e W' ⟨x,τ,I',h1,h2,_,_,_,h3,_⟩=>⟨?_,h2⟩
 rw [h1]
 have h4:RepP I' x (.bool true):=h3
 cases h4
 rfl
abbrev certTy:Ty:=.pair (.slice (.int .i64)) (.pair (.slice (.int .i64)) .unit)
theorem sh_cert {vs:List V} (h:Sh certTy vs):∃ (a b:Bool) (M O:List Int),vs=[slOf a intC M,slOf b intC O]:=by
 cases h with
 | pair ha hb=>cases hb with
  | pair hc hd =>
   obtain ⟨n0,l0,rfl⟩:=sh_slice (f:=intC) (fun e he=>by cases he with | int _ k=>exact ⟨k,rfl⟩) ha
   obtain ⟨n1,l1,rfl⟩:=sh_slice (f:=intC) (fun e he=>by cases he with | int _ k=>exact ⟨k,rfl⟩) hc
   cases hd
   exact ⟨n0,n1,l0,l1,rfl⟩
section
variable {H:Type} {enc:TypeId × Value→H} {W:World} {v:Value} {d:DataW H} {p:List MemPlace} {base:Nat}
theorem cert_arg (hval:Value.okWide Tryz.prog W .any base 28 v) (h:DataW.Trod enc Tryz.prog W 0 (fun _=>true) true 28 v d p):∃ (a b:Bool) (M O:List Int),RepP (cellsI W) v (.agg [slOf a intC M,slOf b intC O]):=by
 obtain ⟨vs,hs,hr⟩:=struct_arg (n:=8) (ty:=certTy) Tryz.underlying28 (by kernel_rfl) hval h
 obtain ⟨a,b,M,O,rfl⟩:=sh_cert hs
 exact ⟨a,b,M,O,hr⟩
end
end Go.Pv.T
