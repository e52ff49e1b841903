/- The last write of a key: going backward. -/
import Derived.Test.YtopjfnbonjmnjaaGreatDoorUaD
import Derived.Sort.AssemblyPlain
import Derived.Laws.Bits64
namespace Go.Pv.T
open Go Go.Pv
def AS130:C:=.region [⟨some 7,.alloc [(.bool false),(.int .i64 0),(.int .i64 0),(.int .i64 0)],none,false⟩,⟨none,.store 4 (.t 7) (.t 11),none,false⟩]
def BD130:C:=.block 1 (.seq (.region [⟨some 12,.fieldAddr 0 (.t 7),none,false⟩,⟨some 13,.load none (.t 12),none,false⟩,⟨some 14,.mov (.t 13),none,false⟩,⟨some 15,.fieldAddr 1 (.t 7),(some (14,true)),false⟩,⟨some 16,.load none (.t 15),(some (14,true)),false⟩,⟨some 17,.load none (.t 3),(some (14,true)),false⟩,⟨some 18,.bin .eql (.t 16) (.t 17),(some (14,true)),false⟩,⟨some 19,.pick (.t 14) (.t 18) (.c (.bool false)),none,false⟩])
 (.cond (.t 19) (.seq (.region [⟨some 20,.fieldAddr 2 (.t 7),none,false⟩,⟨some 21,.load (some 2) (.t 20),none,false⟩,⟨none,.store 2 (.t 4) (.t 21),none,false⟩,⟨none,.store 1 (.t 5) (.c (.bool true)),none,false⟩]) (.ret)) (.skip)))
theorem range130 (nl:Bool) (ops:List Op') (hm:ops.length≤1000000) (kv:Int) {st:St} {lh uh:Nat} (U:Nat) (hU:st.nx=U) (hU0:64≤U) (h9:st.tm 9 = .fn (.func 217) [] [.ptr lh uh 0]) (hl:∃ m,lh=2 * m+1∧m<U)
 (h3:st.tm 3 = .ptr 6 0 0) (h4:st.tm 4 = .ptr 8 64 0) (h5:st.tm 5 = .ptr 10 128 0) (hro:st.ro=0) (hfb:st.fb=0) (o6:st.ob 6=some ⟨0,.cells [.int .i64 kv]⟩) (o8:st.ob 8=some ⟨64,.cells [.int .i64 0,.int .i64 0]⟩) (o10:st.ob 10=some ⟨128,.cells [.bool false]⟩)
 (oh:st.ob lh=some ⟨uh,.cells [slOf nl opC ops]⟩) {Q:Ex→St→Prop}
 (hQ:∀ (e:Ex) (ob:Nat→Option Obj') (tk:Nat→Bool) (ub:Nat) (v:Val') (b:Bool),ob 8=some ⟨64,.cells (valC v)⟩→ob 10=some ⟨128,.cells [.bool b]⟩→ob (2 * U+3)=some ⟨U+1,.dfr⟩→U+64≤ub →
  rawTo kv ops ops.length=(v,b)→(e = .nrm∧v=⟨0,0⟩∧b=false∨e = .ret)→Q e { st with ob:=ob,tk:=tk,nx:=ub,df:=(2 * U+3,U+1)::st.df }) :
 wpC E noYF (.rangeFunc (.t 9) [10,11] AS130 BD130) st Q:=by
 obtain ⟨m,rfl,hmU⟩:=hl
 subst hU
 refine wpC_rangeFunc (g:=217) (first:=[]) (captured:=[.ptr (2 * m+1) uh 0]) (by simpa using h9) ?_
 have e1:¬ 2 * m+1=2 * st.nx+1:=by omega
 have e2:¬ 2 * m+1=2 * st.nx+3:=by omega
 have e1':¬ 2 * m=2 * st.nx:=by omega
 have e2':¬ 2 * m=2 * st.nx+2:=by omega
 have:=run217 (Yf:=roundF E noYF AS130 BD130 st [10,11] (2 * st.nx+1) st.nx) nl ops hm (l:=2 * st.nx+1) (u:=st.nx) (lh:=2 * m+1) (uh:=uh)
  (ob0:=upd (upd st.ob (2 * st.nx+3) (some ⟨st.nx+1,.dfr⟩)) (2 * st.nx+1) (some ⟨st.nx,.loop .ready none⟩)) (tk0:=st.tk) (ro:=st.ro) (base:=(st.fb+1023) * 1024) (ub0:=st.nx+64)
  (fun k ob tk ub=>rawTo kv ops ops.length=rawTo kv ops (ops.length - k)∧ob (2 * st.nx+1)=some ⟨st.nx,.loop .ready none⟩∧ob (2 * st.nx+3)=some ⟨st.nx+1,.dfr⟩∧ob 6=some ⟨0,.cells [.int .i64 kv]⟩∧ob 8=some ⟨64,.cells [.int .i64 0,.int .i64 0]⟩∧ob 10=some ⟨128,.cells [.bool false]⟩∧ob (2 * m+1)=some ⟨uh,.cells [slOf nl opC ops]⟩∧st.nx+64≤ub)
  (fun r=>∃ s pend,r.2.1 (2 * st.nx+1)=some ⟨st.nx,.loop s pend⟩∧s≠.busy∧st.ro≤st.nx∧Q (pend.getD .nrm) { st with ob:=fun k=>if Nat.beq (2 * st.nx+1) k then none else r.2.1 k,tk:=r.2.2.1,nx:=r.2.2.2,df:=(2 * st.nx+3,st.nx+1)::st.df })
  ?_ ?_ (by omega) ?_ ?_ ?_
 ·obtain ⟨r,hr,hP⟩:=this
  exact ⟨r,hr,hP⟩
 ·rintro k ob ob' tk ub ub' ⟨g1,g2,g3,g4,g5,g6,g7,g8⟩ hub hfr
  have f:∀ key,(∀ m,ub≤m→key≠2 * m+1)→ob' key=ob key:=hfr
  exact ⟨g1,by rw [f _ (fun m hm=>by omega)];exact g2,by rw [f _ (fun m hm=>by omega)];exact g3,by rw [f _ (fun m hm=>by omega)];exact g4,by rw [f _ (fun m hm=>by omega)];exact g5,by rw [f _ (fun m hm=>by omega)];exact g6,by rw [f _ (fun m hm=>by omega)];exact g7,by omega⟩
 ·rintro k ob tk ub ⟨g1,g2,g3,g4,g5,g6,g7,g8⟩
  exact g7
 ·rintro k hk ob tk ub ⟨g1,g2,g3,g4,g5,g6,g7,g8⟩ hru
  obtain ⟨j,hj⟩:∃ j,j=ops.length - 1 - k:=⟨_,rfl⟩
  have hjl:j<ops.length:=by omega
  have hgd:ops.getD j ⟨false,0,0,0⟩=ops[j]:=by rw [List.getD_eq_getElem?_getD,List.getElem?_eq_getElem hjl];rfl
  have hraw:=rawTo_succ (k:=kv) hjl
  rw [← hj,hgd]
  obtain ⟨o,ho⟩:∃ o,ops[j]=o:=⟨_,rfl⟩
  rw [ho] at hraw ⊢
  rw [show ops.length - k=j+1 by omega] at g1
  rw [hraw] at g1
  refine EvY_round (as:=AS130) (bd:=BD130) (xs:=[.int .i64 (j:Nat),.agg (opC o)]) rfl (by omega) g2 (by decide) (by decide) ?_
  simp [AS130,setPs,objCells,hfb,opC,hro,splice]
  refine ⟨by rw [if_neg (by omega),if_neg (by omega)];exact g2,wpC_gen fun s' hs'=>?_⟩
  have f3:s'.tm 3 = .ptr 6 0 0:=by rw [hs'];simp [upd_apply,h3]
  have f4:s'.tm 4 = .ptr 8 64 0:=by rw [hs'];simp [upd_apply,h4]
  have f5:s'.tm 5 = .ptr 10 128 0:=by rw [hs'];simp [upd_apply,h5]
  have f7:s'.tm 7 = .ptr 14 ub 0:=by rw [hs'];simp
  have n6:¬ 6=2 * st.nx+1:=by omega
  have n8:¬ 8=2 * st.nx+1:=by omega
  have n10:¬ 10=2 * st.nx+1:=by omega
  have n14:¬ 14=2 * st.nx+1:=by omega
  have n3:¬ 2 * st.nx+3=2 * st.nx+1:=by omega
  have n314:¬ 2 * st.nx+3=14:=by omega
  have n114:¬ 2 * m+1=14:=by omega
  have p6:s'.ob 6=some ⟨0,.cells [.int .i64 kv]⟩:=by rw [hs'];simp [upd_apply,n6,g4]
  have p8:s'.ob 8=some ⟨64,.cells [.int .i64 0,.int .i64 0]⟩:=by rw [hs'];simp [upd_apply,n8,g5]
  have p10:s'.ob 10=some ⟨128,.cells [.bool false]⟩:=by rw [hs'];simp [upd_apply,n10,g6]
  have p14:s'.ob 14=some ⟨ub,.cells (opC o)⟩:=by rw [hs'];simp [upd_apply,n14,opC]
  have p3:s'.ob (2 * st.nx+3)=some ⟨st.nx+1,.dfr⟩:=by rw [hs'];simp [upd_apply,n314,g3]
  have p1:s'.ob (2 * st.nx+1)=some ⟨st.nx,.loop .busy none⟩:=by rw [hs'];simp
  have ph:s'.ob (2 * m+1)=some ⟨uh,.cells [slOf nl opC ops]⟩:=by rw [hs'];simp [upd_apply,e1',n114,g7]
  have fr:s'.ro=0:=by rw [hs']
  have fn:ub≤s'.nx:=by rw [hs'];simp;omega
  clear hs'
  have m18:¬ 2 * st.nx+1=8:=by omega
  have m110:¬ 2 * st.nx+1=10:=by omega
  have m38:¬ 2 * st.nx+3=8:=by omega
  have m310:¬ 2 * st.nx+3=10:=by omega
  have skip:wkB kv o=false→rawTo kv ops ops.length=rawTo kv ops (ops.length - (k+1)):=fun hw=>by
   rw [hw] at g1
   rw [g1,show ops.length - (k+1)=j by omega]
   rfl
  have done:wkB kv o=false→(skip':True)→rawTo kv ops ops.length=rawTo kv ops (ops.length - (k+1))∧upd s'.ob (2 * st.nx+1) (some ⟨st.nx,.loop .ready none⟩) (2 * st.nx+3)=some ⟨st.nx+1,.dfr⟩:=fun hw _=>⟨skip hw,by rw [upd_apply,if_neg n3];exact p3⟩
  cases hw1:o.w
  ·have hw:=skip (by unfold wkB;rw [hw1];rfl)
   simp [BD130,f7,p14,objCells,opC,hw1,p1,roundAns]
   exact ⟨hw,by rw [upd_apply,if_neg n3];exact p3,by rw [upd_apply,if_neg n6];exact p6,by rw [upd_apply,if_neg n8];exact p8,by rw [upd_apply,if_neg n10];exact p10,by rw [upd_apply,if_neg e1];exact ph,by omega⟩
  cases hk1:(o.key == kv)
  ·have hw:=skip (by unfold wkB;rw [hw1,hk1];rfl)
   simp [BD130,f7,p14,objCells,opC,hw1,f3,p6,hk1,p1,roundAns]
   exact ⟨hw,by rw [upd_apply,if_neg n3];exact p3,by rw [upd_apply,if_neg n6];exact p6,by rw [upd_apply,if_neg n8];exact p8,by rw [upd_apply,if_neg n10];exact p10,by rw [upd_apply,if_neg e1];exact ph,by omega⟩
  ·have hwt:wkB kv o=true:=by unfold wkB;rw [hw1,hk1];rfl
   rw [hwt] at g1
   simp only [if_true] at g1
   simp [BD130,f7,p14,objCells,opC,hw1,f3,p6,hk1,f4,f5,p8,p10,fr,splice,m18,m110,p1,roundAns]
   intro ob' ub' hle hfr
   have fk:∀ key,(∀ m,s'.nx+64+64+64+64+64+64+64+64+64+64+64+64≤m→key≠2 * m+1)→ob' key=_:=hfr
   have n1':∀ {k:Nat},k≠2 * st.nx+1→(if 2 * st.nx+1=k then none else ob' k)=ob' k:=fun hk=>if_neg fun e=>hk e.symm
   refine ⟨.done,some .ret,?_,by simp,?_⟩
   ·rw [fk _ (fun m hm=>by omega)]
    simp
   ·have:=hQ .ret (fun k=>if 2 * st.nx+1=k then none else ob' k) s'.tk ub' o.v true (by rw [n1' n8,fk _ (fun m hm=>by omega)];simp [upd_apply,n8,valC]) (by rw [n1' n10,fk _ (fun m hm=>by omega)];simp [upd_apply,n10])
     (by rw [n1' n3,fk _ (fun m hm=>by omega)];simp [upd_apply,m38,m310,p3]) (by omega) g1 (Or.inr rfl)
    rw [hro,hfb] at this
    simpa [app_tk0] using this
 ·rintro ob tk ub ⟨g1,g2,g3,g4,g5,g6,g7,g8⟩
  refine ⟨.ready,none,g2,by simp,by omega,?_⟩
  rw [Nat.sub_self] at g1
  exact hQ .nrm _ _ _ ⟨0,0⟩ false ((away ob (by omega)).trans g5) ((away ob (by omega)).trans g6) ((away ob (by omega)).trans g3) g8 g1 (Or.inl ⟨rfl,rfl,rfl⟩)
 ·have n13:¬ 2 * st.nx+3=2 * st.nx+1:=by omega
  have a6:¬ 6=2 * st.nx+1:=by omega
  have b6:¬ 6=2 * st.nx+3:=by omega
  have a8:¬ 8=2 * st.nx+1:=by omega
  have b8:¬ 8=2 * st.nx+3:=by omega
  have a10:¬ 10=2 * st.nx+1:=by omega
  have b10:¬ 10=2 * st.nx+3:=by omega
  exact ⟨by rw [Nat.sub_zero],by simp,by simp [upd_apply],by simp [upd_apply,a6,b6,o6],by simp [upd_apply,a8,b8,o8],by simp [upd_apply,a10,b10,o10],by simp [upd_apply,e1',e2',oh],by omega⟩
end Go.Pv.T

/- Fresh numbers: the reference's way. -/
namespace Go.Pv.T
open Go Go.Pv
end Go.Pv.T

/- Fresh numbers: least that is not there; the reference's walk. -/
namespace Go.Pv.T
open Go Go.Pv
theorem may_bad {g:Hist'} (hm:mayH g=false):errH g=4:=by unfold errH;rw [hm];rfl
end Go.Pv.T

/- Slices that are sorted where they lie: cells of an array. -/
namespace Go.Pv.T
open Go Go.Pv Go.Sort
def arr {α:Type} (f:α→List V) (d:Array α):List V:=d.toList.flatMap f
theorem arr_len {α:Type} {f:α→List V} {sz:Nat} (hf:∀ a,(f a).length=sz) (d:Array α):(arr f d).length=d.size * sz:=by
 unfold arr;rw [flatMap_len hf,Array.length_toList]
theorem flat_set {α:Type} {f:α→List V} {sz:Nat} (hf:∀ a,(f a).length=sz) (a:α):∀ (l:List α) (i:Nat),i<l.length→splice (l.flatMap f) (i * sz) (f a)=(l.set i a).flatMap f
 | [],_,h=>by simp at h
 | x::l,0,_=>by simp [splice,hf]
 | x::l,i+1,h=>by
  have ih:=flat_set hf a l i (by simpa using h)
  have e:(i+1) * sz=(f x).length+i * sz:=by rw [hf,Nat.succ_mul,Nat.add_comm]
  unfold splice at ih ⊢
  rw [List.set_cons_succ,List.flatMap_cons,List.flatMap_cons,← ih,e,List.take_length_add_append,Nat.add_assoc,List.drop_length_add_append]
  simp
theorem arr_set {α:Type} {f:α→List V} {sz:Nat} {d:Array α} (hf:∀ a,(f a).length=sz) {i:Nat} (hi:i<d.size) (a:α):splice (arr f d) (i * sz) (f a)=arr f (d.setIfInBounds i a):=by
 unfold arr
 rw [flat_set hf a d.toList i (by simpa using hi),Array.toList_setIfInBounds]
section
variable {α:Type} [Inhabited α] {f:α→List V} {sz:Nat} {d:Array α}
theorem arr_at (hf:∀ a,(f a).length=sz) {i:Nat} (hi:i<d.size):((arr f d).drop (i * sz)).take sz=f d[i]!:=by
 unfold arr
 rw [flatMap_at hf d.toList i (by simpa using hi),Array.getElem_toList,getElem!_pos d i hi]
theorem idxA {l u n:Nat} {kk:IntKind} {x:Int} (h0:0≤x) (h1:x<n):idxSlV sz (.osl l u 0 n sz) (.int kk x)=some (.ptr l u (x.toNat * sz)):=by
 simp [idxSlV,h0,h1]
end
theorem swp_size {α:Type} [Inhabited α] (d:Array α) (i j:Nat):(swp d i j).size=d.size:=by simp [swp]
theorem ldI {ob:Nat→Option Obj'} {l u:Nat} {d:Array Int} {x:Nat} (ho:ob l=some ⟨u,.cells (arr intC d)⟩) (hx:x<d.size):loadV ob none (.ptr l u (x * 1))=some (.int .i64 d[x]!):=by
 have h:=arr_at (sz:=1) intC_len hx
 simp only [loadV,objCells,ho,if_true,Option.bind_some,pick1]
 have:=congrArg List.head? h
 simpa [List.head?_take,List.head?_drop,intC] using this
theorem stI {d:Array Int} {x:Nat} (hx:x<d.size) (z:Int):splice (arr intC d) x [.int .i64 z]=arr intC (d.setIfInBounds x z):=by
 have:=arr_set (sz:=1) intC_len hx z
 rwa [Nat.mul_one] at this
@[simp] theorem arrI_len (d:Array Int):(arr intC d).length=d.size:=by rw [arr_len (sz:=1) intC_len,Nat.mul_one]
end Go.Pv.T

/- Insertion sort, where the cells lie. -/
namespace Go.Pv.T
open Go Go.Pv Go.Sort
theorem ev205 (x:Int):Ev E 205 [.int .i64 x] (.bool false):=by
 refine Ev_wpK (af:=F205) rfl ?_
 simp [F205]
 exact endV_1 rfl (by simp) rfl
theorem ev163 (x y:Int):Ev E 163 [.int .i64 x,.int .i64 y] (.bool (ltInt x y)):=by
 have e:=ev205 x
 refine Ev_wpK (af:=F163) rfl ?_
 simp [F163]
 refine kS_ev e (by simp) rfl (by simp) ?_
 simp
 exact endV_1 rfl (by simp [ltInt]) rfl
def At (l u:Nat) (cs:List V) (ob:Nat→Option Obj') (tk:Nat→Bool) (ub:Nat) (ob':Nat→Option Obj') (tk':Nat→Bool) (ub':Nat):Prop :=
 ob' l=some ⟨u,.cells cs⟩∧(∀ key,key≠l→(∀ m,ub≤m→key≠2 * m+1)→ob' key=ob key)∧tk'=tk∧ub≤ub'
theorem endS_nil {st:St} {P:V × (Nat→Option Obj') × (Nat→Bool) × Nat→Prop} {e:Ex} (he:e = .nrm∨e = .ret) (hd:st.df=[]) (h:P (.tup [],st.ob,st.tk,st.nx)):kEndS [] P e st:=by
 refine ⟨_,?_,h⟩
 rcases he with rfl | rfl <;> simp [endS,hd]
theorem wrapN {x:Int} (h1:-1000000000≤x) (h2:x≤1000000000):IntKind.i64.wrap x=x:=wrap64' (by omega) (by omega)
theorem sv157 {Yf:YF} {l u a b:Nat} {d:Array Int} (hd:d.size≤1000000) (hb:b≤d.size) (hab:a≤b) {ob:Nat→Option Obj'} {tk:Nat→Bool} {ro base ub:Nat} (ho:ob l=some ⟨u,.cells (arr intC d)⟩) (hro:ro≤u) :
 ∃ r,EvS E Yf.y 157 [.osl l u 0 d.size 1,.int .i64 a,.int .i64 b] ob tk ro base ub r∧At l u (arr intC (insertionSort ltInt d a b)) ob tk ub r.2.1 r.2.2.1 r.2.2.2:=by
 refine EvS_wp (af:=S157) rfl (by decide) ?_
 show wpC E Yf S157.body _ (kEndS S157.res _)
 have w1:IntKind.i64.wrap ((a:Int)+1)=(a:Int)+1:=wrapN (by omega) (by omega)
 simp [S157,w1]
 refine wp_loopUp [(6,7),(10,48)] (b - a) (fun k s=>s.tm 6 = .int .i64 ((a:Int)+1+k)∧∃ d1:Array Int,insOuter ltInt a b (a+1+k) d1=insertionSort ltInt d a b∧d1.size=d.size∧At l u (arr intC d1) ob tk ub s.ob s.tk s.nx) rfl rfl
  ⟨by simp,d,rfl,rfl,by simp [ho],by simp,by simp,by simp;omega⟩ ?_
 rintro k s hk ⟨h6,d1,e1,z1,a1,a2,a3,a4⟩ f
 have f0:s.tm 0 = .osl l u 0 d.size 1:=by rw [f.t 0 (by simp)];simp
 have f1:s.tm 1 = .int .i64 a:=by rw [f.t 1 (by simp)];simp
 have f2:s.tm 2 = .int .i64 b:=by rw [f.t 2 (by simp)];simp
 have fd:s.df=[]:=by rw [f.d];simp
 have fr:s.ro=ro:=by rw [f.r];simp
 clear f
 by_cases hlt:a+1+k<b
 ·have c1:(a:Int)+1+k<b:=by omega
  have hout:insOuter ltInt a b (a+1+k) d1=insOuter ltInt a b (a+1+(k+1)) (insInner ltInt a (a+1+k) d1):=by
   conv=>lhs;rw [insOuter,if_pos hlt]
   rfl
  have w2:IntKind.i64.wrap ((a:Int)+1+k+1)=(a:Int)+1+(k+1):=by rw [wrapN (by omega) (by omega)];omega
  simp [h6,f2,c1]
  refine wp_loopUp [(7,7),(16,48)] (a+1+k) (fun j s'=>s'.tm 7 = .int .i64 ((a+1+k - j:Nat):Int)∧∃ d2:Array Int,insInner ltInt a (a+1+k - j) d2=insInner ltInt a (a+1+k) d1∧d2.size=d.size∧At l u (arr intC d2) ob tk ub s'.ob s'.tk s'.nx) rfl rfl
   ⟨by simp,d1,rfl,z1,by simp [a1],by simpa using a2,by simp [a3],by simp;omega⟩ ?_
  rintro j s1 hj ⟨h7,d2,e2,z2,b1,b2,b3,b4⟩ f
  have g0:s1.tm 0 = .osl l u 0 d.size 1:=by rw [f.t 0 (by simp)];simp [f0]
  have g1:s1.tm 1 = .int .i64 a:=by rw [f.t 1 (by simp)];simp [f1]
  have g6:s1.tm 6 = .int .i64 ((a:Int)+1+k):=by rw [f.t 6 (by simp)];simp [h6]
  have gd:s1.df=[]:=by rw [f.d];simp [fd]
  have gr:s1.ro=ro:=by rw [f.r];simp [fr]
  clear f
  by_cases hgt:a<a+1+k - j
  ·obtain ⟨m,hm⟩:∃ m,a+1+k - j=m+1:=⟨a+1+k - j - 1,by omega⟩
   rw [hm] at h7 e2 hgt
   have i1:idxSlV 1 (.osl l u 0 d.size 1) (.int .i64 ((m+1:Nat):Int))=some (.ptr l u ((m+1) * 1)):=idxA (by omega) (by omega)
   have i0:idxSlV 1 (.osl l u 0 d.size 1) (.int .i64 ((m:Nat):Int))=some (.ptr l u (m * 1)):=idxA (by omega) (by omega)
   have w3:IntKind.i64.wrap (((m+1:Nat):Int) - 1)=(m:Nat):=by rw [wrapN (by omega) (by omega)];omega
   have l1:=ldI b1 (x:=m+1) (by omega)
   have l0:=ldI b1 (x:=m) (by omega)
   have c2:(a:Int)<((m+1:Nat):Int):=by omega
   generalize hM1:((m+1:Nat):Int)=M1 at *
   generalize hM0:((m:Nat):Int)=M0 at *
   simp only [Nat.mul_one] at i1 i0 l1 l0
   simp [h7,g0,g1,c2,i1,i0,w3,l1,l0]
   have st1:=stI (d:=d2) (x:=m+1) (by omega) d2[m]!
   have st2:=stI (d:=d2.setIfInBounds (m+1) d2[m]!) (x:=m) (by simp;omega) d2[m+1]!
   have hsw:(d2.setIfInBounds (m+1) d2[m]!).setIfInBounds m d2[m+1]! = swp d2 (m+1) m:=rfl
   rw [hsw] at st2
   have hz1:m+1+1≤d2.size:=by omega
   have hz2:m+1≤d2.size:=by omega
   have hro':ro≤u:=hro
   refine kS_ev (ev163 d2[m+1]! d2[m]!) (by simp) rfl (by simp) ?_
   simp
   cases hl:ltInt d2[m+1]! d2[m]!
   ·have e3:insInner ltInt a (m+1) d2=d2:=by rw [insInner];simp [hl]
    rw [e3] at e2
    simp [g6,w2]
    refine ⟨by omega,d2,?_,z2,by simpa [At] using ⟨b1,b2,b3,by omega⟩⟩
    rw [← e1,hout,← e2]
   ·have e3:insInner ltInt a (m+1) d2=insInner ltInt a m (swp d2 (m+1) m):=by rw [insInner];simp [hl,hgt]
    have hj1:a+1+k - (j+1)=m:=by omega
    simp [h7,g0,i1,i0,w3,l1,l0,objCells,b1,st1,st2,hz1,hz2,hro',gr]
    refine ⟨by omega,by rw [hj1,hM0],swp d2 (m+1) m,by rw [hj1,← e3,e2],by rw [swp_size];exact z2,?_⟩
    simp [At,app_tk0,b3]
    refine ⟨fun key h1 h2=>?_,by omega⟩
    simp only [if_neg h1]
    exact b2 key h1 h2
  ·have e3:insInner ltInt a (a+1+k - j) d2=d2:=by
    cases hc:a+1+k - j with
    | zero=>rfl
    | succ m=>rw [insInner];simp;omega
   rw [e3] at e2
   have c3:¬ (a:Int)<((a+1+k - j:Nat):Int):=by omega
   generalize ((a+1+k - j:Nat):Int)=J at *
   simp [h7,g1,c3,g6,w2]
   refine ⟨by omega,d2,?_,z2,by simpa [At] using ⟨b1,b2,b3,by omega⟩⟩
   rw [← e1,hout,← e2]
 ·have c1:¬ (a:Int)+1+k<b:=by omega
  have e3:insOuter ltInt a b (a+1+k) d1=d1:=by rw [insOuter,if_neg hlt]
  rw [e3] at e1
  subst e1
  simp [h6,f2,c1]
  exact endS_nil (Or.inl rfl) (by simp [fd]) (by simpa [At] using ⟨a1,a2,a3,by omega⟩)
end Go.Pv.T

/- Heap sort, where the cells lie. -/
namespace Go.Pv.T
open Go Go.Pv Go.Sort
theorem idxN {l u n x:Nat} {kk:IntKind} {X:Int} (hX:X=(x:Nat)) (hx:x<n):idxSlV 1 (.osl l u 0 n 1) (.int kk X)=some (.ptr l u x):=by
 subst hX
 have:=idxA (sz:=1) (l:=l) (u:=u) (n:=n) (kk:=kk) (x:=(x:Int)) (by omega) (by omega)
 simpa using this
theorem ldN {ob:Nat→Option Obj'} {l u:Nat} {d:Array Int} {x:Nat} (ho:ob l=some ⟨u,.cells (arr intC d)⟩) (hx:x<d.size):loadV ob none (.ptr l u x)=some (.int .i64 d[x]!):=by
 have:=ldI ho hx
 rwa [Nat.mul_one] at this
theorem At.swap {l u:Nat} {d2:Array Int} {cs:List V} {ob:Nat→Option Obj'} {tk:Nat→Bool} {ub:Nat} {ob1:Nat→Option Obj'} {tk1:Nat→Bool} {ub1:Nat} {ob2:Nat→Option Obj'} {tk2:Nat→Bool} {ub2:Nat} (h:At l u (arr intC d2) ob tk ub ob1 tk1 ub1)
 (h1:ob2 l=some ⟨u,.cells cs⟩) (h2:∀ key,key≠l→ob2 key=ob1 key) (h3:tk2=tk1) (h4:ub1≤ub2):At l u cs ob tk ub ob2 tk2 ub2 :=
 ⟨h1,fun key a b=>(h2 key a).trans (h.2.1 key a b),h3.trans h.2.2.1,Nat.le_trans h.2.2.2 h4⟩
theorem sv200 {Yf:YF} {l u lo hi first:Nat} {d:Array Int} (hd:d.size≤1000000) (hf:first+hi≤d.size) (hlo:lo≤d.size) {ob:Nat→Option Obj'} {tk:Nat→Bool} {ro base ub:Nat} (ho:ob l=some ⟨u,.cells (arr intC d)⟩) (hro:ro≤u) :
 ∃ r,EvS E Yf.y 200 [.osl l u 0 d.size 1,.int .i64 lo,.int .i64 hi,.int .i64 first] ob tk ro base ub r∧At l u (arr intC (siftDown ltInt hi first lo d)) ob tk ub r.2.1 r.2.2.1 r.2.2.2:=by
 refine EvS_wp (af:=S200) rfl (by decide) ?_
 show wpC E Yf S200.body _ (kEndS S200.res _)
 simp [S200]
 obtain ⟨I,hI⟩:∃ I:Nat→St→Prop,I=fun n s=>∃ root:Nat,n=hi - root∧root≤d.size∧s.tm 8 = .int .i64 root∧∃ d1:Array Int,siftDown ltInt hi first root d1=siftDown ltInt hi first lo d∧d1.size=d.size∧At l u (arr intC d1) ob tk ub s.ob s.tk s.nx:=⟨_,rfl⟩
 refine wp_loopF (n:=hi - lo) [(8,9),(11,75)] I rfl rfl (by rw [hI];exact ⟨lo,rfl,hlo,by simp,d,rfl,rfl,by simp [At,ho];omega⟩) ?_
 intro n s hIs f
 rw [hI] at hIs
 obtain ⟨root,rfl,hrs,h8,d1,e1,z1,hat⟩:=hIs
 have f0:s.tm 0 = .osl l u 0 d.size 1:=by rw [f.t 0 (by simp)];simp
 have f2:s.tm 2 = .int .i64 hi:=by rw [f.t 2 (by simp)];simp
 have f3:s.tm 3 = .int .i64 first:=by rw [f.t 3 (by simp)];simp
 have fd:s.df=[]:=by rw [f.d];simp
 have fr:s.ro=ro:=by rw [f.r];simp
 clear f
 obtain ⟨R,hR⟩:∃ x:Int,x=(root:Nat):=⟨_,rfl⟩
 obtain ⟨R2,hR2⟩:∃ x:Int,x=2 * R:=⟨_,rfl⟩
 obtain ⟨C,hC⟩:∃ x:Int,x=R2+1:=⟨_,rfl⟩
 obtain ⟨C1,hC1⟩:∃ x:Int,x=C+1:=⟨_,rfl⟩
 obtain ⟨F,hF⟩:∃ x:Int,x=(first:Nat):=⟨_,rfl⟩
 obtain ⟨H,hH⟩:∃ x:Int,x=(hi:Nat):=⟨_,rfl⟩
 obtain ⟨FR,hFR⟩:∃ x:Int,x=F+R:=⟨_,rfl⟩
 obtain ⟨FC,hFC⟩:∃ x:Int,x=F+C:=⟨_,rfl⟩
 obtain ⟨FC1,hFC1⟩:∃ x:Int,x=FC+1:=⟨_,rfl⟩
 have w1:IntKind.i64.wrap (2 * R)=R2:=by rw [wrapN (by omega) (by omega)];exact hR2.symm
 have w2:IntKind.i64.wrap (R2+1)=C:=by rw [wrapN (by omega) (by omega)];exact hC.symm
 have w3:IntKind.i64.wrap (C+1)=C1:=by rw [wrapN (by omega) (by omega)];exact hC1.symm
 have w4:IntKind.i64.wrap (F+R)=FR:=by rw [wrapN (by omega) (by omega)];exact hFR.symm
 have w5:IntKind.i64.wrap (F+C)=FC:=by rw [wrapN (by omega) (by omega)];exact hFC.symm
 have w6:IntKind.i64.wrap (FC+1)=FC1:=by rw [wrapN (by omega) (by omega)];exact hFC1.symm
 have w7:IntKind.i64.wrap (F+C1)=FC1:=by rw [wrapN (by omega) (by omega)];omega
 rw [← hR] at h8
 rw [← hH] at f2
 rw [← hF] at f3
 by_cases hc:hi≤2 * root+1
 ·have c1:H≤C:=by omega
  have e3:siftDown ltInt hi first root d1=d1:=by rw [siftDown];simp;omega
  rw [e3] at e1
  subst e1
  simp [h8,w1,w2,f2,c1]
  exact endS_nil (Or.inl rfl) (by simp [fd]) (hat.swap (by simp [hat.1]) (by simp) (by simp) (by simp;omega))
 have c1:¬ H≤C:=by omega
 have i0:=idxN (l:=l) (u:=u) (n:=d.size) (kk:=.i64) (X:=FR) (x:=first+root) (by omega) (by omega)
 have i1:=idxN (l:=l) (u:=u) (n:=d.size) (kk:=.i64) (X:=FC) (x:=first+(2 * root+1)) (by omega) (by omega)
 have l0:=ldN hat.1 (x:=first+root) (by omega)
 have l1:=ldN hat.1 (x:=first+(2 * root+1)) (by omega)
 have c0:¬ hi≤2 * root+1:=hc
 simp [h8,w1,w2,f2,c1]
 by_cases hr:2 * root+1+1<hi
 ·have c2:C1<H:=by omega
  have i2:=idxN (l:=l) (u:=u) (n:=d.size) (kk:=.i64) (X:=FC1) (x:=first+(2 * root+2)) (by omega) (by omega)
  have l2:=ldN hat.1 (x:=first+(2 * root+2)) (by omega)
  simp [w3,c2,f0,f3,w5,w6,i1,l1,i2,l2]
  refine kS_ev (ev163 d1[first+(2 * root+1)]! d1[first+(2 * root+2)]!) (by simp) rfl (by simp) ?_
  have hi3:first+(2 * root+1)+1=first+(2 * root+2):=rfl
  cases hl:ltInt d1[first+(2 * root+1)]! d1[first+(2 * root+2)]!
  ·simp
   simp [h8,w4,f0,f3,i0,l0,i1,l1,w5]
   refine kS_ev (ev163 d1[first+root]! d1[first+(2 * root+1)]!) (by simp) rfl (by simp) ?_
   cases hl2:ltInt d1[first+root]! d1[first+(2 * root+1)]!
   ·have e3:siftDown ltInt hi first root d1=d1:=by rw [siftDown];simp [c0,hr,hi3,hl,hl2]
    rw [e3] at e1
    subst e1
    simp
    exact endS_nil (Or.inr rfl) (by simp [fd]) (hat.swap (by simp [hat.1]) (by simp) (by simp) (by simp;omega))
   ·have e3:siftDown ltInt hi first root d1=siftDown ltInt hi first (2 * root+1) (swp d1 (first+root) (first+(2 * root+1))):=by rw [siftDown];simp [c0,hr,hi3,hl,hl2]
    have st1:=stI (d:=d1) (x:=first+root) (by omega) d1[first+(2 * root+1)]!
    have st2:=stI (d:=d1.setIfInBounds (first+root) d1[first+(2 * root+1)]!) (x:=first+(2 * root+1)) (by rw [Array.size_setIfInBounds];omega) d1[first+root]!
    have hsw:(d1.setIfInBounds (first+root) d1[first+(2 * root+1)]!).setIfInBounds (first+(2 * root+1)) d1[first+root]! = swp d1 (first+root) (first+(2 * root+1)):=rfl
    rw [hsw] at st2
    have hz1:first+root+1≤d1.size:=by omega
    have hz2:first+(2 * root+1)+1≤d1.size:=by omega
    simp [h8,w4,f0,f3,i0,l0,i1,l1,w5,objCells,hat.1,fr,hro,st1,st2,hz1,hz2]
    exact ⟨hi - (2 * root+1),by omega,by rw [hI];exact ⟨2 * root+1,rfl,by omega,by simp;omega,swp d1 (first+root) (first+(2 * root+1)),by rw [← e3,e1],by rw [swp_size];exact z1,hat.swap (by simp) (fun key hk=>by simp [hk]) (by simp [app_tk0]) (by simp;omega)⟩⟩
  ·simp [w3]
   simp [h8,w4,f0,f3,i0,l0,i2,l2,w7]
   refine kS_ev (ev163 d1[first+root]! d1[first+(2 * root+2)]!) (by simp) rfl (by simp) ?_
   cases hl2:ltInt d1[first+root]! d1[first+(2 * root+2)]!
   ·have e3:siftDown ltInt hi first root d1=d1:=by rw [siftDown];simp [c0,hr,hi3,hl,hl2]
    rw [e3] at e1
    subst e1
    simp
    exact endS_nil (Or.inr rfl) (by simp [fd]) (hat.swap (by simp [hat.1]) (by simp) (by simp) (by simp;omega))
   ·have e3:siftDown ltInt hi first root d1=siftDown ltInt hi first (2 * root+2) (swp d1 (first+root) (first+(2 * root+2))):=by rw [siftDown];simp [c0,hr,hi3,hl,hl2]
    have st1:=stI (d:=d1) (x:=first+root) (by omega) d1[first+(2 * root+2)]!
    have st2:=stI (d:=d1.setIfInBounds (first+root) d1[first+(2 * root+2)]!) (x:=first+(2 * root+2)) (by rw [Array.size_setIfInBounds];omega) d1[first+root]!
    have hsw:(d1.setIfInBounds (first+root) d1[first+(2 * root+2)]!).setIfInBounds (first+(2 * root+2)) d1[first+root]! = swp d1 (first+root) (first+(2 * root+2)):=rfl
    rw [hsw] at st2
    have hz1:first+root+1≤d1.size:=by omega
    have hz2:first+(2 * root+2)+1≤d1.size:=by omega
    simp [h8,w4,f0,f3,i0,l0,i2,l2,w7,objCells,hat.1,fr,hro,st1,st2,hz1,hz2]
    exact ⟨hi - (2 * root+2),by omega,by rw [hI];exact ⟨2 * root+2,rfl,by omega,by simp;omega,swp d1 (first+root) (first+(2 * root+2)),by rw [← e3,e1],by rw [swp_size];exact z1,hat.swap (by simp) (fun key hk=>by simp [hk]) (by simp [app_tk0]) (by simp;omega)⟩⟩
 ·have c2:¬ C1<H:=by omega
  simp [w3,c2]
  simp [h8,w4,f0,f3,i0,l0,i1,l1,w5]
  refine kS_ev (ev163 d1[first+root]! d1[first+(2 * root+1)]!) (by simp) rfl (by simp) ?_
  cases hl2:ltInt d1[first+root]! d1[first+(2 * root+1)]!
  ·have e3:siftDown ltInt hi first root d1=d1:=by rw [siftDown];simp [c0,hr,hl2]
   rw [e3] at e1
   subst e1
   simp
   exact endS_nil (Or.inr rfl) (by simp [fd]) (hat.swap (by simp [hat.1]) (by simp) (by simp) (by simp;omega))
  ·have e3:siftDown ltInt hi first root d1=siftDown ltInt hi first (2 * root+1) (swp d1 (first+root) (first+(2 * root+1))):=by rw [siftDown];simp [c0,hr,hl2]
   have st1:=stI (d:=d1) (x:=first+root) (by omega) d1[first+(2 * root+1)]!
   have st2:=stI (d:=d1.setIfInBounds (first+root) d1[first+(2 * root+1)]!) (x:=first+(2 * root+1)) (by rw [Array.size_setIfInBounds];omega) d1[first+root]!
   have hsw:(d1.setIfInBounds (first+root) d1[first+(2 * root+1)]!).setIfInBounds (first+(2 * root+1)) d1[first+root]! = swp d1 (first+root) (first+(2 * root+1)):=rfl
   rw [hsw] at st2
   have hz1:first+root+1≤d1.size:=by omega
   have hz2:first+(2 * root+1)+1≤d1.size:=by omega
   simp [h8,w4,f0,f3,i0,l0,i1,l1,w5,objCells,hat.1,fr,hro,st1,st2,hz1,hz2]
   exact ⟨hi - (2 * root+1),by omega,by rw [hI];exact ⟨2 * root+1,rfl,by omega,by simp;omega,swp d1 (first+root) (first+(2 * root+1)),by rw [← e3,e1],by rw [swp_size];exact z1,hat.swap (by simp) (fun key hk=>by simp [hk]) (by simp [app_tk0]) (by simp;omega)⟩⟩
end Go.Pv.T

/- Calls that share; heap sort. -/
namespace Go.Pv.T
open Go Go.Pv Go.Sort
def retS (st:St) (d:Option Nat) (v:V) (ob:Nat→Option Obj') (tk:Nat→Bool):St:={ st with tm:=put st.tm d v,ob:=ob,tk:=tk }
section
variable {st:St} {d:Option Nat} {v:V} {ob:Nat→Option Obj'} {tk:Nat→Bool}
@[simp] theorem retS_tm (e n:Nat):(retS st (some e) v ob tk).tm n=if n=e then v else st.tm n:=by simp [retS,put,upd_apply]
@[simp] theorem retS_tm0 (n:Nat):(retS st none v ob tk).tm n=st.tm n:=rfl
@[simp] theorem retS_ob:(retS st d v ob tk).ob=ob:=rfl
@[simp] theorem retS_tk:(retS st d v ob tk).tk=tk:=rfl
@[simp] theorem retS_ro:(retS st d v ob tk).ro=st.ro:=rfl
@[simp] theorem retS_nx:(retS st d v ob tk).nx=st.nx:=rfl
@[simp] theorem retS_fb:(retS st d v ob tk).fb=st.fb:=rfl
@[simp] theorem retS_df:(retS st d v ob tk).df=st.df:=rfl
end
@[simp] theorem nilCheckV_ptr (l u o:Nat):nilCheckV (.ptr l u o)=some (.ptr l u o):=rfl
theorem kS_callP {Yf:YF} {f:FuncId} {xs:List A} {st:St} {ub:Nat} {K:St→Nat→Prop} {d:Option Nat} {nm:Bool} {vs:List V} {P:V × (Nat→Option Obj') × (Nat→Bool) × Nat→Prop} (hx:xs.map (eval E st.tm)=vs) (hs:E.sh nm f=true)
 (he:∃ r,EvS E Yf.y f vs st.ob st.tk st.ro ((st.fb+d.getD 0+1) * 1024) ub r∧P r) (h:∀ v ob' tk' ub',P (v,ob',tk',ub')→K (retS st d v ob' tk') ub'):wpStep E Yf ⟨d,.call f xs,none,nm⟩ st ub K:=by
 obtain ⟨r,hr,hP⟩:=he
 exact kS_callS hx hs ⟨r,hr,h r.1 r.2.1 r.2.2.1 r.2.2.2 hP⟩
theorem endS_2 {st:St} {x y:Nat} {P:V × (Nat→Option Obj') × (Nat→Bool) × Nat→Prop} (hd:st.df=[]) (h:P (.tup [st.tm x,st.tm y],st.ob,st.tk,st.nx)):kEndS [.t x,.t y] P .ret st:=⟨_,by simp [endS,hd,resOf],h⟩
theorem endS_1 {st:St} {x:Nat} {P:V × (Nat→Option Obj') × (Nat→Bool) × Nat→Prop} (hd:st.df=[]) (h:P (st.tm x,st.ob,st.tk,st.nx)):kEndS [.t x] P .ret st:=⟨_,by simp [endS,hd,resOf],h⟩
theorem At.refl {l u:Nat} {cs:List V} {ob:Nat→Option Obj'} {tk:Nat→Bool} {ub:Nat} (h:ob l=some ⟨u,.cells cs⟩):At l u cs ob tk ub ob tk ub:=⟨h,fun _ _ _=>rfl,rfl,Nat.le_refl _⟩
theorem At.trans {l u:Nat} {cs cs':List V} {ob ob1 ob2:Nat→Option Obj'} {tk tk1 tk2:Nat→Bool} {ub ub1 ub1' ub2:Nat} (h:At l u cs ob tk ub ob1 tk1 ub1) (h':At l u cs' ob1 tk1 ub1' ob2 tk2 ub2) (hu:ub1≤ub1'):At l u cs' ob tk ub ob2 tk2 ub2 :=
 ⟨h'.1,fun key a b=>(h'.2.1 key a (fun m hm=>b m (by have:=h.2.2.2;omega))).trans (h.2.1 key a b),h'.2.2.1.trans h.2.2.1,by have:=h.2.2.2;have:=h'.2.2.2;omega⟩
theorem At.same {l u:Nat} {cs:List V} {ob ob1 ob2:Nat→Option Obj'} {tk tk1 tk2:Nat→Bool} {ub ub1 ub2:Nat} (h:At l u cs ob tk ub ob1 tk1 ub1) (h1:ob2=ob1) (h2:tk2=tk1) (hu:ub1≤ub2):At l u cs ob tk ub ob2 tk2 ub2:=by
 subst h1 h2
 exact ⟨h.1,h.2.1,h.2.2.1,Nat.le_trans h.2.2.2 hu⟩
theorem siftDown_size (lt:Int→Int→Bool) (hi first root:Nat) (d:Array Int):(siftDown lt hi first root d).size=d.size:=by
 fun_induction siftDown lt hi first root d <;> simp_all [swp_size]
theorem sv158 {Yf:YF} {l u a b:Nat} {d:Array Int} (hd:d.size≤1000000) (hb:b≤d.size) (hab:a≤b) {ob:Nat→Option Obj'} {tk:Nat→Bool} {ro base ub:Nat} (ho:ob l=some ⟨u,.cells (arr intC d)⟩) (hro:ro≤u) :
 ∃ r,EvS E Yf.y 158 [.osl l u 0 d.size 1,.int .i64 a,.int .i64 b] ob tk ro base ub r∧At l u (arr intC (heapSort ltInt d a b)) ob tk ub r.2.1 r.2.2.1 r.2.2.2:=by
 refine EvS_wp (af:=S158) rfl (by decide) ?_
 show wpC E Yf S158.body _ (kEndS S158.res _)
 obtain ⟨A,hA⟩:∃ x:Int,x=(a:Nat):=⟨_,rfl⟩
 obtain ⟨B,hB⟩:∃ x:Int,x=(b:Nat):=⟨_,rfl⟩
 obtain ⟨H,hH⟩:∃ x:Int,x=B - A:=⟨_,rfl⟩
 obtain ⟨H1,hH1⟩:∃ x:Int,x=H - 1:=⟨_,rfl⟩
 have w1:IntKind.i64.wrap (B - A)=H:=by rw [wrapN (by omega) (by omega)];exact hH.symm
 have w2:IntKind.i64.wrap (H - 1)=H1:=by rw [wrapN (by omega) (by omega)];exact hH1.symm
 have w3:IntKind.i64.wrap (H1.tdiv 2)=(((b - a - 1) / 2+1:Nat):Int) - 1:=by
  rcases Nat.eq_zero_or_pos (b - a) with h | h
  ·have:H1 = -1:=by omega
   rw [this,h];rfl
  ·have:H1=((b - a - 1:Nat):Int):=by omega
   have e:H1.tdiv 2=(((b - a - 1) / 2:Nat):Int):=by rw [this];exact (Int.ofNat_tdiv _ 2).symm
   rw [e,wrapN (by omega) (by omega)]
   omega
 rw [← hA,← hB]
 obtain ⟨K0,hK0⟩:∃ k,k=(b - a - 1) / 2+1:=⟨_,rfl⟩
 rw [← hK0] at w3
 obtain ⟨J0,hJ0⟩:∃ x:Int,x=(K0:Int) - 1:=⟨_,rfl⟩
 rw [← hJ0] at w3
 simp [S158,w1,w2,w3]
 obtain ⟨I,hI⟩:∃ I:Nat→St→Prop,I=fun n s=>s.tm 9 = .int .i64 ((n:Int) - 1)∧n≤K0∧∃ d1:Array Int,heapBuild ltInt (b - a) a n d1=heapBuild ltInt (b - a) a K0 d∧d1.size=d.size∧At l u (arr intC d1) ob tk ub s.ob s.tk s.nx:=⟨_,rfl⟩
 refine wp_loopF (n:=K0) [(9,9),(18,26)] I rfl rfl (by rw [hI];exact ⟨by simp [hJ0],Nat.le_refl _,d,rfl,rfl,(At.refl ho).same (by simp) (by simp) (by simp;omega)⟩) ?_
 intro n s hIs f
 rw [hI] at hIs
 obtain ⟨h9,hnK,d1,e1,z1,hat⟩:=hIs
 have f0:s.tm 0 = .osl l u 0 d.size 1:=by rw [f.t 0 (by simp)];simp
 have f6:s.tm 6 = .int .i64 A:=by rw [f.t 6 (by simp)];simp
 have f7:s.tm 7 = .int .i64 0:=by rw [f.t 7 (by simp)];simp
 have f8:s.tm 8 = .int .i64 H:=by rw [f.t 8 (by simp)];simp
 have fd:s.df=[]:=by rw [f.d];simp
 have fr:s.ro=ro:=by rw [f.r];simp
 clear f
 cases n with
 | succ m =>
  obtain ⟨J,hJ⟩:∃ x:Int,x=((m+1:Nat):Int) - 1:=⟨_,rfl⟩
  rw [← hJ] at h9
  have c1:0≤J:=by omega
  have w4:IntKind.i64.wrap (J - 1)=(m:Int) - 1:=by rw [wrapN (by omega) (by omega)];omega
  simp [h9,c1,f0,f8,f6]
  refine kS_callP (vs:=[.osl l u 0 d1.size 1,.int .i64 (m:Nat),.int .i64 ((b - a:Nat):Int),.int .i64 (a:Nat)]) (by simp [z1];omega) rfl (sv200 (l:=l) (u:=u) (d:=d1) (by omega) (by omega) (by omega) (by simp [hat.1]) (by simp [fr,hro])) ?_
  rintro v ob' tk' ub' hat2
  simp [h9,w4]
  refine ⟨m,by omega,?_⟩
  rw [hI]
  exact ⟨by simp,by omega,siftDown ltInt (b - a) a m d1,by rw [← e1];rfl,by rw [siftDown_size];exact z1,(hat.trans hat2 (by omega)).same rfl rfl (by simp;omega)⟩
 | zero =>
  have e3:d1=heapBuild ltInt (b - a) a K0 d:=by rw [← e1];rfl
  have w5:IntKind.i64.wrap (H - 1)=((b - a:Nat):Int) - 1:=by rw [wrapN (by omega) (by omega)];omega
  simp [h9,f8,w5]
  obtain ⟨I2,hI2⟩:∃ I:Nat→St→Prop,I=fun n s=>s.tm 10 = .int .i64 ((n:Int) - 1)∧n≤b - a∧∃ d2:Array Int,heapPop ltInt a n d2=heapSort ltInt d a b∧d2.size=d.size∧At l u (arr intC d2) ob tk ub s.ob s.tk s.nx:=⟨_,rfl⟩
  refine wp_loopF (n:=b - a) [(10,10),(29,55)] I2 rfl rfl (by rw [hI2];exact ⟨by simp,Nat.le_refl _,d1,by rw [e3,hK0];rfl,z1,hat.same rfl rfl (by simp;omega)⟩) ?_
  intro n s1 hIs f
  rw [hI2] at hIs
  obtain ⟨h10,hnB,d2,e2,z2,hat1⟩:=hIs
  have g0:s1.tm 0 = .osl l u 0 d.size 1:=by rw [f.t 0 (by simp)];simp [f0]
  have g6:s1.tm 6 = .int .i64 A:=by rw [f.t 6 (by simp)];simp [f6]
  have g7:s1.tm 7 = .int .i64 0:=by rw [f.t 7 (by simp)];simp [f7]
  have gd:s1.df=[]:=by rw [f.d];simp [fd]
  have gr:s1.ro=ro:=by rw [f.r];simp [fr]
  clear f
  cases n with
  | succ m =>
   obtain ⟨J,hJ⟩:∃ x:Int,x=((m+1:Nat):Int) - 1:=⟨_,rfl⟩
   rw [← hJ] at h10
   obtain ⟨AJ,hAJ⟩:∃ x:Int,x=A+J:=⟨_,rfl⟩
   have c1:0≤J:=by omega
   have w4:IntKind.i64.wrap (J - 1)=(m:Int) - 1:=by rw [wrapN (by omega) (by omega)];omega
   have w6:IntKind.i64.wrap (A+J)=AJ:=by rw [wrapN (by omega) (by omega)];exact hAJ.symm
   have i0:=idxN (l:=l) (u:=u) (n:=d.size) (kk:=.i64) (X:=A) (x:=a) (by omega) (by omega)
   have i1:=idxN (l:=l) (u:=u) (n:=d.size) (kk:=.i64) (X:=AJ) (x:=a+m) (by omega) (by omega)
   have l0:=ldN hat1.1 (x:=a) (by omega)
   have l1:=ldN hat1.1 (x:=a+m) (by omega)
   have st1:=stI (d:=d2) (x:=a) (by omega) d2[a+m]!
   have st2:=stI (d:=d2.setIfInBounds a d2[a+m]!) (x:=a+m) (by rw [Array.size_setIfInBounds];omega) d2[a]!
   have hsw:(d2.setIfInBounds a d2[a+m]!).setIfInBounds (a+m) d2[a]! = swp d2 a (a+m):=rfl
   rw [hsw] at st2
   have hz1:a+1≤d2.size:=by omega
   have hz2:a+m+1≤d2.size:=by omega
   have hzs:(swp d2 a (a+m)).size=d2.size:=swp_size _ _ _
   simp [h10,c1,g0,g6,w6,i0,i1,l0,l1,objCells,hat1.1,gr,hro,st1,st2,hz1,hz2,g7]
   have hat2:∀ (ob2:Nat→Option Obj') (tk2:Nat→Bool) (ub2:Nat),ob2 l=some ⟨u,.cells (arr intC (swp d2 a (a+m)))⟩→(∀ key,key≠l→ob2 key=s1.ob key)→tk2=s1.tk→s1.nx≤ub2→At l u (arr intC (swp d2 a (a+m))) ob tk ub ob2 tk2 ub2:=fun _ _ _ q1 q2 q3 q4=>hat1.swap q1 q2 q3 q4
   refine kS_callP (vs:=[.osl l u 0 (swp d2 a (a+m)).size 1,.int .i64 (0:Nat),.int .i64 (m:Nat),.int .i64 (a:Nat)]) (by simp [hzs,z2];omega) rfl (sv200 (l:=l) (u:=u) (d:=swp d2 a (a+m)) (by omega) (by omega) (by omega) (by simp) (by simp [gr,hro])) ?_
   rintro v ob' tk' ub' hat3
   have hat4:=(hat2 _ _ _ (by simp) (fun key hk=>by simp [hk]) (by simp [app_tk0]) (by omega)).trans hat3 (Nat.le_refl _)
   simp [h10,w4]
   refine ⟨m,by omega,?_⟩
   rw [hI2]
   exact ⟨by simp,by omega,siftDown ltInt m a 0 (swp d2 a (a+m)),by rw [← e2];rfl,by rw [siftDown_size,swp_size];exact z2,hat4.same rfl rfl (by simp;omega)⟩
  | zero =>
   have e4:d2=heapSort ltInt d a b:=by rw [← e2];rfl
   subst e4
   simp [h10]
   exact endS_nil (Or.inl rfl) (by simp [gd]) (hat1.same rfl rfl (by simp;omega))
end Go.Pv.T

/- Turning round; pivots. -/
namespace Go.Pv.T
open Go Go.Pv Go.Sort
theorem sv161 {Yf:YF} {l u a b:Nat} {d:Array Int} (hd:d.size≤1000000) (hb:b≤d.size) (hab:a<b) {ob:Nat→Option Obj'} {tk:Nat→Bool} {ro base ub:Nat} (ho:ob l=some ⟨u,.cells (arr intC d)⟩) (hro:ro≤u) :
 ∃ r,EvS E Yf.y 161 [.osl l u 0 d.size 1,.int .i64 a,.int .i64 b] ob tk ro base ub r∧At l u (arr intC (reverseRange d a b)) ob tk ub r.2.1 r.2.2.1 r.2.2.2:=by
 refine EvS_wp (af:=S161) rfl (by decide) ?_
 show wpC E Yf S161.body _ (kEndS S161.res _)
 have w1:IntKind.i64.wrap ((b:Int) - 1)=((b - 1:Nat):Int):=by rw [wrapN (by omega) (by omega)];omega
 simp [S161,w1]
 obtain ⟨I,hI⟩:∃ I:Nat→St→Prop,I=fun n s=>∃ i j:Nat,n=j - i∧i≤b∧j<b∧s.tm 6 = .int .i64 i∧s.tm 7 = .int .i64 j∧∃ d1:Array Int,reverseLoop i j d1=reverseRange d a b∧d1.size=d.size∧At l u (arr intC d1) ob tk ub s.ob s.tk s.nx:=⟨_,rfl⟩
 refine wp_loopF (n:=b - 1 - a) [(6,7),(11,31)] I rfl rfl (by rw [hI];exact ⟨a,b - 1,rfl,by omega,by omega,by simp,by simp,d,rfl,rfl,(At.refl ho).same rfl rfl (by simp;omega)⟩) ?_
 intro n s hIs f
 rw [hI] at hIs
 obtain ⟨i,j,rfl,hi,hj,h6,h7,d1,e1,z1,hat⟩:=hIs
 have f0:s.tm 0 = .osl l u 0 d.size 1:=by rw [f.t 0 (by simp)];simp
 have fd:s.df=[]:=by rw [f.d];simp
 have fr:s.ro=ro:=by rw [f.r];simp
 clear f
 obtain ⟨X,hX⟩:∃ x:Int,x=(i:Nat):=⟨_,rfl⟩
 obtain ⟨Z,hZ⟩:∃ x:Int,x=(j:Nat):=⟨_,rfl⟩
 rw [← hX] at h6
 rw [← hZ] at h7
 by_cases hij:i<j
 ·have c1:X<Z:=by omega
  have w2:IntKind.i64.wrap (X+1)=((i+1:Nat):Int):=by rw [wrapN (by omega) (by omega)];omega
  have w3:IntKind.i64.wrap (Z - 1)=((j - 1:Nat):Int):=by rw [wrapN (by omega) (by omega)];omega
  have i0:=idxN (l:=l) (u:=u) (n:=d.size) (kk:=.i64) (X:=X) (x:=i) (by omega) (by omega)
  have i1:=idxN (l:=l) (u:=u) (n:=d.size) (kk:=.i64) (X:=Z) (x:=j) (by omega) (by omega)
  have l0:=ldN hat.1 (x:=i) (by omega)
  have l1:=ldN hat.1 (x:=j) (by omega)
  have st1:=stI (d:=d1) (x:=i) (by omega) d1[j]!
  have st2:=stI (d:=d1.setIfInBounds i d1[j]!) (x:=j) (by rw [Array.size_setIfInBounds];omega) d1[i]!
  have hsw:(d1.setIfInBounds i d1[j]!).setIfInBounds j d1[i]! = swp d1 i j:=rfl
  rw [hsw] at st2
  have hz1:i+1≤d1.size:=by omega
  have hz2:j+1≤d1.size:=by omega
  have e3:reverseLoop i j d1=reverseLoop (i+1) (j - 1) (swp d1 i j):=by rw [reverseLoop,if_pos hij]
  generalize hN1:((i+1:Nat):Int)=N1 at *
  generalize hN2:((j - 1:Nat):Int)=N2 at *
  simp [h6,h7,c1,f0,i0,i1,l0,l1,objCells,hat.1,fr,hro,st1,st2,hz1,hz2,w2,w3]
  exact ⟨j - 1 - (i+1),by omega,by rw [hI];exact ⟨i+1,j - 1,rfl,by omega,by omega,by simp [hN1],by simp [hN2],swp d1 i j,by rw [← e3,e1],by rw [swp_size];exact z1,hat.swap (by simp) (fun key hk=>by simp [hk]) (by simp [app_tk0]) (by simp;omega)⟩⟩
 ·have c1:¬ X<Z:=by omega
  have e3:reverseLoop i j d1=d1:=by rw [reverseLoop,if_neg hij]
  rw [e3] at e1
  subst e1
  simp [h6,h7,c1]
  exact endS_nil (Or.inl rfl) (by simp [fd]) (hat.same rfl rfl (by simp;omega))
def Cn (w uw:Nat) (ob:Nat→Option Obj') (tk:Nat→Bool) (ub:Nat) (ob':Nat→Option Obj') (tk':Nat→Bool) (ub':Nat):Prop :=
 (∃ c,ob' w=some ⟨uw,.cells [.int .i64 c]⟩)∧(∀ key,key≠w→ob' key=ob key)∧tk'=tk∧ub≤ub'
theorem Cn.trans {w uw:Nat} {ob ob1 ob2:Nat→Option Obj'} {tk tk1 tk2:Nat→Bool} {ub ub1 ub1' ub2:Nat} (h:Cn w uw ob tk ub ob1 tk1 ub1) (h':Cn w uw ob1 tk1 ub1' ob2 tk2 ub2) (hu:ub1≤ub1'):Cn w uw ob tk ub ob2 tk2 ub2 :=
 ⟨h'.1,fun key a=>(h'.2.1 key a).trans (h.2.1 key a),h'.2.2.1.trans h.2.2.1,by have:=h.2.2.2;have:=h'.2.2.2;omega⟩
theorem sv240 {Yf:YF} {l u w uw a b:Nat} {d:Array Int} {c:Int} (ha:a<d.size) (hb:b<d.size) {ob:Nat→Option Obj'} {tk:Nat→Bool} {ro base ub:Nat} (ho:ob l=some ⟨u,.cells (arr intC d)⟩) (hw:ob w=some ⟨uw,.cells [.int .i64 c]⟩) (hro:ro≤uw) :
 ∃ r,EvS E Yf.y 240 [.osl l u 0 d.size 1,.int .i64 a,.int .i64 b,.ptr w uw 0] ob tk ro base ub r∧(∃ x y:Nat,r.1 = .tup [.int .i64 x,.int .i64 y]∧(x=a∧y=b∨x=b∧y=a))∧Cn w uw ob tk ub r.2.1 r.2.2.1 r.2.2.2:=by
 refine EvS_wp (af:=S240) rfl (by decide) ?_
 show wpC E Yf S240.body _ (kEndS S240.res _)
 have i0:=idxN (l:=l) (u:=u) (n:=d.size) (kk:=.i64) (X:=(a:Int)) (x:=a) rfl (by omega)
 have i1:=idxN (l:=l) (u:=u) (n:=d.size) (kk:=.i64) (X:=(b:Int)) (x:=b) rfl (by omega)
 have l0:=ldN ho (x:=a) (by omega)
 have l1:=ldN ho (x:=b) (by omega)
 simp [S240,i0,i1,l0,l1]
 refine kS_ev (ev163 d[b]! d[a]!) (by simp) rfl (by simp) ?_
 simp
 cases hl:ltInt d[b]! d[a]!
 ·simp
  exact endS_2 (by simp) ⟨⟨a,b,by simp,Or.inl ⟨rfl,rfl⟩⟩,⟨c,hw⟩,fun _ _=>rfl,rfl,by simp;omega⟩
 ·simp [objCells,hw,hro,splice]
  exact endS_2 (by simp) ⟨⟨b,a,by simp,Or.inr ⟨rfl,rfl⟩⟩,⟨IntKind.i64.wrap (c+1),by simp⟩,fun key hk=>by simp [hk],by simp [app_tk0],by simp;omega⟩
end Go.Pv.T

/- Pivots. -/
namespace Go.Pv.T
open Go Go.Pv Go.Sort
theorem sv204 {Yf:YF} {l u w uw a b c:Nat} {d:Array Int} {z:Int} (ha:a<d.size) (hb:b<d.size) (hc:c<d.size) (hlw:l≠w) {ob:Nat→Option Obj'} {tk:Nat→Bool} {ro base ub:Nat} (ho:ob l=some ⟨u,.cells (arr intC d)⟩) (hw:ob w=some ⟨uw,.cells [.int .i64 z]⟩) (hro:ro≤uw) :
 ∃ r,EvS E Yf.y 204 [.osl l u 0 d.size 1,.int .i64 a,.int .i64 b,.int .i64 c,.ptr w uw 0] ob tk ro base ub r∧(∃ x:Nat,r.1 = .int .i64 x∧(x=a∨x=b∨x=c))∧Cn w uw ob tk ub r.2.1 r.2.2.1 r.2.2.2:=by
 refine EvS_wp (af:=S204) rfl (by decide) ?_
 show wpC E Yf S204.body _ (kEndS S204.res _)
 simp [S204]
 refine kS_callP (vs:=[.osl l u 0 d.size 1,.int .i64 a,.int .i64 b,.ptr w uw 0]) (by simp) rfl (sv240 (c:=z) ha hb (by simpa using ho) (by simpa using hw) (by simpa using hro)) ?_
 rintro v ob1 tk1 ub1 ⟨⟨x,y,hv,hxy⟩,hC⟩
 simp only at hv
 subst hv
 obtain ⟨⟨c1,q1⟩,q2,q3,q4⟩:=id hC
 simp only at q1 q2 q3 q4
 have ho1:ob1 l=some ⟨u,.cells (arr intC d)⟩:=(q2 l hlw).trans (by simpa using ho)
 have hx:x<d.size:=by omega
 have hy:y<d.size:=by omega
 simp
 refine kS_callP (vs:=[.osl l u 0 d.size 1,.int .i64 y,.int .i64 c,.ptr w uw 0]) (by simp) rfl (sv240 (c:=c1) hy hc (by simpa using ho1) (by simpa using q1) (by simpa using hro)) ?_
 rintro v ob2 tk2 ub2 ⟨⟨x2,y2,hv,hxy2⟩,hC2⟩
 simp only at hv
 subst hv
 obtain ⟨⟨c2,p1⟩,p2,p3,p4⟩:=id hC2
 simp only at p1 p2 p3 p4
 have ho2:ob2 l=some ⟨u,.cells (arr intC d)⟩:=(p2 l hlw).trans (by simpa using ho1)
 have hx2:x2<d.size:=by omega
 simp
 refine kS_callP (vs:=[.osl l u 0 d.size 1,.int .i64 x,.int .i64 x2,.ptr w uw 0]) (by simp) rfl (sv240 (c:=c2) hx hx2 (by simpa using ho2) (by simpa using p1) (by simpa using hro)) ?_
 rintro v ob3 tk3 ub3 ⟨⟨x3,y3,hv,hxy3⟩,hC3⟩
 simp only at hv
 subst hv
 simp
 have h12:=hC.trans hC2 (by show ub1≤_;omega)
 have h13:=h12.trans hC3 (by show ub2≤_;omega)
 exact endS_1 (by simp) ⟨⟨y3,by simp,by omega⟩,h13.1,h13.2.1,h13.2.2.1,by have:=h13.2.2.2;simp at this ⊢;omega⟩
theorem kIf_gen {Yf:YF} {a b:C} {st:St} {Q:Ex→St→Prop} {c:Bool} (h:∀ s,s=st→kIf E Yf a b s Q c):kIf E Yf a b st Q c:=h st rfl
theorem sv160 {Yf:YF} {l u a b:Nat} {d:Array Int} (hd:d.size≤49) (hb:b≤d.size) (hab:a<b) {ob:Nat→Option Obj'} {tk:Nat→Bool} {ro base ub:Nat} (ho:ob l=some ⟨u,.cells (arr intC d)⟩) (hl:∀ m,ub≤m→l≠2 * m+1) (hru:ro≤ub) :
 ∃ r,EvS E Yf.y 160 [.osl l u 0 d.size 1,.int .i64 a,.int .i64 b] ob tk ro base ub r∧(∃ x h:Nat,r.1 = .tup [.int .i64 x,.int .i64 h]∧a≤x∧x<b∧h≤2)∧At l u (arr intC d) ob tk ub r.2.1 r.2.2.1 r.2.2.2:=by
 refine EvS_wp (af:=S160) rfl (by decide) ?_
 show wpC E Yf S160.body _ (kEndS S160.res _)
 obtain ⟨A,hA⟩:∃ x:Int,x=(a:Nat):=⟨_,rfl⟩
 obtain ⟨B,hB⟩:∃ x:Int,x=(b:Nat):=⟨_,rfl⟩
 obtain ⟨L,hL⟩:∃ x:Int,x=B - A:=⟨_,rfl⟩
 obtain ⟨q,hq⟩:∃ q,q=(b - a) / 4:=⟨_,rfl⟩
 obtain ⟨Q,hQ⟩:∃ x:Int,x=(q:Nat):=⟨_,rfl⟩
 obtain ⟨Q2,hQ2⟩:∃ x:Int,x=Q * 2:=⟨_,rfl⟩
 obtain ⟨Q3,hQ3⟩:∃ x:Int,x=Q * 3:=⟨_,rfl⟩
 obtain ⟨P1,hP1⟩:∃ x:Int,x=A+Q:=⟨_,rfl⟩
 obtain ⟨P2,hP2⟩:∃ x:Int,x=A+Q2:=⟨_,rfl⟩
 obtain ⟨P3,hP3⟩:∃ x:Int,x=A+Q3:=⟨_,rfl⟩
 have w1:IntKind.i64.wrap (B - A)=L:=by rw [wrapN (by omega) (by omega)];exact hL.symm
 have w2:IntKind.i64.wrap (L.tdiv 4)=Q:=by
  have e:L=((b - a:Nat):Int):=by omega
  have e2:L.tdiv 4=(((b - a) / 4:Nat):Int):=by rw [e];exact (Int.ofNat_tdiv _ 4).symm
  rw [e2,wrapN (by omega) (by omega)];omega
 have w3:IntKind.i64.wrap Q=Q:=wrapN (by omega) (by omega)
 have w4:IntKind.i64.wrap (Q * 2)=Q2:=by rw [wrapN (by omega) (by omega)];exact hQ2.symm
 have w5:IntKind.i64.wrap (Q * 3)=Q3:=by rw [wrapN (by omega) (by omega)];exact hQ3.symm
 have w6:IntKind.i64.wrap (A+Q)=P1:=by rw [wrapN (by omega) (by omega)];exact hP1.symm
 have w7:IntKind.i64.wrap (A+Q2)=P2:=by rw [wrapN (by omega) (by omega)];exact hP2.symm
 have w8:IntKind.i64.wrap (A+Q3)=P3:=by rw [wrapN (by omega) (by omega)];exact hP3.symm
 have c2:¬ 50≤L:=by omega
 have bq:a+q<b∧a+q * 2<b∧a+q * 3<b∧a≤a+q∧a≤a+q * 2∧a≤a+q * 3:=by omega
 rw [← hA,← hB]
 simp [S160,w1,w2,w3,w4,w5,w6,w7,w8]
 generalize hQ:kSeq E Yf _ (kEndS _ _)=Q
 have fin:∀ (s:St) (w uw x:Nat) (z:Int),s.tm 9 = .ptr w uw 0→s.ob w=some ⟨uw,.cells [.int .i64 z]⟩→s.tm 11 = .int .i64 x→a≤x→x<b→s.df=[]→At l u (arr intC d) ob tk ub s.ob s.tk s.nx→Q .nrm s:=by
  intro s w uw x z h9 hw h11 hax hxb hd hat
  rw [← hQ]
  by_cases z0:z=0
  ·subst z0
   simp [h9,objCells,hw,h11]
   exact endS_2 (by simp [hd]) ⟨⟨x,1,by simp,hax,hxb,by omega⟩,hat.same rfl rfl (by simp;omega)⟩
  ·have z0':(z == 0)=false:=by simpa using z0
   by_cases z1:z=12
   ·subst z1
    simp [h9,objCells,hw,h11]
    exact endS_2 (by simp [hd]) ⟨⟨x,2,by simp,hax,hxb,by omega⟩,hat.same rfl rfl (by simp;omega)⟩
   ·have z1':(z == 12)=false:=by simpa using z1
    simp [h9,objCells,hw,h11,z0',z1']
    exact endS_2 (by simp [hd]) ⟨⟨x,0,by simp,hax,hxb,by omega⟩,hat.same rfl rfl (by simp;omega)⟩
 clear hQ
 obtain ⟨N,hN⟩:∃ N,ub+64+64+64+64+64+64=N:=⟨_,rfl⟩
 have hl':=hl N (by omega)
 have hl'':¬ 2 * N+1=l:=fun e=>hl' e.symm
 refine kIf_gen fun st hst=>?_
 have g0:st.tm 0 = .osl l u 0 d.size 1:=by rw [hst];simp
 have g8:st.tm 8 = .int .i64 L:=by rw [hst];simp
 have g9:st.tm 9 = .ptr (2 * N+1) N 0:=by rw [hst,← hN];simp
 have g10:st.tm 10 = .int .i64 ((a+q:Nat):Int):=by rw [hst];simp;omega
 have g11:st.tm 11 = .int .i64 ((a+q * 2:Nat):Int):=by rw [hst];simp;omega
 have g12:st.tm 12 = .int .i64 ((a+q * 3:Nat):Int):=by rw [hst];simp;omega
 have gd:st.df=[]:=by rw [hst];simp
 have gr:st.ro=ro:=by rw [hst];simp
 have gn:N≤st.nx:=by rw [hst,← hN];simp
 have gw:st.ob (2 * N+1)=some ⟨N,.cells [.int .i64 0]⟩:=by rw [hst,← hN];simp
 have gf:∀ key,key≠2 * N+1→st.ob key=ob key:=by
  intro key hk
  rw [← hN] at hk
  rw [hst];simp [hk]
 have gt:st.tk=tk:=by rw [hst];simp [app_tk0]
 clear hst
 have gl:st.ob l=some ⟨u,.cells (arr intC d)⟩:=(gf l hl').trans ho
 by_cases h8:8≤L
 ·simp [h8,c2,g8,g0,g10,g11,g12]
  refine kS_callP (vs:=[.osl l u 0 d.size 1,.int .i64 ((a+q:Nat):Int),.int .i64 ((a+q * 2:Nat):Int),.int .i64 ((a+q * 3:Nat):Int),.ptr (2 * N+1) N 0]) (by simp [g9]) rfl (sv204 (l:=l) (u:=u) (d:=d) (z:=0) (by omega) (by omega) (by omega) hl' (by simpa using gl) (by simpa using gw) (by simp [gr];omega)) ?_
  rintro v ob' tk' ub' ⟨⟨x,hv,hx⟩,hC⟩
  simp only at hv
  subst hv
  obtain ⟨⟨c',q1⟩,q2,q3,q4⟩:=hC
  simp only at q1 q2 q3 q4
  simp
  have hxx:a≤x∧x<b:=by rcases hx with h | h | h <;> subst h <;> exact ⟨by first | exact bq.2.2.2.1 | exact bq.2.2.2.2.1 | exact bq.2.2.2.2.2,by first | exact bq.1 | exact bq.2.1 | exact bq.2.2.1⟩
  refine fin _ (2 * N+1) N x c' (by simp [g9]) (by simpa using q1) (by simp) hxx.1 hxx.2 (by simp [gd]) ⟨?_,?_,?_,?_⟩
  ·simp;rw [q2 l hl'];simpa using gl
  ·intro key h1 h2
   have:=h2 N (by rw [← hN];omega)
   simp;rw [q2 key this];simpa using gf key this
  ·simp;rw [q3];simpa using gt
  ·simp at q4 ⊢;omega
 ·simp [h8]
  refine fin _ (2 * N+1) N (a+q * 2) 0 g9 gw g11 bq.2.2.2.2.1 bq.2.1 gd ⟨gl,?_,gt,Nat.le_trans (by rw [← hN];omega) gn⟩
  intro key h1 h2
  exact gf key (h2 N (by rw [← hN];omega))
end Go.Pv.T

/- Scans. -/
namespace Go.Pv.T
open Go Go.Pv Go.Sort
theorem wpC_both {Yf:YF} {c:C} {st:St} {ws:List (Nat × Nat)} {Q:Ex→St→Prop} {R:Ex→St→Prop} (hn:c.noRF=true) (hw:(c.ws.all fun t=>inR t ws)=true) (h:wpC E Yf c st Q) (hk:∀ e s,Q e s→Keeps (fun t=>inR t ws=true) st s→R e s):wpC E Yf c st R :=
 wpC_mono (fun e s h=>hk e s h.1 (h.2.weak fun t ht=>List.all_eq_true.1 hw t ht)) (wpC_keeps hn h)
theorem keepsT {ws:List (Nat × Nat)} {a b c:St} (h:Keeps (fun t=>inR t ws=true) a b) (h':Keeps (fun t=>inR t ws=true) b c):Keeps (fun t=>inR t ws=true) a c:=h.trans h' (fun _ h=>h) (fun _ h=>h)
def Calm (s s':St):Prop:=s'.ob=s.ob∧s'.tk=s.tk∧s.nx≤s'.nx
theorem Calm.refl (s:St):Calm s s:=⟨rfl,rfl,Nat.le_refl _⟩
theorem Calm.trans {a b c:St} (h:Calm a b) (h':Calm b c):Calm a c:=⟨h'.1.trans h.1,h'.2.1.trans h.2.1,Nat.le_trans h.2.2 h'.2.2⟩
theorem scan_up {Yf:YF} {cC sC:C} {tc ti x y:Nat} {st:St} {Q:Ex→St→Prop} {α:Type} [Inhabited α] {p:α→Bool} {d:Array α} {i0 j:Nat} (ws:List (Nat × Nat)) (hc:cC.noRF=true) (hs:sC.noRF=true) (hwc:(cC.ws.all fun t=>inR t ws)=true) (hws:(sC.ws.all fun t=>inR t ws)=true)
 (h0:st.tm ti = .int .i64 i0)
 (hcond:∀ (s:St) (i:Nat),s.tm ti = .int .i64 i→i0≤i→i≤i0∨i≤j+1→Calm st s→Keeps (fun t=>inR t ws=true) st s→wpC E Yf cC s fun e s'=>e = .nrm∧s'.tm tc = .bool (decide (i≤j) && p d[i]!)∧s'.tm ti=s.tm ti∧Calm s s')
 (hstep:∀ (s:St) (i:Nat),s.tm ti = .int .i64 i→i0≤i→i≤j→wpC E Yf sC s fun e s'=>e = .nrm∧s'.tm ti = .int .i64 (i+1:Nat)∧Calm s s')
 (hk:∀ s:St,s.tm ti = .int .i64 (scanUp p d j i0:Nat)→Calm st s→Keeps (fun t=>inR t ws=true) st s→Q (.exit x) s) :
 wpC E Yf (.loop (.seq (.seq cC (.cond (.t tc) .skip (.exit x))) (.block y sC))) st Q:=by
 refine wp_loopF (n:=j+1 - i0) ws (fun n s=>∃ i:Nat,n=j+1 - i∧i0≤i∧(i≤i0∨i≤j+1)∧s.tm ti = .int .i64 i∧scanUp p d j i=scanUp p d j i0∧Calm st s) (by simp [C.noRF,hc,hs]) ?_ ⟨i0,rfl,Nat.le_refl _,Or.inl (Nat.le_refl _),h0,rfl,Calm.refl _⟩ ?_
 ·simp only [C.ws,List.append_nil,List.all_append,hwc,hws,Bool.and_self]
 rintro n s ⟨i,rfl,hi,hi',hti,hsc,hcalm⟩ hf
 rw [kC_seq,kC_seq]
 refine wpC_both hc hwc (hcond s i hti hi hi' hcalm hf) ?_
 rintro e s1 ⟨rfl,htc,hti1,hca⟩ hf1
 rw [kSeq_nrm,kC_cond,show eval E s1.tm (.t tc)=s1.tm tc from rfl,htc,ifK_bool]
 cases hb:(decide (i≤j) && p d[i]!)
 ·rw [kIf_false,kC_exit,kSeq_exit,kLoop_exit]
  have e3:scanUp p d j i=i:=by rw [scanUp,hb];rfl
  rw [e3] at hsc
  exact hk s1 (by rw [hti1,hti,hsc]) (hcalm.trans hca) (keepsT hf hf1)
 ·rw [kIf_true,kC_skip,kSeq_nrm,kC_block]
  rw [Bool.and_eq_true,decide_eq_true_eq] at hb
  refine wpC_mono ?_ (hstep s1 i (by rw [hti1,hti]) hi hb.1)
  rintro e s2 ⟨rfl,h1,h2⟩
  rw [kBlk_nrm,kLoop_nrm]
  refine ⟨j+1 - (i+1),by omega,i+1,rfl,by omega,Or.inr (by omega),h1,?_,hcalm.trans (hca.trans h2)⟩
  rw [← hsc]
  conv=>rhs;rw [scanUp]
  simp [hb]
theorem scan_down {Yf:YF} {cC sC:C} {tc tj x y:Nat} {st:St} {Q:Ex→St→Prop} {α:Type} [Inhabited α] {p:α→Bool} {d:Array α} {i j0:Nat} (hi1:1≤i) (ws:List (Nat × Nat)) (hc:cC.noRF=true) (hs:sC.noRF=true) (hwc:(cC.ws.all fun t=>inR t ws)=true) (hws:(sC.ws.all fun t=>inR t ws)=true)
 (h0:st.tm tj = .int .i64 j0)
 (hcond:∀ (s:St) (j:Nat),s.tm tj = .int .i64 j→j≤j0→Calm st s→Keeps (fun t=>inR t ws=true) st s→wpC E Yf cC s fun e s'=>e = .nrm∧s'.tm tc = .bool (decide (i≤j) && p d[j]!)∧s'.tm tj=s.tm tj∧Calm s s')
 (hstep:∀ (s:St) (j:Nat),s.tm tj = .int .i64 (j+1:Nat)→j+1≤j0→wpC E Yf sC s fun e s'=>e = .nrm∧s'.tm tj = .int .i64 j∧Calm s s')
 (hk:∀ s:St,s.tm tj = .int .i64 (scanDown p d i j0:Nat)→Calm st s→Keeps (fun t=>inR t ws=true) st s→Q (.exit x) s) :
 wpC E Yf (.loop (.seq (.seq cC (.cond (.t tc) .skip (.exit x))) (.block y sC))) st Q:=by
 refine wp_loopF (n:=j0) ws (fun n s=>n≤j0∧s.tm tj = .int .i64 n∧scanDown p d i n=scanDown p d i j0∧Calm st s) (by simp [C.noRF,hc,hs]) ?_ ⟨Nat.le_refl _,h0,rfl,Calm.refl _⟩ ?_
 ·simp only [C.ws,List.append_nil,List.all_append,hwc,hws,Bool.and_self]
 rintro n s ⟨hn,htj,hsc,hcalm⟩ hf
 rw [kC_seq,kC_seq]
 refine wpC_both hc hwc (hcond s n htj hn hcalm hf) ?_
 rintro e s1 ⟨rfl,htc,htj1,hca⟩ hf1
 rw [kSeq_nrm,kC_cond,show eval E s1.tm (.t tc)=s1.tm tc from rfl,htc,ifK_bool]
 cases hb:(decide (i≤n) && p d[n]!)
 ·rw [kIf_false,kC_exit,kSeq_exit,kLoop_exit]
  have e3:scanDown p d i n=n:=by
   cases n with
   | zero=>rfl
   | succ n=>rw [scanDown,hb];rfl
  rw [e3] at hsc
  exact hk s1 (by rw [htj1,htj,hsc]) (hcalm.trans hca) (keepsT hf hf1)
 ·rw [kIf_true,kC_skip,kSeq_nrm,kC_block]
  have hb':=hb
  rw [Bool.and_eq_true,decide_eq_true_eq] at hb'
  cases n with
  | zero=>omega
  | succ n =>
   refine wpC_mono ?_ (hstep s1 n (by rw [htj1,htj]) hn)
   rintro e s2 ⟨rfl,h1,h2⟩
   rw [kBlk_nrm,kLoop_nrm]
   refine ⟨n,by omega,by omega,h1,?_,hcalm.trans (hca.trans h2)⟩
   rw [← hsc,scanDown,hb]
   rfl
end Go.Pv.T

/- Partitions. -/
namespace Go.Pv.T
open Go Go.Pv Go.Sort
theorem scanUp_ge {α:Type} [Inhabited α] (p:α→Bool) (d:Array α) (j i:Nat):i≤scanUp p d j i∧(i≤j+1→scanUp p d j i≤j+1):=by
 fun_induction scanUp p d j i with
 | case1 i h ih =>
  rw [Bool.and_eq_true,decide_eq_true_eq] at h
  exact ⟨by omega,fun _=>ih.2 (by omega)⟩
 | case2 i h=>exact ⟨Nat.le_refl _,fun h=>h⟩
theorem scanDown_le {α:Type} [Inhabited α] (p:α→Bool) (d:Array α) (i:Nat):∀ j,scanDown p d i j≤j∧(i≤scanDown p d i j+1∨scanDown p d i j=j)
 | 0=>⟨Nat.le_refl _,Or.inr rfl⟩
 | j+1=>by
  rw [scanDown]
  split
  ·rename_i h
   rw [Bool.and_eq_true,decide_eq_true_eq] at h
   have ih:=scanDown_le p d i j
   refine ⟨by omega,Or.inl ?_⟩
   rcases ih.2 with h2 | h2
   ·exact h2
   ·rw [h2];omega
  ·exact ⟨Nat.le_refl _,Or.inr rfl⟩
theorem partLoop_step {lt:Int→Int→Bool} {a i j i2 j2:Nat} {d:Array Int} (_:1≤i) (h1:scanUp (fun x=>lt x d[a]!) d j i=i2) (h2:scanDown (fun x=>!lt x d[a]!) d i2 j=j2) :
 partLoop lt a i j d=if i2 > j2 then (j2,d) else partLoop lt a (i2+1) (j2 - 1) (swp d i2 j2):=by
 have g1:=(scanUp_ge (fun x=>lt x d[a]!) d j i).1
 have g2:=(scanDown_le (fun x=>!lt x d[a]!) d i2 j).1
 rw [partLoop]
 simp only [h1,h2]
 by_cases h:i2 > j2
 ·rw [if_pos h,if_pos h]
 ·rw [if_neg h,if_neg h,dif_pos (by omega)]
theorem At.calm {l u:Nat} {cs:List V} {ob:Nat→Option Obj'} {tk:Nat→Bool} {ub:Nat} {s s':St} (h:At l u cs ob tk ub s.ob s.tk s.nx) (hc:Calm s s'):At l u cs ob tk ub s'.ob s'.tk s'.nx:=h.same hc.1 hc.2.1 hc.2.2
theorem sv165 {Yf:YF} {l u a b pv:Nat} {d:Array Int} (hd:d.size≤1000000) (hb:b≤d.size) (hap:a≤pv) (hpb:pv<b) {ob:Nat→Option Obj'} {tk:Nat→Bool} {ro base ub:Nat} (ho:ob l=some ⟨u,.cells (arr intC d)⟩) (hro:ro≤u) :
 ∃ r,EvS E Yf.y 165 [.osl l u 0 d.size 1,.int .i64 a,.int .i64 b,.int .i64 pv] ob tk ro base ub r∧r.1 = .tup [.int .i64 (partition ltInt d a b pv).1,.bool (partition ltInt d a b pv).2.1]∧At l u (arr intC (partition ltInt d a b pv).2.2) ob tk ub r.2.1 r.2.2.1 r.2.2.2:=by
 refine EvS_wp (af:=S165) rfl (by decide) ?_
 show wpC E Yf S165.body _ (kEndS S165.res _)
 have w1:IntKind.i64.wrap ((a:Int)+1)=((a+1:Nat):Int):=by rw [wrapN (by omega) (by omega)];omega
 have w2:IntKind.i64.wrap ((b:Int) - 1)=((b - 1:Nat):Int):=by rw [wrapN (by omega) (by omega)];omega
 have ia:∀ n,a<n→idxSlV 1 (.osl l u 0 n 1) (.int .i64 (a:Int))=some (.ptr l u a):=fun n h=>idxN rfl h
 have ia':=ia d.size (by omega)
 have ip:=idxN (l:=l) (u:=u) (n:=d.size) (kk:=.i64) (X:=(pv:Int)) (x:=pv) rfl (by omega)
 have la:=ldN ho (x:=a) (by omega)
 have lp:=ldN ho (x:=pv) (by omega)
 have st1:=stI (d:=d) (x:=a) (by omega) d[pv]!
 have st2:=stI (d:=d.setIfInBounds a d[pv]!) (x:=pv) (by rw [Array.size_setIfInBounds];omega) d[a]!
 have hsw:(d.setIfInBounds a d[pv]!).setIfInBounds pv d[a]! = swp d a pv:=rfl
 rw [hsw] at st2
 have hz1:a+1≤d.size:=by omega
 have hz2:pv+1≤d.size:=by omega
 obtain ⟨P,hP⟩:∃ P,partition ltInt d a b pv=P:=⟨_,rfl⟩
 rw [hP]
 unfold partition at hP
 obtain ⟨D,hD⟩:∃ D,swp d a pv=D:=⟨_,rfl⟩
 have zD:D.size=d.size:=by rw [← hD];exact swp_size _ _ _
 rw [hD] at st2 hP
 simp only at hP
 generalize hA1:((a+1:Nat):Int)=A1 at w1
 generalize hB1:((b - 1:Nat):Int)=B1 at w2
 simp [S165,ia',ip,la,lp,objCells,ho,hro,st1,st2,hz1,hz2,w1,w2]
 refine wpC_gen fun st hst=>?_
 have g0:st.tm 0 = .osl l u 0 d.size 1:=by rw [hst];simp
 have g1:st.tm 1 = .int .i64 a:=by rw [hst];simp
 have g10:st.tm 10 = .int .i64 (a+1:Nat):=by rw [hst,hA1];simp
 have g11:st.tm 11 = .int .i64 (b - 1:Nat):=by rw [hst,hB1];simp
 have gd:st.df=[]:=by rw [hst];simp
 have gr:st.ro=ro:=by rw [hst];simp
 have gat:At l u (arr intC D) ob tk ub st.ob st.tk st.nx:=by rw [hst];exact (At.refl ho).swap (by simp) (fun key hk=>by simp [hk]) (by simp [app_tk0]) (by simp;omega)
 clear hst st1 st2 hsw hA1 hB1 w1 w2 la lp ip
 refine scan_up (p:=fun x=>ltInt x D[a]!) (d:=D) (i0:=a+1) (j:=b - 1) [(10,10),(30,45)] rfl rfl rfl rfl g10 ?_ ?_ ?_
 ·intro s9 x1 hx9 h19 h29 hca9 hf9
  have m0:s9.tm 0 = .osl l u 0 d.size 1:=by rw [hf9.t 0 (by simp)];exact g0
  have m1:s9.tm 1 = .int .i64 a:=by rw [hf9.t 1 (by simp)];exact g1
  have mf:s9.tm 11 = .int .i64 ((b - 1:Nat):Int):=by rw [hf9.t 11 (by simp)];exact g11
  have hat9:=gat.calm hca9
  generalize hX:(x1:Int)=X at *
  generalize hZ:((b - 1:Nat):Int)=Z at *
  by_cases hle:x1≤b - 1
  ·have c1:X≤Z:=by omega
   have ii:=idxN (l:=l) (u:=u) (n:=d.size) (kk:=.i64) (X:=X) (x:=x1) (by omega) (by omega)
   have li:=ldN hat9.1 (x:=x1) (by omega)
   have la:=ldN hat9.1 (x:=a) (by omega)
   simp [hx9,mf,c1,m0,m1,ii,li,ia',la]
   refine kS_ev (ev163 D[x1]! D[a]!) (by simp) rfl (by simp) ?_
   simp [hle,hx9,Calm] <;> omega
  ·have c1:¬ X≤Z:=by omega
   simp [hx9,mf,c1,hle,Calm] <;> omega
 ·intro s9 x1 hx9 h19 h29
  have hw:IntKind.i64.wrap ((x1:Int)+1)=(x1:Int)+1:=wrapN (by omega) (by omega)
  simp [hx9,hw,Calm] <;> omega
 intro s9 h9 hca9 hf9
 obtain ⟨i1,hi1⟩:∃ x,scanUp (fun x=>ltInt x D[a]!) D (b - 1) (a+1)=x:=⟨_,rfl⟩
 have bi:=scanUp_ge (fun x=>ltInt x D[a]!) D (b - 1) (a+1)
 rw [hi1] at h9 hP bi
 have k0:s9.tm 0 = .osl l u 0 d.size 1:=by rw [hf9.t 0 (by simp)];exact g0
 have k1:s9.tm 1 = .int .i64 a:=by rw [hf9.t 1 (by simp)];exact g1
 have k11:s9.tm 11 = .int .i64 ((b - 1:Nat):Int):=by rw [hf9.t 11 (by simp)];exact g11
 have kd:s9.df=[]:=by rw [hf9.d];exact gd
 have kr:s9.ro=ro:=by rw [hf9.r];exact gr
 have kat:=gat.calm hca9
 clear hca9 hf9
 have k10:=h9
 simp
 refine scan_down (p:=fun x=>!ltInt x D[a]!) (d:=D) (i:=i1) (j0:=b - 1) (by omega) [(11,11),(46,62)] rfl rfl rfl rfl k11 ?_ ?_ ?_
 ·intro s9 x1 hx9 h19 hca9 hf9
  have m0:s9.tm 0 = .osl l u 0 d.size 1:=by rw [hf9.t 0 (by simp)];exact k0
  have m1:s9.tm 1 = .int .i64 a:=by rw [hf9.t 1 (by simp)];exact k1
  have mf:s9.tm 10 = .int .i64 ((i1:Nat):Int):=by rw [hf9.t 10 (by simp)];exact k10
  have hat9:=kat.calm hca9
  generalize hX:(x1:Int)=X at *
  generalize hZ:((i1:Nat):Int)=Z at *
  by_cases hle:i1≤x1
  ·have c1:Z≤X:=by omega
   have ii:=idxN (l:=l) (u:=u) (n:=d.size) (kk:=.i64) (X:=X) (x:=x1) (by omega) (by omega)
   have li:=ldN hat9.1 (x:=x1) (by omega)
   have la:=ldN hat9.1 (x:=a) (by omega)
   simp [hx9,mf,c1,m0,m1,ii,li,ia',la]
   refine kS_ev (ev163 D[x1]! D[a]!) (by simp) rfl (by simp) ?_
   simp [hle,hx9,Calm] <;> omega
  ·have c1:¬ Z≤X:=by omega
   simp [hx9,mf,c1,hle,Calm] <;> omega
 ·intro s9 x1 hx9 h19
  have hw:IntKind.i64.wrap (((x1+1:Nat):Int) - 1)=(x1:Int):=by rw [wrapN (by omega) (by omega)];omega
  generalize ((x1+1:Nat):Int)=J at *
  simp [hx9,hw,Calm] <;> omega
 intro s9 h9 hca9 hf9
 obtain ⟨j1,hj1⟩:∃ x,scanDown (fun x=>!ltInt x D[a]!) D i1 (b - 1)=x:=⟨_,rfl⟩
 have bj:=scanDown_le (fun x=>!ltInt x D[a]!) D i1 (b - 1)
 rw [hj1] at h9 hP bj
 have q0:s9.tm 0 = .osl l u 0 d.size 1:=by rw [hf9.t 0 (by simp)];exact k0
 have q1:s9.tm 1 = .int .i64 a:=by rw [hf9.t 1 (by simp)];exact k1
 have q10:s9.tm 10 = .int .i64 ((i1:Nat):Int):=by rw [hf9.t 10 (by simp)];exact k10
 have qd:s9.df=[]:=by rw [hf9.d];exact kd
 have qr:s9.ro=ro:=by rw [hf9.r];exact kr
 have qat:=kat.calm hca9
 clear hca9 hf9
 have q11:=h9
 clear h9
 obtain ⟨X,hX⟩:∃ x:Int,x=(i1:Nat):=⟨_,rfl⟩
 obtain ⟨Z,hZ⟩:∃ x:Int,x=(j1:Nat):=⟨_,rfl⟩
 rw [← hX] at q10
 rw [← hZ] at q11
 obtain ⟨A,hA⟩:∃ x:Int,x=(a:Nat):=⟨_,rfl⟩
 rw [← hA] at q1 ia'
 by_cases hgt:i1 > j1
 ·rw [if_pos hgt] at hP
  subst hP
  have c1:Z<X:=by omega
  have ix:=idxN (l:=l) (u:=u) (n:=d.size) (kk:=.i64) (X:=Z) (x:=j1) (by omega) (by omega)
  have iy:=idxN (l:=l) (u:=u) (n:=d.size) (kk:=.i64) (X:=A) (x:=a) (by omega) (by omega)
  have lx:=ldN qat.1 (x:=j1) (by omega)
  have ly:=ldN qat.1 (x:=a) (by omega)
  have sa:=stI (d:=D) (x:=j1) (by omega) D[a]!
  have sb:=stI (d:=D.setIfInBounds (j1) D[a]!) (x:=a) (by rw [Array.size_setIfInBounds];omega) D[j1]!
  rw [show (D.setIfInBounds (j1) D[a]!).setIfInBounds (a) D[j1]! = swp D (j1) (a) from rfl] at sb
  have za:j1+1≤D.size:=by omega
  have zb:a+1≤D.size:=by omega
  simp [q10,q11,q0,q1,c1,ix,iy,lx,ly,sa,sb,za,zb,objCells,hro,qr,qat.1]
  exact endS_2 (by simp [qd]) ⟨by simp [hZ],qat.swap (by simp) (fun key hk=>by simp [hk]) (by simp [app_tk0]) (by simp;omega)⟩
 ·rw [if_neg hgt] at hP
  have c1:¬ Z<X:=by omega
  obtain ⟨r,hr⟩:∃ r,partLoop ltInt a (i1+1) (j1 - 1) (swp D i1 j1)=r:=⟨_,rfl⟩
  rw [hr] at hP
  have w3:IntKind.i64.wrap (X+1)=X+1:=wrapN (by omega) (by omega)
  have w4:IntKind.i64.wrap (Z - 1)=Z - 1:=wrapN (by omega) (by omega)
  have ix:=idxN (l:=l) (u:=u) (n:=d.size) (kk:=.i64) (X:=X) (x:=i1) (by omega) (by omega)
  have iy:=idxN (l:=l) (u:=u) (n:=d.size) (kk:=.i64) (X:=Z) (x:=j1) (by omega) (by omega)
  have lx:=ldN qat.1 (x:=i1) (by omega)
  have ly:=ldN qat.1 (x:=j1) (by omega)
  have sa:=stI (d:=D) (x:=i1) (by omega) D[j1]!
  have sb:=stI (d:=D.setIfInBounds (i1) D[j1]!) (x:=j1) (by rw [Array.size_setIfInBounds];omega) D[i1]!
  rw [show (D.setIfInBounds (i1) D[j1]!).setIfInBounds (j1) D[i1]! = swp D (i1) (j1) from rfl] at sb
  have za:i1+1≤D.size:=by omega
  have zb:j1+1≤D.size:=by omega
  simp [q10,q11,q0,c1,ix,iy,lx,ly,sa,sb,za,zb,objCells,hro,qr,qat.1,w3,w4]
  refine wpC_gen fun st hst=>?_
  obtain ⟨I,hI⟩:∃ I:Nat→St→Prop,I=fun n s=>∃ i j:Nat,n=j+1 - i∧a+1≤i∧i≤b+1∧a≤j∧j<b∧s.tm 10 = .int .i64 i∧s.tm 11 = .int .i64 j∧∃ D3:Array Int,partLoop ltInt a i j D3=r∧D3.size=d.size∧At l u (arr intC D3) ob tk ub s.ob s.tk s.nx:=⟨_,rfl⟩
  have e0:st.tm 0 = .osl l u 0 d.size 1:=by rw [hst];simp [q0]
  have e1:st.tm 1 = .int .i64 a:=by rw [hst];simp [q1,hA]
  have e10:st.tm 10 = .int .i64 (i1+1:Nat):=by rw [hst];simp [hX]
  have e11:st.tm 11 = .int .i64 (j1 - 1:Nat):=by rw [hst];simp;omega
  have ed:st.df=[]:=by rw [hst];simp [qd]
  have er:st.ro=ro:=by rw [hst];simp [qr]
  have eat:At l u (arr intC (swp D i1 j1)) ob tk ub st.ob st.tk st.nx:=by rw [hst];exact qat.swap (by simp) (fun key hk=>by simp [hk]) (by simp [app_tk0]) (by simp;omega)
  clear hst
  refine wp_loopF (n:=j1 - 1+1 - (i1+1)) [(10,11),(99,152)] I rfl rfl (by rw [hI];exact ⟨i1+1,j1 - 1,rfl,by omega,by omega,by omega,by omega,e10,e11,swp D i1 j1,hr,by rw [swp_size,zD],eat⟩) ?_
  intro n s hIs f
  rw [hI] at hIs
  obtain ⟨i,j,rfl,hi,hib,hja,hjb,t10,t11,D3,hpl,z3,tat⟩:=hIs
  have t0:s.tm 0 = .osl l u 0 d.size 1:=by rw [f.t 0 (by simp)];exact e0
  have t1:s.tm 1 = .int .i64 a:=by rw [f.t 1 (by simp)];exact e1
  have td:s.df=[]:=by rw [f.d];exact ed
  have tr:s.ro=ro:=by rw [f.r];exact er
  clear f ix iy lx ly sa sb za zb q10 q11 q0 q1 qat qd qr e0 e1 e10 e11 ed er eat
  rw [hA] at ia'
  simp
  refine scan_up (p:=fun x=>ltInt x D3[a]!) (d:=D3) (i0:=i) (j:=j) [(10,10),(99,114)] rfl rfl rfl rfl t10 ?_ ?_ ?_
  ·intro s9 x1 hx9 h19 h29 hca9 hf9
   have m0:s9.tm 0 = .osl l u 0 d.size 1:=by rw [hf9.t 0 (by simp)];exact t0
   have m1:s9.tm 1 = .int .i64 a:=by rw [hf9.t 1 (by simp)];exact t1
   have mf:s9.tm 11 = .int .i64 ((j:Nat):Int):=by rw [hf9.t 11 (by simp)];exact t11
   have hat9:=tat.calm hca9
   generalize hX:(x1:Int)=X at *
   generalize hZ:((j:Nat):Int)=Z at *
   by_cases hle:x1≤j
   ·have c1:X≤Z:=by omega
    have ii:=idxN (l:=l) (u:=u) (n:=d.size) (kk:=.i64) (X:=X) (x:=x1) (by omega) (by omega)
    have li:=ldN hat9.1 (x:=x1) (by omega)
    have la:=ldN hat9.1 (x:=a) (by omega)
    simp [hx9,mf,c1,m0,m1,ii,li,ia',la]
    refine kS_ev (ev163 D3[x1]! D3[a]!) (by simp) rfl (by simp) ?_
    simp [hle,hx9,Calm] <;> omega
   ·have c1:¬ X≤Z:=by omega
    simp [hx9,mf,c1,hle,Calm] <;> omega
  ·intro s9 x1 hx9 h19 h29
   have hw:IntKind.i64.wrap ((x1:Int)+1)=(x1:Int)+1:=wrapN (by omega) (by omega)
   simp [hx9,hw,Calm] <;> omega
  intro s9 h9 hca9 hf9
  obtain ⟨i2,hi2⟩:∃ x,scanUp (fun x=>ltInt x D3[a]!) D3 j i=x:=⟨_,rfl⟩
  have bi2:=scanUp_ge (fun x=>ltInt x D3[a]!) D3 j i
  rw [hi2] at h9 bi2
  have k0:s9.tm 0 = .osl l u 0 d.size 1:=by rw [hf9.t 0 (by simp)];exact t0
  have k1:s9.tm 1 = .int .i64 a:=by rw [hf9.t 1 (by simp)];exact t1
  have k11:s9.tm 11 = .int .i64 ((j:Nat):Int):=by rw [hf9.t 11 (by simp)];exact t11
  have kd:s9.df=[]:=by rw [hf9.d];exact td
  have kr:s9.ro=ro:=by rw [hf9.r];exact tr
  have kat:=tat.calm hca9
  clear hca9 hf9
  have k10:=h9
  clear h9
  simp
  refine scan_down (p:=fun x=>!ltInt x D3[a]!) (d:=D3) (i:=i2) (j0:=j) (by omega) [(11,11),(115,131)] rfl rfl rfl rfl k11 ?_ ?_ ?_
  ·intro s9 x1 hx9 h19 hca9 hf9
   have m0:s9.tm 0 = .osl l u 0 d.size 1:=by rw [hf9.t 0 (by simp)];exact k0
   have m1:s9.tm 1 = .int .i64 a:=by rw [hf9.t 1 (by simp)];exact k1
   have mf:s9.tm 10 = .int .i64 ((i2:Nat):Int):=by rw [hf9.t 10 (by simp)];exact k10
   have hat9:=kat.calm hca9
   generalize hX:(x1:Int)=X at *
   generalize hZ:((i2:Nat):Int)=Z at *
   by_cases hle:i2≤x1
   ·have c1:Z≤X:=by omega
    have ii:=idxN (l:=l) (u:=u) (n:=d.size) (kk:=.i64) (X:=X) (x:=x1) (by omega) (by omega)
    have li:=ldN hat9.1 (x:=x1) (by omega)
    have la:=ldN hat9.1 (x:=a) (by omega)
    simp [hx9,mf,c1,m0,m1,ii,li,ia',la]
    refine kS_ev (ev163 D3[x1]! D3[a]!) (by simp) rfl (by simp) ?_
    simp [hle,hx9,Calm] <;> omega
   ·have c1:¬ Z≤X:=by omega
    simp [hx9,mf,c1,hle,Calm] <;> omega
  ·intro s9 x1 hx9 h19
   have hw:IntKind.i64.wrap (((x1+1:Nat):Int) - 1)=(x1:Int):=by rw [wrapN (by omega) (by omega)];omega
   generalize ((x1+1:Nat):Int)=J at *
   simp [hx9,hw,Calm] <;> omega
  intro s9 h9 hca9 hf9
  obtain ⟨j2,hj2⟩:∃ x,scanDown (fun x=>!ltInt x D3[a]!) D3 i2 j=x:=⟨_,rfl⟩
  have bj2:=scanDown_le (fun x=>!ltInt x D3[a]!) D3 i2 j
  rw [hj2] at h9 bj2
  have q0:s9.tm 0 = .osl l u 0 d.size 1:=by rw [hf9.t 0 (by simp)];exact k0
  have q1:s9.tm 1 = .int .i64 a:=by rw [hf9.t 1 (by simp)];exact k1
  have q10:s9.tm 10 = .int .i64 ((i2:Nat):Int):=by rw [hf9.t 10 (by simp)];exact k10
  have qd:s9.df=[]:=by rw [hf9.d];exact kd
  have qr:s9.ro=ro:=by rw [hf9.r];exact kr
  have qat:=kat.calm hca9
  clear hca9 hf9
  have q11:=h9
  clear h9
  have hst:=partLoop_step (by omega) hi2 hj2
  rw [hpl] at hst
  obtain ⟨X2,hX2⟩:∃ x:Int,x=(i2:Nat):=⟨_,rfl⟩
  obtain ⟨Z2,hZ2⟩:∃ x:Int,x=(j2:Nat):=⟨_,rfl⟩
  rw [← hX2] at q10
  rw [← hZ2] at q11
  by_cases hgt2:i2 > j2
  ·rw [if_pos hgt2] at hst
   subst hst
   subst hP
   have c2:Z2<X2:=by omega
   rw [← hA] at q1
   have ix:=idxN (l:=l) (u:=u) (n:=d.size) (kk:=.i64) (X:=Z2) (x:=j2) (by omega) (by omega)
   have iy:=idxN (l:=l) (u:=u) (n:=d.size) (kk:=.i64) (X:=A) (x:=a) (by omega) (by omega)
   have lx:=ldN qat.1 (x:=j2) (by omega)
   have ly:=ldN qat.1 (x:=a) (by omega)
   have sa:=stI (d:=D3) (x:=j2) (by omega) D3[a]!
   have sb:=stI (d:=D3.setIfInBounds (j2) D3[a]!) (x:=a) (by rw [Array.size_setIfInBounds];omega) D3[j2]!
   rw [show (D3.setIfInBounds (j2) D3[a]!).setIfInBounds (a) D3[j2]! = swp D3 (j2) (a) from rfl] at sb
   have za:j2+1≤D3.size:=by omega
   have zb:a+1≤D3.size:=by omega
   simp [q10,q11,q0,q1,c2,ix,iy,lx,ly,sa,sb,za,zb,objCells,hro,qr,qat.1]
   exact endS_2 (by simp [qd]) ⟨by simp [hZ2],qat.swap (by simp) (fun key hk=>by simp [hk]) (by simp [app_tk0]) (by simp;omega)⟩
  ·rw [if_neg hgt2] at hst
   have c2:¬ Z2<X2:=by omega
   have w3:IntKind.i64.wrap (X2+1)=X2+1:=wrapN (by omega) (by omega)
   have w4:IntKind.i64.wrap (Z2 - 1)=Z2 - 1:=wrapN (by omega) (by omega)
   have ix:=idxN (l:=l) (u:=u) (n:=d.size) (kk:=.i64) (X:=X2) (x:=i2) (by omega) (by omega)
   have iy:=idxN (l:=l) (u:=u) (n:=d.size) (kk:=.i64) (X:=Z2) (x:=j2) (by omega) (by omega)
   have lx:=ldN qat.1 (x:=i2) (by omega)
   have ly:=ldN qat.1 (x:=j2) (by omega)
   have sa:=stI (d:=D3) (x:=i2) (by omega) D3[j2]!
   have sb:=stI (d:=D3.setIfInBounds (i2) D3[j2]!) (x:=j2) (by rw [Array.size_setIfInBounds];omega) D3[i2]!
   rw [show (D3.setIfInBounds (i2) D3[j2]!).setIfInBounds (j2) D3[i2]! = swp D3 (i2) (j2) from rfl] at sb
   have za:i2+1≤D3.size:=by omega
   have zb:j2+1≤D3.size:=by omega
   simp [q10,q11,q0,c2,ix,iy,lx,ly,sa,sb,za,zb,objCells,hro,qr,qat.1,w3,w4]
   exact ⟨j2 - 1+1 - (i2+1),by omega,by rw [hI];exact ⟨i2+1,j2 - 1,rfl,by omega,by omega,by omega,by omega,by simp [hX2],by simp;omega,swp D3 i2 j2,hst.symm,by rw [swp_size,z3],qat.swap (by simp) (fun key hk=>by simp [hk]) (by simp [app_tk0]) (by simp;omega)⟩⟩
end Go.Pv.T

/- Partitions of what is not less. -/
namespace Go.Pv.T
open Go Go.Pv Go.Sort
theorem partEqLoop_step {lt:Int→Int→Bool} {a i j i2 j2:Nat} {d:Array Int} (_:1≤i) (h1:scanUp (fun x=>!lt d[a]! x) d j i=i2) (h2:scanDown (fun x=>lt d[a]! x) d i2 j=j2) :
 partEqLoop lt a i j d=if i2 > j2 then (i2,d) else partEqLoop lt a (i2+1) (j2 - 1) (swp d i2 j2):=by
 have g1:=(scanUp_ge (fun x=>!lt d[a]! x) d j i).1
 have g2:=(scanDown_le (fun x=>lt d[a]! x) d i2 j).1
 rw [partEqLoop]
 simp only [h1,h2]
 by_cases h:i2 > j2
 ·rw [if_pos h,if_pos h]
 ·rw [if_neg h,if_neg h,dif_pos (by omega)]
theorem sv164 {Yf:YF} {l u a b pv:Nat} {d:Array Int} (hd:d.size≤1000000) (hb:b≤d.size) (hap:a≤pv) (hpb:pv<b) {ob:Nat→Option Obj'} {tk:Nat→Bool} {ro base ub:Nat} (ho:ob l=some ⟨u,.cells (arr intC d)⟩) (hro:ro≤u) :
 ∃ r,EvS E Yf.y 164 [.osl l u 0 d.size 1,.int .i64 a,.int .i64 b,.int .i64 pv] ob tk ro base ub r∧r.1 = .int .i64 (partitionEqual ltInt d a b pv).1∧At l u (arr intC (partitionEqual ltInt d a b pv).2) ob tk ub r.2.1 r.2.2.1 r.2.2.2:=by
 refine EvS_wp (af:=S164) rfl (by decide) ?_
 show wpC E Yf S164.body _ (kEndS S164.res _)
 have w1:IntKind.i64.wrap ((a:Int)+1)=((a+1:Nat):Int):=by rw [wrapN (by omega) (by omega)];omega
 have w2:IntKind.i64.wrap ((b:Int) - 1)=((b - 1:Nat):Int):=by rw [wrapN (by omega) (by omega)];omega
 have ia:∀ n,a<n→idxSlV 1 (.osl l u 0 n 1) (.int .i64 (a:Int))=some (.ptr l u a):=fun n h=>idxN rfl h
 have ia':=ia d.size (by omega)
 have ip:=idxN (l:=l) (u:=u) (n:=d.size) (kk:=.i64) (X:=(pv:Int)) (x:=pv) rfl (by omega)
 have la:=ldN ho (x:=a) (by omega)
 have lp:=ldN ho (x:=pv) (by omega)
 have st1:=stI (d:=d) (x:=a) (by omega) d[pv]!
 have st2:=stI (d:=d.setIfInBounds a d[pv]!) (x:=pv) (by rw [Array.size_setIfInBounds];omega) d[a]!
 have hsw:(d.setIfInBounds a d[pv]!).setIfInBounds pv d[a]! = swp d a pv:=rfl
 rw [hsw] at st2
 have hz1:a+1≤d.size:=by omega
 have hz2:pv+1≤d.size:=by omega
 obtain ⟨P,hP⟩:∃ P,partitionEqual ltInt d a b pv=P:=⟨_,rfl⟩
 rw [hP]
 unfold partitionEqual at hP
 obtain ⟨D,hD⟩:∃ D,swp d a pv=D:=⟨_,rfl⟩
 have zD:D.size=d.size:=by rw [← hD];exact swp_size _ _ _
 rw [hD] at st2 hP
 generalize hA1:((a+1:Nat):Int)=A1 at w1
 generalize hB1:((b - 1:Nat):Int)=B1 at w2
 simp [S164,ia',ip,la,lp,objCells,ho,hro,st1,st2,hz1,hz2,w1,w2]
 refine wpC_gen fun st hst=>?_
 obtain ⟨I,hI⟩:∃ I:Nat→St→Prop,I=fun n s=>∃ i j:Nat,n=j+1 - i∧a+1≤i∧i≤b+1∧a≤j∧j<b∧s.tm 9 = .int .i64 i∧s.tm 10 = .int .i64 j∧∃ D3:Array Int,partEqLoop ltInt a i j D3=P∧D3.size=d.size∧At l u (arr intC D3) ob tk ub s.ob s.tk s.nx:=⟨_,rfl⟩
 have e0:st.tm 0 = .osl l u 0 d.size 1:=by rw [hst];simp
 have e1:st.tm 1 = .int .i64 a:=by rw [hst];simp
 have e9:st.tm 9 = .int .i64 (a+1:Nat):=by rw [hst,hA1];simp
 have e10:st.tm 10 = .int .i64 (b - 1:Nat):=by rw [hst,hB1];simp
 have ed:st.df=[]:=by rw [hst];simp
 have er:st.ro=ro:=by rw [hst];simp
 have eat:At l u (arr intC D) ob tk ub st.ob st.tk st.nx:=by rw [hst];exact (At.refl ho).swap (by simp) (fun key hk=>by simp [hk]) (by simp [app_tk0]) (by simp;omega)
 clear hst st1 st2 hsw hA1 hB1 w1 w2 la lp ip
 obtain ⟨A,hA⟩:∃ x:Int,x=(a:Nat):=⟨_,rfl⟩
 refine wp_loopF (n:=b - 1+1 - (a+1)) [(9,10),(29,82)] I rfl rfl (by rw [hI];exact ⟨a+1,b - 1,rfl,by omega,by omega,by omega,by omega,e9,e10,D,hP,zD,eat⟩) ?_
 intro n s hIs f
 rw [hI] at hIs
 obtain ⟨i,j,rfl,hi,hib,hja,hjb,t9,t10,D3,hpl,z3,tat⟩:=hIs
 have t0:s.tm 0 = .osl l u 0 d.size 1:=by rw [f.t 0 (by simp)];exact e0
 have t1:s.tm 1 = .int .i64 a:=by rw [f.t 1 (by simp)];exact e1
 have td:s.df=[]:=by rw [f.d];exact ed
 have tr:s.ro=ro:=by rw [f.r];exact er
 clear f e0 e1 e9 e10 ed er eat
 simp
 refine scan_up (p:=fun x=>!ltInt D3[a]! x) (d:=D3) (i0:=i) (j:=j) [(9,9),(29,45)] rfl rfl rfl rfl t9 ?_ ?_ ?_
 ·intro s9 x1 hx9 h19 h29 hca9 hf9
  have m0:s9.tm 0 = .osl l u 0 d.size 1:=by rw [hf9.t 0 (by simp)];exact t0
  have m1:s9.tm 1 = .int .i64 a:=by rw [hf9.t 1 (by simp)];exact t1
  have mf:s9.tm 10 = .int .i64 ((j:Nat):Int):=by rw [hf9.t 10 (by simp)];exact t10
  have hat9:=tat.calm hca9
  generalize hX:(x1:Int)=X at *
  generalize hZ:((j:Nat):Int)=Z at *
  by_cases hle:x1≤j
  ·have c1:X≤Z:=by omega
   have ii:=idxN (l:=l) (u:=u) (n:=d.size) (kk:=.i64) (X:=X) (x:=x1) (by omega) (by omega)
   have li:=ldN hat9.1 (x:=x1) (by omega)
   have la:=ldN hat9.1 (x:=a) (by omega)
   simp [hx9,mf,c1,m0,m1,ii,li,ia',la]
   refine kS_ev (ev163 D3[a]! D3[x1]!) (by simp) rfl (by simp) ?_
   simp [hle,hx9,Calm] <;> omega
  ·have c1:¬ X≤Z:=by omega
   simp [hx9,mf,c1,hle,Calm] <;> omega
 ·intro s9 x1 hx9 h19 h29
  have hw:IntKind.i64.wrap ((x1:Int)+1)=(x1:Int)+1:=wrapN (by omega) (by omega)
  simp [hx9,hw,Calm] <;> omega
 intro s9 h9 hca9 hf9
 obtain ⟨i2,hi2⟩:∃ x,scanUp (fun x=>!ltInt D3[a]! x) D3 j i=x:=⟨_,rfl⟩
 have bi2:=scanUp_ge (fun x=>!ltInt D3[a]! x) D3 j i
 rw [hi2] at h9 bi2
 have k0:s9.tm 0 = .osl l u 0 d.size 1:=by rw [hf9.t 0 (by simp)];exact t0
 have k1:s9.tm 1 = .int .i64 a:=by rw [hf9.t 1 (by simp)];exact t1
 have k10:s9.tm 10 = .int .i64 ((j:Nat):Int):=by rw [hf9.t 10 (by simp)];exact t10
 have kd:s9.df=[]:=by rw [hf9.d];exact td
 have kr:s9.ro=ro:=by rw [hf9.r];exact tr
 have kat:=tat.calm hca9
 clear hca9 hf9
 have k9:=h9
 clear h9
 simp
 refine scan_down (p:=fun x=>ltInt D3[a]! x) (d:=D3) (i:=i2) (j0:=j) (by omega) [(10,10),(46,61)] rfl rfl rfl rfl k10 ?_ ?_ ?_
 ·intro s9 x1 hx9 h19 hca9 hf9
  have m0:s9.tm 0 = .osl l u 0 d.size 1:=by rw [hf9.t 0 (by simp)];exact k0
  have m1:s9.tm 1 = .int .i64 a:=by rw [hf9.t 1 (by simp)];exact k1
  have mf:s9.tm 9 = .int .i64 ((i2:Nat):Int):=by rw [hf9.t 9 (by simp)];exact k9
  have hat9:=kat.calm hca9
  generalize hX:(x1:Int)=X at *
  generalize hZ:((i2:Nat):Int)=Z at *
  by_cases hle:i2≤x1
  ·have c1:Z≤X:=by omega
   have ii:=idxN (l:=l) (u:=u) (n:=d.size) (kk:=.i64) (X:=X) (x:=x1) (by omega) (by omega)
   have li:=ldN hat9.1 (x:=x1) (by omega)
   have la:=ldN hat9.1 (x:=a) (by omega)
   simp [hx9,mf,c1,m0,m1,ii,li,ia',la]
   refine kS_ev (ev163 D3[a]! D3[x1]!) (by simp) rfl (by simp) ?_
   simp [hle,hx9,Calm] <;> omega
  ·have c1:¬ Z≤X:=by omega
   simp [hx9,mf,c1,hle,Calm] <;> omega
 ·intro s9 x1 hx9 h19
  have hw:IntKind.i64.wrap (((x1+1:Nat):Int) - 1)=(x1:Int):=by rw [wrapN (by omega) (by omega)];omega
  generalize ((x1+1:Nat):Int)=J at *
  simp [hx9,hw,Calm] <;> omega
 intro s9 h9 hca9 hf9
 obtain ⟨j2,hj2⟩:∃ x,scanDown (fun x=>ltInt D3[a]! x) D3 i2 j=x:=⟨_,rfl⟩
 have bj2:=scanDown_le (fun x=>ltInt D3[a]! x) D3 i2 j
 rw [hj2] at h9 bj2
 have q0:s9.tm 0 = .osl l u 0 d.size 1:=by rw [hf9.t 0 (by simp)];exact k0
 have q1:s9.tm 1 = .int .i64 a:=by rw [hf9.t 1 (by simp)];exact k1
 have q9:s9.tm 9 = .int .i64 ((i2:Nat):Int):=by rw [hf9.t 9 (by simp)];exact k9
 have qd:s9.df=[]:=by rw [hf9.d];exact kd
 have qr:s9.ro=ro:=by rw [hf9.r];exact kr
 have qat:=kat.calm hca9
 clear hca9 hf9
 have q10:=h9
 clear h9
 have hst:=partEqLoop_step (by omega) hi2 hj2
 rw [hpl] at hst
 obtain ⟨X2,hX2⟩:∃ x:Int,x=(i2:Nat):=⟨_,rfl⟩
 obtain ⟨Z2,hZ2⟩:∃ x:Int,x=(j2:Nat):=⟨_,rfl⟩
 rw [← hX2] at q9
 rw [← hZ2] at q10
 by_cases hgt2:i2 > j2
 ·rw [if_pos hgt2] at hst
  subst hst
  have c2:Z2<X2:=by omega
  simp [q9,q10,c2]
  exact endS_1 (by simp [qd]) ⟨by simp [hX2],qat.same rfl rfl (by simp;omega)⟩
 ·rw [if_neg hgt2] at hst
  have c2:¬ Z2<X2:=by omega
  have w3:IntKind.i64.wrap (X2+1)=X2+1:=wrapN (by omega) (by omega)
  have w4:IntKind.i64.wrap (Z2 - 1)=Z2 - 1:=wrapN (by omega) (by omega)
  have ix:=idxN (l:=l) (u:=u) (n:=d.size) (kk:=.i64) (X:=X2) (x:=i2) (by omega) (by omega)
  have iy:=idxN (l:=l) (u:=u) (n:=d.size) (kk:=.i64) (X:=Z2) (x:=j2) (by omega) (by omega)
  have lx:=ldN qat.1 (x:=i2) (by omega)
  have ly:=ldN qat.1 (x:=j2) (by omega)
  have sa:=stI (d:=D3) (x:=i2) (by omega) D3[j2]!
  have sb:=stI (d:=D3.setIfInBounds (i2) D3[j2]!) (x:=j2) (by rw [Array.size_setIfInBounds];omega) D3[i2]!
  rw [show (D3.setIfInBounds (i2) D3[j2]!).setIfInBounds (j2) D3[i2]! = swp D3 (i2) (j2) from rfl] at sb
  have za:i2+1≤D3.size:=by omega
  have zb:j2+1≤D3.size:=by omega
  simp [q9,q10,q0,c2,ix,iy,lx,ly,sa,sb,za,zb,objCells,hro,qr,qat.1,w3,w4]
  exact ⟨j2 - 1+1 - (i2+1),by omega,by rw [hI];exact ⟨i2+1,j2 - 1,rfl,by omega,by omega,by omega,by omega,by simp [hX2],by simp;omega,swp D3 i2 j2,hst.symm,by rw [swp_size,z3],qat.swap (by simp) (fun key hk=>by simp [hk]) (by simp [app_tk0]) (by simp;omega)⟩⟩
end Go.Pv.T

/- Breaking patterns; insertion sort of few. -/
namespace Go.Pv.T
open Go Go.Pv Go.Sort
theorem e201:((List.range 50).all fun n=>match (callers E 20 noY).d 201 [.int .i64 (n:Nat)] with
 | some (.int .u64 m)=>decide (n<8) || (decide (1≤m) && decide (m≤2 * (n:Nat)))
 | _=>false)=true:=by kernel_rfl
theorem ev201 {n:Nat} (h8:8≤n) (hn:n<50):∃ m:Nat,Ev E 201 [.int .i64 (n:Nat)] (.int .u64 m)∧1≤m∧m≤2 * n:=by
 have h:=List.all_eq_true.1 e201 n (List.mem_range.2 hn)
 split at h
 ·rename_i m hm
  simp only [Bool.or_eq_true,Bool.and_eq_true,decide_eq_true_eq] at h
  rcases h with h | ⟨h1,h2⟩
  ·omega
  ·refine ⟨m.toNat,⟨20,?_⟩,by omega,by omega⟩
   rw [show ((m.toNat:Nat):Int)=m from by omega]
   exact hm
 ·cases h
theorem e118:((List.range 50).all fun n=>match (callers E 20 noY).d 118 [.int .u64 (n:Nat)] with
 | some (.int .i64 m)=>decide (0≤m) && decide (m≤64)
 | _=>false)=true:=by kernel_rfl
theorem ev118 {n:Nat} (hn:n<50):∃ m:Nat,Ev E 118 [.int .u64 (n:Nat)] (.int .i64 m)∧m≤64:=by
 have h:=List.all_eq_true.1 e118 n (List.mem_range.2 hn)
 split at h
 ·rename_i m hm
  simp only [Bool.and_eq_true,decide_eq_true_eq] at h
  refine ⟨m.toNat,⟨20,?_⟩,by omega⟩
  rw [show ((m.toNat:Nat):Int)=m from by omega]
  exact hm
 ·cases h
@[simp] theorem convV_int (k k':IntKind) (n:Int):convV k (.int k' n)=some (.int k (k.wrap n)):=rfl
theorem shlU (x k:Int) (hk:0≤k):∃ y,binV .shl (.int .u64 x) (.int .u64 k)=some (.int .u64 y):=by
 simp only [binV,shiftBin]
 rw [if_neg (by omega)]
 exact ⟨_,rfl⟩
theorem shrU (x k:Int) (hk:0≤k):∃ y,binV .shr (.int .u64 x) (.int .u64 k)=some (.int .u64 y):=by
 simp only [binV,shiftBin]
 rw [if_neg (by omega)]
 exact ⟨_,rfl⟩
theorem xorU (x y:Int):∃ z,binV .xor (.int .u64 x) (.int .u64 y)=some (.int .u64 z):=⟨_,rfl⟩
theorem andU (x:Int) (y:Nat) (hy:y<1000):∃ z:Nat,binV .and (.int .u64 x) (.int .u64 y)=some (.int .u64 z)∧z≤y:=by
 refine ⟨(BitVec.ofInt 64 x &&& BitVec.ofInt 64 (y:Int)).toNat,?_,?_⟩
 ·simp only [binV,if_true,intBin]
  congr 2
  have h:=(BitVec.ofInt 64 x &&& BitVec.ofInt 64 (y:Int)).isLt
  show IntKind.u64.wrap ((BitVec.ofInt 64 x &&& BitVec.ofInt 64 (y:Int)).toNat:Int)=_
  rw [IntKind.wrap_u64]
  omega
 ·rw [BitVec.toNat_and]
  refine Nat.le_trans Nat.and_le_right ?_
  rw [BitVec.toNat_ofInt]
  omega
theorem sv202 {Yf:YF} {w uw:Nat} {x:Int} {ob:Nat→Option Obj'} {tk:Nat→Bool} {ro base ub:Nat} (hw:ob w=some ⟨uw,.cells [.int .u64 x]⟩) (hro:ro≤uw) :
 ∃ r,EvS E Yf.y 202 [.ptr w uw 0] ob tk ro base ub r∧(∃ z,r.1 = .int .u64 z∧r.2.1 w=some ⟨uw,.cells [.int .u64 z]⟩)∧(∀ key,key≠w→r.2.1 key=ob key)∧r.2.2.1=tk∧ub≤r.2.2.2:=by
 refine EvS_wp (af:=S202) rfl (by decide) ?_
 show wpC E Yf S202.body _ (kEndS S202.res _)
 obtain ⟨y1,h1⟩:=shlU x 13 (by omega)
 obtain ⟨y2,h2⟩:=xorU x y1
 obtain ⟨y3,h3⟩:=shrU y2 7 (by omega)
 obtain ⟨y4,h4⟩:=xorU y2 y3
 obtain ⟨y5,h5⟩:=shlU y4 17 (by omega)
 obtain ⟨y6,h6⟩:=xorU y4 y5
 simp [S202,objCells,hw,h1,h2,hro,splice,h3,h4,h5,h6]
 exact endS_1 (by simp) ⟨⟨y6,by simp,by simp⟩,fun key hk=>by simp [hk],by simp [app_tk0],by simp;omega⟩
theorem sv159 {Yf:YF} {l u a b:Nat} {d:Array Int} (hd:d.size≤49) (hb:b≤d.size) (hab:a+8≤b) {ob:Nat→Option Obj'} {tk:Nat→Bool} {ro base ub:Nat} (ho:ob l=some ⟨u,.cells (arr intC d)⟩) (hro:ro≤u) (hl:∀ m,ub≤m→l≠2 * m+1) (hru:ro≤ub) :
 ∃ r,EvS E Yf.y 159 [.osl l u 0 d.size 1,.int .i64 a,.int .i64 b] ob tk ro base ub r∧∃ d',PermIn a b d d'∧At l u (arr intC d') ob tk ub r.2.1 r.2.2.1 r.2.2.2:=by
 refine EvS_wp (af:=S159) rfl (by decide) ?_
 show wpC E Yf S159.body _ (kEndS S159.res _)
 obtain ⟨A,hA⟩:∃ x:Int,x=(a:Nat):=⟨_,rfl⟩
 obtain ⟨B,hB⟩:∃ x:Int,x=(b:Nat):=⟨_,rfl⟩
 obtain ⟨L,hL⟩:∃ x:Int,x=((b - a:Nat):Int):=⟨_,rfl⟩
 obtain ⟨q,hq⟩:∃ q,q=(b - a) / 4:=⟨_,rfl⟩
 obtain ⟨Q,hQ⟩:∃ x:Int,x=(q:Nat):=⟨_,rfl⟩
 obtain ⟨Q2,hQ2⟩:∃ x:Int,x=Q * 2:=⟨_,rfl⟩
 obtain ⟨P2,hP2⟩:∃ x:Int,x=A+Q2:=⟨_,rfl⟩
 obtain ⟨P3,hP3⟩:∃ x:Int,x=P2+1:=⟨_,rfl⟩
 have w1:IntKind.i64.wrap (B - A)=L:=by rw [wrapN (by omega) (by omega)];omega
 have w2:IntKind.i64.wrap (L.tdiv 4)=Q:=by
  have e2:L.tdiv 4=(((b - a) / 4:Nat):Int):=by rw [hL];exact (Int.ofNat_tdiv _ 4).symm
  rw [e2,wrapN (by omega) (by omega)];omega
 have w4:IntKind.i64.wrap (Q * 2)=Q2:=by rw [wrapN (by omega) (by omega)];exact hQ2.symm
 have w5:IntKind.i64.wrap (A+Q2)=P2:=by rw [wrapN (by omega) (by omega)];exact hP2.symm
 have w6:IntKind.i64.wrap (P2 - 1)=((a+q * 2 - 1:Nat):Int):=by rw [wrapN (by omega) (by omega)];omega
 have w7:IntKind.i64.wrap (P2+1)=P3:=by rw [wrapN (by omega) (by omega)];exact hP3.symm
 have w8:IntKind.u64.wrap L=L:=by rw [IntKind.wrap_u64];omega
 have c8:8≤L:=by omega
 have hq2:q * 2+2≤b - a∧1≤q:=by omega
 obtain ⟨m,em,m1,m2⟩:=ev201 (n:=b - a) (by omega) (by omega)
 rw [← hL] at em
 rw [← hA,← hB]
 generalize hS:((a+q * 2 - 1:Nat):Int)=S0 at w6
 simp [S159,w1,c8,w8,splice,objCells]
 obtain ⟨N,hN⟩:∃ N,ub+64+64+64+64+64+64+64+64=N:=⟨_,rfl⟩
 have hl':=hl N (by omega)
 refine ⟨by omega,?_⟩
 refine kS_ev em (by simp) rfl (by simp) ?_
 simp [w2,w4,w5,w6]
 refine wpC_gen fun st hst=>?_
 have g0:st.tm 0 = .osl l u 0 d.size 1:=by rw [hst];simp
 have g1:st.tm 1 = .int .i64 A:=by rw [hst];simp
 have g6:st.tm 6 = .int .i64 L:=by rw [hst];simp
 have g7:st.tm 7 = .ptr (2 * N+1) N 0:=by rw [hst,← hN];simp
 have g8:st.tm 8 = .int .u64 m:=by rw [hst];simp
 have g9:st.tm 9 = .int .i64 ((a+q * 2 - 1+0:Nat):Int):=by rw [Nat.add_zero,hS,hst];simp
 have gd:st.df=[]:=by rw [hst];simp
 have gr:st.ro=ro:=by rw [hst];simp
 have gn:N≤st.nx:=by rw [hst,← hN];simp
 have gw:st.ob (2 * N+1)=some ⟨N,.cells [.int .u64 L]⟩:=by rw [hst,← hN];simp
 have gf:∀ key,key≠2 * N+1→st.ob key=ob key:=by
  intro key hk
  rw [← hN] at hk
  rw [hst];simp [hk]
 have gt:st.tk=tk:=by rw [hst];simp [app_tk0]
 have hNu:ub≤N:=by rw [← hN];omega
 have hroN:ro≤N:=by omega
 clear hst em hN hS w6
 have gat:At l u (arr intC d) ob tk ub st.ob st.tk st.nx:=⟨(gf l hl').trans ho,fun key h1 h2=>gf key (h2 N hNu),gt,by omega⟩
 obtain ⟨I,hI⟩:∃ I:Nat→St→Prop,I=fun n s=>∃ k:Nat,n=3 - k∧k≤3∧s.tm 9 = .int .i64 ((a+q * 2 - 1+k:Nat):Int)∧(∃ z,s.ob (2 * N+1)=some ⟨N,.cells [.int .u64 z]⟩)∧∃ d1,PermIn a b d d1∧At l u (arr intC d1) ob tk ub s.ob s.tk s.nx:=⟨_,rfl⟩
 refine wp_loopF (n:=3 - 0) [(9,10),(26,64)] I rfl rfl (by rw [hI];exact ⟨0,rfl,by omega,g9,⟨L,gw⟩,d,permIn_refl d a b,gat⟩) ?_
 intro n s hIs f
 rw [hI] at hIs
 obtain ⟨k,rfl,hk3,h9,⟨z,hz⟩,d1,hperm,hat⟩:=hIs
 have f0:s.tm 0 = .osl l u 0 d1.size 1:=by rw [f.t 0 (by simp),g0,hperm.1]
 have f1:s.tm 1 = .int .i64 A:=by rw [f.t 1 (by simp)];exact g1
 have f6:s.tm 6 = .int .i64 L:=by rw [f.t 6 (by simp)];exact g6
 have f7:s.tm 7 = .ptr (2 * N+1) N 0:=by rw [f.t 7 (by simp)];exact g7
 have f8:s.tm 8 = .int .u64 m:=by rw [f.t 8 (by simp)];exact g8
 have fd:s.df=[]:=by rw [f.d];exact gd
 have fr:s.ro=ro:=by rw [f.r];exact gr
 clear f g0 g1 g6 g7 g8 g9 gd gr gn gw gf gt gat
 have z1:=hperm.1
 obtain ⟨X,hX⟩:∃ x:Int,x=((a+q * 2 - 1+k:Nat):Int):=⟨_,rfl⟩
 rw [← hX] at h9
 by_cases hk:k=3
 ·have c1:¬ X≤P3:=by omega
  simp [h9,f1,f6,w2,w4,w5,w7,c1]
  exact endS_nil (Or.inl rfl) (by simp [fd]) ⟨d1,hperm,hat.same rfl rfl (by simp;omega)⟩
 have c1:X≤P3:=by omega
 have w9:IntKind.u64.wrap ((m:Int) - 1)=((m - 1:Nat):Int):=by rw [IntKind.wrap_u64];omega
 simp [h9,f1,f6,w2,w4,w5,w7,c1]
 refine kS_callP (vs:=[.ptr (2 * N+1) N 0]) (by simp [f7]) rfl (sv202 (w:=2 * N+1) (uw:=N) (by simpa using hz) (by simp [fr,hroN])) ?_
 rintro v ob1 tk1 ub1 ⟨⟨z',hv,hz'⟩,q2,q3,q4⟩
 simp only at hv hz' q2 q3 q4
 subst hv
 obtain ⟨y,hy1,hy2⟩:=andU z' (m - 1) (by omega)
 have w10:IntKind.i64.wrap (y:Int)=y:=wrapN (by omega) (by omega)
 have w11:IntKind.i64.wrap (X+1)=((a+q * 2 - 1+(k+1):Nat):Int):=by rw [wrapN (by omega) (by omega)];omega
 generalize hX1:((a+q * 2 - 1+(k+1):Nat):Int)=X1 at w11
 simp [f8,w9,hy1,w10,f6]
 generalize hQ:kSeq E Yf (C.draw _ _) _=Qd
 have fin:∀ (s1:St) (o:Nat),o<b - a→s1.tm 10 = .int .i64 o→s1.tm 9 = .int .i64 X→s1.tm 0 = .osl l u 0 d1.size 1→s1.tm 1 = .int .i64 A→s1.df=[]→s1.ro=ro→(∃ z,s1.ob (2 * N+1)=some ⟨N,.cells [.int .u64 z]⟩)→At l u (arr intC d1) ob tk ub s1.ob s1.tk s1.nx→Qd .nrm s1:=by
  intro s1 o ho1 k10 k9 k0 k1 kd kr kw kat
  rw [← hQ]
  obtain ⟨O,hO⟩:∃ x:Int,x=(o:Nat):=⟨_,rfl⟩
  obtain ⟨AO,hAO⟩:∃ x:Int,x=A+O:=⟨_,rfl⟩
  rw [← hO] at k10
  have w12:IntKind.i64.wrap (A+O)=AO:=by rw [wrapN (by omega) (by omega)];exact hAO.symm
  have ix:=idxN (l:=l) (u:=u) (n:=d1.size) (kk:=.i64) (X:=X) (x:=a+q * 2 - 1+k) (by omega) (by omega)
  have iy:=idxN (l:=l) (u:=u) (n:=d1.size) (kk:=.i64) (X:=AO) (x:=a+o) (by omega) (by omega)
  have lx:=ldN kat.1 (x:=a+q * 2 - 1+k) (by omega)
  have ly:=ldN kat.1 (x:=a+o) (by omega)
  have sa:=stI (d:=d1) (x:=a+q * 2 - 1+k) (by omega) d1[a+o]!
  have sb:=stI (d:=d1.setIfInBounds (a+q * 2 - 1+k) d1[a+o]!) (x:=a+o) (by rw [Array.size_setIfInBounds];omega) d1[a+q * 2 - 1+k]!
  rw [show (d1.setIfInBounds (a+q * 2 - 1+k) d1[a+o]!).setIfInBounds (a+o) d1[a+q * 2 - 1+k]! = swp d1 (a+q * 2 - 1+k) (a+o) from rfl] at sb
  have za:a+q * 2 - 1+k+1≤d1.size:=by omega
  have zb:a+o+1≤d1.size:=by omega
  have hsp:=swp_permIn d1 a b (a+q * 2 - 1+k) (a+o) (by omega) (by omega) (by omega) (by omega) (by omega)
  obtain ⟨zz,hzz⟩:=kw
  have hl'':¬ 2 * N+1=l:=fun e=>hl' e.symm
  generalize a+q * 2 - 1+k=xx at *
  simp [k10,k9,k0,k1,w12,ix,iy,lx,ly,sa,sb,za,zb,objCells,hro,kr,kat.1,w11]
  exact ⟨3 - (k+1),by omega,by rw [hI];exact ⟨k+1,rfl,by omega,by simp [hX1],⟨zz,by simp [hl'',hzz]⟩,swp d1 xx (a+o),permIn_trans _ _ _ a b hperm hsp,kat.swap (by simp) (fun key hk=>by simp [hk]) (by simp [app_tk0]) (by simp;omega)⟩⟩
 clear hQ
 have hat1:∀ ub2,ub1≤ub2→At l u (arr intC d1) ob tk ub ob1 tk1 ub2:=fun ub2 hu=>⟨(q2 l hl').trans (by simpa using hat.1),fun key h1 h2=>(q2 key (h2 N hNu)).trans (by simpa using hat.2.1 key h1 h2),q3.trans (by simpa using hat.2.2.1),by have:=hat.2.2.2;omega⟩
 by_cases hyb:L≤(y:Int)
 ·have w13:IntKind.i64.wrap ((y:Int) - L)=((y - (b - a):Nat):Int):=by rw [wrapN (by omega) (by omega)];omega
  simp [hyb,f6,w13]
  exact fin _ (y - (b - a)) (by omega) (by simp) (by simp [h9]) (by simp [f0]) (by simp [f1]) (by simp [fd]) (by simp [fr]) ⟨z',by simpa using hz'⟩ (hat1 _ (by simp;omega))
 ·simp [hyb]
  exact fin _ y (by omega) (by simp) (by simp [h9]) (by simp [f0]) (by simp [f1]) (by simp [fd]) (by simp [fr]) ⟨z',by simpa using hz'⟩ (hat1 _ (by simp;omega))
end Go.Pv.T

/- Partial insertion sort of few. -/
namespace Go.Pv.T
open Go Go.Pv Go.Sort
theorem partialIns_few {d:Array Int} {a b:Nat} (h:b - a<50):partialInsertionSort ltInt d a b=(d,decide (scanSorted ltInt d b (a+1)=b)):=by
 unfold partialInsertionSort
 rw [partialIns]
 simp only
 by_cases hb:scanSorted ltInt d b (a+1)=b
 ·rw [if_pos hb,decide_eq_true hb]
 ·rw [if_neg hb,if_pos h,decide_eq_false hb]
theorem sv162 {Yf:YF} {l u a b:Nat} {d:Array Int} (hd:d.size≤49) (hb:b≤d.size) (hab:a<b) {ob:Nat→Option Obj'} {tk:Nat→Bool} {ro base ub:Nat} (ho:ob l=some ⟨u,.cells (arr intC d)⟩) :
 ∃ r,EvS E Yf.y 162 [.osl l u 0 d.size 1,.int .i64 a,.int .i64 b] ob tk ro base ub r∧r.1 = .bool (decide (scanSorted ltInt d b (a+1)=b))∧At l u (arr intC d) ob tk ub r.2.1 r.2.2.1 r.2.2.2:=by
 refine EvS_wp (af:=S162) rfl (by decide) ?_
 show wpC E Yf S162.body _ (kEndS S162.res _)
 have w1:IntKind.i64.wrap ((a:Int)+1)=((a+1:Nat):Int):=by rw [wrapN (by omega) (by omega)];omega
 have w2:IntKind.i64.wrap ((b:Int) - a)=(b:Int) - a:=wrapN (by omega) (by omega)
 have c2:(b:Int) - a<50:=by omega
 generalize hA1:((a+1:Nat):Int)=A1 at w1
 simp [S162,w1]
 refine wp_unroll 1 ?_
 simp
 refine wpC_gen fun st hst=>?_
 have g0:st.tm 0 = .osl l u 0 d.size 1:=by rw [hst];simp
 have g1:st.tm 1 = .int .i64 a:=by rw [hst];simp
 have g2:st.tm 2 = .int .i64 b:=by rw [hst];simp
 have g7:st.tm 7 = .int .i64 (a+1:Nat):=by rw [hst,hA1];simp
 have gd:st.df=[]:=by rw [hst];simp
 have gat:At l u (arr intC d) ob tk ub st.ob st.tk st.nx:=by rw [hst];exact (At.refl ho).same rfl rfl (by simp;omega)
 clear hst hA1 w1
 obtain ⟨I,hI⟩:∃ I:Nat→St→Prop,I=fun n s=>∃ i:Nat,n=b - i∧a+1≤i∧i≤b∧s.tm 7 = .int .i64 i∧scanSorted ltInt d b i=scanSorted ltInt d b (a+1)∧At l u (arr intC d) ob tk ub s.ob s.tk s.nx:=⟨_,rfl⟩
 refine wp_loopF (n:=b - (a+1)) [(7,7),(17,34)] I rfl rfl (by rw [hI];exact ⟨a+1,rfl,Nat.le_refl _,by omega,g7,rfl,gat⟩) ?_
 intro n s hIs f
 rw [hI] at hIs
 obtain ⟨i,rfl,hi,hib,h7,hsc,hat⟩:=hIs
 have f0:s.tm 0 = .osl l u 0 d.size 1:=by rw [f.t 0 (by simp)];exact g0
 have f1:s.tm 1 = .int .i64 a:=by rw [f.t 1 (by simp)];exact g1
 have f2:s.tm 2 = .int .i64 b:=by rw [f.t 2 (by simp)];exact g2
 have fd:s.df=[]:=by rw [f.d];exact gd
 clear f
 obtain ⟨X,hX⟩:∃ x:Int,x=(i:Nat):=⟨_,rfl⟩
 obtain ⟨B,hB⟩:∃ x:Int,x=(b:Nat):=⟨_,rfl⟩
 rw [← hX] at h7
 rw [← hB] at f2 w2 c2
 by_cases hlt:i<b
 ·have c1:X<B:=by omega
  have w3:IntKind.i64.wrap (X - 1)=X - 1:=wrapN (by omega) (by omega)
  have w4:IntKind.i64.wrap (X+1)=((i+1:Nat):Int):=by rw [wrapN (by omega) (by omega)];omega
  have ix:=idxN (l:=l) (u:=u) (n:=d.size) (kk:=.i64) (X:=X) (x:=i) (by omega) (by omega)
  have iy:=idxN (l:=l) (u:=u) (n:=d.size) (kk:=.i64) (X:=X - 1) (x:=i - 1) (by omega) (by omega)
  have lx:=ldN hat.1 (x:=i) (by omega)
  have ly:=ldN hat.1 (x:=i - 1) (by omega)
  generalize hX1:((i+1:Nat):Int)=X1 at w4
  simp [h7,f2,c1,f0,ix,iy,lx,ly,w3]
  refine kS_ev (ev163 d[i]! d[i - 1]!) (by simp) rfl (by simp) ?_
  simp
  cases hl:ltInt d[i]! d[i - 1]!
  ·simp [h7,w4]
   refine ⟨b - (i+1),by omega,?_⟩
   rw [hI]
   refine ⟨i+1,rfl,by omega,by omega,by simp [hX1],?_,hat.same rfl rfl (by simp;omega)⟩
   rw [← hsc]
   conv=>rhs;rw [scanSorted]
   simp [hlt,hl]
  ·have e3:scanSorted ltInt d b i=i:=by rw [scanSorted];simp [hl]
   rw [e3] at hsc
   have hne:¬ scanSorted ltInt d b (a+1)=b:=by omega
   have c3:¬ (X=B):=by omega
   have c3':(X == B)=false:=by simpa using c3
   simp [h7,f2,c3',w2,c2,f1]
   exact endS_1 (by simp [fd]) ⟨by simp [hne],hat.same rfl rfl (by simp;omega)⟩
 ·have c1:¬ X<B:=by omega
  have e3:scanSorted ltInt d b i=i:=by rw [scanSorted];simp [hlt]
  rw [e3] at hsc
  have hne:scanSorted ltInt d b (a+1)=b:=by omega
  have c3:X=B:=by omega
  rw [c3] at h7 c1
  simp [h7,f2,c1]
  exact endS_1 (by simp [fd]) ⟨by simp [hne],hat.same rfl rfl (by simp;omega)⟩
end Go.Pv.T

/- Sorting of few: the recursion. -/
namespace Go.Pv.T
open Go Go.Pv Go.Sort
structure PQ (l u ro a b:Nat) (d:Array Int) (ob:Nat→Option Obj') (tk:Nat→Bool) (ub a1 b1:Nat) (d1:Array Int) (s:St):Prop where
 t0:s.tm 0 = .osl l u 0 d.size 1
 t1:s.tm 1 = .int .i64 a1
 t2:s.tm 2 = .int .i64 b1
 t10:s.tm 10 = .int .i64 ((b1:Int) - a1)
 df:s.df=[]
 ro:s.ro=ro
 mem:At l u (arr intC d1) ob tk ub s.ob s.tk s.nx
 sz:d1.size=d.size
 bl:Below ltInt a1 b1 d1
 go:∀ R,PermIn a1 b1 d1 R→SortedIn ltInt a1 b1 R→PermIn a b d R∧SortedIn ltInt a b R
def Sorted (l u a b:Nat) (d:Array Int) (ob:Nat→Option Obj') (tk:Nat→Bool) (ub:Nat) (r:V × (Nat→Option Obj') × (Nat→Bool) × Nat):Prop:=∃ d',PermIn a b d d'∧SortedIn ltInt a b d'∧At l u (arr intC d') ob tk ub r.2.1 r.2.2.1 r.2.2.2
theorem PQ.turn {l u ro a b:Nat} {d:Array Int} {ob:Nat→Option Obj'} {tk:Nat→Bool} {ub a1 b1:Nat} {d2 d3:Array Int} {s s':St} (hp:PQ l u ro a b d ob tk ub a1 b1 d2 s) (hb1:b1≤d.size) (h0:s'.tm 0=s.tm 0) (h1:s'.tm 1=s.tm 1) (h2:s'.tm 2=s.tm 2) (h10:s'.tm 10=s.tm 10) (hd:s'.df=s.df) (hr:s'.ro=s.ro)
 (hm:At l u (arr intC d3) ob tk ub s'.ob s'.tk s'.nx) (hpm:PermIn a1 b1 d2 d3):PQ l u ro a b d ob tk ub a1 b1 d3 s' :=
 ⟨h0.trans hp.t0,h1.trans hp.t1,h2.trans hp.t2,h10.trans hp.t10,hd.trans hp.df,hr.trans hp.ro,hm,hpm.1.trans hp.sz,hp.bl.perm (by rw [hp.sz];exact hb1) hpm,fun R hR hs=>hp.go R (permIn_trans _ _ _ a1 b1 hpm hR) hs⟩
theorem PQ.mid {l u ro a b:Nat} {d:Array Int} {ob:Nat→Option Obj'} {tk:Nat→Bool} {ub a1 b1:Nat} {d2:Array Int} {s:St} (hp:PQ l u ro a b d ob tk ub a1 b1 d2 s) {cs:List V} {ob1:Nat→Option Obj'} {tk1:Nat→Bool} {ub0 ub1 ub2:Nat} (hat:At l u cs s.ob s.tk ub0 ob1 tk1 ub1) (h0:s.nx≤ub0) (h2:ub1≤ub2):At l u cs ob tk ub ob1 tk1 ub2:=(hp.mem.trans hat h0).same rfl rfl h2
theorem sv117 (N:Nat):∀ (Yf:YF) (l u a b lim:Nat) (d:Array Int),b - a<N→d.size≤49→b≤d.size→a≤b→lim≤1000→Below ltInt a b d→∀ (ob:Nat→Option Obj') (tk:Nat→Bool) (ro base ub:Nat),ob l=some ⟨u,.cells (arr intC d)⟩→ro≤u→(∀ m,ub≤m→l≠2 * m+1)→ro≤ub →
 ∃ r,EvS E Yf.y 117 [.osl l u 0 d.size 1,.int .i64 a,.int .i64 b,.int .i64 lim] ob tk ro base ub r∧Sorted l u a b d ob tk ub r:=by
 induction N with
 | zero=>intro _ _ _ _ _ _ _ h;omega
 | succ N ih =>
  intro Yf l u a b lim d hN hd hb hab hlim hbl ob tk ro base ub ho hro hl hru
  refine EvS_wp (af:=S117) rfl (by decide) ?_
  show wpC E Yf S117.body _ (kEndS S117.res _)
  simp [S117]
  obtain ⟨I,hI⟩:∃ I:Nat→St→Prop,I=fun n s=>∃ a1 b1 lim1:Nat,∃ wb wp:Bool,n=b1 - a1∧a1≤b1∧b1≤d.size∧b1 - a1≤b - a∧lim1≤1000∧s.tm 3 = .int .i64 lim1∧s.tm 8 = .bool wb∧s.tm 9 = .bool wp∧∃ d1:Array Int,PQ l u ro a b d ob tk ub a1 b1 d1 (s.setT (some 10) (.int .i64 ((b1:Int) - a1))):=⟨_,rfl⟩
  refine wp_loopF (n:=b - a) [(1,3),(8,133)] I rfl rfl (by
   rw [hI]
   exact ⟨a,b,lim,true,true,rfl,hab,hb,Nat.le_refl _,hlim,by simp,by simp,by simp,d,⟨by simp,by simp,by simp,by simp,by simp,by simp,(At.refl ho).same rfl rfl (by simp;omega),rfl,hbl,fun R h1 h2=>⟨h1,h2⟩⟩⟩) ?_
  intro n s hIs f
  rw [hI] at hIs
  obtain ⟨a1,b1,lim1,wb,wp,rfl,hab1,hb1,hlen,hlim1,h3,h8,h9,d1,hp⟩:=hIs
  clear f
  have f0:s.tm 0 = .osl l u 0 d.size 1:=by simpa using hp.t0
  have f1:s.tm 1 = .int .i64 a1:=by simpa using hp.t1
  have f2:s.tm 2 = .int .i64 b1:=by simpa using hp.t2
  have fd:s.df=[]:=by simpa using hp.df
  have fr:s.ro=ro:=by simpa using hp.ro
  have hm:At l u (arr intC d1) ob tk ub s.ob s.tk s.nx:=by simpa using hp.mem
  have z1:=hp.sz
  have w1:IntKind.i64.wrap ((b1:Int) - a1)=(b1:Int) - a1:=wrapN (by omega) (by omega)
  have hnx:=hm.2.2.2
  by_cases h12:b1 - a1≤12
  ·have c1:(b1:Int) - a1≤12:=by omega
   simp [f1,f2,w1,c1,f0]
   refine kS_callP (vs:=[.osl l u 0 d1.size 1,.int .i64 a1,.int .i64 b1]) (by simp [z1]) rfl (sv157 (l:=l) (u:=u) (d:=d1) (by omega) (by omega) hab1 (by simpa using hm.1) (by simp [fr,hro])) ?_
   rintro v ob1 tk1 ub1 hat
   have hins:=insertionSort_holds (lt:=ltInt) swo_ltInt d1 a1 b1 hab1 (by omega)
   obtain ⟨q1,q2⟩:=hp.go _ hins.1 hins.2
   simp
   exact endS_nil (Or.inr rfl) (by simp [fd]) ⟨_,q1,q2,(hm.trans hat (by omega)).same rfl rfl (by simp)⟩
  have c1:¬ (b1:Int) - a1≤12:=by omega
  by_cases hl0:lim1=0
  ·subst hl0
   simp [f1,f2,w1,c1,f0,h3]
   refine kS_callP (vs:=[.osl l u 0 d1.size 1,.int .i64 a1,.int .i64 b1]) (by simp [z1]) rfl (sv158 (l:=l) (u:=u) (d:=d1) (by omega) (by omega) hab1 (by simpa using hm.1) (by simp [fr,hro])) ?_
   rintro v ob1 tk1 ub1 hat
   have hins:=heapSort_holds (lt:=ltInt) swo_ltInt d1 a1 b1 hab1 (by omega)
   obtain ⟨q1,q2⟩:=hp.go _ hins.1 hins.2
   simp
   exact endS_nil (Or.inr rfl) (by simp [fd]) ⟨_,q1,q2,(hm.trans hat (by omega)).same rfl rfl (by simp)⟩
  have c2:((lim1:Int) == 0)=false:=by simp;omega
  simp [f1,f2,w1,c1,h3,c2,h8]
  have hp':PQ l u ro a b d ob tk ub a1 b1 d1 (s.setT (some 10) (.int .i64 ((b1:Int) - a1))):=hp
  have hp0:=hp'
  generalize hK:kSeq E Yf _ _=K
  have restB:∀ (s:St) (d2:Array Int) (lim2:Nat),lim2≤1000→PQ l u ro a b d ob tk ub a1 b1 d2 s→s.tm 3 = .int .i64 lim2→s.tm 8 = .bool wb→s.tm 9 = .bool wp→K .nrm s:=by
   intro s d2 lim2 hlim2 hp h3 h8 h9
   rw [← hK]
   have z2:=hp.sz
   have hnx:=hp.mem.2.2.2
   simp [hp.t0,hp.t1,hp.t2]
   refine kS_callP (vs:=[.osl l u 0 d2.size 1,.int .i64 a1,.int .i64 b1]) (by simp [z2]) rfl (sv160 (l:=l) (u:=u) (d:=d2) (by omega) (by omega) (by omega) (by simpa using hp.mem.1) (fun m hm=>hl m (by first | omega | (simp at hm;omega))) (by simp [hp.ro];omega)) ?_
   rintro v ob1 tk1 ub1 ⟨⟨pv,hnt,hv,hpa,hpb,hh⟩,hat⟩
   simp only at hv
   subst hv
   simp only at hat
   have hat':=fun ub2 (h:ub1≤ub2)=>hp.mid (ub2:=ub2) hat (by first | omega | (simp;done) | (simp;omega)) h
   simp
   generalize hK2:kSeq E Yf _ _=K2
   have restC:∀ (s:St) (d3:Array Int) (pv hnt:Nat),a1≤pv→pv<b1→hnt≤2→PQ l u ro a b d ob tk ub a1 b1 d3 s→s.tm 3 = .int .i64 lim2→s.tm 8 = .bool wb→s.tm 9 = .bool wp→s.tm 11 = .int .i64 pv→s.tm 12 = .int .i64 hnt→K2 .nrm s:=by
    intro s d3 pv hnt hpa hpb hh hp h3 h8 h9 h11 h12
    rw [← hK2,kSeq_nrm,kC_seq]
    clear hK2
    generalize hK3:kSeq E Yf _ _=K3
    have z3:=hp.sz
    have restD:∀ s:St,PQ l u ro a b d ob tk ub a1 b1 d3 s→s.tm 3 = .int .i64 lim2→s.tm 8 = .bool wb→s.tm 9 = .bool wp→s.tm 11 = .int .i64 pv→K3 .nrm s:=by
     intro s hp h3 h8 h9 h11
     rw [← hK3,kSeq_nrm,kC_seq]
     generalize hK4:kSeq E Yf _ _=K4
     have restE:∀ s:St,PQ l u ro a b d ob tk ub a1 b1 d3 s→s.tm 3 = .int .i64 lim2→s.tm 11 = .int .i64 pv→K4 .nrm s:=by
      intro s hp h3 h11
      rw [← hK4,kSeq_nrm]
      have hnx:=hp.mem.2.2.2
      simp [hp.t0,hp.t1,hp.t2,h11]
      refine kS_callP (vs:=[.osl l u 0 d3.size 1,.int .i64 a1,.int .i64 b1,.int .i64 pv]) (by simp [z3]) rfl (sv165 (l:=l) (u:=u) (d:=d3) (by omega) (by omega) hpa hpb (by simpa using hp.mem.1) (by simp [hp.ro,hro])) ?_
      rintro v ob5 tk5 ub5 ⟨hv,hat⟩
      simp only at hv hat
      subst hv
      obtain ⟨⟨mid,ap,d4⟩,hx⟩:∃ P,partition ltInt d3 a1 b1 pv=P:=⟨_,rfl⟩
      obtain ⟨g1,g2,hs4,hBa,hBr,hleft,hright⟩:=round_part swo_ltInt (partition_holds ltInt) hpa hpb (by omega) hp.bl hx
      rw [hx] at hat ⊢
      have hat5:=fun ub2 (h:ub5≤ub2)=>hp.mid (ub2:=ub2) hat (by first | omega | (simp;done) | (simp;omega)) h
      have hn5:=(hat5 ub5 (Nat.le_refl _)).2.2.2
      have w5:IntKind.i64.wrap ((mid:Int) - a1)=(mid:Int) - a1:=wrapN (by omega) (by omega)
      have w6:IntKind.i64.wrap ((b1:Int) - mid)=(b1:Int) - mid:=wrapN (by omega) (by omega)
      have w7:IntKind.i64.wrap ((mid:Int)+1)=((mid+1:Nat):Int):=by rw [wrapN (by omega) (by omega)];omega
      generalize hM1:((mid+1:Nat):Int)=M1 at w7
      have t10:=hp.t10
      simp [hp.t1,hp.t2,t10,w5,w6]
      generalize IntKind.i64.wrap (((b1:Int) - a1).tdiv 8)=T
      by_cases hlr:mid - a1<b1 - mid
      ·have c5:(mid:Int) - a1<b1 - mid:=by omega
       simp [c5,hp.t0,hp.t1,h3]
       refine kS_callP (vs:=[.osl l u 0 d4.size 1,.int .i64 a1,.int .i64 mid,.int .i64 lim2]) (by simp [hs4,z3]) rfl (ih Yf l u a1 mid lim2 d4 (by omega) (by omega) (by omega) g1 hlim2 hBa _ _ _ _ _ (by simpa using hat.1) (by simp [hp.ro,hro]) (fun m hm=>hl m (by first | omega | (simp at hm;omega))) (by first | (simp [hp.ro];omega) | simp [hp.ro])) ?_
       rintro v ob6 tk6 ub6 ⟨L,hL1,hL2,hat6⟩
       simp only at hat6
       obtain ⟨hBL,hfin⟩:=hleft L hL1 hL2
       simp [w7]
       exact ⟨b1 - (mid+1),by omega,by
        rw [hI]
        exact ⟨mid+1,b1,lim2,decide (T≤(mid:Int) - a1),ap,rfl,by omega,hb1,by omega,hlim2,by simp [h3],by simp,by simp,L,⟨by simp [hp.t0],by simp [hM1],by simp [hp.t2],by simp,by simp [hp.df],by simp [hp.ro],
         ((hat5 ub5 (Nat.le_refl _)).trans hat6 (by first | omega | (simp;done) | (simp;omega))).same rfl rfl (by first | omega | (simp;done) | (simp;omega)),by rw [hL1.1,hs4,z3],hBL,fun R hR hs=>by
           obtain ⟨p1,p2⟩:=hfin R hR hs
           exact hp.go R p1 p2⟩⟩⟩
      ·have c5:¬ (mid:Int) - a1<b1 - mid:=by omega
       simp [c5,hp.t0,hp.t2,h3,w7]
       refine kS_callP (vs:=[.osl l u 0 d4.size 1,.int .i64 (mid+1:Nat),.int .i64 b1,.int .i64 lim2]) (by simp [hs4,z3,hM1]) rfl (ih Yf l u (mid+1) b1 lim2 d4 (by omega) (by omega) (by omega) (by omega) hlim2 hBr _ _ _ _ _ (by simpa using hat.1) (by simp [hp.ro,hro]) (fun m hm=>hl m (by first | omega | (simp at hm;omega))) (by first | (simp [hp.ro];omega) | simp [hp.ro])) ?_
       rintro v ob6 tk6 ub6 ⟨L,hL1,hL2,hat6⟩
       simp only at hat6
       obtain ⟨hBL,hfin⟩:=hright L hL1 hL2
       simp
       exact ⟨mid - a1,by omega,by
        rw [hI]
        exact ⟨a1,mid,lim2,decide (T≤(b1:Int) - mid),ap,rfl,by omega,by omega,by omega,hlim2,by simp [h3],by simp,by simp,L,⟨by simp [hp.t0],by simp [hp.t1],by simp,by simp,by simp [hp.df],by simp [hp.ro],
         ((hat5 ub5 (Nat.le_refl _)).trans hat6 (by first | omega | (simp;done) | (simp;omega))).same rfl rfl (by first | omega | (simp;done) | (simp;omega)),by rw [hL1.1,hs4,z3],hBL,fun R hR hs=>by
           obtain ⟨p1,p2⟩:=hfin R hR hs
           exact hp.go R p1 p2⟩⟩⟩
     have hex:∀ s':St,(∃ j,j<b1 - a1∧I j s')→K4 (.exit 1) s':=fun s' h=>by
      rw [← hK4,kSeq_exit,kBlk_exit,if_pos rfl,kLoop_nrm]
      exact h
     clear hK4
     have hnx:=hp.mem.2.2.2
     by_cases ha0:a1=0
     ·have c3:¬ 0<a1:=by omega
      simp [hp.t1,c3]
      exact restE _ (hp.turn hb1 (by simp) (by simp) (by simp) (by simp) (by simp) (by simp) (hp.mem.same rfl rfl (by first | omega | (simp;done) | (simp;omega))) (permIn_refl d3 a1 b1)) (by simp [h3]) (by simp [h11])
     have c3:0<a1:=by omega
     have w5:IntKind.i64.wrap ((a1:Int) - 1)=((a1 - 1:Nat):Int):=by rw [wrapN (by omega) (by omega)];omega
     have ix:=idxN (l:=l) (u:=u) (n:=d.size) (kk:=.i64) (X:=((a1 - 1:Nat):Int)) (x:=a1 - 1) rfl (by omega)
     have iy:=idxN (l:=l) (u:=u) (n:=d.size) (kk:=.i64) (X:=(pv:Int)) (x:=pv) rfl (by omega)
     have lx:=ldN hp.mem.1 (x:=a1 - 1) (by omega)
     have ly:=ldN hp.mem.1 (x:=pv) (by omega)
     generalize ((a1 - 1:Nat):Int)=A1 at w5 ix
     simp [hp.t0,hp.t1,c3,h11,w5,ix,iy,lx,ly]
     refine kS_ev (ev163 d3[a1 - 1]! d3[pv]!) (by simp) rfl (by simp) ?_
     simp
     cases hlt:ltInt d3[a1 - 1]! d3[pv]!
     ·simp [hp.t0,hp.t1,hp.t2,h11]
      refine kS_callP (vs:=[.osl l u 0 d3.size 1,.int .i64 a1,.int .i64 b1,.int .i64 pv]) (by simp [z3]) rfl (sv164 (l:=l) (u:=u) (d:=d3) (by omega) (by omega) hpa hpb (by simpa using hp.mem.1) (by simp [hp.ro,hro])) ?_
      rintro v ob5 tk5 ub5 ⟨hv,hat⟩
      simp only at hv hat
      subst hv
      obtain ⟨⟨mid,d4⟩,hx⟩:∃ P,partitionEqual ltInt d3 a1 b1 pv=P:=⟨_,rfl⟩
      obtain ⟨g1,g2,hs4,hB4,hfin⟩:=round_eq swo_ltInt (partitionEqual_holds ltInt) c3 hpa hpb (by omega) hp.bl hlt hx
      rw [hx] at hat ⊢
      simp
      exact hex _ ⟨b1 - mid,by omega,by
       rw [hI]
       exact ⟨mid,b1,lim2,wb,wp,rfl,g2,hb1,by omega,hlim2,by simp [h3],by simp [h8],by simp [h9],d4,⟨by simp [hp.t0],by simp,by simp [hp.t2],by simp,by simp [hp.df],by simp [hp.ro],
        hp.mid hat (by first | omega | (simp;done) | (simp;omega)) (by first | omega | (simp;done) | (simp;omega)),by rw [hs4,z3],hB4,fun R hR hs=>by
         obtain ⟨p1,p2⟩:=hfin R hR hs
         exact hp.go R p1 p2⟩⟩⟩
     ·simp
      exact restE _ (hp.turn hb1 (by simp) (by simp) (by simp) (by simp) (by simp) (by simp) (hp.mem.same rfl rfl (by first | omega | (simp;done) | (simp;omega))) (permIn_refl d3 a1 b1)) (by simp [h3]) (by simp [h11])
    have hret:∀ s':St,kEndS [] (Sorted l u a b d ob tk ub) .ret s'→K3 .ret s':=fun s' h=>by
     rw [← hK3,kSeq_ret,kBlk_ret,kLoop_ret,kBlk_ret]
     exact h
    clear hK3
    have hnx:=hp.mem.2.2.2
    have onD:∀ s2:St,s2.tm 0=s.tm 0→s2.tm 1=s.tm 1→s2.tm 2=s.tm 2→s2.tm 3=s.tm 3→s2.tm 8=s.tm 8→s2.tm 9=s.tm 9→s2.tm 10=s.tm 10→s2.tm 11=s.tm 11→s2.df=s.df→s2.ro=s.ro→At l u (arr intC d3) ob tk ub s2.ob s2.tk s2.nx→K3 .nrm s2:=fun s2 k0 k1 k2 k3 k8 k9 k10 k11 kd kr km =>
     restD s2 (hp.turn hb1 k0 k1 k2 k10 kd kr km (permIn_refl d3 a1 b1)) (k3.trans h3) (k8.trans h8) (k9.trans h9) (k11.trans h11)
    cases wb
    ·simp [h8]
     exact onD _ (by simp) (by simp) (by simp) (by simp) (by simp) (by simp) (by simp) (by simp) (by simp) (by simp) (hp.mem.same rfl rfl (by first | omega | (simp;done) | (simp;omega)))
    cases wp
    ·simp [h8,h9]
     exact onD _ (by simp) (by simp) (by simp) (by simp) (by simp) (by simp) (by simp) (by simp) (by simp) (by simp) (hp.mem.same rfl rfl (by first | omega | (simp;done) | (simp;omega)))
    by_cases hn1:hnt=1
    ·subst hn1
     simp [h8,h9,h12,hp.t0,hp.t1,hp.t2]
     refine kS_callP (vs:=[.osl l u 0 d3.size 1,.int .i64 a1,.int .i64 b1]) (by simp [z3]) rfl (sv162 (l:=l) (u:=u) (d:=d3) (by omega) (by omega) (by omega) (by simpa using hp.mem.1)) ?_
     rintro v ob5 tk5 ub5 ⟨hv,hat⟩
     simp only at hv hat
     subst hv
     have hat5:=fun ub2 (h:ub5≤ub2)=>hp.mid (ub2:=ub2) hat (by first | omega | (simp;done) | (simp;omega)) h
     have hps:=partialInsertionSort_holds (lt:=ltInt) swo_ltInt d3 a1 b1 (by omega) (by omega) hp.bl
     rw [partialIns_few (by omega)] at hps
     simp
     by_cases hsc:scanSorted ltInt d3 b1 (a1+1)=b1
     ·obtain ⟨q1,q2⟩:=hp.go d3 hps.1 (hps.2 (by simp [hsc]))
      simp [hsc]
      exact hret _ (endS_nil (Or.inr rfl) (by simp [hp.df]) ⟨d3,q1,q2,hat5 _ (by first | omega | (simp;done) | (simp;omega))⟩)
     ·simp [hsc]
      exact onD _ (by simp) (by simp) (by simp) (by simp) (by simp) (by simp) (by simp) (by simp) (by simp) (by simp) (hat5 _ (by first | omega | (simp;done) | (simp;omega)))
    ·have hn1':((hnt:Int) == 1)=false:=by simp;omega
     simp [h8,h9,h12,hn1']
     exact onD _ (by simp) (by simp) (by simp) (by simp) (by simp) (by simp) (by simp) (by simp) (by simp) (by simp) (hp.mem.same rfl rfl (by first | omega | (simp;done) | (simp;omega)))
   by_cases h2:hnt=2
   ·subst h2
    have w2:IntKind.i64.wrap ((b1:Int) - 1)=(b1:Int) - 1:=wrapN (by omega) (by omega)
    have w3:IntKind.i64.wrap ((pv:Int) - a1)=(pv:Int) - a1:=wrapN (by omega) (by omega)
    have w4:IntKind.i64.wrap ((b1:Int) - 1 - (pv - a1))=((b1 - 1 - (pv - a1):Nat):Int):=by rw [wrapN (by omega) (by omega)];omega
    simp [hp.t0,hp.t1,hp.t2]
    refine kS_callP (vs:=[.osl l u 0 d2.size 1,.int .i64 a1,.int .i64 b1]) (by simp [z2]) rfl (sv161 (l:=l) (u:=u) (d:=d2) (by omega) (by omega) (by omega) (by simpa using hat.1) (by simp [hp.ro,hro])) ?_
    rintro v ob2 tk2 ub2 hat2
    simp only at hat2
    generalize hPV:((b1 - 1 - (pv - a1):Nat):Int)=PV at w4
    simp [hp.t1,hp.t2,w2,w3,w4]
    exact restC _ (reverseRange d2 a1 b1) (b1 - 1 - (pv - a1)) 1 (by omega) (by omega) (by omega) (hp.turn hb1 (by simp) (by simp) (by simp) (by simp) (by simp) (by simp) (((hat' ub1 (Nat.le_refl _)).trans hat2 (by first | omega | (simp;done) | (simp;omega))).same rfl rfl (by first | omega | (simp;done) | (simp;omega))) (reverseRange_holds d2 a1 b1 hab1 (by omega))) (by simp [h3]) (by simp [h8]) (by simp [h9]) (by simp [hPV]) (by simp)
   ·have h2':((hnt:Int) == 2)=false:=by simp;omega
    simp [h2']
    exact restC _ d2 pv hnt hpa hpb hh (hp.turn hb1 (by simp) (by simp) (by simp) (by simp) (by simp) (by simp) (hat' _ (by first | omega | (simp;done) | (simp;omega))) (permIn_refl d2 a1 b1)) (by simp [h3]) (by simp [h8]) (by simp [h9]) (by simp) (by simp)
  clear hK
  cases wb
  ·have w2:IntKind.i64.wrap ((lim1:Int) - 1)=((lim1 - 1:Nat):Int):=by rw [wrapN (by omega) (by omega)];omega
   simp [f0,f1,f2]
   refine kS_callP (vs:=[.osl l u 0 d1.size 1,.int .i64 a1,.int .i64 b1]) (by simp [z1]) rfl (sv159 (l:=l) (u:=u) (d:=d1) (by omega) (by omega) (by omega) (by simpa using hm.1) (by simp [fr,hro]) (fun m hm=>hl m (by first | omega | (simp at hm;omega))) (by simp [fr];omega)) ?_
   rintro v ob1 tk1 ub1 ⟨d2,hpm,hat⟩
   simp only at hat
   generalize hL1:((lim1 - 1:Nat):Int)=L1 at w2
   simp [h3,w2]
   exact restB _ d2 (lim1 - 1) (by omega) (hp0.turn hb1 (by simp) (by simp) (by simp) (by simp) (by simp) (by simp) ((hm.trans hat (by first | omega | (simp;done) | (simp;omega))).same rfl rfl (by first | omega | (simp;done) | (simp;omega))) hpm) (by simp [hL1]) (by simp [h8]) (by simp [h9])
  ·simp
   exact restB _ d1 lim1 hlim1 (hp0.turn hb1 (by simp) (by simp) (by simp) (by simp) (by simp) (by simp) (hm.same rfl rfl (by first | omega | (simp;done) | (simp;omega))) (permIn_refl d1 a1 b1)) (by simp [h3]) (by simp [h8]) (by simp [h9])
end Go.Pv.T

/- slices.Sort of few ints. -/
namespace Go.Pv.T
open Go Go.Pv Go.Sort
theorem sv157n {Yf:YF} {ob:Nat→Option Obj'} {tk:Nat→Bool} {ro base ub:Nat}:∃ r,EvS E Yf.y 157 [.sl none true 0 [],.int .i64 0,.int .i64 0] ob tk ro base ub r∧r.2.1=ob∧r.2.2.1=tk∧ub≤r.2.2.2:=by
 refine EvS_wp (af:=S157) rfl (by decide) ?_
 show wpC E Yf S157.body _ (kEndS S157.res _)
 have w1:IntKind.i64.wrap 1=1:=by decide
 simp [S157,w1]
 refine wp_unroll 1 ?_
 simp
 exact endS_nil (Or.inl rfl) (by simp) ⟨by simp,by simp,by simp;omega⟩
theorem sv117n {Yf:YF} {k:Nat} {ob:Nat→Option Obj'} {tk:Nat→Bool} {ro base ub:Nat}:∃ r,EvS E Yf.y 117 [.sl none true 0 [],.int .i64 0,.int .i64 0,.int .i64 k] ob tk ro base ub r∧r.2.1=ob∧r.2.2.1=tk∧ub≤r.2.2.2:=by
 refine EvS_wp (af:=S117) rfl (by decide) ?_
 show wpC E Yf S117.body _ (kEndS S117.res _)
 have w0:IntKind.i64.wrap 0=0:=by decide
 simp [S117]
 refine wp_unroll 1 ?_
 simp [w0]
 refine kS_callP (vs:=[.sl none true 0 [],.int .i64 0,.int .i64 0]) (by simp) rfl sv157n ?_
 rintro v ob1 tk1 ub1 ⟨h1,h2,h3⟩
 simp only at h1 h2 h3
 simp
 exact endS_nil (Or.inr rfl) (by simp) ⟨by simp [h1],by simp [h2],by simp;first | omega | (simp at h3;omega)⟩
theorem sv76n {Yf:YF} {ob:Nat→Option Obj'} {tk:Nat→Bool} {ro base ub:Nat}:∃ r,EvS E Yf.y 76 [.sl none true 0 []] ob tk ro base ub r∧r.2.1=ob∧r.2.2.1=tk∧ub≤r.2.2.2:=by
 refine EvS_wp (af:=S76) rfl (by decide) ?_
 show wpC E Yf S76.body _ (kEndS S76.res _)
 obtain ⟨k,ek,hk⟩:=ev118 (n:=0) (by omega)
 have w0:IntKind.u64.wrap 0=0:=by decide
 simp [S76,w0]
 refine kS_ev ek (by simp) rfl (by simp) ?_
 simp
 refine kS_callP (vs:=[.sl none true 0 [],.int .i64 0,.int .i64 0,.int .i64 k]) (by simp) rfl sv117n ?_
 rintro v ob1 tk1 ub1 ⟨h1,h2,h3⟩
 simp only at h1 h2 h3
 simp
 exact endS_nil (Or.inl rfl) (by simp) ⟨by simp [h1],by simp [h2],by simp;first | omega | (simp at h3;omega)⟩
theorem permIn_of {L T:List Int} (hp:L.Perm T):PermIn 0 L.toArray.size L.toArray T.toArray:=by
 have hl:=hp.length_eq
 refine ⟨by simp [hl],fun i hi=>?_,?_⟩
 ·have hi':L.length≤i:=by rcases hi with h | h;omega;simpa using h
  rw [getElem!_neg _ _ (by simp;omega),getElem!_neg _ _ (by simp;omega)]
 ·simp
  rw [List.take_of_length_le (by omega)]
  exact hp.symm
theorem sortedIn_of {T:List Int} (hs:T.Pairwise (·≤·)):SortedIn ltInt 0 T.length T.toArray:=by
 intro i j _ hij hj
 rw [getElem!_pos _ _ (by simpa using hj),getElem!_pos _ _ (by simp;omega)]
 have:=List.pairwise_iff_getElem.1 hs i j (by omega) hj hij
 simp only [List.getElem_toArray,ltInt,decide_eq_false_iff_not]
 omega
theorem sorted_is {L T:List Int} {d':Array Int} (hp:L.Perm T) (hs:T.Pairwise (·≤·)) (h1:PermIn 0 L.toArray.size L.toArray d') (h2:SortedIn ltInt 0 L.toArray.size d'):d'=T.toArray:=by
 have hex:∀ x y:Int,ltInt x y=false→ltInt y x=false→x=y:=by
  intro x y a b
  simp only [ltInt,decide_eq_false_iff_not] at a b
  omega
 have e1:=sorted_unique_holds swo_ltInt hex L.toArray d' h1 h2
 have e2:=sorted_unique_holds swo_ltInt hex L.toArray T.toArray (permIn_of hp) (by
  have:=sortedIn_of hs
  rwa [← hp.length_eq] at this)
 rw [← e2] at e1
 exact Array.toList_inj.1 e1
theorem sv76 {Yf:YF} {l u:Nat} {L T:List Int} (hp:L.Perm T) (hs:T.Pairwise (·≤·)) (hL:L.length≤49) {ob:Nat→Option Obj'} {tk:Nat→Bool} {ro base ub:Nat} (ho:ob l=some ⟨u,.cells (L.flatMap intC)⟩) (hro:ro≤u) (hl:∀ m,ub≤m→l≠2 * m+1) (hru:ro≤ub) :
 ∃ r,EvS E Yf.y 76 [.osl l u 0 L.length 1] ob tk ro base ub r∧At l u (T.flatMap intC) ob tk ub r.2.1 r.2.2.1 r.2.2.2:=by
 refine EvS_wp (af:=S76) rfl (by decide) ?_
 show wpC E Yf S76.body _ (kEndS S76.res _)
 obtain ⟨k,ek,hk⟩:=ev118 (n:=L.length) (by omega)
 have w0:IntKind.u64.wrap (L.length:Int)=(L.length:Int):=by rw [IntKind.wrap_u64];omega
 simp [S76,w0]
 refine kS_ev ek (by simp) rfl (by simp) ?_
 simp
 have z:L.toArray.size=L.length:=by simp
 refine kS_callP (vs:=[.osl l u 0 L.toArray.size 1,.int .i64 (0:Nat),.int .i64 (L.length:Nat),.int .i64 k]) (by simp) rfl (sv117 (L.length+1) Yf l u 0 L.length k L.toArray (by omega) (by omega) (by omega) (by omega) (by omega) (Or.inl rfl) _ _ _ _ _ (by simpa [arr] using ho) (by simp [hro]) (fun m hm=>hl m (by first | omega | (simp at hm;omega))) (by first | (simp;omega) | simp)) ?_
 rintro v ob1 tk1 ub1 ⟨d',h1,h2,hat⟩
 simp only at hat
 have e:=sorted_is hp hs (d':=d') (by rw [z];exact h1) (by rw [z];exact h2)
 subst e
 simp
 have hat':At l u (T.flatMap intC) ob tk ub ob1 tk1 ub1:=by
  have:arr intC T.toArray=T.flatMap intC:=by simp [arr]
  rw [this] at hat
  exact ⟨hat.1,fun key a b=>(hat.2.1 key a (fun m hm=>b m (by first | omega | (simp at hm;omega)))).trans (by simp),hat.2.2.1.trans (by simp),by have:=hat.2.2.2;first | omega | (simp at this;omega)⟩
 exact endS_nil (Or.inl rfl) (by simp) (hat'.same rfl rfl (by first | omega | simp))
end Go.Pv.T

/- The last write of a key; what a transaction leaves. -/
namespace Go.Pv.T
open Go Go.Pv
theorem sv175 {Yf:YF} {sl:V} (hs:sl.cells=[sl]) (hl:sl.leaf=true) {ob:Nat→Option Obj'} {tk:Nat→Bool} {ro base ub:Nat}:∃ r,EvS E Yf.y 175 [sl] ob tk ro base ub r ∧
 r.1 = .fn (.func 217) [] [.ptr (2 * ub+1) ub 0]∧(∀ key,r.2.1 key=if key=2 * ub+1 then some ⟨ub,.cells [sl]⟩ else ob key)∧r.2.2.1=tk∧r.2.2.2=ub+256:=by
 refine EvS_wp (af:=S175) rfl (by decide) ?_
 show wpC E Yf S175.body _ (kEndS S175.res _)
 simp [S175,hs,hl]
 exact endS_1 (by simp) ⟨by simp,fun key=>by simp,by simp [app_tk0],by simp⟩
def lastW (ops:List Op') (key:Int):Val' × Bool:=rawTo key ops ops.length
theorem ev130 (nl:Bool) (ops:List Op') (hm:ops.length≤1000000) (key:Int):Ev E 130 [slOf nl opC ops,.int .i64 key] (.tup [.agg (valC (lastW ops key).1),.bool (lastW ops key).2]):=by
 refine Ev_wpK (af:=F130) rfl ?_
 simp [F130]
 refine kS_callP (vs:=[slOf nl opC ops]) (by simp) rfl (sv175 (by simp) (by simp)) ?_
 rintro v ob1 tk1 ub1 ⟨e1,e2,e3,e4⟩
 simp only at e1 e2 e3 e4
 subst e1 e4
 simp
 refine wpC_gen fun st hst=>?_
 have g3:st.tm 3 = .ptr 6 0 0:=by rw [hst];simp
 have g4:st.tm 4 = .ptr 8 64 0:=by rw [hst];simp
 have g5:st.tm 5 = .ptr 10 128 0:=by rw [hst];simp
 have g9:st.tm 9 = .fn (.func 217) [] [.ptr 513 256 0]:=by rw [hst];simp
 have gd:st.df=[]:=by rw [hst];simp
 have gb:st.fb=0:=by rw [hst];simp
 have gr:st.ro=0:=by rw [hst];simp
 have gn:st.nx=512:=by rw [hst];simp
 have p6:st.ob 6=some ⟨0,.cells [.int .i64 key]⟩:=by rw [hst];simp only [setN_ob,retS_ob];rw [e2];simp
 have p8:st.ob 8=some ⟨64,.cells [.int .i64 0,.int .i64 0]⟩:=by rw [hst];simp only [setN_ob,retS_ob];rw [e2];simp
 have p10:st.ob 10=some ⟨128,.cells [.bool false]⟩:=by rw [hst];simp only [setN_ob,retS_ob];rw [e2];simp
 have ph:st.ob 513=some ⟨256,.cells [slOf nl opC ops]⟩:=by rw [hst];simp only [setN_ob,retS_ob];rw [e2];simp
 clear hst e2
 refine range130 nl ops hm key 512 gn (by omega) g9 ⟨256,rfl,by omega⟩ g3 g4 g5 gr gb p6 p8 p10 ph ?_
 intro e ob tk ub v b q8 q10 qd hub hraw hcase
 have hl:lastW ops key=(v,b):=hraw
 rw [hl]
 rcases hcase with ⟨rfl,rfl,rfl⟩ | rfl
 ·simp [g4,g5,objCells,q8,q10,gr,splice,valC]
  refine endV_df (l:=1027) (u:=513) (by simp [gd]) (by simp [qd]) (by simp) (kEnd_of rfl (l:=[.agg (valC ⟨0,0⟩),.bool false]) (by simp [resOf,objCells,g4,g5,valC]) rfl rfl)
 ·simp
  refine endV_df (l:=1027) (u:=513) (by simp [gd]) (by simp [qd]) (by simp [gr]) (kEnd_of rfl (l:=[.agg (valC v),.bool b]) (by simp [resOf,objCells,g4,g5,q8,q10,valC]) rfl rfl)
def opsAt (h:Hist') (i:Int):Bool × List Op':=if mayH h && (decide (0≤i) && decide (i<h.ts.length)) then ((h.ts.getD i.toNat ⟨0,0,true,[]⟩).nl,(h.ts.getD i.toNat ⟨0,0,true,[]⟩).ops) else (true,[])
theorem ev129 {h:Hist'} (hs:Small h) (i:Int):Ev E 129 [.agg (histC h),.int .i64 i] (slOf (opsAt h i).1 opC (opsAt h i).2):=by
 have e70:=ev70 hs
 have hts:=hs.ts
 refine Ev_wpK (af:=F129) rfl ?_
 obtain ⟨R,hR⟩:∃ R,opsAt h i=R:=⟨_,rfl⟩
 rw [hR]
 unfold opsAt at hR
 simp [F129,histC,objCells]
 refine kS_ev e70 (by simp [histC]) rfl (by simp [histC]) ?_
 cases hm:mayH h
 ·rw [may_bad hm]
  rw [hm] at hR
  subst hR
  simp
  exact endV_1 rfl (by simp [slOf]) rfl
 rw [hm] at hR
 rw [may_err hm]
 by_cases k1:i<0
 ·rw [if_neg (by simp;omega)] at hR
  subst hR
  simp [k1]
  exact endV_1 rfl (by simp [slOf]) rfl
 by_cases k2:(h.ts.length:Int)≤i
 ·rw [if_neg (by simp;omega)] at hR
  subst hR
  simp [k1,k2,objCells]
  exact endV_1 rfl (by simp [slOf]) rfl
 rw [if_pos (by simp;omega)] at hR
 obtain ⟨j,rfl⟩:∃ j:Nat,i=j:=⟨i.toNat,by omega⟩
 have hj:j<h.ts.length:=by omega
 have hl3:(h.ts.flatMap txnC)[j * 3+2]? = some (slOf (h.ts[j]).nl opC (h.ts[j]).ops):=by
  rw [fld_at txnC_len h.ts hj (by decide:2<3)];rfl
 rw [Int.toNat_natCast,getD_lt hj] at hR
 subst hR
 simp [k1,k2,objCells,hj,idx_slOf txnC_len,hl3]
 exact endV_1 rfl (by simp) rfl
theorem opsAt_len {h:Hist'} (hs:Small h) (i:Int):(opsAt h i).2.length≤1000:=by
 unfold opsAt
 split
 ·rename_i hc
  simp only [Bool.and_eq_true,decide_eq_true_eq] at hc
  have hj:i.toNat<h.ts.length:=by omega
  rw [getD_lt hj]
  exact hs.os _ (List.getElem_mem hj)
 ·simp
theorem ev116 {h:Hist'} (hs:Small h) (i key:Int):Ev E 116 [.agg (histC h),.int .i64 i,.int .i64 key] (.tup [.agg (valC (lastW (opsAt h i).2 key).1),.bool (lastW (opsAt h i).2 key).2]):=by
 have e129:=ev129 hs i
 have e130:=ev130 (opsAt h i).1 (opsAt h i).2 (by have:=opsAt_len hs i;omega) key
 refine Ev_wpK (af:=F116) rfl ?_
 generalize (opsAt h i).1=nl at *
 generalize (opsAt h i).2=ops at *
 obtain ⟨R,hR⟩:∃ R,lastW ops key=R:=⟨_,rfl⟩
 rw [hR] at e130 ⊢
 simp [F116,histC,objCells]
 refine kS_ev e129 (by simp [histC]) rfl (by simp [histC]) ?_
 rw [retA_plain (show (slOf nl opC ops).plain=true from rfl)]
 simp
 refine kS_ev e130 (by simp) rfl (by simp) ?_
 rw [retA_tupl (by simp [V.plain,valC])]
 simp [objCells,splice,valC]
 exact kEnd_of (by simp) (l:=[.agg (valC R.1),.bool R.2]) (by simp [resOf,objCells,valC]) rfl rfl
end Go.Pv.T

/- The read at a place. -/
namespace Go.Pv.T
open Go Go.Pv
def opAt (h:Hist') (a b:Int):Option Op' :=
 if mayH h && (decide (0≤a) && (decide (a<h.ts.length) && (decide (0≤b) && decide (b<((h.ts.getD a.toNat ⟨0,0,true,[]⟩).ops.length:Nat))))) then (h.ts.getD a.toNat ⟨0,0,true,[]⟩).ops[b.toNat]? else none
def op0:Op':=⟨false,0,0,0⟩
theorem ev74 {h:Hist'} (hs:Small h) (a b:Int):Ev E 74 [.agg (histC h),.agg (placeC (a,b))] (.tup [.agg (opC ((opAt h a b).getD op0)),.bool ((opAt h a b).any fun o=>!o.w)]):=by
 have e70:=ev70 hs
 have hts:=hs.ts
 refine Ev_wpK (af:=F74) rfl ?_
 obtain ⟨R,hR⟩:∃ R,opAt h a b=R:=⟨_,rfl⟩
 rw [hR]
 unfold opAt at hR
 simp [F74,histC,objCells,placeC]
 generalize hK:kSeq E noYF (C.seq (C.draw _ _) _) (kEnd _ _)=K
 have hret:∀ s:St,kEnd [.cell 4 (some 4),.t 5] (.tup [.agg (opC (R.getD op0)),.bool (R.any fun o=>!o.w)]) .ret s→K .ret s:=fun s h=>by
  rw [← hK,kSeq_ret]
  exact h
 refine kD_ev e70 (by simp [histC]) rfl (by simp [histC]) ?_
 cases hm:mayH h
 ·rw [may_bad hm]
  rw [hm] at hR
  subst hR
  simp [objCells,splice]
  exact hret _ (kEnd_of (by simp) (l:=[.agg (opC op0),.bool false]) (by simp [resOf,objCells,opC,op0]) rfl rfl)
 rw [hm] at hR
 rw [may_err hm]
 by_cases k1:a<0
 ·rw [if_neg (by simp;omega)] at hR
  subst hR
  simp [k1,objCells,splice]
  exact hret _ (kEnd_of (by simp) (l:=[.agg (opC op0),.bool false]) (by simp [resOf,objCells,opC,op0]) rfl rfl)
 by_cases k2:(h.ts.length:Int)≤a
 ·rw [if_neg (by simp;omega)] at hR
  subst hR
  simp [k1,k2,objCells,splice]
  exact hret _ (kEnd_of (by simp) (l:=[.agg (opC op0),.bool false]) (by simp [resOf,objCells,opC,op0]) rfl rfl)
 obtain ⟨i,rfl⟩:∃ i:Nat,a=i:=⟨a.toNat,by omega⟩
 have hi:i<h.ts.length:=by omega
 rw [Int.toNat_natCast,getD_lt hi] at hR
 obtain ⟨t,ht⟩:∃ t,h.ts[i]=t:=⟨_,rfl⟩
 rw [ht] at hR
 have hos:=hs.os t (ht ▸ List.getElem_mem hi)
 have hl3:(h.ts.flatMap txnC)[i * 3+2]? = some (slOf t.nl opC t.ops):=by
  rw [fld_at txnC_len h.ts hi (by decide:2<3),ht];rfl
 by_cases k3:b<0
 ·rw [if_neg (by simp;omega)] at hR
  subst hR
  simp [k1,k2,k3,objCells,splice]
  exact hret _ (kEnd_of (by simp) (l:=[.agg (opC op0),.bool false]) (by simp [resOf,objCells,opC,op0]) rfl rfl)
 by_cases k4:(t.ops.length:Int)≤b
 ·rw [if_neg (by simp;omega)] at hR
  subst hR
  simp [k1,k2,k3,k4,objCells,splice,hi,idx_slOf txnC_len,hl3]
  exact hret _ (kEnd_of (by simp) (l:=[.agg (opC op0),.bool false]) (by simp [resOf,objCells,opC,op0]) rfl rfl)
 obtain ⟨j,rfl⟩:∃ j:Nat,b=j:=⟨b.toNat,by omega⟩
 have hj:j<t.ops.length:=by omega
 rw [if_pos (by simp;omega),Int.toNat_natCast,List.getElem?_eq_getElem hj] at hR
 obtain ⟨o,ho⟩:∃ o,t.ops[j]=o:=⟨_,rfl⟩
 rw [ho] at hR
 subst hR
 have k4':¬ t.ops.length≤j:=by omega
 have k2':¬ h.ts.length≤i:=by omega
 have rest:∀ s:St,s.tm 2 = .ptr 4 0 0→s.tm 3 = .ptr 6 64 0→s.tm 4 = .ptr 8 128 0→s.ob 4=some ⟨0,.cells (histC h)⟩→s.ob 6=some ⟨64,.cells [.int .i64 i,.int .i64 j]⟩→s.ob 8=some ⟨128,.cells [.bool false,.int .i64 0,.int .i64 0,.int .i64 0]⟩→s.df=[]→s.ro=0→s.fb=0→K .nrm s:=by
  intro s h2 h3 h4 o4 o6 o8 hd hr hf
  rw [← hK,kSeq_nrm]
  simp [h2,h3,o4,o6,objCells,histC,hi,idx_slOf txnC_len,hl3,hj,idx_slOf opC_len,load_slOf opC_len,ho,opC,splice,hf,hr]
  refine ⟨by simp [drawOk,indep,disj,fpOf,rdOb,rdTk,lOf,Delta.wo,Delta.wt];try decide,?_⟩
  simp [h4,o8,objCells,hr,splice]
  refine ⟨by simp [drawOk,indep,disj,fpOf,rdOb,rdTk,lOf,Delta.wo,Delta.wt,h4];try decide,?_⟩
  exact kEnd_of (by simp [hd]) (l:=[.agg (opC o),.bool !o.w]) (by simp [resOf,objCells,opC,h4]) rfl (by simp [tupOf,opC])
 clear hK
 simp [k1,k2,k3,k4,objCells,hi,idx_slOf txnC_len,hl3]
 exact rest _ (by simp) (by simp) (by simp) (by simp [histC]) (by simp) (by simp) (by simp) (by simp) (by simp)
end Go.Pv.T

/- What others leave of a key. -/
namespace Go.Pv.T
open Go Go.Pv
def valV (v:Val'):V:=.agg (valC v)
def leaveOf (g:Hist') (key i:Int):Val':=(lastW (opsAt g i).2 key).1
def othersOf (g:Hist') (a key:Int) (W:List Int):List (Int × Val'):=(W.filter fun i=>!(i == a)).map fun i=>(i,leaveOf g key i)
theorem numsTo_lt {p:Txn'→Bool} {ts:List Txn'}:∀ n,n≤ts.length→(∀ x∈numsTo p ts n,0≤x∧x<n)∧(numsTo p ts n).Pairwise (· < ·)
 | 0,_=>by simp [numsTo]
 | n+1,h=>by
  have ih:=numsTo_lt (p:=p) (ts:=ts) n (by omega)
  have e:=numsTo_succ (p:=p) (show n<ts.length by omega)
  rw [e]
  cases hp:p ts[n]
  ·simp only [Bool.false_eq_true,if_false,List.append_nil]
   exact ⟨fun x hx=>by have:=ih.1 x hx;omega,ih.2⟩
  ·simp only [if_true]
   refine ⟨fun x hx=>?_,?_⟩
   ·rcases List.mem_append.1 hx with h | h
    ·have:=ih.1 x h;omega
    ·rw [List.mem_singleton] at h;omega
   ·rw [List.pairwise_append]
    refine ⟨ih.2,List.pairwise_singleton _ _,fun x hx y hy=>?_⟩
    rw [List.mem_singleton] at hy
    have:=ih.1 x hx
    omega
theorem mset_new {α:Type} {m:List (Int × α)} {k:Int} {a:α} (h:k ∉ m.map (·.1)):mset m k a=m++[(k,a)]:=by
 unfold mset
 rw [mfind_none.2 h]
theorem othersOf_snoc {g:Hist'} {a key:Int} {W:List Int} {i:Nat} (hi:i<W.length):othersOf g a key (W.take (i+1))=othersOf g a key (W.take i)++(if W[i]=a then [] else [(W[i],leaveOf g key W[i])]):=by
 unfold othersOf
 rw [List.take_succ_eq_append_getElem hi,List.filter_append,List.map_append]
 by_cases h:W[i]=a <;> simp [h]
theorem othersOf_new {g:Hist'} {a key:Int} {W:List Int} (hW:W.Pairwise (· < ·)) {i:Nat} (hi:i<W.length):W[i] ∉ (othersOf g a key (W.take i)).map (·.1):=by
 intro h
 unfold othersOf at h
 rw [List.map_map] at h
 obtain ⟨x,hx,he⟩:=List.mem_map.1 h
 have hx':=(List.mem_filter.1 hx).1
 simp only [Function.comp] at he
 obtain ⟨j,hj,rfl⟩:=List.getElem_of_mem hx'
 rw [List.length_take] at hj
 rw [List.getElem_take] at he
 have:=List.pairwise_iff_getElem.1 hW j i (by omega) hi (by omega)
 omega
def OthR (g:Hist') (a key:Int) (W:List Int) (ob:Nat→Option Obj') (ub:Nat) (r:V × (Nat→Option Obj') × (Nat→Bool) × Nat):Prop :=
 ∃ M U ver:Nat,r.1 = .map (2 * M+1) U∧ub≤M∧M<r.2.2.2∧ub≤U∧r.2.1 (2 * M+1)=some ⟨U,.mp ver (MP valV (othersOf g a key W))⟩∧(∀ k,(∀ m,ub≤m→k≠2 * m+1)→r.2.1 k=ob k)∧ub≤r.2.2.2
theorem sv75 {Yf:YF} {g:Hist'} (hs:Small g) (hm:mayH g=true) (a key:Int) {ob:Nat→Option Obj'} {tk:Nat→Bool} {ro base ub:Nat} (hru:ro≤ub) :
 ∃ r,EvS E Yf.y 75 [.agg (histC g),.int .i64 a,.int .i64 key] ob tk ro base ub r∧OthR g a key (writersH g key) ob ub r:=by
 refine EvS_wp (af:=S75) rfl (by decide) ?_
 show wpC E Yf S75.body _ (kEndS S75.res _)
 obtain ⟨vw,e72,hv⟩:=ev72 hs hm key
 obtain ⟨W,hW⟩:∃ W,writersH g key=W:=⟨_,rfl⟩
 have hWl:W.length≤1000:=by have h1:=numsTo_len (wrB key) g.ts g.ts.length;have h2:=hs.ts;rw [← hW];unfold writersH;omega
 have hWp:W.Pairwise (· < ·):=by rw [← hW];exact (numsTo_lt _ (Nat.le_refl _)).2
 rw [hW] at hv ⊢
 have n1:¬ 2 * ub=2 * (ub+64+64):=by omega
 have n2:¬ 2 * (ub+64+64)=2 * ub:=by omega
 simp [S75,histC,objCells,n1]
 refine kS_ev e72 (by simp [histC]) rfl (by simp [histC]) ?_
 obtain ⟨nl,hv⟩:=hv
 obtain ⟨t,add,hret⟩:=retA_sl (ub:=ub+64+64+64+64+64+64) hv
 rw [hret]
 simp
 refine wpC_gen fun st hst=>?_
 obtain ⟨M,hM⟩:∃ M,M=ub+64+64:=⟨_,rfl⟩
 have g1:st.tm 1 = .int .i64 a:=by rw [hst];simp
 have g2:st.tm 2 = .int .i64 key:=by rw [hst];simp
 have g3:st.tm 3 = .ptr (2 * ub+1) ub 0:=by rw [hst];simp
 have g7:st.tm 7 = .map (2 * M+1) M:=by rw [hst,hM];simp
 have g13:st.tm 13 = .sl t nl W.length (W.flatMap intC):=by rw [hst];simp
 have g14:st.tm 14 = .int .i64 W.length:=by rw [hst];simp
 have g15:st.tm 15 = .int .i64 0:=by rw [hst];simp
 have gd:st.df=[]:=by rw [hst];simp
 have gr:st.ro=ro:=by rw [hst];simp
 have gn:M<st.nx:=by rw [hst,hM];simp
 have ph:st.ob (2 * ub+1)=some ⟨ub,.cells (histC g)⟩:=by rw [hst];simp [n1,histC]
 have pm:st.ob (2 * M+1)=some ⟨M,.mp 0 []⟩:=by rw [hst,hM];simp
 have pf:∀ k,(∀ m,ub≤m→k≠2 * m+1)→st.ob k=ob k:=by
  intro k hk
  have h1:=hk ub (by omega)
  have h2:=hk (ub+64+64) (by omega)
  rw [hst];simp [h1,h2]
 clear hst hret
 have hMu:ub<M:=by omega
 clear hM n1 n2
 refine wp_loopUp [(9,9),(15,31)] W.length (fun i s=>s.tm 15 = .int .i64 i∧M<s.nx∧s.ob (2 * ub+1)=some ⟨ub,.cells (histC g)⟩∧(∀ k,(∀ m,ub≤m→k≠2 * m+1)→s.ob k=ob k)∧∃ ver,s.ob (2 * M+1)=some ⟨M,.mp ver (MP valV (othersOf g a key (W.take i)))⟩) rfl rfl
  ⟨by simp [g15],gn,ph,pf,0,by simp [pm,othersOf,MP]⟩ ?_
 rintro i s hi ⟨h15,hn,oh,of,ver,om⟩ f
 have f1:s.tm 1 = .int .i64 a:=by rw [f.t 1 (by simp),g1]
 have f2:s.tm 2 = .int .i64 key:=by rw [f.t 2 (by simp),g2]
 have f3:s.tm 3 = .ptr (2 * ub+1) ub 0:=by rw [f.t 3 (by simp),g3]
 have f7:s.tm 7 = .map (2 * M+1) M:=by rw [f.t 7 (by simp),g7]
 have f13:s.tm 13 = .sl t nl W.length (W.flatMap intC):=by rw [f.t 13 (by simp),g13]
 have f14:s.tm 14 = .int .i64 W.length:=by rw [f.t 14 (by simp),g14]
 have fd:s.df=[]:=by rw [f.d,gd]
 have fr:s.ro=ro:=by rw [f.r,gr]
 clear f
 by_cases hlt:i<W.length
 ·have hw:=wrapU hlt (by omega)
  obtain ⟨x,hx⟩:∃ x,W[i]=x:=⟨_,rfl⟩
  have hI:idxSlV 1 (.sl t nl W.length (W.flatMap intC)) (.int .i64 (i:Int))=some (.eptr (W.flatMap intC) i):=by
   simp [idxSlV,hlt,flatMap_len intC_len]
  have hLd:∀ ob,loadV ob none (.eptr (W.flatMap intC) i)=some (.int .i64 x):=fun ob=>by
   have h:=fld_at intC_len W hlt (by decide:0<1)
   rw [hx,Nat.mul_one,Nat.add_zero] at h
   rw [loadV_e]
   simpa [pick1,intC] using h
  have hsn:=othersOf_snoc (g:=g) (a:=a) (key:=key) hlt
  have hnw:=othersOf_new (g:=g) (a:=a) (key:=key) hWp hlt
  rw [hx] at hsn hnw
  by_cases hxa:x=a
  ·rw [if_pos hxa,List.append_nil] at hsn
   subst hxa
   simp [h15,f13,f14,hlt,hI,hLd,f1,hw]
   exact ⟨by omega,oh,of,ver,by rw [hsn];exact om⟩
  ·rw [if_neg hxa] at hsn
   have hxa':(x != a)=true:=by simpa using hxa
   have e116:=ev116 hs x key
   simp [h15,f13,f14,hlt,hI,hLd,f1,hxa',f2,f3,oh,objCells,f7,histC]
   refine kS_ev e116 (by simp [histC]) rfl (by simp [histC]) ?_
   rw [retA_tupl (by simp [V.plain,valC])]
   have hlv:valV (lastW (opsAt g x).2 key).1=valV (leaveOf g key x):=rfl
   simp
   refine kS_mapSet (f:=valV) (a:=leaveOf g key x) (ver:=ver) (l:=2 * M+1) (u:=M) (k:=x) (othersOf g a key (W.take i)) (by simp) (by simp) (by simp [valV,leaveOf,valC]) (by simpa using om) (by simp [fr];omega) ?_
   rw [mset_new hnw,← hsn]
   have nM:¬ 2 * ub+1=2 * M+1:=by omega
   have nM':¬ 2 * ub=2 * M:=by omega
   simp [h15,hw,nM',oh,histC]
   refine ⟨hlt,by omega,fun k hk=>?_⟩
   have:=hk M (by omega)
   rw [if_neg this]
   exact of k hk
 ·have:i=W.length:=by omega
  subst this
  rw [List.take_length] at om
  simp [h15,f14,f7]
  exact endS_1 (by simp [fd]) ⟨M,M,ver,by simp,by omega,by simp;omega,by omega,by simpa using om,by simpa using of,by simp;omega⟩
end Go.Pv.T

/- Ranges over maps; slices of ints that grow. -/
namespace Go.Pv.T
open Go Go.Pv
section
variable {E:Env} {Yf:YF} {st:St} {ub:Nat} {K:St→Nat→Prop} {d:Option Nat} {nm:Bool}
theorem kS_rangeMap {x:A} {l u ver:Nat} {es:List (V × V)} (hx:eval E st.tm x = .map l u) (ho:st.ob l=some ⟨u,.mp ver es⟩)
 (h:kApp K st d ub { v:=.iter (objName d nm st.fb ub) ub,obs:=[(objName d nm st.fb ub,⟨ub,.miter l u ver es none⟩)] }):wpStep E Yf ⟨d,.range false x,none,nm⟩ st ub K:=by
 rw [wpStep_of _ rfl rfl]
 have h1:objMap st.ob l u=some es:=by simp [objMap,ho]
 have h2:objVer st.ob l=ver:=by simp [objVer,ho]
 simp only [aop,hx,h1,h2,Option.bind_some,mkObj,wpD_some,name_eq]
 exact h
theorem picks_mem {l u l' u' ver:Nat} {δ:Delta}:∀ {es pre:List (V × V)},δ∈picks l u l' u' ver pre es→∃ a k v b,es=a++(k,v)::b∧δ = { v:=.tup [.bool true,k,v],obs:=[(l,⟨u,.miter l' u' ver (pre++a++b) (some (k,v))⟩)] }
 | [],_,h=>by simp [picks] at h
 | (k,v)::r,pre,h=>by
  rw [picks,List.mem_cons] at h
  rcases h with h | h
  ·exact ⟨[],k,v,r,rfl,by rw [h];simp⟩
  ·obtain ⟨a,k',v',b,e,hd⟩:=picks_mem h
   exact ⟨(k,v)::a,k',v',b,by rw [e];rfl,by rw [hd];simp⟩
theorem kS_nextMap {x:A} {l u l' u' ver:Nat} {left es:List (V × V)} {last:Option (V × V)} (hx:eval E st.tm x = .iter l u) (ho:st.ob l=some ⟨u,.miter l' u' ver left last⟩) (hm:st.ob l'=some ⟨u',.mp ver es⟩) (hro:st.ro≤u)
 (h0:left=[]→kSet K st d ub (.tup [.bool false]))
 (h1:∀ a k v b,left=a++(k,v)::b→kApp K st d ub { v:=.tup [.bool true,k,v],obs:=[(l,⟨u,.miter l' u' ver (a++b) (some (k,v))⟩)] }):wpStep E Yf ⟨d,.nextMap x,none,nm⟩ st ub K:=by
 have e1:(objMap st.ob l' u').isSome=true:=by simp [objMap,hm]
 have e2:objVer st.ob l'=ver:=by simp [objVer,hm]
 simp only [wpStep,wanted,yieldCall,sharedCall]
 cases left with
 | nil =>
  refine ⟨[{ v:=.tup [.bool false] }],?_,?_⟩
  ·simp only [nextL,hx,ho]
   rw [if_pos ⟨Nat.ble_eq ▸ hro,trivial,e1,e2⟩]
  ·intro δ hδ
   rw [List.mem_singleton] at hδ
   subst hδ
   have:=h0 rfl
   rw [app_v]
   exact this
 | cons p r =>
  refine ⟨picks l u l' u' ver [] (p::r),?_,?_⟩
  ·simp only [nextL,hx,ho]
   rw [if_pos ⟨Nat.ble_eq ▸ hro,trivial,e1,e2⟩]
  ·intro δ hδ
   obtain ⟨a,k,v,b,e,hd⟩:=picks_mem hδ
   subst hd
   exact h1 a k v b e
theorem kS_entry {x:A} {l u l' u' ver:Nat} {left es:List (V × V)} {k v:V} (hx:eval E st.tm x = .iter l u) (ho:st.ob l=some ⟨u,.miter l' u' ver left (some (k,v))⟩) (hm:st.ob l'=some ⟨u',.mp ver es⟩)
 (h:kSet K st d ub (.tup [k,v])):wpStep E Yf ⟨d,.entry x,none,nm⟩ st ub K:=by
 have e1:(objMap st.ob l' u').isSome=true:=by simp [objMap,hm]
 have e2:objVer st.ob l'=ver:=by simp [objVer,hm]
 rw [wpStep_of _ rfl rfl]
 simp only [aop,hx,ho]
 rw [if_pos ⟨trivial,e1,e2⟩,wpD_one,app_v]
 exact h
end
def IntsO (ob:Nat→Option Obj') (p:Nat→Prop) (l:List Int) (v:V):Prop :=
 (l=[]∧v = .sl none true 0 [])∨(l≠[]∧∃ u,v = .osl (2 * u+1) u 0 l.length 1∧ob (2 * u+1)=some ⟨u,.cells (l.flatMap intC)⟩∧p u)
theorem IntsO.frame {ob ob':Nat→Option Obj'} {p p':Nat→Prop} {l:List Int} {v:V} (h:IntsO ob p l v) (hf:∀ u,p u→ob' (2 * u+1)=ob (2 * u+1)) (hh:∀ u,p u→p' u):IntsO ob' p' l v:=by
 rcases h with h | ⟨h1,u,h2,h3,h4⟩
 ·exact Or.inl h
 ·exact Or.inr ⟨h1,u,h2,(hf u h4).trans h3,hh u h4⟩
theorem app_obl (st:St) (d:Option Nat) (v:V) (l:Nat) (o:Obj') (kl:List Nat) (k:Nat):(st.app d { v:=v,obs:=[(l,o)],kill:=kl }).ob k=if k=l then some o else if kl.any (Nat.beq k) then none else st.ob k:=by
 simp [St.app,setObs,upd_apply]
theorem app_obl' (st:St) (d:Option Nat) (v:V) (l:Nat) (o:Obj') (kl:List Nat) (k:Nat) (h:k ∉ kl):(st.app d { v:=v,obs:=[(l,o)],kill:=kl }).ob k=if k=l then some o else st.ob k:=by
 rw [app_obl]
 have:(kl.any (Nat.beq k))=false:=by
  rw [List.any_eq_false]
  intro x hx hb
  exact h (Nat.eq_of_beq_eq_true hb ▸ hx)
 rw [this]
 rfl
theorem solid_ints (st:St) (k:Nat):∀ l:List Int,(l.flatMap intC).mapM (solid st (k+1))=some (l.flatMap intC)
 | []=>rfl
 | a::l=>by
  show ((V.int .i64 a)::l.flatMap intC).mapM _=_
  rw [List.mapM_cons,solid_ints st k l]
  rfl
def intsV (T:List Int):V:=if T.isEmpty then .sl none true 0 [] else .sl (some (0,1)) false T.length (T.flatMap intC)
theorem kEnd_ints {st:St} {p:Nat→Prop} {n:Nat} {T:List Int} {v:V} (hd:st.df=[]) (hv:st.tm n=v) (h:IntsO st.ob p T v) (hro:∀ u,p u→st.ro≤u):kEnd [.t n] (intsV T) .ret st:=by
 show endV [.t n] (.ret,st)=some (intsV T)
 rcases h with ⟨rfl,rfl⟩ | ⟨hne,u,rfl,hob,hp⟩
 ·exact endV_1 hd (by rw [hv];rfl) rfl
 ·have hoc:objCells st.ob (2 * u+1) u=some (T.flatMap intC):=by simp [objCells,hob]
  have hlen:(T.flatMap intC).length=T.length:=by rw [flatMap_len intC_len];omega
  have hemp:T.isEmpty=false:=by cases T with | nil=>exact absurd rfl hne | cons=>rfl
  have hpos:0<T.length:=List.length_pos_iff.2 hne
  have hs:solid st 6 (.osl (2 * u+1) u 0 T.length 1)=some (.sl none false T.length (T.flatMap intC)):=by
   show ((objCells st.ob (2 * u+1) u).bind fun cs=>if Nat.ble st.ro u=true∧0+T.length * 1≤cs.length then (((cs.drop 0).take (T.length * 1)).mapM (solid st 5)).map fun cs'=>V.sl none false T.length cs' else none)=_
   rw [hoc,Option.bind_some]
   rw [if_pos ⟨Nat.ble_eq ▸ hro u hp,by omega⟩]
   rw [List.drop_zero,Nat.mul_one,List.take_of_length_le (by omega),solid_ints]
   rfl
  have ho:outLeaf st true 0 (.osl (2 * u+1) u 0 T.length 1)=some (.sl (some (0,1)) false T.length (T.flatMap intC)):=by
   simp only [outLeaf,hs,Option.bind_some,hoc,Option.map_some]
   have hb:(true && Nat.beq 0 0 && Nat.blt 0 T.length && Nat.beq (T.length * 1) (T.flatMap intC).length)=true:=by
    rw [hlen,Nat.mul_one,Nat.beq_refl,Nat.beq_refl]
    simp
    exact hpos
   rw [hb]
   rfl
  have hto:outTop st true 0 (.osl (2 * u+1) u 0 T.length 1)=some (.sl (some (0,1)) false T.length (T.flatMap intC)):=ho
  have hr:[ARes.t n].mapM (resOf st)=some [.osl (2 * u+1) u 0 T.length 1]:=by simp [resOf,hv]
  simp only [endV,dfOk_of hd,noDf_of hd,if_true,hr,Option.bind_some,outRes]
  have hn:nodup ([V.osl (2 * u+1) u 0 T.length 1].flatMap V.toks)=true:=rfl
  rw [hn]
  simp only [outTops,hto,Option.bind_some,Option.map_some]
  rw [intsV,hemp]
  rfl
theorem kS_appendM {E:Env} {Yf:YF} {st:St} {ub:Nat} {K:St→Nat→Prop} {d:Option Nat} {p:Nat→Prop} {l:List Int} {z:Int} {v:V} {s x:A} {X uX:Nat} (hs:eval E st.tm s=v) (hv:IntsO st.ob p l v) (hx:eval E st.tm x = .osl X uX 0 1 1) (hX:st.ob X=some ⟨uX,.cells [.int .i64 z]⟩) (hro:∀ u,p u→st.ro≤u) (hl:l.length≤1000)
 (h:∀ kl:List Nat,(∀ k∈kl,∃ u,p u∧k=2 * u+1)→kApp K st d ub { v:=.osl (2 * ub+1) ub 0 (l++[z]).length 1,obs:=[(2 * ub+1,⟨ub,.cells ((l++[z]).flatMap intC)⟩)],kill:=kl }) :
 wpStep E Yf ⟨d,.append true 1 8 s x,none,true⟩ st ub K:=by
 have hsc:slCells st.ob 1 (eval E st.tm x)=some [.int .i64 z]:=by
  rw [hx]
  simp [slCells,objCells,hX]
 rcases hv with ⟨rfl,rfl⟩ | ⟨hne,u,rfl,hob,hp⟩
 ·refine kS_appendO_nil hs hsc (by simp) (by decide) rfl (by simp) (by simp) ?_
  simpa [intC,objName] using h [] (by simp)
 ·have hlen:(l.flatMap intC).length=l.length:=by rw [flatMap_len intC_len];omega
  refine kS_appendO (cs:=l.flatMap intC) hs hsc hob (by simp) (hro u hp) (by omega) (by decide) rfl (by simp;omega) (by simp;omega) ?_
  have:=h [2 * u+1] (by simp;exact ⟨u,hp,rfl⟩)
  rw [Nat.mul_one,List.take_of_length_le (by omega)]
  simpa [intC,objName] using this
end Go.Pv.T

/- Who may have written what is read: the program's walk. -/
namespace Go.Pv.T
open Go Go.Pv
def fitsR (o:Op') (v:Val'):Bool:=o.v.kind == 2 || (v.kind == o.v.kind && v.n == o.v.n)
def ofStart (o:Op'):List Int:=if o.v.kind=1 then [] else [-1]
def ofL (g:Hist') (a:Int) (o:Op'):List Int:=ofStart o++(writersH g o.key).filter fun i=>!(i == a) && fitsR o (leaveOf g o.key i)
def ofH (g:Hist') (a b:Int):List Int:=match opAt g a b with
 | some o=>if o.w then [] else ofL g a o
 | none=>[]
theorem writers_pw (g:Hist') (k:Int):(writersH g k).Pairwise (· < ·)∧∀ x∈writersH g k,0≤x:=by
 have:=numsTo_lt (p:=wrB k) (ts:=g.ts) g.ts.length (Nat.le_refl _)
 exact ⟨this.2,fun x hx=>(this.1 x hx).1⟩
theorem ofL_sorted (g:Hist') (a:Int) (o:Op'):(ofL g a o).Pairwise (·≤·):=by
 have h:=writers_pw g o.key
 unfold ofL ofStart
 rw [List.pairwise_append]
 refine ⟨?_,?_,?_⟩
 ·split <;> simp
 ·exact ((h.1.imp (fun h=>Int.le_of_lt h)).filter _)
 ·intro x hx y hy
  have hy':=h.2 y (List.mem_filter.1 hy).1
  split at hx
  ·cases hx
  ·rw [List.mem_singleton] at hx;omega
theorem writers_len (g:Hist') (k:Int):(writersH g k).length≤g.ts.length:=by
 unfold writersH
 exact numsTo_len (wrB k) g.ts g.ts.length
theorem ofL_len {g:Hist'} (hm:g.ts.length≤40) (a:Int) (o:Op'):(ofL g a o).length≤41:=by
 unfold ofL ofStart
 rw [List.length_append]
 have h1:=List.length_filter_le (fun i=>!(i == a) && fitsR o (leaveOf g o.key i)) (writersH g o.key)
 have h2:=writers_len g o.key
 split <;> simp <;> omega
theorem may_ts {g:Hist'} (hm:mayH g=true):g.ts.length≤40:=by
 unfold mayH headsB at hm
 simp only [Bool.and_eq_true,decide_eq_true_eq] at hm
 exact hm.1.2.2.2.2
def picked (o:Op') (P:List (Int × Val')):List Int:=(P.filter fun p=>fitsR o p.2).map (·.1)
theorem picked_perm {g:Hist'} {a:Int} {o:Op'} {P:List (Int × Val')} (h:P.Perm (othersOf g a o.key (writersH g o.key))):(ofStart o++picked o P).Perm (ofL g a o):=by
 unfold ofL
 refine List.Perm.append_left _ ?_
 have h2:(picked o P).Perm (picked o (othersOf g a o.key (writersH g o.key))):=(h.filter _).map _
 refine h2.trans ?_
 have e:picked o (othersOf g a o.key (writersH g o.key))=(writersH g o.key).filter fun i=>!(i == a) && fitsR o (leaveOf g o.key i):=by
  unfold picked othersOf
  rw [List.filter_map,List.map_map,List.filter_filter]
  have:((fun x:Int × Val'=>x.1) ∘ fun i=>(i,leaveOf g o.key i))=id:=rfl
  rw [this,List.map_id]
  congr 1
  funext i
  simp only [Function.comp,Bool.and_comm]
 rw [e]
theorem MP_split {m:List (Int × Val')} {A B:List (V × V)} {k v:V} (h:MP valV m=A++(k,v)::B):∃ A' p B',m=A'++p::B'∧A=MP valV A'∧B=MP valV B'∧k = .int .i64 p.1∧v=valV p.2:=by
 unfold MP at h
 obtain ⟨A',C,e1,e2,e3⟩:=List.map_eq_append_iff.1 h
 obtain ⟨p,B',e4,e5,e6⟩:=List.map_eq_cons_iff.1 e3
 subst e4
 have:=Prod.mk.inj e5
 exact ⟨A',p,B',e1,e2.symm,e6.symm,this.1.symm,this.2.symm⟩
theorem MP_app (a b:List (Int × Val')):MP valV a++MP valV b=MP valV (a++b):=by simp [MP]
theorem ne1152 {x:Nat} (h:640≤x):¬ 2 * x=1152:=by omega
theorem ev27 {g:Hist'} (hs:Small g) (a b:Int):Ev E 27 [.agg (histC g),.agg (placeC (a,b))] (intsV (ofH g a b)):=by
 have e74:=ev74 hs a b
 refine Ev_wpK (af:=F27) rfl ?_
 unfold ofH
 cases hop:opAt g a b with
 | none =>
  rw [hop] at e74
  simp [F27,histC,objCells,placeC]
  refine kS_ev e74 (by simp [histC,placeC]) rfl (by simp [histC,placeC]) ?_
  rw [retA_tupl (by simp [V.plain,opC])]
  simp [splice,opC,op0,objCells]
  exact kEnd_ints (p:=fun _=>True) (by simp) rfl (Or.inl ⟨rfl,by simp⟩) (by simp)
 | some o =>
  rw [hop] at e74
  simp only [Option.getD_some,Option.any_some] at e74
  have hmay:mayH g=true:=by
   unfold opAt at hop
   cases hm:mayH g
   ·rw [hm] at hop;cases hop
   ·rfl
  have hts:=may_ts hmay
  simp [F27,histC,objCells,placeC]
  refine kS_ev e74 (by simp [histC,placeC]) rfl (by simp [histC,placeC]) ?_
  rw [retA_tupl (by simp [V.plain,opC])]
  cases hw:o.w
  ·simp [splice,opC,objCells]
   generalize hK:kSeq E noYF _ (kEnd _ _)=K
   have rest:∀ (s:St) (v:V),s.tm 2 = .ptr 1 0 0→s.tm 3 = .ptr 129 64 0→s.tm 5 = .ptr 1153 576 0→s.ob 1=some ⟨0,.cells (histC g)⟩→s.ob 129=some ⟨64,.cells [.int .i64 a,.int .i64 b]⟩→s.ob 1153=some ⟨576,.cells (opC o)⟩ →
    s.tm 7=v→IntsO s.ob (fun u=>640≤u∧u<s.nx) (ofStart o) v→s.df=[]→s.ro=0→640≤s.nx→K .nrm s:=by
    intro s v h2 h3 h5 o1 o3 o5 h7 hv hd hr hn
    rw [← hK]
    clear hK
    simp [h2,h3,h5,o1,o3,o5,objCells,opC,histC]
    refine kS_callP (vs:=[.agg (histC g),.int .i64 a,.int .i64 o.key]) (by simp [histC]) rfl (sv75 hs hmay a o.key (by simp [hr])) ?_
    rintro w ob1 tk1 ub1 ⟨M,U,ver,e1,e2,e3,e4,e5,e6,e7⟩
    simp only at e1 e3 e5 e6 e7
    subst e1
    simp
    refine kS_rangeMap (l:=2 * M+1) (u:=U) (ver:=ver) (by simp) (by simpa using e5) ?_
    simp
    refine wpC_gen fun st hst=>?_
    have hub0:640≤ub1:=by first | omega | (simp at e7;omega)
    have hM0:640≤M:=by first | omega | (simp at e2;omega)
    obtain ⟨OTH,hOTH⟩:∃ l,othersOf g a o.key (writersH g o.key)=l:=⟨_,rfl⟩
    rw [hOTH] at e5 hst
    have hfr:∀ k,(∀ m,s.nx≤m→k≠2 * m+1)→ob1 k=s.ob k:=fun k hk=>(e6 k (fun m hm=>hk m (by first | omega | (simp at hm;omega)))).trans (by simp)
    have hMs:s.nx≤M:=by first | omega | (simp at e2;omega)
    have g5:st.tm 5 = .ptr 1153 576 0:=by rw [hst];simp [h5]
    have g7:st.tm 7=v:=by rw [hst];simp [h7]
    have g31:st.tm 31 = .iter (2 * ub1+1) ub1:=by rw [hst];simp
    have gd:st.df=[]:=by rw [hst];simp [hd]
    have gr:st.ro=0:=by rw [hst];simp [hr]
    have gn:ub1<st.nx:=by rw [hst];simp
    have gf:∀ k,k≠2 * ub1+1→st.ob k=ob1 k:=by
     intro k hk
     rw [hst];simp [hk]
    have pi:st.ob (2 * ub1+1)=some ⟨ub1,.miter (2 * M+1) U ver (MP valV OTH) none⟩:=by rw [hst];simp
    have pm:st.ob (2 * M+1)=some ⟨U,.mp ver (MP valV OTH)⟩:=(gf _ (by omega)).trans e5
    have p5:st.ob 1153=some ⟨576,.cells (opC o)⟩:=(gf _ (by omega)).trans ((hfr _ (fun m hm=>by omega)).trans o5)
    have pv:IntsO st.ob (fun u=>640≤u∧u≠M∧u≠ub1∧u<st.nx) (ofStart o++picked o []) v:=by
     rw [show picked o []=[] from rfl,List.append_nil]
     refine hv.frame (fun u hu=>?_) (fun u hu=>⟨hu.1,by omega,by first | omega | (simp at e7;omega),by first | omega | (simp at e7;omega)⟩)
     exact (gf _ (by first | omega | (simp at e7;omega))).trans (hfr _ (fun m hm=>by omega))
    clear hst e6 e5 hfr
    obtain ⟨J,hJ⟩:∃ J:Nat→St→Prop,J=fun n s=>∃ (P m':List (Int × Val')) (v:V) (last:Option (V × V)),n=m'.length∧(P++m').Perm OTH∧s.tm 7=v∧IntsO s.ob (fun u=>640≤u∧u≠M∧u≠ub1∧u<s.nx) (ofStart o++picked o P) v ∧
     s.ob (2 * ub1+1)=some ⟨ub1,.miter (2 * M+1) U ver (MP valV m') last⟩∧s.ob (2 * M+1)=some ⟨U,.mp ver (MP valV OTH)⟩∧s.ob 1153=some ⟨576,.cells (opC o)⟩∧ub1<s.nx:=⟨_,rfl⟩
    refine wp_loopF (n:=OTH.length) [(7,9),(32,50)] J rfl rfl (by rw [hJ];exact ⟨[],OTH,v,none,rfl,by simp,g7,pv,pi,pm,p5,gn⟩) ?_
    clear h7 hv g7 pv pi pm p5 gn v
    intro n s hJs f
    rw [hJ] at hJs
    obtain ⟨P,m',v,last,rfl,hperm,h7,hv,oi,om,o5',hn1⟩:=hJs
    have f5:s.tm 5 = .ptr 1153 576 0:=by rw [f.t 5 (by simp)];exact g5
    have f31:s.tm 31 = .iter (2 * ub1+1) ub1:=by rw [f.t 31 (by simp)];exact g31
    have fd:s.df=[]:=by rw [f.d];exact gd
    have fr:s.ro=0:=by rw [f.r];exact gr
    clear f
    have hPl:(P++m').length≤40:=by
     rw [hperm.length_eq,← hOTH]
     unfold othersOf
     rw [List.length_map]
     have:=List.length_filter_le (fun i=>!(i == a)) (writersH g o.key)
     have:=writers_len g o.key
     omega
    rw [List.length_append] at hPl
    have hpl:(picked o P).length≤P.length:=by
     unfold picked
     rw [List.length_map]
     exact List.length_filter_le _ _
    have hsl:(ofStart o).length≤1:=by unfold ofStart;split <;> simp
    simp
    refine kS_nextMap (l:=2 * ub1+1) (u:=ub1) (l':=2 * M+1) (u':=U) (ver:=ver) (es:=MP valV OTH) (left:=MP valV m') (by simp [f31]) oi om (by simp [fr]) ?_ ?_
    ·intro hemp
     have hm0:m'=[]:=by
      unfold MP at hemp
      exact List.map_eq_nil_iff.1 hemp
     subst hm0
     rw [List.append_nil] at hperm
     have hpp:=picked_perm (g:=g) (a:=a) (o:=o) (P:=P) (by rw [hOTH];exact hperm)
     have hlen:=hpp.length_eq
     simp [h7]
     rcases hv with ⟨hnil,rfl⟩ | ⟨hne,u,rfl,hob,hu⟩
     ·rw [hnil] at hpp
      have hT:ofL g a o=[]:=List.perm_nil.1 hpp.symm
      refine kS_callP (vs:=[.sl none true 0 []]) (by simp) rfl sv76n ?_
      rintro w ob2 tk2 ub2 ⟨q1,q2,q3⟩
      simp [h7]
      exact kEnd_ints (p:=fun _=>True) (by simp [fd]) rfl (Or.inl ⟨hT,by simp⟩) (by simp [fr])
     ·refine kS_callP (vs:=[.osl (2 * u+1) u 0 (ofStart o++picked o P).length 1]) (by simp) rfl (sv76 hpp (ofL_sorted g a o) (by rw [List.length_append];omega) (by simpa using hob) (by simp [fr]) (fun m hm=>by have:=hu.2.2.2;first | omega | (simp at hm;omega)) (by simp [fr])) ?_
      rintro w ob2 tk2 ub2 hat
      simp only at hat
      simp [h7]
      refine kEnd_ints (p:=fun _=>True) (by simp [fd]) rfl (Or.inr ⟨?_,u,?_,by simpa using hat.1,trivial⟩) (by simp [fr])
      ·intro hT
       rw [hT] at hpp
       exact hne (List.perm_nil.1 hpp)
      ·rw [← hlen];simp
    ·intro A k w B hsp
     obtain ⟨A',q,B',rfl,rfl,rfl,rfl,rfl⟩:=MP_split hsp
     have hperm':((P++[q])++(A'++B')).Perm OTH:=by
      refine List.Perm.trans ?_ hperm
      rw [List.append_assoc]
      exact List.Perm.append_left _ (by simpa using List.perm_middle.symm)
     have nM:¬ 2 * M+1=2 * ub1+1:=by omega
     simp
     refine kS_entry (l:=2 * ub1+1) (u:=ub1) (l':=2 * M+1) (u':=U) (ver:=ver) (es:=MP valV OTH) (left:=MP valV A'++MP valV B') (k:=.int .i64 q.1) (v:=valV q.2) (by simp [f31]) (by simp) (by simp [show ¬ 2 * M=2 * ub1 by omega,om]) ?_
     have n5:¬ 1153=2 * ub1+1:=by omega
     simp [valV,valC,splice,fr,objCells]
     generalize hK2:kSeq E noYF (C.cond _ _ _) _=K2
     have restF:∀ (s1:St) (fit:Bool),fit=fitsR o q.2→s1.tm 46 = .bool fit→s1.tm 7=v→s1.tm 8 = .int .i64 q.1→IntsO s1.ob (fun u=>640≤u∧u≠M∧u≠ub1∧u<s1.nx) (ofStart o++picked o P) v →
      s1.ob (2 * ub1+1)=some ⟨ub1,.miter (2 * M+1) U ver (MP valV (A'++B')) (some (.int .i64 q.1,valV q.2))⟩→s1.ob (2 * M+1)=some ⟨U,.mp ver (MP valV OTH)⟩→s1.ob 1153=some ⟨576,.cells (opC o)⟩→ub1<s1.nx→s1.df=[]→s1.ro=0→K2 .nrm s1:=by
      intro s1 fit hfit h46 h7 h8 hv oi om o5 hn hd hr
      rw [← hK2]
      have hpk:picked o (P++[q])=picked o P++(if fit then [q.1] else []):=by
       unfold picked
       rw [List.filter_append,List.map_append,hfit]
       cases hf:fitsR o q.2 <;> simp [hf]
      have hml:(A'++B').length<(A'++q::B').length:=by simp
      cases fit
      ·simp only [Bool.false_eq_true,if_false,List.append_nil] at hpk
       simp [h46]
       exact ⟨(A'++B').length,by first | omega | (simp;done) | (simp;omega),by rw [hJ];exact ⟨P++[q],A'++B',v,some (.int .i64 q.1,valV q.2),rfl,hperm',by simp [h7],by rw [hpk];exact hv.frame (fun u _=>by simp) (fun u hu=>⟨hu.1,hu.2.1,hu.2.2.1,by have:=hu.2.2.2;first | omega | (simp;omega)⟩),by simp [oi],by simp [om],by simp [o5],by first | omega | (simp;omega)⟩⟩
      ·simp only [if_true] at hpk
       simp [h46,h7,h8]
       refine kS_buildSlO (cs:=[.int .i64 q.1]) (by simp [splice]) rfl rfl ?_
       simp
       refine kS_appendM (p:=fun u=>640≤u∧u≠M∧u≠ub1∧u<s1.nx) (l:=ofStart o++picked o P) (z:=q.1) (v:=v) (X:=2 * (s1.nx+64+64)+1) (uX:=s1.nx+64+64) (by simp) (hv.frame (fun u hu=>?_) (fun _ h=>h)) (by simp) (by simp) (by simp [hr]) (by rw [List.length_append];simp at hPl;omega) (fun kl hkl=>?_)
       ·have:¬ 2 * u=2 * (s1.nx+64+64):=by have:=hu.2.2.2;omega
        simp [this]
       have nk:∀ z:Nat,(∀ u,640≤u→u≠M→u≠ub1→z≠2 * u+1)→z ∉ kl:=fun z hz hm=>by
        obtain ⟨u,hu,e⟩:=hkl z hm
        exact hz u hu.1 hu.2.1 hu.2.2.1 e
       have k1:=nk (2 * ub1+1) (fun u _ _ h e=>h (by omega))
       have k2:=nk (2 * M+1) (fun u _ h _ e=>h (by omega))
       have k3:=nk 1153 (fun u h _ _ e=>by omega)
       obtain ⟨Z,hZ⟩:∃ Z,s1.nx+64+64+64=Z:=⟨_,rfl⟩
       have d1:¬ 2 * ub1+1=2 * Z+1:=by omega
       have d2:¬ 2 * M+1=2 * Z+1:=by omega
       have d3:¬ 1153=2 * Z+1:=by omega
       have b1:¬ 2 * ub1+1=2 * (s1.nx+64+64)+1:=by omega
       have b2:¬ 2 * M+1=2 * (s1.nx+64+64)+1:=by omega
       have b3:¬ 1153=2 * (s1.nx+64+64)+1:=by omega
       have hnx:∀ X:Prop,X→X:=fun _ h=>h
       simp only [hZ]
       simp
       refine ⟨(A'++B').length,by first | omega | (simp;done) | (simp;omega),?_⟩
       rw [hJ]
       refine ⟨P++[q],A'++B',.osl (2 * Z+1) Z 0 (ofStart o++picked o (P++[q])).length 1,some (.int .i64 q.1,valV q.2),rfl,hperm',by simp [hpk],Or.inr ⟨by rw [hpk];simp,Z,rfl,?_,by omega,by omega,by omega,?_⟩,?_,?_,?_,?_⟩
       ·simp only [setN_ob,setT_ob]
        rw [app_obl,if_pos rfl,hpk]
        simp
       ·first | omega | (simp;done) | (simp;omega)
       ·simp only [setN_ob,setT_ob]
        rw [app_obl' _ _ _ _ _ _ _ k1,if_neg d1]
        simp only [app_ob1,setT_ob,if_neg b1]
        exact oi
       ·simp only [setN_ob,setT_ob]
        rw [app_obl' _ _ _ _ _ _ _ k2,if_neg d2]
        simp only [app_ob1,setT_ob,if_neg b2]
        exact om
       ·simp only [setN_ob,setT_ob]
        rw [app_obl' _ _ _ _ _ _ _ k3,if_neg d3]
        simp only [app_ob1,setT_ob,if_neg b3]
        exact o5
       ·first | omega | (simp;done) | (simp;omega)
     clear hK2
     have c1:¬ 2 * ub1=2 * (s.nx+64+64+64+64+64):=by omega
     have c2:¬ 2 * M=2 * (s.nx+64+64+64+64+64):=by omega
     have c3:¬ 2 * M=2 * ub1:=by omega
     have hsn:640≤s.nx+64+64+64+64+64:=Nat.le_trans (Nat.le_trans hub0 (Nat.le_of_lt hn1)) (by simp [Nat.add_assoc])
     have nq:=ne1152 hsn
     have n5':=ne1152 hub0
     cases hk2:(o.v.kind == 2)
     ·simp [f5,o5',objCells,opC,n5,nq,hk2]
      refine restF _ (q.2.kind == o.v.kind && q.2.n == o.v.n) (by unfold fitsR;rw [hk2];rfl) (by simp) (by simp [h7]) (by simp) (hv.frame (fun u hu=>?_) (fun u hu=>⟨hu.1,hu.2.1,hu.2.2.1,by have:=hu.2.2.2;first | omega | (simp;omega)⟩)) (by simp [c1,MP_app,valV,valC]) (by simp [c2,c3,om]) (by simp [nq,n5',o5',opC]) (by first | omega | (simp;omega)) (by simp [fd]) (by simp [fr])
      have a1:¬ 2 * u=2 * (s.nx+64+64+64+64+64):=by have:=hu.2.2.2;omega
      have a2:¬ 2 * u=2 * ub1:=by have:=hu.2.2.1;omega
      simp [a1,a2]
     ·simp [f5,o5',objCells,opC,n5,nq,hk2]
      refine restF _ true (by unfold fitsR;rw [hk2];rfl) (by simp) (by simp [h7]) (by simp) (hv.frame (fun u hu=>?_) (fun u hu=>⟨hu.1,hu.2.1,hu.2.2.1,by have:=hu.2.2.2;first | omega | (simp;omega)⟩)) (by simp [c1,MP_app,valV,valC]) (by simp [c2,c3,om]) (by simp [nq,n5',o5',opC]) (by first | omega | (simp;omega)) (by simp [fd]) (by simp [fr])
      have a1:¬ 2 * u=2 * (s.nx+64+64+64+64+64):=by have:=hu.2.2.2;omega
      have a2:¬ 2 * u=2 * ub1:=by have:=hu.2.2.1;omega
      simp [a1,a2]
   clear hK
   refine kIf_gen fun st hst=>?_
   have g2:st.tm 2 = .ptr 1 0 0:=by rw [hst];simp
   have g3:st.tm 3 = .ptr 129 64 0:=by rw [hst];simp
   have g5:st.tm 5 = .ptr 1153 576 0:=by rw [hst];simp
   have g7:st.tm 7 = .sl none true 0 []:=by rw [hst];simp
   have p1:st.ob 1=some ⟨0,.cells (histC g)⟩:=by rw [hst];simp [histC]
   have p3:st.ob 129=some ⟨64,.cells [.int .i64 a,.int .i64 b]⟩:=by rw [hst];simp
   have p5:st.ob 1153=some ⟨576,.cells (opC o)⟩:=by rw [hst];simp [opC,hw]
   have gd:st.df=[]:=by rw [hst];simp
   have gr:st.ro=0:=by rw [hst];simp
   have gn:640≤st.nx:=by rw [hst];simp
   clear hst
   cases hk1:(o.v.kind != 1)
   ·have hk:o.v.kind=1:=by simpa using hk1
    simp
    exact rest _ _ g2 g3 g5 p1 p3 p5 g7 (Or.inl ⟨by simp [ofStart,hk],rfl⟩) gd gr gn
   ·have hk:¬ o.v.kind=1:=by simpa using hk1
    simp [g7]
    refine kS_buildSlO (cs:=[.int .i64 (-1)]) (by simp [splice]) rfl rfl ?_
    simp
    refine kS_appendM (p:=fun _=>False) (l:=[]) (z:=-1) (v:=.sl none true 0 []) (X:=2 * (st.nx+64)+1) (uX:=st.nx+64) (by simp) (Or.inl ⟨rfl,rfl⟩) (by simp) (by simp) (fun _ h=>h.elim) (by simp) (fun kl hkl=>?_)
    have hkl0:kl=[]:=by
     cases kl with
     | nil=>rfl
     | cons k _=>obtain ⟨_,h,_⟩:=hkl k (by simp);exact h.elim
    subst hkl0
    have n1:¬ 1=2 * (st.nx+64+64)+1:=by omega
    have n1':¬ 1=2 * (st.nx+64)+1:=by omega
    have n3:¬ 129=2 * (st.nx+64+64)+1:=by omega
    have n3':¬ 129=2 * (st.nx+64)+1:=by omega
    have n5:¬ 1153=2 * (st.nx+64+64)+1:=by omega
    have n5':¬ 1153=2 * (st.nx+64)+1:=by omega
    simp
    refine rest _ (.osl (2 * (st.nx+64+64)+1) (st.nx+64+64) 0 1 1) (by simp [g2]) (by simp [g3]) (by simp [g5]) ?_ ?_ ?_ (by simp) (Or.inr ⟨by simp [ofStart,hk],st.nx+64+64,by simp [ofStart,hk],by simp [ofStart,hk,intC],by omega,by simp⟩) (by simp [gd]) (by simp [gr]) (by simp;omega)
    ·simp only [setN_ob,setT_ob,app_ob1,if_neg n1,if_neg n1'];exact p1
    ·simp only [setN_ob,setT_ob,app_ob1,if_neg n3,if_neg n3'];exact p3
    ·simp only [setN_ob,setT_ob,app_ob1,if_neg n5,if_neg n5'];exact p5
  ·simp [splice,opC,objCells]
   exact kEnd_ints (p:=fun _=>True) (by simp) rfl (Or.inl ⟨rfl,by simp⟩) (by simp)
end Go.Pv.T

/- Who may have written what is read: the reference's read. -/
namespace Go.Pv.T
open Go Go.Pv
set_option maxRecDepth 100000 in
theorem ev77 {h:Hist'} (hs:Small h) (a b:Int):Ev E 77 [.agg (histC h),.agg (placeC (a,b))] (.bool ((opAt h a b).any fun o=>!o.w)):=by
 have e32:=ev32 hs
 have hts:=hs.ts
 refine Ev_wpK (af:=F77) rfl ?_
 obtain ⟨R,hR⟩:∃ R,opAt h a b=R:=⟨_,rfl⟩
 rw [hR]
 unfold opAt at hR
 simp [F77,histC,objCells,placeC]
 refine kD_ev e32 (by simp [histC]) rfl (by simp [histC]) ?_
 cases hm:mayH h
 ·rw [may_bad hm]
  rw [hm] at hR
  subst hR
  simp
  exact endV_1 (by simp) (by simp) rfl
 rw [hm] at hR
 rw [may_err hm]
 by_cases k1n:a<0
 ·have k1:¬ 0≤a:=by omega
  rw [if_neg (by simp;omega)] at hR
  subst hR
  simp [k1,objCells]
  exact endV_1 (by simp) (by simp) rfl
 have k1:0≤a:=by omega
 by_cases k2n:(h.ts.length:Int)≤a
 ·have k2:¬ (a<(h.ts.length:Int)):=by omega
  rw [if_neg (by simp;omega)] at hR
  subst hR
  simp [k1,k2,objCells]
  exact endV_1 (by simp) (by simp) rfl
 have k2:a<(h.ts.length:Int):=by omega
 by_cases k3n:b<0
 ·have k3:¬ 0≤b:=by omega
  rw [if_neg (by simp;omega)] at hR
  subst hR
  simp [k1,k2,k3,objCells]
  exact endV_1 (by simp) (by simp) rfl
 have k3:0≤b:=by omega
 obtain ⟨i,rfl⟩:∃ i:Nat,a=i:=⟨a.toNat,by omega⟩
 have hi:i<h.ts.length:=by omega
 rw [Int.toNat_natCast,getD_lt hi] at hR
 obtain ⟨t,ht⟩:∃ t,h.ts[i]=t:=⟨_,rfl⟩
 rw [ht] at hR
 have hl3:(h.ts.flatMap txnC)[i * 3+2]? = some (slOf t.nl opC t.ops):=by
  rw [fld_at txnC_len h.ts hi (by decide:2<3),ht];rfl
 by_cases k4n:(t.ops.length:Int)≤b
 ·have k4:¬ (b<(t.ops.length:Int)):=by omega
  rw [if_neg (by simp;omega)] at hR
  subst hR
  simp [k1,k2,k3,k4,objCells,hi,idx_slOf txnC_len,hl3]
  exact endV_1 (by simp) (by simp) rfl
 have k4:b<(t.ops.length:Int):=by omega
 obtain ⟨j,rfl⟩:∃ j:Nat,b=j:=⟨b.toNat,by omega⟩
 have hj:j<t.ops.length:=by omega
 rw [if_pos (by simp;omega),Int.toNat_natCast,List.getElem?_eq_getElem hj] at hR
 obtain ⟨o,ho⟩:∃ o,t.ops[j]=o:=⟨_,rfl⟩
 rw [ho] at hR
 subst hR
 have a0:(t.ops.flatMap opC)[j * 4]? = some (.bool o.w):=by
  have:=fld_at opC_len t.ops hj (by decide:0<4)
  rw [Nat.add_zero,ho] at this
  rw [this];rfl
 simp [k1,k2,k3,k4,objCells,hi,idx_slOf txnC_len,hl3]
 simp [hj,idx_slOf opC_len,a0]
 exact endV_1 (by simp) (by simp) rfl
end Go.Pv.T

/- Who may have written what is read: the reference's list. -/
namespace Go.Pv.T
open Go Go.Pv
def seenB (o:Op') (a:Int) (i:Nat) (t:Txn'):Bool:=(!((i:Int) == a) && (t.f != 2)) && ((rawTo o.key t.ops t.ops.length).2 && fitsR o (rawTo o.key t.ops t.ops.length).1)
def refTo (ts:List Txn') (a:Int) (o:Op'):Nat→List Int
 | 0=>ofStart o
 | i+1=>refTo ts a o i++(match ts[i]? with | some t=>if seenB o a i t then [(i:Int)] else [] | none=>[])
theorem refTo_succ {ts:List Txn'} {a:Int} {o:Op'} {i:Nat} (h:i<ts.length):refTo ts a o (i+1)=refTo ts a o i++(if seenB o a i ts[i] then [(i:Int)] else []):=by
 simp [refTo,List.getElem?_eq_getElem h]
theorem refTo_len (ts:List Txn') (a:Int) (o:Op'):∀ i,(refTo ts a o i).length≤i+1
 | 0=>by unfold refTo ofStart;split <;> simp
 | i+1=>by
  have:=refTo_len ts a o i
  simp only [refTo,List.length_append]
  split
  ·split <;> simp <;> omega
  ·simp;omega
theorem leaveOf_at {g:Hist'} (hm:mayH g=true) (key:Int) {i:Nat} (h:i<g.ts.length):leaveOf g key i=(rawTo key g.ts[i].ops g.ts[i].ops.length).1:=by
 unfold leaveOf lastW opsAt
 rw [hm,if_pos (by simp;omega)]
 simp only [Int.toNat_natCast]
 rw [getD_lt h]
theorem refTo_eq {g:Hist'} (hm:mayH g=true) (a:Int) (o:Op'):∀ i,i≤g.ts.length→refTo g.ts a o i=ofStart o++(numsTo (wrB o.key) g.ts i).filter fun i=>!(i == a) && fitsR o (leaveOf g o.key i)
 | 0,_=>by simp [refTo,numsTo]
 | i+1,h=>by
  rw [refTo_succ (by omega),numsTo_succ (by omega),List.filter_append,refTo_eq hm a o i (by omega),List.append_assoc]
  congr 2
  have hr:=rawTo_any o.key (g.ts[i]).ops (g.ts[i]).ops.length (Nat.le_refl _)
  rw [List.take_length] at hr
  have hl:=leaveOf_at hm o.key (show i<g.ts.length by omega)
  unfold seenB wrB
  rw [hr]
  cases h1:(g.ts[i].ops.any (wkB o.key)) <;> cases h2:(g.ts[i].f != 2) <;> cases h3:((i:Int) == a) <;> simp [List.filter_cons,h3,hl]
theorem refTo_ofL {g:Hist'} (hm:mayH g=true) (a:Int) (o:Op'):refTo g.ts a o g.ts.length=ofL g a o:=refTo_eq hm a o _ (Nat.le_refl _)
theorem opAt_some {g:Hist'} {a b:Int} {o:Op'} (h:opAt g a b=some o):∃ i j:Nat,a=i∧b=j∧∃ (hi:i<g.ts.length) (hj:j<(g.ts[i]).ops.length),(g.ts[i]).ops[j]=o:=by
 unfold opAt at h
 by_cases hc:(mayH g && (decide (0≤a) && (decide (a<g.ts.length) && (decide (0≤b) && decide (b<((g.ts.getD a.toNat ⟨0,0,true,[]⟩).ops.length:Nat))))))=true
 ·rw [if_pos hc] at h
  simp only [Bool.and_eq_true,decide_eq_true_eq] at hc
  obtain ⟨_,h1,h2,h3,h4⟩:=hc
  obtain ⟨i,rfl⟩:∃ i:Nat,a=i:=⟨a.toNat,by omega⟩
  obtain ⟨j,rfl⟩:∃ j:Nat,b=j:=⟨b.toNat,by omega⟩
  have hi:i<g.ts.length:=by omega
  rw [Int.toNat_natCast,getD_lt hi] at h h4
  have hj:j<(g.ts[i]).ops.length:=by omega
  rw [Int.toNat_natCast,List.getElem?_eq_getElem hj] at h
  exact ⟨i,j,rfl,rfl,hi,hj,Option.some.inj h⟩
 ·rw [if_neg hc] at h
  cases h
theorem ev28' {g:Hist'} (hs:Small g) (a b:Int):∃ v,Ev E 28 [.agg (histC g),.agg (placeC (a,b))] v∧SlR v false (ofH g a b).length ((ofH g a b).flatMap intC):=by
 have e77:=ev77 hs a b
 refine Ev_wpE (af:=F28) rfl (by decide) ?_
 unfold ofH
 cases hop:opAt g a b with
 | none =>
  rw [hop] at e77
  simp [F28,histC,placeC]
  refine kS_buildSl (cs:=[]) rfl rfl rfl ?_
  simp [objCells]
  refine kS_ev e77 (by simp [histC,placeC]) rfl (by simp [histC,placeC]) ?_
  simp
  exact slE (t:=some (192,1)) (nl:=false) (k:=0) (cs:=[]) (fun r h=>h) (by simp) (by simp)
 | some o =>
  rw [hop] at e77
  simp only [Option.any_some] at e77
  have hmay:mayH g=true:=by
   unfold opAt at hop
   cases hm:mayH g
   ·rw [hm] at hop;cases hop
   ·rfl
  have hts:=may_ts hmay
  simp [F28,histC,placeC]
  refine kS_buildSl (cs:=[]) rfl rfl rfl ?_
  simp [objCells]
  refine kS_ev e77 (by simp [histC,placeC]) rfl (by simp [histC,placeC]) ?_
  cases hw:o.w
  ·obtain ⟨i,j,rfl,rfl,hi,hj,ho⟩:=opAt_some hop
   have hl3:(g.ts.flatMap txnC)[i * 3+2]? = some (slOf (g.ts[i]).nl opC (g.ts[i]).ops):=by
    rw [fld_at txnC_len g.ts hi (by decide:2<3)];rfl
   have hl4:=fun ob=>load_slOf opC_len ob (g.ts[i]).ops hj
   rw [ho] at hl4
   simp [objCells,hi,hj,idx_slOf txnC_len,idx_slOf opC_len,hl3,hl4]
   refine ⟨by simp [opC],by simp [drawOk,indep,disj,fpOf,rdOb,rdTk,lOf,Delta.wo,Delta.wt,opC];try decide,?_⟩
   simp [opC]
   generalize hK:kSeq E noYF _ (kEndE _ _)=K
   have rest:∀ (s:St) (U:Nat) (v:V),s.tm 2 = .ptr 4 0 0→s.tm 3 = .ptr 6 64 0→s.tm 6 = .ptr 12 U 0→s.ob 4=some ⟨0,.cells (histC g)⟩→s.ob 6=some ⟨64,.cells [.int .i64 i,.int .i64 j]⟩→s.ob 12=some ⟨U,.cells (opC o)⟩ →
    s.tm 5=v→GrowT s.tk s.nx intC 1 (ofStart o) v→s.df=[]→s.ro=0→s.fb=0→K .nrm s:=by
    intro s U v h2 h3 h6 o4 o6 o12 h5 hv hd hr hb
    rw [← hK]
    clear hK e77 hop
    simp
    generalize (i:Int)=a at *
    refine wp_loopUp [(5,5),(7,9),(34,90)] g.ts.length (fun n s=>s.tm 7 = .int .i64 n∧s.ob 4=some ⟨0,.cells (histC g)⟩∧s.ob 6=some ⟨64,.cells [.int .i64 a,.int .i64 j]⟩∧s.ob 12=some ⟨U,.cells (opC o)⟩∧GrowT s.tk s.nx intC 1 (refTo g.ts a o n) (s.tm 5)) rfl rfl ⟨by simp,by simp [o4],by simp [o6],by simp [o12],by rw [refTo];simp [h5];exact hv.mono (fun _ _ h=>h) (by omega)⟩ ?_
    rintro n s' hn ⟨h7,o4,o6,o12,hG⟩ f
    have f2:s'.tm 2 = .ptr 4 0 0:=by rw [f.t 2 (by simp)];simp [h2]
    have f3:s'.tm 3 = .ptr 6 64 0:=by rw [f.t 3 (by simp)];simp [h3]
    have f6:s'.tm 6 = .ptr 12 U 0:=by rw [f.t 6 (by simp)];simp [h6]
    have fd:s'.df=[]:=by rw [f.d];simp [hd]
    have fb:s'.fb=0:=by rw [f.b];simp [hb]
    have fr:s'.ro=0:=by rw [f.r];simp [hr]
    clear f
    by_cases hlt:n<g.ts.length
    ·have hw:=wrapU hlt (by omega)
     have hsn:=refTo_succ (a:=a) (o:=o) hlt
     obtain ⟨t,ht⟩:∃ t,g.ts[n]=t:=⟨_,rfl⟩
     rw [ht] at hsn
     have hos:=hs.os t (ht ▸ List.getElem_mem hlt)
     have hll:=refTo_len g.ts a o n
     have hff:(g.ts.flatMap txnC)[n * 3+1]? = some (.int .i64 t.f):=by
      rw [fld_at txnC_len g.ts hlt (by decide:1<3),ht];rfl
     have hfo:(g.ts.flatMap txnC)[n * 3+2]? = some (slOf t.nl opC t.ops):=by
      rw [fld_at txnC_len g.ts hlt (by decide:2<3),ht];rfl
     have e78:=ev78 t (by omega) o.key
     simp [h7,f2,f6,o4,o12,objCells,histC,opC,hlt,idx_slOf txnC_len,load_slOf txnC_len,ht,hfo]
     refine kD_ev e78 (by simp [txnC]) rfl (by simp [txnC]) ?_
     rw [retA_tupl (by simp [V.plain,valC])]
     have hsee:seenB o a n t=((!((n:Int) == a) && (t.f != 2)) && ((rawTo o.key t.ops t.ops.length).2 && fitsR o (rawTo o.key t.ops t.ops.length).1)):=rfl
     generalize (rawTo o.key t.ops t.ops.length).1=rv at *
     generalize (rawTo o.key t.ops t.ops.length).2=rb at *
     have o4':s'.ob 4=some ⟨0,.cells [slOf g.sn strC g.ss,slOf g.kn strC g.ks,slOf g.tn txnC g.ts]⟩:=o4
     have o12':s'.ob 12=some ⟨U,.cells [.bool o.w,.int .i64 o.key,.int .i64 o.v.kind,.int .i64 o.v.n]⟩:=o12
     have skip:seenB o a n t=false→refTo g.ts a o (n+1)=refTo g.ts a o n:=fun h=>by rw [hsn,h];simp
     simp [valC,objCells,fb,fr,splice,f3,o6,h7]
     refine ⟨by simp [drawOk,indep,disj,fpOf,rdOb,rdTk,lOf,Delta.wo,Delta.wt];try decide,?_⟩
     cases h1:((n:Int) != a)
     ·have h1b:((n:Int) == a)=true:=by simpa [bne] using h1
      have hsk:=skip (by rw [hsee,h1b];rfl)
      simp [o4',o6,o12',h7,hw,hlt]
      rw [hsk];exact hG.mono (fun u _ h=>by simpa [app_tk0] using h) (by omega)
     have h1b:((n:Int) == a)=false:=by simpa [bne] using h1
     cases h2:(t.f != 2)
     ·have hsk:=skip (by rw [hsee,h1b,h2];rfl)
      simp [h2,f2,o4',o6,o12',h7,hw,objCells,hlt,idx_slOf txnC_len,hff]
      rw [hsk];exact hG.mono (fun u _ h=>by simpa [app_tk0] using h) (by omega)
     cases rb
     ·have hsk:=skip (by rw [hsee,h1b,h2];rfl)
      simp [h2,f2,o4',o6,o12',h7,hw,objCells,hlt,idx_slOf txnC_len,hff]
      rw [hsk];exact hG.mono (fun u _ h=>by simpa [app_tk0] using h) (by omega)
     cases h4:(o.v.kind == 2)
     ·cases h5:(rv.kind == o.v.kind && rv.n == o.v.n)
      ·have hsk:=skip (by rw [hsee,h1b,h2];unfold fitsR;rw [h4,h5];rfl)
       simp [h2,h4,h5,f2,f6,o4',o6,o12',h7,hw,objCells,hlt,idx_slOf txnC_len,hff]
       rw [hsk];exact hG.mono (fun u _ h=>by simpa [app_tk0] using h) (by omega)
      ·have h3f:fitsR o rv=true:=by unfold fitsR;rw [h4,h5];rfl
       have hsn2:refTo g.ts a o (n+1)=refTo g.ts a o n++[(n:Int)]:=by rw [hsn,hsee];simp [h1b,h2,h3f]
       simp [h2,h4,h5,f2,f6,o4',o12',h7,objCells,hlt,idx_slOf txnC_len,hff]
       refine kS_buildSl (cs:=[.int .i64 n]) (by simp [splice]) rfl rfl ?_
       simp
       refine kS_appendT (f:=intC) (hi:=s'.nx) (l:=refTo g.ts a o n) (a:=(n:Int)) (v:=s'.tm 5) (hG.mono (fun u _ h=>by simp [app_tk,h]) (Nat.le_refl _)) (by simp) (by simp [slCells,intC]) intC_len (by decide) rfl (by omega) (by omega) (fun del hdel=>?_)
       have hlen:(refTo g.ts a o n).length+1=(refTo g.ts a o (n+1)).length:=by rw [hsn2];simp
       rw [← hsn2,hlen]
       simp [h7,hw,o4',o6,o12']
       exact ⟨hlt,_,rfl,by simp [app_tk],by omega⟩
     ·have h3f:fitsR o rv=true:=by unfold fitsR;rw [h4];rfl
      have hsn2:refTo g.ts a o (n+1)=refTo g.ts a o n++[(n:Int)]:=by rw [hsn,hsee];simp [h1b,h2,h3f]
      simp [h2,h4,f2,f6,o4',o12',h7,objCells,hlt,idx_slOf txnC_len,hff]
      refine kS_buildSl (cs:=[.int .i64 n]) (by simp [splice]) rfl rfl ?_
      simp
      refine kS_appendT (f:=intC) (hi:=s'.nx) (l:=refTo g.ts a o n) (a:=(n:Int)) (v:=s'.tm 5) (hG.mono (fun u _ h=>by simp [app_tk,h]) (Nat.le_refl _)) (by simp) (by simp [slCells,intC]) intC_len (by decide) rfl (by omega) (by omega) (fun del hdel=>?_)
      have hlen:(refTo g.ts a o n).length+1=(refTo g.ts a o (n+1)).length:=by rw [hsn2];simp
      rw [← hsn2,hlen]
      simp [h7,hw,o4',o6,o12']
      exact ⟨hlt,_,rfl,by simp [app_tk],by omega⟩
    ·have:n=g.ts.length:=by omega
     subst this
     obtain ⟨u,hv,_,_⟩:=hG
     simp [h7,f2,o4,objCells,histC]
     rw [← refTo_ofL hmay]
     exact slE (t:=some (u,1)) (nl:=false) (k:=(refTo g.ts a o g.ts.length).length) (cs:=(refTo g.ts a o g.ts.length).flatMap intC) (fun r h=>h) (by simp [fd]) (by simp [hv])
   by_cases hk:o.v.kind=1
   ·simp [hk]
    refine rest _ 1280 _ (by simp) (by simp) (by simp) (by simp [histC]) (by simp) (by simp [opC,hk]) (by simp;rfl) ?_ (by simp) (by simp) (by simp)
    exact ⟨192,by simp [ofStart,hk],by simp [app_tk],by simp⟩
   ·have hkb:(o.v.kind != 1)=true:=by simp [hk]
    simp [hkb]
    refine kS_buildSl (cs:=[.int .i64 (-1)]) (by simp [splice]) rfl rfl ?_
    simp
    refine kS_appendT (f:=intC) (hi:=576) (l:=[]) (a:=-1) (v:=.sl (some (192,1)) false 0 []) ⟨192,rfl,by simp [app_tk],by omega⟩ (by simp) (by simp [slCells,intC]) intC_len (by decide) rfl (by simp) (by simp) (fun del hdel=>?_)
    simp
    refine rest _ 1280 _ (by simp) (by simp) (by simp) (by simp [histC]) (by simp) (by simp [opC]) (by simp;rfl) ?_ (by simp) (by simp) (by simp)
    exact ⟨1792,by simp [ofStart,hk],by simp [app_tk],by simp⟩
  ·simp
   exact slE (t:=some (192,1)) (nl:=false) (k:=0) (cs:=[]) (fun r h=>h) (by simp) (by simp)
end Go.Pv.T

/- Whole histories; comparing lists. -/
namespace Go.Pv.T
open Go Go.Pv
theorem retSl {ub:Nat} {v:V} {nl:Bool} {n:Nat} {cs:List V} {K:Delta→Prop} (hv:SlR v nl n cs) (h:∀ t add,K { v:=.sl t nl n cs,add:=add }):wpD (retA ub v) K:=by
 obtain ⟨t,add,hr⟩:=retA_sl (ub:=ub) hv
 rw [hr,wpD_some]
 exact h t add
theorem ev26 {a b:Bool} (l m:List Int) (hl:l.length≤1000000000) (hm:m.length≤1000000000):Ev E 26 [slOf a intC l,slOf b intC m] (.bool (l == m)):=by
 refine Ev_wpK (af:=F26) rfl ?_
 have il:∀ (l:List Int) (i:Nat) (h:i<l.length),(l.flatMap intC)[i]? = some (.int .i64 l[i]):=fun l i h=>by
  have:=fld_at intC_len l h (by decide:0<1)
  rw [Nat.mul_one,Nat.add_zero] at this
  rw [this];rfl
 by_cases hlm:l.length=m.length
 ·simp [F26,hlm]
  refine wp_loopUp [(4,5),(11,40)] l.length (fun i s=>s.tm 5 = .int .i64 i∧l.take i=m.take i) rfl rfl ⟨by simp,by simp⟩ ?_
  rintro i s hi ⟨h5,hT⟩ f
  have f0:s.tm 0=slOf a intC l:=by rw [f.t 0 (by simp)];simp
  have f1:s.tm 1=slOf b intC m:=by rw [f.t 1 (by simp)];simp
  have fd:s.df=[]:=by rw [f.d];simp
  clear f
  by_cases hlt:i<l.length
  ·have hw:=wrapU hlt (by omega)
   have hlt2:i<m.length:=by omega
   have h1:=il l i hlt
   have h2:=il m i hlt2
   cases hne:(l[i] != m[i])
   ·have he:l[i]=m[i]:=by simpa using hne
    simp [h5,f0,f1,hlt,hlt2,idx_slOf intC_len,h1,h2,hne,hw]
    rw [List.take_succ_eq_append_getElem hlt,List.take_succ_eq_append_getElem hlt2,hT,he]
   ·have hn:l[i]≠m[i]:=by simpa using hne
    simp [h5,f0,f1,hlt,hlt2,idx_slOf intC_len,h1,h2,hne]
    refine endV_1 (by simp [fd]) ?_ rfl
    have:(l == m)=false:=by
     rw [beq_eq_false_iff_ne]
     intro e
     subst e
     exact hn rfl
    simp [this]
  ·have:i=l.length:=by omega
   subst this
   simp [h5,f0]
   refine endV_1 (by simp [fd]) ?_ rfl
   have:l=m:=by rw [List.take_length,hlm,List.take_length] at hT;exact hT
   simp [this]
 ·have hne:((l.length:Int) != m.length)=true:=by simp;omega
  simp [F26,hne]
  refine endV_1 (by simp) ?_ rfl
  have:(l == m)=false:=by
   rw [beq_eq_false_iff_ne]
   intro e
   subst e
   exact hlm rfl
  simp [this]
end Go.Pv.T

/- Lists: whether a number is in one, where; the same places; what is committed. -/
namespace Go.Pv.T
open Go Go.Pv
theorem ev87 {a:Bool} (l:List Int) (hl:l.length≤1000000000) (k:Int):Ev E 87 [slOf a intC l,.int .i64 k] (.bool (l.contains k)):=by
 refine Ev_wpK (af:=F87) rfl ?_
 obtain ⟨c,hc⟩:∃ c,l.contains k=c:=⟨_,rfl⟩
 rw [hc]
 simp [F87]
 refine wp_loopUp [(4,30)] l.length (fun i s=>s.tm 5 = .int .i64 i∧(l.drop i).contains k=c) rfl rfl ⟨by simp,by simpa using hc⟩ ?_
 rintro i s hi ⟨h5,hT⟩ f
 have f0:s.tm 0=slOf a intC l:=by rw [f.t 0 (by simp)];simp
 have f1:s.tm 1 = .int .i64 k:=by rw [f.t 1 (by simp)];simp
 have fd:s.df=[]:=by rw [f.d];simp
 clear f
 by_cases hlt:i<l.length
 ·have hw:=wrapU hlt (by omega)
  have h1:=int_at l hlt
  rw [List.drop_eq_getElem_cons hlt,List.contains_cons] at hT
  cases he:(l[i] == k)
  ·have he':(k == l[i])=false:=by rw [beq_eq_false_iff_ne] at he ⊢;exact fun e=>he e.symm
   rw [he',Bool.false_or] at hT
   simp [h5,f0,f1,hlt,idx_slOf intC_len,h1,he,hw]
   simpa using hT
  ·have he':(k == l[i])=true:=by rw [beq_iff_eq] at he ⊢;exact he.symm
   rw [he',Bool.true_or] at hT
   simp [h5,f0,f1,hlt,idx_slOf intC_len,h1,he]
   exact endV_1 (by simp [fd]) (by rw [← hT];simp) rfl
 ·have:i=l.length:=by omega
  subst this
  rw [List.drop_length] at hT
  simp [h5,f0]
  exact endV_1 (by simp [fd]) (by rw [← hT];simp) rfl
end Go.Pv.T

/- Reads that see what others wrote. -/
namespace Go.Pv.T
open Go Go.Pv
theorem ev78n (t:Txn') (ht:t.ops.length≤1000000) (k:Int) {n:Nat} (hn:n≤t.ops.length):Ev E 78 [.agg (txnC t),.int .i64 n,.int .i64 k] (.tup [.agg (valC (rawTo k t.ops n).1),.bool (rawTo k t.ops n).2]):=by
 refine Ev_wpK (af:=F78) rfl ?_
 simp [F78,txnC,objCells,splice]
 refine wp_loopUp [(9,10),(12,45)] n (fun i s=>s.tm 10 = .int .i64 i∧s.ob 6=some ⟨0,.cells (txnC t)⟩∧s.ob 12=some ⟨64,.cells [.int .i64 0,.int .i64 0]⟩∧s.ob 16=some ⟨256,.cells (valC (rawTo k t.ops i).1)⟩∧s.tm 9 = .bool (rawTo k t.ops i).2) rfl rfl
  ⟨by simp,by simp [txnC],by simp,by simp [rawTo,valC],by simp [rawTo]⟩ ?_
 rintro i s hi ⟨h10,o6,o12,o16,h9⟩ f
 have f1:s.tm 1 = .int .i64 n:=by rw [f.t 1 (by simp)];simp
 have f2:s.tm 2 = .int .i64 k:=by rw [f.t 2 (by simp)];simp
 have f3:s.tm 3 = .ptr 6 0 0:=by rw [f.t 3 (by simp)];simp
 have f6:s.tm 6 = .ptr 12 64 0:=by rw [f.t 6 (by simp)];simp
 have f8:s.tm 8 = .ptr 16 256 0:=by rw [f.t 8 (by simp)];simp
 have fd:s.df=[]:=by rw [f.d];simp
 have fr:s.ro=0:=by rw [f.r];simp
 clear f
 by_cases hin:i<n
 ·have hlt:i<t.ops.length:=by omega
  have hw:=wrapU hlt (by omega)
  have hs:=rawTo_succ (k:=k) hlt
  obtain ⟨o,ho⟩:∃ o,t.ops[i]=o:=⟨_,rfl⟩
  rw [ho] at hs
  have a0:(t.ops.flatMap opC)[i * 4]? = some (.bool o.w):=by
   have:=fld_at opC_len t.ops hlt (by decide:0<4)
   rw [Nat.add_zero,ho] at this
   rw [this];rfl
  have a1:(t.ops.flatMap opC)[i * 4+1]? = some (.int .i64 o.key):=by
   rw [fld_at opC_len t.ops hlt (by decide:1<4),ho];rfl
  have a2:∀ ob,loadV ob (some 2) (.eptr (t.ops.flatMap opC) (i * 4+2))=some (.agg (valC o.v)):=fun ob=>by
   have hle:i * 4+4≤t.ops.length * 4:=by omega
   rw [loadV_e,pick1_some,if_pos (by rw [flatMap_len opC_len];omega)]
   have:=flatMap_at opC_len t.ops i hlt
   rw [ho] at this
   have e:((t.ops.flatMap opC).drop (i * 4+2)).take 2=((((t.ops.flatMap opC).drop (i * 4)).take 4).drop 2):=by
    rw [List.drop_take,List.drop_drop]
   rw [e,this]
   rfl
  cases hwk:o.w
  ·have hk:wkB k o=false:=by unfold wkB;rw [hwk];rfl
   rw [hk] at hs
   simp only [Bool.false_eq_true,if_false] at hs
   simp [h10,f1,f3,o6,objCells,txnC,hin,hlt,idx_slOf opC_len,a0,hwk,hw,o12,o16,h9]
   exact ⟨by rw [hs],by rw [hs]⟩
  ·cases hke:(o.key == k)
   ·have hk:wkB k o=false:=by unfold wkB;rw [hwk,hke];rfl
    rw [hk] at hs
    simp only [Bool.false_eq_true,if_false] at hs
    simp [h10,f1,f2,f3,o6,objCells,txnC,hin,hlt,idx_slOf opC_len,a0,a1,hwk,hke,hw,o12,o16,h9]
    exact ⟨by rw [hs],by rw [hs]⟩
   ·have hk:wkB k o=true:=by unfold wkB;rw [hwk,hke];rfl
    rw [hk] at hs
    simp only [if_true] at hs
    simp [h10,f1,f2,f3,f8,o6,objCells,txnC,hin,hlt,idx_slOf opC_len,a0,a1,a2,hwk,hke,hw,o12,o16,valC,fr,splice]
    rw [hs]
    simp
 ·have:i=n:=by omega
  subst this
  simp [h10,f1,f8,o16,objCells,h9,f6,o12,valC,fr,splice]
  exact kEnd_of (by simp [fd]) (l:=[.agg (valC (rawTo k t.ops i).1),.bool (rawTo k t.ops i).2]) (by simp [resOf,objCells,f6,valC]) rfl rfl
theorem ev131 {g:Hist'} (hs:Small g) (a b:Int):Ev E 131 [.agg (histC g),.agg (placeC (a,b))] (.bool (opAt g a b).isSome):=by
 have e32:=ev32 hs
 have hts:=hs.ts
 refine Ev_wpK (af:=F131) rfl ?_
 obtain ⟨R,hR⟩:∃ R,opAt g a b=R:=⟨_,rfl⟩
 rw [hR]
 unfold opAt at hR
 simp [F131,histC,objCells,placeC]
 refine kD_ev e32 (by simp [histC]) rfl (by simp [histC]) ?_
 cases hm:mayH g
 ·rw [may_bad hm]
  rw [hm] at hR
  subst hR
  simp
  exact endV_1 (by simp) (by simp) rfl
 rw [hm] at hR
 rw [may_err hm]
 by_cases k1n:a<0
 ·have k1:¬ 0≤a:=by omega
  rw [if_neg (by simp;omega)] at hR
  subst hR
  simp [k1,objCells]
  exact endV_1 (by simp) (by simp) rfl
 have k1:0≤a:=by omega
 by_cases k2n:(g.ts.length:Int)≤a
 ·have k2:¬ (a<(g.ts.length:Int)):=by omega
  rw [if_neg (by simp;omega)] at hR
  subst hR
  simp [k1,k2,objCells]
  exact endV_1 (by simp) (by simp) rfl
 have k2:a<(g.ts.length:Int):=by omega
 by_cases k3n:b<0
 ·have k3:¬ 0≤b:=by omega
  rw [if_neg (by simp;omega)] at hR
  subst hR
  simp [k1,k2,k3,objCells]
  exact endV_1 (by simp) (by simp) rfl
 have k3:0≤b:=by omega
 obtain ⟨i,rfl⟩:∃ i:Nat,a=i:=⟨a.toNat,by omega⟩
 have hi:i<g.ts.length:=by omega
 rw [Int.toNat_natCast,getD_lt hi] at hR
 obtain ⟨t,ht⟩:∃ t,g.ts[i]=t:=⟨_,rfl⟩
 rw [ht] at hR
 have hl3:(g.ts.flatMap txnC)[i * 3+2]? = some (slOf t.nl opC t.ops):=by
  rw [fld_at txnC_len g.ts hi (by decide:2<3),ht];rfl
 by_cases k4n:(t.ops.length:Int)≤b
 ·have k4:¬ (b<(t.ops.length:Int)):=by omega
  rw [if_neg (by simp;omega)] at hR
  subst hR
  simp [k1,k2,k3,k4,objCells,hi,idx_slOf txnC_len,hl3]
  exact endV_1 (by simp) (by simp) rfl
 have k4:b<(t.ops.length:Int):=by omega
 obtain ⟨j,rfl⟩:∃ j:Nat,b=j:=⟨b.toNat,by omega⟩
 have hj:j<t.ops.length:=by omega
 rw [if_pos (by simp;omega),Int.toNat_natCast,List.getElem?_eq_getElem hj] at hR
 subst hR
 simp [k1,k2,k3,k4,objCells,hi,idx_slOf txnC_len,hl3]
 exact endV_1 (by simp) (by simp) rfl
end Go.Pv.T

/- Reads that see what others wrote: the reference's own, and both Outers. -/
namespace Go.Pv.T
open Go Go.Pv
def ownAt (g:Hist') (a b:Int):Val' × Bool:=match opAt g a b with
 | some o=>rawTo o.key (g.ts.getD a.toNat ⟨0,0,true,[]⟩).ops b.toNat
 | none=>(⟨0,0⟩,false)
def outerB (g:Hist') (a b:Int):Bool:=match opAt g a b with
 | some o=>!o.w && !(ownAt g a b).2
 | none=>false
theorem ev132 {g:Hist'} (hs:Small g) (a b:Int):Ev E 132 [.agg (histC g),.agg (placeC (a,b))] (.tup [.agg (valC (ownAt g a b).1),.bool (ownAt g a b).2]):=by
 have e131:=ev131 hs a b
 refine Ev_wpK (af:=F132) rfl ?_
 unfold ownAt
 cases hop:opAt g a b with
 | none =>
  rw [hop] at e131
  simp [F132,histC,placeC,objCells]
  refine kS_ev e131 (by simp [histC,placeC]) rfl (by simp [histC,placeC]) ?_
  simp [objCells,splice]
  exact kEnd_of (by simp) (l:=[.agg (valC ⟨0,0⟩),.bool false]) (by simp [resOf,objCells,valC]) rfl rfl
 | some o =>
  rw [hop] at e131
  obtain ⟨i,j,rfl,rfl,hi,hj,ho⟩:=opAt_some hop
  have hos:=hs.os _ (List.getElem_mem hi)
  have e78:=ev78n g.ts[i] (by omega) o.key (n:=j) (by omega)
  simp only [Int.toNat_natCast]
  rw [getD_lt hi]
  have hl3:(g.ts.flatMap txnC)[i * 3+2]? = some (slOf (g.ts[i]).nl opC (g.ts[i]).ops):=by
   rw [fld_at txnC_len g.ts hi (by decide:2<3)];rfl
  have hlk:((g.ts[i]).ops.flatMap opC)[j * 4+1]? = some (.int .i64 o.key):=by
   rw [fld_at opC_len (g.ts[i]).ops hj (by decide:1<4),ho];rfl
  simp [F132,histC,placeC,objCells]
  refine kS_ev e131 (by simp [histC,placeC]) rfl (by simp [histC,placeC]) ?_
  simp [objCells,hi,hj,idx_slOf txnC_len,idx_slOf opC_len,load_slOf txnC_len,hl3,hlk]
  refine kD_ev e78 (by simp [txnC]) rfl (by simp [txnC]) ?_
  rw [retA_tupl (by simp [V.plain,valC])]
  generalize (rawTo o.key g.ts[i].ops j).1=rv at *
  generalize (rawTo o.key g.ts[i].ops j).2=rb at *
  simp [valC,objCells,splice]
  exact kEnd_of (by simp) (l:=[.agg [.int .i64 rv.kind,.int .i64 rv.n],.bool rb]) (by simp [resOf,objCells]) rfl rfl
theorem ev90 {g:Hist'} (hs:Small g) (a b:Int):Ev E 90 [.agg (histC g),.agg (placeC (a,b))] (.bool (outerB g a b)):=by
 have e131:=ev131 hs a b
 have e132:=ev132 hs a b
 refine Ev_wpK (af:=F90) rfl ?_
 unfold outerB
 cases hop:opAt g a b with
 | none =>
  rw [hop] at e131
  simp [F90,histC,placeC,objCells]
  refine kD_ev e131 (by simp [histC,placeC]) rfl (by simp [histC,placeC]) ?_
  simp
  exact endV_1 (by simp) (by simp) rfl
 | some o =>
  rw [hop] at e131
  obtain ⟨i,j,rfl,rfl,hi,hj,ho⟩:=opAt_some hop
  have hl3:(g.ts.flatMap txnC)[i * 3+2]? = some (slOf (g.ts[i]).nl opC (g.ts[i]).ops):=by
   rw [fld_at txnC_len g.ts hi (by decide:2<3)];rfl
  have hlw:((g.ts[i]).ops.flatMap opC)[j * 4]? = some (.bool o.w):=by
   have:=fld_at opC_len (g.ts[i]).ops hj (by decide:0<4)
   rw [Nat.add_zero,ho] at this
   rw [this];rfl
  simp [F90,histC,placeC,objCells]
  refine kD_ev e131 (by simp [histC,placeC]) rfl (by simp [histC,placeC]) ?_
  generalize ownAt g (i:Int) (j:Int)=ow at *
  cases hw:o.w
  ·simp [objCells,hi,hj,idx_slOf txnC_len,idx_slOf opC_len,hl3,hlw,hw]
   refine kS_ev e132 (by simp [histC,placeC]) rfl (by simp [histC,placeC]) ?_
   rw [retA_tupl (by simp [V.plain,valC])]
   simp [valC,objCells,splice]
   exact endV_1 (by simp) (by simp) rfl
  ·simp [objCells,hi,hj,idx_slOf txnC_len,idx_slOf opC_len,hl3,hlw,hw]
   exact endV_1 (by simp) (by simp) rfl
end Go.Pv.T

/- Reads that see what others wrote: the given Outer. -/
namespace Go.Pv.T
open Go Go.Pv
theorem ev89 {g:Hist'} (hs:Small g) (a b:Int):Ev E 89 [.agg (histC g),.agg (placeC (a,b))] (.bool (outerB g a b)):=by
 have e129:=ev129 hs a
 refine Ev_wpK (af:=F89) rfl ?_
 unfold outerB
 cases hop:opAt g a b with
 | none =>
  simp [F89,histC,placeC,objCells]
  refine kS_ev e129 (by simp [histC]) rfl (by simp [histC]) ?_
  rw [retA_plain rfl,wpD_some]
  have hout:b<0∨((opsAt g a).2.length:Int)≤b:=by
   unfold opAt at hop
   unfold opsAt
   by_cases h1:(mayH g && (decide (0≤a) && decide (a<g.ts.length)))=true
   ·rw [if_pos h1]
    simp only [Bool.and_eq_true,decide_eq_true_eq] at h1
    by_cases h2:b<0
    ·exact .inl h2
    ·by_cases h3:b<((g.ts.getD a.toNat ⟨0,0,true,[]⟩).ops.length:Int)
     ·rw [if_pos (by simp only [Bool.and_eq_true,decide_eq_true_eq];exact ⟨h1.1,h1.2.1,h1.2.2,by omega,h3⟩)] at hop
      rw [List.getElem?_eq_none_iff] at hop
      exact absurd hop (by omega)
     ·exact .inr (Int.not_lt.1 h3)
   ·rw [if_neg h1]
    by_cases h2:b<0
    ·exact .inl h2
    ·exact .inr (by simp;omega)
  generalize opsAt g a=oo at *
  by_cases h1:b<0
  ·simp [objCells,h1]
   exact endV_1 (by simp) (by simp) rfl
  ·have h2:(oo.2.length:Int)≤b:=by rcases hout with h | h;exact absurd h h1;exact h
   simp [objCells,h1,h2]
   exact endV_1 (by simp) (by simp) rfl
 | some o =>
  have hmay:mayH g=true:=by
   unfold opAt at hop
   cases hm:mayH g
   ·rw [hm] at hop;cases hop
   ·rfl
  unfold ownAt
  rw [hop]
  obtain ⟨i,j,rfl,rfl,hi,hj,ho⟩:=opAt_some hop
  simp only [Int.toNat_natCast]
  rw [getD_lt hi]
  have hoo:opsAt g (i:Int)=((g.ts[i]).nl,(g.ts[i]).ops):=by
   unfold opsAt
   rw [hmay,if_pos (by simp;omega)]
   simp only [Int.toNat_natCast]
   rw [getD_lt hi]
  rw [hoo] at e129
  have hos:=hs.os _ (List.getElem_mem hi)
  have hlw:((g.ts[i]).ops.flatMap opC)[j * 4]? = some (.bool o.w):=by
   have:=fld_at opC_len (g.ts[i]).ops hj (by decide:0<4)
   rw [Nat.add_zero,ho] at this
   rw [this];rfl
  have hlk:((g.ts[i]).ops.flatMap opC)[j * 4+1]? = some (.int .i64 o.key):=by
   rw [fld_at opC_len (g.ts[i]).ops hj (by decide:1<4),ho];rfl
  have n1:decide ((j:Int)<0)=false:=by simp
  have n2:decide (((g.ts[i]).ops.length:Int)≤j)=false:=by simp;omega
  have n3:((g.ts[i]).ops.length≤j)=False:=by simp;omega
  have n4:(((g.ts[i]).ops.length:Int)≤j)=False:=by simp;omega
  have hle:j≤(g.ts[i]).ops.length:=by omega
  have hsl:slSlV 4 none (some (.int .i64 (j:Int))) (slOf (g.ts[i]).nl opC (g.ts[i]).ops)=some (slOf (g.ts[i]).nl opC ((g.ts[i]).ops.take j)):=by
   have h1:=slSl_to (kk:=.i64) (t:=none) (nl:=(g.ts[i]).nl) (sz:=4) (cs:=(g.ts[i]).ops.flatMap opC) (n:=(g.ts[i]).ops.length) (k:=j) hle (flatMap_len opC_len _)
   refine Eq.trans h1 ?_
   have h2:((g.ts[i]).ops.flatMap opC).take (j * 4)=((g.ts[i]).ops.take j).flatMap opC:=by
    conv=>lhs;rw [← List.take_append_drop j (g.ts[i]).ops,List.flatMap_append]
    rw [List.take_left']
    rw [flatMap_len opC_len,List.length_take,Nat.min_eq_left hle]
   rw [h2,slOf,List.length_take,Nat.min_eq_left hle]
  have e130:=ev130 (g.ts[i]).nl ((g.ts[i]).ops.take j) (by rw [List.length_take];omega) o.key
  have hlast:(lastW ((g.ts[i]).ops.take j) o.key).2=(rawTo o.key (g.ts[i]).ops j).2:=by
   unfold lastW
   rw [rawTo_any _ _ _ (Nat.le_refl _),rawTo_any _ _ _ hle,List.take_length]
  simp [F89,histC,placeC,objCells]
  refine kS_ev e129 (by simp [histC]) rfl (by simp [histC]) ?_
  rw [retA_plain rfl,wpD_some]
  cases hw:o.w
  ·simp [objCells,n1,n4,hj,idx_slOf opC_len,hlw,hw]
   simp [hsl,hlk,hj,idx_slOf opC_len,objCells]
   refine kD_ev e130 (by simp) rfl (by simp) ?_
   rw [retA_tupl (by simp [V.plain,valC])]
   rw [← hlast]
   generalize lastW ((g.ts[i]).ops.take j) o.key=lw at *
   simp [valC,objCells,splice]
   refine ⟨by simp [drawOk,indep,disj,fpOf,rdOb,rdTk,lOf,Delta.wo,Delta.wt];try decide,?_⟩
   exact endV_1 (by simp) (by simp) rfl
  ·simp [objCells,n1,n4,hj,idx_slOf opC_len,hlw,hw]
   exact endV_1 (by simp) (by simp) rfl
end Go.Pv.T

/- The reads that count: the reference's list. -/
namespace Go.Pv.T
open Go Go.Pv
end Go.Pv.T

/- The reads that count: the given list. -/
namespace Go.Pv.T
open Go Go.Pv
end Go.Pv.T

/- The reads that count: the given list's walk. -/
namespace Go.Pv.T
open Go Go.Pv
end Go.Pv.T

/- The choices: lists of lists. -/
namespace Go.Pv.T
open Go Go.Pv
section
variable {E:Env} {st:St} {ub:Nat} {K:List FP→St→Prop} {d:Option Nat} {nm:Bool} {r:List AOpr}
end
def lstC (x:Bool × List Int):List V:=[.sl none x.1 x.2.length (x.2.flatMap intC)]
@[simp] theorem lstC_len (x:Bool × List Int):(lstC x).length=1:=rfl
end Go.Pv.T

/- Bad reads of a transaction: the given list. -/
namespace Go.Pv.T
open Go Go.Pv
def badO (ops:List Op') (k:Nat) (o:Op'):Bool:=!o.w && ((o.v.kind != 2) && ((rawTo o.key ops k).2 && !(((rawTo o.key ops k).1.kind == o.v.kind) && ((rawTo o.key ops k).1.n == o.v.n))))
def badTo (ops:List Op'):Nat→List Int
 | 0=>[]
 | k+1=>badTo ops k++(match ops[k]? with | some o=>if badO ops k o then [(k:Int)] else [] | none=>[])
theorem badTo_succ {ops:List Op'} {k:Nat} (h:k<ops.length):badTo ops (k+1)=badTo ops k++if badO ops k ops[k] then [(k:Int)] else []:=by simp [badTo,List.getElem?_eq_getElem h]
theorem badTo_len (ops:List Op'):∀ k,(badTo ops k).length≤k
 | 0=>by simp [badTo]
 | k+1=>by
  have:=badTo_len ops k
  simp only [badTo,List.length_append]
  split
  ·split <;> simp <;> omega
  ·simp;omega
def badH (g:Hist') (i:Int):List Int:=badTo (opsAt g i).2 (opsAt g i).2.length
theorem rawTo_take (key:Int) (ops:List Op') (k:Nat):∀ j,j≤k→rawTo key (ops.take k) j=rawTo key ops j
 | 0,_=>rfl
 | j+1,h=>by
  simp only [rawTo,rawTo_take key ops k j (by omega),List.getElem?_take_of_lt (show j<k by omega)]
theorem lastW_take (key:Int) (ops:List Op') {k:Nat} (h:k≤ops.length):lastW (ops.take k) key=rawTo key ops k:=by
 unfold lastW
 rw [List.length_take,Nat.min_eq_left h,rawTo_take key ops k k (Nat.le_refl _)]
theorem take_opsK {nl:Bool} {ops:List Op'} {k:Nat} (h:k≤ops.length):slSlV 4 none (some (.int .i64 (k:Int))) (slOf nl opC ops)=some (slOf nl opC (ops.take k)):=by
 have h1:=slSl_to (kk:=.i64) (t:=none) (nl:=nl) (sz:=4) (cs:=ops.flatMap opC) (n:=ops.length) (k:=k) h (flatMap_len opC_len _)
 refine Eq.trans h1 ?_
 have h2:(ops.flatMap opC).take (k * 4)=(ops.take k).flatMap opC:=by
  conv=>lhs;rw [← List.take_append_drop k ops,List.flatMap_append]
  rw [List.take_left']
  rw [flatMap_len opC_len,List.length_take,Nat.min_eq_left h]
 rw [h2,slOf,List.length_take,Nat.min_eq_left h]
set_option maxRecDepth 100000 in
theorem ev176 {g:Hist'} (hs:Small g) (i:Int):∃ v,Ev E 176 [.agg (histC g),.int .i64 i] v∧SlR v (badH g i).isEmpty (badH g i).length ((badH g i).flatMap intC):=by
 have e129:=ev129 hs i
 have hol:=opsAt_len hs i
 unfold badH
 refine Ev_wpE (af:=F176) rfl (by decide) ?_
 generalize opsAt g i=oo at *
 obtain ⟨nl,ops⟩:=oo
 simp only at e129 hol ⊢
 simp [F176,histC,objCells]
 refine kS_ev e129 (by simp [histC]) rfl (by simp [histC]) ?_
 rw [retA_plain rfl,wpD_some]
 simp
 refine wp_loopUp [(5,5),(7,10),(16,49)] ops.length (fun k s=>s.tm 16 = .int .i64 k∧Grow s.tk 0 s.nx intC 1 (badTo ops k) (s.tm 5)) rfl rfl ⟨by simp,by simp [badTo];exact Grow.nil _ _ _ _ _⟩ ?_
 rintro k s hk ⟨h16,hG⟩ f
 have f6:s.tm 6=slOf nl opC ops:=by rw [f.t 6 (by simp)];simp
 have f14:s.tm 14=slOf nl opC ops:=by rw [f.t 14 (by simp)];simp
 have f15:s.tm 15 = .int .i64 ops.length:=by rw [f.t 15 (by simp)];simp
 have fd:s.df=[]:=by rw [f.d];simp
 have fb:s.fb=0:=by rw [f.b];simp
 have fr:s.ro=0:=by rw [f.r];simp
 clear f
 by_cases hlt:k<ops.length
 ·have hw':=wrapU hlt (by omega)
  have hstep:=badTo_succ hlt
  have hbl:=badTo_len ops k
  obtain ⟨o,ho⟩:∃ o,ops[k]=o:=⟨_,rfl⟩
  have hload:loadV s.ob (some 4) (.eptr (ops.flatMap opC) (k * 4))=some (.agg (opC o)):=by rw [load_slOf opC_len s.ob ops hlt,ho]
  have hsl:=take_opsK (nl:=nl) (ops:=ops) (k:=k) (by omega)
  have e130:=ev130 nl (ops.take k) (by rw [List.length_take];omega) o.key
  rw [lastW_take _ _ (by omega)] at e130
  rw [ho] at hstep
  unfold badO at hstep
  cases hw:o.w
  ·rw [hw] at hstep
   cases hk2:(o.v.kind == 2)
   ·have hne2:(o.v.kind != 2)=true:=by simp only [bne,hk2,Bool.not_false]
    rw [hne2] at hstep
    simp only [Bool.not_false,Bool.true_and] at hstep
    simp [h16,f6,f14,f15,hlt,idx_slOf opC_len,hload,objCells,opC,splice,fb,fr,hw,hk2,hsl]
    refine kD_ev e130 (by simp) rfl (by simp) ?_
    rw [retA_tupl (by simp [V.plain,valC])]
    generalize rawTo o.key ops k=rv at *
    obtain ⟨rv,rb⟩:=rv
    simp only at hstep
    simp [valC,objCells,splice,fb,fr]
    refine ⟨by simp [drawOk,indep,disj,fpOf,rdOb,rdTk,lOf,uOf,Delta.wo,Delta.wt];try decide,?_⟩
    cases rb
    ·simp [h16,hw']
     simp only [Bool.false_and,Bool.false_eq_true,if_false,List.append_nil] at hstep
     rw [hstep]
     exact ⟨hlt,hG.mono (fun u _ hu h=>by simpa [app_tk0] using h) (by omega)⟩
    ·cases heq:((rv.kind == o.v.kind) && (rv.n == o.v.n))
     ·rw [heq] at hstep
      simp only [Bool.true_and,Bool.not_false,if_true] at hstep
      simp [objCells,heq]
      refine kS_buildSl (cs:=intC k) (by simp [splice,intC]) rfl rfl ?_
      simp
      refine kS_appendG (f:=intC) (lo:=0) (hi:=s.nx) (l:=badTo ops k) (a:=(k:Int)) (v:=s.tm 5) (hG.mono (fun u _ _ h=>by simp [app_tk,app_tk0,h]) (Nat.le_refl _)) (by simp) (by simp [slCells,intC]) intC_len (by decide) rfl (by omega) (by omega) (fun del hdel=>?_)
      have hlen:(badTo ops k).length+1=(badTo ops (k+1)).length:=by rw [hstep];simp
      have hne:badTo ops (k+1)≠[]:=by rw [hstep];simp
      rw [← hstep,hlen]
      obtain ⟨M,hM⟩:∃ M,badTo ops (k+1)=M:=⟨_,rfl⟩
      rw [hM] at hne ⊢
      simp [h16,hw',hM]
      exact ⟨hlt,.inr ⟨hne,_,rfl,by simp [app_tk],Nat.zero_le _,by omega⟩⟩
     ·rw [heq] at hstep
      simp only [Bool.true_and,Bool.not_true,Bool.false_eq_true,if_false,List.append_nil] at hstep
      simp [objCells,heq,h16,hw']
      rw [hstep]
      exact ⟨hlt,hG.mono (fun u _ hu h=>by simpa [app_tk0] using h) (by omega)⟩
   ·have hne2:(o.v.kind != 2)=false:=by simp only [bne,hk2,Bool.not_true]
    rw [hne2] at hstep
    simp only [Bool.false_and,Bool.and_false,Bool.false_eq_true,if_false,List.append_nil] at hstep
    simp [h16,f6,f14,f15,hlt,idx_slOf opC_len,hload,objCells,opC,splice,fb,fr,hw,hk2,hw']
    rw [hstep]
    exact hG.mono (fun u _ hu h=>by simpa [app_tk0] using h) (by omega)
  ·rw [hw] at hstep
   simp only [Bool.not_true,Bool.false_and,Bool.false_eq_true,if_false,List.append_nil] at hstep
   simp [h16,f6,f14,f15,hlt,idx_slOf opC_len,hload,objCells,opC,splice,fb,fr,hw,hw']
   rw [hstep]
   exact hG.mono (fun u _ hu h=>by simpa [app_tk0] using h) (by omega)
 ·have:k=ops.length:=by omega
  subst this
  obtain ⟨t,ht⟩:=hG.form
  simp [h16,f15]
  exact slE (t:=t) (nl:=(badTo ops ops.length).isEmpty) (k:=(badTo ops ops.length).length) (cs:=(badTo ops ops.length).flatMap intC) (fun r h=>h) (by simp [fd]) (by simp [ht])
end Go.Pv.T

/- Bad reads of a transaction: the reference. -/
namespace Go.Pv.T
open Go Go.Pv
set_option maxRecDepth 100000 in
theorem ev137 {g:Hist'} (hs:Small g) (a:Int):∃ v,Ev E 137 [.agg (histC g),.int .i64 a] v∧SlR v false (badH g a).length ((badH g a).flatMap intC):=by
 have e32:=ev32 hs
 have hts:=hs.ts
 refine Ev_wpE (af:=F137) rfl (by decide) ?_
 obtain ⟨B,hB⟩:∃ B,badH g a=B:=⟨_,rfl⟩
 rw [hB]
 unfold badH opsAt at hB
 have hend:∀ {st:St},st.df=[]→B=[]→(∃ t,st.tm 4 = .sl t false 0 [])→kEndE [.t 4] (fun v=>SlR v false B.length (B.flatMap intC)) .ret st:=by
  rintro st hd rfl ⟨t,ht⟩
  exact slE (t:=t) (nl:=false) (k:=0) (cs:=[]) (fun r h=>h) hd ht
 simp [F137,histC,objCells]
 refine kS_buildSl (cs:=[]) rfl rfl rfl ?_
 simp [objCells]
 refine kS_ev e32 (by simp [histC]) rfl (by simp [histC]) ?_
 cases hm:mayH g
 ·rw [may_bad hm]
  rw [hm] at hB
  simp
  exact hend (by simp) (by simpa [badTo] using hB.symm) ⟨some (128,1),by simp⟩
 rw [hm] at hB
 rw [may_err hm]
 by_cases k1:a<0
 ·rw [if_neg (by simp;omega)] at hB
  simp [k1]
  exact hend (by simp) (by simpa [badTo] using hB.symm) ⟨some (128,1),by simp⟩
 by_cases k2:(g.ts.length:Int)≤a
 ·rw [if_neg (by simp;omega)] at hB
  simp [k1,k2,objCells]
  exact hend (by simp) (by simpa [badTo] using hB.symm) ⟨some (128,1),by simp⟩
 obtain ⟨i,rfl⟩:∃ i:Nat,a=i:=⟨a.toNat,by omega⟩
 have hi:i<g.ts.length:=by omega
 rw [if_pos (by simp;omega)] at hB
 simp only [Int.toNat_natCast] at hB
 rw [getD_lt hi] at hB
 have hos:=hs.os _ (List.getElem_mem hi)
 have hload:=load_slOf txnC_len (fun _=>none) g.ts hi
 obtain ⟨t,ht⟩:∃ t,g.ts[i]=t:=⟨_,rfl⟩
 have hload:∀ ob,loadV ob (some 3) (.eptr (g.ts.flatMap txnC) (i * 3))=some (.agg (txnC t)):=fun ob=>by rw [load_slOf txnC_len ob g.ts hi,ht]
 rw [ht] at hB hos
 clear hend
 obtain ⟨s0,f0,nl,ops⟩:=t
 simp only at hB hos
 have k1':¬ ((i:Int)<0):=by omega
 have k2':¬ ((g.ts.length:Int)≤i):=by omega
 have k2'':¬ (g.ts.length≤i):=by omega
 simp [k1',k2',k2'',objCells,hi,idx_slOf txnC_len,hload,txnC,splice]
 refine wp_loopUp [(5,5),(7,9),(31,83)] ops.length (fun k s=>s.tm 7 = .int .i64 k∧s.ob 12=some ⟨1472,.cells (txnC ⟨s0,f0,nl,ops⟩)⟩∧GrowT s.tk s.nx intC 1 (badTo ops k) (s.tm 5)) rfl rfl ⟨by simp,by simp [txnC],by simp [badTo];exact ⟨128,by simp,by simp [app_tk,app_tk0],by simp⟩⟩ ?_
 rintro k s hk ⟨h7,o12,hG⟩ f
 have f6:s.tm 6 = .ptr 12 1472 0:=by rw [f.t 6 (by simp)];simp
 have fd:s.df=[]:=by rw [f.d];simp
 have fb:s.fb=0:=by rw [f.b];simp
 have fr:s.ro=0:=by rw [f.r];simp
 clear f
 by_cases hlt:k<ops.length
 ·have hw':=wrapU hlt (by omega)
  have hstep:=badTo_succ hlt
  have hbl:=badTo_len ops k
  obtain ⟨o,ho⟩:∃ o,ops[k]=o:=⟨_,rfl⟩
  rw [ho] at hstep
  unfold badO at hstep
  have q0:(ops.flatMap opC)[k * 4]? = some (.bool o.w):=by
   have:=fld_at opC_len ops hlt (by decide:0<4)
   rw [Nat.add_zero,ho] at this
   rw [this];rfl
  have q1:(ops.flatMap opC)[k * 4+1]? = some (.int .i64 o.key):=by rw [fld_at opC_len ops hlt (by decide:1<4),ho];rfl
  have q2:(ops.flatMap opC)[k * 4+2]? = some (.int .i64 o.v.kind):=by rw [fld_at opC_len ops hlt (by decide:2<4),ho];rfl
  have a2:∀ ob,loadV ob (some 2) (.eptr (ops.flatMap opC) (k * 4+2))=some (.agg (valC o.v)):=fun ob=>by
   have:=flatMap_at opC_len ops k hlt
   have h4:=flatMap_len opC_len ops
   simp only [loadV,pick1]
   rw [if_pos (by omega)]
   congr 2
   rw [ho] at this
   have h2:((ops.flatMap opC).drop (k * 4+2)).take 2=((((ops.flatMap opC).drop (k * 4)).take 4).drop 2).take 2:=by
    rw [List.drop_take,List.drop_drop,List.take_take];rfl
   rw [h2,this];rfl
  have e78:=ev78n ⟨s0,f0,nl,ops⟩ (by simp;omega) o.key (n:=k) (by simp;omega)
  simp only at e78
  simp [h7,f6,o12,objCells,txnC,hlt,idx_slOf opC_len,q1]
  refine kD_ev e78 (by simp [txnC]) rfl (by simp [txnC]) ?_
  rw [retA_tupl (by simp [V.plain,valC])]
  generalize rawTo o.key ops k=rv at *
  obtain ⟨rv,rb⟩:=rv
  simp only at hstep
  simp [valC,objCells,splice,fb,fr,o12,txnC]
  refine ⟨by simp [drawOk,indep,disj,fpOf,rdOb,rdTk,lOf,uOf,Delta.wo,Delta.wt,f6];try decide,?_⟩
  cases hw:o.w
  ·rw [hw] at hstep q0
   cases rb
   ·simp only [Bool.false_and,Bool.and_false,Bool.false_eq_true,if_false,List.append_nil] at hstep
    simp [h7,f6,hw',o12,objCells,txnC,hlt,idx_slOf opC_len,q0]
    rw [hstep]
    refine hG.mono (fun u hu h=>?_) (by omega)
    first | exact h | simpa [app_tk0] using h
   ·cases hk2:(o.v.kind == 2)
    ·have hne2:(o.v.kind != 2)=true:=by simp only [bne,hk2,Bool.not_false]
     rw [hne2] at hstep
     simp only [Bool.not_false,Bool.true_and] at hstep
     have a2':=a2
     simp only [valC] at a2'
     cases heq:((rv.kind == o.v.kind) && (rv.n == o.v.n))
     ·rw [heq] at hstep
      have heq':((o.v.kind == rv.kind) && (o.v.n == rv.n))=false:=by rw [← heq,Bool.beq_comm,Bool.beq_comm (a:=o.v.n)]
      simp only [Bool.not_false,if_true] at hstep
      simp [h7,f6,hw',o12,objCells,txnC,hlt,idx_slOf opC_len,q0,q2,hne2,a2',heq']
      refine kS_buildSl (cs:=intC k) (by simp [splice,intC]) rfl rfl ?_
      simp
      refine kS_appendT (f:=intC) (hi:=s.nx) (l:=badTo ops k) (a:=(k:Int)) (v:=s.tm 5) (hG.mono (fun u _ h=>by simp [app_tk,app_tk0,h]) (Nat.le_refl _)) (by simp) (by simp [slCells,intC]) intC_len (by decide) rfl (by omega) (by omega) (fun del hdel=>?_)
      have hlen:(badTo ops k).length+1=(badTo ops (k+1)).length:=by rw [hstep];simp
      rw [← hstep,hlen]
      obtain ⟨M,hM⟩:∃ M,badTo ops (k+1)=M:=⟨_,rfl⟩
      rw [hM]
      simp [h7,hw',o12,txnC,hM]
      exact ⟨hlt,_,rfl,by simp [app_tk],by omega⟩
     ·rw [heq] at hstep
      have heq':((o.v.kind == rv.kind) && (o.v.n == rv.n))=true:=by rw [← heq,Bool.beq_comm,Bool.beq_comm (a:=o.v.n)]
      simp only [Bool.not_true,Bool.false_eq_true,if_false,List.append_nil] at hstep
      simp [h7,f6,hw',o12,objCells,txnC,hlt,idx_slOf opC_len,q0,q2,hne2,a2',heq']
      rw [hstep]
      refine hG.mono (fun u hu h=>?_) (by omega)
      first | exact h | simpa [app_tk0] using h
    ·have hne2:(o.v.kind != 2)=false:=by simp only [bne,hk2,Bool.not_true]
     rw [hne2] at hstep
     simp only [Bool.false_and,Bool.and_false,Bool.false_eq_true,if_false,List.append_nil] at hstep
     simp [h7,f6,hw',o12,objCells,txnC,hlt,idx_slOf opC_len,q0,q2,hne2]
     rw [hstep]
     refine hG.mono (fun u hu h=>?_) (by omega)
     first | exact h | simpa [app_tk0] using h
  ·rw [hw] at hstep q0
   simp only [Bool.not_true,Bool.false_and,Bool.false_eq_true,if_false,List.append_nil] at hstep
   simp [h7,f6,hw',o12,objCells,txnC,hlt,idx_slOf opC_len,q0]
   rw [hstep]
   refine hG.mono (fun u hu h=>?_) (by omega)
   first | exact h | simpa [app_tk0] using h
 ·have:k=ops.length:=by omega
  subst this
  rw [hB] at hG
  obtain ⟨u,hu,_,_⟩:=hG
  simp [h7,f6,o12,objCells,txnC]
  exact slE (t:=some (u,1)) (nl:=false) (k:=B.length) (cs:=B.flatMap intC) (fun r h=>h) (by simp [fd]) (by simp [hu])
end Go.Pv.T

/- The knower: what it has learned; learning. -/
namespace Go.Pv.T
open Go Go.Pv
structure KnS where
 m:List (Int × Int)
 n:List (Int × Int)
 hop:Bool
 more:Bool
structure Kn (g:Hist') (uK um un:Nat) (s:KnS) (ob:Nat→Option Obj') (ub:Nat):Prop where
 lt:um<un∧un<uK∧uK<ub
 k:ob (2 * uK+1)=some ⟨uK,.cells [slOf g.sn strC g.ss,slOf g.kn strC g.ks,slOf g.tn txnC g.ts,.map (2 * um+1) um,.map (2 * un+1) un,.bool s.hop,.bool s.more]⟩
 m:∃ ver,ob (2 * um+1)=some ⟨um,.mp ver (MP intV s.m)⟩
 n:∃ ver,ob (2 * un+1)=some ⟨un,.mp ver (MP intV s.n)⟩
def KnP (g:Hist') (uK um un:Nat) (s':KnS) (ob:Nat→Option Obj') (ub:Nat) (r:V × (Nat→Option Obj') × (Nat→Bool) × Nat):Prop :=
 Kn g uK um un s' r.2.1 r.2.2.2∧(∀ key,key≠2 * uK+1→key≠2 * um+1→key≠2 * un+1→(∀ m,ub≤m→key≠2 * m+1)→r.2.1 key=ob key)∧ub≤r.2.2.2
def KnS.learnM (s:KnS) (t:Int):KnS:=if mcnt s.m t=0 then { s with m:=mset s.m t 1,more:=true } else s
def KnS.learnN (s:KnS) (t:Int):KnS:=if mcnt s.n t=0 then { s with n:=mset s.n t 1,more:=true } else s
theorem sv179m {Yf:YF} {g:Hist'} {uK um un:Nat} {s:KnS} {t:Int} {ob:Nat→Option Obj'} {tk:Nat→Bool} {ro base ub:Nat} (hK:Kn g uK um un s ob ub) (hro:ro≤um) :
 ∃ r,EvS E Yf.y 179 [.ptr (2 * uK+1) uK 0,.map (2 * um+1) um,.int .i64 t] ob tk ro base ub r∧KnP g uK um un (s.learnM t) ob ub r:=by
 obtain ⟨⟨l1,l2,l3⟩,hk,⟨vm,hm⟩,⟨vn,hn⟩⟩:=hK
 refine EvS_wp (af:=S179) rfl (by decide) ?_
 show wpC E Yf S179.body _ (kEndS S179.res _)
 have hmo:objMap ob (2 * um+1) um=some (MP intV s.m):=by simp [objMap,hm]
 have hlk:=lookupV_MI (k:=t) s.m hmo
 unfold KnS.learnM
 simp [S179,hlk]
 by_cases h0:mcnt s.m t=0
 ·have w1:IntKind.i64.wrap 1=1:=by decide
  simp [h0,hlk,w1]
  refine kS_mapSet (f:=intV) (l:=2 * um+1) (u:=um) (ver:=vm) (k:=t) (a:=1) s.m (by simp) (by simp) (by simp [V.strip,intV]) (by simpa using hm) (by simpa using hro) ?_
  have n1:¬ 2 * uK=2 * um:=by omega
  have n2:¬ 2 * un=2 * um:=by omega
  have n3:¬ 2 * um=2 * uK:=by omega
  have n4:¬ 2 * un=2 * uK:=by omega
  have n5:ro≤uK:=by omega
  simp [objCells,hk,n1,n5,splice]
  refine endS_nil (.inl rfl) (by simp) ⟨⟨⟨l1,l2,by simp;omega⟩,by simp,⟨vm+1,by simp [n3]⟩,⟨vn,by simp [n2,n4,hn]⟩⟩,fun key h1 h2 h3 h4=>by simp [h1,h2],by simp;omega⟩
 ·have h0':(mcnt s.m t == 0)=false:=by simpa using h0
  simp [h0,h0']
  exact endS_nil (.inl rfl) (by simp) ⟨⟨⟨l1,l2,by simp;omega⟩,hk,⟨vm,hm⟩,⟨vn,hn⟩⟩,fun key h1 h2 h3 h4=>rfl,by simp;omega⟩
theorem sv179n {Yf:YF} {g:Hist'} {uK um un:Nat} {s:KnS} {t:Int} {ob:Nat→Option Obj'} {tk:Nat→Bool} {ro base ub:Nat} (hK:Kn g uK um un s ob ub) (hro:ro≤um) :
 ∃ r,EvS E Yf.y 179 [.ptr (2 * uK+1) uK 0,.map (2 * un+1) un,.int .i64 t] ob tk ro base ub r∧KnP g uK um un (s.learnN t) ob ub r:=by
 obtain ⟨⟨l1,l2,l3⟩,hk,⟨vm,hm⟩,⟨vn,hn⟩⟩:=hK
 refine EvS_wp (af:=S179) rfl (by decide) ?_
 show wpC E Yf S179.body _ (kEndS S179.res _)
 have hmo:objMap ob (2 * un+1) un=some (MP intV s.n):=by simp [objMap,hn]
 have hlk:=lookupV_MI (k:=t) s.n hmo
 unfold KnS.learnN
 simp [S179,hlk]
 by_cases h0:mcnt s.n t=0
 ·have w1:IntKind.i64.wrap 1=1:=by decide
  have n0:ro≤un:=by omega
  simp [h0,hlk,w1]
  refine kS_mapSet (f:=intV) (l:=2 * un+1) (u:=un) (ver:=vn) (k:=t) (a:=1) s.n (by simp) (by simp) (by simp [V.strip,intV]) (by simpa using hn) (by simpa using n0) ?_
  have n1:¬ 2 * uK=2 * un:=by omega
  have n2:¬ 2 * um=2 * un:=by omega
  have n3:¬ 2 * un=2 * uK:=by omega
  have n4:¬ 2 * um=2 * uK:=by omega
  have n5:ro≤uK:=by omega
  simp [objCells,hk,n1,n5,splice]
  refine endS_nil (.inl rfl) (by simp) ⟨⟨⟨l1,l2,by simp;omega⟩,by simp,⟨vm,by simp [n2,n4,hm]⟩,⟨vn+1,by simp [n3]⟩⟩,fun key h1 h2 h3 h4=>by simp [h1,h3],by simp;omega⟩
 ·have h0':(mcnt s.n t == 0)=false:=by simpa using h0
  simp [h0,h0']
  exact endS_nil (.inl rfl) (by simp) ⟨⟨⟨l1,l2,by simp;omega⟩,hk,⟨vm,hm⟩,⟨vn,hn⟩⟩,fun key h1 h2 h3 h4=>rfl,by simp;omega⟩
end Go.Pv.T

/- The knower: a transaction can't have committed. -/
namespace Go.Pv.T
open Go Go.Pv
def KnS.fails (s:KnS) (f:Int) (t:Int):KnS:=if f=1 then { s with hop:=true } else if f=3 then s.learnN t else s
theorem KnP.mono {g:Hist'} {uK um un:Nat} {s':KnS} {ob ob1:Nat→Option Obj'} {ub ub1:Nat} {r:V × (Nat→Option Obj') × (Nat→Bool) × Nat} (h:KnP g uK um un s' ob1 ub1 r)
 (ho:∀ key,key≠2 * uK+1→key≠2 * um+1→key≠2 * un+1→(∀ m,ub≤m→key≠2 * m+1)→ob1 key=ob key) (hu:ub≤ub1):KnP g uK um un s' ob ub r :=
 ⟨h.1,fun key h1 h2 h3 h4=>(h.2.1 key h1 h2 h3 (fun m hm=>h4 m (by omega))).trans (ho key h1 h2 h3 h4),Nat.le_trans hu h.2.2⟩
theorem Kn.up {g:Hist'} {uK um un:Nat} {s:KnS} {ob ob1:Nat→Option Obj'} {ub ub1:Nat} (h:Kn g uK um un s ob ub) (ho:ob1=ob) (hu:ub≤ub1):Kn g uK um un s ob1 ub1 :=
 ⟨⟨h.lt.1,h.lt.2.1,Nat.lt_of_lt_of_le h.lt.2.2 hu⟩,by rw [ho];exact h.k,by rw [ho];exact h.m,by rw [ho];exact h.n⟩
theorem sv177 {Yf:YF} {g:Hist'} {uK um un:Nat} {s:KnS} {i:Nat} (hi:i<g.ts.length) {ob:Nat→Option Obj'} {tk:Nat→Bool} {ro base ub:Nat} (hK:Kn g uK um un s ob ub) (hro:ro≤um) :
 ∃ r,EvS E Yf.y 177 [.ptr (2 * uK+1) uK 0,.int .i64 (i:Int)] ob tk ro base ub r∧KnP g uK um un (s.fails (g.ts[i]).f i) ob ub r:=by
 have hK':=hK
 obtain ⟨⟨l1,l2,l3⟩,hk,⟨vm,hm⟩,⟨vn,hn⟩⟩:=hK
 refine EvS_wp (af:=S177) rfl (by decide) ?_
 show wpC E Yf S177.body _ (kEndS S177.res _)
 obtain ⟨f,hf⟩:∃ f,(g.ts[i]).f=f:=⟨_,rfl⟩
 have hlf:(g.ts.flatMap txnC)[i * 3+1]? = some (.int .i64 f):=by rw [fld_at txnC_len g.ts hi (by decide:1<3),← hf];rfl
 rw [hf]
 have n5:ro≤uK:=by omega
 unfold KnS.fails
 simp [S177,objCells,hk,hi,idx_slOf txnC_len,hlf]
 by_cases h1:f=1
 ·have n1:¬ 2 * um=2 * uK:=by omega
  have n2:¬ 2 * un=2 * uK:=by omega
  simp [h1,hk,n5,objCells,splice]
  refine endS_nil (.inl rfl) (by simp) ⟨⟨⟨l1,l2,by simp;omega⟩,by simp,⟨vm,by simp [n1,hm]⟩,⟨vn,by simp [n2,hn]⟩⟩,fun key k1 k2 k3 k4=>by simp [k1],by simp;omega⟩
 ·by_cases h3:f=3
  ·simp [h3,hk,objCells]
   refine kS_callP (vs:=[.ptr (2 * uK+1) uK 0,.map (2 * un+1) un,.int .i64 (i:Int)]) (by simp) rfl (sv179n (g:=g) (uK:=uK) (um:=um) (un:=un) (s:=s) (hK'.up (by simp) (by omega)) (by simpa using hro)) ?_
   rintro v ob1 tk1 ub1 hP
   simp
   refine endS_nil (.inl rfl) (by simp) ?_
   refine hP.mono (fun _ _ _ _ _=>?_) ?_
   ·simp
   ·omega
  ·have e1:(f == 1)=false:=by simpa using h1
   have e3:(f == 3)=false:=by simpa using h3
   simp [h1,h3,e1,e3]
   exact endS_nil (.inl rfl) (by simp) ⟨⟨⟨l1,l2,by simp;omega⟩,hk,⟨vm,hm⟩,⟨vn,hn⟩⟩,fun key k1 k2 k3 k4=>rfl,by simp;omega⟩
end Go.Pv.T

/- The knower: who is left; deleting from a slice. -/
namespace Go.Pv.T
open Go Go.Pv
theorem kS_callVQ {Yf:YF} {f:FuncId} {q:A} {xs:List A} {st:St} {ub:Nat} {K:St→Nat→Prop} {d:Option Nat} {nm:Bool} {first captured vs:List V} {P:V × (Nat→Option Obj') × (Nat→Bool) × Nat→Prop}
 (hq:eval E st.tm q = .fn (.func f) first captured) (hx:first++xs.map (eval E st.tm)++captured=vs) (hs:E.sh nm f=true)
 (he:∃ r,EvS E Yf.y f vs st.ob st.tk st.ro ((st.fb+d.getD 0+1) * 1024) ub r∧P r) (h:∀ v ob' tk' ub',P (v,ob',tk',ub')→K (retS st d v ob' tk') ub'):wpStep E Yf ⟨d,.callV q xs,none,nm⟩ st ub K:=by
 have hsh:sharedCall E nm (eval E st.tm) (.callV q xs)=some (f,vs):=by simp only [sharedCall,hq,hs,hx,Bool.not_true,Bool.false_and,Bool.false_eq_true,if_false]
 simp only [wpStep,wanted,yieldCall,hq,hsh]
 obtain ⟨r,hr,hP⟩:=he
 exact .inl ⟨hs,r,hr,h r.1 r.2.1 r.2.2.1 r.2.2.2 hP⟩
def PredAt (g:FuncId) (cap:V) (p:Int→Bool) (ob:Nat→Option Obj'):Prop:=∀ (Yf:YF) (x:Int) (tk:Nat→Bool) (ro base ub:Nat),∃ r,EvS E Yf.y g [.int .i64 x,cap] ob tk ro base ub r∧(r.1 = .bool (p x)∧r.2.1=ob∧r.2.2.1=tk∧ub≤r.2.2.2)
theorem kS_callPred {Yf:YF} {q x:A} {st:St} {ub:Nat} {K:St→Nat→Prop} {d:Option Nat} {nm:Bool} {g:FuncId} {cap:V} {p:Int→Bool} {ob0:Nat→Option Obj'} {k:Int} (hp:PredAt g cap p ob0) (hob:st.ob=ob0) (hq:eval E st.tm q = .fn (.func g) [] [cap]) (hx:eval E st.tm x = .int .i64 k)
 (hs:E.sh nm g=true) (h:∀ ub',ub≤ub'→K (retS st d (.bool (p k)) ob0 st.tk) ub'):wpStep E Yf ⟨d,.callV q [x],none,nm⟩ st ub K:=by
 refine kS_callVQ (f:=g) (first:=[]) (captured:=[cap]) (vs:=[.int .i64 k,cap]) hq (by simp [hx]) hs (by rw [hob];exact hp Yf k st.tk st.ro _ ub) ?_
 rintro v ob1 tk1 ub1 ⟨h1,h2,h3,h4⟩
 simp only at h1 h2 h3 h4
 subst h1 h2 h3
 exact h ub1 h4
theorem pred218 {g:Hist'} {uK um un:Nat} {s:KnS} {ob:Nat→Option Obj'} {lb ub0:Nat} (hk:ob (2 * uK+1)=some ⟨uK,.cells [slOf g.sn strC g.ss,slOf g.kn strC g.ks,slOf g.tn txnC g.ts,.map (2 * um+1) um,.map (2 * un+1) un,.bool s.hop,.bool s.more]⟩)
 (hn:∃ ver,ob (2 * un+1)=some ⟨un,.mp ver (MP intV s.n)⟩) (hb:ob lb=some ⟨ub0,.cells [.ptr (2 * uK+1) uK 0]⟩):PredAt 218 (.ptr lb ub0 0) (fun t=>decide (0<mcnt s.n t)) ob:=by
 intro Yf x tk ro base ub
 obtain ⟨vn,hn⟩:=hn
 refine EvS_wp (af:=S218) rfl (by decide) ?_
 show wpC E Yf S218.body _ (kEndS S218.res _)
 have hno:objMap ob (2 * un+1) un=some (MP intV s.n):=by simp [objMap,hn]
 have hlk:=lookupV_MI (k:=x) s.n hno
 simp [S218,objCells,hb,hk,hlk]
 exact endS_1 (by simp) ⟨by simp,by simp,by simp,by simp;omega⟩
theorem pred135 {m:List (Int × Int)} {ob:Nat→Option Obj'} {lb ub0 lm um:Nat} (hn:∃ ver,ob lm=some ⟨um,.mp ver (MP intV m)⟩) (hb:ob lb=some ⟨ub0,.cells [.map lm um]⟩):PredAt 135 (.ptr lb ub0 0) (fun t=>mcnt m t == 0) ob:=by
 intro Yf x tk ro base ub
 obtain ⟨vn,hn⟩:=hn
 refine EvS_wp (af:=S135) rfl (by decide) ?_
 show wpC E Yf S135.body _ (kEndS S135.res _)
 have hno:objMap ob lm um=some (MP intV m):=by simp [objMap,hn]
 have hlk:=lookupV_MI (k:=x) m hno
 simp [S135,objCells,hb,hlk]
 exact endS_1 (by simp) ⟨by simp,by simp,by simp,by simp;omega⟩
def OwnI (ob:Nat→Option Obj') (v:V) (l:List Int):Prop:=(v = .sl none true 0 []∧l=[])∨∃ L u cs,v = .osl L u 0 l.length 1∧ob L=some ⟨u,.cells cs⟩∧l.length≤cs.length∧cs.take l.length=l.flatMap intC
theorem OwnI.at {l:List Int} {cs:List V} (ht:cs.take l.length=l.flatMap intC) {i:Nat} (h:i<l.length):cs[i]? = some (.int .i64 l[i]):=by
 have h1:=int_at l h
 rw [← ht,List.getElem?_take_of_lt h] at h1
 exact h1
theorem evo106 {p:Int→Bool} {g:FuncId} {cap:V} {ob:Nat→Option Obj'} (hs:E.sh true g=true) (hp:PredAt g cap p ob) {L u:Nat} {l:List Int} {cs:List V} (ho:ob L=some ⟨u,.cells cs⟩) (ht:cs.take l.length=l.flatMap intC) (hl:l.length≤1000000) (tk:Nat→Bool) (base ub:Nat) :
 EvO E 106 [.osl L u 0 l.length 1,.fn (.func g) [] [cap]] ob tk base ub (.int .i64 (firstI p l)):=by
 refine EvO_wpK (af:=S106) rfl ?_
 simp [S106]
 refine wp_loopK (n:=l.length) (fun k s=>∃ i,k=l.length - i∧i≤l.length∧s.df=[]∧s.ob=ob∧s.tm 0 = .osl L u 0 l.length 1∧s.tm 1 = .fn (.func g) [] [cap]∧s.tm 7 = .int .i64 l.length∧s.tm 8 = .int .i64 i∧∀ j (hj:j<l.length),j<i→p l[j]=false)
  ⟨0,by simp⟩ ?_
 rintro k s ⟨i,rfl,hi,hd,hob,h0,h1,h7,h8,hb⟩
 by_cases hlt:i<l.length
 ·have hio:=idxN (l:=L) (u:=u) (n:=l.length) (kk:=.i64) (X:=(i:Int)) rfl hlt
  have hci:=OwnI.at ht hlt
  simp [h0,h1,h7,h8,hlt,hio,objCells,hob,ho,hci]
  refine kS_callPred hp (by simpa using hob) (by simp [h1]) (k:=l[i]) (by simp) hs fun ub1 hub=>?_
  cases hpi:p l[i]
  ·simp [h0,h1,h7,h8,hd]
   refine ⟨l.length - (i+1),by omega,i+1,rfl,by omega,by rw [wrap64' (by omega) (by omega)];simp,?_⟩
   ·intro j hj hji
    rcases Nat.lt_succ_iff_lt_or_eq.1 hji with h | rfl
    ·exact hb j hj h
    ·exact hpi
  ·simp
   refine endV_1 (by simpa using hd) ?_ rfl
   simp
   rw [firstI_found hlt hpi hb]
 ·have:i=l.length:=by omega
  subst this
  simp [h7,h8]
  refine endV_1 (by simpa using hd) ?_ rfl
  simp [firstI_none (fun j hj=>hb j hj hj)]
end Go.Pv.T

/- slices.DeleteFunc on numbers of one's own. -/
namespace Go.Pv.T
open Go Go.Pv
theorem kS_clear {E:Env} {Yf:YF} {st:St} {ub:Nat} {K:St→Nat→Prop} {d:Option Nat} {nm:Bool} {sz l u off n:Nat} {zero cs:List V} {x:A} (hx:eval E st.tm x = .osl l u off n sz) (ho:st.ob l=some ⟨u,.cells cs⟩) (hro:st.ro≤u) (hz:zero.length=sz) (hn:off+n * sz≤cs.length)
 (h:kApp K st d ub { v:=none',obs:=[(l,⟨u,.cells (splice cs off (repl n zero))⟩)] }):wpStep E Yf ⟨d,.clear sz zero x,none,nm⟩ st ub K:=by
 have hoc:objCells st.ob l u=some cs:=by simp [objCells,ho]
 rw [wpStep_of _ rfl rfl]
 simp only [aop,hx]
 rw [if_pos ⟨Nat.ble_eq ▸ hro,trivial,hz⟩,hoc,Option.bind_some,if_pos hn,wpD_some]
 exact h
theorem slSlO_from {L u n i:Nat} (h:i≤n):slSlV 1 (some (.int .i64 (i:Int))) none (.osl L u 0 n 1)=some (.osl L u i (n - i) 1):=by
 have h':(i:Int)≤n:=by omega
 simp [slSlV,bounds,h']
 omega
theorem slSlO_to {L u n i:Nat} (h:i≤n):slSlV 1 none (some (.int .i64 (i:Int))) (.osl L u 0 n 1)=some (.osl L u 0 i 1):=by
 have h':(i:Int)≤n:=by omega
 simp [slSlV,bounds,h']
theorem evo106n {g:FuncId} {cap:V} {ob:Nat→Option Obj'} (tk:Nat→Bool) (base ub:Nat):EvO E 106 [.sl none true 0 [],.fn (.func g) [] [cap]] ob tk base ub (.int .i64 (-1)):=by
 refine EvO_wpK (af:=S106) rfl ?_
 simp [S106]
 refine wp_unroll 1 ?_
 simp
 exact endV_1 rfl (by simp) rfl
theorem filter_all {p:Int→Bool} {l:List Int} (h:l.findIdx? p=none):l.filter (fun x=>!p x)=l:=by
 rw [List.filter_eq_self]
 intro x hx
 have:=List.findIdx?_eq_none_iff.1 h x hx
 simp [this]
theorem take_ints':∀ (l:List Int) (n:Nat),(l.flatMap intC).take n=(l.take n).flatMap intC
 | [],n=>by simp
 | a::l,0=>by simp
 | a::l,n+1=>by
  have:=take_ints' l n
  simp only [List.flatMap_cons,intC,List.singleton_append,List.take_succ_cons,this]
def DelP (L u:Nat) (l:List Int) (ob:Nat→Option Obj') (tk:Nat→Bool) (ub:Nat) (r:V × (Nat→Option Obj') × (Nat→Bool) × Nat):Prop :=
 OwnI r.2.1 r.1 l∧(∀ key,key≠L→r.2.1 key=ob key)∧r.2.2.1=tk∧ub≤r.2.2.2∧(r.1 = .sl none true 0 []∨∃ n,r.1 = .osl L u 0 n 1)
theorem sv134n {Yf:YF} {g:FuncId} {a b c:Nat} {ob:Nat→Option Obj'} {tk:Nat→Bool} {ro base ub L u:Nat}:∃ r,EvS E Yf.y 134 [.sl none true 0 [],.fn (.func g) [] [.ptr a b c]] ob tk ro base ub r∧DelP L u [] ob tk ub r:=by
 refine EvS_wp (af:=S134) rfl (by decide) ?_
 show wpC E Yf S134.body _ (kEndS S134.res _)
 simp [S134]
 refine kS_callO (vs:=[.sl none true 0 [],.fn (.func g) [] [.ptr a b c]]) (by simp) rfl rfl (evo106n _ _ _) ?_
 simp
 refine endS_1 (by simp) ⟨.inl ⟨by simp,rfl⟩,fun key h=>by simp,by simp,by simp;omega,.inl (by simp)⟩
def keptI (p:Int→Bool) (l:List Int) (j:Nat):List Int:=(l.take j).filter fun x=>!p x
theorem keptI_succ {p:Int→Bool} {l:List Int} {j:Nat} (h:j<l.length):keptI p l (j+1)=keptI p l j++if p l[j] then [] else [l[j]]:=by
 unfold keptI
 rw [List.take_succ_eq_append_getElem h,List.filter_append]
 cases hp:p l[j] <;> simp [hp]
theorem keptI_le (p:Int→Bool) (l:List Int) (j:Nat):(keptI p l j).length≤j:=by
 unfold keptI
 have:=List.length_filter_le (fun x=>!p x) (l.take j)
 rw [List.length_take] at this
 omega
set_option maxRecDepth 100000 in
theorem sv134 {Yf:YF} {g:FuncId} {a b c:Nat} {p:Int→Bool} (hg:E.sh true g=true) {ob:Nat→Option Obj'} {tk:Nat→Bool} {ro base ub L u:Nat} {l:List Int} (hl:l.length≤1000000) (ho:ob L=some ⟨u,.cells (l.flatMap intC)⟩) (hro:ro≤u)
 (hp:∀ ob':Nat→Option Obj',(∀ key,key≠L→ob' key=ob key)→PredAt g (.ptr a b c) p ob') :
 ∃ r,EvS E Yf.y 134 [.osl L u 0 l.length 1,.fn (.func g) [] [.ptr a b c]] ob tk ro base ub r∧DelP L u (l.filter fun x=>!p x) ob tk ub r:=by
 refine EvS_wp (af:=S134) rfl (by decide) ?_
 show wpC E Yf S134.body _ (kEndS S134.res _)
 have e106:=fun tk base ub=>evo106 (g:=g) (cap:=.ptr a b c) hg (hp ob fun _ _=>rfl) ho (by rw [List.take_of_length_le (by rw [flatMap_len intC_len];omega)]) hl tk base ub
 simp [S134]
 refine kS_callO (vs:=[.osl L u 0 l.length 1,.fn (.func g) [] [.ptr a b c]]) (by simp) rfl rfl (by simpa using e106 _ _ _) ?_
 cases hf:l.findIdx? p with
 | none =>
  have hfi:firstI p l = -1:=by unfold firstI;rw [hf]
  rw [hfi]
  simp
  refine endS_1 (by simp) ⟨.inr ⟨L,u,l.flatMap intC,by simp [filter_all hf],by simpa using ho,?_,?_⟩,fun key h=>by simp,by simp,by simp;omega,.inr ⟨_,by simp;rfl⟩⟩
  ·rw [filter_all hf,flatMap_len intC_len];omega
  ·rw [filter_all hf,List.take_of_length_le (by rw [flatMap_len intC_len];omega)]
 | some i0 =>
  have hfi:firstI p l=(i0:Int):=by unfold firstI;rw [hf]
  rw [hfi]
  obtain ⟨hi0,hpi,hbef⟩:=List.findIdx?_eq_some_iff_getElem.1 hf
  have hne:((i0:Int) == -1)=false:=by simp
  have hw0:=wrapU hi0 (by omega)
  have hk0:keptI p l (i0+1)=l.take i0:=by
   rw [keptI_succ hi0,hpi]
   simp only [if_true,List.append_nil]
   unfold keptI
   rw [List.filter_eq_self]
   intro x hx
   obtain ⟨j,hj,rfl⟩:=List.mem_iff_getElem.1 hx
   rw [List.length_take] at hj
   rw [List.getElem_take]
   have:=hbef j (by omega)
   simpa using this
  simp [hne,hw0]
  refine wp_loopUp [(5,7),(16,35)] (l.length - (i0+1)) (fun k s=>s.tm 6 = .int .i64 ((i0+1+k:Nat):Int)∧s.tm 5 = .int .i64 ((keptI p l (i0+1+k)).length:Int)∧(∃ cs,s.ob L=some ⟨u,.cells cs⟩∧cs.length=l.length∧cs.take (keptI p l (i0+1+k)).length=(keptI p l (i0+1+k)).flatMap intC∧∀ j,i0+1+k≤j→cs[j]? = (l.flatMap intC)[j]?)∧(∀ key,key≠L→s.ob key=ob key)∧s.tk=tk∧ub≤s.nx) rfl rfl ⟨by simp,by simp [hk0];omega,⟨l.flatMap intC,by simpa using ho,by rw [flatMap_len intC_len];omega,?_,fun _ _=>rfl⟩,fun key h=>by simp,by simp,by simp;omega⟩ ?_
  ·rw [Nat.add_zero,hk0]
   rw [List.length_take,Nat.min_eq_left (by omega),take_ints']
  rintro k s hk ⟨h6,h5,⟨cs,hcs,hlen,htk,hrest⟩,hoth,hst,hnx⟩ f
  have f0:s.tm 0 = .osl L u 0 l.length 1:=by rw [f.t 0 (by simp)];simp
  have f1:s.tm 1 = .fn (.func g) [] [.ptr a b c]:=by rw [f.t 1 (by simp)];simp
  have fd:s.df=[]:=by rw [f.d];simp
  have fr:s.ro=ro:=by rw [f.r];simp
  clear f
  have hkl:=keptI_le p l (i0+1+k)
  by_cases hlt:k<l.length - (i0+1)
  ·have hj:i0+1+k<l.length:=by omega
   obtain ⟨j,hjj⟩:∃ j,i0+1+k=j:=⟨_,rfl⟩
   rw [hjj] at h6 h5 htk hrest hj hkl
   have hjn:i0+1+(k+1)=j+1:=by omega
   have hw':=wrapU (i:=j) (N:=l.length) hj (by omega)
   have hstep:=keptI_succ (p:=p) hj
   have hcj:cs[j]? = some (.int .i64 l[j]):=by rw [hrest j (Nat.le_refl _),int_at l hj]
   have hio:=idxN (l:=L) (u:=u) (n:=l.length) (kk:=.i64) (X:=(j:Int)) rfl hj
   have hjl:(j:Int)<l.length:=by omega
   simp [h6,f0,f1,hjl,hio,objCells,hcs,hcj]
   refine kS_callPred (hp s.ob hoth) (by simp) (by simp) (k:=l[j]) (by simp) hg fun ub1 hub=>?_
   cases hpj:p l[j]
   ·rw [hpj] at hstep
    simp only [Bool.false_eq_true,if_false] at hstep
    obtain ⟨i,hii⟩:∃ i,(keptI p l j).length=i:=⟨_,rfl⟩
    rw [hii] at h5 htk hkl
    have hil:i<l.length:=by omega
    have hwi:=wrapU (i:=i) (N:=l.length) hil (by omega)
    have hio2:=idxN (l:=L) (u:=u) (n:=l.length) (kk:=.i64) (X:=(i:Int)) rfl hil
    have hle:i+1≤l.length:=hil
    have hsl:(keptI p l (j+1)).length=i+1:=by rw [hstep,List.length_append,hii];rfl
    simp [h6,h5,f0,hio2,objCells,hcs,fr,hro,hlen,hle,hw',hwi]
    rw [hjn]
    refine ⟨by omega,by omega,by rw [hsl];omega,⟨?_,?_,fun m hm=>?_⟩,fun key h=>by simp [h,hoth],by simp [app_tk0,hst],by omega⟩
    ·unfold splice
     simp only [List.length_append,List.length_take,List.length_drop,List.length_singleton,hlen]
     omega
    ·have hl1:(cs.take i++[V.int .i64 l[j]]).length=i+1:=by rw [List.length_append,List.length_take];simp;omega
     rw [hsl,hstep,List.flatMap_append,← htk]
     unfold splice
     exact List.take_left' hl1
    ·have hs:splice cs i [.int .i64 l[j]]=cs.set i (.int .i64 l[j]):=by
      unfold splice
      rw [List.set_eq_take_append_cons_drop,if_pos (by omega),List.append_assoc]
      rfl
     rw [hs,List.getElem?_set_ne (by omega)]
     exact hrest m (by omega)
   ·rw [hpj] at hstep
    simp only [if_true,List.append_nil] at hstep
    simp [h6,h5,hw']
    rw [hjn,hstep]
    exact ⟨by omega,by omega,rfl,⟨cs,hcs,hlen,htk,fun m hm=>hrest m (by omega)⟩,hoth,by simp [hst],by omega⟩
  ·have hke:i0+1+k=l.length:=by omega
   rw [hke] at h6 h5 htk hrest hkl
   have hall:keptI p l l.length=l.filter fun x=>!p x:=by unfold keptI;rw [List.take_length]
   rw [hall] at h5 htk hkl
   generalize (l.filter fun x=>!p x)=R at *
   have hRl:(R.length:Int)≤l.length:=by omega
   simp [h6,h5,f0,slSlO_from hkl]
   refine kS_clear (l:=L) (u:=u) (off:=R.length) (n:=l.length - R.length) (cs:=cs) (by simp) (by simpa using hcs) (by simp [fr,hro]) rfl (by omega) ?_
   simp [h5,f0,slSlO_to hkl]
   have hl1:(cs.take R.length).length=R.length:=by rw [List.length_take];omega
   refine endS_1 (by simp [fd]) ⟨.inr ⟨L,u,_,by simp,by simp;rfl,?_,?_⟩,fun key h=>by simp [h,hoth],?_,?_,.inr ⟨_,by simp;rfl⟩⟩
   ·unfold splice
    simp only [List.length_append,List.length_take]
    omega
   ·unfold splice
    rw [List.append_assoc]
    rw [List.take_left' hl1]
    exact htk
   ·simp [app_tk0,hst]
   ·simp;omega
end Go.Pv.T

/- The knower: what a transaction tells. -/
namespace Go.Pv.T
open Go Go.Pv
def KnS.left (s:KnS) (g:Hist') (a b:Int):List Int:=(ofH g a b).filter fun t=>!decide (0<mcnt s.n t)
def KnS.op (s:KnS) (g:Hist') (f:Int) (t k:Nat) (o:Op'):KnS :=
 if o.v.kind == 2 || !outerB g t k then s else
 if (s.left g t k).length=0 then s.fails f t else
 if (s.left g t k).length == 1 && (decide (0≤(s.left g t k).headD 0) && decide (0<mcnt s.m t)) then s.learnM ((s.left g t k).headD 0) else s
def KnS.ops (s:KnS) (g:Hist') (f:Int) (t:Nat) (l:List Op'):Nat→KnS
 | 0=>s
 | k+1=>match l[k]? with
  | some o=>(s.ops g f t l k).op g f t k o
  | none=>s.ops g f t l k
def KnS.txn (s:KnS) (g:Hist') (t:Nat) (f:Int) (l:List Op'):KnS:=(if (badH g t).isEmpty then s else s.fails f t).ops g f t l l.length
theorem Kn.keep {g:Hist'} {uK um un:Nat} {s:KnS} {ob ob1:Nat→Option Obj'} {ub ub1:Nat} (h:Kn g uK um un s ob ub) (ho:∀ key,(∀ m,ub≤m→key≠2 * m+1)→ob1 key=ob key) (hu:ub≤ub1):Kn g uK um un s ob1 ub1:=by
 obtain ⟨⟨l1,l2,l3⟩,hk,⟨vm,hm⟩,⟨vn,hn⟩⟩:=h
 exact ⟨⟨l1,l2,by omega⟩,(ho _ fun m h e=>by omega).trans hk,⟨vm,(ho _ fun m h e=>by omega).trans hm⟩,⟨vn,(ho _ fun m h e=>by omega).trans hn⟩⟩
def Aside (uK um un:Nat) (ob:Nat→Option Obj') (ub:Nat) (ob1:Nat→Option Obj'):Prop:=∀ key,key≠2 * uK+1→key≠2 * um+1→key≠2 * un+1→(∀ m,ub≤m→key≠2 * m+1)→ob1 key=ob key
theorem Aside.trans {uK um un:Nat} {ob ob1 ob2:Nat→Option Obj'} {ub ub1:Nat} (h:Aside uK um un ob ub ob1) (h':Aside uK um un ob1 ub1 ob2) (hu:ub≤ub1):Aside uK um un ob ub ob2 :=
 fun key h1 h2 h3 h4=>(h' key h1 h2 h3 fun m hm=>h4 m (by omega)).trans (h key h1 h2 h3 h4)
theorem Aside.new {uK um un:Nat} {ob ob1:Nat→Option Obj'} {ub:Nat} (h:∀ key,(∀ m,ub≤m→key≠2 * m+1)→ob1 key=ob key):Aside uK um un ob ub ob1:=fun key _ _ _ h4=>h key h4
def LeftOk:Prop:=∀ (Yf:YF) (g:Hist') (uK um un:Nat) (s:KnS) (a b:Int) (ob:Nat→Option Obj') (tk:Nat→Bool) (ro base ub:Nat),Small g→Kn g uK um un s ob ub→ro≤um →
 ∃ r,EvS E Yf.y 178 [.ptr (2 * uK+1) uK 0,.agg (placeC (a,b))] ob tk ro base ub r∧(OwnI r.2.1 r.1 (s.left g a b)∧(∀ key,(∀ m,ub≤m→key≠2 * m+1)→r.2.1 key=ob key)∧ub≤r.2.2.2)
set_option maxRecDepth 100000 in
theorem sv133 (h178:LeftOk) {Yf:YF} {g:Hist'} (hs:Small g) {uK um un:Nat} {s:KnS} {i:Nat} (hi:i<g.ts.length) {ob:Nat→Option Obj'} {tk:Nat→Bool} {ro base ub:Nat} (hK:Kn g uK um un s ob ub) (hro:ro≤um) :
 ∃ r,EvS E Yf.y 133 [.ptr (2 * uK+1) uK 0,.int .i64 (i:Int)] ob tk ro base ub r∧KnP g uK um un (s.txn g i (g.ts[i]).f (g.ts[i]).ops) ob ub r:=by
 obtain ⟨vb,evb,hvb⟩:=ev176 hs i
 have hos:=hs.os _ (List.getElem_mem hi)
 have hts:=hs.ts
 refine EvS_wp (af:=S133) rfl (by decide) ?_
 show wpC E Yf S133.body _ (kEndS S133.res _)
 have hk:=hK.k
 have hlo:(g.ts.flatMap txnC)[i * 3+2]? = some (slOf (g.ts[i]).nl opC (g.ts[i]).ops):=by rw [fld_at txnC_len g.ts hi (by decide:2<3)];rfl
 obtain ⟨l,hl⟩:∃ l,(g.ts[i]).ops=l:=⟨_,rfl⟩
 obtain ⟨fa,hfa⟩:∃ f,(g.ts[i]).f=f:=⟨_,rfl⟩
 obtain ⟨nl,hnl⟩:∃ nl,(g.ts[i]).nl=nl:=⟨_,rfl⟩
 rw [hl,hnl] at hlo
 rw [hl] at hos
 rw [hfa,hl]
 unfold KnS.txn
 obtain ⟨s1,hs1⟩:∃ s1,(if (badH g i).isEmpty then s else s.fails fa i)=s1:=⟨_,rfl⟩
 rw [hs1]
 simp [S133,objCells,hk]
 refine kS_ev evb (by simp [histC]) rfl (by simp [histC]) ?_
 refine retSl hvb fun tb addb=>?_
 simp
 generalize hKK:kSeq E Yf _ _=KK
 have rest:∀ st1:St,Kn g uK um un s1 st1.ob st1.nx→st1.tm 0 = .ptr (2 * uK+1) uK 0→st1.tm 1 = .int .i64 (i:Int)→st1.df=[]→st1.ro=ro→Aside uK um un ob ub st1.ob→ub≤st1.nx→KK .nrm st1:=by
  intro st1 k1 t0 t1 d1 r1 a1 n1
  have hk1:=k1.k
  rw [← hKK]
  simp [t0,t1,objCells,hk1,hi,idx_slOf txnC_len,hlo]
  refine wp_loopUp [(4,7),(29,88)] l.length (fun k st=>st.tm 29 = .int .i64 k∧Kn g uK um un (s1.ops g fa i l k) st.ob st.nx∧Aside uK um un ob ub st.ob∧ub≤st.nx) rfl rfl ⟨by simp,by simp [KnS.ops];exact k1.up rfl (by omega),by simpa using a1,by simp;omega⟩ ?_
  rintro k st hkk ⟨h29,k2,a2,n2⟩ f
  have f0:st.tm 0 = .ptr (2 * uK+1) uK 0:=by rw [f.t 0 (by simp)];simp [t0]
  have f1:st.tm 1 = .int .i64 (i:Int):=by rw [f.t 1 (by simp)];simp [t1]
  have f27:st.tm 27=slOf nl opC l:=by rw [f.t 27 (by simp)];simp
  have f28:st.tm 28 = .int .i64 l.length:=by rw [f.t 28 (by simp)];simp
  have fd:st.df=[]:=by rw [f.d];simp [d1]
  have fr:st.ro=ro:=by rw [f.r];simp [r1]
  clear f
  by_cases hlt:k<l.length
  ·have hwk:=wrapU hlt (by omega)
   have hload:loadV st.ob (some 4) (.eptr (l.flatMap opC) (k * 4))=some (.agg (opC l[k])):=load_slOf opC_len st.ob l hlt
   obtain ⟨o,ho⟩:∃ o,l[k]=o:=⟨_,rfl⟩
   rw [ho] at hload
   have hstep:s1.ops g fa i l (k+1)=(s1.ops g fa i l k).op g fa i k o:=by simp only [KnS.ops,List.getElem?_eq_getElem hlt,ho]
   generalize s1.ops g fa i l k=s2 at *
   have hk2:=k2.k
   have e89:=ev89 hs (i:Int) (k:Int)
   unfold KnS.op at hstep
   have hlt3:=k2.lt
   have q1:¬ 2 * (st.nx+64+64+64+64)=2 * (st.nx+64+64+64+64+64+64+64+64+64+64):=by omega
   have q2:¬ 2 * uK=2 * (st.nx+64+64+64+64):=by omega
   have q3:¬ 2 * uK=2 * (st.nx+64+64+64+64+64+64+64+64+64+64):=by omega
   have q4:ro≤st.nx+64+64+64+64:=by omega
   have q5:ro≤st.nx+64+64+64+64+64+64+64+64+64+64:=by omega
   cases hq:(o.v.kind == 2)
   ·simp [h29,f0,f1,f27,f28,hlt,idx_slOf opC_len,hload,objCells,opC,splice,fr,hro,hq,hk2,q1,q2,q3,q4,q5]
    have hkeep:∀ key,(∀ m,st.nx≤m→key≠2 * m+1)→¬ key=2 * (st.nx+64+64+64+64)+1∧¬ key=2 * (st.nx+64+64+64+64+64+64+64+64+64+64)+1:=fun key h=>⟨h _ (by omega),h _ (by omega)⟩
    refine kS_ev e89 (by simp [histC,placeC]) rfl (by simp [histC,placeC]) ?_
    cases hou:outerB g i k
    ·rw [hou] at hstep
     simp only [hq,Bool.not_false,Bool.or_true,if_true] at hstep
     simp [h29,hwk]
     rw [hstep]
     refine ⟨hlt,k2.keep (fun key hk=>?_) (by omega),a2.trans (Aside.new (ub:=st.nx) fun key hk=>?_) n2,by omega⟩
     ·simp [hkeep key hk]
     ·simp [hkeep key hk]
    ·rw [hou] at hstep
     simp only [hq,Bool.not_true,Bool.or_false,Bool.false_eq_true,if_false] at hstep
     simp [objCells]
     refine kS_callP (vs:=[.ptr (2 * uK+1) uK 0,.agg (placeC (i,k))]) (by simp [placeC,f0]) rfl (h178 Yf g uK um un s2 i k _ _ _ _ _ hs (k2.keep (fun key hk=>?_) (by omega)) (by simp [fr,hro])) ?_
     ·simp [hkeep key hk]
     rintro v ob1 tk1 ub1 ⟨hown,hold,hub⟩
     simp only at hown hold hub
     have k3:Kn g uK um un s2 ob1 ub1:=by
      refine k2.keep (fun key hk=>?_) (by omega)
      rw [hold key (fun m hm=>hk m (by omega))]
      simp [hkeep key hk]
     have a3:Aside uK um un ob ub ob1:=by
      refine a2.trans (Aside.new (ub:=st.nx) fun key hk=>?_) n2
      rw [hold key (fun m hm=>hk m (by omega))]
      simp [hkeep key hk]
     clear hold
     obtain ⟨W,hW⟩:∃ W,s2.left g i k=W:=⟨_,rfl⟩
     rw [hW] at hown hstep
     rcases hown with ⟨hv,hWn⟩ | ⟨L,u,cs,hv,hL,hlen,htk⟩
     ·subst hv hWn
      simp only [List.length_nil,if_true] at hstep
      simp [f0,f1]
      refine kS_callP (vs:=[.ptr (2 * uK+1) uK 0,.int .i64 (i:Int)]) (by simp [f0,f1]) rfl (sv177 (g:=g) (uK:=uK) (um:=um) (un:=un) (s:=s2) hi (k3.up (by simp) (by omega)) (by simp [fr,hro])) ?_
      rintro v2 ob2 tk2 ub2 hP
      rw [hfa] at hP
      obtain ⟨p1,p2,p3⟩:=hP
      simp only at p1 p2 p3
      simp [h29,hwk]
      rw [hstep]
      exact ⟨hlt,p1.up rfl (by omega),a3.trans (fun key h1 h2 h3 h4=>by simpa using p2 key h1 h2 h3 (fun m hm=>h4 m (by omega))) (ub1:=ub1) (by omega),by omega⟩
     ·subst hv
      by_cases hW0:W=[]
      ·subst hW0
       simp only [List.length_nil,if_true] at hstep
       simp [f0,f1]
       refine kS_callP (vs:=[.ptr (2 * uK+1) uK 0,.int .i64 (i:Int)]) (by simp [f0,f1]) rfl (sv177 (g:=g) (uK:=uK) (um:=um) (un:=un) (s:=s2) hi (k3.up (by simp) (by omega)) (by simp [fr,hro])) ?_
       rintro v2 ob2 tk2 ub2 hP
       rw [hfa] at hP
       obtain ⟨p1,p2,p3⟩:=hP
       simp only at p1 p2 p3
       simp [h29,hwk]
       rw [hstep]
       exact ⟨hlt,p1.up rfl (by omega),a3.trans (fun key h1 h2 h3 h4=>by simpa using p2 key h1 h2 h3 (fun m hm=>h4 m (by omega))) (ub1:=ub1) (by omega),by omega⟩
      ·have hWl:0<W.length:=List.length_pos_iff.2 hW0
       have hl0:((W.length:Int) == 0)=false:=by simp;omega
       have hl0':¬ W.length=0:=by omega
       have hc0:=OwnI.at htk hWl
       have hhd:W.headD 0=W[0]:=by
        cases W with
        | nil=>exact absurd rfl hW0
        | cons x r=>rfl
       rw [if_neg hl0',hhd] at hstep
       have hk3:=k3.k
       obtain ⟨vm,hm3⟩:=k3.m
       have hmo:objMap ob1 (2 * um+1) um=some (MP intV s2.m):=by simp [objMap,hm3]
       have hlk:=lookupV_MI (k:=(i:Int)) s2.m hmo
       have hio:=idxN (l:=L) (u:=u) (n:=W.length) (kk:=.i64) (X:=0) rfl hWl
       generalize W[0]=w0 at *
       by_cases h1:W.length=1
       ·have hl1:((W.length:Int) == 1)=true:=by simp;omega
        have hl1':(W.length == 1)=true:=by simp [h1]
        rw [hl1'] at hstep
        by_cases h2:0≤w0
        ·by_cases h3:0<mcnt s2.m i
         ·simp only [h2,h3,decide_true,Bool.and_self,if_true] at hstep
          simp [f0,f1,hl0,hl1,hio,objCells,hL,hc0,h2,hk3,hlk,h3]
          refine kS_callP (vs:=[.ptr (2 * uK+1) uK 0,.map (2 * um+1) um,.int .i64 w0]) (by simp [f0]) rfl (sv179m (g:=g) (uK:=uK) (um:=um) (un:=un) (s:=s2) (t:=w0) (k3.up (by simp) (by omega)) (by simp [fr,hro])) ?_
          rintro v2 ob2 tk2 ub2 ⟨p1,p2,p3⟩
          simp only at p1 p2 p3
          simp [h29,hwk]
          rw [hstep]
          exact ⟨hlt,p1.up rfl (by omega),a3.trans (fun key h1 h2 h3 h4=>by simpa using p2 key h1 h2 h3 (fun m hm=>h4 m (by omega))) (ub1:=ub1) (by omega),by omega⟩
         ·simp only [h2,h3,decide_true,decide_false,Bool.and_false,Bool.false_eq_true,if_false] at hstep
          simp [f0,f1,hl0,hl1,hio,objCells,hL,hc0,h2,hk3,hlk,h3,h29,hwk]
          rw [hstep]
          exact ⟨hlt,k3.up rfl (by omega),a3,by omega⟩
        ·simp only [h2,decide_false,Bool.false_and,Bool.and_false,Bool.false_eq_true,if_false] at hstep
         simp [f0,f1,hl0,hl1,hio,objCells,hL,hc0,h2,h29,hwk]
         rw [hstep]
         exact ⟨hlt,k3.up rfl (by omega),a3,by omega⟩
       ·have hl1:((W.length:Int) == 1)=false:=by simp;omega
        have hl1':(W.length == 1)=false:=by simpa using h1
        rw [hl1'] at hstep
        simp only [Bool.false_and,Bool.false_eq_true,if_false] at hstep
        simp [f0,f1,hl0,hl1,h29,hwk]
        rw [hstep]
        exact ⟨hlt,k3.up rfl (by omega),a3,by omega⟩
   ·simp only [hq,Bool.true_or,if_true] at hstep
    simp [h29,f0,f1,f27,f28,hlt,idx_slOf opC_len,hload,objCells,opC,splice,fr,hro,hq,hk2,q1,q2,q3,q4,q5,hwk]
    rw [hstep]
    have hkeep:∀ key,(∀ m,st.nx≤m→key≠2 * m+1)→¬ key=2 * (st.nx+64+64+64+64)+1∧¬ key=2 * (st.nx+64+64+64+64+64+64+64+64+64+64)+1:=fun key h=>⟨h _ (by omega),h _ (by omega)⟩
    refine ⟨k2.keep (fun key hk=>?_) (by omega),a2.trans (Aside.new (ub:=st.nx) fun key hk=>?_) n2,by omega⟩
    ·simp [hkeep key hk]
    ·simp [hkeep key hk]
  ·have:k=l.length:=by omega
   subst this
   simp [h29,f28]
   exact endS_nil (.inl rfl) (by simp [fd]) ⟨k2.up (by simp) (by simp),a2,by simp;omega⟩
 cases hbe:(badH g i).isEmpty
 ·rw [hbe] at hs1
  simp only [Bool.false_eq_true,if_false] at hs1
  have hbl:0<(badH g i).length:=List.length_pos_iff.2 (fun e=>by rw [e] at hbe;cases hbe)
  subst hs1
  simp [hbl]
  refine kS_callP (vs:=[.ptr (2 * uK+1) uK 0,.int .i64 (i:Int)]) (by simp) rfl (sv177 (g:=g) (uK:=uK) (um:=um) (un:=un) (s:=s) hi (hK.up (by simp) (by omega)) (by simpa using hro)) ?_
  rintro v ob1 tk1 ub1 hP
  rw [hfa] at hP
  obtain ⟨p1,p2,p3⟩:=hP
  simp only at p1 p2 p3
  simp
  refine rest _ ?_ ?_ ?_ ?_ ?_ ?_ ?_
  ·simpa using p1
  ·simp
  ·simp
  ·simp
  ·simp
  ·exact Aside.trans (ob1:=ob) (ub1:=ub+64) (Aside.new fun key _=>rfl) (fun key h1 h2 h3 h4=>by simpa using p2 key h1 h2 h3 (fun m hm=>h4 m (by omega))) (by omega)
  ·simp;omega
 ·rw [hbe] at hs1
  simp only [if_true] at hs1
  have hbl:¬ 0<(badH g i).length:=by rw [List.isEmpty_iff] at hbe;rw [hbe];simp
  subst hs1
  simp [hbl]
  refine rest _ ?_ ?_ ?_ ?_ ?_ ?_ ?_
  ·exact hK.up (by simp) (by simp;omega)
  ·simp
  ·simp
  ·simp
  ·simp
  ·exact Aside.new fun key _=>by simp
  ·simp;omega
end Go.Pv.T

/- The choices: the given list of lists. -/
namespace Go.Pv.T
open Go Go.Pv
end Go.Pv.T

/- The choices: the reference's list of lists. -/
namespace Go.Pv.T
open Go Go.Pv
end Go.Pv.T

/- Whether a list is a map: the reference. -/
namespace Go.Pv.T
open Go Go.Pv
theorem ofH_len {g:Hist'} (hm:mayH g=true) (a b:Int):(ofH g a b).length≤41:=by
 unfold ofH
 split
 ·split
  ·simp
  ·exact ofL_len (may_ts hm) a _
 ·simp
end Go.Pv.T

/- The knower: who is left. -/
namespace Go.Pv.T
open Go Go.Pv
theorem kD_own {st:St} {ub:Nat} {K:List FP→St→Prop} {d:Option Nat} {nm:Bool} {r:List AOpr} {f:FuncId} {xs:List A} {vs args':List V} {v:V} {δ:Delta} (hx:xs.map (eval E st.tm)=vs) (hs:E.sh nm f=true) (htw:E.tw f=true)
 (ha:vs.mapM (frzTop st.ob)=some args') (hev:Ev E f args' v) (hδ:thawD (objName d nm st.fb ub) ub v=some δ)
 (h:wpDraw E r (st.app d δ) (ub+64) (kFp { wo:=δ.wo,all:=true,seen:=fun l=>(st.ob l).isSome,nw:=true } K)):wpDraw E (⟨d,.call f xs,none,nm⟩::r) st ub K:=by
 have hsh:sharedCall E nm (eval E st.tm) (.call f xs)=some (f,vs):=by simp only [sharedCall,hs,hx,Bool.not_true,Bool.false_and,Bool.false_eq_true,if_false]
 simp only [wpDraw,wanted,hsh]
 exact .inr ⟨hs,htw,args',v,ha,hev,δ,by rw [name_eq'];exact hδ,h⟩
where
 name_eq':∀ {d:Option Nat} {op:AOp} {nm:Bool} {fb ub:Nat},AOpr.name ⟨d,op,none,nm⟩ fb ub=objName d nm fb ub:=by
  intro d op nm fb ub;cases nm <;> rfl
theorem frz_hist (ob:Nat→Option Obj') (g:Hist') (a b:Int):[V.agg (histC g),.agg (placeC (a,b))].mapM (frzTop ob)=some [.agg (histC g),.agg (placeC (a,b))]:=rfl
theorem leftOk:LeftOk:=by
 intro Yf g uK um un s a b ob tk ro base ub hs hK hro
 have e27:=ev27 hs a b
 have hk:=hK.k
 have hn:=hK.n
 obtain ⟨l1,l2,l3⟩:=hK.lt
 refine EvS_wp (af:=S178) rfl (by decide) ?_
 show wpC E Yf S178.body _ (kEndS S178.res _)
 have m1:¬ 2 * uK=2 * ub:=by omega
 have m2:¬ 2 * uK=2 * (ub+64):=by omega
 have m3:¬ 2 * ub=2 * (ub+64):=by omega
 simp [S178,objCells,placeC,hk,m1,m2,m3,V.cells,V.leaf]
 obtain ⟨T,hT⟩:∃ T,ofH g a b=T:=⟨_,rfl⟩
 rw [hT] at e27
 unfold KnS.left
 rw [hT]
 have hlen:T.length≤1000000:=by
  rw [← hT]
  cases hm:mayH g
  ·simp [ofH,opAt,hm]
  ·have:=ofH_len hm a b
   omega
 have hnew:∀ key,(∀ m,ub≤m→key≠2 * m+1)→¬ key=2 * ub+1∧¬ key=2 * (ub+64)+1∧¬ key=2 * (ub+64+64+64+64+64+64+64+64)+1:=fun key h=>⟨h _ (by omega),h _ (by omega),h _ (by omega)⟩
 cases T with
 | nil =>
  refine kD_own (vs:=[.agg (histC g),.agg (placeC (a,b))]) (by simp [histC,placeC]) rfl rfl (frz_hist _ g a b) e27 (v:=.sl none true 0 []) rfl ?_
  simp [objName]
  refine ⟨rfl,?_⟩
  refine kS_callP (vs:=[.sl none true 0 [],.fn (.func 218) [] [.ptr (2 * ub+1) ub 0]]) (by simp) rfl (sv134n (L:=2 * ub+1) (u:=0)) ?_
  rintro v ob1 tk1 ub1 ⟨hown,hold,_,hub,_⟩
  simp only at hown hold hub
  simp
  refine endS_1 (by simp) ⟨by simpa using hown,fun key hk=>?_,?_⟩
  ·obtain ⟨h1,h2,h3⟩:=hnew key hk
   simp only [app_v,retS] at hold ⊢
   simp [hold key h1,h1,h2]
  ·simp
   omega
 | cons x T =>
  refine kD_own (vs:=[.agg (histC g),.agg (placeC (a,b))]) (by simp [histC,placeC]) rfl rfl (frz_hist _ g a b) e27 (δ:={ v:=.osl (2 * (ub+64+64+64+64+64+64+64+64)+1) (ub+64+64+64+64+64+64+64+64) 0 (x::T).length 1,obs:=[(2 * (ub+64+64+64+64+64+64+64+64)+1,⟨ub+64+64+64+64+64+64+64+64,.cells ((x::T).flatMap intC)⟩)] }) ?_ ?_
  ·have hc:((x::T).flatMap intC).all V.scal=true:=by
    rw [List.all_eq_true]
    intro v hv
    obtain ⟨n,_,hn⟩:=List.mem_flatMap.1 hv
    simp only [intC,List.mem_singleton] at hn
    rw [hn];rfl
   simp only [intsV,List.isEmpty_cons,Bool.false_eq_true,if_false,thawD,hc,if_true]
   rfl
  simp [objName]
  have p1:¬ 2 * uK=2 * (ub+64+64+64+64+64+64+64+64):=by omega
  have p2:¬ 2 * ub=2 * (ub+64+64+64+64+64+64+64+64):=by omega
  refine ⟨?_,?_⟩
  ·unfold newOk
   rw [Bool.or_eq_true]
   right
   simp [newFull,List.range,List.range.loop,newPair,disj,rdOb,Delta.wo,lOf]
   have bne:∀ x y:Nat,x≠y→x.beq y=false:=fun x y h=>by
    cases e:x.beq y
    ·rfl
    ·exact absurd (Nat.eq_of_beq_eq_true e) h
   exact ⟨bne _ _ (by omega),bne _ _ (by omega),bne _ _ (by omega)⟩
  refine kS_callP (vs:=[.osl (2 * (ub+64+64+64+64+64+64+64+64)+1) (ub+64+64+64+64+64+64+64+64) 0 (x::T).length 1,.fn (.func 218) [] [.ptr (2 * ub+1) ub 0]]) (by simp) rfl
   (sv134 (p:=fun t=>decide (0<mcnt s.n t)) rfl hlen (by simp) (by simp;omega) fun ob' hob'=>pred218 (g:=g) (uK:=uK) (um:=um) (un:=un) (ub0:=ub) ?_ ?_ ?_) ?_
  ·rw [hob' _ (by omega)]
   simp [m1,m2,hk,p1]
  ·obtain ⟨vn,hn⟩:=hn
   refine ⟨vn,?_⟩
   rw [hob' _ (by omega)]
   have q1:¬ 2 * un=2 * ub:=by omega
   have q2:¬ 2 * un=2 * (ub+64):=by omega
   have q3:¬ 2 * un=2 * (ub+64+64+64+64+64+64+64+64):=by omega
   simp [q1,q2,q3,hn]
  ·rw [hob' _ (by omega)]
   simp [m3,p2]
  rintro v ob1 tk1 ub1 ⟨hown,hold,_,hub,_⟩
  simp only at hown hold hub
  simp
  refine endS_1 (by simp) ⟨by simpa using hown,fun key hk=>?_,?_⟩
  ·obtain ⟨h1,h2,h3⟩:=hnew key hk
   simp only [app_v,retS] at hold ⊢
   simp [hold key h3,h1,h2,h3]
  ·simp
   omega
end Go.Pv.T

/- The knower: what is known; plain. -/
namespace Go.Pv.T
open Go Go.Pv
def KnS.init (g:Hist'):Nat→KnS
 | 0=>⟨[],[],false,true⟩
 | i+1=>match g.ts[i]? with
  | some t=>if t.f=1 then { KnS.init g i with m:=mset (KnS.init g i).m i 1 } else if t.f=2 then { KnS.init g i with n:=mset (KnS.init g i).n i 1 } else KnS.init g i
  | none=>KnS.init g i
def KnS.round (s:KnS) (g:Hist'):Nat→KnS
 | 0=>{ s with more:=false }
 | i+1=>match g.ts[i]? with
  | some t=>(s.round g i).txn g i t.f t.ops
  | none=>s.round g i
def KnS.iter (g:Hist'):Nat→KnS→KnS
 | 0,s=>s
 | k+1,s=>if s.more then KnS.iter g k (s.round g g.ts.length) else s
def KnS.both (s:KnS) (i:Int):Bool:=decide (0<mcnt s.m i) && decide (0<mcnt s.n i)
def KnS.hopTo (s:KnS):Nat→Bool
 | 0=>s.hop
 | i+1=>s.hopTo i || s.both i
def KnS.known (g:Hist'):KnS:=let s:=KnS.iter g (2 * g.ts.length+1) (KnS.init g g.ts.length);{ s with hop:=s.hopTo g.ts.length }
theorem mcnt_init (g:Hist'):∀ (i:Nat) (j:Int),(i:Int)≤j→mcnt (KnS.init g i).m j=0∧mcnt (KnS.init g i).n j=0
 | 0,j,_=>⟨rfl,rfl⟩
 | i+1,j,h=>by
  have ih:=mcnt_init g i j (by omega)
  simp only [KnS.init]
  split
  ·split
   ·simp only [mcnt_set]
    rw [if_neg (by omega)]
    exact ih
   ·split
    ·simp only [mcnt_set]
     rw [if_neg (by omega)]
     exact ih
    ·exact ih
  ·exact ih
def freeM (m:List (Int × Int)):Nat→Nat
 | 0=>0
 | i+1=>freeM m i+if mcnt m i=0 then 1 else 0
theorem freeM_le (m:List (Int × Int)):∀ n,freeM m n≤n
 | 0=>Nat.le_refl _
 | i+1=>by have:=freeM_le m i;simp only [freeM];split <;> omega
theorem freeM_set {m:List (Int × Int)} {t:Int} (h0:mcnt m t=0):∀ n:Nat,(freeM (mset m t 1) n≤freeM m n)∧(0≤t→t<n→freeM (mset m t 1) n+1≤freeM m n)
 | 0=>⟨Nat.le_refl _,fun h1 h2=>by omega⟩
 | i+1=>by
  have ih:=freeM_set h0 i
  simp only [freeM,mcnt_set]
  by_cases hit:(i:Int)=t
  ·rw [if_pos hit,hit,if_pos h0,if_neg (by decide)]
   exact ⟨by omega,fun _ _=>by omega⟩
  ·rw [if_neg hit]
   refine ⟨by omega,fun h1 h2=>?_⟩
   have:=ih.2 h1 (by omega)
   omega
def KnS.free (s:KnS) (n:Nat):Nat:=freeM s.m n+freeM s.n n
def Less (n:Nat) (s s':KnS):Prop:=s'.free n≤s.free n∧(s'.more=true→s.more=true∨s'.free n+1≤s.free n)∧(s.more=true→s'.more=true)
theorem Less.rfl' (n:Nat) (s:KnS):Less n s s:=⟨Nat.le_refl _,fun h=>.inl h,fun h=>h⟩
theorem Less.trans {n:Nat} {a b c:KnS} (h:Less n a b) (h':Less n b c):Less n a c :=
 ⟨Nat.le_trans h'.1 h.1,fun hm=>by
  rcases h'.2.1 hm with h1 | h1
  ·rcases h.2.1 h1 with h2 | h2
   ·exact .inl h2
   ·exact .inr (by have:=h'.1;omega)
  ·exact .inr (by have:=h.1;omega),fun hm=>h'.2.2 (h.2.2 hm)⟩
theorem Less.learnM {n:Nat} {s:KnS} {t:Int} (h1:0≤t) (h2:t<n):Less n s (s.learnM t):=by
 unfold KnS.learnM
 split
 ·rename_i h0
  have:=freeM_set h0 n
  have:=this.2 h1 h2
  exact ⟨by simp only [KnS.free];omega,fun _=>.inr (by simp only [KnS.free];omega),fun _=>rfl⟩
 ·exact .rfl' n s
theorem Less.learnN {n:Nat} {s:KnS} {t:Int} (h1:0≤t) (h2:t<n):Less n s (s.learnN t):=by
 unfold KnS.learnN
 split
 ·rename_i h0
  have:=freeM_set h0 n
  have:=this.2 h1 h2
  exact ⟨by simp only [KnS.free];omega,fun _=>.inr (by simp only [KnS.free];omega),fun _=>rfl⟩
 ·exact .rfl' n s
theorem Less.fails {n:Nat} {s:KnS} {f t:Int} (h1:0≤t) (h2:t<n):Less n s (s.fails f t):=by
 unfold KnS.fails
 split
 ·exact ⟨Nat.le_refl _,fun h=>.inl h,fun h=>h⟩
 ·split
  ·exact .learnN h1 h2
  ·exact .rfl' n s
theorem ofH_lt {g:Hist'} {a b x:Int} (h:x∈ofH g a b):x<g.ts.length:=by
 unfold ofH at h
 split at h
 ·split at h
  ·simp at h
  ·rename_i o _ _
   unfold ofL ofStart at h
   rcases List.mem_append.1 h with h | h
   ·split at h
    ·simp at h
    ·simp at h;omega
   ·have:=numsTo_lt (p:=wrB o.key) (ts:=g.ts) g.ts.length (Nat.le_refl _)
    exact (this.1 x (List.mem_filter.1 h).1).2
 ·simp at h
theorem Less.op {g:Hist'} {s:KnS} {f:Int} {t k:Nat} {o:Op'} (ht:t<g.ts.length):Less g.ts.length s (s.op g f t k o):=by
 unfold KnS.op
 split
 ·exact .rfl' _ s
 ·split
  ·exact .fails (by omega) (by omega)
  ·rename_i h0
   split
   ·rename_i h1
    simp only [Bool.and_eq_true,decide_eq_true_eq] at h1
    refine .learnM h1.2.1 ?_
    cases hl:s.left g t k with
    | nil=>rw [hl] at h0;simp at h0
    | cons x r =>
     have hm:x∈s.left g t k:=by rw [hl];exact List.mem_cons_self ..
     exact ofH_lt (List.mem_filter.1 hm).1
   ·exact .rfl' _ s
theorem Less.ops {g:Hist'} {s:KnS} {f:Int} {t:Nat} {l:List Op'} (ht:t<g.ts.length):∀ k,Less g.ts.length s (s.ops g f t l k)
 | 0=>.rfl' _ s
 | k+1=>by
  simp only [KnS.ops]
  split
  ·exact (Less.ops ht k).trans (.op ht)
  ·exact Less.ops ht k
theorem Less.txn {g:Hist'} {s:KnS} {f:Int} {t:Nat} {l:List Op'} (ht:t<g.ts.length):Less g.ts.length s (s.txn g t f l):=by
 unfold KnS.txn
 refine Less.trans ?_ (.ops ht _)
 split
 ·exact .rfl' _ s
 ·exact .fails (by omega) (by omega)
theorem Less.round {g:Hist'} {s:KnS}:∀ i,i≤g.ts.length→Less g.ts.length { s with more:=false } (s.round g i)
 | 0,_=>.rfl' _ _
 | i+1,h=>by
  simp only [KnS.round,List.getElem?_eq_getElem (show i<g.ts.length by omega)]
  exact (Less.round i (by omega)).trans (.txn (by omega))
theorem iter_more (g:Hist'):∀ (k:Nat) (s:KnS),s.free g.ts.length+(if s.more then 1 else 0)≤k→(KnS.iter g k s).more=false
 | 0,s,h=>by
  cases hm:s.more
  ·simpa [KnS.iter] using hm
  ·rw [hm] at h;simp at h
 | k+1,s,h=>by
  cases hm:s.more
  ·simp [KnS.iter,hm]
  ·rw [hm] at h
   simp only [KnS.iter,hm,if_true]
   refine iter_more g k _ ?_
   have hr:=Less.round (g:=g) (s:=s) g.ts.length (Nat.le_refl _)
   have h1:({ s with more:=false }:KnS).free g.ts.length=s.free g.ts.length:=rfl
   cases hm2:(s.round g g.ts.length).more
   ·have:=hr.1
    rw [h1] at this
    simp at h ⊢
    omega
   ·rcases hr.2.1 hm2 with h2 | h2
    ·cases h2
    ·rw [h1] at h2
     simp at h ⊢
     omega
theorem known_more (g:Hist'):(KnS.iter g (2 * g.ts.length+1) (KnS.init g g.ts.length)).more=false:=by
 refine iter_more g _ _ ?_
 have h1:=freeM_le (KnS.init g g.ts.length).m g.ts.length
 have h2:=freeM_le (KnS.init g g.ts.length).n g.ts.length
 unfold KnS.free
 split <;> omega
end Go.Pv.T
