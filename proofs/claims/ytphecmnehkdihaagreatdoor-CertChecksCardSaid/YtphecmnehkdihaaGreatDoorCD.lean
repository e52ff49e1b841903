/- The walk through all ops of a history, whoever is yielded to. -/
import Derived.Test.YtphecmnehkdihaaGreatDoorCC
import Derived.Lib.ValidLaws
import Derived.Laws.Bits64
import Derived.Sort.AssemblyPlain
set_option maxRecDepth 100000
namespace Go.Pv.T
open Go Go.Pv
def Fr (ub:Nat) (ob ob':ZO):Prop:=∀ key,(∀ m,ub≤m→key≠2 * m+1)→ob' key=ob key
theorem Fr.refl (ub:Nat) (ob:ZO):Fr ub ob ob:=fun _ _=>rfl
def WU (res:List ARes) (P:V × (ZO) × (Nat→Bool) × Nat→Prop):Ex→St→Prop:=fun e s=>∃ r,endS res (e,s)=some r∧P r
theorem jo (st:St) (d:Option Nat) (v:V) (obs:List (Nat × Obj')):(st.app d { v:=v,obs:=obs }).tk=st.tk:=by
 funext u
 simp [jl]
theorem Fr.two {ub m:Nat} {ob ob':ZO} (h:∀ key,key≠2 * m+1→ob' key=ob key) (hm:ub≤m):Fr ub ob ob':=fun key hk=>h key (hk m hm)
theorem jml {E:Env} {Yf:YF} {o:AOpr} {st:St} {ub:Nat} {K:St→Nat→Prop} (h:∀ s',s'=st→j9 E Yf o s' ub K):j9 E Yf o st ub K:=h st rfl
theorem jx9 {Yf:YF} (h:Hist') (hn:h.ts.length≤1000) (hm:∀ t∈h.ts,t.ops.length≤1000000) {l u lh uh:Nat} {ob0:ZO} {tk0:Nat→Bool} {ro base ub0:Nat} (hh:ob0 lh=some ⟨uh,.cells (j2 h)⟩) (hro:ro≤ub0)
 (J:Nat→Nat→(ZO)→(Nat→Bool)→Nat→Prop) (P:V × (ZO) × (Nat→Bool) × Nat→Prop)
 (hfr:∀ i k ob ob' tk ub ub',J i k ob tk ub→ub≤ub'→Fr ub ob ob'→J i k ob' tk ub')
 (hnext:∀ i (hi:i<h.ts.length) ob tk ub,J i (h.ts[i]).ops.length ob tk ub→J (i+1) 0 ob tk ub)
 (hstep:∀ i (hi:i<h.ts.length) k (hk:k<(h.ts[i]).ops.length) ob tk ub,J i k ob tk ub→ro≤ub→∃ r,EvY Yf l u [.agg [.int .i64 i,.int .i64 k],.agg (opC (h.ts[i]).ops[k])] ob tk ro ub r∧ro≤r.2.2.2 ∧
  ((r.1 = .bool true∧J i (k+1) r.2.1 r.2.2.1 r.2.2.2)∨(r.1 = .bool false∧∀ ob' ub',r.2.2.2≤ub'→Fr r.2.2.2 r.2.1 ob'→P (.tup [],ob',r.2.2.1,ub'))))
 (hend:∀ ob tk ub,J h.ts.length 0 ob tk ub→P (.tup [],ob,tk,ub))
 (h0:J 0 0 ob0 tk0 ub0):∃ r,EvS E Yf.y 215 [.yld l u,.ptr lh uh 0] ob0 tk0 ro base ub0 r∧P r:=by
 refine Qb (af:=S215) rfl (by decide) ?_
 show wpC E Yf S215.body _ (WU S215.res P)
 simp [S215,j1,hh,j2]
 refine Yd (n:=h.ts.length) (fun k s=>∃ i,k=h.ts.length - i∧i≤h.ts.length∧s.df=[]∧s.fb=base∧s.ro=ro∧ro≤s.nx∧s.tm 0 = .yld l u∧s.tm 8=jI h.tn ji h.ts∧s.tm 9 = .int .i64 h.ts.length∧s.tm 10 = .int .i64 i∧J i 0 s.ob s.tk s.nx)
  ⟨0,by simp;exact ⟨by omega,hfr _ _ _ _ _ _ _ h0 (by omega) (Fr.refl _ _)⟩⟩ ?_
 rintro k s ⟨i,rfl,hi,hd,hfb,hsr,hnx,h0,h8,h9,h10,hJ⟩
 by_cases hlt:i<h.ts.length
 ·simp [h8,h9,h10,hlt,j5 j8,jX j8,ji,j1,hsr]
  refine ⟨by omega,?_⟩
  refine Yd (n:=(h.ts[i]).ops.length) (fun k s=>∃ j,k=(h.ts[i]).ops.length - j∧j≤(h.ts[i]).ops.length∧s.df=[]∧s.fb=base∧s.ro=ro∧ro≤s.nx∧s.tm 0 = .yld l u∧s.tm 8=jI h.tn ji h.ts∧s.tm 9 = .int .i64 h.ts.length∧s.tm 10 = .int .i64 i ∧
   s.tm 3 = .int .i64 i∧s.tm 16=jI (h.ts[i]).nl opC (h.ts[i]).ops∧s.tm 17 = .int .i64 (h.ts[i]).ops.length∧s.tm 18 = .int .i64 j∧J i j s.ob s.tk s.nx) ⟨0,?_⟩ ?_
  ·simp [hd,hfb,hsr,h0,h8,h9,h10]
   refine ⟨by omega,?_⟩
   rw [jo,jkt,jo]
   refine hfr _ _ _ _ _ _ _ hJ (by omega:s.nx≤_) (Fr.two (m:=s.nx+64+64+64+64) (fun key hk=>?_) (by omega))
   simp [hk]
  clear hd hfb hsr hnx h0 h8 h9 h10 hJ s
  rintro k s ⟨j,rfl,hj,hd,hfb,hsr,hnx,h0,h8,h9,h10,h3,h16,h17,h18,hJ⟩
  by_cases hjt:j<(h.ts[i]).ops.length
  ·simp [h0,h3,h16,h17,h18,hjt,j5 jH,jX jH,opC,j1,hsr,j7]
   refine ⟨by omega,jml fun s' hs'=>?_⟩
   have e23:s'.tm 23 = .yld l u:=by rw [hs'];simp
   have e26:s'.tm 26 = .agg [.int .i64 i,.int .i64 j]:=by rw [hs'];simp
   have e27:s'.tm 27 = .agg (opC (h.ts[i]).ops[j]):=by rw [hs'];simp [opC]
   have e0:s'.tm 0 = .yld l u:=by rw [hs'];simp [h0]
   have e8:s'.tm 8=jI h.tn ji h.ts:=by rw [hs'];simp [h8]
   have e9:s'.tm 9 = .int .i64 h.ts.length:=by rw [hs'];simp [h9]
   have e10:s'.tm 10 = .int .i64 i:=by rw [hs'];simp [h10]
   have e3:s'.tm 3 = .int .i64 i:=by rw [hs'];simp [h3]
   have e16:s'.tm 16=jI (h.ts[i]).nl opC (h.ts[i]).ops:=by rw [hs'];simp [h16]
   have e17:s'.tm 17 = .int .i64 (h.ts[i]).ops.length:=by rw [hs'];simp [h17]
   have e18:s'.tm 18 = .int .i64 j:=by rw [hs'];simp [h18]
   have ed:s'.df=[]:=by rw [hs'];simp [hd]
   have ef:s'.fb=base:=by rw [hs'];simp [hfb]
   have er:s'.ro=ro:=by rw [hs'];simp [hsr]
   have et:s'.tk=s.tk:=by rw [hs'];simp only [jkt,jqo,jo]
   have eo:Fr s.nx s.ob s'.ob:=by
    rw [hs']
    exact Fr.two (m:=s.nx+64+64+64+64) (fun key hk=>by simp [hk]) (by omega)
   clear hs'
   obtain ⟨r,hr,hru,hcase⟩:=hstep i hlt j hjt s'.ob s.tk (s.nx+64+64+64+64+64+64+64+64+64+64+64+64) (hfr _ _ _ _ _ _ _ hJ (by omega) eo) (by omega)
   refine jh9 (l:=l) (u:=u) (by simpa using e23) ⟨r,by simpa [e26,e27,et,er] using hr,?_⟩
   rcases hcase with ⟨hr1,hJ2⟩ | ⟨hr1,hP⟩
   ·simp [hr1,put,j6,e18]
    have hb:=hm h.ts[i] (List.getElem_mem hlt)
    refine ⟨(h.ts[i]).ops.length - (j+1),by omega,j+1,rfl,by omega,ed,ef,er,by omega,e0,e8,e9,e10,e3,e16,e17,by rw [J8 (by omega) (by omega)];simp,?_⟩
    exact hfr _ _ _ _ _ _ _ hJ2 (by omega) (Fr.refl _ _)
   ·simp [hr1,put]
    refine ⟨(.tup [],r.2.1,r.2.2.1,r.2.2.2+64),?_,hP _ _ (by omega) (Fr.refl _ _)⟩
    simp [endS,ed]
  ·have:j=(h.ts[i]).ops.length:=by omega
   subst this
   have hJ':=hnext i hlt _ _ _ hJ
   simp [h17,h18,h0,h8,h9,h10,hd,hfb,hsr]
   refine ⟨h.ts.length - (i+1),by omega,i+1,rfl,by omega,by omega,by rw [J8 (by omega) (by omega)];simp,?_⟩
   exact hfr _ _ _ _ _ _ _ hJ' (by omega) (Fr.refl _ _)
 ·have:i=h.ts.length:=by omega
  subst this
  simp [h9,h10]
  refine ⟨(.tup [],s.ob,s.tk,s.nx+64),?_,hend _ _ _ (hfr _ _ _ _ _ _ _ hJ (Nat.le_add_right _ _) (Fr.refl _ _))⟩
  simp [endS,hd]
theorem QD {E:Env} {Yf:YF} {f:FuncId} {xs:List A} {st:St} {ub:Nat} {K:St→Nat→Prop} {d:Option Nat} {nm:Bool} {vs:List V} (hx:xs.map (eval E st.tm)=vs) (hs:E.sh nm f=true)
 (h:∃ r,EvS E Yf.y f vs st.ob st.tk st.ro ((st.fb+d.getD 0+1) * 1024) ub r∧K { st with tm:=put st.tm d r.1,ob:=r.2.1,tk:=r.2.2.1 } r.2.2.2):j9 E Yf ⟨d,.call f xs,none,nm⟩ st ub K:=by
 have hsh:jB E nm (eval E st.tm) (.call f xs)=some (f,vs):=by simp only [jB,hs,hx,Bool.not_true,Bool.false_and,Bool.false_eq_true,if_false]
 simp only [j9,wanted,jg,hsh]
 obtain ⟨r,hr,hK⟩:=h
 exact .inl ⟨hs,EvS.list ⟨r,hr,hK⟩⟩
theorem jwo {E:Env} {Yf:YF} {f:FuncId} {xs:List A} {st:St} {ub:Nat} {K:St→Nat→Prop} {d:Option Nat} {nm:Bool} {vs:List V} (hx:xs.map (eval E st.tm)=vs) (hs:E.sh nm f=true)
 (h:EvSL E Yf.y f vs st.ob st.tk st.ro ((st.fb+d.getD 0+1) * 1024) ub fun r=>K { st with tm:=put st.tm d r.1,ob:=r.2.1,tk:=r.2.2.1 } r.2.2.2):j9 E Yf ⟨d,.call f xs,none,nm⟩ st ub K:=by
 have hsh:jB E nm (eval E st.tm) (.call f xs)=some (f,vs):=by simp only [jB,hs,hx,Bool.not_true,Bool.false_and,Bool.false_eq_true,if_false]
 simp only [j9,wanted,jg,hsh]
 exact .inl ⟨hs,h⟩
theorem j2c {Yf:YF} (h:Hist') (ob:ZO) (tk:Nat→Bool) (ro base ub:Nat):∃ r,EvS E Yf.y 156 [.agg (j2 h)] ob tk ro base ub r ∧
 r.1 = .fn (.func 215) [] [.ptr (2 * ub+1) ub 0]∧(∀ key,r.2.1 key=if key=2 * ub+1 then some ⟨ub,.cells (j2 h)⟩ else ob key)∧r.2.2.1=tk∧r.2.2.2=ub+256:=by
 refine Qb (af:=S156) rfl (by decide) ?_
 show wpC E Yf S156.body _ (WU S156.res _)
 simp [S156,j2]
 refine ⟨(.fn (.func 215) [] [.ptr (2 * ub+1) ub 0],_,_,_),rfl,?_⟩
 simp [jo]
def jal (h:Hist'):List Op':=h.ts.flatMap (·.ops)
def jyq (h:Hist') (i k:Nat):Prop:=∀ i' (hi:i'<h.ts.length) k' (hk:k'<(h.ts[i']).ops.length),(i'<i∨i'=i∧k'<k)→opB h (h.ts[i']).ops[k']=true
def AS70:C:=.region [
 ⟨(some 4),.alloc [(.bool false),(.int .i64 0),(.int .i64 0),(.int .i64 0)],none,false⟩,
 ⟨none,.store 4 (.t 4) (.t 17),none,false⟩]
def BD70:C:=.block 1 (.seq (.region [
            ⟨(some 18),.load (some 3) (.t 1),none,false⟩,
            ⟨(some 19),.load (some 4) (.t 4),none,false⟩,
            ⟨(some 20),.call 157 [(.t 18),(.t 19)],none,false⟩,
            ⟨(some 21),.un .not (.t 20),none,false⟩])
 (.cond (.t 21) (.seq (.region [
  ⟨none,.store 1 (.t 2) (.c (.int .i64 4)),none,false⟩])
  (.ret))
  (.skip)))
theorem jpg {h:Hist'} (hg:jyq h h.ts.length 0):(jal h).all (opB h)=true:=by
 rw [List.all_eq_true]
 intro o ho
 obtain ⟨t,ht,hot⟩:=List.mem_flatMap.1 ho
 obtain ⟨i,hi,rfl⟩:=List.getElem_of_mem ht
 obtain ⟨k,hk,rfl⟩:=List.getElem_of_mem hot
 exact hg i hi k hk (Or.inl hi)
theorem JV {E:Env} {Yf:YF} {c:C} {st:St} {Q:Ex→St→Prop} (h:∀ s',s'=st→wpC E Yf c s' Q):wpC E Yf c st Q:=h st rfl
theorem jy0 {l k:Nat} (ob:ZO) (h:k≠l):(if Nat.beq l k then none else ob k)=ob k:=by
 cases hb:Nat.beq l k with
 | false=>rfl
 | true=>exact absurd (Nat.eq_of_beq_eq_true hb).symm h
theorem j0e (h:Hist') (hn:h.ts.length≤1000) (hm:∀ t∈h.ts,t.ops.length≤1000000) {st:St} {lh uh:Nat} (U:Nat) (hU:st.nx=U) (hU0:64≤U) (h15:st.tm 15 = .fn (.func 215) [] [.ptr lh uh 0]) (hl:∃ m,lh=2 * m+1∧m<U)
 (h1:st.tm 1 = .ptr 2 0 0) (h2:st.tm 2 = .ptr 4 64 0) (hro:st.ro=0) (hfb:st.fb=0) (o2:st.ob 2=some ⟨0,.cells (j2 h)⟩) (o4:st.ob 4=some ⟨64,.cells [.int .i64 0]⟩) (oh:st.ob lh=some ⟨uh,.cells (j2 h)⟩) {Q:Ex→St→Prop}
 (hQ:∀ (e:Ex) (ob:ZO) (tk:Nat→Bool) (ub:Nat) (c:Int),ob 2=some ⟨0,.cells (j2 h)⟩→ob 4=some ⟨64,.cells [.int .i64 c]⟩→ob (2 * U+3)=some ⟨U+1,.dfr⟩→U+64≤ub →
  ((jal h).all (opB h)=true∧e = .nrm∧c=0∨(jal h).all (opB h)=false∧e = .ret∧c=4)→Q e { st with ob:=ob,tk:=tk,nx:=ub,df:=(2 * U+3,U+1)::st.df }) :
 wpC E noYF (.rangeFunc (.t 15) [16,17] AS70 BD70) st Q:=by
 obtain ⟨m,rfl,hmU⟩:=hl
 subst hU
 refine WG (g:=215) (first:=[]) (captured:=[.ptr (2 * m+1) uh 0]) (by simpa using h15) ?_
 have:=jx9 (Yf:=jf1 E noYF AS70 BD70 st [16,17] (2 * st.nx+1) st.nx) h hn hm (l:=2 * st.nx+1) (u:=st.nx) (lh:=2 * m+1) (uh:=uh)
  (ob0:=upd (upd st.ob (2 * st.nx+3) (some ⟨st.nx+1,.dfr⟩)) (2 * st.nx+1) (some ⟨st.nx,.loop .ready none⟩)) (tk0:=st.tk) (ro:=st.ro) (base:=(st.fb+1023) * 1024) (ub0:=st.nx+64)
  (by have e1:¬ 2 * m+1=2 * st.nx+1:=by omega
      have e2:¬ 2 * m+1=2 * st.nx+3:=by omega
      simp only [j6,e1,e2,if_false,oh]) (by omega)
  (fun i k ob tk ub=>jyq h i k∧ob (2 * st.nx+1)=some ⟨st.nx,.loop .ready none⟩∧ob (2 * st.nx+3)=some ⟨st.nx+1,.dfr⟩∧ob 2=some ⟨0,.cells (j2 h)⟩∧ob 4=some ⟨64,.cells [.int .i64 0]⟩∧st.nx+64≤ub)
  (fun r=>∃ s pend,r.2.1 (2 * st.nx+1)=some ⟨st.nx,.loop s pend⟩∧s≠.busy∧st.ro≤st.nx∧Q (pend.getD .nrm) { st with ob:=fun k=>if Nat.beq (2 * st.nx+1) k then none else r.2.1 k,tk:=r.2.2.1,nx:=r.2.2.2,df:=(2 * st.nx+3,st.nx+1)::st.df })
  ?_ ?_ ?_ ?_ ?_
 ·obtain ⟨r,hr,hP⟩:=this
  exact ⟨r,hr,hP⟩
 ·-- what J says stands behind what is new
  rintro i k ob ob' tk ub ub' ⟨g1,g2,g3,g4,g5,g6⟩ hub hfr
  have f:∀ key,(∀ m,ub≤m→key≠2 * m+1)→ob' key=ob key:=hfr
  exact ⟨g1,by rw [f _ (fun m hm=>by omega)];exact g2,by rw [f _ (fun m hm=>by omega)];exact g3,by rw [f _ (fun m hm=>by omega)];exact g4,by rw [f _ (fun m hm=>by omega)];exact g5,by omega⟩
 ·rintro i hi ob tk ub ⟨g1,g⟩
  refine ⟨fun i' hi' k' hk' hlt=>?_,g⟩
  rcases hlt with h' | ⟨_,h'⟩
  ·rcases Nat.lt_succ_iff_lt_or_eq.1 h' with h'' | rfl
   ·exact g1 i' hi' k' hk' (Or.inl h'')
   ·exact g1 i' hi' k' hk' (Or.inr ⟨rfl,hk'⟩)
  ·omega
 ·rintro i hi k hk ob tk ub ⟨g1,g2,g3,g4,g5,g6⟩ hru
  refine jff (asg:=AS70) (bd:=BD70) (xs:=[.agg [.int .i64 i,.int .i64 k],.agg (opC (h.ts[i]).ops[k])]) rfl (by omega) g2 (by decide) (by decide) ?_
  simp [AS70,jdo,j1,hfb,opC,hro]
  refine ⟨by rw [if_neg (by omega),if_neg (by omega)];exact g2,JV fun s' hs'=>?_⟩
  have f1:s'.tm 1 = .ptr 2 0 0:=by rw [hs'];simp [j6,h1]
  have f2:s'.tm 2 = .ptr 4 64 0:=by rw [hs'];simp [j6,h2]
  have f4:s'.tm 4 = .ptr 8 ub 0:=by rw [hs'];simp
  have n2:¬ 2=2 * st.nx+1:=by omega
  have n4:¬ 4=2 * st.nx+1:=by omega
  have n8:¬ 8=2 * st.nx+1:=by omega
  have n3:¬ 2 * st.nx+3=2 * st.nx+1:=by omega
  have n38:¬ 2 * st.nx+3=8:=by omega
  have p2:s'.ob 2=some ⟨0,.cells (j2 h)⟩:=by rw [hs'];simp only [j6,n2,if_false,Jr];simp [g4]
  have p4:s'.ob 4=some ⟨64,.cells [.int .i64 0]⟩:=by rw [hs'];simp only [j6,n4,if_false,Jr];simp [g5]
  have p8:s'.ob 8=some ⟨ub,.cells (opC (h.ts[i]).ops[k])⟩:=by rw [hs'];simp only [j6,n8,if_false,Jr];simp [opC]
  have p3:s'.ob (2 * st.nx+3)=some ⟨st.nx+1,.dfr⟩:=by rw [hs'];simp only [j6,n3,n38,if_false,Jr];exact g3
  have p1:s'.ob (2 * st.nx+1)=some ⟨st.nx,.loop .busy none⟩:=by rw [hs'];simp
  have fr:s'.ro=0:=by rw [hs']
  have fn:ub≤s'.nx:=by rw [hs'];simp;omega
  clear hs'
  simp [BD70,f1,f4,p2,p8,j1,opC,j2]
  refine XY (vs:=[.agg (j2 h),.agg (opC (h.ts[i]).ops[k])]) (by simp [j2,opC]) rfl (by simp [j2,opC]) (by simpa [j2,opC] using ev157 h (h.ts[i]).ops[k]) ?_
  have m1:¬ 2 * st.nx+1=4:=by omega
  have m3:¬ 2 * st.nx+3=4:=by omega
  cases hb:opB h (h.ts[i]).ops[k]
  ·simp [f2,p4,j1,fr,m1,p1,WM,j7]
   intro ob' ub' hle hfr
   have fk:∀ key,(∀ m,s'.nx+64+64+64+64+64≤m→key≠2 * m+1)→ob' key=_:=hfr
   have hall:(jal h).all (opB h)=false:=by
    rw [List.all_eq_false]
    exact ⟨_,List.mem_flatMap.2 ⟨_,List.getElem_mem hi,List.getElem_mem hk⟩,by rw [hb];decide⟩
   have n1':∀ {k:Nat},k≠2 * st.nx+1→(if 2 * st.nx+1=k then none else ob' k)=ob' k:=fun hk=>if_neg fun e=>hk e.symm
   refine ⟨.done,some .ret,?_,by simp,?_⟩
   ·rw [fk _ (fun m hm=>by omega)]
    simp
   ·have:=hQ .ret (fun k=>if 2 * st.nx+1=k then none else ob' k) s'.tk ub' 4 (by rw [n1' n2,fk _ (fun m hm=>by omega)];simp only [j6,n2,if_false,Jr];simp [p2]) (by rw [n1' n4,fk _ (fun m hm=>by omega)];simp only [j6,n4,if_false,Jr];simp)
     (by rw [n1' n3,fk _ (fun m hm=>by omega)];simp only [j6,n3,m3,if_false,Jr];exact p3) (by omega) (Or.inr ⟨hall,rfl,rfl⟩)
    rw [hro,hfb] at this
    exact this
  ·simp [p1,WM]
   refine ⟨fun i' hi' k' hk' hlt=>?_,?_,?_,?_,by omega⟩
   ·rcases hlt with h' | ⟨rfl,h'⟩
    ·exact g1 i' hi' k' hk' (Or.inl h')
    ·rcases Nat.lt_succ_iff_lt_or_eq.1 h' with h'' | rfl
     ·exact g1 _ hi' k' hk' (Or.inr ⟨rfl,h''⟩)
     ·exact hb
   ·rw [j6,if_neg n3];exact p3
   ·rw [j6,if_neg n2];exact p2
   ·rw [j6,if_neg n4];exact p4
 ·rintro ob tk ub ⟨g1,g2,g3,g4,g5,g6⟩
  refine ⟨.ready,none,g2,by simp,by omega,?_⟩
  exact hQ .nrm _ _ _ 0 ((jy0 ob (by omega)).trans g4) ((jy0 ob (by omega)).trans g5) ((jy0 ob (by omega)).trans g3) g6 (Or.inl ⟨jpg g1,rfl,rfl⟩)
 ·refine ⟨fun i' hi' k' hk' hlt=>by omega,?_,?_,?_,?_,by omega⟩
  ·simp
  ·simp [j6]
  ·have e1:¬ 2=2 * st.nx+1:=by omega
   have e2:¬ 2=2 * st.nx+3:=by omega
   simp only [j6,e1,e2,if_false,o2]
  ·have e1:¬ 4=2 * st.nx+1:=by omega
   have e2:¬ 4=2 * st.nx+3:=by omega
   simp only [j6,e1,e2,if_false,o4]
def rc (l:List Op'):Nat:=(l.filter fun o=>!o.w).length
def rcT (l:List Txn'):Nat:=rc (l.flatMap (·.ops))
theorem rc_le (l:List Op'):rc l≤l.length:=List.length_filter_le _ _
theorem j4g (a b:List Op'):rc (a++b)=rc a+rc b:=by simp [rc]
section
variable {E:Env} {Yf:YF} {st:St} {ub:Nat} {K:St→Nat→Prop} {d:Option Nat} {nm:Bool}
theorem Jw {sz bytes u n:Nat} {nl:Bool} {cs ys:List V} {s x:A} (hs:eval E st.tm s = .sl (some (u,sz)) nl n cs) (htk:st.tk u=true) (hx:jM st.ob sz (eval E st.tm x)=some ys) (hne:ys≠[]) (hlen:cs.length=n * sz) (h0:0<sz)
 (hp:ys.all V.pureLeaf=true) (hb:(n+ys.length / sz) * bytes≤140737488355328) (hb2:n+ys.length / sz≤140737488355328) (h:QP K st d ub { v:=.sl (some (ub,sz)) false (n+ys.length / sz) (cs++ys),del:=some u,add:=[ub] }) :
 j9 E Yf ⟨d,.append false sz bytes s x,none,nm⟩ st ub K:=by
 rw [jS _ rfl rfl]
 simp only [aop,hs,hx,Option.bind_some,if_neg hne,Bool.false_and,Bool.false_eq_true,if_false]
 rw [if_pos ⟨hlen,h0,hp,hb,hb2⟩,if_pos (by simp [htk]),jN]
 exact h
theorem jho {sz bytes:Nat} {ys:List V} {s x:A} (hs:eval E st.tm s = .sl none true 0 []) (hx:jM st.ob sz (eval E st.tm x)=some ys) (hne:ys≠[]) (h0:0<sz)
 (hp:ys.all V.pureLeaf=true) (hb:(0+ys.length / sz) * bytes≤140737488355328) (hb2:0+ys.length / sz≤140737488355328) (h:QP K st d ub { v:=.sl (some (ub,sz)) false (0+ys.length / sz) ([]++ys),add:=[ub] }) :
 j9 E Yf ⟨d,.append false sz bytes s x,none,nm⟩ st ub K:=by
 rw [jS _ rfl rfl]
 simp only [aop,hs,hx,Option.bind_some,if_neg hne,Bool.false_and,Bool.false_eq_true,if_false]
 rw [if_pos ⟨by simp,h0,hp,hb,hb2⟩,if_pos trivial,jN]
 exact h
theorem jL {sz n:Nat} {zero:List V} {parts:List (Nat × Nat × A)} {cs:List V} (hf:fill zero (ju (eval E st.tm) parts)=some cs) (hl:cs.length=n * sz) (hp:(cs.map V.strip1).all V.pureLeaf=true)
 (h:QP K st d ub { v:=.sl (some (ub,sz)) false n (cs.map V.strip1),add:=[ub] }):j9 E Yf ⟨d,.buildSl false sz zero parts n,none,nm⟩ st ub K:=by
 rw [jS _ rfl rfl]
 simp only [aop,hf,Option.bind_some,Bool.false_eq_true,if_false]
 rw [if_pos ⟨hl,hp⟩,jN]
 exact h
end
theorem jb {α:Type} {f:α→List V} {k:Nat} (hf:∀ a,(f a).length=k) (l:List α) {i o:Nat} (h:i<l.length) (ho:o<k):(l.flatMap f)[i * k+o]? = (f l[i])[o]?:=by
 have:=XH hf l i h
 rw [← this,List.getElem?_take,if_pos ho,List.getElem?_drop]
def numsTo (p:Txn'→Bool) (l:List Txn'):Nat→List Int
 | 0=>[]
 | i+1=>numsTo p l i++(match l[i]? with | some t=>if p t then [(i:Int)] else [] | none=>[])
theorem JF (p:Txn'→Bool) (l:List Txn'):∀ i,(numsTo p l i).length≤i
 | 0=>by simp [numsTo]
 | i+1=>by
  have:=JF p l i
  simp only [numsTo,List.length_append]
  split
  ·split <;> simp <;> omega
  ·simp;omega
def intC (n:Int):List V:=[.int .i64 n]
theorem JI {p:Txn'→Bool} {l:List Txn'} {i:Nat} (h:i<l.length):numsTo p l (i+1)=numsTo p l i++(if p l[i] then [(i:Int)] else []):=by
 simp [numsTo,List.getElem?_eq_getElem h]
@[simp] theorem jF (n:Int):(intC n).length=1:=rfl
theorem je2 {n u m:Nat} {st:St} {cs:List V} (hd:st.df=[]) (h:st.tm n = .sl (some (u,1)) false m cs) (ht:st.tk u=true):ja3 [.t n] (.ret,st)=some (.sl (some (0,1)) false m cs):=by
 simp only [ja3,YW hd,YO hd,if_true,List.mapM_cons,List.mapM_nil,jm,h]
 simp [Yh,JD,XM,jr,V.toks,V.tok,nodup,ht]
def Jp (t:Txn'):Bool:=t.f == 3
def XU (h:Hist'):List Int:=numsTo Jp h.ts h.ts.length
theorem ev59 (h:Hist') (hn:h.ts.length≤1000):Ev E 59 [.agg (j2 h)] (.sl (some (0,1)) false (XU h).length ((XU h).flatMap intC)):=by
 refine jT (af:=F59) rfl ?_
 simp [F59,j2]
 refine jL (cs:=[]) rfl rfl rfl ?_
 simp
 refine Yd (n:=h.ts.length) (fun k s=>∃ i u,k=h.ts.length - i∧i≤h.ts.length∧s.df=[]∧s.fb=0∧s.ro=0∧s.tm 1 = .ptr 2 0 0∧s.ob 2=some ⟨0,.cells (j2 h)⟩∧s.tm 4 = .int .i64 i∧s.tk u=true ∧
  s.tm 3 = .sl (some (u,1)) false (numsTo Jp h.ts i).length ((numsTo Jp h.ts i).flatMap intC))
  ⟨0,128,by simp [numsTo,j2]⟩ ?_
 rintro k s ⟨i,u,rfl,hi,hd,hfb,hro,h1,o2,h4,hu,h3⟩
 by_cases hlt:i<h.ts.length
 ·simp [h1,o2,h4,j1,j2,hlt,j5 j8,jb j8,ji]
  have hl:=JF Jp h.ts i
  cases hf:h.ts[i].f == 3
  ·simp [h4]
   refine ⟨h.ts.length - (i+1),by omega,i+1,⟨rfl,by omega,hd,hfb,hro,h1,by simpa [j2] using o2,by rw [J8 (by omega) (by omega)];simp,u,hu,?_⟩⟩
   rw [h3,JI hlt,Jp,hf]
   simp
  ·simp [h3,h4]
   refine jL (cs:=[.int .i64 i]) (by simp [j7]) rfl rfl ?_
   simp
   refine Jw (u:=u) (nl:=false) (n:=(numsTo Jp h.ts i).length) (cs:=(numsTo Jp h.ts i).flatMap intC) (ys:=[.int .i64 i]) (by simp) (by simp [jl,hu]) (by simp [jM]) (by simp) (by rw [jA jF]) (by decide) rfl (by simp;omega) (by simp;omega) ?_
   simp [h4,hd,hfb,hro,h1,o2,j2]
   refine ⟨h.ts.length - (i+1),by omega,i+1,rfl,by omega,by rw [J8 (by omega) (by omega)];simp,Or.inl ?_⟩
   rw [JI hlt,Jp,hf]
   simp [intC]
 ·have:i=h.ts.length:=by omega
  subst this
  simp [h1,o2,h4,j1,j2]
  exact je2 (u:=u) (by simpa using hd) (by simp [h3,XU]) (by simpa using hu)
def WC (r:Int):Bool:=decide (48≤r) && decide (r≤57)
theorem j89 (r:Int):Ev E 267 [.int .i32 r] (.bool (WC r)):=by
 refine jT (af:=F267) rfl ?_
 unfold WC
 by_cases h:48≤r
 ·simp [F267,h]
  exact j3 rfl (by simp) rfl
 ·simp [F267,h]
  exact j3 rfl (by simp) rfl
theorem j88 (r:Int):Ev E 320 [.int .i32 r] (.bool false):=by
 refine jT (af:=F320) rfl ?_
 simp [F320]
 exact j3 rfl (by simp) rfl
def jub (a b:Int):Int:=if a<b then -1 else if b<a then 1 else 0
theorem ev304 (a b:Int):Ev E 304 [.int .i32 a,.int .i32 b] (.int .i64 (jub a b)):=by
 refine jT (af:=F304) rfl ?_
 simp [F304]
 refine XY (vs:=[.int .i32 a]) (by simp) rfl rfl (j88 a) ?_
 simp
 refine XY (vs:=[.int .i32 b]) (by simp) rfl rfl (j88 b) ?_
 unfold jub
 by_cases h:a<b
 ·simp [h]
  exact j3 rfl (by simp) rfl
 ·by_cases h2:b<a
  ·simp [h,h2]
   exact j3 rfl (by simp) rfl
  ·simp [h,h2]
   exact j3 rfl (by simp) rfl
def jbe (r:Int):List V:=[.int .i32 r]
@[simp] theorem jds (n:Int):(jbe n).length=1:=rfl
def jj3:List Int→List Int→Int
 | [],[]=>0
 | [],_::_=>-1
 | _::_,[]=>1
 | a::x,b::y=>if jub a b=0 then jj3 x y else jub a b
theorem jkv (l:List Int) {i:Nat} (h:i<l.length):(l.flatMap jbe)[i]? = some (.int .i32 l[i]):=by
 have:=jb (f:=jbe) jds l h (by decide:0<1)
 rw [Nat.mul_one,Nat.add_zero] at this
 rw [this]
 rfl
theorem ev293 (nx ny:Bool) (x y:List Int) (hx:x.length≤140737488355328):Ev E 293 [jI nx jbe x,jI ny jbe y] (.int .i64 (jj3 x y)):=by
 refine jT (af:=F293) rfl ?_
 simp [F293]
 refine Yd (n:=x.length) (fun k s=>∃ i,k=x.length - i∧i≤x.length∧i≤y.length∧s.df=[]∧s.tm 0=jI nx jbe x∧s.tm 1=jI ny jbe y∧s.tm 9=jI nx jbe x∧s.tm 10 = .int .i64 x.length∧s.tm 11 = .int .i64 i∧jj3 (x.drop i) (y.drop i)=jj3 x y)
  ⟨0,by simp⟩ ?_
 rintro k s ⟨i,rfl,hi,hiy,hd,h0,h1,h9,h10,h11,hc⟩
 by_cases hlt:i<x.length
 ·rw [List.drop_eq_getElem_cons hlt] at hc
  by_cases hly:i<y.length
  ·rw [List.drop_eq_getElem_cons hly,jj3] at hc
   have hny:¬ (y.length:Int)≤i:=by omega
   simp [h1,h9,h10,h11,hlt,hny,hly,j5 jds,jkv x hlt,jkv y hly]
   refine XY (vs:=[.int .i32 x[i],.int .i32 y[i]]) (by simp) rfl rfl (ev304 x[i] y[i]) ?_
   by_cases hz:jub x[i] y[i]=0
   ·rw [if_pos hz] at hc
    simp [hz,h0,h1,h9,h10,h11,hd]
    exact ⟨x.length - (i+1),by omega,i+1,rfl,by omega,by omega,by rw [J8 (by omega) (by omega)];simp,hc⟩
   ·rw [if_neg hz] at hc
    have hz':(jub x[i] y[i] != 0)=true:=by simpa using hz
    simp [hz']
    exact j3 (by simpa using hd) (by simp [hc]) rfl
  ·have hny:(y.length:Int)≤i:=by omega
   have e:y.drop i=[]:=List.drop_of_length_le (by omega)
   rw [e,jj3] at hc
   simp [h1,h9,h10,h11,hlt,hny,j5 jds,jkv x hlt]
   exact j3 (by simpa using hd) (by simp [hc]) rfl
 ·have:i=x.length:=by omega
  subst this
  rw [List.drop_length] at hc
  by_cases hly:x.length<y.length
  ·rw [List.drop_eq_getElem_cons hly,jj3] at hc
   simp [h0,h1,h10,h11,hly]
   exact j3 (by simpa using hd) (by simp [hc]) rfl
  ·have e:y.drop x.length=[]:=List.drop_of_length_le (by omega)
   rw [e,jj3] at hc
   simp [h0,h1,h10,h11,hly]
   exact j3 (by simpa using hd) (by simp [hc]) rfl
def JB (s:List UInt8):List Int:=(XC s s.length 0).map fun r=>((r:Nat):Int)
theorem jnb {E:Env} {Yf:YF} {st:St} {ub:Nat} {K:St→Nat→Prop} {d:Option Nat} {nm:Bool} {x:A} {s:List UInt8} (hs:eval E st.tm x = .str s) (hb:(JB s).length≤70368744177664)
 (h:QP K st d ub { v:=.sl (some (ub,1)) false (JB s).length ((JB s).flatMap jbe),add:=[ub] }):j9 E Yf ⟨d,.runesOfStr x,none,nm⟩ st ub K:=by
 have e:(XC s s.length 0).map (fun r=>V.int .i32 (r:Nat))=(JB s).flatMap jbe:=by
  rw [JB,List.flatMap_map]
  generalize XC s s.length 0=l
  induction l with
  | nil=>rfl
  | cons r l ih=>simp only [List.map_cons,List.flatMap_cons,ih,jbe];rfl
 have el:(JB s).length=(XC s s.length 0).length:=by simp [JB]
 rw [jS _ rfl rfl]
 simp only [aop,hs]
 rw [← el,if_pos hb,jN,e]
 exact h
theorem ev280 (a b:List UInt8) (ha:(JB a).length≤1000000) (hb:(JB b).length≤1000000):Ev E 280 [.str a,.str b] (.int .i64 (jj3 (JB a) (JB b))):=by
 refine jT (af:=F280) rfl ?_
 simp [F280]
 refine jnb (s:=a) (by simp) (by omega) ?_
 simp
 refine jnb (s:=b) (by simp) (by omega) ?_
 simp
 refine XY (vs:=[.sl (some (128,1)) false (JB a).length ((JB a).flatMap jbe),.sl (some (256,1)) false (JB b).length ((JB b).flatMap jbe)]) (by simp) rfl rfl (ev293 false false _ _ (by omega)) ?_
 simp
 exact j3 rfl (by simp) rfl
theorem ev251 (a b:List UInt8) (ha:(JB a).length≤1000000) (hb:(JB b).length≤1000000):Ev E 251 [.str a,.str b] (.bool (decide (jj3 (JB a) (JB b)<0))):=by
 refine jT (af:=F251) rfl ?_
 simp [F251]
 refine XY (vs:=[.str a,.str b]) (by simp) rfl rfl (ev280 a b ha hb) ?_
 simp
 exact j3 rfl (by simp) rfl
def jz8 (s:List UInt8):Bool:=s == [98,101,103,105,110] || s == [114,101,97,100] || s == [119,114,105,116,101] || s == [111,107] || s == [102,97,105,108] || s == [105,110,102,111] || s == [110,105,108]
theorem ev264 (s:List UInt8):Ev E 264 [.str s] (.bool (jz8 s)):=by
 refine jT (af:=F264) rfl ?_
 unfold jz8
 generalize h1:(s == [98,101,103,105,110])=b1
 generalize h2:(s == [114,101,97,100])=b2
 generalize h3:(s == [119,114,105,116,101])=b3
 generalize h4:(s == [111,107])=b4
 generalize h5:(s == [102,97,105,108])=b5
 generalize h6:(s == [105,110,102,111])=b6
 generalize h7:(s == [110,105,108])=b7
 cases b1
 ·cases b2
  ·cases b3
   ·cases b4
    ·cases b5
     ·cases b6
      ·cases b7
       all_goals (simp [F264,h1,h2,h3,h4,h5,h6,h7];exact j3 rfl (by simp) rfl)
      ·simp [F264,h1,h2,h3,h4,h5,h6];exact j3 rfl (by simp) rfl
     ·simp [F264,h1,h2,h3,h4,h5];exact j3 rfl (by simp) rfl
    ·simp [F264,h1,h2,h3,h4];exact j3 rfl (by simp) rfl
   ·simp [F264,h1,h2,h3];exact j3 rfl (by simp) rfl
  ·simp [F264,h1,h2];exact j3 rfl (by simp) rfl
 ·simp [F264,h1];exact j3 rfl (by simp) rfl
theorem ev235 (s:List UInt8):Ev E 235 [.str s] (.bool (jz8 s)):=by
 refine jT (af:=F235) rfl ?_
 unfold jz8
 generalize h1:(s == [98,101,103,105,110])=b1
 generalize h2:(s == [114,101,97,100])=b2
 generalize h3:(s == [119,114,105,116,101])=b3
 generalize h4:(s == [111,107])=b4
 generalize h5:(s == [102,97,105,108])=b5
 generalize h6:(s == [105,110,102,111])=b6
 generalize h7:(s == [110,105,108])=b7
 cases b1
 ·cases b2
  ·cases b3
   ·cases b4
    ·cases b5
     ·cases b6
      ·cases b7
       all_goals (simp [F235,h1,h2,h3,h4,h5,h6,h7];exact j3 rfl (by simp) rfl)
      ·simp [F235,h1,h2,h3,h4,h5,h6];exact j3 rfl (by simp) rfl
     ·simp [F235,h1,h2,h3,h4,h5];exact j3 rfl (by simp) rfl
    ·simp [F235,h1,h2,h3,h4];exact j3 rfl (by simp) rfl
   ·simp [F235,h1,h2,h3];exact j3 rfl (by simp) rfl
  ·simp [F235,h1,h2];exact j3 rfl (by simp) rfl
 ·simp [F235,h1];exact j3 rfl (by simp) rfl
def jbi (r:Int):Bool:=decide (127<r) || (r == 95) || WC r || (decide (97≤r) && decide (r≤122)) || (decide (65≤r) && decide (r≤90))
theorem ev266 (r:Int):Ev E 266 [.int .i32 r] (.bool (jbi r)):=by
 refine jT (af:=F266) rfl ?_
 unfold jbi
 by_cases h1:127<r
 ·simp [F266,h1]
  exact j3 rfl (by simp) rfl
 cases h2:(r == 95)
 ·simp [F266,h1,h2]
  refine XY (vs:=[.int .i32 r]) (by simp) rfl rfl (j89 r) ?_
  cases h3:WC r
  ·by_cases h4:97≤r
   ·by_cases h5:r≤122
    ·simp [h4,h5]
     exact j3 rfl (by simp) rfl
    ·have h6:65≤r:=by omega
     have h7:¬ r≤90:=by omega
     simp [h4,h5,h6,h7]
     exact j3 rfl (by simp) rfl
   ·by_cases h6:65≤r
    ·simp [h4,h6]
     exact j3 rfl (by simp) rfl
    ·simp [h4,h6]
     exact j3 rfl (by simp) rfl
  ·simp
   exact j3 rfl (by simp) rfl
 ·simp [F266,h1,h2]
  exact j3 rfl (by simp) rfl
end Go.Pv.T
namespace Go.Pv
open Go
def AOp.plainOp:AOp→Bool
 | .call .. | .callV .. | .entry _ | .nextMap _=>false
 | _=>true
def AOp.valOp:AOp→Bool
 | .mov _ | .pick .. | .bin .. | .eq .. | .un .. | .build .. | .load .. | .nilCheck _ | .fieldAddr .. | .idxSl .. | .idxArr .. | .part .. | .idxStr .. | .idxVal .. | .slStr .. | .slSl .. | .lenStr _ | .lenSl _ | .lenMap _ | .extract .. | .mkFn .. | .lookup .. | .iface .. | .assert .. | .conv .. | .minmax ..=>true
 | _=>false
def kDr (E:Env) (r:List AOpr) (K:List FP→St→Prop):St→Nat→Prop:=fun st ub=>jJ E r st ub K
def kFp (f:FP) (K:List FP→St→Prop):List FP→St→Prop:=fun fs s=>K (f::fs) s
def kDQ (free:List (Nat × Nat)) (Q:Ex→St→Prop):List FP→St→Prop:=fun fs s=>XI free fs=true∧jee fs=true∧Q .nrm s
def j8h (E:Env) (o:AOpr) (r:List AOpr) (st:St) (ub:Nat) (K:List FP→St→Prop):Bool→Prop
 | true=>jJ E (o::r) st ub K
 | false=>jJ E r (st.setT o.dst jx) (ub+64) (kFp {} K)
def Wq (E:Env) (r:List AOpr) (K:List FP→St→Prop) (ρ:A→V) (op:AOp) (st:St) (d:Option Nat) (ub:Nat):Delta→Prop:=fun δ=>jJ E r (st.app d δ) (ub+64) (kFp (jch ρ op δ) K)
theorem jie {call:FuncId→List V→Option V} {ρ:A→V} {ob:ZO} {tk:Nat→Bool} {ro du ub:Nat} {op:AOp} {δ:Delta} (h:op.valOp=true) (ha:aop call ρ ob tk ro du ub op=some δ):∃ v,δ = { v:=v }:=by
 have key:∀ {o:Option V},o.bind one=some δ→∃ v,δ = { v:=v }:=fun {o} hb=>by
  cases o with
  | none=>cases hb
  | some v=>cases hb;exact ⟨v,rfl⟩
 cases op <;> first | (cases h;done) | skip
 all_goals simp only [aop] at ha
 all_goals first
  | exact key ha
  | exact key (o:=some _) ha
  | (repeat' split at ha) <;> first | (cases ha;done) | exact key ha | exact key (o:=some _) ha | skip
 all_goals (try simp only [Option.bind_eq_some_iff] at ha)
 all_goals first
  | (obtain ⟨_,_,hb⟩:=ha;exact key (o:=some _) hb)
  | skip
 all_goals
  obtain ⟨_,_,x,_,hb⟩:=ha
  first | exact key (o:=some _) hb | (rcases x with _ | ⟨_,_⟩ <;> exact key (o:=some _) hb)
def kPin (E:Env) (fs:List AOpr) (st:St) (Q:Ex→St→Prop):St→Nat→Prop:=fun s ub=>jJ E fs s ub fun _ s'=>jcr fs st s'=true∧Q .nrm s'
def kPQ (fs:List AOpr) (st:St) (Q:Ex→St→Prop):List FP→St→Prop:=fun _ s'=>jcr fs st s'=true∧Q .nrm s'
section
variable {E:Env} {Yf:YF} {st:St} {ub:Nat} {K:List FP→St→Prop} {d:Option Nat} {nm:Bool} {Q:Ex→St→Prop} {r:List AOpr}
theorem j8j {o:AOpr} {fs:List AOpr}:wpC E Yf (.pin o fs) st Q=j9 E Yf o st st.nx (kPin E fs st Q):=propext Iff.rfl
theorem jwr {fs:List AOpr} {s:St}:kPin E fs st Q s ub=jJ E fs s ub (kPQ fs st Q):=propext Iff.rfl
theorem j1b {fs:List AOpr} {f:List FP} {s:St}:kPQ fs st Q f s=(jcr fs st s=true∧Q .nrm s):=propext Iff.rfl
theorem jqt {s s':St}:jcr [] s s'=true:=by simp [jcr]
theorem joc {op:AOp} {gd:Option (Nat × Bool)} {t:Nat} {fs:List AOpr} {s s':St}:jcr (⟨some t,op,gd,nm⟩::fs) s s'=(V.eqb (s.tm t) (s'.tm t) && jcr fs s s'):=by simp [jcr]
theorem jxm (v:V):V.eqb v v=true:=jc8 v
theorem j1g:kDr E r K st ub=jJ E r st ub K:=propext Iff.rfl
theorem j1e {f:FP} {fs:List FP}:kFp f K fs st=K (f::fs) st:=propext Iff.rfl
theorem j1n {free:List (Nat × Nat)} {fs:List FP}:kDQ free Q fs st=(XI free fs=true∧jee fs=true∧Q .nrm st):=propext Iff.rfl
theorem j1r {ops:List AOpr} {free:List (Nat × Nat)}:wpC E Yf (.draw ops free) st Q=jJ E ops st st.nx (kDQ free Q):=propext Iff.rfl
theorem j1f:jJ E [] st ub K=K [] (st.setN ub):=propext Iff.rfl
theorem jjs {o:AOpr}:j8h E o r st ub K true=jJ E (o::r) st ub K:=propext Iff.rfl
theorem jbt {o:AOpr}:j8h E o r st ub K false=jJ E r (st.setT o.dst jx) (ub+64) (kFp {} K):=propext Iff.rfl
theorem js3 {op:AOp} {t:Nat} {b:Bool}:jJ E (⟨d,op,some (t,b),nm⟩::r) st ub K=gdK (st.tm t) b (j8h E ⟨d,op,none,nm⟩ r st ub K):=by
 have hn:AOpr.name ⟨d,op,some (t,b),nm⟩=AOpr.name ⟨d,op,none,nm⟩:=rfl
 have ht:∀ c,st.tm t = .bool c→(jJ E (⟨d,op,some (t,b),nm⟩::r) st ub K=j8h E ⟨d,op,none,nm⟩ r st ub K (c == b)):=fun c hc=>by
  cases hcb:(c == b)
  ·have:wanted ⟨d,op,some (t,b),nm⟩ st.tm=some false:=by simp [wanted,hc,hcb]
   rw [jJ,this,jbt,← Q1];rfl
  ·have:wanted ⟨d,op,some (t,b),nm⟩ st.tm=some true:=by simp [wanted,hc,hcb]
   rw [jJ,this,jjs,jJ];rfl
 cases h:st.tm t with
 | bool c=>rw [ht c h];rfl
 | tup l=>cases l with
  | nil =>
   have:wanted ⟨d,op,some (t,b),nm⟩ st.tm=some false:=by simp [wanted,h]
   rw [jJ,this]
   show _=j8h E ⟨d,op,none,nm⟩ r st ub K false
   rw [jbt,← Q1];rfl
  | cons a l =>
   have:wanted ⟨d,op,some (t,b),nm⟩ st.tm=none:=by simp [wanted,h]
   rw [jJ,this];rfl
 | _ =>
  have:wanted ⟨d,op,some (t,b),nm⟩ st.tm=none:=by simp [wanted,h]
  rw [jJ,this];rfl
theorem Ja {op:AOp} (h:op.plainOp=true):jJ E (⟨d,op,none,nm⟩::r) st ub K=wpD (aop (fun _ _=>none) (eval E st.tm) st.ob st.tk st.ro (AOpr.name ⟨d,op,none,nm⟩ st.fb ub) ub op) (Wq E r K (eval E st.tm) op st d ub):=by
 cases op <;> first | cases h;done | (simp only [jJ,wanted,jB,AOp.far,true_and];rfl)
theorem Jn {op:AOp} (h:op.valOp=true):jJ E (⟨d,op,none,nm⟩::r) st ub K=j9 E Yf ⟨d,op,none,nm⟩ st ub (kDr E r (kFp { ro:=rdOb (eval E st.tm) op,rt:=rdTk (eval E st.tm) op } K)):=by
 have h1:op.plainOp=true:=by cases op <;> first | rfl | cases h
 have h2:op.isCall=false:=by cases op <;> first | rfl | cases h
 have h3:op.isNext=false:=by cases op <;> first | rfl | cases h
 rw [Ja h1,jS _ h2 h3]
 refine propext ⟨?_,?_⟩
 ·rintro ⟨δ,hδ,hk⟩
  obtain ⟨v,rfl⟩:=jie h hδ
  exact ⟨_,hδ,hk⟩
 ·rintro ⟨δ,hδ,hk⟩
  obtain ⟨v,rfl⟩:=jie h hδ
  exact ⟨_,hδ,hk⟩
theorem jwx {sz:Nat} {p x:A}:jJ E (⟨d,.store sz p x,none,nm⟩::r) st ub K=ja9 st sz (eval E st.tm x) (Wq E r K (eval E st.tm) (.store sz p x) st d ub) (eval E st.tm p):=by
 rw [Ja rfl]
 simp only [aop]
 generalize he:Wq E r K (eval E st.tm) (.store sz p x) st d ub=k
 clear he
 generalize eval E st.tm p=vp
 cases vp <;> simp only [Qu,ja9]
 rename_i l u off
 cases j1 st.ob l u with
 | none=>simp [wpD]
 | some cs=>simp only [Option.bind_some,jde,jN,Option.some.injEq,exists_eq_left',Nat.ble_eq,and_assoc]
theorem jw2 {z:List V}:jJ E (⟨d,.alloc z,none,nm⟩::r) st ub K=Wq E r K (eval E st.tm) (.alloc z) st d ub { v:=.ptr (jP d nm st.fb ub) ub 0,obs:=[(jP d nm st.fb ub,⟨ub,.cells z⟩)] }:=by
 rw [Ja rfl];simp only [aop,Jb,jN,Jz]
theorem j8f {sz:Nat} {x:A}:jJ E (⟨d,.box sz x,none,nm⟩::r) st ub K=(((eval E st.tm x).cells.length=sz∧(eval E st.tm x).cells.all V.leaf=true)∧Wq E r K (eval E st.tm) (.box sz x) st d ub { v:=.ptr (jP d nm st.fb ub) ub 0,obs:=[(jP d nm st.fb ub,⟨ub,.cells (eval E st.tm x).cells⟩)] }):=by
 rw [Ja rfl];simp only [aop,Jb,jde,jN,Jz]
theorem j1o {ρ:A→V} {op:AOp} {v:V}:Wq E r K ρ op st d ub { v:=v } = jJ E r (st.setT d v) (ub+64) (kFp (jch ρ op { v:=v }) K):=by rw [Wq,Q1]
theorem jtc {ρ:A→V} {op:AOp} {δ:Delta}:Wq E r K ρ op st d ub δ=jJ E r (st.app d δ) (ub+64) (kFp (jch ρ op δ) K):=propext Iff.rfl
theorem J0 {f:FuncId} {xs:List A} {args:List V} {v:V} (hev:Ev E f args v) (hx:(xs.map fun x=>(eval E st.tm x).strip)=args) (hs:E.sh nm f=false) (hp:args.all V.pureTop=true) (h:wpD (Xv ub v) (Wq E r K (eval E st.tm) (.call f xs) st d ub)) :
 jJ E (⟨d,.call f xs,none,nm⟩::r) st ub K:=by
 have hp':(xs.all fun x=>(eval E st.tm x).strip.pureTop)=true:=by rw [← hx,List.all_map] at hp;exact hp
 have hsh:jB E nm (eval E st.tm) (.call f xs)=none:=by simp only [jB,hs,hp',Bool.not_false,Bool.and_self,if_true]
 obtain ⟨δ,hδ,hk⟩:=h
 simp only [jJ,wanted,hsh,AOp.far,true_and]
 exact ⟨hp',v,hx ▸ hev,δ,hδ,hk⟩
theorem jV {K:St→Nat→Prop} {f:FuncId} {xs:List A} {args:List V} {v:V} (hev:Ev E f args v) (hx:(xs.map fun x=>(eval E st.tm x).strip)=args) (hs:E.sh nm f=false) (hp:args.all V.pureTop=true) (h:wpD (Xv ub v) (QP K st d ub)) :
 j9 E Yf ⟨d,.call f xs,none,nm⟩ st ub K:=by
 have hp':(xs.all fun x=>(eval E st.tm x).strip.pureTop)=true:=by rw [← hx,List.all_map] at hp;exact hp
 have hsh:jB E nm (eval E st.tm) (.call f xs)=none:=by simp only [jB,hs,hp',Bool.not_false,Bool.and_self,if_true]
 obtain ⟨δ,hδ,hk⟩:=h
 simp only [j9,wanted,jg,hsh,QR]
 exact ⟨by rw [hx];exact hp,v,hx ▸ hev,δ,hδ,hk⟩
end
/-! What a loop leaves alone. -/
def inR (t:Nat):List (Nat × Nat)→Bool
 | []=>false
 | (a,b)::l=>(decide (a≤t) && decide (t≤b)) || inR t l
@[simp] theorem inR_nil (t:Nat):inR t []=false:=rfl
@[simp] theorem inR_cons (t a b:Nat) (l:List (Nat × Nat)):inR t ((a,b)::l)=((decide (a≤t) && decide (t≤b)) || inR t l):=rfl
def C.ws:C→List Nat
 | .region ops | .draw ops _=>ops.filterMap (·.dst)
 | .pin o fs=>(o::fs).filterMap (·.dst)
 | .seq a b | .cond _ a b=>a.ws++b.ws
 | .block _ a | .loop a=>a.ws
 | _=>[]
def C.noRF:C→Bool
 | .rangeFunc ..=>false
 | .seq a b | .cond _ a b=>a.noRF && b.noRF
 | .block _ a | .loop a=>a.noRF
 | _=>true
structure Keeps (p:Nat→Prop) (st s:St):Prop where
 b:s.fb=st.fb
 r:s.ro=st.ro
 d:s.df=st.df
 t:∀ t,¬ p t→s.tm t=st.tm t
theorem Keeps.rfl' (p:Nat→Prop) (st:St):Keeps p st st:=⟨rfl,rfl,rfl,fun _ _=>rfl⟩
theorem Keeps.trans {p q q':Nat→Prop} {a b c:St} (h:Keeps p a b) (h':Keeps q b c) (hp:∀ t,p t→q' t) (hq:∀ t,q t→q' t):Keeps q' a c :=
 ⟨h'.b.trans h.b,h'.r.trans h.r,h'.d.trans h.d,fun t ht=>(h'.t t fun h=>ht (hq t h)).trans (h.t t fun h=>ht (hp t h))⟩
theorem Keeps.weak {p q:Nat→Prop} {a b:St} (h:Keeps p a b) (hp:∀ t,p t→q t):Keeps q a b:=⟨h.b,h.r,h.d,fun t ht=>h.t t fun h=>ht (hp t h)⟩
theorem jmt {tm:Nat→V} {d:Option Nat} {v:V} {t:Nat} (h:¬ t∈d.toList):put tm d v t=tm t:=by
 cases d with
 | none=>rfl
 | some d=>exact J2 tm v (fun e=>h (by simp [e]))
theorem Keeps.app {st:St} {d:Option Nat} {δ:Delta}:Keeps (·∈d.toList) st (st.app d δ):=⟨rfl,rfl,rfl,fun _ ht=>jmt ht⟩
section
variable {E:Env} {Yf:YF}
theorem jb3 {o:AOpr} {st:St} {ub:Nat} {K:St→Nat→Prop} (hk:j9 E Yf o st ub K):j9 E Yf o st ub fun s u=>K s u∧Keeps (·∈o.dst.toList) st s:=by
 have call:∀ {f:FuncId} {xs:List V},QR E f xs st o.dst ub K→QR E f xs st o.dst ub fun s u=>K s u∧Keeps (·∈o.dst.toList) st s:=by
  rintro f xs ⟨hp,v,hv,δ,hδ,hK⟩
  exact ⟨hp,v,hv,δ,hδ,hK,Keeps.app⟩
 unfold j9 at hk ⊢
 cases hw:wanted o st.tm with
 | none=>simp only [hw] at hk
 | some b =>
  cases b with
  | false=>simp only [hw] at hk ⊢;exact ⟨hk,rfl,rfl,rfl,fun _ ht=>jmt ht⟩
  | true =>
   simp only [hw] at hk ⊢
   cases hy:jg (eval E st.tm) o.op with
   | some x =>
    obtain ⟨l,u,xs⟩:=x
    simp only [hy] at hk ⊢
    obtain ⟨r,hr,hK⟩:=hk
    exact ⟨r,hr,hK,rfl,rfl,rfl,fun _ ht=>jmt ht⟩
   | none =>
   simp only [hy] at hk ⊢
   cases hsh:jB E o.nm (eval E st.tm) o.op with
   | some fx =>
    simp only [hsh] at hk ⊢
    rcases hk with ⟨h1,n,l,hr,hne,hK⟩ | ⟨h1,v,hv,δ,hδ,hK⟩
    ·exact .inl ⟨h1,n,l,hr,hne,fun r hm=>⟨hK r hm,rfl,rfl,rfl,fun _ ht=>jmt ht⟩⟩
    ·exact .inr ⟨h1,v,hv,δ,hδ,hK,Keeps.app⟩
   | none =>
    simp only [hsh] at hk ⊢
    cases ho:o.op <;> simp only [ho] at hk ⊢
    case call f xs=>exact call hk
    case callV q xs =>
     obtain ⟨f,first,captured,hev,hk⟩:=hk
     exact ⟨f,first,captured,hev,call hk⟩
    case nextMap x =>
     obtain ⟨l,hl,hK⟩:=hk
     exact ⟨l,hl,fun δ hδ=>⟨hK δ hδ,Keeps.app⟩⟩
    all_goals
     obtain ⟨δ,hδ,hK⟩:=hk
     exact ⟨δ,hδ,hK,Keeps.app⟩
theorem mem_ws_cons {o:AOpr} {r:List AOpr} {t:Nat}:t∈(o::r).filterMap (·.dst) ↔ t∈o.dst.toList∨t∈r.filterMap (·.dst):=by
 cases h:o.dst with
 | none=>simp [h]
 | some d=>simp [h]
theorem jdd:∀ {ops:List AOpr} {st:St} {ub:Nat} {K:St→Prop},WZ E Yf ops st ub K→WZ E Yf ops st ub fun s=>K s∧Keeps (·∈ops.filterMap (·.dst)) st s
 | [],st,ub,K,hk=>⟨hk,rfl,rfl,rfl,fun _ _=>rfl⟩
 | o::r,st,ub,K,hk=>by
  refine WE (fun s u h=>?_) (jb3 hk)
  refine jba (fun s' h'=>?_) (jdd h.1)
  exact ⟨h'.1,h.2.trans h'.2 (fun t ht=>mem_ws_cons.2 (.inl ht)) (fun t ht=>mem_ws_cons.2 (.inr ht))⟩
theorem Wf:∀ {ops:List AOpr} {st:St} {ub:Nat} {K:List FP→St→Prop},jJ E ops st ub K→jJ E ops st ub fun f s=>K f s∧Keeps (·∈ops.filterMap (·.dst)) st s
 | [],st,ub,K,hk=>⟨hk,rfl,rfl,rfl,fun _ _=>rfl⟩
 | o::r,st,ub,K,hk=>by
  have key:∀ {δ:Delta} {f:List FP→List FP} {ub:Nat},jJ E r (st.app o.dst δ) ub (fun fs s=>K (f fs) s)→jJ E r (st.app o.dst δ) ub fun fs s=>K (f fs) s∧Keeps (·∈(o::r).filterMap (·.dst)) st s:=fun h =>
   J9 (fun f s h'=>⟨h'.1,Keeps.app.trans h'.2 (fun t ht=>mem_ws_cons.2 (.inl ht)) (fun t ht=>mem_ws_cons.2 (.inr ht))⟩) (Wf h)
  unfold jJ at hk ⊢
  cases hw:wanted o st.tm with
  | none=>simp only [hw] at hk
  | some b =>
   cases b with
   | false=>simp only [hw] at hk ⊢;exact key (f:=fun fs=>{}::fs) hk
   | true =>
    simp only [hw] at hk ⊢
    cases hsh:jB E o.nm (eval E st.tm) o.op with
    | some fx =>
     simp only [hsh] at hk ⊢
     rcases hk with ⟨h1,v,hv,δ,hδ,hK⟩ | ⟨h1,h2,a',v,ha,hv,δ,hδ,hK⟩
     ·exact .inl ⟨h1,v,hv,δ,hδ,key (f:=fun fs=>{ wt:=δ.wt,all:=true,seen:=fun l=>(st.ob l).isSome }::fs) hK⟩
     ·exact .inr ⟨h1,h2,a',v,ha,hv,δ,hδ,key (f:=fun fs=>{ wo:=δ.wo,all:=true,seen:=fun l=>(st.ob l).isSome,nw:=true }::fs) hK⟩
    | none =>
     simp only [hsh] at hk ⊢
     refine ⟨hk.1,?_⟩
     have hk:=hk.2
     cases ho:o.op <;> simp only [ho] at hk ⊢
     case call f xs =>
      obtain ⟨h1,v,hv,δ,hδ,hK⟩:=hk
      exact ⟨h1,v,hv,δ,hδ,key (f:=fun fs=>jch (eval E st.tm) (.call f xs) δ::fs) hK⟩
     case callV q xs =>
      obtain ⟨f,first,captured,hev,h1,v,hv,δ,hδ,hK⟩:=hk
      exact ⟨f,first,captured,hev,h1,v,hv,δ,hδ,key (f:=fun fs=>jch (eval E st.tm) (.callV q xs) δ::fs) hK⟩
     all_goals
      obtain ⟨δ,hδ,hK⟩:=hk
      exact ⟨δ,hδ,key (f:=fun fs=>jch (eval E st.tm) _ δ::fs) hK⟩
theorem jp7:∀ {c:C},c.noRF=true→∀ {st:St} {Q:Ex→St→Prop},wpC E Yf c st Q→wpC E Yf c st fun e s=>Q e s∧Keeps (·∈c.ws) st s:=by
 intro c
 induction c with
 | skip=>intro _ st Q hk;exact ⟨hk,Keeps.rfl' _ _⟩
 | ret=>intro _ st Q hk;exact ⟨hk,Keeps.rfl' _ _⟩
 | exit id=>intro _ st Q hk;exact ⟨hk,Keeps.rfl' _ _⟩
 | stuck=>intro _ st Q hk;exact hk
 | rangeFunc f ps a b=>intro hn;cases hn
 | region ops=>intro _ st Q hk;exact jdd hk
 | draw ops free=>intro _ st Q hk;exact J9 (fun f s h=>⟨h.1.1,h.1.2.1,h.1.2.2,h.2⟩) (Wf hk)
 | pin o fs=>intro _ st Q hk;exact WE (fun s u h=>J9 (fun f s' h'=>⟨h'.1.1,h'.1.2,h.2.trans h'.2 (fun t ht=>mem_ws_cons.2 (.inl ht)) (fun t ht=>mem_ws_cons.2 (.inr ht))⟩) (Wf h.1)) (jb3 hk)
 | seq a b iha ihb =>
  intro hn st Q hk
  have hn:=Bool.and_eq_true_iff.1 hn
  rw [jyn]
  refine Jt (fun e s he=>?_) (iha hn.1 hk)
  obtain ⟨he,hf⟩:=he
  cases e
  ·refine Jt (fun e s' he'=>?_) (ihb hn.2 he)
   exact ⟨he'.1,hf.trans he'.2 (fun t ht=>List.mem_append.2 (.inl ht)) (fun t ht=>List.mem_append.2 (.inr ht))⟩
  ·exact ⟨he,hf.weak (fun t ht=>List.mem_append.2 (.inl ht))⟩
  ·exact ⟨he,hf.weak (fun t ht=>List.mem_append.2 (.inl ht))⟩
 | cond q a b iha ihb =>
  intro hn st Q hk
  have hn:=Bool.and_eq_true_iff.1 hn
  obtain ⟨t,ht,h1,h2⟩:=hk
  exact ⟨t,ht,fun e=>Jt (fun e s he=>⟨he.1,he.2.weak (fun t ht=>List.mem_append.2 (.inl ht))⟩) (iha hn.1 (h1 e)),
   fun e=>Jt (fun e s he=>⟨he.1,he.2.weak (fun t ht=>List.mem_append.2 (.inr ht))⟩) (ihb hn.2 (h2 e))⟩
 | block id a ih =>
  intro hn st Q hk
  rw [jne]
  refine Jt (fun e s he=>?_) (ih hn hk)
  obtain ⟨he,hf⟩:=he
  cases e
  ·exact ⟨he,hf⟩
  ·simp only [jjt] at he ⊢
   split at he
   ·rename_i hi;simp only [hi,if_true];exact ⟨he,hf⟩
   ·rename_i hi;simp only [hi,if_false];exact ⟨he,hf⟩
  ·exact ⟨he,hf⟩
 | loop a ih =>
  intro hn st Q hk
  obtain ⟨N,hk⟩:=hk
  refine ⟨N,?_⟩
  have key:∀ (N:Nat) (st:St),YG (wpC E Yf a) N st Q→YG (wpC E Yf a) N st fun e s=>Q e s∧Keeps (·∈a.ws) st s:=by
   intro N
   induction N with
   | zero=>intro st h;exact h
   | succ N ihN =>
    intro st h
    refine Jt (fun e s he=>?_) (ih hn h)
    obtain ⟨he,hf⟩:=he
    cases e
    ·exact Qc (W:=wpC E Yf a) (fun _ _ _ h hk=>Jt h hk) (fun e s' he'=>⟨he'.1,hf.trans he'.2 (fun _ h=>h) (fun _ h=>h)⟩) (ihN s he)
    ·exact ⟨he,hf⟩
    ·exact ⟨he,hf⟩
  exact key N st hk
theorem Y3 {a:C} {Q:Ex→St→Prop} {n:Nat} {st:St} (ws:List (Nat × Nat)) (I:Nat→St→Prop) (hn:a.noRF=true) (hw:(a.ws.all fun t=>inR t ws)=true) (h0:I n st)
 (hs:∀ k s,I k s→Keeps (fun t=>inR t ws=true) st s→wpC E Yf a s (js0 I k Q)):wpC E Yf (.loop a) st Q:=by
 refine Yd (fun k s=>I k s∧Keeps (fun t=>inR t ws=true) st s) (n:=n) ⟨h0,Keeps.rfl' _ _⟩ fun k s ⟨hI,hf⟩=>?_
 refine Jt (fun e s' he=>?_) (jp7 hn (hs k s hI hf))
 obtain ⟨he,hf'⟩:=he
 cases e
 ·obtain ⟨j,hj,hI'⟩:=he
  exact ⟨j,hj,hI',hf.trans hf' (fun _ h=>h) (fun t ht=>List.all_eq_true.1 hw t ht)⟩
 ·exact he
 ·exact he
def kUp (I:Nat→St→Prop) (N i:Nat) (Q:Ex→St→Prop):Ex→St→Prop:=fun e s=>match e with
 | .nrm=>i<N∧I (i+1) s
 | e=>Q e s
theorem jE {a:C} {Q:Ex→St→Prop} {st:St} (ws:List (Nat × Nat)) (N:Nat) (I:Nat→St→Prop) (hn:a.noRF=true) (hw:(a.ws.all fun t=>inR t ws)=true) (h0:I 0 st)
 (hs:∀ i s,i≤N→I i s→Keeps (fun t=>inR t ws=true) st s→wpC E Yf a s (kUp I N i Q)):wpC E Yf (.loop a) st Q:=by
 refine Y3 (n:=N) ws (fun k s=>∃ i,k=N - i∧i≤N∧I i s) hn hw ⟨0,rfl,Nat.zero_le _,h0⟩ ?_
 rintro k s ⟨i,rfl,hi,hI⟩ hf
 refine Jt (fun e s' he=>?_) (hs i s hi hI hf)
 cases e
 ·obtain ⟨h1,h2⟩:=he
  exact ⟨N - (i+1),by omega,i+1,rfl,by omega,h2⟩
 ·exact he
 ·exact he
end
theorem j03 {I:Nat→St→Prop} {N i:Nat} {Q:Ex→St→Prop} {st:St}:kUp I N i Q .nrm st=(i<N∧I (i+1) st):=propext Iff.rfl
theorem jwd {I:Nat→St→Prop} {N i j:Nat} {Q:Ex→St→Prop} {st:St}:kUp I N i Q (.exit j) st=Q (.exit j) st:=propext Iff.rfl
theorem j02 {I:Nat→St→Prop} {N i:Nat} {Q:Ex→St→Prop} {st:St}:kUp I N i Q .ret st=Q .ret st:=propext Iff.rfl
theorem jr3:jr4 []=true:=rfl
theorem jo0 (f:FP) (fs:List FP):jr4 (f::fs)=(!f.nw && jr4 fs):=rfl
theorem j11 (ρ:A→V) (o:AOp) (δ:Delta):(jch ρ o δ).nw=false:=rfl
theorem jle {fs:List FP} (h:jr4 fs=true):jee fs=true:=by simp only [jee,h,Bool.true_or]
theorem jpk (fs:List FP):XI [] fs=true:=rfl
section
variable {E:Env} {st:St} {ub:Nat} {K:List FP→St→Prop} {d:Option Nat} {nm:Bool} {r:List AOpr}
theorem j8e {x:A}:jJ E (⟨d,.mov x,none,nm⟩::r) st ub K=j9 E noYF ⟨d,.mov x,none,nm⟩ st ub (kDr E r (kFp { ro:=rdOb (eval E st.tm) (.mov x),rt:=rdTk (eval E st.tm) (.mov x) } K)):=Jn rfl
theorem j1i {c a b:A}:jJ E (⟨d,.pick c a b,none,nm⟩::r) st ub K=j9 E noYF ⟨d,.pick c a b,none,nm⟩ st ub (kDr E r (kFp { ro:=rdOb (eval E st.tm) (.pick c a b),rt:=rdTk (eval E st.tm) (.pick c a b) } K)):=Jn rfl
theorem j8g {op:BinOp} {x y:A}:jJ E (⟨d,.bin op x y,none,nm⟩::r) st ub K=j9 E noYF ⟨d,.bin op x y,none,nm⟩ st ub (kDr E r (kFp { ro:=rdOb (eval E st.tm) (.bin op x y),rt:=rdTk (eval E st.tm) (.bin op x y) } K)):=Jn rfl
theorem kD_eq {neg:Bool} {k:EqK} {x y:A}:jJ E (⟨d,.eq neg k x y,none,nm⟩::r) st ub K=j9 E noYF ⟨d,.eq neg k x y,none,nm⟩ st ub (kDr E r (kFp { ro:=rdOb (eval E st.tm) (.eq neg k x y),rt:=rdTk (eval E st.tm) (.eq neg k x y) } K)):=Jn rfl
theorem kD_un {op:UnOp} {x:A}:jJ E (⟨d,.un op x,none,nm⟩::r) st ub K=j9 E noYF ⟨d,.un op x,none,nm⟩ st ub (kDr E r (kFp { ro:=rdOb (eval E st.tm) (.un op x),rt:=rdTk (eval E st.tm) (.un op x) } K)):=Jn rfl
theorem jw1 {z:List V} {ps:List (Nat × Nat × A)}:jJ E (⟨d,.build z ps,none,nm⟩::r) st ub K=j9 E noYF ⟨d,.build z ps,none,nm⟩ st ub (kDr E r (kFp { ro:=rdOb (eval E st.tm) (.build z ps),rt:=rdTk (eval E st.tm) (.build z ps) } K)):=Jn rfl
theorem j1l {g:Option Nat} {x:A}:jJ E (⟨d,.load g x,none,nm⟩::r) st ub K=j9 E noYF ⟨d,.load g x,none,nm⟩ st ub (kDr E r (kFp { ro:=rdOb (eval E st.tm) (.load g x),rt:=rdTk (eval E st.tm) (.load g x) } K)):=Jn rfl
theorem jlo {x:A}:jJ E (⟨d,.nilCheck x,none,nm⟩::r) st ub K=j9 E noYF ⟨d,.nilCheck x,none,nm⟩ st ub (kDr E r (kFp { ro:=rdOb (eval E st.tm) (.nilCheck x),rt:=rdTk (eval E st.tm) (.nilCheck x) } K)):=Jn rfl
theorem jjq {o:Nat} {x:A}:jJ E (⟨d,.fieldAddr o x,none,nm⟩::r) st ub K=j9 E noYF ⟨d,.fieldAddr o x,none,nm⟩ st ub (kDr E r (kFp { ro:=rdOb (eval E st.tm) (.fieldAddr o x),rt:=rdTk (eval E st.tm) (.fieldAddr o x) } K)):=Jn rfl
theorem jw0 {sz:Nat} {x i:A}:jJ E (⟨d,.idxSl sz x i,none,nm⟩::r) st ub K=j9 E noYF ⟨d,.idxSl sz x i,none,nm⟩ st ub (kDr E r (kFp { ro:=rdOb (eval E st.tm) (.idxSl sz x i),rt:=rdTk (eval E st.tm) (.idxSl sz x i) } K)):=Jn rfl
theorem jtb {len sz:Nat} {x i:A}:jJ E (⟨d,.idxArr len sz x i,none,nm⟩::r) st ub K=j9 E noYF ⟨d,.idxArr len sz x i,none,nm⟩ st ub (kDr E r (kFp { ro:=rdOb (eval E st.tm) (.idxArr len sz x i),rt:=rdTk (eval E st.tm) (.idxArr len sz x i) } K)):=Jn rfl
theorem j1j {g:Option Nat} {o:Nat} {x:A}:jJ E (⟨d,.part g o x,none,nm⟩::r) st ub K=j9 E noYF ⟨d,.part g o x,none,nm⟩ st ub (kDr E r (kFp { ro:=rdOb (eval E st.tm) (.part g o x),rt:=rdTk (eval E st.tm) (.part g o x) } K)):=Jn rfl
theorem jta {x i:A}:jJ E (⟨d,.idxStr x i,none,nm⟩::r) st ub K=j9 E noYF ⟨d,.idxStr x i,none,nm⟩ st ub (kDr E r (kFp { ro:=rdOb (eval E st.tm) (.idxStr x i),rt:=rdTk (eval E st.tm) (.idxStr x i) } K)):=Jn rfl
theorem jwy {x:A} {lo hi:Option A}:jJ E (⟨d,.slStr x lo hi,none,nm⟩::r) st ub K=j9 E noYF ⟨d,.slStr x lo hi,none,nm⟩ st ub (kDr E r (kFp { ro:=rdOb (eval E st.tm) (.slStr x lo hi),rt:=rdTk (eval E st.tm) (.slStr x lo hi) } K)):=Jn rfl
theorem j1h {sz:Nat} {x:A} {lo hi:Option A}:jJ E (⟨d,.slSl sz x lo hi,none,nm⟩::r) st ub K=j9 E noYF ⟨d,.slSl sz x lo hi,none,nm⟩ st ub (kDr E r (kFp { ro:=rdOb (eval E st.tm) (.slSl sz x lo hi),rt:=rdTk (eval E st.tm) (.slSl sz x lo hi) } K)):=Jn rfl
theorem js8 {x:A}:jJ E (⟨d,.lenStr x,none,nm⟩::r) st ub K=j9 E noYF ⟨d,.lenStr x,none,nm⟩ st ub (kDr E r (kFp { ro:=rdOb (eval E st.tm) (.lenStr x),rt:=rdTk (eval E st.tm) (.lenStr x) } K)):=Jn rfl
theorem jwz {x:A}:jJ E (⟨d,.lenSl x,none,nm⟩::r) st ub K=j9 E noYF ⟨d,.lenSl x,none,nm⟩ st ub (kDr E r (kFp { ro:=rdOb (eval E st.tm) (.lenSl x),rt:=rdTk (eval E st.tm) (.lenSl x) } K)):=Jn rfl
theorem js9 {x:A}:jJ E (⟨d,.lenMap x,none,nm⟩::r) st ub K=j9 E noYF ⟨d,.lenMap x,none,nm⟩ st ub (kDr E r (kFp { ro:=rdOb (eval E st.tm) (.lenMap x),rt:=rdTk (eval E st.tm) (.lenMap x) } K)):=Jn rfl
theorem jo9 {x:A} {i:Nat}:jJ E (⟨d,.extract x i,none,nm⟩::r) st ub K=j9 E noYF ⟨d,.extract x i,none,nm⟩ st ub (kDr E r (kFp { ro:=rdOb (eval E st.tm) (.extract x i),rt:=rdTk (eval E st.tm) (.extract x i) } K)):=Jn rfl
theorem j1k {f:Fn} {a b:List A}:jJ E (⟨d,.mkFn f a b,none,nm⟩::r) st ub K=j9 E noYF ⟨d,.mkFn f a b,none,nm⟩ st ub (kDr E r (kFp { ro:=rdOb (eval E st.tm) (.mkFn f a b),rt:=rdTk (eval E st.tm) (.mkFn f a b) } K)):=Jn rfl
theorem js7 {q:LK} {z:V} {ok:Bool} {m k:A}:jJ E (⟨d,.lookup q z ok m k,none,nm⟩::r) st ub K=j9 E noYF ⟨d,.lookup q z ok m k,none,nm⟩ st ub (kDr E r (kFp { ro:=rdOb (eval E st.tm) (.lookup q z ok m k),rt:=rdTk (eval E st.tm) (.lookup q z ok m k) } K)):=Jn rfl
theorem j1m {k:IntKind} {x:A}:jJ E (⟨d,.conv k x,none,nm⟩::r) st ub K=j9 E noYF ⟨d,.conv k x,none,nm⟩ st ub (kDr E r (kFp { ro:=rdOb (eval E st.tm) (.conv k x),rt:=rdTk (eval E st.tm) (.conv k x) } K)):=Jn rfl
theorem js5 {b:Bool} {xs:List A}:jJ E (⟨d,.minmax b xs,none,nm⟩::r) st ub K=j9 E noYF ⟨d,.minmax b xs,none,nm⟩ st ub (kDr E r (kFp { ro:=rdOb (eval E st.tm) (.minmax b xs),rt:=rdTk (eval E st.tm) (.minmax b xs) } K)):=Jn rfl
end
attribute [simp ↓] j8j jwr j1b j1r j1f js3 jwx jw2 j8f j8e j1i j8g kD_eq kD_un jw1 j1l jlo jjq jw0 jtb j1j jta jwy j1h js8 jwz js9 jo9 j1k js7 j1m js5
attribute [simp ↓] j1g j1e j1n jjs jbt j1o jtc j03 jwd j02
attribute [simp] jqt joc jxm jpk jr3 jo0 j11 jle
def kL (E:Env) (Yf:YF) (a:C) (n:Nat) (Q:Ex→St→Prop):Ex→St→Prop:=fun e s=>match e with
 | .nrm=>YG (wpC E Yf a) n s Q
 | e=>Q e s
section
variable {E:Env} {Yf:YF} {a:C} {Q:Ex→St→Prop} {s:St} {n:Nat}
theorem j8c:kL E Yf a n Q .nrm s=YG (wpC E Yf a) n s Q:=propext Iff.rfl
theorem j1c {i:Nat}:kL E Yf a n Q (.exit i) s=Q (.exit i) s:=propext Iff.rfl
theorem j8b:kL E Yf a n Q .ret s=Q .ret s:=propext Iff.rfl
theorem juo:YG (wpC E Yf a) 1 s Q=wpC E Yf a s (kL E Yf a 0 Q):=propext Iff.rfl
theorem jun:YG (wpC E Yf a) 2 s Q=wpC E Yf a s (kL E Yf a 1 Q):=propext Iff.rfl
theorem jum:YG (wpC E Yf a) 3 s Q=wpC E Yf a s (kL E Yf a 2 Q):=propext Iff.rfl
theorem jul:YG (wpC E Yf a) 4 s Q=wpC E Yf a s (kL E Yf a 3 Q):=propext Iff.rfl
theorem jdc (n:Nat) (h:YG (wpC E Yf a) n s Q):wpC E Yf (.loop a) s Q:=⟨n,h⟩
end
def jy8 (k:List UInt8→Prop):V→Prop
 | .str s=>k s
 | _=>False
@[simp] theorem j3n (k:List UInt8→Prop) (s:List UInt8):jy8 k (.str s)=k s:=rfl
def MP {α:Type} (f:α→V) (m:List (Int × α)):List (V × V):=m.map fun p=>(.int .i64 p.1,f p.2)
def jW {α:Type}:List (Int × α)→Int→Option (Nat × α)
 | [],_=>none
 | (k',a)::m,k=>if k=k' then some (0,a) else (jW m k).map fun p=>(p.1+1,p.2)
def mset {α:Type} (m:List (Int × α)) (k:Int) (a:α):List (Int × α):=match jW m k with
 | some (i,_)=>m.set i (k,a)
 | none=>m++[(k,a)]
theorem W9 {α:Type} (f:α→V) (k:Int):∀ m:List (Int × α),findKey .int (.int .i64 k) (MP f m)=some ((jW m k).map fun p=>(p.1,f p.2))
 | []=>rfl
 | (k',a)::m=>by
  have ih:=W9 f k m
  unfold MP at ih ⊢
  simp only [List.map_cons,findKey,Wx,if_true,jW]
  by_cases h:k=k'
  ·simp [h]
  ·rw [if_neg h,show (k == k')=false by simpa using h]
   simp only [ih,Option.map_some,Option.map_map]
   rfl
@[simp] theorem MP_length {α:Type} (f:α→V) (m:List (Int × α)):(MP f m).length=m.length:=by simp [MP]
def intV (n:Int):V:=.int .i64 n
def JY (m:List (Int × Int)) (k:Int):Int:=((jW m k).map (·.2)).getD 0
theorem W5 {α:Type} {f:α→V} {ob:ZO} {l u:Nat} {z:V} {ok:Bool} {k:Int} (m:List (Int × α)) (h:je ob l u=some (MP f m)) :
 Xx ob .int z ok (.map l u) (.int .i64 k)=some (match jW m k with | some p=>if ok then .tup [f p.2,.bool true] else f p.2 | none=>if ok then .tup [z,.bool false] else z):=by
 simp only [Xx,jaw,if_true,h,Option.bind_some,W9,Option.map_some]
 cases jW m k <;> rfl
theorem YC {ob:ZO} {l u:Nat} {k:Int} (m:List (Int × Int)) (h:je ob l u=some (MP intV m)):Xx ob .int (.int .i64 0) false (.map l u) (.int .i64 k)=some (.int .i64 (JY m k)):=by
 rw [W5 m h,JY]
 cases jW m k <;> rfl
section
variable {E:Env} {Yf:YF} {st:St} {ub:Nat} {K:St→Nat→Prop} {d:Option Nat} {nm:Bool}
theorem jll {x:A}:j9 E Yf ⟨d,.range true x,none,nm⟩ st ub K=jy8 (fun s=>QP K st d ub { v:=.iter (jP d nm st.fb ub) ub,obs:=[(jP d nm st.fb ub,⟨ub,.siter s 0⟩)] }) (eval E st.tm x):=by
 rw [jS _ rfl rfl]
 simp only [aop,Jz]
 cases eval E st.tm x <;> simp only [Qu,jy8,Jb,jN]
 rfl
theorem jo6 {x:A} {l u pos:Nat} {s:List UInt8} (hx:eval E st.tm x = .iter l u) (ho:st.ob l=some ⟨u,.siter s pos⟩) (hro:st.ro≤u)
 (h1:pos<s.length→QP K st d ub { v:=.tup [.bool true,.int .i64 pos,.int .i32 ((Utf8.decode ⟨s.toArray⟩ pos).1:Nat)],obs:=[(l,⟨u,.siter s (pos+(Utf8.decode ⟨s.toArray⟩ pos).2)⟩)] })
 (h2:¬ pos<s.length→QC K st d ub (.tup [.bool false])):j9 E Yf ⟨d,.nextStr x,none,nm⟩ st ub K:=by
 rw [jS _ rfl rfl]
 simp only [aop,hx,ho]
 rw [if_pos (by simpa using hro)]
 by_cases h:pos<s.length
 ·rw [if_pos h,jN];exact h1 h
 ·rw [if_neg h,WF,Q1];exact h2 h
theorem jwj:j9 E Yf ⟨d,.mkMap,none,nm⟩ st ub K=QP K st d ub { v:=.map (jP d nm st.fb ub) ub,obs:=[(jP d nm st.fb ub,⟨ub,.mp 0 []⟩)] }:=by
 rw [jS _ rfl rfl]
 simp only [aop,Jb,jN,Jz]
 rfl
theorem W6 {α:Type} {f:α→V} {x y z:A} {l u ver:Nat} {k:Int} {a:α} (m:List (Int × α)) (hm:eval E st.tm x = .map l u) (hk:eval E st.tm y = .int .i64 k) (hv:(eval E st.tm z).strip=f a)
 (ho:st.ob l=some ⟨u,.mp ver (MP f m)⟩) (hro:st.ro≤u) (h:QP K st d ub { v:=jx,obs:=[(l,⟨u,.mp (ver+1) (MP f (mset m k a))⟩)] }):j9 E Yf ⟨d,.mapSet .int x y z,none,nm⟩ st ub K:=by
 have hob:je st.ob l u=some (MP f m):=by simp [je,ho]
 have hver:J7 st.ob l=ver:=by simp [J7,ho]
 rw [jS _ rfl rfl]
 simp only [aop,hm,hk,jaw,if_true,hob,Option.bind_some,W9,hver,hv]
 rw [if_pos (by simpa using hro)]
 unfold mset at h
 cases hf:jW m k with
 | none =>
  rw [hf] at h
  simp only [Option.map_none,jN]
  simpa [MP] using h
 | some p =>
  rw [hf] at h
  simp only [Option.map_some,jN]
  have e:(MP f m).set p.1 (V.int .i64 k,f a)=MP f (m.set p.1 (k,a)):=by simp [MP,List.map_set]
  rw [e]
  exact h
end
attribute [simp ↓] j8c j1c j8b juo jun jum jul jll jwj
@[simp] theorem j0z (ob:ZO) (l u:Nat):jhl ob (.map l u)=(je ob l u).map fun es=>.int .i64 es.length:=rfl
def jfq (l:List Int) (k:Int):List Int:=if k∈l then l else l++[k]
def dd (l:List Int):List Int:=l.foldl jfq []
theorem jtq (l:List Int) (k:Int):dd (l++[k])=jfq (dd l) k:=by simp [dd]
theorem mfind_none {α:Type} {m:List (Int × α)} {k:Int}:jW m k=none ↔ k ∉ m.map (·.1):=by
 induction m with
 | nil=>simp [jW]
 | cons p m ih =>
  obtain ⟨k',a⟩:=p
  by_cases h:k=k'
  ·simp [jW,h]
  ·simp [jW,h,ih]
theorem jo1 {α:Type} {m:List (Int × α)} {k:Int} {i:Nat} {a:α} (h:jW m k=some (i,a)):∃ hi:i<m.length,m[i]=(k,a):=by
 induction m generalizing i with
 | nil=>cases h
 | cons p m ih =>
  obtain ⟨k',a'⟩:=p
  by_cases hk:k=k'
  ·simp only [jW,hk,if_true,Option.some.injEq,Prod.mk.injEq] at h
   obtain ⟨rfl,rfl⟩:=h
   exact ⟨by simp,by simp [hk]⟩
  ·simp only [jW,hk,if_false,Option.map_eq_some_iff,Prod.mk.injEq] at h
   obtain ⟨⟨j,b⟩,hj,rfl,rfl⟩:=h
   obtain ⟨h1,h2⟩:=ih hj
   exact ⟨by simpa using h1,by simpa using h2⟩
theorem jef {α:Type} (m:List (Int × α)) (k:Int) (a:α):(mset m k a).map (·.1)=jfq (m.map (·.1)) k:=by
 unfold mset jfq
 cases h:jW m k with
 | none=>rw [if_neg (mfind_none.1 h)];simp
 | some p =>
  obtain ⟨i,b⟩:=p
  obtain ⟨hi,hb⟩:=jo1 h
  have hmem:k∈m.map (·.1):=List.mem_map.2 ⟨_,List.getElem_mem hi,by rw [hb]⟩
  rw [if_pos hmem,List.map_set]
  apply List.ext_getElem (by simp)
  intro j h1 h2
  simp only [List.getElem_set,List.getElem_map]
  split
  ·rename_i hij;subst hij;rw [hb]
  ·rfl
theorem jjf {l:List Int} {k x:Int}:x∈jfq l k ↔ x∈l∨x=k:=by
 unfold jfq
 split
 ·constructor
  ·exact .inl
  ·rintro (h | rfl) <;> assumption
 ·simp
theorem mem_dd {l:List Int} {x:Int}:x∈dd l ↔ x∈l:=by
 have key:∀ (l acc:List Int),x∈l.foldl jfq acc ↔ x∈acc∨x∈l:=by
  intro l
  induction l with
  | nil=>intro acc;simp
  | cons a l ih=>intro acc;simp only [List.foldl_cons,ih,jjf,List.mem_cons,or_assoc]
 simpa [dd] using key l []
theorem jld {l:List Int} {k:Int} (h:l.Nodup):(jfq l k).Nodup:=by
 unfold jfq
 split
 ·exact h
 ·rename_i hk
  rw [List.nodup_append]
  refine ⟨h,by simp,?_⟩
  intro a ha b hb e
  simp only [List.mem_singleton] at hb
  subst hb
  subst e
  exact hk ha
theorem jv0 (l:List Int):(dd l).Nodup:=by
 have key:∀ (l acc:List Int),acc.Nodup→(l.foldl jfq acc).Nodup:=by
  intro l
  induction l with
  | nil=>intro acc h;exact h
  | cons a l ih=>intro acc h;exact ih _ (jld h)
 exact key l [] List.nodup_nil
theorem jyb:∀ (n:Nat) (l:List Int),l.Nodup→(∀ x∈l,0≤x∧x<n)→l.length≤n∧(l.length=n ↔ ∀ k:Nat,k<n→(k:Int)∈l)
 | 0,l,hn,hb=>by
  have:l=[]:=by
   cases l with
   | nil=>rfl
   | cons a l=>have:=hb a (by simp);omega
  subst this
  simp
 | n+1,l,hn,hb=>by
  have hn':(l.erase (n:Int)).Nodup:=hn.erase _
  have hb':∀ x∈l.erase (n:Int),0≤x∧x<n:=fun x hx=>by
   have h1:=hb x (List.mem_of_mem_erase hx)
   have h2:x≠n:=fun e=>by subst e;exact (List.Nodup.not_mem_erase hn) hx
   omega
  obtain ⟨h1,h2⟩:=jyb n _ hn' hb'
  by_cases hm:(n:Int)∈l
  ·have hl:=List.length_erase_of_mem hm
   have hp:0<l.length:=List.length_pos_of_mem hm
   refine ⟨by omega,?_⟩
   constructor
   ·intro e k hk
    rcases Nat.lt_succ_iff_lt_or_eq.1 hk with h | rfl
    ·exact List.mem_of_mem_erase (h2.1 (by omega) k h)
    ·exact hm
   ·intro hall
    have:=h2.2 (fun k hk=>(List.Nodup.mem_erase_iff hn).2 ⟨by omega,hall k (by omega)⟩)
    omega
  ·rw [List.erase_of_not_mem hm] at h1 h2
   refine ⟨by omega,?_⟩
   constructor
   ·intro e;omega
   ·intro hall;exact absurd (hall n (by omega)) hm
end Go.Pv
namespace Go.Pv.T
open Go Go.Pv
def jR (n b0 b1 b2 b3:Nat):Nat × Nat :=
 if b0<128 then (1,b0)
 else if 194≤b0∧b0≤223 then (if n<2∨b1<128∨191<b1 then (1,65533) else (2,64 * (b0 - 192)+b1 - 128))
 else if 224≤b0∧b0≤239 then (if n<3∨b1<128∨191<b1∨b2<128∨191<b2 then (1,65533) else
  if 64 * (64 * (b0 - 224)+b1 - 128)+b2 - 128<2048∨55296≤64 * (64 * (b0 - 224)+b1 - 128)+b2 - 128∧64 * (64 * (b0 - 224)+b1 - 128)+b2 - 128≤57343 then (1,65533) else (3,64 * (64 * (b0 - 224)+b1 - 128)+b2 - 128))
 else if 240≤b0∧b0≤244 then (if n<4∨b1<128∨191<b1∨b2<128∨191<b2∨b3<128∨191<b3 then (1,65533) else
  if 64 * (64 * (64 * (b0 - 240)+b1 - 128)+b2 - 128)+b3 - 128<65536∨1114111<64 * (64 * (64 * (b0 - 240)+b1 - 128)+b2 - 128)+b3 - 128 then (1,65533) else (4,64 * (64 * (64 * (b0 - 240)+b1 - 128)+b2 - 128)+b3 - 128))
 else (1,65533)
set_option maxHeartbeats 4000000 in
theorem jq1 (n b0 b1 b2 b3:Nat) (_:1≤n) (h0:b0<256) (h1:b1<256) (h2:b2<256) (h3:b3<256):jR n b0 b1 b2 b3=((Lib.decodeN n b0 b1 b2 b3).2,(Lib.decodeN n b0 b1 b2 b3).1):=by
 unfold jR Lib.decodeN
 repeat' split
 all_goals first | (exfalso;omega) | (apply Prod.ext <;> simp only <;> omega)
theorem j9k {a b:Int} (h:a<b):decide (a<b)=true:=decide_eq_true h
theorem jpl {a b:Int} (h:b≤a):decide (a<b)=false:=decide_eq_false (by omega)
theorem jpm {a b:Int} (h:a≤b):decide (a≤b)=true:=decide_eq_true h
theorem jfp {a b:Int} (h:b<a):decide (a≤b)=false:=decide_eq_false (by omega)
theorem Xr {s:List UInt8} {i:Nat} {x:Int} (kk:IntKind) (h:i<s.length) (hx:x=(i:Int)):Ws (.str s) (.int kk x)=some (.int .u8 ((s.getD i 0).toNat:Nat)):=by
 subst hx
 simp [Ws,List.getElem?_eq_getElem h,List.getD]
set_option maxHeartbeats 8000000 in
theorem ev273 (s:List UInt8) (hs:s.length≤1000000) (p:Nat) (h:p<s.length):Ev E 273 [.str s,.int .i64 p]
 (.tup [.int .i64 ((jR (s.length - p) (s.getD p 0).toNat (s.getD (p+1) 0).toNat (s.getD (p+2) 0).toNat (s.getD (p+3) 0).toNat).1:Nat),
  .int .i64 ((jR (s.length - p) (s.getD p 0).toNat (s.getD (p+1) 0).toNat (s.getD (p+2) 0).toNat (s.getD (p+3) 0).toNat).2:Nat)]):=by
 have g0:=Xr (s:=s) (x:=(p:Int)) .i64 h rfl
 have g1:p+1<s.length→_:=fun h=>Xr (s:=s) (x:=(p:Int)+1) .i64 h (by simp)
 have g2:p+2<s.length→_:=fun h=>Xr (s:=s) (x:=(p:Int)+2) .i64 h (by simp)
 have g3:p+3<s.length→_:=fun h=>Xr (s:=s) (x:=(p:Int)+3) .i64 h (by simp)
 have l0:=(s.getD p 0).toNat_lt
 have l1:=(s.getD (p+1) 0).toNat_lt
 have l2:=(s.getD (p+2) 0).toNat_lt
 have l3:=(s.getD (p+3) 0).toNat_lt
 generalize (s.getD p 0).toNat=c0 at *
 generalize (s.getD (p+1) 0).toNat=c1 at *
 generalize (s.getD (p+2) 0).toNat=c2 at *
 generalize (s.getD (p+3) 0).toNat=c3 at *
 have w0:IntKind.i64.wrap (c0:Int)=c0:=J8 (by omega) (by omega)
 have w1:IntKind.i64.wrap (c1:Int)=c1:=J8 (by omega) (by omega)
 have w2:IntKind.i64.wrap (c2:Int)=c2:=J8 (by omega) (by omega)
 have w3:IntKind.i64.wrap (c3:Int)=c3:=J8 (by omega) (by omega)
 refine jT (af:=F273) rfl ?_
 simp [F273,g0,XR,w0]
 by_cases a1:(c0:Int)<128
 ·simp [a1]
  exact JS rfl (by simp [jR,show c0<128 by omega]) (by simp [jR,show c0<128 by omega]) rfl rfl
 have v0:∀ x:Int,-1000000000≤x→x≤1000000000→IntKind.i64.wrap x=x:=fun x h h'=>J8 (by omega) (by omega)
 by_cases k2:194≤(c0:Int)∧(c0:Int)≤223
 ·obtain ⟨k2a,k2b⟩:=k2
  by_cases hl:(s.length:Int)<(p:Int)+2
  ·simp (disch:=omega) [a1,k2a,k2b,hl,v0,jfp,List.getElem?_cons_zero]
   exact JS     rfl (by simp;unfold jR    ;repeat' split
                        all_goals omega) (by simp;unfold jR    ;repeat' split
                                             all_goals omega) rfl rfl
  have g1:=g1 (by omega)
  simp (disch:=omega) [a1,k2a,k2b,hl,v0,jfp,List.getElem?_cons_zero]
  refine jdc 2 ?_
  by_cases d1:(c1:Int)<128
  ·simp (disch:=omega) [g1,d1,v0,XR,List.getElem?_cons_zero]
   exact JS     rfl (by simp;unfold jR    ;repeat' split
                        all_goals omega) (by simp;unfold jR    ;repeat' split
                                             all_goals omega) rfl rfl
  by_cases d1':191<(c1:Int)
  ·simp (disch:=omega) [g1,d1,d1',v0,XR,List.getElem?_cons_zero]
   exact JS     rfl (by simp;unfold jR    ;repeat' split
                        all_goals omega) (by simp;unfold jR    ;repeat' split
                                             all_goals omega) rfl rfl
  simp (disch:=omega) [g1,d1,d1',v0,XR,List.getElem?_cons_zero,jpl,jfp]
  exact JS     rfl (by simp;unfold jR    ;repeat' split
                       all_goals omega) (by simp;unfold jR    ;repeat' split
                                            all_goals omega) rfl rfl
 by_cases k3:224≤(c0:Int)∧(c0:Int)≤239
 ·obtain ⟨k3a,k3b⟩:=k3
  by_cases hl:(s.length:Int)<(p:Int)+3
  ·simp (disch:=omega) [a1,k3a,k3b,hl,v0,jpm,jfp,List.getElem?_cons_zero]
   exact JS     rfl (by simp;unfold jR    ;repeat' split
                        all_goals omega) (by simp;unfold jR    ;repeat' split
                                             all_goals omega) rfl rfl
  have g1:=g1 (by omega)
  have g2:=g2 (by omega)
  simp (disch:=omega) [a1,k3a,k3b,hl,v0,jpm,jfp,List.getElem?_cons_zero]
  refine jdc 3 ?_
  by_cases d1:(c1:Int)<128
  ·simp (disch:=omega) [g1,d1,v0,XR,List.getElem?_cons_zero]
   exact JS     rfl (by simp;unfold jR    ;repeat' split
                        all_goals omega) (by simp;unfold jR    ;repeat' split
                                             all_goals omega) rfl rfl
  by_cases e1:191<(c1:Int)
  ·simp (disch:=omega) [g1,d1,e1,v0,XR,List.getElem?_cons_zero]
   exact JS     rfl (by simp;unfold jR    ;repeat' split
                        all_goals omega) (by simp;unfold jR    ;repeat' split
                                             all_goals omega) rfl rfl
  by_cases d2:(c2:Int)<128
  ·simp (disch:=omega) [g1,g2,d1,e1,d2,v0,XR,List.getElem?_cons_zero]
   exact JS     rfl (by simp;unfold jR    ;repeat' split
                        all_goals omega) (by simp;unfold jR    ;repeat' split
                                             all_goals omega) rfl rfl
  by_cases e2:191<(c2:Int)
  ·simp (disch:=omega) [g1,g2,d1,e1,d2,e2,v0,XR,List.getElem?_cons_zero]
   exact JS     rfl (by simp;unfold jR    ;repeat' split
                        all_goals omega) (by simp;unfold jR    ;repeat' split
                                             all_goals omega) rfl rfl
  by_cases f1:64 * (64 * ((c0:Int) - 224)+c1 - 128)+c2 - 128<2048
  ·simp (disch:=omega) [g1,g2,d1,e1,d2,e2,f1,v0,XR,List.getElem?_cons_zero]
   exact JS     rfl (by simp;unfold jR    ;repeat' split
                        all_goals omega) (by simp;unfold jR    ;repeat' split
                                             all_goals omega) rfl rfl
  by_cases f2:55296≤64 * (64 * ((c0:Int) - 224)+c1 - 128)+c2 - 128
  ·by_cases f3:64 * (64 * ((c0:Int) - 224)+c1 - 128)+c2 - 128≤57343
   ·simp (disch:=omega) [g1,g2,d1,e1,d2,e2,f1,f2,f3,v0,jpl,XR,List.getElem?_cons_zero]
    exact JS     rfl (by simp;unfold jR    ;repeat' split
                         all_goals omega) (by simp;unfold jR    ;repeat' split
                                              all_goals omega) rfl rfl
   simp (disch:=omega) [g1,g2,d1,e1,d2,e2,f1,f2,f3,v0,jpl,XR,List.getElem?_cons_zero]
   exact JS     rfl (by simp;unfold jR    ;repeat' split
                        all_goals omega) (by simp;unfold jR    ;repeat' split
                                             all_goals omega) rfl rfl
  simp (disch:=omega) [g1,g2,d1,e1,d2,e2,f1,f2,v0,jpl,XR,List.getElem?_cons_zero]
  exact JS     rfl (by simp;unfold jR    ;repeat' split
                       all_goals omega) (by simp;unfold jR    ;repeat' split
                                            all_goals omega) rfl rfl
 by_cases k4:240≤(c0:Int)∧(c0:Int)≤244
 ·obtain ⟨k4a,k4b⟩:=k4
  by_cases hl:(s.length:Int)<(p:Int)+4
  ·simp (disch:=omega) [a1,k4a,k4b,hl,v0,jpm,jfp,List.getElem?_cons_zero]
   exact JS     rfl (by simp;unfold jR    ;repeat' split
                        all_goals omega) (by simp;unfold jR    ;repeat' split
                                             all_goals omega) rfl rfl
  have g1:=g1 (by omega)
  have g2:=g2 (by omega)
  have g3:=g3 (by omega)
  simp (disch:=omega) [a1,k4a,k4b,hl,v0,jpm,jfp,List.getElem?_cons_zero]
  refine jdc 4 ?_
  by_cases d1:(c1:Int)<128
  ·simp (disch:=omega) [g1,d1,v0,XR,List.getElem?_cons_zero]
   exact JS     rfl (by simp;unfold jR    ;repeat' split
                        all_goals omega) (by simp;unfold jR    ;repeat' split
                                             all_goals omega) rfl rfl
  by_cases e1:191<(c1:Int)
  ·simp (disch:=omega) [g1,d1,e1,v0,XR,List.getElem?_cons_zero]
   exact JS     rfl (by simp;unfold jR    ;repeat' split
                        all_goals omega) (by simp;unfold jR    ;repeat' split
                                             all_goals omega) rfl rfl
  by_cases d2:(c2:Int)<128
  ·simp (disch:=omega) [g1,g2,d1,e1,d2,v0,XR,List.getElem?_cons_zero]
   exact JS     rfl (by simp;unfold jR    ;repeat' split
                        all_goals omega) (by simp;unfold jR    ;repeat' split
                                             all_goals omega) rfl rfl
  by_cases e2:191<(c2:Int)
  ·simp (disch:=omega) [g1,g2,d1,e1,d2,e2,v0,XR,List.getElem?_cons_zero]
   exact JS     rfl (by simp;unfold jR    ;repeat' split
                        all_goals omega) (by simp;unfold jR    ;repeat' split
                                             all_goals omega) rfl rfl
  by_cases d3:(c3:Int)<128
  ·simp (disch:=omega) [g1,g2,g3,d1,e1,d2,e2,d3,v0,XR,List.getElem?_cons_zero]
   exact JS     rfl (by simp;unfold jR    ;repeat' split
                        all_goals omega) (by simp;unfold jR    ;repeat' split
                                             all_goals omega) rfl rfl
  by_cases e3:191<(c3:Int)
  ·simp (disch:=omega) [g1,g2,g3,d1,e1,d2,e2,d3,e3,v0,XR,List.getElem?_cons_zero]
   exact JS     rfl (by simp;unfold jR    ;repeat' split
                        all_goals omega) (by simp;unfold jR    ;repeat' split
                                             all_goals omega) rfl rfl
  by_cases f1:64 * (64 * (64 * ((c0:Int) - 240)+c1 - 128)+c2 - 128)+c3 - 128<65536
  ·simp (disch:=omega) [g1,g2,g3,d1,e1,d2,e2,d3,e3,f1,v0,XR,List.getElem?_cons_zero]
   exact JS     rfl (by simp;unfold jR    ;repeat' split
                        all_goals omega) (by simp;unfold jR    ;repeat' split
                                             all_goals omega) rfl rfl
  by_cases f2:1114111<64 * (64 * (64 * ((c0:Int) - 240)+c1 - 128)+c2 - 128)+c3 - 128
  ·simp (disch:=omega) [g1,g2,g3,d1,e1,d2,e2,d3,e3,f1,f2,v0,XR,List.getElem?_cons_zero]
   exact JS     rfl (by simp;unfold jR    ;repeat' split
                        all_goals omega) (by simp;unfold jR    ;repeat' split
                                             all_goals omega) rfl rfl
  simp (disch:=omega) [g1,g2,g3,d1,e1,d2,e2,d3,e3,f1,f2,v0,jpm,jfp,XR,List.getElem?_cons_zero]
  exact JS     rfl (by simp;unfold jR    ;repeat' split
                       all_goals omega) (by simp;unfold jR    ;repeat' split
                                            all_goals omega) rfl rfl
 have q:c0<194∨244<c0:=by omega
 rcases q with q | q
 ·simp (disch:=omega) [a1,jfp]
  exact JS     rfl (by simp;unfold jR    ;repeat' split
                       all_goals omega) (by simp;unfold jR    ;repeat' split
                                            all_goals omega) rfl rfl
 ·simp (disch:=omega) [a1,jpm,jfp]
  exact JS     rfl (by simp;unfold jR    ;repeat' split
                       all_goals omega) (by simp;unfold jR    ;repeat' split
                                            all_goals omega) rfl rfl
@[simp] theorem j3x (s:List UInt8):(V.str s).strip = .str s:=rfl
@[simp] theorem jzo (s:List UInt8):(V.str s).pureTop=true:=rfl
@[simp] theorem jx3 (s:List UInt8):(V.str s).pureLeaf=true:=rfl
@[simp] theorem sl_strip (t:Option (Nat × Nat)) (nl:Bool) (n:Nat) (cs:List V):(V.sl t nl n cs).strip = .sl none nl n cs:=rfl
@[simp] theorem j36 (t:Option (Nat × Nat)) (nl:Bool) (n:Nat) (cs:List V):(V.sl t nl n cs).strip1 = .sl none nl n cs:=rfl
@[simp] theorem j29 (nl:Bool) (n:Nat) (cs:List V):(V.sl none nl n cs).pureTop=true:=rfl
@[simp] theorem jzr (nl:Bool) (n:Nat) (cs:List V):(V.sl none nl n cs).pureLeaf=true:=rfl
def rU (s:List UInt8) (p:Nat):Nat:=(Utf8.decode ⟨s.toArray⟩ p).1
def rW (s:List UInt8) (p:Nat):Nat:=(Utf8.decode ⟨s.toArray⟩ p).2
theorem jrn {s:List UInt8} {p:Nat} (h:p<s.length):jR (s.length - p) (s.getD p 0).toNat (s.getD (p+1) 0).toNat (s.getD (p+2) 0).toNat (s.getD (p+3) 0).toNat=(rW s p,rU s p):=by
 rw [jq1 _ _ _ _ _ (by omega) (s.getD p 0).toNat_lt (s.getD (p+1) 0).toNat_lt (s.getD (p+2) 0).toNat_lt (s.getD (p+3) 0).toNat_lt]
 unfold rW rU
 rw [Lib.decode_N]
theorem one_w (n b0 b1 b2 b3:Nat) (hn:1≤n):1≤(jR n b0 b1 b2 b3).1∧(jR n b0 b1 b2 b3).1≤n:=by
 unfold jR
 repeat' split
 all_goals (simp only;omega)
theorem j0k (n b0 b1 b2 b3:Nat) (h1:b1<256) (_:b2<256) (h:(jR n b0 b1 b2 b3).2=65533):(jR n b0 b1 b2 b3).1=1∨(jR n b0 b1 b2 b3).1=3:=by
 revert h
 unfold jR
 repeat' split
 all_goals (intro h;simp at h ⊢;try omega)
theorem jiu {s:List UInt8} {p:Nat} (h:p<s.length):1≤rW s p∧p+rW s p≤s.length:=by
 have:=one_w (s.length - p) (s.getD p 0).toNat (s.getD (p+1) 0).toNat (s.getD (p+2) 0).toNat (s.getD (p+3) 0).toNat (by omega)
 rw [jrn h] at this
 simp only at this
 omega
theorem j4i {s:List UInt8} {p:Nat} (h:p<s.length) (hu:rU s p=65533):rW s p=1∨rW s p=3:=by
 have:=j0k (s.length - p) (s.getD p 0).toNat (s.getD (p+1) 0).toNat (s.getD (p+2) 0).toNat (s.getD (p+3) 0).toNat (s.getD (p+1) 0).toNat_lt (s.getD (p+2) 0).toNat_lt
 rw [jrn h] at this
 exact this hu
def RN (s:List UInt8) (p:Nat):List Int:=(XC s (s.length - p) p).map fun r=>((r:Nat):Int)
theorem jdr (s:List UInt8):JB s=RN s 0:=rfl
theorem jdq (s:List UInt8):∀ (b b' p:Nat),s.length≤p+b→s.length≤p+b'→XC s b p=XC s b' p
 | 0,0,_,_,_=>rfl
 | 0,b'+1,p,h,_=>by
  unfold XC
  rw [if_neg (by omega)]
 | b+1,0,p,_,h=>by
  unfold XC
  rw [if_neg (by omega)]
 | b+1,b'+1,p,h,h'=>by
  unfold XC
  by_cases hp:p<s.length
  ·rw [if_pos hp,if_pos hp]
   have:=(jiu hp).1
   unfold rW at this
   rw [jdq s b b' _ (by omega) (by omega)]
  ·rw [if_neg hp,if_neg hp]
theorem jt5 {s:List UInt8} {p:Nat} (h:p<s.length):RN s p=(rU s p:Int)::RN s (p+rW s p):=by
 have hw:=jiu h
 unfold RN
 obtain ⟨n,hn⟩:∃ n,s.length - p=n+1:=⟨s.length - p - 1,by omega⟩
 rw [hn]
 conv=>lhs;unfold XC
 rw [if_pos h,List.map_cons]
 congr 2
 exact jdq s _ _ _ (by unfold rW at hw;omega) (by unfold rW at hw ⊢;omega)
theorem jy3 {s:List UInt8} {p:Nat} (h:s.length≤p):RN s p=[]:=by
 unfold RN
 rw [show s.length - p=0 by omega]
 rfl
theorem jf0 (s:List UInt8):∀ (b p:Nat),(XC s b p).length≤b
 | 0,_=>Nat.le_refl _
 | b+1,p=>by
  unfold XC
  split
  ·have:=jf0 s b (p+(Utf8.decode ⟨s.toArray⟩ p).2)
   simp only [List.length_cons]
   omega
  ·simp
theorem Y9 (s:List UInt8):(JB s).length≤s.length:=by
 rw [jdr,RN,List.length_map]
 exact jf0 s _ _
def VD (s:List UInt8) (p:Nat):Bool:=Lib.validD (s.drop p)
theorem jxp (s:List UInt8) (p:Nat):Lib.decodeL (s.drop p)=(rU s p,rW s p):=Lib.decodeL_drop ⟨s.toArray⟩ p
theorem j2z {s:List UInt8} {p:Nat} (h:p<s.length):VD s p=if rU s p=65533∧rW s p=1 then false else VD s (p+rW s p):=by
 have hne:s.drop p≠[]:=fun e=>by have:=congrArg List.length e;rw [List.length_drop] at this;simp at this;omega
 unfold VD
 rw [Lib.validD_step _ hne,jxp]
 simp only [List.drop_drop]
theorem j97 {s:List UInt8} {p:Nat} (h:s.length≤p):VD s p=true:=by
 unfold VD
 rw [List.drop_of_length_le h]
 rfl
theorem jyv (s:List UInt8) (hs:s.length≤1000000) (p:Nat) (h:p<s.length):Ev E 273 [.str s,.int .i64 p] (.tup [.int .i64 (rW s p:Nat),.int .i64 (rU s p:Nat)]):=by
 have:=ev273 s hs p h
 rw [jrn h] at this
 exact this
theorem j19 (s:List UInt8) (hs:s.length≤1000000):Ev E 234 [.str s] (.sl (some (0,1)) false (JB s).length ((JB s).flatMap intC)):=by
 refine jT (af:=F234) rfl ?_
 simp [F234]
 refine jL (cs:=[]) rfl rfl rfl ?_
 simp
 refine Y3 (n:=s.length) [(3,24)] (fun k st=>∃ p u pre,k=s.length - p∧p≤s.length∧st.tm 4 = .int .i64 (p:Nat)∧JB s=pre++RN s p∧st.tm 3 = .sl (some (u,1)) false pre.length (pre.flatMap intC)∧st.tk u=true) rfl rfl
  ⟨0,64,[],by simp [jdr]⟩ ?_
 rintro k st ⟨p,u,pre,rfl,hp,h4,hpre,h3,hu⟩ f
 have f0:st.tm 0 = .str s:=by rw [f.t 0 (by simp)];simp
 have hpl:pre.length≤1000000:=by
  have h1:=congrArg List.length hpre
  have h2:=Y9 s
  rw [List.length_append] at h1
  omega
 by_cases hlt:p<s.length
 ·have hw:=jiu hlt
  simp [h4,f0,hlt]
  refine jV (jyv s hs p hlt) (by simp) rfl rfl ?_
  simp [h3]
  refine jL (cs:=[.int .i64 (rU s p)]) (by simp [j7]) rfl rfl ?_
  simp
  refine Jw (u:=u) (nl:=false) (n:=pre.length) (cs:=pre.flatMap intC) (ys:=[.int .i64 (rU s p)]) (by simp) (by simp [jl,hu]) (by simp [jM]) (by simp) (by rw [jA jF]) (by decide) rfl (by simp;omega) (by simp;omega) ?_
  simp [h4]
  refine ⟨s.length - (p+rW s p),by omega,p+rW s p,by omega,by omega,by rw [J8 (by omega) (by omega)];simp,_,pre++[(rU s p:Int)],?_,?_,Or.inl rfl⟩
  ·rw [hpre,jt5 hlt];simp
  ·simp [intC]
 ·have:p=s.length:=by omega
  subst this
  simp [h4,f0]
  rw [jy3 (Nat.le_refl _),List.append_nil] at hpre
  exact je2 (u:=u) (by simp [f.d]) (by simp [h3,hpre]) (by simpa using hu)
theorem ev236 (s:List UInt8) (hs:s.length≤1000000):Ev E 236 [.str s] (.bool (Lib.validD s)):=by
 refine jT (af:=F236) rfl ?_
 simp [F236]
 refine Y3 (n:=s.length) [(2,24)] (fun k st=>∃ p,k=s.length - p∧p≤s.length∧st.tm 3 = .int .i64 (p:Nat)∧Lib.validD s=VD s p) rfl rfl
  ⟨0,by simp [VD]⟩ ?_
 rintro k st ⟨p,rfl,hp,h3,hv⟩ f
 have f0:st.tm 0 = .str s:=by rw [f.t 0 (by simp)];simp
 by_cases hlt:p<s.length
 ·have hw:=jiu hlt
  rw [j2z hlt] at hv
  simp [h3,f0,hlt]
  refine jV (jyv s hs p hlt) (by simp) rfl rfl ?_
  by_cases hb:rU s p=65533
  ·rcases j4i hlt hb with h1 | h1
   ·rw [if_pos ⟨hb,h1⟩] at hv
    simp [hb,h1]
    exact j3 (by simp [f.d]) (by simp [hv]) rfl
   ·rw [if_neg (by omega)] at hv
    simp [hb,h1,h3]
    exact ⟨s.length - (p+3),by omega,p+3,rfl,by omega,by rw [J8 (by omega) (by omega)];simp,by rw [hv,h1]⟩
  ·rw [if_neg (by omega)] at hv
   have hb':((rU s p:Int) == 65533)=false:=by rw [beq_eq_false_iff_ne];omega
   simp [hb',h3]
   exact ⟨s.length - (p+rW s p),by omega,p+rW s p,rfl,by omega,by rw [J8 (by omega) (by omega)];simp,hv⟩
 ·have:p=s.length:=by omega
  subst this
  rw [j97 (Nat.le_refl _)] at hv
  simp [h3,f0]
  exact j3 (by simp [f.d]) (by simp [hv]) rfl
theorem Y1 {α:Type} {f:α→List V} {k:Nat} (hf:∀ a,(f a).length=k) (t:Option (Nat × Nat)) (nl:Bool) (l:List α) (kk:IntKind) {i:Nat} (h:i<l.length):JL k (.sl t nl l.length (l.flatMap f)) (.int kk i)=some (.eptr (l.flatMap f) (i * k)):=by
 simp only [YS,jA hf]
 rw [if_pos (by simp;omega)]
 rfl
theorem jlr {α:Type} {f:α→List V} {k:Nat} (hf:∀ a,(f a).length=k) (t:Option (Nat × Nat)) (nl:Bool) (l:List α) (kk:IntKind) (h:0<l.length):JL k (.sl t nl l.length (l.flatMap f)) (.int kk 0)=some (.eptr (l.flatMap f) 0):=by
 have:=Y1 hf t nl l kk h
 simpa using this
theorem Jh (l:List Int) {i:Nat} (h:i<l.length):(l.flatMap intC)[i]? = some (.int .i64 l[i]):=by
 have:=jb (f:=intC) jF l h (by decide:0<1)
 rw [Nat.mul_one,Nat.add_zero] at this
 rw [this]
 rfl
theorem jfu (l:List (List UInt8)) {i:Nat} (h:i<l.length):(l.flatMap JJ)[i]? = some (.str l[i]):=by
 have:=jb (f:=JJ) Y4 l h (by decide:0<1)
 rw [Nat.mul_one,Nat.add_zero] at this
 rw [this]
 rfl
theorem jz {i N:Nat} (h:i<N) (hN:N≤1000000000):IntKind.i64.wrap ((i:Int)+1)=(i:Int)+1:=J8 (by omega) (by omega)
theorem j9j {a b:Int} (h:a<b∨b<a):(a != b)=true:=by simp;omega
theorem dne_f {a b:Int} (h:a=b):(a != b)=false:=by simp [h]
def jew:List Int→Bool
 | []=>false
 | c::_=>WC c
def nmOk (l:List Int):Bool:=decide (1≤l.length) && decide (l.length≤20) && !(jew l) && l.all jbi
def jhe (s:List UInt8):Bool:=!jz8 s && Lib.validD s && nmOk (JB s)
def jhj (a b:List UInt8):Bool:=decide (jj3 (JB a) (JB b)<0)
def jox (t:List (List UInt8)) (j:Nat):Bool:=jhe (t.getD j []) && (j == 0 || jhj (t.getD (j - 1) []) (t.getD j []))
def jt9 (t:List (List UInt8)):Bool:=(List.range t.length).all (jox t)
theorem jti {l:List Int} (h:0<l.length):jew l=WC l[0]:=by
 cases l with
 | nil=>simp at h
 | cons a l=>rfl
theorem j93 {α:Type} {p:α→Bool} {l:List α} (h:∀ j (hj:j<l.length),p l[j]=true):l.all p=true:=by
 rw [List.all_eq_true]
 intro x hx
 obtain ⟨j,hj,rfl⟩:=List.getElem_of_mem hx
 exact h j hj
theorem jl9 {α:Type} {p:α→Bool} {l:List α} {j:Nat} (hj:j<l.length) (h:p l[j]=false):l.all p=false:=by
 rw [List.all_eq_false]
 exact ⟨_,List.getElem_mem hj,by rw [h];decide⟩
theorem jon (c:Int):(jbi c=false∧(c<48∨(57<c∧c<65)∨(90<c∧c<95)∨c=96∨(122<c∧c<128)))∨(jbi c=true∧((48≤c∧c≤57)∨(65≤c∧c≤90)∨c=95∨(97≤c∧c≤122)∨127<c)):=by
 simp [jbi,WC]
 omega
def L126:C:=.seq (.seq (.region [
 ⟨(some 37),.mov (.t 4),none,false⟩,
 ⟨(some 38),.mov (.t 3),none,false⟩,
 ⟨(some 39),.lenSl (.t 38),none,false⟩,
 ⟨(some 40),.bin .lss (.t 37) (.t 39),none,false⟩])
 (.cond (.t 40) (.skip)
  (.exit 0)))
 (.seq (.block 1 (.seq (.region [
  ⟨(some 43),.mov (.t 3),none,false⟩,
  ⟨(some 44),.mov (.t 4),none,false⟩,
  ⟨(some 45),.idxSl 1 (.t 43) (.t 44),none,false⟩,
  ⟨(some 46),.load none (.t 45),none,false⟩,
  ⟨(some 5),.mov (.t 46),none,false⟩])
  (.seq (.region [
   ⟨(some 47),.mov (.t 5),none,false⟩,
   ⟨(some 48),.bin .lss (.t 47) (.c (.int .i64 128)),none,false⟩,
   ⟨(some 49),.mov (.t 48),none,false⟩,
   ⟨(some 50),.mov (.t 5),(some (49,true)),false⟩,
   ⟨(some 51),.bin .neq (.t 50) (.c (.int .i64 95)),(some (49,true)),false⟩,
   ⟨(some 52),.pick (.t 49) (.t 51) (.c (.bool false)),none,false⟩,
   ⟨(some 53),.mov (.t 52),none,false⟩,
   ⟨(some 54),.mov (.t 5),(some (53,true)),false⟩,
   ⟨(some 55),.bin .lss (.t 54) (.c (.int .i64 48)),(some (53,true)),false⟩,
   ⟨(some 56),.mov (.t 55),(some (53,true)),false⟩,
   ⟨(some 57),.mov (.t 5),(some (56,false)),false⟩,
   ⟨(some 58),.bin .gtr (.t 57) (.c (.int .i64 57)),(some (56,false)),false⟩,
   ⟨(some 59),.pick (.t 56) (.c (.bool true)) (.t 58),(some (53,true)),false⟩,
   ⟨(some 60),.pick (.t 53) (.t 59) (.c (.bool false)),none,false⟩,
   ⟨(some 61),.mov (.t 60),none,false⟩,
   ⟨(some 62),.mov (.t 5),(some (61,true)),false⟩,
   ⟨(some 63),.bin .lss (.t 62) (.c (.int .i64 65)),(some (61,true)),false⟩,
   ⟨(some 64),.mov (.t 63),(some (61,true)),false⟩,
   ⟨(some 65),.mov (.t 5),(some (64,false)),false⟩,
   ⟨(some 66),.bin .gtr (.t 65) (.c (.int .i64 90)),(some (64,false)),false⟩,
   ⟨(some 67),.pick (.t 64) (.c (.bool true)) (.t 66),(some (61,true)),false⟩,
   ⟨(some 68),.pick (.t 61) (.t 67) (.c (.bool false)),none,false⟩,
   ⟨(some 69),.mov (.t 68),none,false⟩,
   ⟨(some 70),.mov (.t 5),(some (69,true)),false⟩,
   ⟨(some 71),.bin .lss (.t 70) (.c (.int .i64 97)),(some (69,true)),false⟩,
   ⟨(some 72),.mov (.t 71),(some (69,true)),false⟩,
   ⟨(some 73),.mov (.t 5),(some (72,false)),false⟩,
   ⟨(some 74),.bin .gtr (.t 73) (.c (.int .i64 122)),(some (72,false)),false⟩,
   ⟨(some 75),.pick (.t 72) (.c (.bool true)) (.t 74),(some (69,true)),false⟩,
   ⟨(some 76),.pick (.t 69) (.t 75) (.c (.bool false)),none,false⟩])
   (.cond (.t 76) (.seq (.region [
    ⟨(some 2),.mov (.c (.bool false)),none,false⟩])
    (.ret))
    (.skip)))))
  (.region [
   ⟨(some 41),.mov (.t 4),none,false⟩,
   ⟨(some 42),.bin .add (.t 41) (.c (.int .i64 1)),none,false⟩,
   ⟨(some 4),.mov (.t 42),none,false⟩]))
theorem ev172 (s:List UInt8) (hs:s.length≤1000000):Ev E 172 [.str s] (.bool (jhe s)):=by
 refine jT (af:=F172) rfl ?_
 simp [F172]
 refine jV (j19 s hs) (by simp) rfl rfl ?_
 have hl:=Y9 s
 unfold jhe nmOk
 generalize hr:JB s=l at *
 simp [Xv,toksRes,V.toks,V.tok,Qp,jaz,Xq]
 by_cases a1:(l.length:Int)<1
 ·simp [a1]
  exact j3 rfl (by simp;omega) rfl
 by_cases a2:20<(l.length:Int)
 ·simp [a1,a2]
  exact j3 rfl (by simp;omega) rfl
 have h0:0<l.length:=by omega
 have hh:=jti h0
 simp [a1,a2]
 refine jV (ev235 s) (by simp) rfl rfl ?_
 cases b1:jz8 s
 case true =>
  simp
  exact j3 rfl (by simp) rfl
 simp
 refine jV (ev236 s hs) (by simp) rfl rfl ?_
 cases b2:Lib.validD s
 case false =>
  simp
  exact j3 rfl (by simp) rfl
 have goon:∀ {st:St},st.df=[]→st.tm 4 = .int .i64 0→st.tm 3 = .sl (some (128,1)) false l.length (l.flatMap intC)→jew l=false →
  wpC E noYF (.loop L126) st (j8k 0 (jlk E noYF (.seq (.region [⟨(some 2),.mov (.c (.bool true)),none,false⟩]) (.ret)) (jym [.t 2] (.bool (!false && true && (decide (1≤l.length) && decide (l.length≤20) && !(jew l) && l.all jbi)))))):=by
  intro st hd h4 h3 hg
  refine jE [(2,2),(4,5),(37,76)] l.length (fun i s=>s.tm 4 = .int .i64 i∧∀ j (hj:j<l.length),j<i→jbi l[j]=true) rfl rfl ⟨by simp [h4],fun j _ h=>by omega⟩ ?_
  rintro i s hi ⟨h4,hb⟩ f
  have f3:s.tm 3 = .sl (some (128,1)) false l.length (l.flatMap intC):=by rw [f.t 3 (by simp)];simp [h3]
  by_cases hlt:i<l.length
  ·have hw:=jz hlt (by omega)
   obtain ⟨c,hc⟩:∃ c,l[i]=c:=⟨_,rfl⟩
   have hi0:=Jh l hlt
   rw [hc] at hi0
   rcases jon c with ⟨hp,q⟩ | ⟨hp,q⟩
   ·rcases q with q | q | q | q | q
    all_goals
     simp (disch:=omega) [L126,h4,f3,hlt,Y1 jF,hi0,j9k,jpl,j9j]
     exact j3 (by simp [f.d,hd]) (by simp [jl9 hlt (hc ▸ hp)]) rfl
   ·rcases q with q | q | q | q | q
    all_goals
     simp (disch:=omega) [L126,h4,f3,hlt,Y1 jF,hi0,j9k,jpl,j9j,dne_f,hw]
     intro j hj hji
     rcases Nat.lt_succ_iff_lt_or_eq.1 hji with h | rfl
     ·exact hb j hj h
     ·exact hc ▸ hp
  ·have:i=l.length:=by omega
   subst this
   simp [L126,h4,f3]
   exact j3 (by simp [f.d,hd]) (by simp [hg,j93 (fun j hj=>hb j hj hj)];omega) rfl
 obtain ⟨c,hc⟩:∃ c,l[0]=c:=⟨_,rfl⟩
 have hi0:=Jh l h0
 rw [hc] at hh hi0
 by_cases d1:48≤c
 ·by_cases d2:c≤57
  ·simp [jlr jF _ _ l _ h0,hi0,d1,d2]
   exact j3 rfl (by simp [hh,WC,d1,d2]) rfl
  simp [jlr jF _ _ l _ h0,hi0,d1,d2]
  exact goon rfl (by simp) (by simp) (by simp [hh,WC,d2])
 simp [jlr jF _ _ l _ h0,hi0,d1]
 exact goon rfl (by simp) (by simp) (by simp [hh,WC,d1])
theorem j2i (a b:Int):(jub a b<0)=(a<b):=by
 unfold jub
 split
 ·simp [*]
 ·split <;> simp [*]
theorem cmpI_z {a b:Int}:jub a b=0 ↔ a=b:=by
 unfold jub
 split
 ·simp;omega
 ·split
  ·simp;omega
  ·simp;omega
theorem ev173 (a b:List UInt8) (ha:a.length≤1000000) (hb:b.length≤1000000):Ev E 173 [.str a,.str b] (.bool (jhj a b)):=by
 refine jT (af:=F173) rfl ?_
 simp [F173]
 refine jV (j19 a ha) (by simp) rfl rfl ?_
 have hxl:=Y9 a
 have hyl:=Y9 b
 unfold jhj
 simp [Xv,toksRes,V.toks,V.tok,Qp,jaz,Xq]
 refine jV (j19 b hb) (by simp) rfl rfl ?_
 generalize JB a=x at *
 generalize JB b=y at *
 simp [Xv,toksRes,V.toks,V.tok,Qp,jaz,Xq]
 refine jE [(4,4),(7,7),(12,41)] x.length (fun i s=>s.tm 7 = .int .i64 i∧i≤y.length∧jj3 (x.drop i) (y.drop i)=jj3 x y) rfl rfl ⟨by simp,by simp,by simp⟩ ?_
 rintro i s hi ⟨h7,hiy,hc⟩ f
 have f5:s.tm 5 = .sl (some (128,1)) false x.length (x.flatMap intC):=by rw [f.t 5 (by simp)];simp
 have f6:s.tm 6 = .sl (some (256,1)) false y.length (y.flatMap intC):=by rw [f.t 6 (by simp)];simp
 have fd:s.df=[]:=by rw [f.d];simp
 clear f
 by_cases hlt:i<x.length
 ·by_cases hly:i<y.length
  ·have hw:=jz hlt (by omega)
   rw [List.drop_eq_getElem_cons hlt,List.drop_eq_getElem_cons hly,jj3] at hc
   obtain ⟨c,hxc⟩:∃ c,x[i]=c:=⟨_,rfl⟩
   obtain ⟨d,hyd⟩:∃ d,y[i]=d:=⟨_,rfl⟩
   have hx0:=Jh x hlt
   have hy0:=Jh y hly
   rw [hxc] at hc hx0
   rw [hyd] at hc hy0
   by_cases he:c=d
   ·rw [if_pos (cmpI_z.2 he)] at hc
    simp [h7,f5,f6,hlt,hly,Y1 jF,hx0,hy0,he,hw]
    exact ⟨by omega,hc⟩
   ·rw [if_neg (fun h=>he (cmpI_z.1 h))] at hc
    have he':(c != d)=true:=by simpa using he
    simp [h7,f5,f6,hlt,hly,Y1 jF,hx0,hy0,he']
    exact j3 (by simp [fd]) (by simp [← hc,j2i]) rfl
  ·have e:y.drop i=[]:=List.drop_of_length_le (by omega)
   rw [List.drop_eq_getElem_cons hlt,e,jj3] at hc
   have hnl:¬ x.length<y.length:=by omega
   simp [h7,f5,f6,hlt,hly]
   exact j3 (by simp [fd]) (by simp [← hc,hnl]) rfl
 ·have:i=x.length:=by omega
  subst this
  rw [List.drop_length] at hc
  simp [h7,f5,f6]
  by_cases hly:x.length<y.length
  ·rw [List.drop_eq_getElem_cons hly,jj3] at hc
   exact j3 (by simp [fd]) (by simp [← hc,hly]) rfl
  ·rw [List.drop_of_length_le (by omega:y.length≤x.length),jj3] at hc
   exact j3 (by simp [fd]) (by simp [← hc,hly]) rfl
theorem jx2 {t:List (List UInt8)} (h:∀ j,j<t.length→jox t j=true):jt9 t=true:=List.all_eq_true.2 fun j hj=>h j (List.mem_range.1 hj)
theorem jmj {t:List (List UInt8)} {j:Nat} (hj:j<t.length) (h:jox t j=false):jt9 t=false:=List.all_eq_false.2 ⟨j,List.mem_range.2 hj,by rw [h];decide⟩
theorem jn {α:Type} {l:List α} {i:Nat} {d:α} (h:i<l.length):l.getD i d=l[i]:=by simp [List.getD,h]
theorem j3m {i:Nat} (h:0<i) (hN:i≤1000000000):IntKind.i64.wrap ((i:Int) - 1)=((i - 1:Nat):Int):=by
 rw [J8 (by omega) (by omega)];omega
theorem j9f (nl:Bool) (t:List (List UInt8)) (hn:t.length≤1000000) (hl:∀ s∈t,s.length≤1000000):Ev E 110 [jI nl JJ t] (.bool (jt9 t)):=by
 refine jT (af:=F110) rfl ?_
 simp [F110]
 refine jE [(2,4),(5,32)] t.length (fun i s=>s.tm 3 = .int .i64 i∧∀ j,j<t.length→j<i→jox t j=true) rfl rfl ⟨by simp,fun j _ h=>by omega⟩ ?_
 rintro i s hi ⟨h3,hb⟩ f
 have f0:s.tm 0=jI nl JJ t:=by rw [f.t 0 (by simp)];simp
 have fd:s.df=[]:=by rw [f.d];simp
 clear f
 by_cases hlt:i<t.length
 ·have hw:=jz hlt (by omega)
  have hok:jox t i=(jhe t[i] && (i == 0 || jhj (t.getD (i - 1) []) t[i])):=by unfold jox;rw [jn hlt]
  have hsi:=hl _ (List.getElem_mem hlt)
  obtain ⟨c,hc⟩:∃ c,t[i]=c:=⟨_,rfl⟩
  have ht0:=jfu t hlt
  rw [hc] at hok ht0 hsi
  have Q3:jox t i=true→∀ j,j<t.length→j<i+1→jox t j=true:=fun h j hj hji=>by
   rcases Nat.lt_succ_iff_lt_or_eq.1 hji with h' | rfl
   ·exact hb j hj h'
   ·exact h
  simp [h3,f0,hlt,j5 Y4,ht0]
  refine J0 (ev172 c hsi) (by simp) rfl rfl ?_
  cases hnm:jhe c
  ·rw [hnm] at hok
   simp
   exact j3 (by simp [fd]) (by simp [jmj hlt hok]) rfl
  ·rw [hnm] at hok
   by_cases h0:i=0
   ·subst h0
    simp [h3]
    exact ⟨hlt,by decide,fun j hj h=>by subst h;exact Q3 (by simp [hok]) 0 hj (by omega)⟩
   ·have h0':0<i:=by omega
    have hwp:=j3m h0' (by omega)
    have hlp:i - 1<t.length:=by omega
    have hsp:=hl _ (List.getElem_mem hlp)
    have ht1:=jfu t hlp
    rw [jn hlp] at hok
    obtain ⟨e,he⟩:∃ e,t[i - 1]=e:=⟨_,rfl⟩
    rw [he] at hok ht1 hsp
    simp [h3,f0,h0',hwp,hlp,j5 Y4,ht1,hlt,ht0]
    refine J0 (ev173 e c hsp hsi) (by simp) rfl rfl ?_
    cases hls:jhj e c
    ·simp
     exact j3 (by simp [fd]) (by simp [jmj hlt (by simp [hok,hls,h0])]) rfl
    ·simp [h3,hw]
     exact ⟨hlt,Q3 (by simp [hok,hls])⟩
 ·have:i=t.length:=by omega
  subst this
  simp [h3,f0]
  exact j3 (by simp [fd]) (by simp [jx2 (fun j hj=>hb j hj hj)]) rfl
theorem jx1 {a b:Nat} (ha:a<2 ^ 64) (hb:b<2 ^ 64):Ya .or (.int .u64 (a:Int)) (.int .u64 (b:Int))=some (.int .u64 ((a ||| b:Nat):Int)):=by
 have h:a ||| b<2 ^ 64:=Nat.or_lt_two_pow ha hb
 simp only [Ya,XQ,if_true]
 have e:(BitVec.ofInt IntKind.u64.bits (a:Int) ||| BitVec.ofInt IntKind.u64.bits (b:Int)).toNat=a ||| b:=by
  rw [BitVec.toNat_or,BitVec.ofInt_natCast,BitVec.ofInt_natCast,BitVec.toNat_ofNat,BitVec.toNat_ofNat]
  rw [show IntKind.u64.bits=64 from rfl,Nat.mod_eq_of_lt ha,Nat.mod_eq_of_lt hb]
 rw [e,IntKind.wrap_u64]
 congr 2
 omega
theorem jzi {a b:Nat} {m:Int} (hm:m=(b:Int)) (ha:a<2 ^ 64) (hb:b<2 ^ 64):Ya .and (.int .u64 (a:Int)) (.int .u64 m)=some (.int .u64 ((a &&& b:Nat):Int)):=by
 subst hm
 have h:a &&& b<2 ^ 64:=Nat.and_lt_two_pow _ hb
 simp only [Ya,XQ,if_true]
 have e:(BitVec.ofInt IntKind.u64.bits (a:Int) &&& BitVec.ofInt IntKind.u64.bits (b:Int)).toNat=a &&& b:=by
  rw [BitVec.toNat_and,BitVec.ofInt_natCast,BitVec.ofInt_natCast,BitVec.toNat_ofNat,BitVec.toNat_ofNat]
  rw [show IntKind.u64.bits=64 from rfl,Nat.mod_eq_of_lt ha,Nat.mod_eq_of_lt hb]
 rw [e,IntKind.wrap_u64]
 congr 2
 omega
theorem jzh {a k:Nat} {m:Int} (hm:m=(k:Int)) (hk:k≤64) (h:a * 2 ^ k<2 ^ 64):Ya .shl (.int .u64 (a:Int)) (.int .u64 m)=some (.int .u64 ((a * 2 ^ k:Nat):Int)):=by
 subst hm
 simp only [Ya,Qz]
 rw [if_neg (by omega)]
 simp only [Int.toNat_natCast,show IntKind.u64.bits=64 from rfl,Nat.min_eq_left hk]
 rw [IntKind.wrap_u64]
 congr 2
 have:((a:Int) * 2 ^ k)=((a * 2 ^ k:Nat):Int):=by simp
 rw [this]
 omega
theorem JP {l:List UInt8} {kk:IntKind} {k:Nat} {x:Int} (hx:x=(k:Int)) (h:k≤l.length):XT (some (.int kk x)) none (.str l)=some (.str (l.drop k)):=by
 subst hx
 simp [XT,X3,h]
def wd (l:List UInt8):Nat:=Lib.leNat (l.take 8)
theorem j4o (a b k:Nat) (h:a<2 ^ k):a ||| b * 2 ^ k=a+b * 2 ^ k:=by
 have:=Nat.shiftLeft_add_eq_or_of_lt h b
 rw [Nat.shiftLeft_eq] at this
 rw [Nat.or_comm,← this,Nat.add_comm]
theorem wd_8 (a b c d e f g h:UInt8) (t:List UInt8):wd (a::b::c::d::e::f::g::h::t) =
 a.toNat+b.toNat * 2 ^ 8+c.toNat * 2 ^ 16+d.toNat * 2 ^ 24+e.toNat * 2 ^ 32+f.toNat * 2 ^ 40+g.toNat * 2 ^ 48+h.toNat * 2 ^ 56:=by
 simp only [wd,List.take,Lib.leNat]
 omega
theorem jdn (x:UInt8) (k:Nat) {m:Int} (hm:m=(k:Int)) (hk:k≤56):∃ B:Nat,B=x.toNat * 2 ^ k∧Ya .shl (.int .u64 (x.toNat:Int)) (.int .u64 m)=some (.int .u64 (B:Int)):=by
 have hx:=x.toNat_lt
 have h1:x.toNat * 2 ^ k<2 ^ 64:=by
  calc x.toNat * 2 ^ k<2 ^ 8 * 2 ^ k:=Nat.mul_lt_mul_of_pos_right hx (Nat.two_pow_pos k)
   _=2 ^ (8+k):=(Nat.pow_add ..).symm
   _≤2 ^ 64:=Nat.pow_le_pow_right (by decide) (by omega)
 exact ⟨_,rfl,jzh hm (by omega) h1⟩
theorem jk6 {O B:Nat} (k c:Nat) (h:O<2 ^ k) (hB:B=c * 2 ^ k) (hc:c<2 ^ 8) (hk:k≤56):∃ O':Nat,O'=O+B∧O'<2 ^ (k+8)∧Ya .or (.int .u64 (O:Int)) (.int .u64 (B:Int))=some (.int .u64 (O':Int)):=by
 have h2:B+2 ^ k≤2 ^ (k+8):=by
  rw [hB,Nat.pow_add,Nat.mul_comm (2 ^ k),← Nat.succ_mul]
  exact Nat.mul_le_mul_right _ hc
 have h3:2 ^ (k+8)≤2 ^ 64:=Nat.pow_le_pow_right (by decide) (by omega)
 refine ⟨O+B,rfl,by omega,?_⟩
 rw [jx1 (by omega) (by omega),hB,j4o _ _ _ h]
theorem jlx (l:List UInt8) (hl:8≤l.length):Ev E 289 [.str l] (.int .u64 (wd l)):=by
 match l,hl with
 | a::b::c::d::e::f::g::h::t,_ =>
  rw [wd_8]
  have l0:=a.toNat_lt
  have l1:=b.toNat_lt
  have l2:=c.toNat_lt
  have l3:=d.toNat_lt
  have l4:=e.toNat_lt
  have l5:=f.toNat_lt
  have l6:=g.toNat_lt
  have l7:=h.toNat_lt
  refine jT (af:=F289) rfl ?_
  have cv:∀ x:UInt8,XR .u64 (.int .u8 (x.toNat:Int))=some (.int .u64 (x.toNat:Int)):=fun x=>by
   have:=x.toNat_lt
   simp only [XR,IntKind.wrap_u64]
   congr 2
   omega
  have iv:∀ (s:List UInt8) (i:Nat) (x:UInt8) (y:Int),y=(i:Int)→s[i]? = some x→Ws (.str s) (.int .i64 y)=some (.int .u8 (x.toNat:Int)):=by
   intro s i x y hy hx
   subst hy
   simp [Ws,hx]
  have i0:=iv (a::b::c::d::e::f::g::h::t) 0 a 0 rfl rfl
  have i1:=iv (a::b::c::d::e::f::g::h::t) 1 b 1 rfl rfl
  have i2:=iv (a::b::c::d::e::f::g::h::t) 2 c 2 rfl rfl
  have i3:=iv (a::b::c::d::e::f::g::h::t) 3 d 3 rfl rfl
  have i4:=iv (a::b::c::d::e::f::g::h::t) 4 e 4 rfl rfl
  have i5:=iv (a::b::c::d::e::f::g::h::t) 5 f 5 rfl rfl
  have i6:=iv (a::b::c::d::e::f::g::h::t) 6 g 6 rfl rfl
  have i7:=iv (a::b::c::d::e::f::g::h::t) 7 h 7 rfl rfl
  obtain ⟨B1,hB1,s1⟩:=jdn b 8 (m:=8) rfl (by decide)
  obtain ⟨B2,hB2,s2⟩:=jdn c 16 (m:=16) rfl (by decide)
  obtain ⟨B3,hB3,s3⟩:=jdn d 24 (m:=24) rfl (by decide)
  obtain ⟨B4,hB4,s4⟩:=jdn e 32 (m:=32) rfl (by decide)
  obtain ⟨B5,hB5,s5⟩:=jdn f 40 (m:=40) rfl (by decide)
  obtain ⟨B6,hB6,s6⟩:=jdn g 48 (m:=48) rfl (by decide)
  obtain ⟨B7,hB7,s7⟩:=jdn h 56 (m:=56) rfl (by decide)
  obtain ⟨O1,hO1,q1,o1⟩:=jk6 (O:=a.toNat) 8 _ l0 hB1 l1 (by decide)
  obtain ⟨O2,hO2,q2,o2⟩:=jk6 (O:=O1) 16 _ q1 hB2 l2 (by decide)
  obtain ⟨O3,hO3,q3,o3⟩:=jk6 (O:=O2) 24 _ q2 hB3 l3 (by decide)
  obtain ⟨O4,hO4,q4,o4⟩:=jk6 (O:=O3) 32 _ q3 hB4 l4 (by decide)
  obtain ⟨O5,hO5,q5,o5⟩:=jk6 (O:=O4) 40 _ q4 hB5 l5 (by decide)
  obtain ⟨O6,hO6,q6,o6⟩:=jk6 (O:=O5) 48 _ q5 hB6 l6 (by decide)
  obtain ⟨O7,hO7,q7,o7⟩:=jk6 (O:=O6) 56 _ q6 hB7 l7 (by decide)
  have tot:O7=a.toNat+b.toNat * 2 ^ 8+c.toNat * 2 ^ 16+d.toNat * 2 ^ 24+e.toNat * 2 ^ 32+f.toNat * 2 ^ 40+g.toNat * 2 ^ 48+h.toNat * 2 ^ 56:=by omega
  rw [← tot]
  clear tot hB1 hB2 hB3 hB4 hB5 hB6 hB7 hO7 q7 hO6 q6 hO5 q5 hO4 q4 hO3 q3 hO2 q2 hO1 q1
  simp [F289,cv,i0,i1,i2,i3,i4,i5,i6,i7,s1,o1,s2,o2,s3,o3,s4,o4,s5,o5,s6,o6,s7,o7]
  exact j3 rfl (by simp) rfl
theorem j17 (tm:Nat→V):eval E tm (.g 2) = .eptr utf8first 0:=rfl
theorem j16 (tm:Nat→V):eval E tm (.g 3) = .eptr accR 0:=rfl
theorem jxf (b:Nat) (h:b<256):utf8first[b]? = some (.int .u8 (Lib.firstT b:Nat)):=by
 unfold utf8first
 rw [List.getElem?_map,List.getElem?_range h]
 rfl
theorem j96 (y:Nat) (h:y<16):(accR.drop (y * 2)).take 2=[.int .u8 (Lib.accLo y:Nat),.int .u8 (Lib.accHi y:Nat)]:=by
 have:y=0∨y=1∨y=2∨y=3∨y=4∨y=5∨y=6∨y=7∨y=8∨y=9∨y=10∨y=11∨y=12∨y=13∨y=14∨y=15:=by omega
 rcases this with h | h | h | h | h | h | h | h | h | h | h | h | h | h | h | h <;> subst h <;> rfl
theorem and7:∀ x:Fin 256,IntKind.u8.wrap ((BitVec.ofInt IntKind.u8.bits ((x.val:Nat):Int) &&& BitVec.ofInt IntKind.u8.bits 7).toNat:Int)=((x.val % 8:Nat):Int):=by decide +kernel
theorem jzg (x:Nat) (h:x<256):Ya .and (.int .u8 (x:Int)) (.int .u8 7)=some (.int .u8 ((x % 8:Nat):Int)):=by
 simp only [Ya,XQ,if_true]
 have:=and7 ⟨x,h⟩
 simp only at this
 rw [this]
theorem jzf (x:Nat) (_:x<256):Ya .shr (.int .u8 (x:Int)) (.int .u64 4)=some (.int .u8 ((x / 16:Nat):Int)):=by
 simp only [Ya,Qz]
 rw [if_neg (by decide)]
 have e:min (Int.toNat 4) IntKind.u8.bits=4:=by decide
 rw [e]
 congr 2
 rw [Int.fdiv_eq_ediv_of_nonneg _ (by decide)]
 omega
theorem jxd (b:Nat):Lib.firstT b<256:=by
 unfold Lib.firstT
 repeat' split
 all_goals omega
abbrev M8:Nat:=9259542123273814144
theorem jki (l:List UInt8):wd l<2 ^ 64:=by
 have h:=Lib.leNat_lt (l.take 8)
 have h2:(256:Nat) ^ (l.take 8).length≤256 ^ 8:=Nat.pow_le_pow_right (by decide) (by rw [List.length_take];omega)
 have h3:(256:Nat) ^ 8=2 ^ 64:=by decide
 unfold wd
 omega
theorem WH {l:List UInt8} (h8:8≤l.length) (h:wd l &&& M8=0):Lib.validD l=Lib.validD (l.drop 8):=by
 have e:(l.take 8).length=8:=by rw [List.length_take];omega
 have:=(Lib.leNat_mask (l.take 8)).1 (by rw [e,Lib.maskN8];exact h)
 exact Lib.validD_ascii 8 l this
theorem jt3 (w:Nat) (hw:w<2 ^ 64):∃ q:Nat,q=w &&& M8∧Ya .and (.int .u64 (w:Int)) (.int .u64 9259542123273814144)=some (.int .u64 (q:Int)) :=
 ⟨_,rfl,jzi (b:=M8) rfl hw (by decide)⟩
theorem jmz {a b:Nat} (ha:a<2 ^ 64) (hb:b<2 ^ 64):∃ q:Nat,q=a ||| b∧q<2 ^ 64∧Ya .or (.int .u64 (a:Int)) (.int .u64 (b:Int))=some (.int .u64 (q:Int)) :=
 ⟨_,rfl,Nat.or_lt_two_pow ha hb,jx1 ha hb⟩
theorem beq0 (q:Nat):((q:Int) == 0)=decide (q=0):=by
 rw [Bool.eq_iff_iff];simp
set_option maxHeartbeats 8000000 in
theorem ev265 (s:List UInt8) (_:s.length≤1000000):Ev E 265 [.str s] (.bool (Lib.validD s)):=by
 refine jT (af:=F265) rfl ?_
 simp [F265]
 refine Y3 (n:=s.length) [(0,200)] (fun k st=>∃ l,k=l.length∧st.tm 0 = .str l∧Lib.validD s=Lib.validD l∧l.length≤s.length) rfl rfl ⟨s,by simp⟩ ?_
 rintro k st ⟨l,rfl,h0,hv,hl⟩ f
 have fd:st.df=[]:=by rw [f.d];simp
 have fb:st.fb=0:=by rw [f.b];simp
 have fr:st.ro=0:=by rw [f.r];simp
 clear f
 cases hl0:l with
 | nil =>
  subst hl0
  simp [h0]
  exact j3 (by simp [fd]) (by simp [hv];rfl) rfl
 | cons b t =>
 rw [← hl0]
 have hlen:l.length=t.length+1:=by rw [hl0];rfl
 have hb256:=b.toNat_lt
 have hget:l.getD 0 0=b:=by rw [hl0];rfl
 have i0:Ws (.str l) (.int .i64 0)=some (.int .u8 (b.toNat:Int)):=by
  have:=Xr (s:=l) (i:=0) (x:=0) .i64 (by omega) rfl
  rw [hget] at this
  exact this
 have hpos:0<l.length:=by omega
 by_cases hb:(b.toNat:Int)<128
 ·have hvt:Lib.validD s=Lib.validD t:=by rw [hv,hl0,Lib.validD_cons b t (by omega)]
  have d1:XT (some (.int .i64 1)) none (.str l)=some (.str t):=by
   rw [JP (k:=1) (x:=1) rfl (by omega:1≤l.length),hl0];rfl
  by_cases h8:8<(t.length:Int)
  ·obtain ⟨w,hw⟩:∃ w,wd t=w:=⟨_,rfl⟩
   have hwl:w<2 ^ 64:=hw ▸ jki t
   obtain ⟨q,hq,aq⟩:=jt3 w hwl
   simp [h0,hpos,i0,hb,d1,h8]
   refine jV (jlx t (by omega)) (by simp) rfl rfl ?_
   rw [hw]
   by_cases hq0:q=0
   ·have hv8:Lib.validD s=Lib.validD (t.drop 8):=by rw [hvt,WH (by omega) (by rw [hw,← hq,hq0])]
    have d8:XT (some (.int .i64 8)) none (.str t)=some (.str (t.drop 8)):=JP (k:=8) rfl (by omega)
    have hl8:(t.drop 8).length=t.length - 8:=List.length_drop
    obtain ⟨u,hu⟩:∃ u,t.drop 8=u:=⟨_,rfl⟩
    rw [hu] at hv8 d8 hl8
    simp [aq,hq0,d8]
    by_cases h16:16<(u.length:Int)
    ·have d8u:XT (some (.int .i64 8)) none (.str u)=some (.str (u.drop 8)):=JP (k:=8) rfl (by omega)
     have d16:XT (some (.int .i64 16)) none (.str u)=some (.str (u.drop 16)):=JP (k:=16) rfl (by omega)
     have hlu:(u.drop 8).length=u.length - 8:=List.length_drop
     obtain ⟨w1,hw1⟩:∃ w,wd u=w:=⟨_,rfl⟩
     obtain ⟨w2,hw2⟩:∃ w,wd (u.drop 8)=w:=⟨_,rfl⟩
     obtain ⟨o,ho,hol,oo⟩:=jmz (hw1 ▸ jki u) (hw2 ▸ jki (u.drop 8))
     obtain ⟨q2,hq2,aq2⟩:=jt3 o hol
     have e1:=jlx u (by omega)
     have e2:=jlx (u.drop 8) (by omega)
     rw [hw1] at e1
     rw [hw2] at e2
     obtain ⟨u8,hu8⟩:∃ x,u.drop 8=x:=⟨_,rfl⟩
     rw [hu8] at d8u e2 hlu
     simp [h16]
     refine J0 e1 (by simp) rfl rfl ?_
     simp [d8u]
     refine J0 e2 (by simp) rfl rfl ?_
     by_cases hq20:q2=0
     ·have hb2:=(Lib.or_mask w1 w2 M8).1 (by rw [← ho,← hq2,hq20])
      have hv16:Lib.validD s=Lib.validD (u.drop 16):=by
       rw [hv8,WH (by omega) (by rw [hw1];exact hb2.1),hu8,WH (by omega) (by rw [← hu8,hw2];exact hb2.2),← hu8,List.drop_drop]
      have hl16:(u.drop 16).length=u.length - 16:=List.length_drop
      obtain ⟨v,hv'⟩:∃ x,u.drop 16=x:=⟨_,rfl⟩
      rw [hv'] at d16 hv16 hl16
      simp [oo,aq2,hq20,d16]
      refine Y3 (n:=v.length) [(0,0),(42,64)] (fun k st=>∃ x,k=x.length∧st.tm 0 = .str x∧Lib.validD s=Lib.validD x∧x.length≤v.length) rfl rfl ⟨v,by simp [hv16]⟩ ?_
      rintro k st' ⟨x,rfl,g0,gv,gl⟩ _
      by_cases h32:32<(x.length:Int)
      ·have d8x:XT (some (.int .i64 8)) none (.str x)=some (.str (x.drop 8)):=JP (k:=8) rfl (by omega)
       have d16x:XT (some (.int .i64 16)) none (.str x)=some (.str (x.drop 16)):=JP (k:=16) rfl (by omega)
       have d24x:XT (some (.int .i64 24)) none (.str x)=some (.str (x.drop 24)):=JP (k:=24) rfl (by omega)
       have d32x:XT (some (.int .i64 32)) none (.str x)=some (.str (x.drop 32)):=JP (k:=32) rfl (by omega)
       have hl32:(x.drop 32).length=x.length - 32:=List.length_drop
       obtain ⟨y0,hy0⟩:∃ w,wd x=w:=⟨_,rfl⟩
       obtain ⟨y1,hy1⟩:∃ w,wd (x.drop 8)=w:=⟨_,rfl⟩
       obtain ⟨y2,hy2⟩:∃ w,wd (x.drop 16)=w:=⟨_,rfl⟩
       obtain ⟨y3,hy3⟩:∃ w,wd (x.drop 24)=w:=⟨_,rfl⟩
       obtain ⟨p1,hp1,hp1l,op1⟩:=jmz (hy0 ▸ jki x) (hy1 ▸ jki (x.drop 8))
       obtain ⟨p2,hp2,hp2l,op2⟩:=jmz (hy2 ▸ jki (x.drop 16)) (hy3 ▸ jki (x.drop 24))
       obtain ⟨p3,hp3,hp3l,op3⟩:=jmz hp1l hp2l
       obtain ⟨q3,hq3,aq3⟩:=jt3 p3 hp3l
       have e1:=jlx x (by omega)
       have e2:=jlx (x.drop 8) (by rw [List.length_drop];omega)
       have e3:=jlx (x.drop 16) (by rw [List.length_drop];omega)
       have e4:=jlx (x.drop 24) (by rw [List.length_drop];omega)
       rw [hy0] at e1
       rw [hy1] at e2
       rw [hy2] at e3
       rw [hy3] at e4
       have hall:q3=0→Lib.validD s=Lib.validD (x.drop 32):=by
        intro hz
        rw [hq3,hp3,Lib.or_mask,hp1,hp2,Lib.or_mask,Lib.or_mask] at hz
        obtain ⟨⟨z0,z1⟩,z2,z3⟩:=hz
        rw [gv,WH (by omega) (by rw [hy0];exact z0),WH (by rw [List.length_drop];omega) (by rw [hy1];exact z1),List.drop_drop,
         WH (by rw [List.length_drop];omega) (by rw [hy2];exact z2),List.drop_drop,WH (by rw [List.length_drop];omega) (by rw [hy3];exact z3),List.drop_drop]
       clear hy0 hy1 hy2 hy3 hp1 hp2 hp3 hq3
       obtain ⟨x8,hx8⟩:∃ z,x.drop 8=z:=⟨_,rfl⟩
       obtain ⟨x16,hx16⟩:∃ z,x.drop 16=z:=⟨_,rfl⟩
       obtain ⟨x24,hx24⟩:∃ z,x.drop 24=z:=⟨_,rfl⟩
       obtain ⟨x32,hx32⟩:∃ z,x.drop 32=z:=⟨_,rfl⟩
       rw [hx8] at d8x e2
       rw [hx16] at d16x e3
       rw [hx24] at d24x e4
       rw [hx32] at d32x hl32 hall
       simp [g0,h32]
       refine J0 e1 (by simp) rfl rfl ?_
       simp [d8x,g0]
       refine J0 e2 (by simp) rfl rfl ?_
       simp [d16x,op1,g0]
       refine J0 e3 (by simp) rfl rfl ?_
       simp [d24x,g0]
       refine J0 e4 (by simp) rfl rfl ?_
       by_cases hq30:q3=0
       ·simp [op2,op3,aq3,hq30,d32x,g0]
        exact ⟨x32.length,by omega,x32,rfl,rfl,hall hq30,by omega⟩
       ·simp [op2,op3,aq3,beq0,hq30,g0]
        exact ⟨x.length,by omega,x,rfl,rfl,gv,by omega⟩
      ·simp [g0,h32]
       exact ⟨x.length,by omega,x,rfl,rfl,gv,by omega⟩
     ·simp [oo,aq2,beq0,hq20]
      exact ⟨u.length,by omega,u,rfl,rfl,hv8,by omega⟩
    ·simp [h16]
     exact ⟨u.length,by omega,u,rfl,rfl,hv8,by omega⟩
   ·simp [aq,beq0,hq0]
    exact ⟨t.length,by omega,t,rfl,rfl,hvt,by omega⟩
  ·simp [h0,hpos,i0,hb,d1,h8]
   exact ⟨t.length,by omega,t,rfl,rfl,hvt,by omega⟩
 ·have hlead:=Lib.validD_lead l (by rw [hl0];simp) (by rw [hget];omega)
  rw [hget] at hlead
  rw [← hv] at hlead
  obtain ⟨x,hx⟩:∃ x,Lib.firstT b.toNat=x:=⟨_,rfl⟩
  have hx256:x<256:=hx ▸ jxd _
  have ld1:=jxf b.toNat b.toNat_lt
  have ia1:Qq 256 1 (.eptr utf8first 0) (.int .u8 (b.toNat:Int))=some (.eptr utf8first b.toNat):=by
   simp only [Qq]
   rw [if_pos (by omega)]
   simp
  have a7:=jzg x hx256
  have s4:=jzf x hx256
  obtain ⟨y,hy⟩:∃ y,x / 16=y:=⟨_,rfl⟩
  obtain ⟨sz,hsz⟩:∃ y,x % 8=y:=⟨_,rfl⟩
  have hy16:y<16:=by omega
  have ia2:Qq 16 2 (.eptr accR 0) (.int .u8 (y:Int))=some (.eptr accR (y * 2)):=by
   simp only [Qq]
   rw [if_pos (by omega)]
   simp
  have ld2:∀ ob,Yb ob (some 2) (.eptr accR (y * 2))=some (.agg [.int .u8 (Lib.accLo y:Nat),.int .u8 (Lib.accHi y:Nat)]):=fun ob=>by
   rw [jbp,YB,j96 y hy16,if_pos (by show y * 2+2≤32;omega)]
  have cv:XR .i64 (.int .u8 (sz:Int))=some (.int .i64 (sz:Int)):=by simp only [XR];rw [J8 (by omega) (by omega)]
  rw [hx] at hlead ld1
  rw [hsz] at a7 hlead
  rw [hy] at s4 hlead
  have i1:1<l.length→_:=fun h=>Xr (s:=l) (i:=1) (x:=1) .i64 h rfl
  have i2:2<l.length→_:=fun h=>Xr (s:=l) (i:=2) (x:=2) .i64 h rfl
  have i3:3<l.length→_:=fun h=>Xr (s:=l) (i:=3) (x:=3) .i64 h rfl
  generalize (l.getD 1 0).toNat=b1 at *
  generalize (l.getD 2 0).toNat=b2 at *
  generalize (l.getD 3 0).toNat=b3 at *
  generalize Lib.accLo y=lo at *
  generalize Lib.accHi y=hi at *
  simp [h0,hpos,i0,hb,j17,ia1,ld1,a7,cv,s4,j16,ia2,ld2,j1,fb,fr,j7]
  by_cases hs2:sz=2
  ·by_cases c0:(l.length:Int)<2
   ·have hc:Lib.checkN l.length b1 b2 b3 sz lo hi=none:=by unfold Lib.checkN;simp [hs2];omega
    rw [hc] at hlead
    simp [hs2,h0,c0]
    exact j3 (by simp [fd]) (by simp [hlead]) rfl
   have i1:=i1 (by omega)
   by_cases c1:(b1:Int)<lo
   ·have hc:Lib.checkN l.length b1 b2 b3 sz lo hi=none:=by unfold Lib.checkN;simp [hs2];omega
    rw [hc] at hlead
    simp [hs2,h0,j1,c0,i1,c1]
    exact j3 (by simp [fd]) (by simp [hlead]) rfl
   by_cases c2:(hi:Int)<b1
   ·have hc:Lib.checkN l.length b1 b2 b3 sz lo hi=none:=by unfold Lib.checkN;simp [hs2];omega
    rw [hc] at hlead
    simp [hs2,h0,j1,c0,i1,c1,c2]
    exact j3 (by simp [fd]) (by simp [hlead]) rfl
   have hc:Lib.checkN l.length b1 b2 b3 sz lo hi=some 2:=by unfold Lib.checkN;simp [hs2];omega
   rw [hc] at hlead
   have dd:XT (some (.int .i64 2)) none (.str l)=some (.str (l.drop 2)):=JP (k:=2) rfl (by omega)
   simp [hs2,h0,j1,c0,i1,c1,c2,dd]
   exact ⟨(l.drop 2).length,by rw [List.length_drop];omega,l.drop 2,by simp,rfl,hlead,by rw [List.length_drop];omega⟩
  by_cases hs3:sz=3
  ·by_cases c0:(l.length:Int)<3
   ·have hc:Lib.checkN l.length b1 b2 b3 sz lo hi=none:=by unfold Lib.checkN;simp [hs3];omega
    rw [hc] at hlead
    simp [hs3,h0,c0]
    exact j3 (by simp [fd]) (by simp [hlead]) rfl
   have i1:=i1 (by omega)
   have i2:=i2 (by omega)
   by_cases c1:(b1:Int)<lo
   ·have hc:Lib.checkN l.length b1 b2 b3 sz lo hi=none:=by unfold Lib.checkN;simp [hs3];omega
    rw [hc] at hlead
    simp [hs3,h0,j1,c0,i1,c1]
    exact j3 (by simp [fd]) (by simp [hlead]) rfl
   by_cases c2:(hi:Int)<b1
   ·have hc:Lib.checkN l.length b1 b2 b3 sz lo hi=none:=by unfold Lib.checkN;simp [hs3];omega
    rw [hc] at hlead
    simp [hs3,h0,j1,c0,i1,c1,c2]
    exact j3 (by simp [fd]) (by simp [hlead]) rfl
   by_cases e2:(b2:Int)<128
   ·have hc:Lib.checkN l.length b1 b2 b3 sz lo hi=none:=by unfold Lib.checkN;simp [hs3];omega
    rw [hc] at hlead
    simp [hs3,h0,j1,c0,i1,i2,c1,c2,e2]
    exact j3 (by simp [fd]) (by simp [hlead]) rfl
   by_cases f2:191<(b2:Int)
   ·have hc:Lib.checkN l.length b1 b2 b3 sz lo hi=none:=by unfold Lib.checkN;simp [hs3];omega
    rw [hc] at hlead
    simp [hs3,h0,j1,c0,i1,i2,c1,c2,e2,f2]
    exact j3 (by simp [fd]) (by simp [hlead]) rfl
   have hc:Lib.checkN l.length b1 b2 b3 sz lo hi=some 3:=by unfold Lib.checkN;simp [hs3];omega
   rw [hc] at hlead
   have dd:XT (some (.int .i64 3)) none (.str l)=some (.str (l.drop 3)):=JP (k:=3) rfl (by omega)
   simp [hs3,h0,j1,c0,i1,i2,c1,c2,e2,f2,dd]
   exact ⟨(l.drop 3).length,by rw [List.length_drop];omega,l.drop 3,by simp,rfl,hlead,by rw [List.length_drop];omega⟩
  by_cases hs4:sz=4
  ·by_cases c0:(l.length:Int)<4
   ·have hc:Lib.checkN l.length b1 b2 b3 sz lo hi=none:=by unfold Lib.checkN;simp [hs4];omega
    rw [hc] at hlead
    simp [hs4,h0,c0]
    exact j3 (by simp [fd]) (by simp [hlead]) rfl
   have i1:=i1 (by omega)
   have i2:=i2 (by omega)
   have i3:=i3 (by omega)
   by_cases c1:(b1:Int)<lo
   ·have hc:Lib.checkN l.length b1 b2 b3 sz lo hi=none:=by unfold Lib.checkN;simp [hs4];omega
    rw [hc] at hlead
    simp [hs4,h0,j1,c0,i1,c1]
    exact j3 (by simp [fd]) (by simp [hlead]) rfl
   by_cases c2:(hi:Int)<b1
   ·have hc:Lib.checkN l.length b1 b2 b3 sz lo hi=none:=by unfold Lib.checkN;simp [hs4];omega
    rw [hc] at hlead
    simp [hs4,h0,j1,c0,i1,c1,c2]
    exact j3 (by simp [fd]) (by simp [hlead]) rfl
   by_cases e2:(b2:Int)<128
   ·have hc:Lib.checkN l.length b1 b2 b3 sz lo hi=none:=by unfold Lib.checkN;simp [hs4];omega
    rw [hc] at hlead
    simp [hs4,h0,j1,c0,i1,i2,c1,c2,e2]
    exact j3 (by simp [fd]) (by simp [hlead]) rfl
   by_cases f2:191<(b2:Int)
   ·have hc:Lib.checkN l.length b1 b2 b3 sz lo hi=none:=by unfold Lib.checkN;simp [hs4];omega
    rw [hc] at hlead
    simp [hs4,h0,j1,c0,i1,i2,c1,c2,e2,f2]
    exact j3 (by simp [fd]) (by simp [hlead]) rfl
   by_cases e3:(b3:Int)<128
   ·have hc:Lib.checkN l.length b1 b2 b3 sz lo hi=none:=by unfold Lib.checkN;simp [hs4];omega
    rw [hc] at hlead
    simp [hs4,h0,j1,c0,i1,i2,i3,c1,c2,e2,f2,e3]
    exact j3 (by simp [fd]) (by simp [hlead]) rfl
   by_cases f3:191<(b3:Int)
   ·have hc:Lib.checkN l.length b1 b2 b3 sz lo hi=none:=by unfold Lib.checkN;simp [hs4];omega
    rw [hc] at hlead
    simp [hs4,h0,j1,c0,i1,i2,i3,c1,c2,e2,f2,e3,f3]
    exact j3 (by simp [fd]) (by simp [hlead]) rfl
   have hc:Lib.checkN l.length b1 b2 b3 sz lo hi=some 4:=by unfold Lib.checkN;simp [hs4];omega
   rw [hc] at hlead
   have dd:XT (some (.int .i64 4)) none (.str l)=some (.str (l.drop 4)):=JP (k:=4) rfl (by omega)
   simp [hs4,h0,j1,c0,i1,i2,i3,c1,c2,e2,f2,e3,f3,dd]
   exact ⟨(l.drop 4).length,by rw [List.length_drop];omega,l.drop 4,by simp,rfl,hlead,by rw [List.length_drop];omega⟩
  have hc:Lib.checkN l.length b1 b2 b3 sz lo hi=none:=by unfold Lib.checkN;simp [hs2,hs3,hs4]
  rw [hc] at hlead
  have z2:((sz:Int) == 2)=false:=by simp;omega
  have z3:((sz:Int) == 3)=false:=by simp;omega
  have z4:((sz:Int) == 4)=false:=by simp;omega
  simp [z2,z3,z4]
  exact j3 (by simp [fd]) (by simp [hlead]) rfl
def QV:Nat→List Int→Bool
 | n,[]=>decide (0<n) && decide (n≤20)
 | n,c::l=>if !jbi c || (decide (n=0) && WC c) then false else QV (n+1) l
theorem jgf:∀ (l:List Int) (n:Nat),0<n→QV n l=(l.all jbi && decide (n+l.length≤20))
 | [],n,h=>by simp [QV,h]
 | c::l,n,h=>by
  have h0:¬ n=0:=by omega
  rw [QV,jgf l (n+1) (by omega)]
  cases hp:jbi c
  ·simp [hp]
  ·simp only [hp,h0,decide_false,Bool.false_and,Bool.or_false,Bool.not_true,Bool.false_eq_true,if_false,List.all_cons,Bool.true_and,List.length_cons]
   congr 2
   exact propext ⟨fun h=>by omega,fun h=>by omega⟩
theorem jv1 (l:List Int):QV 0 l=nmOk l:=by
 cases l with
 | nil=>rfl
 | cons c l =>
  rw [QV,jgf l 1 (by omega)]
  unfold nmOk jew
  have e:decide (1+l.length≤20)=decide (l.length+1≤20):=by rw [Nat.add_comm]
  cases hp:jbi c <;> cases hd:WC c <;> simp [hp,hd,e]
  rw [Bool.and_comm]
theorem j07 {E:Env} {Yf:YF} {st:St} {ub:Nat} {K:St→Nat→Prop} {d:Option Nat} {nm:Bool} {x:A} {l u pos:Nat} {s:List UInt8} (hx:eval E st.tm x = .iter l u) (ho:st.ob l=some ⟨u,.siter s pos⟩) (hro:st.ro≤u)
 (h1:pos<s.length→QP K st d ub { v:=.tup [.bool true,.int .i64 pos,.int .i32 (rU s pos:Nat)],obs:=[(l,⟨u,.siter s (pos+rW s pos)⟩)] })
 (h2:¬ pos<s.length→QC K st d ub (.tup [.bool false])):j9 E Yf ⟨d,.nextStr x,none,nm⟩ st ub K:=jo6 hx ho hro h1 h2
theorem ev229 (s:List UInt8) (hs:s.length≤1000000):Ev E 229 [.str s] (.bool (jhe s)):=by
 refine jT (af:=F229) rfl ?_
 simp [F229]
 refine jV (ev264 s) (by simp) rfl rfl ?_
 unfold jhe
 cases b1:jz8 s
 case true =>
  simp
  exact j3 rfl (by simp) rfl
 simp
 refine jV (ev265 s hs) (by simp) rfl rfl ?_
 cases b2:Lib.validD s
 case false =>
  simp
  exact j3 rfl (by simp) rfl
 simp
 rw [← jv1]
 refine Y3 (n:=s.length) [(2,3),(5,5),(15,30)] (fun k st=>∃ p n u,k=s.length - p∧p≤s.length∧n≤p∧st.tm 3 = .int .i64 (n:Nat)∧st.tm 14 = .iter 28 u∧st.ob 28=some ⟨u,.siter s p⟩∧QV 0 (JB s)=QV n (RN s p)) rfl rfl
  ⟨0,0,640,by simp [jdr]⟩ ?_
 rintro k st ⟨p,n,u,rfl,hp,hnp,h3,h14,ho,hsc⟩ f
 have fd:st.df=[]:=by rw [f.d];simp
 have fb:st.fb=0:=by rw [f.b];simp
 have fr:st.ro=0:=by rw [f.r];simp
 clear f
 simp
 refine j07 (l:=28) (u:=u) (pos:=p) (s:=s) (by simp [h14]) (by simp [ho]) (by simp [fr]) (fun hlt=>?_) (fun hge=>?_)
 ·have hw:=jiu hlt
  rw [jt5 hlt,QV] at hsc
  obtain ⟨c,hc⟩:∃ c:Int,(rU s p:Int)=c:=⟨_,rfl⟩
  rw [hc] at hsc ⊢
  simp
  refine jV (ev266 c) (by simp) rfl rfl ?_
  cases hpc:jbi c
  ·rw [hpc] at hsc
   simp
   exact j3 (by simp [fd]) (by simp [hsc]) rfl
  ·by_cases hn0:n=0
   ·subst hn0
    simp [h3]
    refine jV (j89 c) (by simp) rfl rfl ?_
    cases hdc:WC c
    ·simp [h3,h14,hdc,hpc] at hsc ⊢
     exact ⟨s.length - (p+rW s p),by omega,p+rW s p,rfl,by omega,1,by omega,by decide,rfl,hsc⟩
    ·simp [hdc,hpc] at hsc ⊢
     exact j3 (by simp [fd]) (by simp [hsc]) rfl
   ·simp [h3,h14,hpc,beq0,hn0] at hsc ⊢
    exact ⟨s.length - (p+rW s p),by omega,p+rW s p,rfl,by omega,n+1,by omega,by rw [J8 (by omega) (by omega)];simp,rfl,hsc⟩
 ·have:p=s.length:=by omega
  subst this
  rw [jy3 (Nat.le_refl _),QV] at hsc
  by_cases hn0:0<n
  ·simp [h3,hn0] at hsc ⊢
   exact j3 (by simp [fd]) (by simp [hsc];omega) rfl
  ·simp [h3,hn0] at hsc ⊢
   exact j3 (by simp [fd]) (by simp [hsc]) rfl
theorem j9b (nl:Bool) (t:List (List UInt8)) (hn:t.length≤1000000) (hl:∀ s∈t,s.length≤1000000):Ev E 212 [jI nl JJ t] (.bool (jt9 t)):=by
 refine jT (af:=F212) rfl ?_
 simp [F212]
 refine jE [(2,4),(7,29)] t.length (fun i s=>s.tm 7 = .int .i64 i∧∀ j,j<t.length→j<i→jox t j=true) rfl rfl ⟨by simp,fun j _ h=>by omega⟩ ?_
 rintro i s hi ⟨h7,hb⟩ f
 have f0:s.tm 0=jI nl JJ t:=by rw [f.t 0 (by simp)];simp
 have f5:s.tm 5=jI nl JJ t:=by rw [f.t 5 (by simp)];simp
 have f6:s.tm 6 = .int .i64 t.length:=by rw [f.t 6 (by simp)];simp
 have fd:s.df=[]:=by rw [f.d];simp
 clear f
 by_cases hlt:i<t.length
 ·have hw:=jz hlt (by omega)
  have hok:jox t i=(jhe t[i] && (i == 0 || jhj (t.getD (i - 1) []) t[i])):=by unfold jox;rw [jn hlt]
  have hsi:=hl _ (List.getElem_mem hlt)
  obtain ⟨c,hc⟩:∃ c,t[i]=c:=⟨_,rfl⟩
  have ht0:=jfu t hlt
  rw [hc] at hok ht0 hsi
  have Q3:jox t i=true→∀ j,j<t.length→j<i+1→jox t j=true:=fun h j hj hji=>by
   rcases Nat.lt_succ_iff_lt_or_eq.1 hji with h' | rfl
   ·exact hb j hj h'
   ·exact h
  simp [h7,f5,f6,hlt,j5 Y4,ht0]
  refine jV (ev229 c hsi) (by simp) rfl rfl ?_
  cases hnm:jhe c
  ·rw [hnm] at hok
   simp
   exact j3 (by simp [fd]) (by simp [jmj hlt hok]) rfl
  ·rw [hnm] at hok
   by_cases h0:i=0
   ·subst h0
    simp [h7]
    exact ⟨hlt,by decide,fun j hj h=>by subst h;exact Q3 (by simp [hok]) 0 hj (by omega)⟩
   ·have h0':0<i:=by omega
    have hwp:=j3m h0' (by omega)
    have hlp:i - 1<t.length:=by omega
    have hsp:=hl _ (List.getElem_mem hlp)
    have ht1:=jfu t hlp
    rw [jn hlp] at hok
    obtain ⟨e,he⟩:∃ e,t[i - 1]=e:=⟨_,rfl⟩
    rw [he] at hok ht1 hsp
    have hle:=Y9 e
    have hlc:=Y9 c
    simp [f0,h0',hwp,hlp,j5 Y4,ht1]
    refine jV (ev251 e c (by omega) (by omega)) (by simp) rfl rfl ?_
    cases hls:jhj e c
    ·have hls':=hls
     unfold jhj at hls'
     rw [hls']
     simp
     exact j3 (by simp [fd]) (by simp [jmj hlt (by simp [hok,hls,h0])]) rfl
    ·have hls':=hls
     unfold jhj at hls'
     rw [hls']
     simp [h7,hw]
     exact ⟨hlt,Q3 (by simp [hok,hls])⟩
 ·have:i=t.length:=by omega
  subst this
  simp [h7,f6]
  exact j3 (by simp [fd]) (by simp [jx2 (fun j hj=>hb j hj hj)]) rfl
def Fr1 (n:Nat) (ob ob':ZO):Prop:=∀ key,(∀ m,n≤m→key≠2 * m+1)→ob' key=ob key
theorem jf8 (h:Hist') (hn:h.ts.length≤1000) (hm:∀ t∈h.ts,t.ops.length≤1000000) {asg bd:C} {ps:List Nat} (hps:ps.length=2) (has:asg.one=true) (hbd:bd.one=true) {st:St} {f:A} {lh uh:Nat}
 (hf:eval E st.tm f = .fn (.func 215) [] [.ptr lh uh 0]) (oh:st.ob lh=some ⟨uh,.cells (j2 h)⟩) (hl1:lh≠2 * st.nx+1) (hl3:lh≠2 * st.nx+3) (hro:st.ro=0)
 (J:Nat→Nat→(ZO)→(Nat→Bool)→Nat→Prop) {Q:Ex→St→Prop}
 (hJf:∀ i k ob ob' tk ub ub',J i k ob tk ub→ub≤ub'→Fr1 st.nx ob ob'→J i k ob' tk ub')
 (hnext:∀ i (hi:i<h.ts.length) ob tk ub,J i (h.ts[i]).ops.length ob tk ub→J (i+1) 0 ob tk ub)
 (hbody:∀ i (hi:i<h.ts.length) k (hk:k<(h.ts[i]).ops.length) ob tk ub,J i k ob tk ub→ob (2 * st.nx+1)=some ⟨st.nx,.loop .ready none⟩→ob (2 * st.nx+3)=some ⟨st.nx+1,.dfr⟩→st.nx+64≤ub →
  wpC E noYF asg { tm:=jdo st.tm ps [.agg [.int .i64 i,.int .i64 k],.agg (opC (h.ts[i]).ops[k])],ob:=ob,tk:=tk,ro:=0,nx:=ub,fb:=st.fb,df:=[] } fun e s1=>e = .nrm∧s1.ob (2 * st.nx+1)=some ⟨st.nx,.loop .ready none⟩ ∧
   wpC E noYF bd { s1 with ob:=upd s1.ob (2 * st.nx+1) (some ⟨st.nx,.loop .busy none⟩) } fun e s2=>s2.ob (2 * st.nx+1)=some ⟨st.nx,.loop .busy none⟩∧s2.ob (2 * st.nx+3)=some ⟨st.nx+1,.dfr⟩∧st.nx+64≤s2.nx∧e = .nrm∧J i (k+1) s2.ob s2.tk s2.nx)
 (h0:J 0 0 st.ob st.tk (st.nx+64))
 (hQ:∀ ob tk ub,J h.ts.length 0 ob tk ub→ob (2 * st.nx+3)=some ⟨st.nx+1,.dfr⟩→st.nx+64≤ub→Q .nrm { st with ob:=ob,tk:=tk,nx:=ub,df:=(2 * st.nx+3,st.nx+1)::st.df }) :
 wpC E noYF (.rangeFunc f ps asg bd) st Q:=by
 refine WG (g:=215) (first:=[]) (captured:=[.ptr lh uh 0]) hf ?_
 have n13:¬ 2 * st.nx+3=2 * st.nx+1:=by omega
 have n31:¬ 2 * st.nx+1=2 * st.nx+3:=by omega
 have:=jx9 (Yf:=jf1 E noYF asg bd st ps (2 * st.nx+1) st.nx) h hn hm (l:=2 * st.nx+1) (u:=st.nx) (lh:=lh) (uh:=uh)
  (ob0:=upd (upd st.ob (2 * st.nx+3) (some ⟨st.nx+1,.dfr⟩)) (2 * st.nx+1) (some ⟨st.nx,.loop .ready none⟩)) (tk0:=st.tk) (ro:=st.ro) (base:=(st.fb+1023) * 1024) (ub0:=st.nx+64)
  (by simp only [j6,hl1,hl3,if_false,oh]) (by omega)
  (fun i k ob tk ub=>J i k ob tk ub∧ob (2 * st.nx+1)=some ⟨st.nx,.loop .ready none⟩∧ob (2 * st.nx+3)=some ⟨st.nx+1,.dfr⟩∧st.nx+64≤ub)
  (fun r=>∃ s pend,r.2.1 (2 * st.nx+1)=some ⟨st.nx,.loop s pend⟩∧s≠.busy∧st.ro≤st.nx∧Q (pend.getD .nrm) { st with ob:=fun k=>if Nat.beq (2 * st.nx+1) k then none else r.2.1 k,tk:=r.2.2.1,nx:=r.2.2.2,df:=(2 * st.nx+3,st.nx+1)::st.df })
  ?_ ?_ ?_ ?_ ?_
 ·obtain ⟨r,hr,hP⟩:=this
  exact ⟨r,hr,hP⟩
 ·rintro i k ob ob' tk ub ub' ⟨g1,g2,g3,g4⟩ hub hfr
  have f:∀ key,(∀ m,ub≤m→key≠2 * m+1)→ob' key=ob key:=hfr
  exact ⟨hJf _ _ _ _ _ _ _ g1 hub (fun key hk=>f key (fun m hm=>hk m (by omega))),by rw [f _ (fun m hm=>by omega)];exact g2,by rw [f _ (fun m hm=>by omega)];exact g3,by omega⟩
 ·rintro i hi ob tk ub ⟨g1,g⟩
  exact ⟨hnext i hi ob tk ub g1,g⟩
 ·rintro i hi k hk ob tk ub ⟨g1,g2,g3,g4⟩ hru
  have hb:=hbody i hi k hk ob tk ub g1 g2 g3 g4
  have:=jff (E:=E) (Yf:=noYF) (asg:=asg) (bd:=bd) (st:=st) (ps:=ps) (l:=2 * st.nx+1) (u:=st.nx) (xs:=[.agg [.int .i64 i,.int .i64 k],.agg (opC (h.ts[i]).ops[k])]) (ob:=ob) (tk:=tk) (ro:=st.ro) (ub:=ub)
   (P:=fun r=>st.ro≤r.2.2.2∧r.1 = .bool true∧J i (k+1) r.2.1 r.2.2.1 r.2.2.2∧r.2.1 (2 * st.nx+1)=some ⟨st.nx,.loop .ready none⟩∧r.2.1 (2 * st.nx+3)=some ⟨st.nx+1,.dfr⟩∧st.nx+64≤r.2.2.2)
   (by simp [hps]) (by omega) g2 has hbd (by
    rw [hro]
    refine Jt (fun e s1 h1=>?_) hb
    obtain ⟨e1,e2,e3⟩:=h1
    refine ⟨e1,e2,Jt (fun e s2 h2=>?_) e3⟩
    obtain ⟨k1,k2,k3,k4,k5⟩:=h2
    subst k4
    refine ⟨k1,by omega,rfl,?_,?_,?_,k3⟩
    ·exact hJf _ _ _ _ _ _ _ k5 (Nat.le_refl _) (fun key hk=>J2 _ _ (hk st.nx (Nat.le_refl _)))
    ·exact Ye _ _ _
    ·show upd s2.ob _ _ _=_
     rw [J2 _ _ n13];exact k2)
  obtain ⟨r,hr,p1,p2,p3,p4,p5,p6⟩:=this
  exact ⟨r,hr,p1,.inl ⟨p2,p3,p4,p5,p6⟩⟩
 ·rintro ob tk ub ⟨g1,g2,g3,g4⟩
  refine ⟨.ready,none,g2,by simp,by omega,?_⟩
  have hob:Fr1 st.nx ob (fun k=>if Nat.beq (2 * st.nx+1) k then none else ob k):=fun key hk=>jy0 ob (hk st.nx (Nat.le_refl _))
  exact hQ _ _ _ (hJf _ _ _ _ _ _ _ g1 (Nat.le_refl _) hob) ((jy0 ob n13).trans g3) g4
 ·refine ⟨hJf _ _ _ _ _ _ _ h0 (Nat.le_refl _) (fun key hk=>?_),Ye _ _ _,?_,by omega⟩
  ·have h3:=hk (st.nx+1) (by omega)
   rw [J2 _ _ (hk st.nx (Nat.le_refl _)),J2 _ _ (by omega)]
  ·rw [J2 _ _ n13,Ye]
@[simp] theorem j9p (l u:Nat):(V.map l u).cells=[.map l u]:=rfl
@[simp] theorem leaf_map (l u:Nat):(V.map l u).leaf=true:=rfl
@[simp] theorem jyy:V.nilmap.cells=[.nilmap]:=rfl
@[simp] theorem j00:V.nilmap.leaf=true:=rfl
def Xt (h:Hist'):Bool:=jt9 h.ss && (jt9 h.ks && (decide (h.ss.length≤20) && (decide (h.ks.length≤40) && decide (h.ts.length≤40))))
structure Small (h:Hist'):Prop where
 ss:h.ss.length≤1000
 sl:∀ s∈h.ss,s.length≤1000
 ks:h.ks.length≤1000
 kl:∀ s∈h.ks,s.length≤1000
 ts:h.ts.length≤1000
 os:∀ t∈h.ts,t.ops.length≤1000
theorem ev152 {h:Hist'} (hs:Small h):Ev E 152 [.agg (j2 h)] (.bool (Xt h)):=by
 refine jT (af:=F152) rfl ?_
 have e1:=j9b h.sn h.ss (by have:=hs.ss;omega) (fun s h=>by have:=hs.sl s h;omega)
 have e2:=j9b h.kn h.ks (by have:=hs.ks;omega) (fun s h=>by have:=hs.kl s h;omega)
 simp [F152,j2,j1]
 refine jV e1 (by simp) rfl rfl ?_
 unfold Xt
 cases b1:jt9 h.ss
 ·simp
  exact j3 rfl (by simp) rfl
 simp [j1]
 refine jV e2 (by simp) rfl rfl ?_
 cases b2:jt9 h.ks
 ·simp
  exact j3 rfl (by simp) rfl
 by_cases b3:(h.ss.length:Int)≤20
 ·by_cases b4:(h.ks.length:Int)≤40
  ·simp [j1,b3,b4]
   exact j3 rfl (by simp [show h.ss.length≤20 by omega,show h.ks.length≤40 by omega];omega) rfl
  ·simp [j1,b3,b4]
   exact j3 rfl (by simp;omega) rfl
 ·simp [j1,b3]
  exact j3 rfl (by simp;omega) rfl
def usesS (h:Hist'):List Int:=h.ts.map (·.s)
def usesK (h:Hist'):List Int:=(jal h).map (·.key)
def jkj (h:Hist'):Bool:=decide ((dd (usesS h)).length=h.ss.length) && decide ((dd (usesK h)).length=h.ks.length)
def jd8 (h:Hist') (i k:Nat):List Op':=(h.ts.take i).flatMap (·.ops)++(h.ts.getD i ⟨0,0,true,[]⟩).ops.take k
theorem joq {h:Hist'} {i k:Nat} (hi:i<h.ts.length) (hk:k<(h.ts[i]).ops.length):jd8 h i (k+1)=jd8 h i k++[(h.ts[i]).ops[k]]:=by
 unfold jd8
 rw [jn hi,List.take_succ_eq_append_getElem hk,List.append_assoc]
theorem jor {h:Hist'} {i:Nat} (hi:i<h.ts.length):jd8 h i (h.ts[i]).ops.length=jd8 h (i+1) 0:=by
 unfold jd8
 rw [jn hi,List.take_length,List.take_zero,List.append_nil,List.take_succ_eq_append_getElem hi,List.flatMap_append]
 simp
theorem jri (h:Hist'):jd8 h h.ts.length 0=jal h:=by simp [jd8,jal]
theorem jop (h:Hist'):jd8 h 0 0=[]:=by simp [jd8]
theorem Wy {res:List ARes} {st:St} {l u:Nat} {v:V} (hd:st.df=[(l,u)]) (ho:st.ob l=some ⟨u,.dfr⟩) (hr:st.ro≤u)
 (h:ja3 res (.ret,{ st with ob:=fun k=>if Nat.beq l k then none else st.ob k,df:=[] })=some v):ja3 res (.ret,st)=some v:=by
 have h1:jyw st=true:=by
  unfold jyw
  rw [hd]
  simp only [List.all_cons,List.all_nil,ho,Bool.and_true,List.map_cons,List.map_nil,nodup,List.any_nil,Bool.not_false,Bool.and_eq_true,Nat.beq_refl,true_and]
  exact Nat.ble_eq ▸ hr
 have h2:st.noDf = { st with ob:=fun k=>if Nat.beq l k then none else st.ob k,df:=[] }:=by
  unfold St.noDf
  rw [hd]
  simp
 simp only [ja3,h1,h2,if_true]
 simp only [ja3] at h
 rw [YW rfl,YO rfl] at h
 exact h
theorem ev158 {h:Hist'} (hs:Small h):Ev E 158 [.agg (j2 h)] (.bool (jkj h)):=by
 refine jT (af:=F158) rfl ?_
 have hts:=hs.ts
 simp [F158,j2,j1,j7]
 refine jE [(6,6),(15,23),(14,14)] h.ts.length (fun i s=>s.tm 14 = .int .i64 i∧s.ob 2=some ⟨0,.cells (j2 h)⟩∧s.ob 8=some ⟨256,.cells [.map 20 192]⟩∧s.ob 20=some ⟨192,.mp 0 []⟩ ∧
  ∃ ver m,s.ob 18=some ⟨128,.mp ver (MP intV m)⟩∧m.map (·.1)=dd ((h.ts.take i).map (·.s))) rfl rfl ⟨by simp,by simp [j2],by simp,by simp,0,[],by simp [MP],by simp [dd]⟩ ?_
 rintro i s hi ⟨h14,o2,o8,o20,ver,m,o18,hm⟩ f
 have f12:s.tm 12=jI h.tn ji h.ts:=by rw [f.t 12 (by simp)];simp
 have f13:s.tm 13 = .int .i64 h.ts.length:=by rw [f.t 13 (by simp)];simp
 have f1:s.tm 1 = .ptr 2 0 0:=by rw [f.t 1 (by simp)];simp
 have f3:s.tm 3 = .map 18 128:=by rw [f.t 3 (by simp)];simp
 have f4:s.tm 4 = .ptr 8 256 0:=by rw [f.t 4 (by simp)];simp
 have fd:s.df=[]:=by rw [f.d];simp
 have fb:s.fb=0:=by rw [f.b];simp
 have fr:s.ro=0:=by rw [f.r];simp
 clear f
 by_cases hlt:i<h.ts.length
 ·have hw:=jz hlt (by omega)
  simp [h14,f12,f13,hlt,j5 j8,jX j8,ji,j1,fb,fr,j7,f3,YC m,je,o18]
  refine W6 (f:=intV) (a:=IntKind.i64.wrap (JY m h.ts[i].s+1)) (ver:=ver) (l:=18) (u:=128) (k:=h.ts[i].s) m (by simp) (by simp) (by simp [intV]) (by simp [o18]) (by simp [fr]) ?_
  simp [h14,hw,o2,o8,o20,j2]
  refine ⟨hlt,ver+1,mset m h.ts[i].s (IntKind.i64.wrap (JY m h.ts[i].s+1)),by simp,?_⟩
  rw [jef,hm,← List.map_take,List.take_succ_eq_append_getElem hlt,List.map_append]
  exact (jtq _ _).symm
 ·have:i=h.ts.length:=by omega
  subst this
  rw [List.take_length] at hm
  simp [h14,f13]
  simp [f1,o2,j1,j2]
  refine QD (vs:=[.agg (j2 h)]) (by simp [j2]) rfl ?_
  obtain ⟨r,hr,e1,e2,e3,e4⟩:=j2c (Yf:=noYF) h s.ob s.tk 0 (26 * 1024) (s.nx+64+64)
  refine ⟨r,by simpa [fr,fb] using hr,?_⟩
  simp
  refine JV fun st hst=>?_
  have n2:¬ (2:Nat)=2 * (s.nx+64+64)+1:=by omega
  have n8:¬ (8:Nat)=2 * (s.nx+64+64)+1:=by omega
  have n18:¬ (18:Nat)=2 * (s.nx+64+64)+1:=by omega
  have n20:¬ (20:Nat)=2 * (s.nx+64+64)+1:=by omega
  have g25:st.tm 25 = .fn (.func 215) [] [.ptr (2 * (s.nx+64+64)+1) (s.nx+64+64) 0]:=by rw [hst];simp [put,e1]
  have g1:st.tm 1 = .ptr 2 0 0:=by rw [hst];simp [put,j6,f1]
  have g3:st.tm 3 = .map 18 128:=by rw [hst];simp [put,j6,f3]
  have g4:st.tm 4 = .ptr 8 256 0:=by rw [hst];simp [put,j6,f4]
  have gd:st.df=[]:=by rw [hst];simp [fd]
  have gb:st.fb=0:=by rw [hst];simp [fb]
  have gr:st.ro=0:=by rw [hst];simp [fr]
  have gn:st.nx=s.nx+64+64+256:=by rw [hst];simp [e4]
  have p2:st.ob 2=some ⟨0,.cells (j2 h)⟩:=by rw [hst];simp only [JA];rw [e2,if_neg n2];exact o2
  have p8:st.ob 8=some ⟨256,.cells [.map 20 192]⟩:=by rw [hst];simp only [JA];rw [e2,if_neg n8];exact o8
  have p18:st.ob 18=some ⟨128,.mp ver (MP intV m)⟩:=by rw [hst];simp only [JA];rw [e2,if_neg n18];exact o18
  have p20:st.ob 20=some ⟨192,.mp 0 []⟩:=by rw [hst];simp only [JA];rw [e2,if_neg n20];exact o20
  have pl:st.ob (2 * (s.nx+64+64)+1)=some ⟨s.nx+64+64,.cells (j2 h)⟩:=by rw [hst];simp only [JA];rw [e2,if_pos rfl]
  clear hst e1 e2 e3 e4 hr
  refine jf8 h hts (fun t ht=>by have:=hs.os t ht;omega) rfl rfl rfl (by simpa using g25) pl (by omega) (by omega) gr
   (fun i k ob tk ub=>ob 2=some ⟨0,.cells (j2 h)⟩∧ob 8=some ⟨256,.cells [.map 20 192]⟩∧ob 18=some ⟨128,.mp ver (MP intV m)⟩∧∃ ver' m',ob 20=some ⟨192,.mp ver' (MP intV m')⟩∧m'.map (·.1)=dd ((jd8 h i k).map (·.key)))
   ?_ ?_ ?_ ?_ ?_
  ·rintro i k ob ob' tk ub ub' ⟨q2,q8,q18,v',m',q20,hk⟩ hub hfr
   exact ⟨(hfr 2 (fun m _=>by omega)).trans q2,(hfr 8 (fun m _=>by omega)).trans q8,(hfr 18 (fun m _=>by omega)).trans q18,v',m',(hfr 20 (fun m _=>by omega)).trans q20,hk⟩
  ·rintro i hi ob tk ub ⟨q2,q8,q18,v',m',q20,hk⟩
   exact ⟨q2,q8,q18,v',m',q20,by rw [hk,jor hi]⟩
  ·rintro i hi k hk ob tk ub ⟨q2,q8,q18,v',m',q20,hkeys⟩ w1 w3 hub
   have r1:¬ 2 * st.nx+1=16:=by omega
   have r3:¬ 2 * st.nx+3=16:=by omega
   have r31:¬ 2 * st.nx+3=2 * st.nx+1:=by omega
   have r120:¬ 2 * st.nx+1=20:=by omega
   have r320:¬ 2 * st.nx+3=20:=by omega
   have b16:¬ 16=2 * st.nx+1:=by omega
   have b8:¬ 8=2 * st.nx+1:=by omega
   have b20:¬ 20=2 * st.nx+1:=by omega
   have b2:¬ 2=2 * st.nx+1:=by omega
   have b18:¬ 18=2 * st.nx+1:=by omega
   simp [jdo,j6,opC,j1,gb,j7,g4,r1,w1,b16,b8,q8,YC m',je,b20,q20]
   obtain ⟨o,ho⟩:∃ o,(h.ts[i]).ops[k]=o:=⟨_,rfl⟩
   rw [ho]
   refine W6 (f:=intV) (a:=IntKind.i64.wrap (JY m' o.key+1)) (ver:=v') (l:=20) (u:=192) (k:=o.key) m' (by simp) (by simp) (by simp [intV]) (by simp [j6,b20,q20]) (by simp) ?_
   simp [j6,r120,r320,r3,b2,b8,b18,q2,q8,q18,w3]
   refine ⟨by omega,v'+1,mset m' o.key (IntKind.i64.wrap (JY m' o.key+1)),by simp,?_⟩
   rw [jef,hkeys,joq hi hk,List.map_append,ho]
   exact (jtq _ _).symm
  ·exact ⟨p2,p8,p18,0,[],p20,by rw [jop];rfl⟩
  ·rintro ob tk ub ⟨q2,q8,q18,v',m',q20,hkeys⟩ w3 hub
   rw [jri] at hkeys
   have l1:m.length=(dd (usesS h)).length:=by rw [← List.length_map (f:=(·.1)),hm];rfl
   have l2:m'.length=(dd (usesK h)).length:=by rw [← List.length_map (f:=(·.1)),hkeys];rfl
   simp [g3,g1,je,q18,q2,j1,j2,l1]
   unfold jkj
   by_cases c1:(dd (usesS h)).length=h.ss.length
   ·simp [c1,g4,g1,q8,q2,je,q20,j1,j2,l2]
    refine Wy (l:=2 * st.nx+3) (u:=st.nx+1) (by simp [gd]) (by simp [w3]) (by simp [gr]) (j3 rfl ?_ rfl)
    simp
    rw [Bool.eq_iff_iff];simp;omega
   ·have c1':(((dd (usesS h)).length:Int) == (h.ss.length:Int))=false:=by simp;omega
    simp [c1']
    refine Wy (l:=2 * st.nx+3) (u:=st.nx+1) (by simp [gd]) (by simp [w3]) (by simp [gr]) (j3 rfl ?_ rfl)
    simp [c1]
def X9 (h:Hist'):Bool:=Xt h && (h.ts.all (jcp h) && ((jal h).all (opB h) && jkj h))
def errH (h:Hist'):Int:=if X9 h then 0 else 4
theorem j2v {α:Type} (p:α→Bool) (l:List α):(l.any fun t=>!p t) = !(l.all p):=by
 induction l with
 | nil=>rfl
 | cons a l ih=>simp [ih]
theorem jpj {h:Hist'} (hs:Small h):Ev E 103 [.agg (j2 h)] (.int .i64 (errH h)):=by
 refine jT (af:=F103) rfl ?_
 have hts:=hs.ts
 have hos:∀ t∈h.ts,t.ops.length≤1000000:=fun t ht=>by have:=hs.os t ht;omega
 have e107:=ev152 hs
 have e112:=ev158 hs
 obtain ⟨R,hR⟩:∃ R,errH h=R:=⟨_,rfl⟩
 have hR':R=if Xt h && (h.ts.all (jcp h) && ((jal h).all (opB h) && jkj h)) then 0 else 4:=hR.symm
 rw [hR]
 clear hR
 simp [F103,j2,j1]
 refine jV e107 (by simp [j2]) rfl (by simp [j2]) ?_
 cases b1:Xt h
 ·rw [b1] at hR'
  simp at hR'
  subst hR'
  simp [j1,j7]
  exact J3 rfl (l:=[.int .i64 4]) (by simp [jm,j1]) rfl rfl
 rw [b1] at hR'
 simp [j1]
 refine Jg (vs:=[jI h.tn ji h.ts,.fn (.func 154) [] [.ptr 2 0 0]]) (by simp) rfl rfl (ev153 (p:=fun t=>!jcp h t) rfl (fun t tk base ub=>ev154 (h:=h) ⟨rfl,by simp [j2]⟩ t tk base ub) h.tn h.ts (by omega) _ _ _) ?_
 rw [j2v]
 cases b2:h.ts.all (jcp h)
 ·rw [b2] at hR'
  replace hR':R=4:=hR'
  subst hR'
  simp [j1,j7]
  exact J3 rfl (l:=[.int .i64 4]) (by simp [jm,j1]) rfl rfl
 rw [b2] at hR'
 simp [j1]
 refine QD (vs:=[.agg (j2 h)]) (by simp [j2]) rfl ?_
 obtain ⟨r,hr,e1,e2,e3,e4⟩:=j2c (Yf:=noYF) h _ _ 0 _ _
 refine ⟨r,hr,?_⟩
 simp
 refine JV fun st hst=>?_
 obtain ⟨U,hU⟩:∃ U,st.nx=U:=⟨_,rfl⟩
 obtain ⟨m,hm,hmU,g15,p2,p4,pl⟩:∃ m,m % 64=0∧m<U∧st.tm 15 = .fn (.func 215) [] [.ptr (2 * m+1) m 0]∧st.ob 2=some ⟨0,.cells (j2 h)⟩∧st.ob 4=some ⟨64,.cells [.int .i64 0]⟩∧st.ob (2 * m+1)=some ⟨m,.cells (j2 h)⟩:=by
  refine ⟨_,?_,?_,by rw [hst];simp only [jku,put,Ye];exact e1,?_,?_,?_⟩
  ·decide
  ·rw [← hU,hst,jg5,e4];omega
  ·rw [hst];simp only [JA];rw [e2];simp [j2]
  ·rw [hst];simp only [JA];rw [e2];simp
  ·rw [hst];simp only [JA];rw [e2];simp
 have g1:st.tm 1 = .ptr 2 0 0:=by rw [hst];simp [put,j6]
 have g2:st.tm 2 = .ptr 4 64 0:=by rw [hst];simp [put,j6]
 have gd:st.df=[]:=by rw [hst];simp
 have gb:st.fb=0:=by rw [hst];simp
 have gr:st.ro=0:=by rw [hst];simp
 have hU64:64≤U:=by rw [← hU,hst,jg5,e4];omega
 clear hst e1 e2 e3 e4 hr
 refine j0e h hts hos U hU hU64 g15 ⟨m,rfl,hmU⟩ g1 g2 gr gb p2 p4 pl ?_
 intro e ob tk ub c q2 q4 q3 hub hcase
 rcases hcase with ⟨b3,rfl,rfl⟩ | ⟨b3,rfl,rfl⟩
 ·rw [b3] at hR'
  simp [g1,j1,q2,j2]
  refine jV e112 (by simp [j2]) rfl (by simp [j2]) ?_
  have n3:¬ 2 * U+3=4:=by omega
  have n4:¬ 4=2 * U+3:=by omega
  cases b4:jkj h
  ·rw [b4] at hR'
   replace hR':R=4:=hR'
   subst hR'
   simp [j1,g2,q4,gr,j7]
   refine Wy (l:=2 * U+3) (u:=U+1) (by simp [gd]) (by simp [q3,n3]) (by simp) (QH rfl (l:=[.int .i64 4]) ?_ rfl)
   simp [jm,j1,g2,n3]
  ·rw [b4] at hR'
   replace hR':R=0:=hR'
   subst hR'
   simp [j1,g2,q4,gr,j7]
   refine Wy (l:=2 * U+3) (u:=U+1) (by simp [gd]) (by simp [q3,n3]) (by simp) (QH rfl (l:=[.int .i64 0]) ?_ rfl)
   simp [jm,j1,g2,n3]
 ·rw [b3] at hR'
  replace hR':R=4:=hR'
  subst hR'
  have n3:¬ 2 * U+3=4:=by omega
  have n4:¬ 4=2 * U+3:=by omega
  simp
  refine Wy (l:=2 * U+3) (u:=U+1) (by simp [gd]) (by simp [q3]) (by simp [gr]) (QH rfl (l:=[.int .i64 4]) ?_ rfl)
  simp [jm,j1,g2,n3,q4]
def marks (bs:List Bool) (ks:List Int):List Bool:=ks.foldl (fun b k=>b.set k.toNat true) bs
theorem Xo (ks:List Int):∀ bs:List Bool,(marks bs ks).length=bs.length:=by
 induction ks with
 | nil=>intro bs;rfl
 | cons k ks ih=>intro bs;exact (ih _).trans List.length_set
theorem jgi (bs:List Bool) (ks:List Int) (k:Int):marks bs (ks++[k])=(marks bs ks).set k.toNat true:=by simp [marks]
theorem jse (bs:List Bool) (a b:List Int):marks bs (a++b)=marks (marks bs a) b:=by simp [marks]
theorem jfw (bs:List Bool) (k:Nat) (h:k<bs.length):j7 (bs.map V.bool) k [.bool true]=(bs.set k true).map V.bool:=by
 unfold j7
 rw [List.map_set,List.set_eq_take_append_cons_drop,if_pos (by simpa using h)]
 simp
def Yc (h:Hist') (t:Txn'):Bool:=jcp h t && t.ops.all (opB h)
theorem jhq {l u n:Nat} {kk:IntKind} {x:Int} (h0:0≤x) (h1:x<n):JL 1 (.osl l u 0 n 1) (.int kk x)=some (.ptr l u x.toNat):=by
 simp [JL,h0,h1]
theorem jib {n:Int} {l:Nat} (h1:¬ n<0) (h2:¬ (l:Int)≤n):YH n l=true:=by unfold YH;simp;omega
theorem jid {n:Int} {l:Nat} (h1:n<0):YH n l=false:=by unfold YH;simp;omega
theorem jic {n:Int} {l:Nat} (h1:(l:Int)≤n):YH n l=false:=by unfold YH;simp;omega
theorem ev111 {Yf:YF} {h:Hist'} {t:Txn'} (ht:t.ops.length≤1000000) {ob:ZO} {tk:Nat→Bool} {ro base ub l u:Nat} {bs:List Bool} (hbs:bs.length=h.ks.length) (ho:ob l=some ⟨u,.cells (bs.map V.bool)⟩) (hro:ro≤u) (hrb:ro≤ub)
 (hl:∀ m,ub≤m→l≠2 * m+1) :
 ∃ r,EvS E Yf.y 111 [.agg (j2 h),.agg (ji t),.osl l u 0 h.ks.length 1] ob tk ro base ub r∧r.1 = .bool (Yc h t)∧(Yc h t=true →
  r.2.1 l=some ⟨u,.cells ((marks bs (t.ops.map (·.key))).map V.bool)⟩∧(∀ key,key≠l→(∀ m,ub≤m→key≠2 * m+1)→r.2.1 key=ob key)∧r.2.2.1=tk∧ub≤r.2.2.2):=by
 refine Qb (af:=S111) rfl (by decide) ?_
 show wpC E Yf S111.body _ (WU S111.res _)
 have n3:¬ 2 * (ub+64)=2 * ub:=by omega
 have n4:¬ 2 * ub=2 * (ub+64):=by omega
 have fin:∀ {e:Ex} {s:St},e = .ret→s.df=[]→s.tm 6 = .bool false→Yc h t=false→WU S111.res (fun r=>r.1 = .bool (Yc h t)∧(Yc h t=true →
  r.2.1 l=some ⟨u,.cells ((marks bs (t.ops.map (·.key))).map V.bool)⟩∧(∀ key,key≠l→(∀ m,ub≤m→key≠2 * m+1)→r.2.1 key=ob key)∧r.2.2.1=tk∧ub≤r.2.2.2)) e s:=by
  intro e s he hd h6 hg
  subst he
  refine ⟨(.bool false,s.ob,s.tk,s.nx),?_,by rw [hg],fun h=>by rw [hg] at h;cases h⟩
  simp [endS,hd,S111,jm,h6]
 generalize hP:(fun r:V × (ZO) × (Nat→Bool) × Nat=>r.1 = .bool (Yc h t)∧(Yc h t=true →
  r.2.1 l=some ⟨u,.cells ((marks bs (t.ops.map (·.key))).map V.bool)⟩∧(∀ key,key≠l→(∀ m,ub≤m→key≠2 * m+1)→r.2.1 key=ob key)∧r.2.2.1=tk∧ub≤r.2.2.2))=P at fin ⊢
 have gf:∀ {b:Bool},jcp h t=b→b=false→Yc h t=false:=fun h1 h2=>by unfold Yc;rw [h1,h2];rfl
 simp [S111,j2,ji,j1]
 by_cases s1:t.s<0
 ·simp [s1]
  exact fin rfl (by simp) (by simp) (gf (b:=false) (by unfold jcp;rw [jid s1];rfl) rfl)
 by_cases s2:(h.ss.length:Int)≤t.s
 ·simp [s1,s2,j1,n4]
  exact fin rfl (by simp) (by simp) (gf (b:=false) (by unfold jcp;rw [jic s2];rfl) rfl)
 by_cases f1:t.f<1
 ·simp [s1,s2,f1,j1,n4]
  exact fin rfl (by simp) (by simp) (gf (b:=false) (by unfold jcp;simp;omega) rfl)
 by_cases f2:3<t.f
 ·simp [s1,s2,f1,f2,j1,n4]
  exact fin rfl (by simp) (by simp) (gf (b:=false) (by unfold jcp;simp;omega) rfl)
 by_cases l1:20<(t.ops.length:Int)
 ·simp [s1,s2,f1,f2,l1,j1,n4]
  exact fin rfl (by simp) (by simp) (gf (b:=false) (by unfold jcp;simp;omega) rfl)
 have htx:jcp h t=true:=by unfold jcp;rw [jib s1 s2];simp;omega
 simp [s1,s2,f1,f2,l1,j1,n4]
 refine jE [(6,8),(36,78)] t.ops.length (fun i s=>s.tm 7 = .int .i64 i∧s.ob (2 * ub+1)=some ⟨ub,.cells (j2 h)⟩∧s.ob (2 * (ub+64)+1)=some ⟨ub+64,.cells (ji t)⟩ ∧
  s.ob l=some ⟨u,.cells ((marks bs ((t.ops.take i).map (·.key))).map V.bool)⟩∧(∀ key,key≠l→(∀ m,ub≤m→key≠2 * m+1)→s.ob key=ob key)∧s.tk=tk∧ub+128≤s.nx∧(t.ops.take i).all (opB h)=true) rfl rfl ?_ ?_
 ·refine ⟨by simp,by simp [n4,j2],by simp [ji],?_,?_,?_,?_,by simp⟩
  ·have e1:=hl ub (by omega)
   have e2:=hl (ub+64) (by omega)
   simp [e1,e2,ho,marks]
  ·intro key _ hm
   have e1:=hm ub (by omega)
   have e2:=hm (ub+64) (by omega)
   simp [e1,e2]
  ·simp [jo]
  ·simp
 ·rintro i s hi ⟨h7,oa,ob',ol,hfr,htk,hnx,hall⟩ f
  have f2:s.tm 2 = .osl l u 0 h.ks.length 1:=by rw [f.t 2 (by simp)];simp
  have f3:s.tm 3 = .ptr (2 * ub+1) ub 0:=by rw [f.t 3 (by simp)];simp
  have f4:s.tm 4 = .ptr (2 * (ub+64)+1) (ub+64) 0:=by rw [f.t 4 (by simp)];simp
  have fd:s.df=[]:=by rw [f.d];simp
  have fr:s.ro=ro:=by rw [f.r];simp
  clear f
  by_cases hlt:i<t.ops.length
  ·have hw:=jz hlt (by omega)
   have x1:¬ 2 * ub=2 * (s.nx+64+64+64+64+64+64+64+64+64+64):=by omega
   have x2:¬ 2 * (ub+64)=2 * (s.nx+64+64+64+64+64+64+64+64+64+64):=by omega
   have x3:¬ l=2 * (s.nx+64+64+64+64+64+64+64+64+64+64)+1:=hl _ (by omega)
   have x3':¬ 2 * (s.nx+64+64+64+64+64+64+64+64+64+64)+1=l:=fun e=>x3 e.symm
   have x4:¬ 2 * ub+1=l:=fun e=>hl ub (by omega) e.symm
   have x5:¬ 2 * (ub+64)+1=l:=fun e=>hl (ub+64) (by omega) e.symm
   have x6:ro≤s.nx+64+64+64+64+64+64+64+64+64+64:=by omega
   obtain ⟨o,hoo⟩:∃ o,t.ops[i]=o:=⟨_,rfl⟩
   have hl4:=jX jH s.ob t.ops hlt
   have bad:opB h o=false→Yc h t=false:=fun hb=>by
    unfold Yc
    rw [jl9 hlt (by rw [hoo];exact hb),Bool.and_false]
   simp [h7,f4,ob',j1,ji,hlt,j5 jH,jX jH,hoo,opC,j7,fr,x6]
   by_cases k1:o.key<0
   ·simp [k1]
    exact fin rfl (by simp [fd]) (by simp) (bad (by unfold opB;rw [jid k1];rfl))
   by_cases k2:(h.ks.length:Int)≤o.key
   ·simp [k1,k2,f3,oa,j1,x1,j2]
    exact fin rfl (by simp [fd]) (by simp) (bad (by unfold opB;rw [jic k2];rfl))
   have hwi:=jib k1 k2
   simp [k1,k2,f3,oa,j1,x1,j2]
   refine jV (ev174 o.v) (by simp [J1]) rfl (by simp [J1]) ?_
   cases k3:jif o.v
   ·simp
    exact fin rfl (by simp [fd]) (by simp) (bad (by unfold opB;rw [hwi,k3];rfl))
   have hk0:0≤o.key:=by omega
   have hk1:o.key<(h.ks.length:Int):=by omega
   have hio:=jhq (l:=l) (u:=u) (n:=h.ks.length) (kk:=.i64) hk0 hk1
   have hsp:=jfw (marks bs ((t.ops.take i).map (·.key))) o.key.toNat (by rw [Xo,hbs];omega)
   have hml:(marks bs ((t.ops.take i).map (·.key))).length=h.ks.length:=by rw [Xo,hbs]
   have hnext:marks bs ((t.ops.take (i+1)).map (·.key))=(marks bs ((t.ops.take i).map (·.key))).set o.key.toNat true:=by
    rw [List.take_succ_eq_append_getElem hlt,List.map_append,hoo]
    exact jgi _ _ _
   have hlen:o.key.toNat+1≤h.ks.length:=by omega
   have hall':opB h o=true→(t.ops.take (i+1)).all (opB h)=true:=fun hb=>by
    rw [List.take_succ_eq_append_getElem hlt,List.all_append,hall,hoo]
    simp [hb]
   generalize marks bs ((t.ops.take i).map (·.key))=mk at *
   cases k4:o.w
   ·have hgo:opB h o=true:=by unfold opB;rw [hwi,k3,k4];rfl
    simp [j1,x1,x2,x3,f2,hio,ol,hro,hml,hlen,hsp,fr,h7,hw]
    refine ⟨hlt,?_,?_,?_,?_,htk,?_,?_⟩
    ·rw [if_neg x4,oa];rfl
    ·rw [if_neg x5,ob'];rfl
    ·rw [← List.map_take,hnext,List.map_set]
    ·intro key h1 h2
     rw [if_neg h1,if_neg (h2 _ (by omega)),if_neg (h2 _ (by omega))]
     exact hfr key h1 h2
    ·omega
    ·have:=hall' hgo
     rw [List.all_eq_true] at this
     exact this
   ·cases k5:(o.v.kind == 1)
    ·have k5':(o.v.kind != 1)=true:=by simpa using k5
     simp [j1,k5']
     exact fin rfl (by simp [fd]) (by simp) (bad (by unfold opB;rw [hwi,k3,k4,k5];rfl))
    ·have k5':(o.v.kind != 1)=false:=by simpa using k5
     have hgo:opB h o=true:=by unfold opB;rw [hwi,k3,k4,k5];rfl
     simp [j1,x1,x2,x3,f2,hio,ol,hro,hml,hlen,hsp,fr,h7,hw,k5']
     refine ⟨hlt,?_,?_,?_,?_,htk,?_,?_⟩
     ·rw [if_neg x4,oa];rfl
     ·rw [if_neg x5,ob'];rfl
     ·rw [← List.map_take,hnext,List.map_set]
     ·intro key h1 h2
      rw [if_neg h1,if_neg (h2 _ (by omega)),if_neg (h2 _ (by omega))]
      exact hfr key h1 h2
     ·omega
     ·have:=hall' hgo
      rw [List.all_eq_true] at this
      exact this
  ·have:i=t.ops.length:=by omega
   subst this
   rw [List.take_length] at hall ol
   have hg:Yc h t=true:=by unfold Yc;rw [htx,hall];rfl
   simp [h7,f4,ob',j1,ji]
   refine ⟨(.bool true,s.ob,s.tk,s.nx+64+64+64+64+64+64),?_,?_⟩
   ·simp [endS,jm,fd]
   ·rw [← hP]
    exact ⟨by rw [hg],fun _=>⟨ol,hfr,htk,by show ub≤_;simp;omega⟩⟩
theorem js4 {E:Env} {st:St} {ub:Nat} {K:List FP→St→Prop} {d:Option Nat} {nm:Bool} {r:List AOpr} {sz bytes n:Nat} {zero:List V} {x y:A} (hl:eval E st.tm x = .int .i64 (n:Int)) (hc:eval E st.tm y = .int .i64 (n:Int)) (hb:n * bytes≤140737488355328) (hn:n≤140737488355328) (hz:zero.length=sz) (h0:0<sz)
 (h:Wq E r K (eval E st.tm) (.mkSl true sz bytes zero x y) st d ub { v:=.osl (jP d nm st.fb ub) ub 0 n sz,obs:=[(jP d nm st.fb ub,⟨ub,.cells (jaf n zero)⟩)] }):jJ E (⟨d,.mkSl true sz bytes zero x y,none,nm⟩::r) st ub K:=by
 rw [Ja rfl]
 simp only [aop,hl,hc]
 rw [if_pos (by refine ⟨by omega,by omega,?_,by omega,hz,h0⟩;rw [← Int.natCast_mul];exact Int.ofNat_le.2 hb)]
 simp only [Bool.not_true,Bool.false_eq_true,false_and,if_false,Jb,jN,Jz,Int.toNat_natCast]
 exact h
theorem jbf (n:Nat):jaf n [.bool false]=(List.replicate n false).map V.bool:=by
 unfold jaf
 apply List.ext_getElem
 ·simp
 ·intro i h1 h2
  simp [List.getD,Nat.mod_one]
theorem jjg (ks:List Int):∀ (bs:List Bool) (j:Nat) (hj:j<bs.length),(∀ k∈ks,0≤k)→(marks bs ks)[j]? = some (bs[j] || ks.any fun k=>k == (j:Int)):=by
 induction ks with
 | nil=>intro bs j hj _;simp [marks,hj]
 | cons k ks ih =>
  intro bs j hj h
  have hk:=h k (by simp)
  have:=ih (bs.set k.toNat true) j (by simpa using hj) (fun x hx=>h x (by simp [hx]))
  show (marks (bs.set k.toNat true) ks)[j]? = _
  rw [this,List.getElem_set,List.any_cons]
  by_cases hkj:k.toNat=j
  ·have:k=(j:Int):=by omega
   simp [this]
  ·have:¬ k=(j:Int):=by omega
   have e:(k == (j:Int))=false:=by simpa using this
   rw [if_neg hkj,e,Bool.false_or]
theorem jjh {ks:List Int} {n:Nat} (h:∀ k∈ks,0≤k∧k<n):(marks (List.replicate n false) ks).all id=decide ((dd ks).length=n):=by
 have hp:=(jyb n (dd ks) (jv0 ks) (fun x hx=>h x (mem_dd.1 hx))).2
 rw [Bool.eq_iff_iff,List.all_eq_true,decide_eq_true_eq,hp]
 constructor
 ·intro hall k hk
  have hl:k<(marks (List.replicate n false) ks).length:=by rw [Xo];simpa using hk
  have:=hall _ (List.getElem_mem hl)
  have hg:=jjg ks (List.replicate n false) k (by simpa using hk) (fun x hx=>(h x hx).1)
  rw [List.getElem?_eq_getElem hl,Option.some.injEq] at hg
  rw [hg] at this
  simp at this
  exact mem_dd.2 this
 ·intro hall x hx
  obtain ⟨j,hj,rfl⟩:=List.getElem_of_mem hx
  have hjn:j<n:=by rw [Xo] at hj;simpa using hj
  have hg:=jjg ks (List.replicate n false) j (by simpa using hjn) (fun x hx=>(h x hx).1)
  rw [List.getElem?_eq_getElem hj,Option.some.injEq] at hg
  rw [hg]
  have:=mem_dd.1 (hall j hjn)
  simp
  exact this
theorem jjw (h:Hist'):h.ts.all (Yc h)=(h.ts.all (jcp h) && (jal h).all (opB h)):=by
 unfold jal
 induction h.ts with
 | nil=>rfl
 | cons t l ih =>
  simp only [List.all_cons,List.flatMap_cons,List.all_append,ih,Yc]
  cases jcp h t <;> cases t.ops.all (opB h) <;> cases l.all (jcp h) <;> simp
theorem within_iff {n:Int} {l:Nat}:YH n l=true ↔ 0≤n∧n<l:=by unfold YH;simp
theorem jv5 {h:Hist'} (hd:Xt h=true) (hg:h.ts.all (Yc h)=true):X9 h=((marks (List.replicate h.ks.length false) (usesK h)).all id && (marks (List.replicate h.ss.length false) (usesS h)).all id):=by
 rw [jjw,Bool.and_eq_true] at hg
 have hS:∀ k∈usesS h,0≤k∧k<h.ss.length:=by
  intro k hk
  obtain ⟨t,ht,rfl⟩:=List.mem_map.1 hk
  have:=List.all_eq_true.1 hg.1 t ht
  unfold jcp at this
  rw [Bool.and_eq_true] at this
  exact within_iff.1 this.1
 have hK:∀ k∈usesK h,0≤k∧k<h.ks.length:=by
  intro k hk
  obtain ⟨t,ht,rfl⟩:=List.mem_map.1 hk
  have:=List.all_eq_true.1 hg.2 t ht
  unfold opB at this
  rw [Bool.and_eq_true] at this
  exact within_iff.1 this.1
 rw [jjh hS,jjh hK]
 unfold X9 jkj
 rw [hd,hg.1,hg.2]
 simp only [Bool.true_and]
 rw [Bool.and_comm]
theorem j2e {h:Hist'} (hd:Xt h=false):errH h=4:=by unfold errH X9;rw [hd];rfl
theorem j2d {h:Hist'} (hg:h.ts.all (Yc h)=false):errH h=4:=by
 unfold errH X9
 rw [jjw] at hg
 rw [← Bool.and_assoc (h.ts.all (jcp h)),hg]
 simp
def jfi (l:List Bool):Bool:=l.all id
theorem jnu:jfi []=true:=rfl
theorem jj8 {l:List Bool} {j:Nat} (h:j<l.length):jfi (l.take (j+1))=(jfi (l.take j) && l[j]):=by
 unfold jfi;rw [List.take_succ_eq_append_getElem h,List.all_append];simp
theorem j87 {h:Hist'} (hs:Small h):Ev E 58 [.agg (j2 h)] (.int .i64 (errH h)):=by
 refine jT (af:=F58) rfl ?_
 have hts:=hs.ts
 have hks:=hs.ks
 have hss:=hs.ss
 have e1:=j9f h.sn h.ss (by omega) (fun s hx=>by have:=hs.sl s hx;omega)
 have e2:=j9f h.kn h.ks (by omega) (fun s hx=>by have:=hs.kl s hx;omega)
 obtain ⟨R,hR⟩:∃ R,errH h=R:=⟨_,rfl⟩
 have bad:Xt h=false→R=4:=fun hd=>hR ▸ j2e hd
 have bad2:h.ts.all (Yc h)=false→R=4:=fun hd=>hR ▸ j2d hd
 rw [hR]
 simp [F58,j2,j1]
 refine jV e1 (by simp) rfl rfl ?_
 cases b1:jt9 h.ss
 ·rw [bad (by unfold Xt;rw [b1];rfl)]
  simp
  exact j3 rfl (by simp) rfl
 simp [j1]
 refine jV e2 (by simp) rfl rfl ?_
 cases b2:jt9 h.ks
 ·rw [bad (by unfold Xt;rw [b1,b2];rfl)]
  simp
  exact j3 rfl (by simp) rfl
 by_cases c1:20<(h.ss.length:Int)
 ·rw [bad (by unfold Xt;simp;omega)]
  simp [j1,c1]
  exact j3 rfl (by simp) rfl
 by_cases c2:40<(h.ks.length:Int)
 ·rw [bad (by unfold Xt;simp;omega)]
  simp [j1,c1,c2]
  exact j3 rfl (by simp) rfl
 by_cases c3:40<(h.ts.length:Int)
 ·rw [bad (by unfold Xt;simp;omega)]
  simp [j1,c1,c2,c3]
  exact j3 rfl (by simp) rfl
 have hd:Xt h=true:=by unfold Xt;rw [b1,b2];simp;omega
 simp [j1,c1,c2,c3]
 refine js4 (n:=h.ks.length) (by simp) (by simp) (by omega) (by omega) rfl (by decide) ?_
 simp [j1]
 refine js4 (n:=h.ss.length) (by simp) (by simp) (by omega) (by omega) rfl (by decide) ?_
 simp [jbf]
 refine ⟨by simp [XI,Qo,jfh,jch,rdOb,rdTk,lOf,Delta.wo,Delta.wt];decide,?_⟩
 refine JV fun st hst=>?_
 have g1:st.tm 1 = .ptr 1 0 0:=by rw [hst];simp
 have g3:st.tm 3 = .osl 4225 2112 0 h.ks.length 1:=by rw [hst];simp
 have g4:st.tm 4 = .osl 4737 2368 0 h.ss.length 1:=by rw [hst];simp
 have g5:st.tm 5 = .int .i64 0:=by rw [hst];simp
 have p1:st.ob 1=some ⟨0,.cells (j2 h)⟩:=by rw [hst];simp [j2]
 have pk:st.ob 4225=some ⟨2112,.cells ((List.replicate h.ks.length false).map V.bool)⟩:=by rw [hst];simp
 have ps:st.ob 4737=some ⟨2368,.cells ((List.replicate h.ss.length false).map V.bool)⟩:=by rw [hst];simp
 have gd:st.df=[]:=by rw [hst];simp
 have gb:st.fb=0:=by rw [hst];simp
 have gr:st.ro=0:=by rw [hst];simp
 have gn:2400≤st.nx:=by rw [hst];simp
 clear hst
 generalize hB:List.replicate h.ks.length false=B at *
 generalize hC:List.replicate h.ss.length false=D at *
 have hBl:B.length=h.ks.length:=by rw [← hB];simp
 have hDl:D.length=h.ss.length:=by rw [← hC];simp
 refine jE [(2,2),(5,5),(45,68)] h.ts.length (fun i s=>s.tm 5 = .int .i64 i∧s.ob 1=some ⟨0,.cells (j2 h)⟩∧s.ob 4225=some ⟨2112,.cells ((marks B ((h.ts.take i).flatMap fun t=>t.ops.map (·.key))).map V.bool)⟩ ∧
  s.ob 4737=some ⟨2368,.cells ((marks D ((h.ts.take i).map (·.s))).map V.bool)⟩∧2400≤s.nx∧(h.ts.take i).all (Yc h)=true) rfl rfl ⟨by simp [g5],p1,by simp [pk,marks],by simp [ps,marks],gn,by simp⟩ ?_
 rintro i s hi ⟨h5,o1,ok,os,hnx,hall⟩ f
 have f1:s.tm 1 = .ptr 1 0 0:=by rw [f.t 1 (by simp),g1]
 have f3:s.tm 3 = .osl 4225 2112 0 h.ks.length 1:=by rw [f.t 3 (by simp),g3]
 have f4:s.tm 4 = .osl 4737 2368 0 h.ss.length 1:=by rw [f.t 4 (by simp),g4]
 have fd:s.df=[]:=by rw [f.d,gd]
 have fb:s.fb=0:=by rw [f.b,gb]
 have fr:s.ro=0:=by rw [f.r,gr]
 clear f
 by_cases hlt:i<h.ts.length
 ·have hw:=jz hlt (by omega)
  obtain ⟨t,ht⟩:∃ t,h.ts[i]=t:=⟨_,rfl⟩
  have htm:t∈h.ts:=ht ▸ List.getElem_mem hlt
  have hos:=hs.os t htm
  have hl3:=jX j8 s.ob h.ts hlt
  rw [ht] at hl3
  simp [h5,f1,o1,j1,j2,hlt,j5 j8,jX j8,ht,f3]
  refine QD (vs:=[.agg (j2 h),.agg (ji t),.osl 4225 2112 0 h.ks.length 1]) (by simp [j2]) rfl ?_
  simp [fr,fb]
  have hml:(marks B ((h.ts.take i).flatMap fun t=>t.ops.map (·.key))).length=h.ks.length:=by rw [Xo,hBl]
  have hmd:(marks D ((h.ts.take i).map (·.s))).length=h.ss.length:=by rw [Xo,hDl]
  obtain ⟨⟨v,ob',tk',ub'⟩,hr,hv,hg⟩:=ev111 (Yf:=noYF) (h:=h) (t:=t) (by omega) (ob:=s.ob) (tk:=s.tk) (ro:=0) (base:=61440) (ub:=s.nx+64+64+64+64+64+64+64+64+64+64+64+64) (l:=4225) (u:=2112) hml ok (by omega) (by omega) (fun m hm=>by omega)
  refine ⟨v,ob',tk',ub',hr,?_⟩
  simp only at hv hg
  subst hv
  cases hgt:Yc h t
  ·rw [bad2 (jl9 hlt (by rw [ht];exact hgt))]
   simp [put]
   exact j3 (by simp [fd]) (by simp) rfl
  ·obtain ⟨q1,q2,q3,q4⟩:=hg hgt
   have q1':=(q2 1 (by decide) (fun m hm=>by omega)).trans o1
   have qs:=(q2 4737 (by decide) (fun m hm=>by omega)).trans os
   have htx:jcp h t=true:=by unfold Yc at hgt;rw [Bool.and_eq_true] at hgt;exact hgt.1
   have hwi:0≤t.s∧t.s<h.ss.length:=by unfold jcp at htx;rw [Bool.and_eq_true] at htx;exact within_iff.1 htx.1
   have hio:=jhq (l:=4737) (u:=2368) (n:=h.ss.length) (kk:=.i64) hwi.1 hwi.2
   have hsp:=jfw (marks D ((h.ts.take i).map (·.s))) t.s.toNat (by rw [hmd];omega)
   have hfl:(h.ts.flatMap ji)[i * 3]? = some (.int .i64 t.s):=by
    have:=jb j8 h.ts hlt (by decide:0<3)
    rw [Nat.add_zero,ht] at this
    rw [this];rfl
   have hnk:marks B ((h.ts.take (i+1)).flatMap fun t=>t.ops.map (·.key))=marks (marks B ((h.ts.take i).flatMap fun t=>t.ops.map (·.key))) (t.ops.map (·.key)):=by
    rw [List.take_succ_eq_append_getElem hlt,List.flatMap_append,jse,ht];simp
   have hns:marks D ((h.ts.take (i+1)).map (·.s))=(marks D ((h.ts.take i).map (·.s))).set t.s.toNat true:=by
    rw [List.take_succ_eq_append_getElem hlt,List.map_append,ht];exact jgi _ _ _
   have hal:(h.ts.take (i+1)).all (Yc h)=true:=by
    rw [List.take_succ_eq_append_getElem hlt,List.all_append,hall,ht];simp [hgt]
   rw [← hnk] at q1
   have hts1:t.s.toNat+1≤h.ss.length:=by omega
   obtain ⟨mk,hmk⟩:∃ m,marks B ((h.ts.take (i+1)).flatMap fun t=>t.ops.map (·.key))=m:=⟨_,rfl⟩
   rw [hmk] at q1
   generalize marks D ((h.ts.take i).map (·.s))=md at *
   simp [put,j6,f1,f4,h5,q1',j1,j2,hlt,j5 j8,hfl,hio,qs,hmd,hsp,hw,q1,hts1]
   refine ⟨by rw [hmk],by rw [← List.map_take,hns,List.map_set],by omega,?_⟩
   rw [List.all_eq_true] at hal
   exact hal
 ·have:i=h.ts.length:=by omega
  subst this
  rw [List.take_length] at hall ok os
  have hmay:=jv5 hd hall
  have hK:(h.ts.flatMap fun t=>t.ops.map (·.key))=usesK h:=by unfold usesK jal;rw [List.map_flatMap]
  have hS:h.ts.map (·.s)=usesS h:=rfl
  rw [hK] at ok
  rw [hS] at os
  rw [hB,hC] at hmay
  have hml:(marks B (usesK h)).length=h.ks.length:=by rw [Xo,hBl]
  have hmd:(marks D (usesS h)).length=h.ss.length:=by rw [Xo,hDl]
  have hR':R=if jfi (marks B (usesK h)) && jfi (marks D (usesS h)) then 0 else 4:=by rw [← hR,errH,hmay];rfl
  clear hmay hR
  generalize marks B (usesK h)=mk at *
  generalize marks D (usesS h)=md at *
  simp [h5,f1,o1,j1,j2]
  refine jE [(6,7),(69,81)] h.ks.length (fun i s'=>s'.tm 7 = .int .i64 i∧s'.ob=s.ob∧s'.tm 6 = .bool (jfi (mk.take i))) rfl rfl ⟨by simp,by simp,by simp [jnu]⟩ ?_
  rintro j s1 hj ⟨k7,ko,k6⟩ f
  have m3:s1.tm 3 = .osl 4225 2112 0 h.ks.length 1:=by rw [f.t 3 (by simp)];simp [f3]
  have m4:s1.tm 4 = .osl 4737 2368 0 h.ss.length 1:=by rw [f.t 4 (by simp)];simp [f4]
  have md1:s1.df=[]:=by rw [f.d];simp [fd]
  clear f
  by_cases hjt:j<h.ks.length
  ·have hw:=jz hjt (by omega)
   have hjm:j<mk.length:=by omega
   have hio:=jhq (l:=4225) (u:=2112) (n:=h.ks.length) (kk:=.i64) (x:=(j:Int)) (by omega) (by omega)
   have hnx:jfi (mk.take (j+1))=(jfi (mk.take j) && mk[j]):=jj8 hjm
   cases hb:jfi (mk.take j)
   ·rw [hb] at k6 hnx
    simp [k7,m3,hjt,k6,hw,ko]
    rw [hnx];rfl
   ·rw [hb] at k6 hnx
    simp [k7,m3,hjt,k6,hw,ko,hio,j1,ok,hjm]
    rw [hnx];rfl
  ·have:j=h.ks.length:=by omega
   subst this
   have hmt:mk.take h.ks.length=mk:=List.take_of_length_le (by omega)
   rw [hmt] at k6
   simp [k7,m3]
   refine jE [(6,6),(8,8),(82,94)] h.ss.length (fun i s'=>s'.tm 8 = .int .i64 i∧s'.ob=s.ob∧s'.tm 6 = .bool (jfi mk && jfi (md.take i))) rfl rfl ⟨by simp,by simp [ko],by simp [k6,jnu]⟩ ?_
   rintro j s2 hj ⟨z8,zo,z6⟩ f
   have y4:s2.tm 4 = .osl 4737 2368 0 h.ss.length 1:=by rw [f.t 4 (by simp)];simp [m4]
   have yd:s2.df=[]:=by rw [f.d];simp [md1]
   clear f
   by_cases hjt:j<h.ss.length
   ·have hw:=jz hjt (by omega)
    have hjm:j<md.length:=by omega
    have hio:=jhq (l:=4737) (u:=2368) (n:=h.ss.length) (kk:=.i64) (x:=(j:Int)) (by omega) (by omega)
    have hnx:jfi (md.take (j+1))=(jfi (md.take j) && md[j]):=jj8 hjm
    cases hb:(jfi mk && jfi (md.take j))
    ·have hnx':(jfi mk && jfi (md.take (j+1)))=false:=by rw [hnx,← Bool.and_assoc,hb];rfl
     rw [hb] at z6
     simp [z8,y4,hjt,z6,hw,zo]
     intro hm;rw [hm] at hnx';exact hnx'
    ·have hnx':(jfi mk && jfi (md.take (j+1)))=md[j]:=by rw [hnx,← Bool.and_assoc,hb];rfl
     rw [hb] at z6
     simp [z8,y4,hjt,z6,hw,zo,hio,j1,os,hjm]
     exact hnx'.symm
   ·have:j=h.ss.length:=by omega
    subst this
    have hmt:md.take h.ss.length=md:=List.take_of_length_le (by omega)
    rw [hmt] at z6
    cases hb:(jfi mk && jfi md)
    ·rw [hb] at z6 hR'
     simp [z8,y4,z6]
     exact j3 (by simp [yd]) (by simp [hR']) rfl
    ·rw [hb] at z6 hR'
     simp [z8,y4,z6]
     exact j3 (by simp [yd]) (by simp [hR']) rfl
section
variable {E:Env} {Yf:YF} {st:St} {ub:Nat} {K:St→Nat→Prop} {d:Option Nat} {nm:Bool}
theorem YQ {sz n:Nat} {zero:List V} {parts:List (Nat × Nat × A)} {cs:List V} (hf:fill zero (ju (eval E st.tm) parts)=some cs) (hl:cs.length=n * sz) (hp:cs.all V.leaf=true)
 (h:QP K st d ub { v:=.osl (jP d nm st.fb ub) ub 0 n sz,obs:=[(jP d nm st.fb ub,⟨ub,.cells cs⟩)] }):j9 E Yf ⟨d,.buildSl true sz zero parts n,none,nm⟩ st ub K:=by
 rw [jS _ rfl rfl]
 simp only [aop,hf,Option.bind_some,if_true,Jz]
 rw [if_pos ⟨hl,hp⟩,Jb,jN]
 exact h
theorem QW {sz bytes n:Nat} {cs ys:List V} {s x:A} (hs:eval E st.tm s = .sl none true n cs) (hx:jM st.ob sz (eval E st.tm x)=some ys) (hne:ys≠[]) (h0:0<sz) (hp:ys.all V.leaf=true)
 (hb:(ys.length / sz) * bytes≤140737488355328) (hb2:ys.length / sz≤140737488355328) (h:QP K st d ub { v:=.osl (jP d nm st.fb ub) ub 0 (ys.length / sz) sz,obs:=[(jP d nm st.fb ub,⟨ub,.cells ys⟩)] }) :
 j9 E Yf ⟨d,.append true sz bytes s x,none,nm⟩ st ub K:=by
 rw [jS _ rfl rfl]
 simp only [aop,hs,hx,Option.bind_some,if_neg hne,Bool.and_self,if_true,Jz]
 rw [if_pos ⟨h0,hp,hb,hb2⟩,Jb,jN]
 exact h
theorem QE {sz bytes l u n:Nat} {cs ys:List V} {s x:A} (hs:eval E st.tm s = .osl l u 0 n sz) (hx:jM st.ob sz (eval E st.tm x)=some ys) (ho:st.ob l=some ⟨u,.cells cs⟩) (hne:ys≠[]) (hro:st.ro≤u) (hn:n * sz≤cs.length) (h0:0<sz) (hp:ys.all V.leaf=true)
 (hb:(n+ys.length / sz) * bytes≤140737488355328) (hb2:n+ys.length / sz≤140737488355328)
 (h:QP K st d ub { v:=.osl (jP d nm st.fb ub) ub 0 (n+ys.length / sz) sz,obs:=[(jP d nm st.fb ub,⟨ub,.cells (cs.take (n * sz)++ys)⟩)],kill:=[l] }) :
 j9 E Yf ⟨d,.append true sz bytes s x,none,nm⟩ st ub K:=by
 rw [jS _ rfl rfl]
 have hoc:j1 st.ob l u=some cs:=by simp [j1,ho]
 simp only [aop,hs,hx,Option.bind_some,hoc,if_neg hne,Jz]
 rw [if_pos ⟨Nat.ble_eq ▸ hro,trivial,trivial,hn,h0,hp,hb,hb2⟩,jN]
 exact h
end
@[simp] theorem app_obk (st:St) (d:Option Nat) (v:V) (l k l':Nat) (o':Obj'):(st.app d { v:=v,obs:=[(l,o')],kill:=[l'] }).ob k=if k=l then some o' else if k=l' then none else st.ob k:=by
 have e:(Nat.beq k l')=decide (k=l'):=by rw [Bool.eq_iff_iff];simp
 simp only [St.app,JK,j6,List.any_cons,List.any_nil,Bool.or_false,e,decide_eq_true_eq]
theorem j2u (st:St) (d:Option Nat) (v:V) (obs:List (Nat × Obj')) (kl:List Nat):(st.app d { v:=v,obs:=obs,kill:=kl }).tk=st.tk:=by
 funext u
 simp [jl]
theorem jr9 {α:Type} {m:List (Int × α)} {k:Int} {a b:α} {i:Nat} (h:jW m k=some (i,b)) (k':Int):(jW (m.set i (k,a)) k').map (·.2)=if k'=k then some a else (jW m k').map (·.2):=by
 induction m generalizing i with
 | nil=>cases h
 | cons p m ih =>
  obtain ⟨q,c⟩:=p
  by_cases hk:k=q
  ·simp only [jW,hk,if_true,Option.some.injEq,Prod.mk.injEq] at h
   obtain ⟨rfl,rfl⟩:=h
   subst hk
   simp only [List.set_cons_zero,jW]
   split <;> rfl
  ·simp only [jW,hk,if_false,Option.map_eq_some_iff,Prod.mk.injEq] at h
   obtain ⟨⟨j,b'⟩,hj,rfl,rfl⟩:=h
   simp only [List.set_cons_succ,jW]
   by_cases hq:k'=q
   ·have:¬ q=k:=fun e=>hk e.symm
    simp [hq,this]
   ·simp only [hq,if_false,Option.map_map]
    have:=ih hj
    simpa [Function.comp_def] using this
theorem jsa {α:Type} {m:List (Int × α)} {k:Int} {a:α} (h:jW m k=none) (k':Int):(jW (m++[(k,a)]) k').map (·.2)=if k'=k then some a else (jW m k').map (·.2):=by
 induction m with
 | nil=>simp [jW];try (split <;> simp)
 | cons p m ih =>
  obtain ⟨q,c⟩:=p
  by_cases hk:k=q
  ·simp [jW,hk] at h
  ·simp only [jW,hk,if_false,Option.map_eq_none_iff] at h
   simp only [List.cons_append,jW]
   by_cases hq:k'=q
   ·have:¬ q=k:=fun e=>hk e.symm
    simp [hq,this]
   ·simp only [hq,if_false,Option.map_map]
    have:=ih h
    simpa [Function.comp_def] using this
theorem XO (m:List (Int × Int)) (k a k':Int):JY (mset m k a) k'=if k'=k then a else JY m k':=by
 unfold JY mset
 cases h:jW m k with
 | none=>simp only [];rw [jsa h];split <;> rfl
 | some p =>
  obtain ⟨i,b⟩:=p
  simp only []
  rw [jr9 h]
  split <;> rfl
end Go.Pv.T
namespace Go.Pv.T
open Go Go.Pv
end Go.Pv.T
namespace Go.Pv.T
open Go Go.Pv
@[simp] theorem j9o (a b c d e:Nat):(V.osl a b c d e).cells=[.osl a b c d e]:=rfl
@[simp] theorem leaf_osl (a b c d e:Nat):(V.osl a b c d e).leaf=true:=rfl
def jb2 (st:St) (v:V) (nl:Bool) (n:Nat) (cs:List V):Prop:=∀ keep i,∃ a,jr st keep i v=some (.sl a nl n cs)∧(a=none∨∃ z,a=some (i,z))
theorem Q4 (st:St) (t:Option (Nat × Nat)) (nl:Bool) (n:Nat) (cs:List V):jb2 st (.sl t nl n cs) nl n cs:=by
 intro keep i
 cases t with
 | none=>exact ⟨none,rfl,.inl rfl⟩
 | some p =>
  obtain ⟨u,z⟩:=p
  refine ⟨_,rfl,?_⟩
  split
  ·exact .inr ⟨z,rfl⟩
  ·exact .inl rfl
def jpt (r:V) (g:Hist'):Prop:=∃ a b c:Option (Nat × Nat),r = .agg [.sl a g.sn g.ss.length (g.ss.flatMap JJ),.sl b g.kn g.ks.length (g.ks.flatMap JJ),.sl c g.tn g.ts.length (g.ts.flatMap ji)]∧(∀ p∈a.toList++b.toList++c.toList,p.1<64)
theorem jdh (a:Option (Nat × Nat)) (nl:Bool) (n:Nat) (cs:List V):(V.sl a nl n cs).tok=a.toList.map (·.1):=by
 cases a with
 | none=>rfl
 | some p=>rfl
theorem j3u {a:Option (Nat × Nat)} {nl:Bool} {n:Nat} {cs:List V} {i:Nat}:i∈(V.sl a nl n cs).tok ↔ ∃ p∈a.toList,p.1=i:=by rw [jdh,List.mem_map]
def Grow {α:Type} (tk:Nat→Bool) (lo nx:Nat) (f:α→List V) (sz:Nat) (l:List α) (v:V):Prop :=
 (l=[]∧v = .sl none true 0 [])∨(l≠[]∧∃ u,v = .sl (some (u,sz)) false l.length (l.flatMap f)∧tk u=true∧lo≤u∧u<nx)
theorem Grow.nil {α:Type} (tk:Nat→Bool) (lo nx:Nat) (f:α→List V) (sz:Nat):Grow tk lo nx f sz [] (.sl none true 0 []):=.inl ⟨rfl,rfl⟩
theorem Grow.form {α:Type} {tk:Nat→Bool} {lo nx:Nat} {f:α→List V} {sz:Nat} {l:List α} {v:V} (h:Grow tk lo nx f sz l v):∃ t,v = .sl t l.isEmpty l.length (l.flatMap f):=by
 rcases h with ⟨rfl,rfl⟩ | ⟨hne,u,rfl,_⟩
 ·exact ⟨none,rfl⟩
 ·cases l with
  | nil=>exact absurd rfl hne
  | cons a l=>exact ⟨_,rfl⟩
theorem Grow.mono {α:Type} {tk tk':Nat→Bool} {lo nx nx':Nat} {f:α→List V} {sz:Nat} {l:List α} {v:V} (h:Grow tk lo nx f sz l v) (ht:∀ u,lo≤u→u<nx→tk u=true→tk' u=true) (hn:nx≤nx'):Grow tk' lo nx' f sz l v:=by
 rcases h with h | ⟨hne,u,hv,h1,h2,h3⟩
 ·exact .inl h
 ·exact .inr ⟨hne,u,hv,ht u h2 h3 h1,h2,by omega⟩
section
variable {E:Env} {Yf:YF} {st:St} {ub:Nat} {K:St→Nat→Prop} {d:Option Nat} {nm:Bool}
theorem Xa {α:Type} {f:α→List V} {sz bytes lo hi:Nat} {l:List α} {a:α} {v:V} {s x:A} (hg:Grow st.tk lo hi f sz l v) (hs:eval E st.tm s=v) (hx:jM st.ob sz (eval E st.tm x)=some (f a)) (hf:∀ a,(f a).length=sz) (h0:0<sz)
 (hp:(f a).all V.pureLeaf=true) (hb:(l.length+1) * bytes≤140737488355328) (hb2:l.length+1≤140737488355328)
 (h:∀ del:Option Nat,(∀ u,del=some u→lo≤u∧u<hi)→QP K st d ub { v:=.sl (some (ub,sz)) false (l.length+1) ((l++[a]).flatMap f),del:=del,add:=[ub] }):j9 E Yf ⟨d,.append false sz bytes s x,none,nm⟩ st ub K:=by
 have hne:f a≠[]:=fun e=>by have:=hf a;rw [e] at this;simp at this;omega
 have h1:(f a).length / sz=1:=by rw [hf];exact Nat.div_self h0
 rcases hg with ⟨rfl,rfl⟩ | ⟨hl,u,rfl,ht,h2,h3⟩
 ·refine jho hs hx hne h0 hp (by rw [h1];simpa using hb) (by rw [h1];simp) ?_
  rw [h1]
  have:=h none (fun u e=>by cases e)
  simpa using this
 ·refine Jw hs ht hx hne (by rw [jA hf]) h0 hp (by rw [h1];exact hb) (by rw [h1];exact hb2) ?_
  rw [h1]
  have:=h (some u) (fun u' e=>by cases e;exact ⟨h2,h3⟩)
  simpa using this
end
theorem jio {α:Type} {f:α→List V} {k:Nat} (hf:∀ a,(f a).length=k) (ob:ZO) (nl:Bool) (l:List α):jM ob k (jI nl f l)=some (l.flatMap f):=by
 simp only [jI,jM,jA hf,if_true]
def jep (res:List ARes) (P:V→Prop):Ex→St→Prop:=fun e s=>∃ r,ja3 res (e,s)=some r∧P r
theorem XS {f:FuncId} {af:AF} {args:List V} {P:V→Prop} (hf:E.fc f=some af) (h1:af.body.one=true) (h:wpC E noYF af.body (QO args) (jep af.res P)):∃ r,Ev E f args r∧P r:=by
 obtain ⟨n,x,hx,r,hr,hP⟩:=jm2 h1 h fun _=>rfl
 refine ⟨r,⟨n+1,?_⟩,hP⟩
 simp only [jQ,hf,Option.bind_some]
 rw [show jc E (jQ E n) noY n af.body (QO args)=some [x] from hx]
 exact jk8 (List.cons_ne_nil _ _) (fun y hy=>by rw [List.mem_singleton] at hy;subst hy;exact hr)
end Go.Pv.T
namespace Go.Pv.T
open Go Go.Pv
end Go.Pv.T
namespace Go.Pv.T
open Go Go.Pv
section
variable {E:Env} {st:St} {ub:Nat} {K:List FP→St→Prop} {d:Option Nat} {nm:Bool} {r:List AOpr}
theorem jpa {sz n:Nat} {zero:List V} {parts:List (Nat × Nat × A)} {cs:List V} (hf:fill zero (ju (eval E st.tm) parts)=some cs) (hl:cs.length=n * sz) (hp:(cs.map V.strip1).all V.pureLeaf=true)
 (h:Wq E r K (eval E st.tm) (.buildSl false sz zero parts n) st d ub { v:=.sl (some (ub,sz)) false n (cs.map V.strip1),add:=[ub] }):jJ E (⟨d,.buildSl false sz zero parts n,none,nm⟩::r) st ub K:=by
 rw [Ja rfl]
 simp only [aop,hf,Option.bind_some,Bool.false_eq_true,if_false]
 rw [if_pos ⟨hl,hp⟩,jN]
 exact h
theorem jfm {E:Env} {Yf:YF} {st:St} {ub:Nat} {K:St→Nat→Prop} {d:Option Nat} {nm:Bool} {α:Type} {f:α→List V} {sz bytes u:Nat} {l:List α} {s x:A} (hs:eval E st.tm s = .sl (some (u,sz)) false 0 []) (hu:st.tk u=true) (hx:jM st.ob sz (eval E st.tm x)=some (l.flatMap f)) (hf:∀ a,(f a).length=sz) (h0:0<sz)
 (hp:(l.flatMap f).all V.pureLeaf=true) (hb:l.length * bytes≤140737488355328) (hb2:l.length≤140737488355328)
 (h:∀ (t:Option (Nat × Nat)) (del:Option Nat) (add:List Nat),(∀ u'∈add,u'=ub)→(∀ u',del=some u'→u'=u)→QP K st d ub { v:=.sl t false l.length (l.flatMap f),del:=del,add:=add }):j9 E Yf ⟨d,.append false sz bytes s x,none,nm⟩ st ub K:=by
 cases l with
 | nil =>
  rw [jS _ rfl rfl]
  simp only [aop,hs,hx,Option.bind_some,List.flatMap_nil,if_true,List.length_nil,Nat.zero_mul,WF]
  exact h _ none [] (fun u hu=>by cases hu) (fun u e=>by cases e)
 | cons a l =>
  have h1:((a::l).flatMap f).length / sz=(a::l).length:=by rw [jA hf];exact Nat.mul_div_cancel _ h0
  have hne:(a::l).flatMap f≠[]:=fun e=>by have:=congrArg List.length e;rw [jA hf] at this;have:=Nat.mul_pos (show 0<(a::l).length by simp) h0;simp_all
  refine Jw hs hu hx hne (by simp) h0 hp (by rw [h1,Nat.zero_add];exact hb) (by rw [h1,Nat.zero_add];exact hb2) ?_
  rw [h1,Nat.zero_add,List.nil_append]
  exact h _ (some u) [ub] (fun u hu=>by simpa using hu) (fun u' e=>by cases e;rfl)
end
@[simp] theorem j27 (s:List UInt8):(V.str s).strip1 = .str s:=rfl
theorem endH1 {st:St} {p l u:Nat} {x y z:V} {g:Hist'} (hd:st.df=[]) (hp:st.tm p = .ptr l u 0) (ho:st.ob l=some ⟨u,.cells [x,y,z]⟩)
 (hx:jb2 st x g.sn g.ss.length (g.ss.flatMap JJ)) (hy:jb2 st y g.kn g.ks.length (g.ks.flatMap JJ)) (hz:jb2 st z g.tn g.ts.length (g.ts.flatMap ji)):∃ r,ja3 [.cell p (some 3)] (.ret,st)=some r∧jpt r g:=by
 have h1:(j1 st.ob l u)=some [x,y,z]:=by simp [j1,ho]
 have hres:[ARes.cell p (some 3)].mapM (jm st)=some [.agg [x,y,z]]:=by
  simp [jm,hp,h1]
 obtain ⟨a,ha,ha'⟩:=hx (nodup (List.flatMap V.toks [.agg [x,y,z]])) 0
 obtain ⟨b,hb,hb'⟩:=hy (nodup (List.flatMap V.toks [.agg [x,y,z]])) 1
 obtain ⟨c,hc,hc'⟩:=hz (nodup (List.flatMap V.toks [.agg [x,y,z]])) 2
 refine ⟨.agg [.sl a g.sn g.ss.length (g.ss.flatMap JJ),.sl b g.kn g.ks.length (g.ks.flatMap JJ),.sl c g.tn g.ts.length (g.ts.flatMap ji)],?_,a,b,c,rfl,?_⟩
 ·simp only [ja3,YW hd,YO hd,if_true,hres,Option.bind_some,Yh]
  generalize nodup (List.flatMap V.toks [.agg [x,y,z]])=keep at *
  simp only [JD,XM,XN,ha,hb,hc,Nat.zero_add,Option.bind_some,Option.map_some]
  have hnd:nodup (List.flatMap V.toks [.agg [.sl a g.sn g.ss.length (g.ss.flatMap JJ),.sl b g.kn g.ks.length (g.ks.flatMap JJ),.sl c g.tn g.ts.length (g.ts.flatMap ji)]])=true:=by
   have e:∀ x y z:V,List.flatMap V.toks [.agg [x,y,z]]=x.tok++(y.tok++z.tok):=fun x y z=>by simp [V.toks]
   rw [e,jdh,jdh,jdh]
   rcases ha' with rfl | ⟨_,rfl⟩ <;> rcases hb' with rfl | ⟨_,rfl⟩ <;> rcases hc' with rfl | ⟨_,rfl⟩ <;> rfl
  show (if nodup (List.flatMap V.toks [.agg [.sl a g.sn g.ss.length (g.ss.flatMap JJ),.sl b g.kn g.ks.length (g.ks.flatMap JJ),.sl c g.tn g.ts.length (g.ts.flatMap ji)]])=true then some (V.agg [.sl a g.sn g.ss.length (g.ss.flatMap JJ),.sl b g.kn g.ks.length (g.ks.flatMap JJ),.sl c g.tn g.ts.length (g.ts.flatMap ji)]) else none)=_
  rw [if_pos hnd]
 ·intro p hp
  simp only [List.mem_append] at hp
  rcases hp with (hp | hp) | hp
  ·rcases ha' with rfl | ⟨_,rfl⟩
   ·simp at hp
   ·simp at hp;subst hp;simp
  ·rcases hb' with rfl | ⟨_,rfl⟩
   ·simp at hp
   ·simp at hp;subst hp;simp
  ·rcases hc' with rfl | ⟨_,rfl⟩
   ·simp at hp
   ·simp at hp;subst hp;simp
theorem joj {ub:Nat} {r:V} {g:Hist'} (h:jpt r g):∃ a b c add,Xv ub r=some { v:=.agg [.sl a g.sn g.ss.length (g.ss.flatMap JJ),.sl b g.kn g.ks.length (g.ks.flatMap JJ),.sl c g.tn g.ts.length (g.ts.flatMap ji)],add:=add }:=by
 obtain ⟨a,b,c,rfl,hlt⟩:=h
 have e:∀ x y z:V,toksRes (.agg [x,y,z])=x.tok++(y.tok++z.tok):=fun x y z=>by simp [toksRes,V.toks]
 have hall:(toksRes (.agg [.sl a g.sn g.ss.length (g.ss.flatMap JJ),.sl b g.kn g.ks.length (g.ks.flatMap JJ),.sl c g.tn g.ts.length (g.ts.flatMap ji)])).all (fun i=>Nat.blt i 64)=true:=by
  rw [e,List.all_eq_true]
  intro i hi
  have:∃ p∈a.toList++b.toList++c.toList,p.1=i:=by
   rw [List.mem_append,List.mem_append,j3u,j3u,j3u] at hi
   rcases hi with ⟨p,hp,h⟩ | ⟨p,hp,h⟩ | ⟨p,hp,h⟩
   ·exact ⟨p,by simp [hp],h⟩
   ·exact ⟨p,by simp [hp],h⟩
   ·exact ⟨p,by simp [hp],h⟩
  obtain ⟨p,hp,rfl⟩:=this
  rw [Nat.blt_eq]
  exact hlt p hp
 have hin:∀ (t:Option (Nat × Nat)) (nl:Bool) (n:Nat) (cs:List V),∃ t',Xq ub (.sl t nl n cs) = .sl t' nl n cs:=fun t nl n cs=>by
  cases t with
  | none=>exact ⟨none,rfl⟩
  | some p=>exact ⟨_,rfl⟩
 obtain ⟨a',ha⟩:=hin a g.sn g.ss.length (g.ss.flatMap JJ)
 obtain ⟨b',hb⟩:=hin b g.kn g.ks.length (g.ks.flatMap JJ)
 obtain ⟨c',hc⟩:=hin c g.tn g.ts.length (g.ts.flatMap ji)
 refine ⟨a',b',c',(toksRes (.agg [.sl a g.sn g.ss.length (g.ss.flatMap JJ),.sl b g.kn g.ks.length (g.ks.flatMap JJ),.sl c g.tn g.ts.length (g.ts.flatMap ji)])).map (ub + ·),?_⟩
 rw [Xv,if_pos hall]
 have hin2:Qp ub (.agg [.sl a g.sn g.ss.length (g.ss.flatMap JJ),.sl b g.kn g.ks.length (g.ks.flatMap JJ),.sl c g.tn g.ts.length (g.ts.flatMap ji)]) =
  .agg [Xq ub (.sl a g.sn g.ss.length (g.ss.flatMap JJ)),Xq ub (.sl b g.kn g.ks.length (g.ks.flatMap JJ)),Xq ub (.sl c g.tn g.ts.length (g.ts.flatMap ji))]:=rfl
 rw [hin2,ha,hb,hc]
theorem j78 {E:Env} {Yf:YF} {st:St} {ub:Nat} {K:St→Nat→Prop} {d:Option Nat} {nm:Bool} {q:A} {xs:List A} {f:FuncId} {first captured args:List V} {v:V} (hev:Ev E f args v) (hq:eval E st.tm q = .fn (.func f) first captured)
 (hx:(first++xs.map (eval E st.tm)++captured).map V.strip=args) (hs:E.sh nm f=false) (hp:args.all V.pureTop=true) (h:wpD (Xv ub v) (QP K st d ub)):j9 E Yf ⟨d,.callV q xs,none,nm⟩ st ub K:=by
 refine jp2 hq ⟨⟨hs,?_⟩,v,by rw [hx];exact hev,h⟩
 rw [← hx,List.all_map] at hp
 exact hp
@[simp] theorem j8n (f:Fn):(V.fn f [] []).strip = .fn f [] []:=rfl
@[simp] theorem j12 (f:Fn):(V.fn f [] []).pureTop=true:=rfl
def IntsAt (ob:ZO) (nx:Nat) (l:List Int) (v:V):Prop :=
 (l=[]∧v = .sl none true 0 [])∨(l≠[]∧∃ L u,v = .osl L u 0 l.length 1∧ob L=some ⟨u,.cells (l.flatMap intC)⟩∧u<nx∧L=2 * u+1)
def SlR (v:V) (nl:Bool) (n:Nat) (cs:List V):Prop:=∃ t:Option (Nat × Nat),v = .sl t nl n cs∧∀ p∈t.toList,p.1<64
theorem jx5 {st:St} {n k:Nat} {t:Option (Nat × Nat)} {nl:Bool} {cs:List V} (hd:st.df=[]) (h:st.tm n = .sl t nl k cs):∃ r,ja3 [.t n] (.ret,st)=some r∧SlR r nl k cs:=by
 have hres:[ARes.t n].mapM (jm st)=some [.sl t nl k cs]:=by simp [jm,h]
 obtain ⟨a,ha,ha'⟩:=Q4 st t nl k cs (nodup (List.flatMap V.toks [.sl t nl k cs])) 0
 refine ⟨.sl a nl k cs,?_,a,rfl,?_⟩
 ·simp only [ja3,YW hd,YO hd,if_true,hres,Option.bind_some,Yh]
  generalize nodup (List.flatMap V.toks [.sl t nl k cs])=keep at *
  have e:XM st keep 0 (.sl t nl k cs)=some (.sl a nl k cs):=ha
  simp only [JD,e,Option.bind_some,Option.map_some]
  have hnd:nodup (List.flatMap V.toks [.sl a nl k cs])=true:=by
   rcases ha' with rfl | ⟨_,rfl⟩ <;> rfl
  show (if nodup (List.flatMap V.toks [.sl a nl k cs])=true then some (V.sl a nl k cs) else none)=_
  rw [if_pos hnd]
 ·intro p hp
  rcases ha' with rfl | ⟨_,rfl⟩
  ·simp at hp
  ·simp at hp;subst hp;simp
theorem jky {ub:Nat} {v:V} {nl:Bool} {n:Nat} {cs:List V} (h:SlR v nl n cs):∃ t add,Xv ub v=some { v:=.sl t nl n cs,add:=add }:=by
 obtain ⟨t,rfl,hlt⟩:=h
 cases t with
 | none=>exact ⟨none,[],rfl⟩
 | some p =>
  have:=hlt p (by simp)
  refine ⟨some (ub+p.1,p.2),[ub+p.1],?_⟩
  rw [Xv,if_pos (by simp [toksRes,V.toks,V.tok,Nat.blt_eq,this])]
  rfl
theorem slE {st:St} {n k:Nat} {t:Option (Nat × Nat)} {nl:Bool} {cs:List V} {P:V→Prop} (hP:∀ r,SlR r nl k cs→P r) (hd:st.df=[]) (h:st.tm n = .sl t nl k cs):jep [.t n] P .ret st:=by
 obtain ⟨r,h1,h2⟩:=jx5 hd h
 exact ⟨r,h1,hP r h2⟩
def NumR (l:List Int) (v:V):Prop:=∃ nl,SlR v nl l.length (l.flatMap intC)
theorem ev160 (t:Txn'):Ev E 160 [.agg (ji t)] (.bool (Jp t)):=by
 refine jT (af:=F160) rfl ?_
 simp [F160,ji,j1]
 exact j3 rfl (by simp [Jp]) rfl
theorem YP {g:Hist'} (hm:X9 g=true):errH g=0:=by unfold errH;rw [hm];rfl
theorem ev159 {g:Hist'} (hs:Small g) (hm:X9 g=true):∃ v,Ev E 159 [.agg (j2 g),.fn (.func 160) [] []] v∧NumR (XU g) v:=by
 have e70:=jpj hs
 rw [YP hm] at e70
 have hts:=hs.ts
 refine XS (af:=F159) rfl (by decide) ?_
 simp [F159,j2,j1]
 refine jV e70 (by simp [j2]) rfl (by simp [j2]) ?_
 simp [j1]
 refine jE [(4,7),(14,26)] g.ts.length (fun i s=>s.tm 14 = .int .i64 i∧Grow s.tk 0 s.nx intC 1 (numsTo Jp g.ts i) (s.tm 5)) rfl rfl ⟨by simp,by simp [numsTo];exact Grow.nil _ _ _ _ _⟩ ?_
 rintro i s hi ⟨h14,hG⟩ f
 have f1:s.tm 1 = .fn (.func 160) [] []:=by rw [f.t 1 (by simp)];simp
 have f12:s.tm 12=jI g.tn ji g.ts:=by rw [f.t 12 (by simp)];simp
 have f13:s.tm 13 = .int .i64 g.ts.length:=by rw [f.t 13 (by simp)];simp
 have fd:s.df=[]:=by rw [f.d];simp
 have fb:s.fb=0:=by rw [f.b];simp
 have fr:s.ro=0:=by rw [f.r];simp
 clear f
 by_cases hlt:i<g.ts.length
 ·have hw:=jz hlt (by omega)
  have hsn:=JI (p:=Jp) hlt
  obtain ⟨t,ht⟩:∃ t,g.ts[i]=t:=⟨_,rfl⟩
  rw [ht] at hsn
  have hll:=JF Jp g.ts i
  simp [h14,f12,f13,hlt,j5 j8,jX j8,ht,ji,j1,fb,fr,j7,f1]
  refine j78 (f:=160) (first:=[]) (captured:=[]) (ev160 t) (by simp) (by simp [ji]) rfl (by simp [ji]) ?_
  cases hi:Jp t
  ·rw [hi] at hsn
   simp only [Bool.false_eq_true,if_false,List.append_nil] at hsn
   simp [h14,hw]
   exact ⟨hlt,by rw [hsn];exact hG.mono (fun u _ _ h=>by simpa [jo] using h) (by omega)⟩
  ·rw [hi] at hsn
   simp only [if_true] at hsn
   simp
   refine jL (cs:=[.int .i64 i]) (by simp [j7]) rfl rfl ?_
   simp
   refine Xa (f:=intC) (lo:=0) (hi:=s.nx) (l:=numsTo Jp g.ts i) (a:=(i:Int)) (v:=s.tm 5) (hG.mono (fun u _ _ h=>by simp [jl,h]) (Nat.le_refl _)) (by simp) (by simp [jM,intC]) jF (by decide) rfl (by omega) (by omega) (fun del hdel=>?_)
   have hne:numsTo Jp g.ts (i+1)≠[]:=by rw [hsn];simp
   have hlen:(numsTo Jp g.ts i).length+1=(numsTo Jp g.ts (i+1)).length:=by rw [hsn];simp
   rw [← hsn,hlen]
   simp [h14,hw]
   exact ⟨hlt,.inr ⟨hne,_,rfl,by simp [jl],Nat.zero_le _,by omega⟩⟩
 ·have:i=g.ts.length:=by omega
  subst this
  obtain ⟨t,ht⟩:=hG.form
  simp [h14,f13]
  exact slE (t:=t) (nl:=(numsTo Jp g.ts g.ts.length).isEmpty) (k:=(XU g).length) (cs:=(XU g).flatMap intC) (fun r h=>⟨_,h⟩) (by simp [fd]) (by simp [ht,XU])
theorem ev104 {g:Hist'} (hs:Small g) (hm:X9 g=true):∃ v,Ev E 104 [.agg (j2 g)] v∧NumR (XU g) v:=by
 obtain ⟨v,ev,nl,hv⟩:=ev159 hs hm
 refine XS (af:=F104) rfl (by decide) ?_
 simp [F104,j2,j1]
 refine jV ev (by simp [j2]) rfl (by simp [j2]) ?_
 obtain ⟨t,add,hr⟩:=jky (ub:=192) hv
 rw [hr]
 simp
 exact slE (t:=t) (nl:=nl) (k:=(XU g).length) (cs:=(XU g).flatMap intC) (fun r h=>⟨_,h⟩) rfl (by simp)
theorem j38 {st:St} {n k l u:Nat} {t:Option (Nat × Nat)} {nl:Bool} {cs:List V} {P:V→Prop} (hP:∀ r,SlR r nl k cs→P r) (hd:st.df=[(l,u)]) (ho:st.ob l=some ⟨u,.dfr⟩) (hr:st.ro≤u) (h:st.tm n = .sl t nl k cs):jep [.t n] P .ret st:=by
 obtain ⟨r,h1,h2⟩:=jx5 (st:={ st with ob:=fun k=>if Nat.beq l k then none else st.ob k,df:=[] }) rfl h
 exact ⟨r,Wy hd ho hr h1,hP r h2⟩
def jG (p:Int × Int):List V:=[.int .i64 p.1,.int .i64 p.2]
@[simp] theorem jj (p:Int × Int):(jG p).length=2:=rfl
def jei (i:Nat) (ops:List Op'):Nat→List (Int × Int)
 | 0=>[]
 | k+1=>jei i ops k++(match ops[k]? with | some o=>if o.v.kind == 2 then [((i:Int),(k:Int))] else [] | none=>[])
def jeh (ts:List Txn'):Nat→List (Int × Int)
 | 0=>[]
 | i+1=>jeh ts i++(match ts[i]? with | some t=>jei i t.ops t.ops.length | none=>[])
def Jl (h:Hist') (i k:Nat):List (Int × Int):=jeh h.ts i++(match h.ts[i]? with | some t=>jei i t.ops k | none=>[])
def jbo (h:Hist'):List (Int × Int):=jeh h.ts h.ts.length
theorem jbn (i:Nat) (ops:List Op'):∀ k,(jei i ops k).length≤k
 | 0=>Nat.le_refl _
 | k+1=>by
  have:=jbn i ops k
  simp only [jei,List.length_append]
  split
  ·split <;> simp <;> omega
  ·simp;omega
theorem jbm {ts:List Txn'} (h:∀ t∈ts,t.ops.length≤1000):∀ i,(jeh ts i).length≤i * 1000
 | 0=>Nat.zero_le _
 | i+1=>by
  have:=jbm h i
  simp only [jeh,List.length_append]
  rw [show (i+1) * 1000=i * 1000+1000 by omega]
  split
  ·rename_i t ht
   have h1:=jbn i t.ops t.ops.length
   have h2:=h t (List.mem_of_getElem? ht)
   omega
  ·simp only [List.length_nil];omega
theorem jek {h:Hist'} {i k:Nat} (hi:i<h.ts.length) (hk:k<(h.ts[i]).ops.length):Jl h i (k+1)=Jl h i k++(if (h.ts[i]).ops[k].v.kind == 2 then [((i:Int),(k:Int))] else []):=by
 simp only [Jl,List.getElem?_eq_getElem hi,jei,List.getElem?_eq_getElem hk,List.append_assoc]
theorem jel {h:Hist'} {i:Nat} (hi:i<h.ts.length):Jl h i (h.ts[i]).ops.length=Jl h (i+1) 0:=by
 simp only [Jl,List.getElem?_eq_getElem hi,jeh]
 cases h.ts[i+1]? <;> simp [jei]
theorem jgk (h:Hist'):Jl h h.ts.length 0=jbo h:=by simp [Jl,jbo]
theorem jej (h:Hist'):Jl h 0 0=[]:=by unfold Jl;cases h.ts[0]? <;> rfl
theorem jgj {h:Hist'} (hs:Small h) {i k:Nat} (hi:i<h.ts.length) (hk:k≤(h.ts[i]).ops.length):(Jl h i k).length≤1001000:=by
 have h1:=jbm hs.os i
 have h2:=hs.ts
 have h3:=jbn i (h.ts[i]).ops k
 have h4:=hs.os _ (List.getElem_mem hi)
 simp only [Jl,List.getElem?_eq_getElem hi,List.length_append]
 have:i * 1000≤1000 * 1000:=Nat.mul_le_mul_right _ (by omega)
 omega
def PlR (l:List (Int × Int)) (v:V):Prop:=∃ nl,SlR v nl l.length (l.flatMap jG)
theorem ev105 {g:Hist'} (hs:Small g) (hm:X9 g=true):∃ v,Ev E 105 [.agg (j2 g)] v∧PlR (jbo g) v:=by
 have e70:=jpj hs
 rw [YP hm] at e70
 have hts:=hs.ts
 refine XS (af:=F105) rfl (by decide) ?_
 simp [F105,j2,j1]
 refine jV e70 (by simp [j2]) rfl (by simp [j2]) ?_
 simp [j1]
 refine QD (vs:=[.agg (j2 g)]) (by simp [j2]) rfl ?_
 obtain ⟨r,hr,e1,e2,e3,e4⟩:=j2c (Yf:=noYF) g _ _ 0 _ _
 refine ⟨r,hr,?_⟩
 simp
 refine JV fun st hst=>?_
 obtain ⟨m,hmm,hmU,g10,p2,p6,pl⟩:∃ m,m % 64=0∧m<st.nx∧st.tm 10 = .fn (.func 215) [] [.ptr (2 * m+1) m 0]∧st.ob 2=some ⟨0,.cells (j2 g)⟩∧(∃ u,st.tm 3 = .ptr 6 u 0∧st.ob 6=some ⟨u,.cells [.sl none true 0 []]⟩)∧st.ob (2 * m+1)=some ⟨m,.cells (j2 g)⟩:=by
  refine ⟨_,?_,?_,by rw [hst];simp only [jku,put,Ye];exact e1,?_,⟨320,?_,?_⟩,?_⟩
  ·decide
  ·rw [hst,jg5,e4];omega
  ·rw [hst];simp only [JA];rw [e2];simp [j2]
  ·rw [hst];simp [put,j6]
  ·rw [hst];simp only [JA];rw [e2];simp
  ·rw [hst];simp only [JA];rw [e2];simp
 obtain ⟨u6,g3,p6⟩:=p6
 have gd:st.df=[]:=by rw [hst];simp
 have gb:st.fb=0:=by rw [hst];simp
 have gr:st.ro=0:=by rw [hst];simp
 clear hst e1 e2 e3 e4 hr
 refine jf8 g hts (fun t ht=>by have:=hs.os t ht;omega) rfl rfl rfl (by simpa using g10) pl (by omega) (by omega) gr
  (fun i k ob tk ub=>∃ Lv,ob 6=some ⟨u6,.cells [Lv]⟩∧Grow tk 0 ub jG 2 (Jl g i k) Lv) ?_ ?_ ?_ ?_ ?_
 ·rintro i k ob ob' tk ub ub' ⟨Lv,h1,h2⟩ hub hfr
  exact ⟨Lv,(hfr 6 (fun m _=>by omega)).trans h1,h2.mono (fun _ _ _ h=>h) hub⟩
 ·rintro i hi ob tk ub ⟨Lv,h1,h2⟩
  exact ⟨Lv,h1,by rw [← jel hi];exact h2⟩
 ·rintro i hi k hk ob tk ub ⟨Lv,h1,h2⟩ w1 w3 hub
  have r1:¬ 2 * st.nx+1=8:=by omega
  have r3:¬ 2 * st.nx+1=10:=by omega
  have r5:¬ 2 * st.nx+1=6:=by omega
  have q1:¬ 2 * st.nx+3=8:=by omega
  have q3:¬ 2 * st.nx+3=10:=by omega
  have q5:¬ 2 * st.nx+3=6:=by omega
  have q7:¬ 2 * st.nx+3=2 * st.nx+1:=by omega
  have b8:¬ 8=2 * st.nx+1:=by omega
  have b10:¬ 10=2 * st.nx+1:=by omega
  have b6:¬ 6=2 * st.nx+1:=by omega
  have hstep:=jek hi hk
  have hll:=jgj hs hi (Nat.le_of_lt hk)
  obtain ⟨o,ho⟩:∃ o,(g.ts[i]).ops[k]=o:=⟨_,rfl⟩
  rw [ho] at hstep ⊢
  obtain ⟨tL,hLv⟩:=h2.form
  simp [jdo,j6,opC,j1,gb,j7,r1,r3,w1,b10]
  cases hl:(o.v.kind == 2)
  ·rw [hl] at hstep
   simp only [Bool.false_eq_true,if_false,List.append_nil] at hstep
   simp [j6,q1,q3,w3,b6,h1]
   exact ⟨by omega,by rw [hstep];exact h2.mono (fun u _ _ h=>by simpa [jo] using h) (by omega)⟩
  ·rw [hl] at hstep
   simp only [if_true] at hstep
   simp [g3,j6,b6,h1,j1,b8]
   refine jL (cs:=jG (i,k)) (by simp [j7,jG]) rfl rfl ?_
   simp
   refine Xa (f:=jG) (lo:=0) (hi:=ub) (l:=Jl g i k) (a:=((i:Int),(k:Int))) (v:=Lv) (h2.mono (fun u _ _ h=>by simp [jo,jl,h]) (Nat.le_refl _)) (by simp) (by simp [jM,jG]) jj (by decide) rfl (by omega) (by omega) (fun del hdel=>?_)
   have hne:Jl g i (k+1)≠[]:=by rw [hstep];simp
   have hlen:(Jl g i k).length+1=(Jl g i (k+1)).length:=by rw [hstep];simp
   rw [← hstep,hlen]
   simp [g3,j6,b6,h1,j1,j7,r5,q5,q1,q3,w3]
   exact ⟨by omega,.inr ⟨hne,_,rfl,by simp [jo,jl],Nat.zero_le _,by omega⟩⟩
 ·exact ⟨_,p6,by rw [jej];exact Grow.nil _ _ _ _ _⟩
 ·rintro ob tk ub ⟨Lv,h1,h2⟩ w3 hub
  rw [jgk] at h2
  obtain ⟨tL,hLv⟩:=h2.form
  simp [g3,j1,h1,hLv]
  exact j38 (l:=2 * st.nx+3) (u:=st.nx+1) (t:=tL) (nl:=(jbo g).isEmpty) (k:=(jbo g).length) (cs:=(jbo g).flatMap jG) (fun r h=>⟨_,h⟩) (by simp [gd]) (by simp [w3]) (by simp [gr]) (by simp)
def GrowT {α:Type} (tk:Nat→Bool) (nx:Nat) (f:α→List V) (sz:Nat) (l:List α) (v:V):Prop:=∃ u,v = .sl (some (u,sz)) false l.length (l.flatMap f)∧tk u=true∧u<nx
theorem GrowT.mono {α:Type} {tk tk':Nat→Bool} {nx nx':Nat} {f:α→List V} {sz:Nat} {l:List α} {v:V} (h:GrowT tk nx f sz l v) (ht:∀ u,u<nx→tk u=true→tk' u=true) (hn:nx≤nx'):GrowT tk' nx' f sz l v:=by
 obtain ⟨u,hv,h1,h2⟩:=h
 exact ⟨u,hv,ht u h2 h1,by omega⟩
theorem XZ {E:Env} {Yf:YF} {st:St} {ub:Nat} {K:St→Nat→Prop} {d:Option Nat} {nm:Bool} {α:Type} {f:α→List V} {sz bytes hi:Nat} {l:List α} {a:α} {v:V} {s x:A} (hg:GrowT st.tk hi f sz l v) (hs:eval E st.tm s=v) (hx:jM st.ob sz (eval E st.tm x)=some (f a)) (hf:∀ a,(f a).length=sz) (h0:0<sz)
 (hp:(f a).all V.pureLeaf=true) (hb:(l.length+1) * bytes≤140737488355328) (hb2:l.length+1≤140737488355328)
 (h:∀ del:Option Nat,(∀ u,del=some u→u<hi)→QP K st d ub { v:=.sl (some (ub,sz)) false (l.length+1) ((l++[a]).flatMap f),del:=del,add:=[ub] }):j9 E Yf ⟨d,.append false sz bytes s x,none,nm⟩ st ub K:=by
 have hne:f a≠[]:=fun e=>by have:=hf a;rw [e] at this;simp at this;omega
 have h1:(f a).length / sz=1:=by rw [hf];exact Nat.div_self h0
 obtain ⟨u,rfl,ht,h3⟩:=hg
 refine Jw hs ht hx hne (by rw [jA hf]) h0 hp (by rw [h1];exact hb) (by rw [h1];exact hb2) ?_
 rw [h1]
 have:=h (some u) (fun u' e=>by cases e;exact h3)
 simpa using this
theorem ev60 {g:Hist'} (hs:Small g):∃ v,Ev E 60 [.agg (j2 g)] v∧PlR (jbo g) v:=by
 have hts:=hs.ts
 refine XS (af:=F60) rfl (by decide) ?_
 simp [F60,j2]
 refine jL (cs:=[]) rfl rfl rfl ?_
 simp
 refine jE [(3,5),(7,42)] g.ts.length (fun i s=>s.tm 4 = .int .i64 i∧s.ob 2=some ⟨0,.cells (j2 g)⟩∧GrowT s.tk s.nx jG 2 (Jl g i 0) (s.tm 3)) rfl rfl ⟨by simp,by simp [j2],by rw [jej];exact ⟨128,by simp,by simp [jl],by simp⟩⟩ ?_
 rintro i s hi ⟨h4,o2,hG⟩ f
 have f1:s.tm 1 = .ptr 2 0 0:=by rw [f.t 1 (by simp)];simp
 have fd:s.df=[]:=by rw [f.d];simp
 clear f
 by_cases hlt:i<g.ts.length
 ·have hw:=jz hlt (by omega)
  simp [h4,f1,o2,j1,j2,hlt]
  refine jE [(3,3),(5,5),(14,42)] (g.ts[i]).ops.length (fun k s'=>s'.tm 5 = .int .i64 k∧s'.ob=s.ob∧GrowT s'.tk s'.nx jG 2 (Jl g i k) (s'.tm 3)) rfl rfl ⟨by simp,by simp,by simp;exact hG.mono (fun _ _ h=>h) (by omega)⟩ ?_
  rintro k s' hk ⟨h5,hob,hG'⟩ f
  have e1:s'.tm 1 = .ptr 2 0 0:=by rw [f.t 1 (by simp)];simp [f1]
  have e4:s'.tm 4 = .int .i64 i:=by rw [f.t 4 (by simp)];simp [h4]
  have ed:s'.df=[]:=by rw [f.d];simp [fd]
  clear f
  have o2':s'.ob 2=some ⟨0,.cells (j2 g)⟩:=by rw [hob];exact o2
  obtain ⟨t,ht⟩:∃ t,g.ts[i]=t:=⟨_,rfl⟩
  have hos:=hs.os t (ht ▸ List.getElem_mem hlt)
  have hfo:(g.ts.flatMap ji)[i * 3+2]? = some (jI t.nl opC t.ops):=by
   rw [jb j8 g.ts hlt (by decide:2<3),ht];rfl
  by_cases hkt:k<(g.ts[i]).ops.length
  ·have hstep:=jek hlt hkt
   have hll:=jgj hs hlt (Nat.le_of_lt hkt)
   obtain ⟨o,ho⟩:∃ o,(g.ts[i]).ops[k]=o:=⟨_,rfl⟩
   rw [ho] at hstep
   subst ht
   have hw':=jz hkt (by omega)
   have hfk:((g.ts[i]).ops.flatMap opC)[k * 4+2]? = some (.int .i64 o.v.kind):=by
    rw [jb jH (g.ts[i]).ops hkt (by decide:2<4),ho];rfl
   cases hl:(o.v.kind == 2)
   ·rw [hl] at hstep
    simp only [Bool.false_eq_true,if_false,List.append_nil] at hstep
    simp [h5,e1,e4,j1,j2,hlt,j5 j8,hfo,hkt,j5 jH,hfk,hl,hw',hob,o2]
    rw [hstep]
    exact hG'.mono (fun _ _ h=>h) (by omega)
   ·rw [hl] at hstep
    simp only [if_true] at hstep
    simp [h5,e1,e4,o2',j1,j2,hlt,j5 j8,hfo,hkt,j5 jH,hfk,hl,j7]
    refine jL (cs:=jG (i,k)) (by simp [j7,jG]) rfl rfl ?_
    simp
    refine XZ (f:=jG) (hi:=s'.nx) (l:=Jl g i k) (a:=((i:Int),(k:Int))) (v:=s'.tm 3) (hG'.mono (fun u _ h=>by simp [jl,h]) (Nat.le_refl _)) (by simp) (by simp [jM,jG]) jj (by decide) rfl (by omega) (by omega) (fun del hdel=>?_)
    have hlen:(Jl g i k).length+1=(Jl g i (k+1)).length:=by rw [hstep];simp
    rw [← hstep,hlen]
    simp [h5,hw',hob]
    exact ⟨hkt,_,rfl,by simp [jl],by omega⟩
  ·have:k=(g.ts[i]).ops.length:=by omega
   subst this
   subst ht
   simp [h5,e1,e4,o2',j1,j2,hlt,j5 j8,hfo,hw]
   rw [← jel hlt]
   exact hG'.mono (fun _ _ h=>h) (by omega)
 ·have:i=g.ts.length:=by omega
  subst this
  rw [jgk] at hG
  obtain ⟨u,hv,_,_⟩:=hG
  simp [h4,f1,o2,j1,j2]
  exact slE (t:=some (u,2)) (nl:=false) (k:=(jbo g).length) (cs:=(jbo g).flatMap jG) (fun r h=>⟨_,h⟩) (by simp [fd]) (by simp [hv])
def wkB (k:Int) (o:Op'):Bool:=o.w && o.key == k
def wrB (k:Int) (t:Txn'):Bool:=t.f != 2 && t.ops.any (wkB k)
def KeyAt (k:Int) (ob:ZO) (l u:Nat):Prop:=l % 2=0∧ob l=some ⟨u,.cells [.int .i64 k]⟩
theorem j8t {k:Int} {ob:ZO} {l u:Nat} (hk:KeyAt k ob l u) (o:Op') (tk:Nat→Bool) (base ub:Nat):EvO E 296 [.agg (opC o),.ptr l u 0] ob tk base ub (.bool (wkB k o)):=by
 obtain ⟨h2,ho⟩:=hk
 refine Jf (af:=S296) rfl ?_
 have hne:¬ l=2 * ub+1:=by omega
 unfold wkB
 cases hw:o.w
 ·simp [S296,opC,j1,hw]
  exact j3 rfl (by simp) rfl
 ·simp [S296,opC,j1,hw,hne,ho]
  exact j3 rfl (by simp) rfl
theorem j8s {p:Op'→Bool} {g:FuncId} {cap:V} {ob:ZO} (hs:E.sh true g=false) (hcap:cap.strip.pureTop=false) (hp:∀ (t:Op') (tk:Nat→Bool) (base ub:Nat),EvO E g [.agg (opC t),cap] ob tk base ub (.bool (p t)))
 (nl:Bool) (l:List Op') (hl:l.length≤1000000000) (tk:Nat→Bool) (base ub:Nat):EvO E 305 [jI nl opC l,.fn (.func g) [] [cap]] ob tk base ub (.int .i64 (ja1 p l)):=by
 refine Jf (af:=S305) rfl ?_
 simp [S305]
 refine jE [(4,5),(8,18)] l.length (fun i s=>s.tm 8 = .int .i64 i∧s.ob=ob∧∀ j (hj:j<l.length),j<i→p l[j]=false) rfl rfl ⟨by simp,by simp,fun _ _ h=>by omega⟩ ?_
 rintro i s hi ⟨h8,ho,hb⟩ f
 have h0:s.tm 0=jI nl opC l:=by rw [f.t 0 (by simp)];simp
 have h1:s.tm 1 = .fn (.func g) [] [cap]:=by rw [f.t 1 (by simp)];simp
 have h7:s.tm 7 = .int .i64 l.length:=by rw [f.t 7 (by simp)];simp
 have hd:s.df=[]:=by rw [f.d];simp
 clear f
 by_cases hlt:i<l.length
 ·have hw:=jz hlt hl
  simp [h0,h1,h7,h8,hlt,j5 jH,jX jH]
  refine jat (f:=g) (first:=[]) (captured:=[cap]) (by simp) hs (by simp [hcap]) (v:=.bool (p l[i])) (by simpa [ho] using hp l[i] _ _ _) ?_
  cases hpi:p l[i]
  ·simp [h8,hw]
   refine ⟨hlt,ho,?_⟩
   intro j hj hji
   rcases Nat.lt_succ_iff_lt_or_eq.1 hji with h | rfl
   ·exact hb j hj h
   ·exact hpi
  ·simp
   refine j3 (by simpa using hd) ?_ rfl
   simp
   rw [Wt hlt hpi hb]
 ·have:i=l.length:=by omega
  subst this
  simp [h7,h8]
  refine j3 (by simpa using hd) ?_ rfl
  simp [Qr (fun j hj=>hb j hj hj)]
theorem j8u {p:Op'→Bool} {g:FuncId} {ob:ZO} {a b c:Nat} (hs:E.sh true g=false) (hp:∀ (t:Op') (tk:Nat→Bool) (base ub:Nat),EvO E g [.agg (opC t),.ptr a b c] ob tk base ub (.bool (p t)))
 (nl:Bool) (l:List Op') (hl:l.length≤1000000000) (tk:Nat→Bool) (base ub:Nat):EvO E 295 [jI nl opC l,.fn (.func g) [] [.ptr a b c]] ob tk base ub (.bool (l.any p)):=by
 refine Jf (af:=S295) rfl ?_
 simp [S295]
 refine Jg (vs:=[jI nl opC l,.fn (.func g) [] [.ptr a b c]]) (by simp) rfl rfl (j8s hs rfl hp nl l hl _ _ _) ?_
 simp
 exact j3 rfl (by simp [jbv]) rfl
theorem j8v {k:Int} {ob:ZO} {l u:Nat} (hk:KeyAt k ob l u) (t:Txn') (ht:t.ops.length≤1000000) (tk:Nat→Bool) (base ub:Nat):EvO E 294 [.agg (ji t),.ptr l u 0] ob tk base ub (.bool (wrB k t)):=by
 have hne:¬ l=2 * ub+1:=by have:=hk.1;omega
 refine Jf (af:=S294) rfl ?_
 unfold wrB
 cases hf:(t.f != 2)
 ·simp [S294,ji,j1,hf]
  exact j3 rfl (by simp) rfl
 ·simp [S294,ji,j1,hf]
  refine Jg (vs:=[jI t.nl opC t.ops,.fn (.func 296) [] [.ptr l u 0]]) (by simp) rfl rfl (j8u (p:=wkB k) rfl (fun t' tk base ub'=>j8t ?_ t' tk base ub') t.nl t.ops (by omega) _ _ _) ?_
  ·obtain ⟨h2,ho⟩:=hk
   exact ⟨h2,by simp [hne,ho]⟩
  ·simp
   exact j3 rfl (by simp) rfl
def writersH (g:Hist') (k:Int):List Int:=numsTo (wrB k) g.ts g.ts.length
theorem ev281 {g:Hist'} (hs:Small g) (hm:X9 g=true) (k:Int):∃ v,Ev E 281 [.agg (j2 g),.int .i64 k] v∧NumR (writersH g k) v:=by
 have e70:=jpj hs
 rw [YP hm] at e70
 have hts:=hs.ts
 refine XS (af:=F281) rfl (by decide) ?_
 simp [F281,j2,j1]
 refine jV e70 (by simp [j2]) rfl (by simp [j2]) ?_
 simp [j1]
 refine jE [(4,4),(6,8),(16,28)] g.ts.length (fun i s=>s.tm 16 = .int .i64 i∧s.ob 6=some ⟨64,.cells [.int .i64 k]⟩∧Grow s.tk 0 s.nx intC 1 (numsTo (wrB k) g.ts i) (s.tm 6)) rfl rfl ⟨by simp,by simp,by simp [numsTo];exact Grow.nil _ _ _ _ _⟩ ?_
 rintro i s hi ⟨h16,o6,hG⟩ f
 have f5:s.tm 5 = .fn (.func 294) [] [.ptr 6 64 0]:=by rw [f.t 5 (by simp)];simp
 have f14:s.tm 14=jI g.tn ji g.ts:=by rw [f.t 14 (by simp)];simp
 have f15:s.tm 15 = .int .i64 g.ts.length:=by rw [f.t 15 (by simp)];simp
 have fd:s.df=[]:=by rw [f.d];simp
 have fb:s.fb=0:=by rw [f.b];simp
 have fr:s.ro=0:=by rw [f.r];simp
 clear f
 by_cases hlt:i<g.ts.length
 ·have hw:=jz hlt (by omega)
  have hsn:=JI (p:=wrB k) hlt
  obtain ⟨t,ht⟩:∃ t,g.ts[i]=t:=⟨_,rfl⟩
  rw [ht] at hsn
  have hos:=hs.os t (ht ▸ List.getElem_mem hlt)
  have hll:=JF (wrB k) g.ts i
  simp [h16,f14,f15,hlt,j5 j8,jX j8,ht,ji,j1,fb,fr,j7,f5]
  refine jat (f:=294) (first:=[]) (captured:=[.ptr 6 64 0]) (by simp) rfl (by simp;rfl) (j8v (k:=k) (l:=6) (u:=64) ⟨rfl,by simp [o6]⟩ t (by omega) _ _ _) ?_
  cases hi:wrB k t
  ·rw [hi] at hsn
   simp only [Bool.false_eq_true,if_false,List.append_nil] at hsn
   simp [h16,hw,o6]
   exact ⟨hlt,by rw [hsn];exact hG.mono (fun u _ _ h=>by simpa [jo] using h) (by omega)⟩
  ·rw [hi] at hsn
   simp only [if_true] at hsn
   simp
   refine jL (cs:=[.int .i64 i]) (by simp [j7]) rfl rfl ?_
   simp
   refine Xa (f:=intC) (lo:=0) (hi:=s.nx) (l:=numsTo (wrB k) g.ts i) (a:=(i:Int)) (v:=s.tm 6) (hG.mono (fun u _ _ h=>by simp [jl,h]) (Nat.le_refl _)) (by simp) (by simp [jM,intC]) jF (by decide) rfl (by omega) (by omega) (fun del hdel=>?_)
   have hne:numsTo (wrB k) g.ts (i+1)≠[]:=by rw [hsn];simp
   have hlen:(numsTo (wrB k) g.ts i).length+1=(numsTo (wrB k) g.ts (i+1)).length:=by rw [hsn];simp
   rw [← hsn,hlen]
   simp [h16,hw,o6]
   exact ⟨hlt,.inr ⟨hne,_,rfl,by simp [jl],Nat.zero_le _,by omega⟩⟩
 ·have:i=g.ts.length:=by omega
  subst this
  obtain ⟨t,ht⟩:=hG.form
  simp [h16,f15]
  exact slE (t:=t) (nl:=(numsTo (wrB k) g.ts g.ts.length).isEmpty) (k:=(writersH g k).length) (cs:=(writersH g k).flatMap intC) (fun r h=>⟨_,h⟩) (by simp [fd]) (by simp [ht,writersH])
def jm6 (g:Hist'):Nat→Nat
 | 0=>0
 | i+1=>max (jm6 g i) (writersH g i).length
def mostH (g:Hist'):Nat:=jm6 g g.ks.length
theorem jjc {g:Hist'} (hs:Small g):∀ i,jm6 g i≤1000
 | 0=>Nat.zero_le _
 | i+1=>by
  have h1:=jjc hs i
  have h2:=JF (wrB i) g.ts g.ts.length
  have h3:=hs.ts
  simp only [jm6,writersH]
  omega
def jq (k:Int) (ops:List Op'):Nat→Val' × Bool
 | 0=>(⟨0,0⟩,false)
 | i+1=>match ops[i]? with
  | some o=>if wkB k o then (o.v,true) else jq k ops i
  | none=>jq k ops i
theorem Q8 {k:Int} {ops:List Op'} {i:Nat} (h:i<ops.length):jq k ops (i+1)=if wkB k ops[i] then (ops[i].v,true) else jq k ops i:=by simp [jq,List.getElem?_eq_getElem h]
theorem Wl (k:Int) (ops:List Op'):∀ i,i≤ops.length→(jq k ops i).2=(ops.take i).any (wkB k)
 | 0,_=>by simp [jq]
 | i+1,h=>by
  rw [Q8 (by omega),List.take_succ_eq_append_getElem (by omega),List.any_append,← Wl k ops i (by omega)]
  cases hw:wkB k ops[i] <;> simp [hw]
theorem ev84 (t:Txn') (ht:t.ops.length≤1000000) (k:Int):Ev E 84 [.agg (ji t),.int .i64 t.ops.length,.int .i64 k] (.tup [.agg (J1 (jq k t.ops t.ops.length).1),.bool (jq k t.ops t.ops.length).2]):=by
 refine jT (af:=F84) rfl ?_
 simp [F84,ji,j1,j7]
 refine jE [(9,10),(12,45)] t.ops.length (fun i s=>s.tm 10 = .int .i64 i∧s.ob 6=some ⟨0,.cells (ji t)⟩∧s.ob 12=some ⟨64,.cells [.int .i64 0,.int .i64 0]⟩∧s.ob 16=some ⟨256,.cells (J1 (jq k t.ops i).1)⟩∧s.tm 9 = .bool (jq k t.ops i).2) rfl rfl
  ⟨by simp,by simp [ji],by simp,by simp [jq,J1],by simp [jq]⟩ ?_
 rintro i s hi ⟨h10,o6,o12,o16,h9⟩ f
 have f1:s.tm 1 = .int .i64 t.ops.length:=by rw [f.t 1 (by simp)];simp
 have f2:s.tm 2 = .int .i64 k:=by rw [f.t 2 (by simp)];simp
 have f3:s.tm 3 = .ptr 6 0 0:=by rw [f.t 3 (by simp)];simp
 have f6:s.tm 6 = .ptr 12 64 0:=by rw [f.t 6 (by simp)];simp
 have f8:s.tm 8 = .ptr 16 256 0:=by rw [f.t 8 (by simp)];simp
 have fd:s.df=[]:=by rw [f.d];simp
 have fr:s.ro=0:=by rw [f.r];simp
 clear f
 by_cases hlt:i<t.ops.length
 ·have hw:=jz hlt (by omega)
  have hs:=Q8 (k:=k) hlt
  obtain ⟨o,ho⟩:∃ o,t.ops[i]=o:=⟨_,rfl⟩
  rw [ho] at hs
  have a0:(t.ops.flatMap opC)[i * 4]? = some (.bool o.w):=by
   have:=jb jH t.ops hlt (by decide:0<4)
   rw [Nat.add_zero,ho] at this
   rw [this];rfl
  have a1:(t.ops.flatMap opC)[i * 4+1]? = some (.int .i64 o.key):=by
   rw [jb jH t.ops hlt (by decide:1<4),ho];rfl
  have a2:∀ ob,Yb ob (some 2) (.eptr (t.ops.flatMap opC) (i * 4+2))=some (.agg (J1 o.v)):=fun ob=>by
   have hle:i * 4+4≤t.ops.length * 4:=by omega
   rw [jbp,YB,if_pos (by rw [jA jH];omega)]
   have:=XH jH t.ops i hlt
   rw [ho] at this
   have e:((t.ops.flatMap opC).drop (i * 4+2)).take 2=((((t.ops.flatMap opC).drop (i * 4)).take 4).drop 2):=by
    rw [List.drop_take,List.drop_drop]
   rw [e,this]
   rfl
  cases hwk:o.w
  ·have hk:wkB k o=false:=by unfold wkB;rw [hwk];rfl
   rw [hk] at hs
   simp only [Bool.false_eq_true,if_false] at hs
   simp [h10,f1,f3,o6,j1,ji,hlt,j5 jH,a0,hwk,hw,o12,o16,h9]
   exact ⟨by rw [hs],by rw [hs]⟩
  ·cases hke:(o.key == k)
   ·have hk:wkB k o=false:=by unfold wkB;rw [hwk,hke];rfl
    rw [hk] at hs
    simp only [Bool.false_eq_true,if_false] at hs
    simp [h10,f1,f2,f3,o6,j1,ji,hlt,j5 jH,a0,a1,hwk,hke,hw,o12,o16,h9]
    exact ⟨by rw [hs],by rw [hs]⟩
   ·have hk:wkB k o=true:=by unfold wkB;rw [hwk,hke];rfl
    rw [hk] at hs
    simp only [if_true] at hs
    simp [h10,f1,f2,f3,f8,o6,j1,ji,hlt,j5 jH,a0,a1,a2,hwk,hke,hw,o12,o16,J1,fr,j7]
    rw [hs]
    simp
 ·have:i=t.ops.length:=by omega
  subst this
  simp [h10,f1,f8,o16,j1,h9,f6,o12,J1,fr,j7]
  exact J3 (by simp [fd]) (l:=[.agg (J1 (jq k t.ops t.ops.length).1),.bool (jq k t.ops t.ops.length).2]) (by simp [jm,j1,f6,J1]) rfl rfl
section
variable {E:Env} {Yf:YF} {st:St} {ub:Nat} {K:St→Nat→Prop} {d:Option Nat} {nm:Bool}
theorem jwi {sz bytes n:Nat} {zero:List V} {x y:A} (hl:eval E st.tm x = .int .i64 (n:Int)) (hc:eval E st.tm y = .int .i64 (n:Int)) (hn0:0<n) (hb:n * bytes≤140737488355328) (hn:n≤140737488355328) (hz:zero.length=sz) (h0:0<sz)
 (h:QP K st d ub { v:=.osl (jP d nm st.fb ub) ub 0 n sz,obs:=[(jP d nm st.fb ub,⟨ub,.cells (jaf n zero)⟩)] }):j9 E Yf ⟨d,.mkSl false sz bytes zero x y,none,nm⟩ st ub K:=by
 rw [jS _ rfl rfl]
 simp only [aop,hl,hc]
 rw [if_pos (by refine ⟨by omega,by omega,?_,by omega,hz,h0⟩;rw [← Int.natCast_mul];exact Int.ofNat_le.2 hb),if_neg (by intro h;omega),Jb,jN]
 simp only [Int.toNat_natCast,Jz]
 exact h
end
theorem jql {st:St} {L u n:Nat} {cs:List V} (ho:st.ob L=some ⟨u,.cells cs⟩) (hl:cs.length=n) (hro:st.ro≤u) (hp:cs.all V.pureLeaf=true):JW st 6 (.osl L u 0 n 1)=some (.sl none false n cs):=by
 have hoc:j1 st.ob L u=some cs:=by simp [j1,ho]
 have hm:∀ (k:Nat) (l:List V),l.all V.pureLeaf=true→l.mapM (JW st (k+1))=some l:=by
  intro k l
  induction l with
  | nil=>intro _;rfl
  | cons a l ih =>
   intro h
   simp only [List.all_cons,Bool.and_eq_true] at h
   rw [List.mapM_cons,ih h.2]
   have:JW st (k+1) a=some a:=by
    have:=Yi (st:=st) (keep:=false) (i:=0) h.1
    cases a with
    | sl t nl n cs=>cases t with
     | none=>rfl
     | some t=>cases h.1
    | osl=>cases h.1
    | _=>simp only [JW,h.1,if_true]
   rw [this]
   rfl
 show ((j1 st.ob L u).bind fun cs=>if Nat.ble st.ro u=true∧0+n * 1≤cs.length then (((cs.drop 0).take (n * 1)).mapM (JW st 5)).map fun cs'=>V.sl none false n cs' else none)=_
 rw [hoc,Option.bind_some,if_pos ⟨Nat.ble_eq ▸ hro,by omega⟩,List.drop_zero,Nat.mul_one,List.take_of_length_le (by omega),hm 4 cs hp]
 rfl
theorem jin {st:St} {L u n:Nat} {cs:List V} (ho:st.ob L=some ⟨u,.cells cs⟩) (hl:cs.length=n) (hro:st.ro≤u) (hp:cs.all V.pureLeaf=true):jb2 st (.osl L u 0 n 1) false n cs:=by
 intro keep i
 have hoc:j1 st.ob L u=some cs:=by simp [j1,ho]
 have hs:=jql ho hl hro hp
 refine ⟨_,by simp only [jr,hs,Option.bind_some,hoc,Option.map_some];rfl,?_⟩
 split
 ·exact .inr ⟨_,rfl⟩
 ·exact .inl rfl
end Go.Pv.T
namespace Go.Pv.T
open Go Go.Pv
end Go.Pv.T
namespace Go.Pv.T
open Go Go.Pv
end Go.Pv.T
namespace Go.Pv.T
open Go Go.Pv
theorem jq7 {l:List Txn'} (h:∀ t∈l,t.ops.length≤1000):rcT l≤l.length * 1000:=by
 induction l with
 | nil=>simp [rcT,rc]
 | cons t l ih =>
  have h3:=ih (fun t ht=>h t (List.mem_cons_of_mem _ ht))
  have h4:=h t (List.mem_cons_self ..)
  have h5:=rc_le t.ops
  have:rcT (t::l)=rc t.ops+rcT l:=by rw [rcT,List.flatMap_cons,j4g];rfl
  rw [this,List.length_cons,Nat.succ_mul]
  omega
structure Bnd (g:Hist'):Prop where
 i:(XU g).length≤1000
 l:(jbo g).length≤1000000
 r:rcT g.ts≤1000000
 m:mostH g≤1000
 t:g.ts.length≤1000
theorem j9s {g:Hist'} (hs:Small g):Bnd g:=by
 have ht:=hs.ts
 refine ⟨?_,?_,?_,jjc hs _,ht⟩
 ·have:=JF Jp g.ts g.ts.length
  show (numsTo Jp g.ts g.ts.length).length≤1000
  omega
 ·have:=jbm hs.os g.ts.length
  show (jeh g.ts g.ts.length).length≤1000000
  have:g.ts.length * 1000≤1000 * 1000:=Nat.mul_le_mul_right _ ht
  omega
 ·have:=jq7 hs.os
  have:g.ts.length * 1000≤1000 * 1000:=Nat.mul_le_mul_right _ ht
  omega
theorem jvc {ub n:Nat} {cs:List V}:Xv ub (.sl (some (0,1)) false n cs)=some { v:=.sl (some (ub,1)) false n cs,add:=[ub] }:=by
 rw [Xv,if_pos (by rfl)];rfl
theorem IntsAt.mono {ob:ZO} {nx nx':Nat} {l:List Int} {v:V} (h:IntsAt ob nx l v) (hn:nx≤nx'):IntsAt ob nx' l v:=by
 rcases h with h | ⟨hne,L,u,h1,h2,h3,h4⟩
 ·exact .inl h
 ·exact .inr ⟨hne,L,u,h1,h2,by omega,h4⟩
theorem IntsAt.frame {ob ob':ZO} {nx:Nat} {l:List Int} {v:V} (h:IntsAt ob nx l v) (hf:∀ k,(∀ m,nx≤m→k≠2 * m+1)→ob' k=ob k):IntsAt ob' nx l v:=by
 rcases h with h | ⟨hne,L,u,h1,h2,h3,h4⟩
 ·exact .inl h
 ·exact .inr ⟨hne,L,u,h1,by rw [hf L (fun m hm=>by omega)];exact h2,h3,h4⟩
end Go.Pv.T
namespace Go.Pv.T
open Go Go.Pv
end Go.Pv.T
namespace Go.Pv.T
open Go Go.Pv
def YE (n:Nat) (l:List (List UInt8)):List (List UInt8):=(l.take n).map (·.take 100)
def fewT (t:Txn'):Txn':={ t with nl:=false,ops:=t.ops.take 25 }
def jci (h:Hist'):Hist':={ sn:=(YE 25 h.ss).isEmpty,ss:=YE 25 h.ss,kn:=(YE 45 h.ks).isEmpty,ks:=YE 45 h.ks,tn:=((h.ts.take 45).map fewT).isEmpty,ts:=(h.ts.take 45).map fewT }
theorem jno (n:Nat) (l:List (List UInt8)):YE n (YE n l)=YE n l:=by
 simp [YE,← List.map_take,List.map_map,List.take_take,Function.comp_def]
theorem jqm (h:Hist'):Small (jci h):=by
 refine ⟨?_,?_,?_,?_,?_,?_⟩
 ·show (YE 25 h.ss).length≤1000
  simp [YE];omega
 ·intro s hs
  obtain ⟨a,_,rfl⟩:=List.mem_map.1 (show s∈YE 25 h.ss from hs)
  simp;omega
 ·show (YE 45 h.ks).length≤1000
  simp [YE];omega
 ·intro s hs
  obtain ⟨a,_,rfl⟩:=List.mem_map.1 (show s∈YE 45 h.ks from hs)
  simp;omega
 ·show ((h.ts.take 45).map fewT).length≤1000
  simp;omega
 ·intro t ht
  obtain ⟨a,_,rfl⟩:=List.mem_map.1 (show t∈(h.ts.take 45).map fewT from ht)
  simp [fewT];omega
theorem jj1 {n i:Nat} {l:List (List UInt8)} (hi:i<l.length) (_:i<n):YE (i+1) l=YE i l++[(l[i]).take 100]:=by
 rw [YE,List.take_succ_eq_append_getElem hi,List.map_append];rfl
theorem jnp {n:Nat} {l:List (List UInt8)} {i:Nat} (hi:i≤l.length) (hn:i≤n) (h:¬ (i<l.length∧i<n)):YE i l=YE n l:=by
 unfold YE
 congr 1
 by_cases h1:i<l.length
 ·have:i=n:=by omega
  rw [this]
 ·rw [List.take_of_length_le (by omega),List.take_of_length_le (by omega)]
def tlC:C→C
 | .seq _ b=>b
 | c=>c
def hdC:C→C
 | .seq a _=>a
 | c=>c
theorem jbk (n m:Nat):Qk false [.int .i64 (n:Int),.int .i64 (m:Int)]=some (.int .i64 ((min n m:Nat):Int)):=by
 simp only [Qk,Wo]
 by_cases h:n≤m
 ·rw [Nat.min_eq_left h];simp [jhf];omega
 ·rw [Nat.min_eq_right (Nat.le_of_not_le h)];simp [jhf];omega
theorem jdj (c:List UInt8):c.take (min c.length 100)=c.take 100:=by
 rcases Nat.le_total c.length 100 with h' | h'
 ·rw [Nat.min_eq_left h',List.take_of_length_le (Nat.le_refl _),List.take_of_length_le h']
 ·rw [Nat.min_eq_right h']
theorem jnn (n:Nat) (l:List (List UInt8)):(YE n l).length≤n:=by simp [YE];omega
theorem jmm {l:List UInt8} {kk:IntKind} {k:Nat} (h:k≤l.length):XT none (some (.int kk (k:Int))) (.str l)=some (.str (l.take k)):=by
 simp [XT,X3,h]
theorem jks {cs:List V} {kk:IntKind} {t:Option (Nat × Nat)} {nl:Bool} {sz n k:Nat} (h:k≤n) (hc:cs.length=n * sz):Qf sz none (some (.int kk (k:Int))) (.sl t nl n cs)=some (.sl none nl k (cs.take (k * sz))):=by
 simp [Qf,X3,h,hc]
structure FewS (h:Hist') (s:St) (a b c N1 N2:Nat) (Sv Kv Tv:V):Prop where
 t1:s.tm 1 = .ptr 2 0 0
 t2:s.tm 2 = .ptr 4 64 0
 t3:s.tm 3 = .ptr 6 192 0
 d:s.df=[]
 ro:s.ro=0
 fb:s.fb=0
 o2:s.ob 2=some ⟨0,.cells (j2 h)⟩
 o4:s.ob 4=some ⟨64,.cells [.sl none true 0 [],.sl none true 0 [],.sl none true 0 []]⟩
 o6:s.ob 6=some ⟨192,.cells [Sv,Kv,Tv]⟩
 gS:Grow s.tk 0 N1 JJ 1 (YE a h.ss) Sv
 gK:Grow s.tk N1 N2 JJ 1 (YE b h.ks) Kv
 gT:Grow s.tk N2 s.nx ji 3 ((h.ts.take c).map fewT) Tv
 n1:N1≤N2
 n2:N2≤s.nx
end Go.Pv.T
namespace Go.Pv.T
open Go Go.Pv
end Go.Pv.T
namespace Go.Pv.T
open Go Go.Pv
theorem j13 {h:Hist'} {i:Nat} (hi:i≤h.ts.length) (hn:i≤45) (hx:¬ (i<h.ts.length∧i<45)):(h.ts.take i).map fewT=(h.ts.take 45).map fewT:=by
 congr 1
 by_cases h1:i<h.ts.length
 ·have:i=45:=by omega
  rw [this]
 ·rw [List.take_of_length_le (by omega),List.take_of_length_le (by omega)]
theorem juv (l:List Op') (k:Nat):(l.flatMap opC).take (k * 4)=(l.take k).flatMap opC:=by
 induction l generalizing k with
 | nil=>simp
 | cons a l ih =>
  cases k with
  | zero=>simp
  | succ k =>
   rw [List.flatMap_cons,List.take_succ_cons,List.flatMap_cons,Nat.succ_mul,← ih k]
   show (V.bool a.w::V.int .i64 a.key::V.int .i64 a.v.kind::V.int .i64 a.v.n::l.flatMap opC).take (k * 4+4)=_
   simp [opC]
theorem kE1 {st:St} {p l u:Nat} {x y z:V} {g:Hist'} (hd:st.df=[]) (hp:st.tm p = .ptr l u 0) (ho:st.ob l=some ⟨u,.cells [x,y,z]⟩)
 (hx:jb2 st x g.sn g.ss.length (g.ss.flatMap JJ)) (hy:jb2 st y g.kn g.ks.length (g.ks.flatMap JJ)) (hz:jb2 st z g.tn g.ts.length (g.ts.flatMap ji)):jep [.cell p (some 3)] (fun r=>jpt r g) .ret st:=endH1 hd hp ho hx hy hz
theorem j4c {Yf:YF} (nl:Bool) (ops:List Op') (hm:ops.length≤1000000) {l u lh uh:Nat} {ob0:ZO} {tk0:Nat→Bool} {ro base ub0:Nat} (J:Nat→(ZO)→(Nat→Bool)→Nat→Prop) (P:V × (ZO) × (Nat→Bool) × Nat→Prop)
 (hfr:∀ k ob ob' tk ub ub',J k ob tk ub→ub≤ub'→Fr ub ob ob'→J k ob' tk ub') (hcap:∀ k ob tk ub,J k ob tk ub→ob lh=some ⟨uh,.cells [jI nl opC ops]⟩) (hru0:ro≤ub0)
 (hstep:∀ k (_:k<ops.length) ob tk ub,J k ob tk ub→ro≤ub→∃ r,EvY Yf l u [.int .i64 (ops.length - 1 - k:Nat),.agg (opC (ops.getD (ops.length - 1 - k) ⟨false,0,0,0⟩))] ob tk ro ub r∧ro≤r.2.2.2 ∧
  ((r.1 = .bool true∧J (k+1) r.2.1 r.2.2.1 r.2.2.2)∨(r.1 = .bool false∧∀ ob' ub',r.2.2.2≤ub'→Fr r.2.2.2 r.2.1 ob'→P (.tup [],ob',r.2.2.1,ub'))))
 (hend:∀ ob tk ub,J ops.length ob tk ub→P (.tup [],ob,tk,ub)) (h0:J 0 ob0 tk0 ub0):∃ r,EvS E Yf.y 274 [.yld l u,.ptr lh uh 0] ob0 tk0 ro base ub0 r∧P r:=by
 refine Qb (af:=S274) rfl (by decide) ?_
 show wpC E Yf S274.body _ (WU S274.res P)
 have hh:=hcap 0 ob0 tk0 ub0 h0
 have w1:IntKind.i64.wrap ((ops.length:Int) - 1)=(ops.length:Int) - 1:=J8 (by omega) (by omega)
 simp [S274,j1,hh,w1]
 refine jE [(3,3),(7,18)] ops.length (fun k s=>s.tm 3 = .int .i64 ((ops.length:Int) - 1 - k)∧ro≤s.nx∧J k s.ob s.tk s.nx) rfl rfl ⟨by simp,by simp;omega,hfr _ _ _ _ _ _ h0 (by simp;omega) (Fr.refl _ _)⟩ ?_
 rintro k s hk ⟨h3,hnx,hJ⟩ f
 have f0:s.tm 0 = .yld l u:=by rw [f.t 0 (by simp)];simp
 have f1:s.tm 1 = .ptr lh uh 0:=by rw [f.t 1 (by simp)];simp
 have fd:s.df=[]:=by rw [f.d];simp
 have fr:s.ro=ro:=by rw [f.r];simp
 clear f
 have hc:=hcap _ _ _ _ hJ
 by_cases hlt:k<ops.length
 ·obtain ⟨j,hj⟩:∃ j,j=ops.length - 1 - k:=⟨_,rfl⟩
  have hjl:j<ops.length:=by omega
  have e:(ops.length:Int) - 1 - k=(j:Int):=by omega
  rw [e] at h3
  have w2:IntKind.i64.wrap ((j:Int) - 1)=(ops.length:Int) - 1 - (k+1):=by rw [J8 (by omega) (by omega)];omega
  have hgd:ops.getD j ⟨false,0,0,0⟩=ops[j]:=by rw [List.getD_eq_getElem?_getD,List.getElem?_eq_getElem hjl];rfl
  simp [h3,f0,f1,j1,hc,hjl,j5 jH,jX jH]
  refine jml fun s' hs'=>?_
  have e11:s'.tm 11 = .yld l u:=by rw [hs'];simp
  have e12:s'.tm 12 = .int .i64 j:=by rw [hs'];simp
  have e16:s'.tm 16 = .agg (opC ops[j]):=by rw [hs'];simp
  have e3:s'.tm 3 = .int .i64 j:=by rw [hs'];simp [h3]
  have ed:s'.df=[]:=by rw [hs'];simp [fd]
  have er:s'.ro=ro:=by rw [hs'];simp [fr]
  have et:s'.tk=s.tk:=by rw [hs'];simp
  have eo:s'.ob=s.ob:=by rw [hs'];simp
  clear hs'
  obtain ⟨r,hr,hru,hcase⟩:=hstep k hlt s'.ob s.tk (s.nx+64+64+64+64+64+64+64+64) (hfr _ _ _ _ _ _ hJ (by omega) (by rw [eo];exact Fr.refl _ _)) (by omega)
  rw [← hj,hgd] at hr
  refine jh9 (l:=l) (u:=u) (by simpa using e11) ⟨r,by simpa [e12,e16,et,er] using hr,?_⟩
  rcases hcase with ⟨hr1,hJ2⟩ | ⟨hr1,hP⟩
  ·simp [hr1,put,j6,e3,w2]
   exact ⟨hlt,by omega,hfr _ _ _ _ _ _ hJ2 (by omega) (Fr.refl _ _)⟩
  ·simp [hr1,put]
   refine ⟨(.tup [],r.2.1,r.2.2.1,r.2.2.2+64),?_,hP _ _ (by omega) (Fr.refl _ _)⟩
   simp [endS,ed]
 ·have:k=ops.length:=by omega
  subst this
  obtain ⟨X,hX⟩:∃ x:Int,x=(ops.length:Int) - 1 - ops.length:=⟨_,rfl⟩
  rw [← hX] at h3
  have c1:¬ 0≤X:=by omega
  simp [h3,c1]
  refine ⟨(.tup [],s.ob,s.tk,s.nx+64+64),?_,hend _ _ _ (hfr _ _ _ _ _ _ hJ (by omega) (Fr.refl _ _))⟩
  simp [endS,fd]
def jxy:C:=.region [⟨some 7,.alloc [(.bool false),(.int .i64 0),(.int .i64 0),(.int .i64 0)],none,false⟩,⟨none,.store 4 (.t 7) (.t 11),none,false⟩]
def jpu:C:=.block 1 (.seq (.region [⟨some 12,.fieldAddr 0 (.t 7),none,false⟩,⟨some 13,.load none (.t 12),none,false⟩,⟨some 14,.mov (.t 13),none,false⟩,⟨some 15,.fieldAddr 1 (.t 7),(some (14,true)),false⟩,⟨some 16,.load none (.t 15),(some (14,true)),false⟩,⟨some 17,.load none (.t 3),(some (14,true)),false⟩,⟨some 18,.bin .eql (.t 16) (.t 17),(some (14,true)),false⟩,⟨some 19,.pick (.t 14) (.t 18) (.c (.bool false)),none,false⟩])
 (.cond (.t 19) (.seq (.region [⟨some 20,.fieldAddr 2 (.t 7),none,false⟩,⟨some 21,.load (some 2) (.t 20),none,false⟩,⟨none,.store 2 (.t 4) (.t 21),none,false⟩,⟨none,.store 1 (.t 5) (.c (.bool true)),none,false⟩]) (.ret)) (.skip)))
theorem jvh (nl:Bool) (ops:List Op') (hm:ops.length≤1000000) (kv:Int) {st:St} {lh uh:Nat} (U:Nat) (hU:st.nx=U) (hU0:64≤U) (h9:st.tm 9 = .fn (.func 274) [] [.ptr lh uh 0]) (hl:∃ m,lh=2 * m+1∧m<U)
 (h3:st.tm 3 = .ptr 6 0 0) (h4:st.tm 4 = .ptr 8 64 0) (h5:st.tm 5 = .ptr 10 128 0) (hro:st.ro=0) (hfb:st.fb=0) (o6:st.ob 6=some ⟨0,.cells [.int .i64 kv]⟩) (o8:st.ob 8=some ⟨64,.cells [.int .i64 0,.int .i64 0]⟩) (o10:st.ob 10=some ⟨128,.cells [.bool false]⟩)
 (oh:st.ob lh=some ⟨uh,.cells [jI nl opC ops]⟩) {Q:Ex→St→Prop}
 (hQ:∀ (e:Ex) (ob:ZO) (tk:Nat→Bool) (ub:Nat) (v:Val') (b:Bool),ob 8=some ⟨64,.cells (J1 v)⟩→ob 10=some ⟨128,.cells [.bool b]⟩→ob (2 * U+3)=some ⟨U+1,.dfr⟩→U+64≤ub →
  jq kv ops ops.length=(v,b)→(e = .nrm∧v=⟨0,0⟩∧b=false∨e = .ret)→Q e { st with ob:=ob,tk:=tk,nx:=ub,df:=(2 * U+3,U+1)::st.df }) :
 wpC E noYF (.rangeFunc (.t 9) [10,11] jxy jpu) st Q:=by
 obtain ⟨m,rfl,hmU⟩:=hl
 subst hU
 refine WG (g:=274) (first:=[]) (captured:=[.ptr (2 * m+1) uh 0]) (by simpa using h9) ?_
 have e1:¬ 2 * m+1=2 * st.nx+1:=by omega
 have e2:¬ 2 * m+1=2 * st.nx+3:=by omega
 have e1':¬ 2 * m=2 * st.nx:=by omega
 have e2':¬ 2 * m=2 * st.nx+2:=by omega
 have:=j4c (Yf:=jf1 E noYF jxy jpu st [10,11] (2 * st.nx+1) st.nx) nl ops hm (l:=2 * st.nx+1) (u:=st.nx) (lh:=2 * m+1) (uh:=uh)
  (ob0:=upd (upd st.ob (2 * st.nx+3) (some ⟨st.nx+1,.dfr⟩)) (2 * st.nx+1) (some ⟨st.nx,.loop .ready none⟩)) (tk0:=st.tk) (ro:=st.ro) (base:=(st.fb+1023) * 1024) (ub0:=st.nx+64)
  (fun k ob tk ub=>jq kv ops ops.length=jq kv ops (ops.length - k)∧ob (2 * st.nx+1)=some ⟨st.nx,.loop .ready none⟩∧ob (2 * st.nx+3)=some ⟨st.nx+1,.dfr⟩∧ob 6=some ⟨0,.cells [.int .i64 kv]⟩∧ob 8=some ⟨64,.cells [.int .i64 0,.int .i64 0]⟩∧ob 10=some ⟨128,.cells [.bool false]⟩∧ob (2 * m+1)=some ⟨uh,.cells [jI nl opC ops]⟩∧st.nx+64≤ub)
  (fun r=>∃ s pend,r.2.1 (2 * st.nx+1)=some ⟨st.nx,.loop s pend⟩∧s≠.busy∧st.ro≤st.nx∧Q (pend.getD .nrm) { st with ob:=fun k=>if Nat.beq (2 * st.nx+1) k then none else r.2.1 k,tk:=r.2.2.1,nx:=r.2.2.2,df:=(2 * st.nx+3,st.nx+1)::st.df })
  ?_ ?_ (by omega) ?_ ?_ ?_
 ·obtain ⟨r,hr,hP⟩:=this
  exact ⟨r,hr,hP⟩
 ·rintro k ob ob' tk ub ub' ⟨g1,g2,g3,g4,g5,g6,g7,g8⟩ hub hfr
  have f:∀ key,(∀ m,ub≤m→key≠2 * m+1)→ob' key=ob key:=hfr
  exact ⟨g1,by rw [f _ (fun m hm=>by omega)];exact g2,by rw [f _ (fun m hm=>by omega)];exact g3,by rw [f _ (fun m hm=>by omega)];exact g4,by rw [f _ (fun m hm=>by omega)];exact g5,by rw [f _ (fun m hm=>by omega)];exact g6,by rw [f _ (fun m hm=>by omega)];exact g7,by omega⟩
 ·rintro k ob tk ub ⟨g1,g2,g3,g4,g5,g6,g7,g8⟩
  exact g7
 ·rintro k hk ob tk ub ⟨g1,g2,g3,g4,g5,g6,g7,g8⟩ hru
  obtain ⟨j,hj⟩:∃ j,j=ops.length - 1 - k:=⟨_,rfl⟩
  have hjl:j<ops.length:=by omega
  have hgd:ops.getD j ⟨false,0,0,0⟩=ops[j]:=by rw [List.getD_eq_getElem?_getD,List.getElem?_eq_getElem hjl];rfl
  have hraw:=Q8 (k:=kv) hjl
  rw [← hj,hgd]
  obtain ⟨o,ho⟩:∃ o,ops[j]=o:=⟨_,rfl⟩
  rw [ho] at hraw ⊢
  rw [show ops.length - k=j+1 by omega] at g1
  rw [hraw] at g1
  refine jff (asg:=jxy) (bd:=jpu) (xs:=[.int .i64 (j:Nat),.agg (opC o)]) rfl (by omega) g2 (by decide) (by decide) ?_
  simp [jxy,jdo,j1,hfb,opC,hro,j7]
  refine ⟨by rw [if_neg (by omega),if_neg (by omega)];exact g2,JV fun s' hs'=>?_⟩
  have f3:s'.tm 3 = .ptr 6 0 0:=by rw [hs'];simp [j6,h3]
  have f4:s'.tm 4 = .ptr 8 64 0:=by rw [hs'];simp [j6,h4]
  have f5:s'.tm 5 = .ptr 10 128 0:=by rw [hs'];simp [j6,h5]
  have f7:s'.tm 7 = .ptr 14 ub 0:=by rw [hs'];simp
  have n6:¬ 6=2 * st.nx+1:=by omega
  have n8:¬ 8=2 * st.nx+1:=by omega
  have n10:¬ 10=2 * st.nx+1:=by omega
  have n14:¬ 14=2 * st.nx+1:=by omega
  have n3:¬ 2 * st.nx+3=2 * st.nx+1:=by omega
  have n314:¬ 2 * st.nx+3=14:=by omega
  have n114:¬ 2 * m+1=14:=by omega
  have p6:s'.ob 6=some ⟨0,.cells [.int .i64 kv]⟩:=by rw [hs'];simp [j6,n6,g4]
  have p8:s'.ob 8=some ⟨64,.cells [.int .i64 0,.int .i64 0]⟩:=by rw [hs'];simp [j6,n8,g5]
  have p10:s'.ob 10=some ⟨128,.cells [.bool false]⟩:=by rw [hs'];simp [j6,n10,g6]
  have p14:s'.ob 14=some ⟨ub,.cells (opC o)⟩:=by rw [hs'];simp [j6,n14,opC]
  have p3:s'.ob (2 * st.nx+3)=some ⟨st.nx+1,.dfr⟩:=by rw [hs'];simp [j6,n314,g3]
  have p1:s'.ob (2 * st.nx+1)=some ⟨st.nx,.loop .busy none⟩:=by rw [hs'];simp
  have ph:s'.ob (2 * m+1)=some ⟨uh,.cells [jI nl opC ops]⟩:=by rw [hs'];simp [j6,e1',n114,g7]
  have fr:s'.ro=0:=by rw [hs']
  have fn:ub≤s'.nx:=by rw [hs'];simp;omega
  clear hs'
  have m18:¬ 2 * st.nx+1=8:=by omega
  have m110:¬ 2 * st.nx+1=10:=by omega
  have m38:¬ 2 * st.nx+3=8:=by omega
  have m310:¬ 2 * st.nx+3=10:=by omega
  have skip:wkB kv o=false→jq kv ops ops.length=jq kv ops (ops.length - (k+1)):=fun hw=>by
   rw [hw] at g1
   rw [g1,show ops.length - (k+1)=j by omega]
   rfl
  have done:wkB kv o=false→(skip':True)→jq kv ops ops.length=jq kv ops (ops.length - (k+1))∧upd s'.ob (2 * st.nx+1) (some ⟨st.nx,.loop .ready none⟩) (2 * st.nx+3)=some ⟨st.nx+1,.dfr⟩:=fun hw _=>⟨skip hw,by rw [j6,if_neg n3];exact p3⟩
  cases hw1:o.w
  ·have hw:=skip (by unfold wkB;rw [hw1];rfl)
   simp [jpu,f7,p14,j1,opC,hw1,p1,WM]
   exact ⟨hw,by rw [j6,if_neg n3];exact p3,by rw [j6,if_neg n6];exact p6,by rw [j6,if_neg n8];exact p8,by rw [j6,if_neg n10];exact p10,by rw [j6,if_neg e1];exact ph,by omega⟩
  cases hk1:(o.key == kv)
  ·have hw:=skip (by unfold wkB;rw [hw1,hk1];rfl)
   simp [jpu,f7,p14,j1,opC,hw1,f3,p6,hk1,p1,WM]
   exact ⟨hw,by rw [j6,if_neg n3];exact p3,by rw [j6,if_neg n6];exact p6,by rw [j6,if_neg n8];exact p8,by rw [j6,if_neg n10];exact p10,by rw [j6,if_neg e1];exact ph,by omega⟩
  ·have hwt:wkB kv o=true:=by unfold wkB;rw [hw1,hk1];rfl
   rw [hwt] at g1
   simp only [if_true] at g1
   simp [jpu,f7,p14,j1,opC,hw1,f3,p6,hk1,f4,f5,p8,p10,fr,j7,m18,m110,p1,WM]
   intro ob' ub' hle hfr
   have fk:∀ key,(∀ m,s'.nx+64+64+64+64+64+64+64+64+64+64+64+64≤m→key≠2 * m+1)→ob' key=_:=hfr
   have n1':∀ {k:Nat},k≠2 * st.nx+1→(if 2 * st.nx+1=k then none else ob' k)=ob' k:=fun hk=>if_neg fun e=>hk e.symm
   refine ⟨.done,some .ret,?_,by simp,?_⟩
   ·rw [fk _ (fun m hm=>by omega)]
    simp
   ·have:=hQ .ret (fun k=>if 2 * st.nx+1=k then none else ob' k) s'.tk ub' o.v true (by rw [n1' n8,fk _ (fun m hm=>by omega)];simp [j6,n8,J1]) (by rw [n1' n10,fk _ (fun m hm=>by omega)];simp [j6,n10])
     (by rw [n1' n3,fk _ (fun m hm=>by omega)];simp [j6,m38,m310,p3]) (by omega) g1 (Or.inr rfl)
    rw [hro,hfb] at this
    simpa [jo] using this
 ·rintro ob tk ub ⟨g1,g2,g3,g4,g5,g6,g7,g8⟩
  refine ⟨.ready,none,g2,by simp,by omega,?_⟩
  rw [Nat.sub_self] at g1
  exact hQ .nrm _ _ _ ⟨0,0⟩ false ((jy0 ob (by omega)).trans g5) ((jy0 ob (by omega)).trans g6) ((jy0 ob (by omega)).trans g3) g8 g1 (Or.inl ⟨rfl,rfl,rfl⟩)
 ·have n13:¬ 2 * st.nx+3=2 * st.nx+1:=by omega
  have a6:¬ 6=2 * st.nx+1:=by omega
  have b6:¬ 6=2 * st.nx+3:=by omega
  have a8:¬ 8=2 * st.nx+1:=by omega
  have b8:¬ 8=2 * st.nx+3:=by omega
  have a10:¬ 10=2 * st.nx+1:=by omega
  have b10:¬ 10=2 * st.nx+3:=by omega
  exact ⟨by rw [Nat.sub_zero],by simp,by simp [j6],by simp [j6,a6,b6,o6],by simp [j6,a8,b8,o8],by simp [j6,a10,b10,o10],by simp [j6,e1',e2',oh],by omega⟩
end Go.Pv.T
namespace Go.Pv.T
open Go Go.Pv
end Go.Pv.T
namespace Go.Pv.T
open Go Go.Pv
theorem Wp {g:Hist'} (hm:X9 g=false):errH g=4:=by unfold errH;rw [hm];rfl
end Go.Pv.T
namespace Go.Pv.T
open Go Go.Pv Go.Sort
def arr {α:Type} (f:α→List V) (d:Array α):List V:=d.toList.flatMap f
theorem jt1 {α:Type} {f:α→List V} {sz:Nat} (hf:∀ a,(f a).length=sz) (d:Array α):(arr f d).length=d.size * sz:=by
 unfold arr;rw [jA hf,Array.length_toList]
section
variable {α:Type} [Inhabited α] {f:α→List V} {sz:Nat} {d:Array α}
theorem idxA {l u n:Nat} {kk:IntKind} {x:Int} (h0:0≤x) (h1:x<n):JL sz (.osl l u 0 n sz) (.int kk x)=some (.ptr l u (x.toNat * sz)):=by
 simp [JL,h0,h1]
end
@[simp] theorem arrI_len (d:Array Int):(arr intC d).length=d.size:=by rw [jt1 (sz:=1) jF,Nat.mul_one]
def At (l u:Nat) (cs:List V) (ob:ZO) (tk:Nat→Bool) (ub:Nat) (ob':ZO) (tk':Nat→Bool) (ub':Nat):Prop :=
 ob' l=some ⟨u,.cells cs⟩∧(∀ key,key≠l→(∀ m,ub≤m→key≠2 * m+1)→ob' key=ob key)∧tk'=tk∧ub≤ub'
theorem jnr {st:St} {P:V × (ZO) × (Nat→Bool) × Nat→Prop} {e:Ex} (he:e = .nrm∨e = .ret) (hd:st.df=[]) (h:P (.tup [],st.ob,st.tk,st.nx)):WU [] P e st:=by
 refine ⟨_,?_,h⟩
 rcases he with rfl | rfl <;> simp [endS,hd]
theorem idxN {l u n x:Nat} {kk:IntKind} {X:Int} (hX:X=(x:Nat)) (hx:x<n):JL 1 (.osl l u 0 n 1) (.int kk X)=some (.ptr l u x):=by
 subst hX
 have:=idxA (sz:=1) (l:=l) (u:=u) (n:=n) (kk:=kk) (x:=(x:Int)) (by omega) (by omega)
 simpa using this
theorem At.swap {l u:Nat} {d2:Array Int} {cs:List V} {ob:ZO} {tk:Nat→Bool} {ub:Nat} {ob1:ZO} {tk1:Nat→Bool} {ub1:Nat} {ob2:ZO} {tk2:Nat→Bool} {ub2:Nat} (h:At l u (arr intC d2) ob tk ub ob1 tk1 ub1)
 (h1:ob2 l=some ⟨u,.cells cs⟩) (h2:∀ key,key≠l→ob2 key=ob1 key) (h3:tk2=tk1) (h4:ub1≤ub2):At l u cs ob tk ub ob2 tk2 ub2 :=
 ⟨h1,fun key a b=>(h2 key a).trans (h.2.1 key a b),h3.trans h.2.2.1,Nat.le_trans h.2.2.2 h4⟩
def joi (st:St) (d:Option Nat) (v:V) (ob:ZO) (tk:Nat→Bool):St:={ st with tm:=put st.tm d v,ob:=ob,tk:=tk }
section
variable {st:St} {d:Option Nat} {v:V} {ob:ZO} {tk:Nat→Bool}
@[simp] theorem retS_tm (e n:Nat):(joi st (some e) v ob tk).tm n=if n=e then v else st.tm n:=by simp [joi,put,j6]
@[simp] theorem retS_tm0 (n:Nat):(joi st none v ob tk).tm n=st.tm n:=rfl
@[simp] theorem jg7:(joi st d v ob tk).ob=ob:=rfl
@[simp] theorem retS_tk:(joi st d v ob tk).tk=tk:=rfl
@[simp] theorem retS_ro:(joi st d v ob tk).ro=st.ro:=rfl
@[simp] theorem retS_nx:(joi st d v ob tk).nx=st.nx:=rfl
@[simp] theorem retS_fb:(joi st d v ob tk).fb=st.fb:=rfl
@[simp] theorem retS_df:(joi st d v ob tk).df=st.df:=rfl
end
@[simp] theorem jv2 (l u o:Nat):jap (.ptr l u o)=some (.ptr l u o):=rfl
theorem Y7 {Yf:YF} {f:FuncId} {xs:List A} {st:St} {ub:Nat} {K:St→Nat→Prop} {d:Option Nat} {nm:Bool} {vs:List V} {P:V × (ZO) × (Nat→Bool) × Nat→Prop} (hx:xs.map (eval E st.tm)=vs) (hs:E.sh nm f=true)
 (he:∃ r,EvS E Yf.y f vs st.ob st.tk st.ro ((st.fb+d.getD 0+1) * 1024) ub r∧P r) (h:∀ v ob' tk' ub',P (v,ob',tk',ub')→K (joi st d v ob' tk') ub'):j9 E Yf ⟨d,.call f xs,none,nm⟩ st ub K:=by
 obtain ⟨r,hr,hP⟩:=he
 exact QD hx hs ⟨r,hr,h r.1 r.2.1 r.2.2.1 r.2.2.2 hP⟩
theorem Wc {st:St} {x:Nat} {P:V × (ZO) × (Nat→Bool) × Nat→Prop} (hd:st.df=[]) (h:P (st.tm x,st.ob,st.tk,st.nx)):WU [.t x] P .ret st:=⟨_,by simp [endS,hd,jm],h⟩
theorem At.refl {l u:Nat} {cs:List V} {ob:ZO} {tk:Nat→Bool} {ub:Nat} (h:ob l=some ⟨u,.cells cs⟩):At l u cs ob tk ub ob tk ub:=⟨h,fun _ _ _=>rfl,rfl,Nat.le_refl _⟩
theorem At.trans {l u:Nat} {cs cs':List V} {ob ob1 ob2:ZO} {tk tk1 tk2:Nat→Bool} {ub ub1 ub1' ub2:Nat} (h:At l u cs ob tk ub ob1 tk1 ub1) (h':At l u cs' ob1 tk1 ub1' ob2 tk2 ub2) (hu:ub1≤ub1'):At l u cs' ob tk ub ob2 tk2 ub2 :=
 ⟨h'.1,fun key a b=>(h'.2.1 key a (fun m hm=>b m (by have:=h.2.2.2;omega))).trans (h.2.1 key a b),h'.2.2.1.trans h.2.2.1,by have:=h.2.2.2;have:=h'.2.2.2;omega⟩
def Cn (w uw:Nat) (ob:ZO) (tk:Nat→Bool) (ub:Nat) (ob':ZO) (tk':Nat→Bool) (ub':Nat):Prop :=
 (∃ c,ob' w=some ⟨uw,.cells [.int .i64 c]⟩)∧(∀ key,key≠w→ob' key=ob key)∧tk'=tk∧ub≤ub'
theorem Cn.trans {w uw:Nat} {ob ob1 ob2:ZO} {tk tk1 tk2:Nat→Bool} {ub ub1 ub1' ub2:Nat} (h:Cn w uw ob tk ub ob1 tk1 ub1) (h':Cn w uw ob1 tk1 ub1' ob2 tk2 ub2) (hu:ub1≤ub1'):Cn w uw ob tk ub ob2 tk2 ub2 :=
 ⟨h'.1,fun key a=>(h'.2.1 key a).trans (h.2.1 key a),h'.2.2.1.trans h.2.2.1,by have:=h.2.2.2;have:=h'.2.2.2;omega⟩
theorem j1d {Yf:YF} {a b:C} {st:St} {Q:Ex→St→Prop} {c:Bool} (h:∀ s,s=st→kIf E Yf a b s Q c):kIf E Yf a b st Q c:=h st rfl
def Calm (s s':St):Prop:=s'.ob=s.ob∧s'.tk=s.tk∧s.nx≤s'.nx
theorem Calm.refl (s:St):Calm s s:=⟨rfl,rfl,Nat.le_refl _⟩
theorem Calm.trans {a b c:St} (h:Calm a b) (h':Calm b c):Calm a c:=⟨h'.1.trans h.1,h'.2.1.trans h.2.1,Nat.le_trans h.2.2 h'.2.2⟩
end Go.Pv.T
namespace Go.Pv.T
open Go Go.Pv Go.Sort
end Go.Pv.T
namespace Go.Pv.T
open Go Go.Pv Go.Sort
end Go.Pv.T
namespace Go.Pv.T
open Go Go.Pv Go.Sort
@[simp] theorem j9l (k k':IntKind) (n:Int):XR k (.int k' n)=some (.int k (k.wrap n)):=rfl
end Go.Pv.T
namespace Go.Pv.T
open Go Go.Pv Go.Sort
end Go.Pv.T
namespace Go.Pv.T
open Go Go.Pv Go.Sort
structure PQ (l u ro a b:Nat) (d:Array Int) (ob:ZO) (tk:Nat→Bool) (ub a1 b1:Nat) (d1:Array Int) (s:St):Prop where
 t0:s.tm 0 = .osl l u 0 d.size 1
 t1:s.tm 1 = .int .i64 a1
 t2:s.tm 2 = .int .i64 b1
 t10:s.tm 10 = .int .i64 ((b1:Int) - a1)
 df:s.df=[]
 ro:s.ro=ro
 mem:At l u (arr intC d1) ob tk ub s.ob s.tk s.nx
 sz:d1.size=d.size
 bl:Below ltInt a1 b1 d1
 go:∀ R,PermIn a1 b1 d1 R→SortedIn ltInt a1 b1 R→PermIn a b d R∧SortedIn ltInt a b R
theorem PQ.turn {l u ro a b:Nat} {d:Array Int} {ob:ZO} {tk:Nat→Bool} {ub a1 b1:Nat} {d2 d3:Array Int} {s s':St} (hp:PQ l u ro a b d ob tk ub a1 b1 d2 s) (hb1:b1≤d.size) (h0:s'.tm 0=s.tm 0) (h1:s'.tm 1=s.tm 1) (h2:s'.tm 2=s.tm 2) (h10:s'.tm 10=s.tm 10) (hd:s'.df=s.df) (hr:s'.ro=s.ro)
 (hm:At l u (arr intC d3) ob tk ub s'.ob s'.tk s'.nx) (hpm:PermIn a1 b1 d2 d3):PQ l u ro a b d ob tk ub a1 b1 d3 s' :=
 ⟨h0.trans hp.t0,h1.trans hp.t1,h2.trans hp.t2,h10.trans hp.t10,hd.trans hp.df,hr.trans hp.ro,hm,hpm.1.trans hp.sz,hp.bl.perm (by rw [hp.sz];exact hb1) hpm,fun R hR hs=>hp.go R (permIn_trans _ _ _ a1 b1 hpm hR) hs⟩
theorem j3v {Yf:YF} {ob:ZO} {tk:Nat→Bool} {ro base ub:Nat}:∃ r,EvS E Yf.y 69 [.sl none true 0 []] ob tk ro base ub r∧r.2.1=ob∧r.2.2.1=tk∧ub≤r.2.2.2 :=
 ⟨(.tup [],ob,tk,ub),jt7 rfl rfl rfl,rfl,rfl,Nat.le_refl _⟩
theorem jju:∀ L:List Int,(L.flatMap intC).mapM int64? = some L
 | []=>rfl
 | x::L=>by
  rw [List.flatMap_cons]
  show (V.int .i64 x::L.flatMap intC).mapM int64? = _
  simp only [List.mapM_cons,jju L]
  rfl
theorem sv69 {Yf:YF} {l u:Nat} {L T:List Int} (hp:L.Perm T) (hs:T.Pairwise (·≤·)) (hL:L.length≤1000000000) {ob:ZO} {tk:Nat→Bool} {ro base ub:Nat} (ho:ob l=some ⟨u,.cells (L.flatMap intC)⟩) (hro:ro≤u) (_:∀ m,ub≤m→l≠2 * m+1) (_:ro≤ub) :
 ∃ r,EvS E Yf.y 69 [.osl l u 0 L.length 1] ob tk ro base ub r∧At l u (T.flatMap intC) ob tk ub r.2.1 r.2.2.1 r.2.2.2:=by
 have hT:Yv L=T:=jha ((XW L).trans hp) (Qx L) hs
 have hlen:(L.flatMap intC).length=L.length:=by rw [jA jF,Nat.mul_one]
 have hmap:∀ T:List Int,T.map (V.int .i64)=T.flatMap intC:=fun T=>by induction T <;> simp_all [intC]
 refine ⟨(.tup [],upd ob l (some ⟨u,.cells (T.flatMap intC)⟩),tk,ub),jt7 rfl ?_ rfl,by simp,fun key h1 _=>by simp [J2 _ _ h1],rfl,Nat.le_refl _⟩
 have hc:j1 ob l u=some (L.flatMap intC):=by simp [j1,ho]
 simp only [jqk,hc,Option.bind_some]
 rw [if_pos ⟨Nat.ble_eq ▸ hro,trivial,by omega,hL⟩,List.drop_zero,List.take_of_length_le (by omega),jju,Option.map_some,hT,hmap]
 have:(T.flatMap intC).length=(L.flatMap intC).length:=by rw [jA jF,jA jF,hp.length_eq]
 rw [j7,List.take_zero,List.nil_append,List.drop_of_length_le (by omega),List.append_nil]
end Go.Pv.T
namespace Go.Pv.T
open Go Go.Pv
theorem sv237 {Yf:YF} {sl:V} (hs:sl.cells=[sl]) (hl:sl.leaf=true) {ob:ZO} {tk:Nat→Bool} {ro base ub:Nat}:∃ r,EvS E Yf.y 237 [sl] ob tk ro base ub r ∧
 r.1 = .fn (.func 274) [] [.ptr (2 * ub+1) ub 0]∧(∀ key,r.2.1 key=if key=2 * ub+1 then some ⟨ub,.cells [sl]⟩ else ob key)∧r.2.2.1=tk∧r.2.2.2=ub+256:=by
 refine Qb (af:=S237) rfl (by decide) ?_
 show wpC E Yf S237.body _ (WU S237.res _)
 simp [S237,hs,hl]
 exact Wc (by simp) ⟨by simp,fun key=>by simp,by simp [jo],by simp⟩
def Y6 (ops:List Op') (key:Int):Val' × Bool:=jq key ops ops.length
theorem j2a (nl:Bool) (ops:List Op') (hm:ops.length≤1000000) (key:Int):Ev E 177 [jI nl opC ops,.int .i64 key] (.tup [.agg (J1 (Y6 ops key).1),.bool (Y6 ops key).2]):=by
 refine jT (af:=F177) rfl ?_
 simp [F177]
 refine Y7 (vs:=[jI nl opC ops]) (by simp) rfl (sv237 (by simp) (by simp)) ?_
 rintro v ob1 tk1 ub1 ⟨e1,e2,e3,e4⟩
 simp only at e1 e2 e3 e4
 subst e1 e4
 simp
 refine JV fun st hst=>?_
 have g3:st.tm 3 = .ptr 6 0 0:=by rw [hst];simp
 have g4:st.tm 4 = .ptr 8 64 0:=by rw [hst];simp
 have g5:st.tm 5 = .ptr 10 128 0:=by rw [hst];simp
 have g9:st.tm 9 = .fn (.func 274) [] [.ptr 513 256 0]:=by rw [hst];simp
 have gd:st.df=[]:=by rw [hst];simp
 have gb:st.fb=0:=by rw [hst];simp
 have gr:st.ro=0:=by rw [hst];simp
 have gn:st.nx=512:=by rw [hst];simp
 have p6:st.ob 6=some ⟨0,.cells [.int .i64 key]⟩:=by rw [hst];simp only [JA,jg7];rw [e2];simp
 have p8:st.ob 8=some ⟨64,.cells [.int .i64 0,.int .i64 0]⟩:=by rw [hst];simp only [JA,jg7];rw [e2];simp
 have p10:st.ob 10=some ⟨128,.cells [.bool false]⟩:=by rw [hst];simp only [JA,jg7];rw [e2];simp
 have ph:st.ob 513=some ⟨256,.cells [jI nl opC ops]⟩:=by rw [hst];simp only [JA,jg7];rw [e2];simp
 clear hst e2
 refine jvh nl ops hm key 512 gn (by omega) g9 ⟨256,rfl,by omega⟩ g3 g4 g5 gr gb p6 p8 p10 ph ?_
 intro e ob tk ub v b q8 q10 qd hub hraw hcase
 have hl:Y6 ops key=(v,b):=hraw
 rw [hl]
 rcases hcase with ⟨rfl,rfl,rfl⟩ | rfl
 ·simp [g4,g5,j1,q8,q10,gr,j7,J1]
  refine Wy (l:=1027) (u:=513) (by simp [gd]) (by simp [qd]) (by simp) (J3 rfl (l:=[.agg (J1 ⟨0,0⟩),.bool false]) (by simp [jm,j1,g4,g5,J1]) rfl rfl)
 ·simp
  refine Wy (l:=1027) (u:=513) (by simp [gd]) (by simp [qd]) (by simp [gr]) (J3 rfl (l:=[.agg (J1 v),.bool b]) (by simp [jm,j1,g4,g5,q8,q10,J1]) rfl rfl)
def JE (h:Hist') (i:Int):Bool × List Op':=if X9 h && (decide (0≤i) && decide (i<h.ts.length)) then ((h.ts.getD i.toNat ⟨0,0,true,[]⟩).nl,(h.ts.getD i.toNat ⟨0,0,true,[]⟩).ops) else (true,[])
theorem j2b {h:Hist'} (hs:Small h) (i:Int):Ev E 176 [.agg (j2 h),.int .i64 i] (jI (JE h i).1 opC (JE h i).2):=by
 have e70:=jpj hs
 have hts:=hs.ts
 refine jT (af:=F176) rfl ?_
 obtain ⟨R,hR⟩:∃ R,JE h i=R:=⟨_,rfl⟩
 rw [hR]
 unfold JE at hR
 simp [F176,j2,j1]
 refine jV e70 (by simp [j2]) rfl (by simp [j2]) ?_
 cases hm:X9 h
 ·rw [Wp hm]
  rw [hm] at hR
  subst hR
  simp
  exact j3 rfl (by simp [jI]) rfl
 rw [hm] at hR
 rw [YP hm]
 by_cases k1:i<0
 ·rw [if_neg (by simp;omega)] at hR
  subst hR
  simp [k1]
  exact j3 rfl (by simp [jI]) rfl
 by_cases k2:(h.ts.length:Int)≤i
 ·rw [if_neg (by simp;omega)] at hR
  subst hR
  simp [k1,k2,j1]
  exact j3 rfl (by simp [jI]) rfl
 rw [if_pos (by simp;omega)] at hR
 obtain ⟨j,rfl⟩:∃ j:Nat,i=j:=⟨i.toNat,by omega⟩
 have hj:j<h.ts.length:=by omega
 have hl3:(h.ts.flatMap ji)[j * 3+2]? = some (jI (h.ts[j]).nl opC (h.ts[j]).ops):=by
  rw [jb j8 h.ts hj (by decide:2<3)];rfl
 rw [Int.toNat_natCast,jn hj] at hR
 subst hR
 simp [k1,k2,j1,hj,j5 j8,hl3]
 exact j3 rfl (by simp) rfl
theorem ji1 {h:Hist'} (hs:Small h) (i:Int):(JE h i).2.length≤1000:=by
 unfold JE
 split
 ·rename_i hc
  simp only [Bool.and_eq_true,decide_eq_true_eq] at hc
  have hj:i.toNat<h.ts.length:=by omega
  rw [jn hj]
  exact hs.os _ (List.getElem_mem hj)
 ·simp
theorem j9d {h:Hist'} (hs:Small h) (i key:Int):Ev E 116 [.agg (j2 h),.int .i64 i,.int .i64 key] (.tup [.agg (J1 (Y6 (JE h i).2 key).1),.bool (Y6 (JE h i).2 key).2]):=by
 have e129:=j2b hs i
 have e130:=j2a (JE h i).1 (JE h i).2 (by have:=ji1 hs i;omega) key
 refine jT (af:=F116) rfl ?_
 generalize (JE h i).1=nl at *
 generalize (JE h i).2=ops at *
 obtain ⟨R,hR⟩:∃ R,Y6 ops key=R:=⟨_,rfl⟩
 rw [hR] at e130 ⊢
 simp [F116,j2,j1]
 refine jV e129 (by simp [j2]) rfl (by simp [j2]) ?_
 rw [YA (show (jI nl opC ops).plain=true from rfl)]
 simp
 refine jV e130 (by simp) rfl (by simp) ?_
 rw [JH (by simp [V.plain,J1])]
 simp [j1,j7,J1]
 exact J3 (by simp) (l:=[.agg (J1 R.1),.bool R.2]) (by simp [jm,j1,J1]) rfl rfl
def opAt (h:Hist') (a b:Int):Option Op' :=
 if X9 h && (decide (0≤a) && (decide (a<h.ts.length) && (decide (0≤b) && decide (b<((h.ts.getD a.toNat ⟨0,0,true,[]⟩).ops.length:Nat))))) then (h.ts.getD a.toNat ⟨0,0,true,[]⟩).ops[b.toNat]? else none
def op0:Op':=⟨false,0,0,0⟩
theorem ev254 {h:Hist'} (hs:Small h) (a b:Int):Ev E 254 [.agg (j2 h),.agg (jG (a,b))] (.tup [.agg (opC ((opAt h a b).getD op0)),.bool ((opAt h a b).any fun o=>!o.w)]):=by
 have e70:=jpj hs
 have hts:=hs.ts
 refine jT (af:=F254) rfl ?_
 obtain ⟨R,hR⟩:∃ R,opAt h a b=R:=⟨_,rfl⟩
 rw [hR]
 unfold opAt at hR
 simp [F254,j2,j1,jG]
 generalize hK:jlk E noYF (C.seq (C.draw _ _) _) (jym _ _)=K
 have hret:∀ s:St,jym [.cell 4 (some 4),.t 5] (.tup [.agg (opC (R.getD op0)),.bool (R.any fun o=>!o.w)]) .ret s→K .ret s:=fun s h=>by
  rw [← hK,jna]
  exact h
 refine J0 e70 (by simp [j2]) rfl (by simp [j2]) ?_
 cases hm:X9 h
 ·rw [Wp hm]
  rw [hm] at hR
  subst hR
  simp [j1,j7]
  exact hret _ (J3 (by simp) (l:=[.agg (opC op0),.bool false]) (by simp [jm,j1,opC,op0]) rfl rfl)
 rw [hm] at hR
 rw [YP hm]
 by_cases k1:a<0
 ·rw [if_neg (by simp;omega)] at hR
  subst hR
  simp [k1,j1,j7]
  exact hret _ (J3 (by simp) (l:=[.agg (opC op0),.bool false]) (by simp [jm,j1,opC,op0]) rfl rfl)
 by_cases k2:(h.ts.length:Int)≤a
 ·rw [if_neg (by simp;omega)] at hR
  subst hR
  simp [k1,k2,j1,j7]
  exact hret _ (J3 (by simp) (l:=[.agg (opC op0),.bool false]) (by simp [jm,j1,opC,op0]) rfl rfl)
 obtain ⟨i,rfl⟩:∃ i:Nat,a=i:=⟨a.toNat,by omega⟩
 have hi:i<h.ts.length:=by omega
 rw [Int.toNat_natCast,jn hi] at hR
 obtain ⟨t,ht⟩:∃ t,h.ts[i]=t:=⟨_,rfl⟩
 rw [ht] at hR
 have hos:=hs.os t (ht ▸ List.getElem_mem hi)
 have hl3:(h.ts.flatMap ji)[i * 3+2]? = some (jI t.nl opC t.ops):=by
  rw [jb j8 h.ts hi (by decide:2<3),ht];rfl
 by_cases k3:b<0
 ·rw [if_neg (by simp;omega)] at hR
  subst hR
  simp [k1,k2,k3,j1,j7]
  exact hret _ (J3 (by simp) (l:=[.agg (opC op0),.bool false]) (by simp [jm,j1,opC,op0]) rfl rfl)
 by_cases k4:(t.ops.length:Int)≤b
 ·rw [if_neg (by simp;omega)] at hR
  subst hR
  simp [k1,k2,k3,k4,j1,j7,hi,j5 j8,hl3]
  exact hret _ (J3 (by simp) (l:=[.agg (opC op0),.bool false]) (by simp [jm,j1,opC,op0]) rfl rfl)
 obtain ⟨j,rfl⟩:∃ j:Nat,b=j:=⟨b.toNat,by omega⟩
 have hj:j<t.ops.length:=by omega
 rw [if_pos (by simp;omega),Int.toNat_natCast,List.getElem?_eq_getElem hj] at hR
 obtain ⟨o,ho⟩:∃ o,t.ops[j]=o:=⟨_,rfl⟩
 rw [ho] at hR
 subst hR
 have k4':¬ t.ops.length≤j:=by omega
 have k2':¬ h.ts.length≤i:=by omega
 have rest:∀ s:St,s.tm 2 = .ptr 4 0 0→s.tm 3 = .ptr 6 64 0→s.tm 4 = .ptr 8 128 0→s.ob 4=some ⟨0,.cells (j2 h)⟩→s.ob 6=some ⟨64,.cells [.int .i64 i,.int .i64 j]⟩→s.ob 8=some ⟨128,.cells [.bool false,.int .i64 0,.int .i64 0,.int .i64 0]⟩→s.df=[]→s.ro=0→s.fb=0→K .nrm s:=by
  intro s h2 h3 h4 o4 o6 o8 hd hr hf
  rw [← hK,jhn]
  simp [h2,h3,o4,o6,j1,j2,hi,j5 j8,hl3,hj,j5 jH,jX jH,ho,opC,j7,hf,hr]
  refine ⟨by simp [XI,Qo,jfh,jch,rdOb,rdTk,lOf,Delta.wo,Delta.wt];try decide,?_⟩
  simp [h4,o8,j1,hr,j7]
  refine ⟨by simp [XI,Qo,jfh,jch,rdOb,rdTk,lOf,Delta.wo,Delta.wt,h4];try decide,?_⟩
  exact J3 (by simp [hd]) (l:=[.agg (opC o),.bool !o.w]) (by simp [jm,j1,opC,h4]) rfl (by simp [jzk,opC])
 clear hK
 simp [k1,k2,k3,k4,j1,hi,j5 j8,hl3]
 exact rest _ (by simp) (by simp) (by simp) (by simp [j2]) (by simp) (by simp) (by simp) (by simp) (by simp)
def valV (v:Val'):V:=.agg (J1 v)
def XP (g:Hist') (key i:Int):Val':=(Y6 (JE g i).2 key).1
def JX (g:Hist') (a key:Int) (W:List Int):List (Int × Val'):=(W.filter fun i=>!(i == a)).map fun i=>(i,XP g key i)
theorem W2 {p:Txn'→Bool} {ts:List Txn'}:∀ n,n≤ts.length→(∀ x∈numsTo p ts n,0≤x∧x<n)∧(numsTo p ts n).Pairwise (· < ·)
 | 0,_=>by simp [numsTo]
 | n+1,h=>by
  have ih:=W2 (p:=p) (ts:=ts) n (by omega)
  have e:=JI (p:=p) (show n<ts.length by omega)
  rw [e]
  cases hp:p ts[n]
  ·simp only [Bool.false_eq_true,if_false,List.append_nil]
   exact ⟨fun x hx=>by have:=ih.1 x hx;omega,ih.2⟩
  ·simp only [if_true]
   refine ⟨fun x hx=>?_,?_⟩
   ·rcases List.mem_append.1 hx with h | h
    ·have:=ih.1 x h;omega
    ·rw [List.mem_singleton] at h;omega
   ·rw [List.pairwise_append]
    refine ⟨ih.2,List.pairwise_singleton _ _,fun x hx y hy=>?_⟩
    rw [List.mem_singleton] at hy
    have:=ih.1 x hx
    omega
theorem jv3 {α:Type} {m:List (Int × α)} {k:Int} {a:α} (h:k ∉ m.map (·.1)):mset m k a=m++[(k,a)]:=by
 unfold mset
 rw [mfind_none.2 h]
theorem jhb {g:Hist'} {a key:Int} {W:List Int} {i:Nat} (hi:i<W.length):JX g a key (W.take (i+1))=JX g a key (W.take i)++(if W[i]=a then [] else [(W[i],XP g key W[i])]):=by
 unfold JX
 rw [List.take_succ_eq_append_getElem hi,List.filter_append,List.map_append]
 by_cases h:W[i]=a <;> simp [h]
theorem jiz {g:Hist'} {a key:Int} {W:List Int} (hW:W.Pairwise (· < ·)) {i:Nat} (hi:i<W.length):W[i] ∉ (JX g a key (W.take i)).map (·.1):=by
 intro h
 unfold JX at h
 rw [List.map_map] at h
 obtain ⟨x,hx,he⟩:=List.mem_map.1 h
 have hx':=(List.mem_filter.1 hx).1
 simp only [Function.comp] at he
 obtain ⟨j,hj,rfl⟩:=List.getElem_of_mem hx'
 rw [List.length_take] at hj
 rw [List.getElem_take] at he
 have:=List.pairwise_iff_getElem.1 hW j i (by omega) hi (by omega)
 omega
def OthR (g:Hist') (a key:Int) (W:List Int) (ob:ZO) (ub:Nat) (r:V × (ZO) × (Nat→Bool) × Nat):Prop :=
 ∃ M U ver:Nat,r.1 = .map (2 * M+1) U∧ub≤M∧M<r.2.2.2∧ub≤U∧r.2.1 (2 * M+1)=some ⟨U,.mp ver (MP valV (JX g a key W))⟩∧(∀ k,(∀ m,ub≤m→k≠2 * m+1)→r.2.1 k=ob k)∧ub≤r.2.2.2
theorem sv255 {Yf:YF} {g:Hist'} (hs:Small g) (hm:X9 g=true) (a key:Int) {ob:ZO} {tk:Nat→Bool} {ro base ub:Nat} (hru:ro≤ub) :
 ∃ r,EvS E Yf.y 255 [.agg (j2 g),.int .i64 a,.int .i64 key] ob tk ro base ub r∧OthR g a key (writersH g key) ob ub r:=by
 refine Qb (af:=S255) rfl (by decide) ?_
 show wpC E Yf S255.body _ (WU S255.res _)
 obtain ⟨vw,e72,hv⟩:=ev281 hs hm key
 obtain ⟨W,hW⟩:∃ W,writersH g key=W:=⟨_,rfl⟩
 have hWl:W.length≤1000:=by have h1:=JF (wrB key) g.ts g.ts.length;have h2:=hs.ts;rw [← hW];unfold writersH;omega
 have hWp:W.Pairwise (· < ·):=by rw [← hW];exact (W2 _ (Nat.le_refl _)).2
 rw [hW] at hv ⊢
 have n1:¬ 2 * ub=2 * (ub+64+64):=by omega
 have n2:¬ 2 * (ub+64+64)=2 * ub:=by omega
 simp [S255,j2,j1,n1]
 refine jV e72 (by simp [j2]) rfl (by simp [j2]) ?_
 obtain ⟨nl,hv⟩:=hv
 obtain ⟨t,add,hret⟩:=jky (ub:=ub+64+64+64+64+64+64) hv
 rw [hret]
 simp
 refine JV fun st hst=>?_
 obtain ⟨M,hM⟩:∃ M,M=ub+64+64:=⟨_,rfl⟩
 have g1:st.tm 1 = .int .i64 a:=by rw [hst];simp
 have g2:st.tm 2 = .int .i64 key:=by rw [hst];simp
 have g3:st.tm 3 = .ptr (2 * ub+1) ub 0:=by rw [hst];simp
 have g7:st.tm 7 = .map (2 * M+1) M:=by rw [hst,hM];simp
 have g13:st.tm 13 = .sl t nl W.length (W.flatMap intC):=by rw [hst];simp
 have g14:st.tm 14 = .int .i64 W.length:=by rw [hst];simp
 have g15:st.tm 15 = .int .i64 0:=by rw [hst];simp
 have gd:st.df=[]:=by rw [hst];simp
 have gr:st.ro=ro:=by rw [hst];simp
 have gn:M<st.nx:=by rw [hst,hM];simp
 have ph:st.ob (2 * ub+1)=some ⟨ub,.cells (j2 g)⟩:=by rw [hst];simp [n1,j2]
 have pm:st.ob (2 * M+1)=some ⟨M,.mp 0 []⟩:=by rw [hst,hM];simp
 have pf:∀ k,(∀ m,ub≤m→k≠2 * m+1)→st.ob k=ob k:=by
  intro k hk
  have h1:=hk ub (by omega)
  have h2:=hk (ub+64+64) (by omega)
  rw [hst];simp [h1,h2]
 clear hst hret
 have hMu:ub<M:=by omega
 clear hM n1 n2
 refine jE [(9,9),(15,31)] W.length (fun i s=>s.tm 15 = .int .i64 i∧M<s.nx∧s.ob (2 * ub+1)=some ⟨ub,.cells (j2 g)⟩∧(∀ k,(∀ m,ub≤m→k≠2 * m+1)→s.ob k=ob k)∧∃ ver,s.ob (2 * M+1)=some ⟨M,.mp ver (MP valV (JX g a key (W.take i)))⟩) rfl rfl
  ⟨by simp [g15],gn,ph,pf,0,by simp [pm,JX,MP]⟩ ?_
 rintro i s hi ⟨h15,hn,oh,of,ver,om⟩ f
 have f1:s.tm 1 = .int .i64 a:=by rw [f.t 1 (by simp),g1]
 have f2:s.tm 2 = .int .i64 key:=by rw [f.t 2 (by simp),g2]
 have f3:s.tm 3 = .ptr (2 * ub+1) ub 0:=by rw [f.t 3 (by simp),g3]
 have f7:s.tm 7 = .map (2 * M+1) M:=by rw [f.t 7 (by simp),g7]
 have f13:s.tm 13 = .sl t nl W.length (W.flatMap intC):=by rw [f.t 13 (by simp),g13]
 have f14:s.tm 14 = .int .i64 W.length:=by rw [f.t 14 (by simp),g14]
 have fd:s.df=[]:=by rw [f.d,gd]
 have fr:s.ro=ro:=by rw [f.r,gr]
 clear f
 by_cases hlt:i<W.length
 ·have hw:=jz hlt (by omega)
  obtain ⟨x,hx⟩:∃ x,W[i]=x:=⟨_,rfl⟩
  have hI:JL 1 (.sl t nl W.length (W.flatMap intC)) (.int .i64 (i:Int))=some (.eptr (W.flatMap intC) i):=by
   simp [JL,hlt,jA jF]
  have hLd:∀ ob,Yb ob none (.eptr (W.flatMap intC) i)=some (.int .i64 x):=fun ob=>by
   have h:=jb jF W hlt (by decide:0<1)
   rw [hx,Nat.mul_one,Nat.add_zero] at h
   rw [jbp]
   simpa [Y5,intC] using h
  have hsn:=jhb (g:=g) (a:=a) (key:=key) hlt
  have hnw:=jiz (g:=g) (a:=a) (key:=key) hWp hlt
  rw [hx] at hsn hnw
  by_cases hxa:x=a
  ·rw [if_pos hxa,List.append_nil] at hsn
   subst hxa
   simp [h15,f13,f14,hlt,hI,hLd,f1,hw]
   exact ⟨by omega,oh,of,ver,by rw [hsn];exact om⟩
  ·rw [if_neg hxa] at hsn
   have hxa':(x != a)=true:=by simpa using hxa
   have e116:=j9d hs x key
   simp [h15,f13,f14,hlt,hI,hLd,f1,hxa',f2,f3,oh,j1,f7,j2]
   refine jV e116 (by simp [j2]) rfl (by simp [j2]) ?_
   rw [JH (by simp [V.plain,J1])]
   have hlv:valV (Y6 (JE g x).2 key).1=valV (XP g key x):=rfl
   simp
   refine W6 (f:=valV) (a:=XP g key x) (ver:=ver) (l:=2 * M+1) (u:=M) (k:=x) (JX g a key (W.take i)) (by simp) (by simp) (by simp [valV,XP,J1]) (by simpa using om) (by simp [fr];omega) ?_
   rw [jv3 hnw,← hsn]
   have nM:¬ 2 * ub+1=2 * M+1:=by omega
   have nM':¬ 2 * ub=2 * M:=by omega
   simp [h15,hw,nM',oh,j2]
   refine ⟨hlt,by omega,fun k hk=>?_⟩
   have:=hk M (by omega)
   rw [if_neg this]
   exact of k hk
 ·have:i=W.length:=by omega
  subst this
  rw [List.take_length] at om
  simp [h15,f14,f7]
  exact Wc (by simp [fd]) ⟨M,M,ver,by simp,by omega,by simp;omega,by omega,by simpa using om,by simpa using of,by simp;omega⟩
end Go.Pv.T
