/- Looking through slices; an observer's round of a predicate. -/
import Derived.Test.YtopjfnbonjmnjaaGreatDoorWhC
import Derived.Laws.BitsLemmas
import Derived.Lib.ValidLaws
import Derived.Laws.Bits64
import Derived.Sort.AssemblyPlain
namespace Go.Pv.T
open Go Go.Pv
@[simp] theorem startS_tm (args:List V) (ob:Nat→Option Obj') (tk:Nat→Bool) (ro base ub n:Nat):(startS args ob tk ro base ub).tm n=args.getD n none':=rfl
@[simp] theorem startS_ob (args:List V) (ob:Nat→Option Obj') (tk:Nat→Bool) (ro base ub:Nat):(startS args ob tk ro base ub).ob=ob:=rfl
@[simp] theorem startS_tk (args:List V) (ob:Nat→Option Obj') (tk:Nat→Bool) (ro base ub:Nat):(startS args ob tk ro base ub).tk=tk:=rfl
@[simp] theorem startS_ro (args:List V) (ob:Nat→Option Obj') (tk:Nat→Bool) (ro base ub:Nat):(startS args ob tk ro base ub).ro=ro:=rfl
@[simp] theorem startS_nx (args:List V) (ob:Nat→Option Obj') (tk:Nat→Bool) (ro base ub:Nat):(startS args ob tk ro base ub).nx=ub:=rfl
@[simp] theorem startS_fb (args:List V) (ob:Nat→Option Obj') (tk:Nat→Bool) (ro base ub:Nat):(startS args ob tk ro base ub).fb=base:=rfl
@[simp] theorem startS_df (args:List V) (ob:Nat→Option Obj') (tk:Nat→Bool) (ro base ub:Nat):(startS args ob tk ro base ub).df=[]:=rfl
theorem wrap64' {n:Int} (h:-9223372036854775808≤n) (h':n≤9223372036854775807):IntKind.i64.wrap n=n:=by
 rw [IntKind.wrap_i64];omega
section
variable {α:Type} {f:α→List V} {k:Nat}
theorem flatMap_len (hf:∀ a,(f a).length=k):∀ (l:List α),(l.flatMap f).length=l.length * k
 | []=>by simp
 | a::l=>by rw [List.flatMap_cons,List.length_append,hf,flatMap_len hf l,List.length_cons,Nat.succ_mul];omega
theorem flatMap_at (hf:∀ a,(f a).length=k):∀ (l:List α) (i:Nat) (h:i<l.length),((l.flatMap f).drop (i * k)).take k=f l[i]
 | a::l,0,_=>by rw [List.flatMap_cons,Nat.zero_mul,List.drop_zero,List.take_append_of_le_length (by rw [hf];omega),List.take_of_length_le (by rw [hf];omega)];rfl
 | a::l,i+1,h=>by
  rw [List.flatMap_cons,Nat.succ_mul,List.drop_append,List.drop_of_length_le (by rw [hf];omega),List.nil_append,hf,Nat.add_sub_cancel]
  exact flatMap_at hf l i (by simpa using h)
theorem idx_slOf (hf:∀ a,(f a).length=k) (nl:Bool) (l:List α) (kk:IntKind) {i:Nat} (h:i<l.length):idxSlV k (slOf nl f l) (.int kk i)=some (.eptr (l.flatMap f) (i * k)):=by
 simp only [slOf,idxSlV_sl,flatMap_len hf]
 rw [if_pos (by simp;omega)]
 rfl
theorem load_slOf (hf:∀ a,(f a).length=k) (ob:Nat→Option Obj') (l:List α) {i:Nat} (h:i<l.length):loadV ob (some k) (.eptr (l.flatMap f) (i * k))=some (.agg (f l[i])):=by
 have:i * k+k≤l.length * k:=by rw [← Nat.succ_mul];exact Nat.mul_le_mul_right k h
 rw [loadV_e,pick1_some,if_pos (by rw [flatMap_len hf];exact this),flatMap_at hf l i h]
end
@[simp] theorem txnC_len (t:Txn'):(txnC t).length=3:=rfl
@[simp] theorem opC_len (t:Op'):(opC t).length=4:=rfl
@[simp] theorem strC_len (t:List UInt8):(strC t).length=1:=rfl
theorem kS_callVO {E:Env} {Yf:YF} {q:A} {xs:List A} {st:St} {ub:Nat} {K:St→Nat→Prop} {d:Option Nat} {nm:Bool} {f:FuncId} {first captured:List V} (hq:eval E st.tm q = .fn (.func f) first captured) (hs:E.sh nm f=false)
 (hp:((first++xs.map (eval E st.tm)++captured).all fun v=>v.strip.pureTop)=false) {v:V} (hv:EvO E f (first++xs.map (eval E st.tm)++captured) st.ob st.tk ((st.fb+d.getD 0+1) * 1024) ub v) (h:wpD (retA ub v) (kApp K st d ub)) :
 wpStep E Yf ⟨d,.callV q xs,none,nm⟩ st ub K:=by
 have hsh:sharedCall E nm (eval E st.tm) (.callV q xs)=some (f,first++xs.map (eval E st.tm)++captured):=by simp only [sharedCall,hq,hs,hp,Bool.not_false,Bool.true_and,Bool.false_eq_true,if_false]
 simp only [wpStep,wanted,yieldCall,hq,hsh]
 obtain ⟨δ,hδ,hK⟩:=h
 exact .inr ⟨hs,v,hv,δ,hδ,hK⟩
theorem kS_callO {E:Env} {Yf:YF} {f:FuncId} {xs:List A} {st:St} {ub:Nat} {K:St→Nat→Prop} {d:Option Nat} {nm:Bool} {vs:List V} (hx:xs.map (eval E st.tm)=vs) (hs:E.sh nm f=false) (hp:(vs.all fun v=>v.strip.pureTop)=false) {v:V}
 (hv:EvO E f vs st.ob st.tk ((st.fb+d.getD 0+1) * 1024) ub v) (h:wpD (retA ub v) (kApp K st d ub)):wpStep E Yf ⟨d,.call f xs,none,nm⟩ st ub K :=
 wpS_callO hs (by rw [hx];exact hp) ⟨v,by rw [hx];exact hv,h⟩
theorem EvO_wpK {E:Env} {f:FuncId} {af:AF} {args:List V} {ob:Nat→Option Obj'} {tk:Nat→Bool} {base ub:Nat} {r:V} (hf:E.fs f=some af) (h:wpC E noYF af.body (startS args ob (fun _=>false) ub base ub) (kEnd af.res r)) (hz:E.fz f=false:=by rfl):EvO E f args ob tk base ub r:=EvO_wp hf h hz
def HistAt (h:Hist') (ob:Nat→Option Obj') (l u:Nat):Prop:=l % 2=0∧ob l=some ⟨u,.cells (histC h)⟩
theorem ev109 {h:Hist'} {ob:Nat→Option Obj'} {l u:Nat} (hh:HistAt h ob l u) (t:Txn') (tk:Nat→Bool) (base ub:Nat):EvO E 109 [.agg (txnC t),.ptr l u 0] ob tk base ub (.bool (!txnB h t)):=by
 obtain ⟨h2,ho⟩:=hh
 refine EvO_wpK (af:=S109) rfl ?_
 have hne:¬ l=2 * ub+1:=by omega
 simp [S109,objCells,hne,ho,txnC,histC]
 refine kS_call (vs:=[.agg (histC h),.agg (txnC t)]) (by simp [histC,txnC]) rfl (by simp [histC,txnC]) (by simpa [histC,txnC] using ev110 h t) ?_
 simp
 exact endV_1 rfl (by simp) rfl
def firstI {α:Type} (p:α→Bool) (l:List α):Int:=match l.findIdx? p with
 | some i=>i
 | none=>-1
theorem firstI_found {α:Type} {p:α→Bool} {l:List α} {i:Nat} (h:i<l.length) (hn:p l[i]=true) (hb:∀ j (hj:j<l.length),j<i→p l[j]=false):firstI p l=i:=by
 unfold firstI
 have:l.findIdx? p=some i:=by
  rw [List.findIdx?_eq_some_iff_getElem]
  exact ⟨h,hn,fun j hj=>by rw [hb j (by omega) hj];decide⟩
 rw [this]
theorem firstI_none {α:Type} {p:α→Bool} {l:List α} (hb:∀ j (hj:j<l.length),p l[j]=false):firstI p l = -1:=by
 unfold firstI
 have:l.findIdx? p=none:=by
  rw [List.findIdx?_eq_none_iff]
  intro x hx
  obtain ⟨j,hj,e⟩:=List.getElem_of_mem hx
  rw [← e]
  exact hb j hj
 rw [this]
theorem firstI_any {α:Type} (p:α→Bool) (l:List α):decide (0≤firstI p l)=l.any p:=by
 unfold firstI
 cases h:l.findIdx? p with
 | none =>
  rw [List.findIdx?_eq_none_iff] at h
  simp
  intro x hx
  simpa using h x hx
 | some i =>
  rw [List.findIdx?_eq_some_iff_getElem] at h
  obtain ⟨hi,hp,_⟩:=h
  simp
  exact ⟨_,List.getElem_mem hi,hp⟩
theorem ev154 {p:Txn'→Bool} {g:FuncId} {cap:V} {ob:Nat→Option Obj'} (hs:E.sh true g=false) (hcap:cap.strip.pureTop=false) (hp:∀ (t:Txn') (tk:Nat→Bool) (base ub:Nat),EvO E g [.agg (txnC t),cap] ob tk base ub (.bool (p t)))
 (nl:Bool) (l:List Txn') (hl:l.length≤140737488355328) (tk:Nat→Bool) (base ub:Nat):EvO E 154 [slOf nl txnC l,.fn (.func g) [] [cap]] ob tk base ub (.int .i64 (firstI p l)):=by
 refine EvO_wpK (af:=S154) rfl ?_
 simp [S154]
 refine wp_loopK (n:=l.length) (fun k s=>∃ i,k=l.length - i∧i≤l.length∧s.df=[]∧s.ob=ob∧s.tm 0=slOf nl txnC l∧s.tm 1 = .fn (.func g) [] [cap]∧s.tm 7 = .int .i64 l.length∧s.tm 8 = .int .i64 i∧∀ j (hj:j<l.length),j<i→p l[j]=false)
  ⟨0,by simp⟩ ?_
 rintro k s ⟨i,rfl,hi,hd,ho,h0,h1,h7,h8,hb⟩
 by_cases hlt:i<l.length
 ·simp [h0,h1,h7,h8,hlt,idx_slOf txnC_len,load_slOf txnC_len]
  refine kS_callVO (f:=g) (first:=[]) (captured:=[cap]) (by simp) hs (by simp [hcap]) (v:=.bool (p l[i])) (by simpa [ho] using hp l[i] _ _ _) ?_
  cases hpi:p l[i]
  ·simp [h0,h1,h7,h8,hd]
   refine ⟨l.length - (i+1),by omega,i+1,rfl,by omega,ho,by rw [wrap64' (by omega) (by omega)];simp,?_⟩
   intro j hj hji
   rcases Nat.lt_succ_iff_lt_or_eq.1 hji with h | rfl
   ·exact hb j hj h
   ·exact hpi
  ·simp
   refine endV_1 (by simpa using hd) ?_ rfl
   simp
   rw [firstI_found hlt hpi hb]
 ·have:i=l.length:=by omega
  subst this
  simp [h7,h8]
  refine endV_1 (by simpa using hd) ?_ rfl
  simp [firstI_none (fun j hj=>hb j hj hj)]
theorem ev108 {p:Txn'→Bool} {g:FuncId} {ob:Nat→Option Obj'} {a b c:Nat} (hs:E.sh true g=false) (hp:∀ (t:Txn') (tk:Nat→Bool) (base ub:Nat),EvO E g [.agg (txnC t),.ptr a b c] ob tk base ub (.bool (p t)))
 (nl:Bool) (l:List Txn') (hl:l.length≤140737488355328) (tk:Nat→Bool) (base ub:Nat):EvO E 108 [slOf nl txnC l,.fn (.func g) [] [.ptr a b c]] ob tk base ub (.bool (l.any p)):=by
 refine EvO_wpK (af:=S108) rfl ?_
 simp [S108]
 refine kS_callO (vs:=[slOf nl txnC l,.fn (.func g) [] [.ptr a b c]]) (by simp) rfl rfl (ev154 hs rfl hp nl l hl _ _ _) ?_
 simp
 exact endV_1 rfl (by simp [firstI_any]) rfl
end Go.Pv.T

/- The walk through all ops of a history, whoever is yielded to. -/
namespace Go.Pv.T
open Go Go.Pv
def Fr (ub:Nat) (ob ob':Nat→Option Obj'):Prop:=∀ key,(∀ m,ub≤m→key≠2 * m+1)→ob' key=ob key
theorem Fr.refl (ub:Nat) (ob:Nat→Option Obj'):Fr ub ob ob:=fun _ _=>rfl
def kEndS (res:List ARes) (P:V × (Nat→Option Obj') × (Nat→Bool) × Nat→Prop):Ex→St→Prop:=fun e s=>∃ r,endS res (e,s)=some r∧P r
theorem app_tk0 (st:St) (d:Option Nat) (v:V) (obs:List (Nat × Obj')):(st.app d { v:=v,obs:=obs }).tk=st.tk:=by
 funext u
 simp [app_tk]
theorem Fr.two {ub m:Nat} {ob ob':Nat→Option Obj'} (h:∀ key,key≠2 * m+1→ob' key=ob key) (hm:ub≤m):Fr ub ob ob':=fun key hk=>h key (hk m hm)
theorem step_gen {E:Env} {Yf:YF} {o:AOpr} {st:St} {ub:Nat} {K:St→Nat→Prop} (h:∀ s',s'=st→wpStep E Yf o s' ub K):wpStep E Yf o st ub K:=h st rfl
theorem run146 {Yf:YF} (h:Hist') (hn:h.ts.length≤1000) (hm:∀ t∈h.ts,t.ops.length≤1000000) {l u lh uh:Nat} {ob0:Nat→Option Obj'} {tk0:Nat→Bool} {ro base ub0:Nat} (hh:ob0 lh=some ⟨uh,.cells (histC h)⟩) (hro:ro≤ub0)
 (J:Nat→Nat→(Nat→Option Obj')→(Nat→Bool)→Nat→Prop) (P:V × (Nat→Option Obj') × (Nat→Bool) × Nat→Prop)
 (hfr:∀ i k ob ob' tk ub ub',J i k ob tk ub→ub≤ub'→Fr ub ob ob'→J i k ob' tk ub')
 (hnext:∀ i (hi:i<h.ts.length) ob tk ub,J i (h.ts[i]).ops.length ob tk ub→J (i+1) 0 ob tk ub)
 (hstep:∀ i (hi:i<h.ts.length) k (hk:k<(h.ts[i]).ops.length) ob tk ub,J i k ob tk ub→ro≤ub→∃ r,EvY Yf l u [.agg [.int .i64 i,.int .i64 k],.agg (opC (h.ts[i]).ops[k])] ob tk ro ub r∧ro≤r.2.2.2 ∧
  ((r.1 = .bool true∧J i (k+1) r.2.1 r.2.2.1 r.2.2.2)∨(r.1 = .bool false∧∀ ob' ub',r.2.2.2≤ub'→Fr r.2.2.2 r.2.1 ob'→P (.tup [],ob',r.2.2.1,ub'))))
 (hend:∀ ob tk ub,J h.ts.length 0 ob tk ub→P (.tup [],ob,tk,ub))
 (h0:J 0 0 ob0 tk0 ub0):∃ r,EvS E Yf.y 146 [.yld l u,.ptr lh uh 0] ob0 tk0 ro base ub0 r∧P r:=by
 refine EvS_wp (af:=S146) rfl (by decide) ?_
 show wpC E Yf S146.body _ (kEndS S146.res P)
 simp [S146,objCells,hh,histC]
 refine wp_loopK (n:=h.ts.length) (fun k s=>∃ i,k=h.ts.length - i∧i≤h.ts.length∧s.df=[]∧s.fb=base∧s.ro=ro∧ro≤s.nx∧s.tm 0 = .yld l u∧s.tm 8=slOf h.tn txnC h.ts∧s.tm 9 = .int .i64 h.ts.length∧s.tm 10 = .int .i64 i∧J i 0 s.ob s.tk s.nx)
  ⟨0,by simp;exact ⟨by omega,hfr _ _ _ _ _ _ _ h0 (by omega) (Fr.refl _ _)⟩⟩ ?_
 rintro k s ⟨i,rfl,hi,hd,hfb,hsr,hnx,h0,h8,h9,h10,hJ⟩
 by_cases hlt:i<h.ts.length
 ·simp [h8,h9,h10,hlt,idx_slOf txnC_len,load_slOf txnC_len,txnC,objCells,hsr]
  refine ⟨by omega,?_⟩
  refine wp_loopK (n:=(h.ts[i]).ops.length) (fun k s=>∃ j,k=(h.ts[i]).ops.length - j∧j≤(h.ts[i]).ops.length∧s.df=[]∧s.fb=base∧s.ro=ro∧ro≤s.nx∧s.tm 0 = .yld l u∧s.tm 8=slOf h.tn txnC h.ts∧s.tm 9 = .int .i64 h.ts.length∧s.tm 10 = .int .i64 i ∧
   s.tm 3 = .int .i64 i∧s.tm 16=slOf (h.ts[i]).nl opC (h.ts[i]).ops∧s.tm 17 = .int .i64 (h.ts[i]).ops.length∧s.tm 18 = .int .i64 j∧J i j s.ob s.tk s.nx) ⟨0,?_⟩ ?_
  ·simp [hd,hfb,hsr,h0,h8,h9,h10]
   refine ⟨by omega,?_⟩
   rw [app_tk0,setT_tk,app_tk0]
   refine hfr _ _ _ _ _ _ _ hJ (by omega:s.nx≤_) (Fr.two (m:=s.nx+64+64+64+64) (fun key hk=>?_) (by omega))
   simp [hk]
  clear hd hfb hsr hnx h0 h8 h9 h10 hJ s
  rintro k s ⟨j,rfl,hj,hd,hfb,hsr,hnx,h0,h8,h9,h10,h3,h16,h17,h18,hJ⟩
  by_cases hjt:j<(h.ts[i]).ops.length
  ·simp [h0,h3,h16,h17,h18,hjt,idx_slOf opC_len,load_slOf opC_len,opC,objCells,hsr,splice]
   refine ⟨by omega,step_gen fun s' hs'=>?_⟩
   have e23:s'.tm 23 = .yld l u:=by rw [hs'];simp
   have e26:s'.tm 26 = .agg [.int .i64 i,.int .i64 j]:=by rw [hs'];simp
   have e27:s'.tm 27 = .agg (opC (h.ts[i]).ops[j]):=by rw [hs'];simp [opC]
   have e0:s'.tm 0 = .yld l u:=by rw [hs'];simp [h0]
   have e8:s'.tm 8=slOf h.tn txnC h.ts:=by rw [hs'];simp [h8]
   have e9:s'.tm 9 = .int .i64 h.ts.length:=by rw [hs'];simp [h9]
   have e10:s'.tm 10 = .int .i64 i:=by rw [hs'];simp [h10]
   have e3:s'.tm 3 = .int .i64 i:=by rw [hs'];simp [h3]
   have e16:s'.tm 16=slOf (h.ts[i]).nl opC (h.ts[i]).ops:=by rw [hs'];simp [h16]
   have e17:s'.tm 17 = .int .i64 (h.ts[i]).ops.length:=by rw [hs'];simp [h17]
   have e18:s'.tm 18 = .int .i64 j:=by rw [hs'];simp [h18]
   have ed:s'.df=[]:=by rw [hs'];simp [hd]
   have ef:s'.fb=base:=by rw [hs'];simp [hfb]
   have er:s'.ro=ro:=by rw [hs'];simp [hsr]
   have et:s'.tk=s.tk:=by rw [hs'];simp only [setT_tk,setN_tk,app_tk0]
   have eo:Fr s.nx s.ob s'.ob:=by
    rw [hs']
    exact Fr.two (m:=s.nx+64+64+64+64) (fun key hk=>by simp [hk]) (by omega)
   clear hs'
   obtain ⟨r,hr,hru,hcase⟩:=hstep i hlt j hjt s'.ob s.tk (s.nx+64+64+64+64+64+64+64+64+64+64+64+64) (hfr _ _ _ _ _ _ _ hJ (by omega) eo) (by omega)
   refine wpS_yield (l:=l) (u:=u) (by simpa using e23) ⟨r,by simpa [e26,e27,et,er] using hr,?_⟩
   rcases hcase with ⟨hr1,hJ2⟩ | ⟨hr1,hP⟩
   ·simp [hr1,put,upd_apply,e18]
    have hb:=hm h.ts[i] (List.getElem_mem hlt)
    refine ⟨(h.ts[i]).ops.length - (j+1),by omega,j+1,rfl,by omega,ed,ef,er,by omega,e0,e8,e9,e10,e3,e16,e17,by rw [wrap64' (by omega) (by omega)];simp,?_⟩
    exact hfr _ _ _ _ _ _ _ hJ2 (by omega) (Fr.refl _ _)
   ·simp [hr1,put]
    refine ⟨(.tup [],r.2.1,r.2.2.1,r.2.2.2+64),?_,hP _ _ (by omega) (Fr.refl _ _)⟩
    simp [endS,ed]
  ·have:j=(h.ts[i]).ops.length:=by omega
   subst this
   have hJ':=hnext i hlt _ _ _ hJ
   simp [h17,h18,h0,h8,h9,h10,hd,hfb,hsr]
   refine ⟨h.ts.length - (i+1),by omega,i+1,rfl,by omega,by omega,by rw [wrap64' (by omega) (by omega)];simp,?_⟩
   exact hfr _ _ _ _ _ _ _ hJ' (by omega) (Fr.refl _ _)
 ·have:i=h.ts.length:=by omega
  subst this
  simp [h9,h10]
  refine ⟨(.tup [],s.ob,s.tk,s.nx+64),?_,hend _ _ _ (hfr _ _ _ _ _ _ _ hJ (Nat.le_add_right _ _) (Fr.refl _ _))⟩
  simp [endS,hd]
end Go.Pv.T

/- The range of hist.May. -/
namespace Go.Pv.T
open Go Go.Pv
theorem kS_callS {E:Env} {Yf:YF} {f:FuncId} {xs:List A} {st:St} {ub:Nat} {K:St→Nat→Prop} {d:Option Nat} {nm:Bool} {vs:List V} (hx:xs.map (eval E st.tm)=vs) (hs:E.sh nm f=true)
 (h:∃ r,EvS E Yf.y f vs st.ob st.tk st.ro ((st.fb+d.getD 0+1) * 1024) ub r∧K { st with tm:=put st.tm d r.1,ob:=r.2.1,tk:=r.2.2.1 } r.2.2.2):wpStep E Yf ⟨d,.call f xs,none,nm⟩ st ub K:=by
 have hsh:sharedCall E nm (eval E st.tm) (.call f xs)=some (f,vs):=by simp only [sharedCall,hs,hx,Bool.not_true,Bool.false_and,Bool.false_eq_true,if_false]
 simp only [wpStep,wanted,yieldCall,hsh]
 obtain ⟨r,hr,hK⟩:=h
 exact .inl ⟨hs,r,hr,hK⟩
theorem ev102 {Yf:YF} (h:Hist') (ob:Nat→Option Obj') (tk:Nat→Bool) (ro base ub:Nat):∃ r,EvS E Yf.y 102 [.agg (histC h)] ob tk ro base ub r ∧
 r.1 = .fn (.func 146) [] [.ptr (2 * ub+1) ub 0]∧(∀ key,r.2.1 key=if key=2 * ub+1 then some ⟨ub,.cells (histC h)⟩ else ob key)∧r.2.2.1=tk∧r.2.2.2=ub+256:=by
 refine EvS_wp (af:=S102) rfl (by decide) ?_
 show wpC E Yf S102.body _ (kEndS S102.res _)
 simp [S102,histC]
 refine ⟨(.fn (.func 146) [] [.ptr (2 * ub+1) ub 0],_,_,_),rfl,?_⟩
 simp [app_tk0]
def opsOf (h:Hist'):List Op':=h.ts.flatMap (·.ops)
def goodTo (h:Hist') (i k:Nat):Prop:=∀ i' (hi:i'<h.ts.length) k' (hk:k'<(h.ts[i']).ops.length),(i'<i∨i'=i∧k'<k)→opB h (h.ts[i']).ops[k']=true
def AS70:C:=.region [
 ⟨(some 4),.alloc [(.bool false),(.int .i64 0),(.int .i64 0),(.int .i64 0)],none,false⟩,
 ⟨none,.store 4 (.t 4) (.t 17),none,false⟩]
def BD70:C:=.block 1 (.seq (.region [
            ⟨(some 18),.load (some 3) (.t 1),none,false⟩,
            ⟨(some 19),.load (some 4) (.t 4),none,false⟩,
            ⟨(some 20),.call 111 [(.t 18),(.t 19)],none,false⟩,
            ⟨(some 21),.un .not (.t 20),none,false⟩])
 (.cond (.t 21) (.seq (.region [
  ⟨none,.store 1 (.t 2) (.c (.int .i64 4)),none,false⟩])
  (.ret))
  (.skip)))
theorem goodTo_all {h:Hist'} (hg:goodTo h h.ts.length 0):(opsOf h).all (opB h)=true:=by
 rw [List.all_eq_true]
 intro o ho
 obtain ⟨t,ht,hot⟩:=List.mem_flatMap.1 ho
 obtain ⟨i,hi,rfl⟩:=List.getElem_of_mem ht
 obtain ⟨k,hk,rfl⟩:=List.getElem_of_mem hot
 exact hg i hi k hk (Or.inl hi)
theorem wpC_gen {E:Env} {Yf:YF} {c:C} {st:St} {Q:Ex→St→Prop} (h:∀ s',s'=st→wpC E Yf c s' Q):wpC E Yf c st Q:=h st rfl
theorem away {l k:Nat} (ob:Nat→Option Obj') (h:k≠l):(if Nat.beq l k then none else ob k)=ob k:=by
 cases hb:Nat.beq l k with
 | false=>rfl
 | true=>exact absurd (Nat.eq_of_beq_eq_true hb).symm h
theorem range70 (h:Hist') (hn:h.ts.length≤1000) (hm:∀ t∈h.ts,t.ops.length≤1000000) {st:St} {lh uh:Nat} (U:Nat) (hU:st.nx=U) (hU0:64≤U) (h15:st.tm 15 = .fn (.func 146) [] [.ptr lh uh 0]) (hl:∃ m,lh=2 * m+1∧m<U)
 (h1:st.tm 1 = .ptr 2 0 0) (h2:st.tm 2 = .ptr 4 64 0) (hro:st.ro=0) (hfb:st.fb=0) (o2:st.ob 2=some ⟨0,.cells (histC h)⟩) (o4:st.ob 4=some ⟨64,.cells [.int .i64 0]⟩) (oh:st.ob lh=some ⟨uh,.cells (histC h)⟩) {Q:Ex→St→Prop}
 (hQ:∀ (e:Ex) (ob:Nat→Option Obj') (tk:Nat→Bool) (ub:Nat) (c:Int),ob 2=some ⟨0,.cells (histC h)⟩→ob 4=some ⟨64,.cells [.int .i64 c]⟩→ob (2 * U+3)=some ⟨U+1,.dfr⟩→U+64≤ub →
  ((opsOf h).all (opB h)=true∧e = .nrm∧c=0∨(opsOf h).all (opB h)=false∧e = .ret∧c=4)→Q e { st with ob:=ob,tk:=tk,nx:=ub,df:=(2 * U+3,U+1)::st.df }) :
 wpC E noYF (.rangeFunc (.t 15) [16,17] AS70 BD70) st Q:=by
 obtain ⟨m,rfl,hmU⟩:=hl
 subst hU
 refine wpC_rangeFunc (g:=146) (first:=[]) (captured:=[.ptr (2 * m+1) uh 0]) (by simpa using h15) ?_
 have:=run146 (Yf:=roundF E noYF AS70 BD70 st [16,17] (2 * st.nx+1) st.nx) h hn hm (l:=2 * st.nx+1) (u:=st.nx) (lh:=2 * m+1) (uh:=uh)
  (ob0:=upd (upd st.ob (2 * st.nx+3) (some ⟨st.nx+1,.dfr⟩)) (2 * st.nx+1) (some ⟨st.nx,.loop .ready none⟩)) (tk0:=st.tk) (ro:=st.ro) (base:=(st.fb+1023) * 1024) (ub0:=st.nx+64)
  (by have e1:¬ 2 * m+1=2 * st.nx+1:=by omega
      have e2:¬ 2 * m+1=2 * st.nx+3:=by omega
      simp only [upd_apply,e1,e2,if_false,oh]) (by omega)
  (fun i k ob tk ub=>goodTo h i k∧ob (2 * st.nx+1)=some ⟨st.nx,.loop .ready none⟩∧ob (2 * st.nx+3)=some ⟨st.nx+1,.dfr⟩∧ob 2=some ⟨0,.cells (histC h)⟩∧ob 4=some ⟨64,.cells [.int .i64 0]⟩∧st.nx+64≤ub)
  (fun r=>∃ s pend,r.2.1 (2 * st.nx+1)=some ⟨st.nx,.loop s pend⟩∧s≠.busy∧st.ro≤st.nx∧Q (pend.getD .nrm) { st with ob:=fun k=>if Nat.beq (2 * st.nx+1) k then none else r.2.1 k,tk:=r.2.2.1,nx:=r.2.2.2,df:=(2 * st.nx+3,st.nx+1)::st.df })
  ?_ ?_ ?_ ?_ ?_
 ·obtain ⟨r,hr,hP⟩:=this
  exact ⟨r,hr,hP⟩
 ·-- what J says stands behind what is new
  rintro i k ob ob' tk ub ub' ⟨g1,g2,g3,g4,g5,g6⟩ hub hfr
  have f:∀ key,(∀ m,ub≤m→key≠2 * m+1)→ob' key=ob key:=hfr
  exact ⟨g1,by rw [f _ (fun m hm=>by omega)];exact g2,by rw [f _ (fun m hm=>by omega)];exact g3,by rw [f _ (fun m hm=>by omega)];exact g4,by rw [f _ (fun m hm=>by omega)];exact g5,by omega⟩
 ·rintro i hi ob tk ub ⟨g1,g⟩
  refine ⟨fun i' hi' k' hk' hlt=>?_,g⟩
  rcases hlt with h' | ⟨_,h'⟩
  ·rcases Nat.lt_succ_iff_lt_or_eq.1 h' with h'' | rfl
   ·exact g1 i' hi' k' hk' (Or.inl h'')
   ·exact g1 i' hi' k' hk' (Or.inr ⟨rfl,hk'⟩)
  ·omega
 ·rintro i hi k hk ob tk ub ⟨g1,g2,g3,g4,g5,g6⟩ hru
  refine EvY_round (as:=AS70) (bd:=BD70) (xs:=[.agg [.int .i64 i,.int .i64 k],.agg (opC (h.ts[i]).ops[k])]) rfl (by omega) g2 (by decide) (by decide) ?_
  simp [AS70,setPs,objCells,hfb,opC,hro]
  refine ⟨by rw [if_neg (by omega),if_neg (by omega)];exact g2,wpC_gen fun s' hs'=>?_⟩
  have f1:s'.tm 1 = .ptr 2 0 0:=by rw [hs'];simp [upd_apply,h1]
  have f2:s'.tm 2 = .ptr 4 64 0:=by rw [hs'];simp [upd_apply,h2]
  have f4:s'.tm 4 = .ptr 8 ub 0:=by rw [hs'];simp
  have n2:¬ 2=2 * st.nx+1:=by omega
  have n4:¬ 4=2 * st.nx+1:=by omega
  have n8:¬ 8=2 * st.nx+1:=by omega
  have n3:¬ 2 * st.nx+3=2 * st.nx+1:=by omega
  have n38:¬ 2 * st.nx+3=8:=by omega
  have p2:s'.ob 2=some ⟨0,.cells (histC h)⟩:=by rw [hs'];simp only [upd_apply,n2,if_false,app_ob1];simp [g4]
  have p4:s'.ob 4=some ⟨64,.cells [.int .i64 0]⟩:=by rw [hs'];simp only [upd_apply,n4,if_false,app_ob1];simp [g5]
  have p8:s'.ob 8=some ⟨ub,.cells (opC (h.ts[i]).ops[k])⟩:=by rw [hs'];simp only [upd_apply,n8,if_false,app_ob1];simp [opC]
  have p3:s'.ob (2 * st.nx+3)=some ⟨st.nx+1,.dfr⟩:=by rw [hs'];simp only [upd_apply,n3,n38,if_false,app_ob1];exact g3
  have p1:s'.ob (2 * st.nx+1)=some ⟨st.nx,.loop .busy none⟩:=by rw [hs'];simp
  have fr:s'.ro=0:=by rw [hs']
  have fn:ub≤s'.nx:=by rw [hs'];simp;omega
  clear hs'
  simp [BD70,f1,f4,p2,p8,objCells,opC,histC]
  refine kS_call (vs:=[.agg (histC h),.agg (opC (h.ts[i]).ops[k])]) (by simp [histC,opC]) rfl (by simp [histC,opC]) (by simpa [histC,opC] using ev111 h (h.ts[i]).ops[k]) ?_
  have m1:¬ 2 * st.nx+1=4:=by omega
  have m3:¬ 2 * st.nx+3=4:=by omega
  cases hb:opB h (h.ts[i]).ops[k]
  ·simp [f2,p4,objCells,fr,m1,p1,roundAns,splice]
   intro ob' ub' hle hfr
   have fk:∀ key,(∀ m,s'.nx+64+64+64+64+64≤m→key≠2 * m+1)→ob' key=_:=hfr
   have hall:(opsOf h).all (opB h)=false:=by
    rw [List.all_eq_false]
    exact ⟨_,List.mem_flatMap.2 ⟨_,List.getElem_mem hi,List.getElem_mem hk⟩,by rw [hb];decide⟩
   have n1':∀ {k:Nat},k≠2 * st.nx+1→(if 2 * st.nx+1=k then none else ob' k)=ob' k:=fun hk=>if_neg fun e=>hk e.symm
   refine ⟨.done,some .ret,?_,by simp,?_⟩
   ·rw [fk _ (fun m hm=>by omega)]
    simp
   ·have:=hQ .ret (fun k=>if 2 * st.nx+1=k then none else ob' k) s'.tk ub' 4 (by rw [n1' n2,fk _ (fun m hm=>by omega)];simp only [upd_apply,n2,if_false,app_ob1];simp [p2]) (by rw [n1' n4,fk _ (fun m hm=>by omega)];simp only [upd_apply,n4,if_false,app_ob1];simp)
     (by rw [n1' n3,fk _ (fun m hm=>by omega)];simp only [upd_apply,n3,m3,if_false,app_ob1];exact p3) (by omega) (Or.inr ⟨hall,rfl,rfl⟩)
    rw [hro,hfb] at this
    exact this
  ·simp [p1,roundAns]
   refine ⟨fun i' hi' k' hk' hlt=>?_,?_,?_,?_,by omega⟩
   ·rcases hlt with h' | ⟨rfl,h'⟩
    ·exact g1 i' hi' k' hk' (Or.inl h')
    ·rcases Nat.lt_succ_iff_lt_or_eq.1 h' with h'' | rfl
     ·exact g1 _ hi' k' hk' (Or.inr ⟨rfl,h''⟩)
     ·exact hb
   ·rw [upd_apply,if_neg n3];exact p3
   ·rw [upd_apply,if_neg n2];exact p2
   ·rw [upd_apply,if_neg n4];exact p4
 ·rintro ob tk ub ⟨g1,g2,g3,g4,g5,g6⟩
  refine ⟨.ready,none,g2,by simp,by omega,?_⟩
  exact hQ .nrm _ _ _ 0 ((away ob (by omega)).trans g4) ((away ob (by omega)).trans g5) ((away ob (by omega)).trans g3) g6 (Or.inl ⟨goodTo_all g1,rfl,rfl⟩)
 ·refine ⟨fun i' hi' k' hk' hlt=>by omega,?_,?_,?_,?_,by omega⟩
  ·simp
  ·simp [upd_apply]
  ·have e1:¬ 2=2 * st.nx+1:=by omega
   have e2:¬ 2=2 * st.nx+3:=by omega
   simp only [upd_apply,e1,e2,if_false,o2]
  ·have e1:¬ 4=2 * st.nx+1:=by omega
   have e2:¬ 4=2 * st.nx+3:=by omega
   simp only [upd_apply,e1,e2,if_false,o4]
end Go.Pv.T

/- How many reads there are. -/
namespace Go.Pv.T
open Go Go.Pv
def rc (l:List Op'):Nat:=(l.filter fun o=>!o.w).length
def rcT (l:List Txn'):Nat:=rc (l.flatMap (·.ops))
end Go.Pv.T

/- Appending. -/
namespace Go.Pv.T
open Go Go.Pv
section
variable {E:Env} {Yf:YF} {st:St} {ub:Nat} {K:St→Nat→Prop} {d:Option Nat} {nm:Bool}
theorem kS_append_tok {sz bytes u n:Nat} {nl:Bool} {cs ys:List V} {s x:A} (hs:eval E st.tm s = .sl (some (u,sz)) nl n cs) (htk:st.tk u=true) (hx:slCells st.ob sz (eval E st.tm x)=some ys) (hne:ys≠[]) (hlen:cs.length=n * sz) (h0:0<sz)
 (hp:ys.all V.pureLeaf=true) (hb:(n+ys.length / sz) * bytes≤140737488355328) (hb2:n+ys.length / sz≤140737488355328) (h:kApp K st d ub { v:=.sl (some (ub,sz)) false (n+ys.length / sz) (cs++ys),del:=some u,add:=[ub] }) :
 wpStep E Yf ⟨d,.append false sz bytes s x,none,nm⟩ st ub K:=by
 rw [wpStep_of _ rfl rfl]
 simp only [aop,hs,hx,Option.bind_some,if_neg hne,Bool.false_and,Bool.false_eq_true,if_false]
 rw [if_pos ⟨hlen,h0,hp,hb,hb2⟩,if_pos (by simp [htk]),wpD_some]
 exact h
theorem kS_append_nil {sz bytes:Nat} {ys:List V} {s x:A} (hs:eval E st.tm s = .sl none true 0 []) (hx:slCells st.ob sz (eval E st.tm x)=some ys) (hne:ys≠[]) (h0:0<sz)
 (hp:ys.all V.pureLeaf=true) (hb:(0+ys.length / sz) * bytes≤140737488355328) (hb2:0+ys.length / sz≤140737488355328) (h:kApp K st d ub { v:=.sl (some (ub,sz)) false (0+ys.length / sz) ([]++ys),add:=[ub] }) :
 wpStep E Yf ⟨d,.append false sz bytes s x,none,nm⟩ st ub K:=by
 rw [wpStep_of _ rfl rfl]
 simp only [aop,hs,hx,Option.bind_some,if_neg hne,Bool.false_and,Bool.false_eq_true,if_false]
 rw [if_pos ⟨by simp,h0,hp,hb,hb2⟩,if_pos trivial,wpD_some]
 exact h
theorem kS_buildSl {sz n:Nat} {zero:List V} {parts:List (Nat × Nat × A)} {cs:List V} (hf:fill zero (evalParts (eval E st.tm) parts)=some cs) (hl:cs.length=n * sz) (hp:(cs.map V.strip1).all V.pureLeaf=true)
 (h:kApp K st d ub { v:=.sl (some (ub,sz)) false n (cs.map V.strip1),add:=[ub] }):wpStep E Yf ⟨d,.buildSl false sz zero parts n,none,nm⟩ st ub K:=by
 rw [wpStep_of _ rfl rfl]
 simp only [aop,hf,Option.bind_some,Bool.false_eq_true,if_false]
 rw [if_pos ⟨hl,hp⟩,wpD_some]
 exact h
end
theorem fld_at {α:Type} {f:α→List V} {k:Nat} (hf:∀ a,(f a).length=k) (l:List α) {i o:Nat} (h:i<l.length) (ho:o<k):(l.flatMap f)[i * k+o]? = (f l[i])[o]?:=by
 have:=flatMap_at hf l i h
 rw [← this,List.getElem?_take,if_pos ho,List.getElem?_drop]
def numsTo (p:Txn'→Bool) (l:List Txn'):Nat→List Int
 | 0=>[]
 | i+1=>numsTo p l i++(match l[i]? with | some t=>if p t then [(i:Int)] else [] | none=>[])
theorem numsTo_len (p:Txn'→Bool) (l:List Txn'):∀ i,(numsTo p l i).length≤i
 | 0=>by simp [numsTo]
 | i+1=>by
  have:=numsTo_len p l i
  simp only [numsTo,List.length_append]
  split
  ·split <;> simp <;> omega
  ·simp;omega
def intC (n:Int):List V:=[.int .i64 n]
theorem numsTo_succ {p:Txn'→Bool} {l:List Txn'} {i:Nat} (h:i<l.length):numsTo p l (i+1)=numsTo p l i++(if p l[i] then [(i:Int)] else []):=by
 simp [numsTo,List.getElem?_eq_getElem h]
@[simp] theorem intC_len (n:Int):(intC n).length=1:=rfl
theorem endV_tokG {n u m:Nat} {st:St} {cs:List V} (hd:st.df=[]) (h:st.tm n = .sl (some (u,1)) false m cs) (ht:st.tk u=true):endV [.t n] (.ret,st)=some (.sl (some (0,1)) false m cs):=by
 simp only [endV,dfOk_of hd,noDf_of hd,if_true,List.mapM_cons,List.mapM_nil,resOf,h]
 simp [outRes,outTops,outTop,outLeaf,V.toks,V.tok,nodup,ht]
def isInfo (t:Txn'):Bool:=t.f == 3
def infosH (h:Hist'):List Int:=numsTo isInfo h.ts h.ts.length
end Go.Pv.T

/- Runes: small functions on them. -/
namespace Go.Pv.T
open Go Go.Pv
def digitB (r:Int):Bool:=decide (48≤r) && decide (r≤57)
theorem ev233 (r:Int):Ev E 233 [.int .i32 r] (.bool (digitB r)):=by
 refine Ev_wpK (af:=F233) rfl ?_
 unfold digitB
 by_cases h:48≤r
 ·simp [F233,h]
  exact endV_1 rfl (by simp) rfl
 ·simp [F233,h]
  exact endV_1 rfl (by simp) rfl
theorem ev280 (r:Int):Ev E 280 [.int .i32 r] (.bool false):=by
 refine Ev_wpK (af:=F280) rfl ?_
 simp [F280]
 exact endV_1 rfl (by simp) rfl
def cmpI (a b:Int):Int:=if a<b then -1 else if b<a then 1 else 0
theorem ev265 (a b:Int):Ev E 265 [.int .i32 a,.int .i32 b] (.int .i64 (cmpI a b)):=by
 refine Ev_wpK (af:=F265) rfl ?_
 simp [F265]
 refine kS_call (vs:=[.int .i32 a]) (by simp) rfl rfl (ev280 a) ?_
 simp
 refine kS_call (vs:=[.int .i32 b]) (by simp) rfl rfl (ev280 b) ?_
 unfold cmpI
 by_cases h:a<b
 ·simp [h]
  exact endV_1 rfl (by simp) rfl
 ·by_cases h2:b<a
  ·simp [h,h2]
   exact endV_1 rfl (by simp) rfl
  ·simp [h,h2]
   exact endV_1 rfl (by simp) rfl
def runeC (r:Int):List V:=[.int .i32 r]
@[simp] theorem runeC_len (n:Int):(runeC n).length=1:=rfl
def cmpL:List Int→List Int→Int
 | [],[]=>0
 | [],_::_=>-1
 | _::_,[]=>1
 | a::x,b::y=>if cmpI a b=0 then cmpL x y else cmpI a b
theorem rune_at (l:List Int) {i:Nat} (h:i<l.length):(l.flatMap runeC)[i]? = some (.int .i32 l[i]):=by
 have:=fld_at (f:=runeC) runeC_len l h (by decide:0<1)
 rw [Nat.mul_one,Nat.add_zero] at this
 rw [this]
 rfl
theorem ev256 (nx ny:Bool) (x y:List Int) (hx:x.length≤140737488355328):Ev E 256 [slOf nx runeC x,slOf ny runeC y] (.int .i64 (cmpL x y)):=by
 refine Ev_wpK (af:=F256) rfl ?_
 simp [F256]
 refine wp_loopK (n:=x.length) (fun k s=>∃ i,k=x.length - i∧i≤x.length∧i≤y.length∧s.df=[]∧s.tm 0=slOf nx runeC x∧s.tm 1=slOf ny runeC y∧s.tm 9=slOf nx runeC x∧s.tm 10 = .int .i64 x.length∧s.tm 11 = .int .i64 i∧cmpL (x.drop i) (y.drop i)=cmpL x y)
  ⟨0,by simp⟩ ?_
 rintro k s ⟨i,rfl,hi,hiy,hd,h0,h1,h9,h10,h11,hc⟩
 by_cases hlt:i<x.length
 ·rw [List.drop_eq_getElem_cons hlt] at hc
  by_cases hly:i<y.length
  ·rw [List.drop_eq_getElem_cons hly,cmpL] at hc
   have hny:¬ (y.length:Int)≤i:=by omega
   simp [h1,h9,h10,h11,hlt,hny,hly,idx_slOf runeC_len,rune_at x hlt,rune_at y hly]
   refine kS_call (vs:=[.int .i32 x[i],.int .i32 y[i]]) (by simp) rfl rfl (ev265 x[i] y[i]) ?_
   by_cases hz:cmpI x[i] y[i]=0
   ·rw [if_pos hz] at hc
    simp [hz,h0,h1,h9,h10,h11,hd]
    exact ⟨x.length - (i+1),by omega,i+1,rfl,by omega,by omega,by rw [wrap64' (by omega) (by omega)];simp,hc⟩
   ·rw [if_neg hz] at hc
    have hz':(cmpI x[i] y[i] != 0)=true:=by simpa using hz
    simp [hz']
    exact endV_1 (by simpa using hd) (by simp [hc]) rfl
  ·have hny:(y.length:Int)≤i:=by omega
   have e:y.drop i=[]:=List.drop_of_length_le (by omega)
   rw [e,cmpL] at hc
   simp [h1,h9,h10,h11,hlt,hny,idx_slOf runeC_len,rune_at x hlt]
   exact endV_1 (by simpa using hd) (by simp [hc]) rfl
 ·have:i=x.length:=by omega
  subst this
  rw [List.drop_length] at hc
  by_cases hly:x.length<y.length
  ·rw [List.drop_eq_getElem_cons hly,cmpL] at hc
   simp [h0,h1,h10,h11,hly]
   exact endV_1 (by simpa using hd) (by simp [hc]) rfl
  ·have e:y.drop x.length=[]:=List.drop_of_length_le (by omega)
   rw [e,cmpL] at hc
   simp [h0,h1,h10,h11,hly]
   exact endV_1 (by simpa using hd) (by simp [hc]) rfl
end Go.Pv.T

/- The order of names. -/
namespace Go.Pv.T
open Go Go.Pv
def runesI (s:List UInt8):List Int:=(runesL s s.length 0).map fun r=>((r:Nat):Int)
theorem kS_runes {E:Env} {Yf:YF} {st:St} {ub:Nat} {K:St→Nat→Prop} {d:Option Nat} {nm:Bool} {x:A} {s:List UInt8} (hs:eval E st.tm x = .str s) (hb:(runesI s).length≤70368744177664)
 (h:kApp K st d ub { v:=.sl (some (ub,1)) false (runesI s).length ((runesI s).flatMap runeC),add:=[ub] }):wpStep E Yf ⟨d,.runesOfStr x,none,nm⟩ st ub K:=by
 have e:(runesL s s.length 0).map (fun r=>V.int .i32 (r:Nat))=(runesI s).flatMap runeC:=by
  rw [runesI,List.flatMap_map]
  generalize runesL s s.length 0=l
  induction l with
  | nil=>rfl
  | cons r l ih=>simp only [List.map_cons,List.flatMap_cons,ih,runeC];rfl
 have el:(runesI s).length=(runesL s s.length 0).length:=by simp [runesI]
 rw [wpStep_of _ rfl rfl]
 simp only [aop,hs]
 rw [← el,if_pos hb,wpD_some,e]
 exact h
theorem ev239 (a b:List UInt8) (ha:(runesI a).length≤1000000) (hb:(runesI b).length≤1000000):Ev E 239 [.str a,.str b] (.int .i64 (cmpL (runesI a) (runesI b))):=by
 refine Ev_wpK (af:=F239) rfl ?_
 simp [F239]
 refine kS_runes (s:=a) (by simp) (by omega) ?_
 simp
 refine kS_runes (s:=b) (by simp) (by omega) ?_
 simp
 refine kS_call (vs:=[.sl (some (128,1)) false (runesI a).length ((runesI a).flatMap runeC),.sl (some (256,1)) false (runesI b).length ((runesI b).flatMap runeC)]) (by simp) rfl rfl (ev256 false false _ _ (by omega)) ?_
 simp
 exact endV_1 rfl (by simp) rfl
theorem ev199 (a b:List UInt8) (ha:(runesI a).length≤1000000) (hb:(runesI b).length≤1000000):Ev E 199 [.str a,.str b] (.bool (decide (cmpL (runesI a) (runesI b)<0))):=by
 refine Ev_wpK (af:=F199) rfl ?_
 simp [F199]
 refine kS_call (vs:=[.str a,.str b]) (by simp) rfl rfl (ev239 a b ha hb) ?_
 simp
 exact endV_1 rfl (by simp) rfl
end Go.Pv.T

/- Words that are no names. -/
namespace Go.Pv.T
open Go Go.Pv
def resB (s:List UInt8):Bool:=s == [98,101,103,105,110] || s == [114,101,97,100] || s == [119,114,105,116,101] || s == [111,107] || s == [102,97,105,108] || s == [105,110,102,111] || s == [110,105,108]
theorem ev230 (s:List UInt8):Ev E 230 [.str s] (.bool (resB s)):=by
 refine Ev_wpK (af:=F230) rfl ?_
 unfold resB
 generalize h1:(s == [98,101,103,105,110])=b1
 generalize h2:(s == [114,101,97,100])=b2
 generalize h3:(s == [119,114,105,116,101])=b3
 generalize h4:(s == [111,107])=b4
 generalize h5:(s == [102,97,105,108])=b5
 generalize h6:(s == [105,110,102,111])=b6
 generalize h7:(s == [110,105,108])=b7
 cases b1
 ·cases b2
  ·cases b3
   ·cases b4
    ·cases b5
     ·cases b6
      ·cases b7
       all_goals (simp [F230,h1,h2,h3,h4,h5,h6,h7];exact endV_1 rfl (by simp) rfl)
      ·simp [F230,h1,h2,h3,h4,h5,h6];exact endV_1 rfl (by simp) rfl
     ·simp [F230,h1,h2,h3,h4,h5];exact endV_1 rfl (by simp) rfl
    ·simp [F230,h1,h2,h3,h4];exact endV_1 rfl (by simp) rfl
   ·simp [F230,h1,h2,h3];exact endV_1 rfl (by simp) rfl
  ·simp [F230,h1,h2];exact endV_1 rfl (by simp) rfl
 ·simp [F230,h1];exact endV_1 rfl (by simp) rfl
theorem ev173 (s:List UInt8):Ev E 173 [.str s] (.bool (resB s)):=by
 refine Ev_wpK (af:=F173) rfl ?_
 unfold resB
 generalize h1:(s == [98,101,103,105,110])=b1
 generalize h2:(s == [114,101,97,100])=b2
 generalize h3:(s == [119,114,105,116,101])=b3
 generalize h4:(s == [111,107])=b4
 generalize h5:(s == [102,97,105,108])=b5
 generalize h6:(s == [105,110,102,111])=b6
 generalize h7:(s == [110,105,108])=b7
 cases b1
 ·cases b2
  ·cases b3
   ·cases b4
    ·cases b5
     ·cases b6
      ·cases b7
       all_goals (simp [F173,h1,h2,h3,h4,h5,h6,h7];exact endV_1 rfl (by simp) rfl)
      ·simp [F173,h1,h2,h3,h4,h5,h6];exact endV_1 rfl (by simp) rfl
     ·simp [F173,h1,h2,h3,h4,h5];exact endV_1 rfl (by simp) rfl
    ·simp [F173,h1,h2,h3,h4];exact endV_1 rfl (by simp) rfl
   ·simp [F173,h1,h2,h3];exact endV_1 rfl (by simp) rfl
  ·simp [F173,h1,h2];exact endV_1 rfl (by simp) rfl
 ·simp [F173,h1];exact endV_1 rfl (by simp) rfl
end Go.Pv.T

/- What a name may have in it. -/
namespace Go.Pv.T
open Go Go.Pv
def partB (r:Int):Bool:=decide (127<r) || (r == 95) || digitB r || (decide (97≤r) && decide (r≤122)) || (decide (65≤r) && decide (r≤90))
theorem ev232 (r:Int):Ev E 232 [.int .i32 r] (.bool (partB r)):=by
 refine Ev_wpK (af:=F232) rfl ?_
 unfold partB
 by_cases h1:127<r
 ·simp [F232,h1]
  exact endV_1 rfl (by simp) rfl
 cases h2:(r == 95)
 ·simp [F232,h1,h2]
  refine kS_call (vs:=[.int .i32 r]) (by simp) rfl rfl (ev233 r) ?_
  cases h3:digitB r
  ·by_cases h4:97≤r
   ·by_cases h5:r≤122
    ·simp [h4,h5]
     exact endV_1 rfl (by simp) rfl
    ·have h6:65≤r:=by omega
     have h7:¬ r≤90:=by omega
     simp [h4,h5,h6,h7]
     exact endV_1 rfl (by simp) rfl
   ·by_cases h6:65≤r
    ·simp [h4,h6]
     exact endV_1 rfl (by simp) rfl
    ·simp [h4,h6]
     exact endV_1 rfl (by simp) rfl
  ·simp
   exact endV_1 rfl (by simp) rfl
 ·simp [F232,h1,h2]
  exact endV_1 rfl (by simp) rfl
end Go.Pv.T

/- Regions of which any order is drawn; loops that count up; what a loop leaves alone. -/
namespace Go.Pv
open Go
def AOp.plainOp:AOp→Bool
 | .call .. | .callV .. | .entry _ | .nextMap _=>false
 | _=>true
def AOp.valOp:AOp→Bool
 | .mov _ | .pick .. | .bin .. | .eq .. | .un .. | .build .. | .load .. | .nilCheck _ | .fieldAddr .. | .idxSl .. | .idxArr .. | .part .. | .idxStr .. | .idxVal .. | .slStr .. | .slSl .. | .lenStr _ | .lenSl _ | .lenMap _ | .extract .. | .mkFn .. | .lookup .. | .iface .. | .assert .. | .conv .. | .minmax ..=>true
 | _=>false
def kDr (E:Env) (r:List AOpr) (K:List FP→St→Prop):St→Nat→Prop:=fun st ub=>wpDraw E r st ub K
def kFp (f:FP) (K:List FP→St→Prop):List FP→St→Prop:=fun fs s=>K (f::fs) s
def kDQ (free:List (Nat × Nat)) (Q:Ex→St→Prop):List FP→St→Prop:=fun fs s=>drawOk free fs=true∧newOk fs=true∧Q .nrm s
def kDGd (E:Env) (o:AOpr) (r:List AOpr) (st:St) (ub:Nat) (K:List FP→St→Prop):Bool→Prop
 | true=>wpDraw E (o::r) st ub K
 | false=>wpDraw E r (st.setT o.dst none') (ub+64) (kFp {} K)
def kDApp (E:Env) (r:List AOpr) (K:List FP→St→Prop) (ρ:A→V) (op:AOp) (st:St) (d:Option Nat) (ub:Nat):Delta→Prop:=fun δ=>wpDraw E r (st.app d δ) (ub+64) (kFp (fpOf ρ op δ) K)
theorem val_delta {call:FuncId→List V→Option V} {ρ:A→V} {ob:Nat→Option Obj'} {tk:Nat→Bool} {ro du ub:Nat} {op:AOp} {δ:Delta} (h:op.valOp=true) (ha:aop call ρ ob tk ro du ub op=some δ):∃ v,δ = { v:=v }:=by
 have key:∀ {o:Option V},o.bind one=some δ→∃ v,δ = { v:=v }:=fun {o} hb=>by
  cases o with
  | none=>cases hb
  | some v=>cases hb;exact ⟨v,rfl⟩
 cases op <;> first | (cases h;done) | skip
 all_goals simp only [aop] at ha
 all_goals first
  | exact key ha
  | exact key (o:=some _) ha
  | (repeat' split at ha) <;> first | (cases ha;done) | exact key ha | exact key (o:=some _) ha | skip
 all_goals (try simp only [Option.bind_eq_some_iff] at ha)
 all_goals first
  | (obtain ⟨_,_,hb⟩:=ha;exact key (o:=some _) hb)
  | skip
 all_goals
  obtain ⟨_,_,x,_,hb⟩:=ha
  first | exact key (o:=some _) hb | (rcases x with _ | ⟨_,_⟩ <;> exact key (o:=some _) hb)
section
variable {E:Env} {Yf:YF} {st:St} {ub:Nat} {K:List FP→St→Prop} {d:Option Nat} {nm:Bool} {Q:Ex→St→Prop} {r:List AOpr}
theorem kDr_app:kDr E r K st ub=wpDraw E r st ub K:=propext Iff.rfl
theorem kFp_app {f:FP} {fs:List FP}:kFp f K fs st=K (f::fs) st:=propext Iff.rfl
theorem kDQ_app {free:List (Nat × Nat)} {fs:List FP}:kDQ free Q fs st=(drawOk free fs=true∧newOk fs=true∧Q .nrm st):=propext Iff.rfl
theorem kC_draw {ops:List AOpr} {free:List (Nat × Nat)}:wpC E Yf (.draw ops free) st Q=wpDraw E ops st st.nx (kDQ free Q):=propext Iff.rfl
theorem kDr_nil:wpDraw E [] st ub K=K [] (st.setN ub):=propext Iff.rfl
theorem kDGd_true {o:AOpr}:kDGd E o r st ub K true=wpDraw E (o::r) st ub K:=propext Iff.rfl
theorem kDGd_false {o:AOpr}:kDGd E o r st ub K false=wpDraw E r (st.setT o.dst none') (ub+64) (kFp {} K):=propext Iff.rfl
theorem kDr_guard {op:AOp} {t:Nat} {b:Bool}:wpDraw E (⟨d,op,some (t,b),nm⟩::r) st ub K=gdK (st.tm t) b (kDGd E ⟨d,op,none,nm⟩ r st ub K):=by
 have hn:AOpr.name ⟨d,op,some (t,b),nm⟩=AOpr.name ⟨d,op,none,nm⟩:=rfl
 have ht:∀ c,st.tm t = .bool c→(wpDraw E (⟨d,op,some (t,b),nm⟩::r) st ub K=kDGd E ⟨d,op,none,nm⟩ r st ub K (c == b)):=fun c hc=>by
  cases hcb:(c == b)
  ·have:wanted ⟨d,op,some (t,b),nm⟩ st.tm=some false:=by simp [wanted,hc,hcb]
   rw [wpDraw,this,kDGd_false,← app_v];rfl
  ·have:wanted ⟨d,op,some (t,b),nm⟩ st.tm=some true:=by simp [wanted,hc,hcb]
   rw [wpDraw,this,kDGd_true,wpDraw];rfl
 cases h:st.tm t with
 | bool c=>rw [ht c h];rfl
 | tup l=>cases l with
  | nil =>
   have:wanted ⟨d,op,some (t,b),nm⟩ st.tm=some false:=by simp [wanted,h]
   rw [wpDraw,this]
   show _=kDGd E ⟨d,op,none,nm⟩ r st ub K false
   rw [kDGd_false,← app_v];rfl
  | cons a l =>
   have:wanted ⟨d,op,some (t,b),nm⟩ st.tm=none:=by simp [wanted,h]
   rw [wpDraw,this];rfl
 | _ =>
  have:wanted ⟨d,op,some (t,b),nm⟩ st.tm=none:=by simp [wanted,h]
  rw [wpDraw,this];rfl
theorem wpDraw_of {op:AOp} (h:op.plainOp=true):wpDraw E (⟨d,op,none,nm⟩::r) st ub K=wpD (aop (fun _ _=>none) (eval E st.tm) st.ob st.tk st.ro (AOpr.name ⟨d,op,none,nm⟩ st.fb ub) ub op) (kDApp E r K (eval E st.tm) op st d ub):=by
 cases op <;> first | cases h;done | (simp only [wpDraw,wanted,sharedCall,AOp.far,true_and];rfl)
theorem kD_val {op:AOp} (h:op.valOp=true):wpDraw E (⟨d,op,none,nm⟩::r) st ub K=wpStep E Yf ⟨d,op,none,nm⟩ st ub (kDr E r (kFp { ro:=rdOb (eval E st.tm) op,rt:=rdTk (eval E st.tm) op } K)):=by
 have h1:op.plainOp=true:=by cases op <;> first | rfl | cases h
 have h2:op.isCall=false:=by cases op <;> first | rfl | cases h
 have h3:op.isNext=false:=by cases op <;> first | rfl | cases h
 rw [wpDraw_of h1,wpStep_of _ h2 h3]
 refine propext ⟨?_,?_⟩
 ·rintro ⟨δ,hδ,hk⟩
  obtain ⟨v,rfl⟩:=val_delta h hδ
  exact ⟨_,hδ,hk⟩
 ·rintro ⟨δ,hδ,hk⟩
  obtain ⟨v,rfl⟩:=val_delta h hδ
  exact ⟨_,hδ,hk⟩
theorem kD_store {sz:Nat} {p x:A}:wpDraw E (⟨d,.store sz p x,none,nm⟩::r) st ub K=wpStore st sz (eval E st.tm x) (kDApp E r K (eval E st.tm) (.store sz p x) st d ub) (eval E st.tm p):=by
 rw [wpDraw_of rfl]
 simp only [aop]
 generalize he:kDApp E r K (eval E st.tm) (.store sz p x) st d ub=k
 clear he
 generalize eval E st.tm p=vp
 cases vp <;> simp only [wpD_none,wpStore]
 rename_i l u off
 cases objCells st.ob l u with
 | none=>simp [wpD]
 | some cs=>simp only [Option.bind_some,wpD_ite,wpD_some,Option.some.injEq,exists_eq_left',Nat.ble_eq,and_assoc]
theorem kD_alloc {z:List V}:wpDraw E (⟨d,.alloc z,none,nm⟩::r) st ub K=kDApp E r K (eval E st.tm) (.alloc z) st d ub { v:=.ptr (objName d nm st.fb ub) ub 0,obs:=[(objName d nm st.fb ub,⟨ub,.cells z⟩)] }:=by
 rw [wpDraw_of rfl];simp only [aop,mkObj,wpD_some,name_eq]
theorem kD_box {sz:Nat} {x:A}:wpDraw E (⟨d,.box sz x,none,nm⟩::r) st ub K=(((eval E st.tm x).cells.length=sz∧(eval E st.tm x).cells.all V.leaf=true)∧kDApp E r K (eval E st.tm) (.box sz x) st d ub { v:=.ptr (objName d nm st.fb ub) ub 0,obs:=[(objName d nm st.fb ub,⟨ub,.cells (eval E st.tm x).cells⟩)] }):=by
 rw [wpDraw_of rfl];simp only [aop,mkObj,wpD_ite,wpD_some,name_eq]
theorem kDApp_v {ρ:A→V} {op:AOp} {v:V}:kDApp E r K ρ op st d ub { v:=v } = wpDraw E r (st.setT d v) (ub+64) (kFp (fpOf ρ op { v:=v }) K):=by rw [kDApp,app_v]
theorem kDApp_app {ρ:A→V} {op:AOp} {δ:Delta}:kDApp E r K ρ op st d ub δ=wpDraw E r (st.app d δ) (ub+64) (kFp (fpOf ρ op δ) K):=propext Iff.rfl
theorem kD_ev {f:FuncId} {xs:List A} {args:List V} {v:V} (hev:Ev E f args v) (hx:(xs.map fun x=>(eval E st.tm x).strip)=args) (hs:E.sh nm f=false) (hp:args.all V.pureTop=true) (h:wpD (retA ub v) (kDApp E r K (eval E st.tm) (.call f xs) st d ub)) :
 wpDraw E (⟨d,.call f xs,none,nm⟩::r) st ub K:=by
 have hp':(xs.all fun x=>(eval E st.tm x).strip.pureTop)=true:=by rw [← hx,List.all_map] at hp;exact hp
 have hsh:sharedCall E nm (eval E st.tm) (.call f xs)=none:=by simp only [sharedCall,hs,hp',Bool.not_false,Bool.and_self,if_true]
 obtain ⟨δ,hδ,hk⟩:=h
 simp only [wpDraw,wanted,hsh,AOp.far,true_and]
 exact ⟨hp',v,hx ▸ hev,δ,hδ,hk⟩
theorem kS_ev {K:St→Nat→Prop} {f:FuncId} {xs:List A} {args:List V} {v:V} (hev:Ev E f args v) (hx:(xs.map fun x=>(eval E st.tm x).strip)=args) (hs:E.sh nm f=false) (hp:args.all V.pureTop=true) (h:wpD (retA ub v) (kApp K st d ub)) :
 wpStep E Yf ⟨d,.call f xs,none,nm⟩ st ub K:=by
 have hp':(xs.all fun x=>(eval E st.tm x).strip.pureTop)=true:=by rw [← hx,List.all_map] at hp;exact hp
 have hsh:sharedCall E nm (eval E st.tm) (.call f xs)=none:=by simp only [sharedCall,hs,hp',Bool.not_false,Bool.and_self,if_true]
 obtain ⟨δ,hδ,hk⟩:=h
 simp only [wpStep,wanted,yieldCall,hsh,wpCall]
 exact ⟨by rw [hx];exact hp,v,hx ▸ hev,δ,hδ,hk⟩
end
/-! What a loop leaves alone. -/
def inR (t:Nat):List (Nat × Nat)→Bool
 | []=>false
 | (a,b)::l=>(decide (a≤t) && decide (t≤b)) || inR t l
@[simp] theorem inR_nil (t:Nat):inR t []=false:=rfl
@[simp] theorem inR_cons (t a b:Nat) (l:List (Nat × Nat)):inR t ((a,b)::l)=((decide (a≤t) && decide (t≤b)) || inR t l):=rfl
def C.ws:C→List Nat
 | .region ops | .draw ops _=>ops.filterMap (·.dst)
 | .seq a b | .cond _ a b=>a.ws++b.ws
 | .block _ a | .loop a=>a.ws
 | _=>[]
def C.noRF:C→Bool
 | .rangeFunc ..=>false
 | .seq a b | .cond _ a b=>a.noRF && b.noRF
 | .block _ a | .loop a=>a.noRF
 | _=>true
structure Keeps (p:Nat→Prop) (st s:St):Prop where
 b:s.fb=st.fb
 r:s.ro=st.ro
 d:s.df=st.df
 t:∀ t,¬ p t→s.tm t=st.tm t
theorem Keeps.rfl' (p:Nat→Prop) (st:St):Keeps p st st:=⟨rfl,rfl,rfl,fun _ _=>rfl⟩
theorem Keeps.trans {p q q':Nat→Prop} {a b c:St} (h:Keeps p a b) (h':Keeps q b c) (hp:∀ t,p t→q' t) (hq:∀ t,q t→q' t):Keeps q' a c :=
 ⟨h'.b.trans h.b,h'.r.trans h.r,h'.d.trans h.d,fun t ht=>(h'.t t fun h=>ht (hq t h)).trans (h.t t fun h=>ht (hp t h))⟩
theorem Keeps.weak {p q:Nat→Prop} {a b:St} (h:Keeps p a b) (hp:∀ t,p t→q t):Keeps q a b:=⟨h.b,h.r,h.d,fun t ht=>h.t t fun h=>ht (hp t h)⟩
theorem put_ne {tm:Nat→V} {d:Option Nat} {v:V} {t:Nat} (h:¬ t∈d.toList):put tm d v t=tm t:=by
 cases d with
 | none=>rfl
 | some d=>exact upd_ne tm v (fun e=>h (by simp [e]))
theorem Keeps.app {st:St} {d:Option Nat} {δ:Delta}:Keeps (·∈d.toList) st (st.app d δ):=⟨rfl,rfl,rfl,fun _ ht=>put_ne ht⟩
section
variable {E:Env} {Yf:YF}
theorem wpStep_keeps {o:AOpr} {st:St} {ub:Nat} {K:St→Nat→Prop} (hk:wpStep E Yf o st ub K):wpStep E Yf o st ub fun s u=>K s u∧Keeps (·∈o.dst.toList) st s:=by
 have call:∀ {f:FuncId} {xs:List V},wpCall E f xs st o.dst ub K→wpCall E f xs st o.dst ub fun s u=>K s u∧Keeps (·∈o.dst.toList) st s:=by
  rintro f xs ⟨hp,v,hv,δ,hδ,hK⟩
  exact ⟨hp,v,hv,δ,hδ,hK,Keeps.app⟩
 unfold wpStep at hk ⊢
 cases hw:wanted o st.tm with
 | none=>simp only [hw] at hk
 | some b =>
  cases b with
  | false=>simp only [hw] at hk ⊢;exact ⟨hk,rfl,rfl,rfl,fun _ ht=>put_ne ht⟩
  | true =>
   simp only [hw] at hk ⊢
   cases hy:yieldCall (eval E st.tm) o.op with
   | some x =>
    obtain ⟨l,u,xs⟩:=x
    simp only [hy] at hk ⊢
    obtain ⟨r,hr,hK⟩:=hk
    exact ⟨r,hr,hK,rfl,rfl,rfl,fun _ ht=>put_ne ht⟩
   | none =>
   simp only [hy] at hk ⊢
   cases hsh:sharedCall E o.nm (eval E st.tm) o.op with
   | some fx =>
    simp only [hsh] at hk ⊢
    rcases hk with ⟨h1,r,hr,hK⟩ | ⟨h1,v,hv,δ,hδ,hK⟩
    ·exact .inl ⟨h1,r,hr,hK,rfl,rfl,rfl,fun _ ht=>put_ne ht⟩
    ·exact .inr ⟨h1,v,hv,δ,hδ,hK,Keeps.app⟩
   | none =>
    simp only [hsh] at hk ⊢
    cases ho:o.op <;> simp only [ho] at hk ⊢
    case call f xs=>exact call hk
    case callV q xs =>
     obtain ⟨f,first,captured,hev,hk⟩:=hk
     exact ⟨f,first,captured,hev,call hk⟩
    case nextMap x =>
     obtain ⟨l,hl,hK⟩:=hk
     exact ⟨l,hl,fun δ hδ=>⟨hK δ hδ,Keeps.app⟩⟩
    all_goals
     obtain ⟨δ,hδ,hK⟩:=hk
     exact ⟨δ,hδ,hK,Keeps.app⟩
theorem wpStep_mono {o:AOpr} {st:St} {ub:Nat} {K K':St→Nat→Prop} (h:∀ s u,K s u→K' s u) (hk:wpStep E Yf o st ub K):wpStep E Yf o st ub K':=by
 have call:∀ {f:FuncId} {xs:List V},wpCall E f xs st o.dst ub K→wpCall E f xs st o.dst ub K':=by
  rintro f xs ⟨hp,v,hv,δ,hδ,hK⟩
  exact ⟨hp,v,hv,δ,hδ,h _ _ hK⟩
 unfold wpStep at hk ⊢
 cases hw:wanted o st.tm with
 | none=>simp only [hw] at hk
 | some b =>
  cases b with
  | false=>simp only [hw] at hk ⊢;exact h _ _ hk
  | true =>
   simp only [hw] at hk ⊢
   cases hy:yieldCall (eval E st.tm) o.op with
   | some x =>
    obtain ⟨l,u,xs⟩:=x
    simp only [hy] at hk ⊢
    obtain ⟨r,hr,hK⟩:=hk
    exact ⟨r,hr,h _ _ hK⟩
   | none =>
   simp only [hy] at hk ⊢
   cases hsh:sharedCall E o.nm (eval E st.tm) o.op with
   | some fx =>
    simp only [hsh] at hk ⊢
    rcases hk with ⟨h1,r,hr,hK⟩ | ⟨h1,v,hv,δ,hδ,hK⟩
    ·exact .inl ⟨h1,r,hr,h _ _ hK⟩
    ·exact .inr ⟨h1,v,hv,δ,hδ,h _ _ hK⟩
   | none =>
    simp only [hsh] at hk ⊢
    cases ho:o.op <;> simp only [ho] at hk ⊢
    case call f xs=>exact call hk
    case callV q xs =>
     obtain ⟨f,first,captured,hev,hk⟩:=hk
     exact ⟨f,first,captured,hev,call hk⟩
    case nextMap x =>
     obtain ⟨l,hl,hK⟩:=hk
     exact ⟨l,hl,fun δ hδ=>h _ _ (hK δ hδ)⟩
    all_goals
     obtain ⟨δ,hδ,hK⟩:=hk
     exact ⟨δ,hδ,h _ _ hK⟩
theorem mem_ws_cons {o:AOpr} {r:List AOpr} {t:Nat}:t∈(o::r).filterMap (·.dst) ↔ t∈o.dst.toList∨t∈r.filterMap (·.dst):=by
 cases h:o.dst with
 | none=>simp [h]
 | some d=>simp [h]
theorem wpOps_keeps:∀ {ops:List AOpr} {st:St} {ub:Nat} {K:St→Prop},wpOps' E Yf ops st ub K→wpOps' E Yf ops st ub fun s=>K s∧Keeps (·∈ops.filterMap (·.dst)) st s
 | [],st,ub,K,hk=>⟨hk,rfl,rfl,rfl,fun _ _=>rfl⟩
 | o::r,st,ub,K,hk=>by
  refine wpStep_mono (fun s u h=>?_) (wpStep_keeps hk)
  refine wpOps_mono (fun s' h'=>?_) (wpOps_keeps h.1)
  exact ⟨h'.1,h.2.trans h'.2 (fun t ht=>mem_ws_cons.2 (.inl ht)) (fun t ht=>mem_ws_cons.2 (.inr ht))⟩
theorem wpDraw_keeps:∀ {ops:List AOpr} {st:St} {ub:Nat} {K:List FP→St→Prop},wpDraw E ops st ub K→wpDraw E ops st ub fun f s=>K f s∧Keeps (·∈ops.filterMap (·.dst)) st s
 | [],st,ub,K,hk=>⟨hk,rfl,rfl,rfl,fun _ _=>rfl⟩
 | o::r,st,ub,K,hk=>by
  have key:∀ {δ:Delta} {f:List FP→List FP} {ub:Nat},wpDraw E r (st.app o.dst δ) ub (fun fs s=>K (f fs) s)→wpDraw E r (st.app o.dst δ) ub fun fs s=>K (f fs) s∧Keeps (·∈(o::r).filterMap (·.dst)) st s:=fun h =>
   wpDraw_mono (fun f s h'=>⟨h'.1,Keeps.app.trans h'.2 (fun t ht=>mem_ws_cons.2 (.inl ht)) (fun t ht=>mem_ws_cons.2 (.inr ht))⟩) (wpDraw_keeps h)
  unfold wpDraw at hk ⊢
  cases hw:wanted o st.tm with
  | none=>simp only [hw] at hk
  | some b =>
   cases b with
   | false=>simp only [hw] at hk ⊢;exact key (f:=fun fs=>{}::fs) hk
   | true =>
    simp only [hw] at hk ⊢
    cases hsh:sharedCall E o.nm (eval E st.tm) o.op with
    | some fx =>
     simp only [hsh] at hk ⊢
     rcases hk with ⟨h1,v,hv,δ,hδ,hK⟩ | ⟨h1,h2,a',v,ha,hv,δ,hδ,hK⟩
     ·exact .inl ⟨h1,v,hv,δ,hδ,key (f:=fun fs=>{ wt:=δ.wt,all:=true,seen:=fun l=>(st.ob l).isSome }::fs) hK⟩
     ·exact .inr ⟨h1,h2,a',v,ha,hv,δ,hδ,key (f:=fun fs=>{ wo:=δ.wo,all:=true,seen:=fun l=>(st.ob l).isSome,nw:=true }::fs) hK⟩
    | none =>
     simp only [hsh] at hk ⊢
     refine ⟨hk.1,?_⟩
     have hk:=hk.2
     cases ho:o.op <;> simp only [ho] at hk ⊢
     case call f xs =>
      obtain ⟨h1,v,hv,δ,hδ,hK⟩:=hk
      exact ⟨h1,v,hv,δ,hδ,key (f:=fun fs=>fpOf (eval E st.tm) (.call f xs) δ::fs) hK⟩
     case callV q xs =>
      obtain ⟨f,first,captured,hev,h1,v,hv,δ,hδ,hK⟩:=hk
      exact ⟨f,first,captured,hev,h1,v,hv,δ,hδ,key (f:=fun fs=>fpOf (eval E st.tm) (.callV q xs) δ::fs) hK⟩
     all_goals
      obtain ⟨δ,hδ,hK⟩:=hk
      exact ⟨δ,hδ,key (f:=fun fs=>fpOf (eval E st.tm) _ δ::fs) hK⟩
theorem wpC_keeps:∀ {c:C},c.noRF=true→∀ {st:St} {Q:Ex→St→Prop},wpC E Yf c st Q→wpC E Yf c st fun e s=>Q e s∧Keeps (·∈c.ws) st s:=by
 intro c
 induction c with
 | skip=>intro _ st Q hk;exact ⟨hk,Keeps.rfl' _ _⟩
 | ret=>intro _ st Q hk;exact ⟨hk,Keeps.rfl' _ _⟩
 | exit id=>intro _ st Q hk;exact ⟨hk,Keeps.rfl' _ _⟩
 | stuck=>intro _ st Q hk;exact hk
 | rangeFunc f ps a b=>intro hn;cases hn
 | region ops=>intro _ st Q hk;exact wpOps_keeps hk
 | draw ops free=>intro _ st Q hk;exact wpDraw_mono (fun f s h=>⟨h.1.1,h.1.2.1,h.1.2.2,h.2⟩) (wpDraw_keeps hk)
 | seq a b iha ihb =>
  intro hn st Q hk
  have hn:=Bool.and_eq_true_iff.1 hn
  rw [kC_seq]
  refine wpC_mono (fun e s he=>?_) (iha hn.1 hk)
  obtain ⟨he,hf⟩:=he
  cases e
  ·refine wpC_mono (fun e s' he'=>?_) (ihb hn.2 he)
   exact ⟨he'.1,hf.trans he'.2 (fun t ht=>List.mem_append.2 (.inl ht)) (fun t ht=>List.mem_append.2 (.inr ht))⟩
  ·exact ⟨he,hf.weak (fun t ht=>List.mem_append.2 (.inl ht))⟩
  ·exact ⟨he,hf.weak (fun t ht=>List.mem_append.2 (.inl ht))⟩
 | cond q a b iha ihb =>
  intro hn st Q hk
  have hn:=Bool.and_eq_true_iff.1 hn
  obtain ⟨t,ht,h1,h2⟩:=hk
  exact ⟨t,ht,fun e=>wpC_mono (fun e s he=>⟨he.1,he.2.weak (fun t ht=>List.mem_append.2 (.inl ht))⟩) (iha hn.1 (h1 e)),
   fun e=>wpC_mono (fun e s he=>⟨he.1,he.2.weak (fun t ht=>List.mem_append.2 (.inr ht))⟩) (ihb hn.2 (h2 e))⟩
 | block id a ih =>
  intro hn st Q hk
  rw [kC_block]
  refine wpC_mono (fun e s he=>?_) (ih hn hk)
  obtain ⟨he,hf⟩:=he
  cases e
  ·exact ⟨he,hf⟩
  ·simp only [kBlk_exit] at he ⊢
   split at he
   ·rename_i hi;simp only [hi,if_true];exact ⟨he,hf⟩
   ·rename_i hi;simp only [hi,if_false];exact ⟨he,hf⟩
  ·exact ⟨he,hf⟩
 | loop a ih =>
  intro hn st Q hk
  obtain ⟨N,hk⟩:=hk
  refine ⟨N,?_⟩
  have key:∀ (N:Nat) (st:St),wpLoop (wpC E Yf a) N st Q→wpLoop (wpC E Yf a) N st fun e s=>Q e s∧Keeps (·∈a.ws) st s:=by
   intro N
   induction N with
   | zero=>intro st h;exact h
   | succ N ihN =>
    intro st h
    refine wpC_mono (fun e s he=>?_) (ih hn h)
    obtain ⟨he,hf⟩:=he
    cases e
    ·exact wpLoop_mono (W:=wpC E Yf a) (fun _ _ _ h hk=>wpC_mono h hk) (fun e s' he'=>⟨he'.1,hf.trans he'.2 (fun _ h=>h) (fun _ h=>h)⟩) (ihN s he)
    ·exact ⟨he,hf⟩
    ·exact ⟨he,hf⟩
  exact key N st hk
theorem wp_loopF {a:C} {Q:Ex→St→Prop} {n:Nat} {st:St} (ws:List (Nat × Nat)) (I:Nat→St→Prop) (hn:a.noRF=true) (hw:(a.ws.all fun t=>inR t ws)=true) (h0:I n st)
 (hs:∀ k s,I k s→Keeps (fun t=>inR t ws=true) st s→wpC E Yf a s (kLoop I k Q)):wpC E Yf (.loop a) st Q:=by
 refine wp_loopK (fun k s=>I k s∧Keeps (fun t=>inR t ws=true) st s) (n:=n) ⟨h0,Keeps.rfl' _ _⟩ fun k s ⟨hI,hf⟩=>?_
 refine wpC_mono (fun e s' he=>?_) (wpC_keeps hn (hs k s hI hf))
 obtain ⟨he,hf'⟩:=he
 cases e
 ·obtain ⟨j,hj,hI'⟩:=he
  exact ⟨j,hj,hI',hf.trans hf' (fun _ h=>h) (fun t ht=>List.all_eq_true.1 hw t ht)⟩
 ·exact he
 ·exact he
def kUp (I:Nat→St→Prop) (N i:Nat) (Q:Ex→St→Prop):Ex→St→Prop:=fun e s=>match e with
 | .nrm=>i<N∧I (i+1) s
 | e=>Q e s
theorem wp_loopUp {a:C} {Q:Ex→St→Prop} {st:St} (ws:List (Nat × Nat)) (N:Nat) (I:Nat→St→Prop) (hn:a.noRF=true) (hw:(a.ws.all fun t=>inR t ws)=true) (h0:I 0 st)
 (hs:∀ i s,i≤N→I i s→Keeps (fun t=>inR t ws=true) st s→wpC E Yf a s (kUp I N i Q)):wpC E Yf (.loop a) st Q:=by
 refine wp_loopF (n:=N) ws (fun k s=>∃ i,k=N - i∧i≤N∧I i s) hn hw ⟨0,rfl,Nat.zero_le _,h0⟩ ?_
 rintro k s ⟨i,rfl,hi,hI⟩ hf
 refine wpC_mono (fun e s' he=>?_) (hs i s hi hI hf)
 cases e
 ·obtain ⟨h1,h2⟩:=he
  exact ⟨N - (i+1),by omega,i+1,rfl,by omega,h2⟩
 ·exact he
 ·exact he
end
theorem kUp_nrm {I:Nat→St→Prop} {N i:Nat} {Q:Ex→St→Prop} {st:St}:kUp I N i Q .nrm st=(i<N∧I (i+1) st):=propext Iff.rfl
theorem kUp_exit {I:Nat→St→Prop} {N i j:Nat} {Q:Ex→St→Prop} {st:St}:kUp I N i Q (.exit j) st=Q (.exit j) st:=propext Iff.rfl
theorem kUp_ret {I:Nat→St→Prop} {N i:Nat} {Q:Ex→St→Prop} {st:St}:kUp I N i Q .ret st=Q .ret st:=propext Iff.rfl
theorem noNew_nil:noNew []=true:=rfl
theorem noNew_cons (f:FP) (fs:List FP):noNew (f::fs)=(!f.nw && noNew fs):=rfl
theorem fpOf_nw (ρ:A→V) (o:AOp) (δ:Delta):(fpOf ρ o δ).nw=false:=rfl
theorem newOk_noNew {fs:List FP} (h:noNew fs=true):newOk fs=true:=by simp only [newOk,h,Bool.true_or]
theorem drawOk_nil (fs:List FP):drawOk [] fs=true:=rfl
section
variable {E:Env} {st:St} {ub:Nat} {K:List FP→St→Prop} {d:Option Nat} {nm:Bool} {r:List AOpr}
theorem kD_mov {x:A}:wpDraw E (⟨d,.mov x,none,nm⟩::r) st ub K=wpStep E noYF ⟨d,.mov x,none,nm⟩ st ub (kDr E r (kFp { ro:=rdOb (eval E st.tm) (.mov x),rt:=rdTk (eval E st.tm) (.mov x) } K)):=kD_val rfl
theorem kD_pick {c a b:A}:wpDraw E (⟨d,.pick c a b,none,nm⟩::r) st ub K=wpStep E noYF ⟨d,.pick c a b,none,nm⟩ st ub (kDr E r (kFp { ro:=rdOb (eval E st.tm) (.pick c a b),rt:=rdTk (eval E st.tm) (.pick c a b) } K)):=kD_val rfl
theorem kD_bin {op:BinOp} {x y:A}:wpDraw E (⟨d,.bin op x y,none,nm⟩::r) st ub K=wpStep E noYF ⟨d,.bin op x y,none,nm⟩ st ub (kDr E r (kFp { ro:=rdOb (eval E st.tm) (.bin op x y),rt:=rdTk (eval E st.tm) (.bin op x y) } K)):=kD_val rfl
theorem kD_eq {neg:Bool} {k:EqK} {x y:A}:wpDraw E (⟨d,.eq neg k x y,none,nm⟩::r) st ub K=wpStep E noYF ⟨d,.eq neg k x y,none,nm⟩ st ub (kDr E r (kFp { ro:=rdOb (eval E st.tm) (.eq neg k x y),rt:=rdTk (eval E st.tm) (.eq neg k x y) } K)):=kD_val rfl
theorem kD_un {op:UnOp} {x:A}:wpDraw E (⟨d,.un op x,none,nm⟩::r) st ub K=wpStep E noYF ⟨d,.un op x,none,nm⟩ st ub (kDr E r (kFp { ro:=rdOb (eval E st.tm) (.un op x),rt:=rdTk (eval E st.tm) (.un op x) } K)):=kD_val rfl
theorem kD_build {z:List V} {ps:List (Nat × Nat × A)}:wpDraw E (⟨d,.build z ps,none,nm⟩::r) st ub K=wpStep E noYF ⟨d,.build z ps,none,nm⟩ st ub (kDr E r (kFp { ro:=rdOb (eval E st.tm) (.build z ps),rt:=rdTk (eval E st.tm) (.build z ps) } K)):=kD_val rfl
theorem kD_load {g:Option Nat} {x:A}:wpDraw E (⟨d,.load g x,none,nm⟩::r) st ub K=wpStep E noYF ⟨d,.load g x,none,nm⟩ st ub (kDr E r (kFp { ro:=rdOb (eval E st.tm) (.load g x),rt:=rdTk (eval E st.tm) (.load g x) } K)):=kD_val rfl
theorem kD_nilCheck {x:A}:wpDraw E (⟨d,.nilCheck x,none,nm⟩::r) st ub K=wpStep E noYF ⟨d,.nilCheck x,none,nm⟩ st ub (kDr E r (kFp { ro:=rdOb (eval E st.tm) (.nilCheck x),rt:=rdTk (eval E st.tm) (.nilCheck x) } K)):=kD_val rfl
theorem kD_fieldAddr {o:Nat} {x:A}:wpDraw E (⟨d,.fieldAddr o x,none,nm⟩::r) st ub K=wpStep E noYF ⟨d,.fieldAddr o x,none,nm⟩ st ub (kDr E r (kFp { ro:=rdOb (eval E st.tm) (.fieldAddr o x),rt:=rdTk (eval E st.tm) (.fieldAddr o x) } K)):=kD_val rfl
theorem kD_idxSl {sz:Nat} {x i:A}:wpDraw E (⟨d,.idxSl sz x i,none,nm⟩::r) st ub K=wpStep E noYF ⟨d,.idxSl sz x i,none,nm⟩ st ub (kDr E r (kFp { ro:=rdOb (eval E st.tm) (.idxSl sz x i),rt:=rdTk (eval E st.tm) (.idxSl sz x i) } K)):=kD_val rfl
theorem kD_idxArr {len sz:Nat} {x i:A}:wpDraw E (⟨d,.idxArr len sz x i,none,nm⟩::r) st ub K=wpStep E noYF ⟨d,.idxArr len sz x i,none,nm⟩ st ub (kDr E r (kFp { ro:=rdOb (eval E st.tm) (.idxArr len sz x i),rt:=rdTk (eval E st.tm) (.idxArr len sz x i) } K)):=kD_val rfl
theorem kD_part {g:Option Nat} {o:Nat} {x:A}:wpDraw E (⟨d,.part g o x,none,nm⟩::r) st ub K=wpStep E noYF ⟨d,.part g o x,none,nm⟩ st ub (kDr E r (kFp { ro:=rdOb (eval E st.tm) (.part g o x),rt:=rdTk (eval E st.tm) (.part g o x) } K)):=kD_val rfl
theorem kD_idxStr {x i:A}:wpDraw E (⟨d,.idxStr x i,none,nm⟩::r) st ub K=wpStep E noYF ⟨d,.idxStr x i,none,nm⟩ st ub (kDr E r (kFp { ro:=rdOb (eval E st.tm) (.idxStr x i),rt:=rdTk (eval E st.tm) (.idxStr x i) } K)):=kD_val rfl
theorem kD_slStr {x:A} {lo hi:Option A}:wpDraw E (⟨d,.slStr x lo hi,none,nm⟩::r) st ub K=wpStep E noYF ⟨d,.slStr x lo hi,none,nm⟩ st ub (kDr E r (kFp { ro:=rdOb (eval E st.tm) (.slStr x lo hi),rt:=rdTk (eval E st.tm) (.slStr x lo hi) } K)):=kD_val rfl
theorem kD_slSl {sz:Nat} {x:A} {lo hi:Option A}:wpDraw E (⟨d,.slSl sz x lo hi,none,nm⟩::r) st ub K=wpStep E noYF ⟨d,.slSl sz x lo hi,none,nm⟩ st ub (kDr E r (kFp { ro:=rdOb (eval E st.tm) (.slSl sz x lo hi),rt:=rdTk (eval E st.tm) (.slSl sz x lo hi) } K)):=kD_val rfl
theorem kD_lenStr {x:A}:wpDraw E (⟨d,.lenStr x,none,nm⟩::r) st ub K=wpStep E noYF ⟨d,.lenStr x,none,nm⟩ st ub (kDr E r (kFp { ro:=rdOb (eval E st.tm) (.lenStr x),rt:=rdTk (eval E st.tm) (.lenStr x) } K)):=kD_val rfl
theorem kD_lenSl {x:A}:wpDraw E (⟨d,.lenSl x,none,nm⟩::r) st ub K=wpStep E noYF ⟨d,.lenSl x,none,nm⟩ st ub (kDr E r (kFp { ro:=rdOb (eval E st.tm) (.lenSl x),rt:=rdTk (eval E st.tm) (.lenSl x) } K)):=kD_val rfl
theorem kD_lenMap {x:A}:wpDraw E (⟨d,.lenMap x,none,nm⟩::r) st ub K=wpStep E noYF ⟨d,.lenMap x,none,nm⟩ st ub (kDr E r (kFp { ro:=rdOb (eval E st.tm) (.lenMap x),rt:=rdTk (eval E st.tm) (.lenMap x) } K)):=kD_val rfl
theorem kD_extract {x:A} {i:Nat}:wpDraw E (⟨d,.extract x i,none,nm⟩::r) st ub K=wpStep E noYF ⟨d,.extract x i,none,nm⟩ st ub (kDr E r (kFp { ro:=rdOb (eval E st.tm) (.extract x i),rt:=rdTk (eval E st.tm) (.extract x i) } K)):=kD_val rfl
theorem kD_mkFn {f:Fn} {a b:List A}:wpDraw E (⟨d,.mkFn f a b,none,nm⟩::r) st ub K=wpStep E noYF ⟨d,.mkFn f a b,none,nm⟩ st ub (kDr E r (kFp { ro:=rdOb (eval E st.tm) (.mkFn f a b),rt:=rdTk (eval E st.tm) (.mkFn f a b) } K)):=kD_val rfl
theorem kD_lookup {q:LK} {z:V} {ok:Bool} {m k:A}:wpDraw E (⟨d,.lookup q z ok m k,none,nm⟩::r) st ub K=wpStep E noYF ⟨d,.lookup q z ok m k,none,nm⟩ st ub (kDr E r (kFp { ro:=rdOb (eval E st.tm) (.lookup q z ok m k),rt:=rdTk (eval E st.tm) (.lookup q z ok m k) } K)):=kD_val rfl
theorem kD_conv {k:IntKind} {x:A}:wpDraw E (⟨d,.conv k x,none,nm⟩::r) st ub K=wpStep E noYF ⟨d,.conv k x,none,nm⟩ st ub (kDr E r (kFp { ro:=rdOb (eval E st.tm) (.conv k x),rt:=rdTk (eval E st.tm) (.conv k x) } K)):=kD_val rfl
theorem kD_minmax {b:Bool} {xs:List A}:wpDraw E (⟨d,.minmax b xs,none,nm⟩::r) st ub K=wpStep E noYF ⟨d,.minmax b xs,none,nm⟩ st ub (kDr E r (kFp { ro:=rdOb (eval E st.tm) (.minmax b xs),rt:=rdTk (eval E st.tm) (.minmax b xs) } K)):=kD_val rfl
end
attribute [simp ↓] kC_draw kDr_nil kDr_guard kD_store kD_alloc kD_box kD_mov kD_pick kD_bin kD_eq kD_un kD_build kD_load kD_nilCheck kD_fieldAddr kD_idxSl kD_idxArr kD_part kD_idxStr kD_slStr kD_slSl kD_lenStr kD_lenSl kD_lenMap kD_extract kD_mkFn kD_lookup kD_conv kD_minmax
attribute [simp ↓] kDr_app kFp_app kDQ_app kDGd_true kDGd_false kDApp_v kDApp_app kUp_nrm kUp_exit kUp_ret
attribute [simp] drawOk_nil noNew_nil noNew_cons fpOf_nw newOk_noNew
end Go.Pv

/- Maps, ranges over texts, loops unrolled. -/
namespace Go.Pv
open Go
def kL (E:Env) (Yf:YF) (a:C) (n:Nat) (Q:Ex→St→Prop):Ex→St→Prop:=fun e s=>match e with
 | .nrm=>wpLoop (wpC E Yf a) n s Q
 | e=>Q e s
section
variable {E:Env} {Yf:YF} {a:C} {Q:Ex→St→Prop} {s:St} {n:Nat}
theorem kL_nrm:kL E Yf a n Q .nrm s=wpLoop (wpC E Yf a) n s Q:=propext Iff.rfl
theorem kL_exit {i:Nat}:kL E Yf a n Q (.exit i) s=Q (.exit i) s:=propext Iff.rfl
theorem kL_ret:kL E Yf a n Q .ret s=Q .ret s:=propext Iff.rfl
theorem wpLoop_1:wpLoop (wpC E Yf a) 1 s Q=wpC E Yf a s (kL E Yf a 0 Q):=propext Iff.rfl
theorem wpLoop_2:wpLoop (wpC E Yf a) 2 s Q=wpC E Yf a s (kL E Yf a 1 Q):=propext Iff.rfl
theorem wpLoop_3:wpLoop (wpC E Yf a) 3 s Q=wpC E Yf a s (kL E Yf a 2 Q):=propext Iff.rfl
theorem wpLoop_4:wpLoop (wpC E Yf a) 4 s Q=wpC E Yf a s (kL E Yf a 3 Q):=propext Iff.rfl
theorem wp_unroll (n:Nat) (h:wpLoop (wpC E Yf a) n s Q):wpC E Yf (.loop a) s Q:=⟨n,h⟩
end
def wpStr (k:List UInt8→Prop):V→Prop
 | .str s=>k s
 | _=>False
@[simp] theorem wpStr_str (k:List UInt8→Prop) (s:List UInt8):wpStr k (.str s)=k s:=rfl
def MP {α:Type} (f:α→V) (m:List (Int × α)):List (V × V):=m.map fun p=>(.int .i64 p.1,f p.2)
def mfind {α:Type}:List (Int × α)→Int→Option (Nat × α)
 | [],_=>none
 | (k',a)::m,k=>if k=k' then some (0,a) else (mfind m k).map fun p=>(p.1+1,p.2)
def mset {α:Type} (m:List (Int × α)) (k:Int) (a:α):List (Int × α):=match mfind m k with
 | some (i,_)=>m.set i (k,a)
 | none=>m++[(k,a)]
theorem findKey_MP {α:Type} (f:α→V) (k:Int):∀ m:List (Int × α),findKey .int (.int .i64 k) (MP f m)=some ((mfind m k).map fun p=>(p.1,f p.2))
 | []=>rfl
 | (k',a)::m=>by
  have ih:=findKey_MP f k m
  unfold MP at ih ⊢
  simp only [List.map_cons,findKey,eqLeaf,if_true,mfind]
  by_cases h:k=k'
  ·simp [h]
  ·rw [if_neg h,show (k == k')=false by simpa using h]
   simp only [ih,Option.map_some,Option.map_map]
   rfl
@[simp] theorem MP_length {α:Type} (f:α→V) (m:List (Int × α)):(MP f m).length=m.length:=by simp [MP]
def intV (n:Int):V:=.int .i64 n
def mcnt (m:List (Int × Int)) (k:Int):Int:=((mfind m k).map (·.2)).getD 0
theorem lookupV_MP {α:Type} {f:α→V} {ob:Nat→Option Obj'} {l u:Nat} {z:V} {ok:Bool} {k:Int} (m:List (Int × α)) (h:objMap ob l u=some (MP f m)) :
 lookupV ob .int z ok (.map l u) (.int .i64 k)=some (match mfind m k with | some p=>if ok then .tup [f p.2,.bool true] else f p.2 | none=>if ok then .tup [z,.bool false] else z):=by
 simp only [lookupV,isKey,if_true,h,Option.bind_some,findKey_MP,Option.map_some]
 cases mfind m k <;> rfl
theorem lookupV_MI {ob:Nat→Option Obj'} {l u:Nat} {k:Int} (m:List (Int × Int)) (h:objMap ob l u=some (MP intV m)):lookupV ob .int (.int .i64 0) false (.map l u) (.int .i64 k)=some (.int .i64 (mcnt m k)):=by
 rw [lookupV_MP m h,mcnt]
 cases mfind m k <;> rfl
section
variable {E:Env} {Yf:YF} {st:St} {ub:Nat} {K:St→Nat→Prop} {d:Option Nat} {nm:Bool}
theorem kS_rangeStr {x:A}:wpStep E Yf ⟨d,.range true x,none,nm⟩ st ub K=wpStr (fun s=>kApp K st d ub { v:=.iter (objName d nm st.fb ub) ub,obs:=[(objName d nm st.fb ub,⟨ub,.siter s 0⟩)] }) (eval E st.tm x):=by
 rw [wpStep_of _ rfl rfl]
 simp only [aop,name_eq]
 cases eval E st.tm x <;> simp only [wpD_none,wpStr,mkObj,wpD_some]
 rfl
theorem kS_nextStr {x:A} {l u pos:Nat} {s:List UInt8} (hx:eval E st.tm x = .iter l u) (ho:st.ob l=some ⟨u,.siter s pos⟩) (hro:st.ro≤u)
 (h1:pos<s.length→kApp K st d ub { v:=.tup [.bool true,.int .i64 pos,.int .i32 ((Utf8.decode ⟨s.toArray⟩ pos).1:Nat)],obs:=[(l,⟨u,.siter s (pos+(Utf8.decode ⟨s.toArray⟩ pos).2)⟩)] })
 (h2:¬ pos<s.length→kSet K st d ub (.tup [.bool false])):wpStep E Yf ⟨d,.nextStr x,none,nm⟩ st ub K:=by
 rw [wpStep_of _ rfl rfl]
 simp only [aop,hx,ho]
 rw [if_pos (by simpa using hro)]
 by_cases h:pos<s.length
 ·rw [if_pos h,wpD_some];exact h1 h
 ·rw [if_neg h,wpD_one,app_v];exact h2 h
theorem kS_mkMap:wpStep E Yf ⟨d,.mkMap,none,nm⟩ st ub K=kApp K st d ub { v:=.map (objName d nm st.fb ub) ub,obs:=[(objName d nm st.fb ub,⟨ub,.mp 0 []⟩)] }:=by
 rw [wpStep_of _ rfl rfl]
 simp only [aop,mkObj,wpD_some,name_eq]
 rfl
theorem kS_mapSet {α:Type} {f:α→V} {x y z:A} {l u ver:Nat} {k:Int} {a:α} (m:List (Int × α)) (hm:eval E st.tm x = .map l u) (hk:eval E st.tm y = .int .i64 k) (hv:(eval E st.tm z).strip=f a)
 (ho:st.ob l=some ⟨u,.mp ver (MP f m)⟩) (hro:st.ro≤u) (h:kApp K st d ub { v:=none',obs:=[(l,⟨u,.mp (ver+1) (MP f (mset m k a))⟩)] }):wpStep E Yf ⟨d,.mapSet .int x y z,none,nm⟩ st ub K:=by
 have hob:objMap st.ob l u=some (MP f m):=by simp [objMap,ho]
 have hver:objVer st.ob l=ver:=by simp [objVer,ho]
 rw [wpStep_of _ rfl rfl]
 simp only [aop,hm,hk,isKey,if_true,hob,Option.bind_some,findKey_MP,hver,hv]
 rw [if_pos (by simpa using hro)]
 unfold mset at h
 cases hf:mfind m k with
 | none =>
  rw [hf] at h
  simp only [Option.map_none,wpD_some]
  simpa [MP] using h
 | some p =>
  rw [hf] at h
  simp only [Option.map_some,wpD_some]
  have e:(MP f m).set p.1 (V.int .i64 k,f a)=MP f (m.set p.1 (k,a)):=by simp [MP,List.map_set]
  rw [e]
  exact h
end
attribute [simp ↓] kL_nrm kL_exit kL_ret wpLoop_1 wpLoop_2 wpLoop_3 wpLoop_4 kS_rangeStr kS_mkMap
@[simp] theorem lenMapV_map (ob:Nat→Option Obj') (l u:Nat):lenMapV ob (.map l u)=(objMap ob l u).map fun es=>.int .i64 es.length:=rfl
def ddAdd (l:List Int) (k:Int):List Int:=if k∈l then l else l++[k]
def dd (l:List Int):List Int:=l.foldl ddAdd []
theorem dd_snoc (l:List Int) (k:Int):dd (l++[k])=ddAdd (dd l) k:=by simp [dd]
theorem mfind_none {α:Type} {m:List (Int × α)} {k:Int}:mfind m k=none ↔ k ∉ m.map (·.1):=by
 induction m with
 | nil=>simp [mfind]
 | cons p m ih =>
  obtain ⟨k',a⟩:=p
  by_cases h:k=k'
  ·simp [mfind,h]
  ·simp [mfind,h,ih]
theorem mfind_some {α:Type} {m:List (Int × α)} {k:Int} {i:Nat} {a:α} (h:mfind m k=some (i,a)):∃ hi:i<m.length,m[i]=(k,a):=by
 induction m generalizing i with
 | nil=>cases h
 | cons p m ih =>
  obtain ⟨k',a'⟩:=p
  by_cases hk:k=k'
  ·simp only [mfind,hk,if_true,Option.some.injEq,Prod.mk.injEq] at h
   obtain ⟨rfl,rfl⟩:=h
   exact ⟨by simp,by simp [hk]⟩
  ·simp only [mfind,hk,if_false,Option.map_eq_some_iff,Prod.mk.injEq] at h
   obtain ⟨⟨j,b⟩,hj,rfl,rfl⟩:=h
   obtain ⟨h1,h2⟩:=ih hj
   exact ⟨by simpa using h1,by simpa using h2⟩
theorem mset_keys {α:Type} (m:List (Int × α)) (k:Int) (a:α):(mset m k a).map (·.1)=ddAdd (m.map (·.1)) k:=by
 unfold mset ddAdd
 cases h:mfind m k with
 | none=>rw [if_neg (mfind_none.1 h)];simp
 | some p =>
  obtain ⟨i,b⟩:=p
  obtain ⟨hi,hb⟩:=mfind_some h
  have hmem:k∈m.map (·.1):=List.mem_map.2 ⟨_,List.getElem_mem hi,by rw [hb]⟩
  rw [if_pos hmem,List.map_set]
  apply List.ext_getElem (by simp)
  intro j h1 h2
  simp only [List.getElem_set,List.getElem_map]
  split
  ·rename_i hij;subst hij;rw [hb]
  ·rfl
theorem mem_ddAdd {l:List Int} {k x:Int}:x∈ddAdd l k ↔ x∈l∨x=k:=by
 unfold ddAdd
 split
 ·constructor
  ·exact .inl
  ·rintro (h | rfl) <;> assumption
 ·simp
theorem mem_dd {l:List Int} {x:Int}:x∈dd l ↔ x∈l:=by
 have key:∀ (l acc:List Int),x∈l.foldl ddAdd acc ↔ x∈acc∨x∈l:=by
  intro l
  induction l with
  | nil=>intro acc;simp
  | cons a l ih=>intro acc;simp only [List.foldl_cons,ih,mem_ddAdd,List.mem_cons,or_assoc]
 simpa [dd] using key l []
theorem nodup_ddAdd {l:List Int} {k:Int} (h:l.Nodup):(ddAdd l k).Nodup:=by
 unfold ddAdd
 split
 ·exact h
 ·rename_i hk
  rw [List.nodup_append]
  refine ⟨h,by simp,?_⟩
  intro a ha b hb e
  simp only [List.mem_singleton] at hb
  subst hb
  subst e
  exact hk ha
theorem nodup_dd (l:List Int):(dd l).Nodup:=by
 have key:∀ (l acc:List Int),acc.Nodup→(l.foldl ddAdd acc).Nodup:=by
  intro l
  induction l with
  | nil=>intro acc h;exact h
  | cons a l ih=>intro acc h;exact ih _ (nodup_ddAdd h)
 exact key l [] List.nodup_nil
theorem pigeon:∀ (n:Nat) (l:List Int),l.Nodup→(∀ x∈l,0≤x∧x<n)→l.length≤n∧(l.length=n ↔ ∀ k:Nat,k<n→(k:Int)∈l)
 | 0,l,hn,hb=>by
  have:l=[]:=by
   cases l with
   | nil=>rfl
   | cons a l=>have:=hb a (by simp);omega
  subst this
  simp
 | n+1,l,hn,hb=>by
  have hn':(l.erase (n:Int)).Nodup:=hn.erase _
  have hb':∀ x∈l.erase (n:Int),0≤x∧x<n:=fun x hx=>by
   have h1:=hb x (List.mem_of_mem_erase hx)
   have h2:x≠n:=fun e=>by subst e;exact (List.Nodup.not_mem_erase hn) hx
   omega
  obtain ⟨h1,h2⟩:=pigeon n _ hn' hb'
  by_cases hm:(n:Int)∈l
  ·have hl:=List.length_erase_of_mem hm
   have hp:0<l.length:=List.length_pos_of_mem hm
   refine ⟨by omega,?_⟩
   constructor
   ·intro e k hk
    rcases Nat.lt_succ_iff_lt_or_eq.1 hk with h | rfl
    ·exact List.mem_of_mem_erase (h2.1 (by omega) k h)
    ·exact hm
   ·intro hall
    have:=h2.2 (fun k hk=>(List.Nodup.mem_erase_iff hn).2 ⟨by omega,hall k (by omega)⟩)
    omega
  ·rw [List.erase_of_not_mem hm] at h1 h2
   refine ⟨by omega,?_⟩
   constructor
   ·intro e;omega
   ·intro hall;exact absurd (hall n (by omega)) hm
end Go.Pv

/- The reference's runes are the decoder's. -/
namespace Go.Pv.T
open Go Go.Pv
def refOne (n b0 b1 b2 b3:Nat):Nat × Nat :=
 if b0<128 then (1,b0)
 else if 194≤b0∧b0≤223 then (if n<2∨b1<128∨191<b1 then (1,65533) else (2,64 * (b0 - 192)+b1 - 128))
 else if 224≤b0∧b0≤239 then (if n<3∨b1<128∨191<b1∨b2<128∨191<b2 then (1,65533) else
  if 64 * (64 * (b0 - 224)+b1 - 128)+b2 - 128<2048∨55296≤64 * (64 * (b0 - 224)+b1 - 128)+b2 - 128∧64 * (64 * (b0 - 224)+b1 - 128)+b2 - 128≤57343 then (1,65533) else (3,64 * (64 * (b0 - 224)+b1 - 128)+b2 - 128))
 else if 240≤b0∧b0≤244 then (if n<4∨b1<128∨191<b1∨b2<128∨191<b2∨b3<128∨191<b3 then (1,65533) else
  if 64 * (64 * (64 * (b0 - 240)+b1 - 128)+b2 - 128)+b3 - 128<65536∨1114111<64 * (64 * (64 * (b0 - 240)+b1 - 128)+b2 - 128)+b3 - 128 then (1,65533) else (4,64 * (64 * (64 * (b0 - 240)+b1 - 128)+b2 - 128)+b3 - 128))
 else (1,65533)
set_option maxRecDepth 100000 in
set_option maxHeartbeats 4000000 in
theorem refOne_eq (n b0 b1 b2 b3:Nat) (_:1≤n) (h0:b0<256) (h1:b1<256) (h2:b2<256) (h3:b3<256):refOne n b0 b1 b2 b3=((Lib.decodeN n b0 b1 b2 b3).2,(Lib.decodeN n b0 b1 b2 b3).1):=by
 unfold refOne Lib.decodeN
 repeat' split
 all_goals first | (exfalso;omega) | (apply Prod.ext <;> simp only <;> omega)
theorem dlt_t {a b:Int} (h:a<b):decide (a<b)=true:=decide_eq_true h
theorem dlt_f {a b:Int} (h:b≤a):decide (a<b)=false:=decide_eq_false (by omega)
theorem dle_t {a b:Int} (h:a≤b):decide (a≤b)=true:=decide_eq_true h
theorem dle_f {a b:Int} (h:b<a):decide (a≤b)=false:=decide_eq_false (by omega)
theorem idxStr_at {s:List UInt8} {i:Nat} {x:Int} (kk:IntKind) (h:i<s.length) (hx:x=(i:Int)):idxStrV (.str s) (.int kk x)=some (.int .u8 ((s.getD i 0).toNat:Nat)):=by
 subst hx
 simp [idxStrV,List.getElem?_eq_getElem h,List.getD]
set_option maxRecDepth 100000 in
set_option maxHeartbeats 8000000 in
theorem ev216 (s:List UInt8) (hs:s.length≤1000000) (p:Nat) (h:p<s.length):Ev E 216 [.str s,.int .i64 p]
 (.tup [.int .i64 ((refOne (s.length - p) (s.getD p 0).toNat (s.getD (p+1) 0).toNat (s.getD (p+2) 0).toNat (s.getD (p+3) 0).toNat).1:Nat),
  .int .i64 ((refOne (s.length - p) (s.getD p 0).toNat (s.getD (p+1) 0).toNat (s.getD (p+2) 0).toNat (s.getD (p+3) 0).toNat).2:Nat)]):=by
 have g0:=idxStr_at (s:=s) (x:=(p:Int)) .i64 h rfl
 have g1:p+1<s.length→_:=fun h=>idxStr_at (s:=s) (x:=(p:Int)+1) .i64 h (by simp)
 have g2:p+2<s.length→_:=fun h=>idxStr_at (s:=s) (x:=(p:Int)+2) .i64 h (by simp)
 have g3:p+3<s.length→_:=fun h=>idxStr_at (s:=s) (x:=(p:Int)+3) .i64 h (by simp)
 have l0:=(s.getD p 0).toNat_lt
 have l1:=(s.getD (p+1) 0).toNat_lt
 have l2:=(s.getD (p+2) 0).toNat_lt
 have l3:=(s.getD (p+3) 0).toNat_lt
 generalize (s.getD p 0).toNat=c0 at *
 generalize (s.getD (p+1) 0).toNat=c1 at *
 generalize (s.getD (p+2) 0).toNat=c2 at *
 generalize (s.getD (p+3) 0).toNat=c3 at *
 have w0:IntKind.i64.wrap (c0:Int)=c0:=wrap64' (by omega) (by omega)
 have w1:IntKind.i64.wrap (c1:Int)=c1:=wrap64' (by omega) (by omega)
 have w2:IntKind.i64.wrap (c2:Int)=c2:=wrap64' (by omega) (by omega)
 have w3:IntKind.i64.wrap (c3:Int)=c3:=wrap64' (by omega) (by omega)
 refine Ev_wpK (af:=F216) rfl ?_
 simp [F216,g0,convV,w0]
 by_cases a1:(c0:Int)<128
 ·simp [a1]
  exact endV_2 rfl (by simp [refOne,show c0<128 by omega]) (by simp [refOne,show c0<128 by omega]) rfl rfl
 have v0:∀ x:Int,-1000000000≤x→x≤1000000000→IntKind.i64.wrap x=x:=fun x h h'=>wrap64' (by omega) (by omega)
 by_cases k2:194≤(c0:Int)∧(c0:Int)≤223
 ·obtain ⟨k2a,k2b⟩:=k2
  by_cases hl:(s.length:Int)<(p:Int)+2
  ·simp (disch:=omega) [a1,k2a,k2b,hl,v0,dle_f,List.getElem?_cons_zero]
   exact endV_2 rfl (by simp;unfold refOne;repeat' split
                        all_goals omega) (by simp;unfold refOne;repeat' split
                                             all_goals omega) rfl rfl
  have g1:=g1 (by omega)
  simp (disch:=omega) [a1,k2a,k2b,hl,v0,dle_f,List.getElem?_cons_zero]
  refine wp_unroll 2 ?_
  by_cases d1:(c1:Int)<128
  ·simp (disch:=omega) [g1,d1,v0,convV,List.getElem?_cons_zero]
   exact endV_2 rfl (by simp;unfold refOne;repeat' split
                        all_goals omega) (by simp;unfold refOne;repeat' split
                                             all_goals omega) rfl rfl
  by_cases d1':191<(c1:Int)
  ·simp (disch:=omega) [g1,d1,d1',v0,convV,List.getElem?_cons_zero]
   exact endV_2 rfl (by simp;unfold refOne;repeat' split
                        all_goals omega) (by simp;unfold refOne;repeat' split
                                             all_goals omega) rfl rfl
  simp (disch:=omega) [g1,d1,d1',v0,convV,List.getElem?_cons_zero,dlt_f,dle_f]
  exact endV_2 rfl (by simp;unfold refOne;repeat' split
                       all_goals omega) (by simp;unfold refOne;repeat' split
                                            all_goals omega) rfl rfl
 by_cases k3:224≤(c0:Int)∧(c0:Int)≤239
 ·obtain ⟨k3a,k3b⟩:=k3
  by_cases hl:(s.length:Int)<(p:Int)+3
  ·simp (disch:=omega) [a1,k3a,k3b,hl,v0,dle_t,dle_f,List.getElem?_cons_zero]
   exact endV_2 rfl (by simp;unfold refOne;repeat' split
                        all_goals omega) (by simp;unfold refOne;repeat' split
                                             all_goals omega) rfl rfl
  have g1:=g1 (by omega)
  have g2:=g2 (by omega)
  simp (disch:=omega) [a1,k3a,k3b,hl,v0,dle_t,dle_f,List.getElem?_cons_zero]
  refine wp_unroll 3 ?_
  by_cases d1:(c1:Int)<128
  ·simp (disch:=omega) [g1,d1,v0,convV,List.getElem?_cons_zero]
   exact endV_2 rfl (by simp;unfold refOne;repeat' split
                        all_goals omega) (by simp;unfold refOne;repeat' split
                                             all_goals omega) rfl rfl
  by_cases e1:191<(c1:Int)
  ·simp (disch:=omega) [g1,d1,e1,v0,convV,List.getElem?_cons_zero]
   exact endV_2 rfl (by simp;unfold refOne;repeat' split
                        all_goals omega) (by simp;unfold refOne;repeat' split
                                             all_goals omega) rfl rfl
  by_cases d2:(c2:Int)<128
  ·simp (disch:=omega) [g1,g2,d1,e1,d2,v0,convV,List.getElem?_cons_zero]
   exact endV_2 rfl (by simp;unfold refOne;repeat' split
                        all_goals omega) (by simp;unfold refOne;repeat' split
                                             all_goals omega) rfl rfl
  by_cases e2:191<(c2:Int)
  ·simp (disch:=omega) [g1,g2,d1,e1,d2,e2,v0,convV,List.getElem?_cons_zero]
   exact endV_2 rfl (by simp;unfold refOne;repeat' split
                        all_goals omega) (by simp;unfold refOne;repeat' split
                                             all_goals omega) rfl rfl
  by_cases f1:64 * (64 * ((c0:Int) - 224)+c1 - 128)+c2 - 128<2048
  ·simp (disch:=omega) [g1,g2,d1,e1,d2,e2,f1,v0,convV,List.getElem?_cons_zero]
   exact endV_2 rfl (by simp;unfold refOne;repeat' split
                        all_goals omega) (by simp;unfold refOne;repeat' split
                                             all_goals omega) rfl rfl
  by_cases f2:55296≤64 * (64 * ((c0:Int) - 224)+c1 - 128)+c2 - 128
  ·by_cases f3:64 * (64 * ((c0:Int) - 224)+c1 - 128)+c2 - 128≤57343
   ·simp (disch:=omega) [g1,g2,d1,e1,d2,e2,f1,f2,f3,v0,dlt_f,convV,List.getElem?_cons_zero]
    exact endV_2 rfl (by simp;unfold refOne;repeat' split
                         all_goals omega) (by simp;unfold refOne;repeat' split
                                              all_goals omega) rfl rfl
   simp (disch:=omega) [g1,g2,d1,e1,d2,e2,f1,f2,f3,v0,dlt_f,convV,List.getElem?_cons_zero]
   exact endV_2 rfl (by simp;unfold refOne;repeat' split
                        all_goals omega) (by simp;unfold refOne;repeat' split
                                             all_goals omega) rfl rfl
  simp (disch:=omega) [g1,g2,d1,e1,d2,e2,f1,f2,v0,dlt_f,convV,List.getElem?_cons_zero]
  exact endV_2 rfl (by simp;unfold refOne;repeat' split
                       all_goals omega) (by simp;unfold refOne;repeat' split
                                            all_goals omega) rfl rfl
 by_cases k4:240≤(c0:Int)∧(c0:Int)≤244
 ·obtain ⟨k4a,k4b⟩:=k4
  by_cases hl:(s.length:Int)<(p:Int)+4
  ·simp (disch:=omega) [a1,k4a,k4b,hl,v0,dle_t,dle_f,List.getElem?_cons_zero]
   exact endV_2 rfl (by simp;unfold refOne;repeat' split
                        all_goals omega) (by simp;unfold refOne;repeat' split
                                             all_goals omega) rfl rfl
  have g1:=g1 (by omega)
  have g2:=g2 (by omega)
  have g3:=g3 (by omega)
  simp (disch:=omega) [a1,k4a,k4b,hl,v0,dle_t,dle_f,List.getElem?_cons_zero]
  refine wp_unroll 4 ?_
  by_cases d1:(c1:Int)<128
  ·simp (disch:=omega) [g1,d1,v0,convV,List.getElem?_cons_zero]
   exact endV_2 rfl (by simp;unfold refOne;repeat' split
                        all_goals omega) (by simp;unfold refOne;repeat' split
                                             all_goals omega) rfl rfl
  by_cases e1:191<(c1:Int)
  ·simp (disch:=omega) [g1,d1,e1,v0,convV,List.getElem?_cons_zero]
   exact endV_2 rfl (by simp;unfold refOne;repeat' split
                        all_goals omega) (by simp;unfold refOne;repeat' split
                                             all_goals omega) rfl rfl
  by_cases d2:(c2:Int)<128
  ·simp (disch:=omega) [g1,g2,d1,e1,d2,v0,convV,List.getElem?_cons_zero]
   exact endV_2 rfl (by simp;unfold refOne;repeat' split
                        all_goals omega) (by simp;unfold refOne;repeat' split
                                             all_goals omega) rfl rfl
  by_cases e2:191<(c2:Int)
  ·simp (disch:=omega) [g1,g2,d1,e1,d2,e2,v0,convV,List.getElem?_cons_zero]
   exact endV_2 rfl (by simp;unfold refOne;repeat' split
                        all_goals omega) (by simp;unfold refOne;repeat' split
                                             all_goals omega) rfl rfl
  by_cases d3:(c3:Int)<128
  ·simp (disch:=omega) [g1,g2,g3,d1,e1,d2,e2,d3,v0,convV,List.getElem?_cons_zero]
   exact endV_2 rfl (by simp;unfold refOne;repeat' split
                        all_goals omega) (by simp;unfold refOne;repeat' split
                                             all_goals omega) rfl rfl
  by_cases e3:191<(c3:Int)
  ·simp (disch:=omega) [g1,g2,g3,d1,e1,d2,e2,d3,e3,v0,convV,List.getElem?_cons_zero]
   exact endV_2 rfl (by simp;unfold refOne;repeat' split
                        all_goals omega) (by simp;unfold refOne;repeat' split
                                             all_goals omega) rfl rfl
  by_cases f1:64 * (64 * (64 * ((c0:Int) - 240)+c1 - 128)+c2 - 128)+c3 - 128<65536
  ·simp (disch:=omega) [g1,g2,g3,d1,e1,d2,e2,d3,e3,f1,v0,convV,List.getElem?_cons_zero]
   exact endV_2 rfl (by simp;unfold refOne;repeat' split
                        all_goals omega) (by simp;unfold refOne;repeat' split
                                             all_goals omega) rfl rfl
  by_cases f2:1114111<64 * (64 * (64 * ((c0:Int) - 240)+c1 - 128)+c2 - 128)+c3 - 128
  ·simp (disch:=omega) [g1,g2,g3,d1,e1,d2,e2,d3,e3,f1,f2,v0,convV,List.getElem?_cons_zero]
   exact endV_2 rfl (by simp;unfold refOne;repeat' split
                        all_goals omega) (by simp;unfold refOne;repeat' split
                                             all_goals omega) rfl rfl
  simp (disch:=omega) [g1,g2,g3,d1,e1,d2,e2,d3,e3,f1,f2,v0,dle_t,dle_f,convV,List.getElem?_cons_zero]
  exact endV_2 rfl (by simp;unfold refOne;repeat' split
                       all_goals omega) (by simp;unfold refOne;repeat' split
                                            all_goals omega) rfl rfl
 have q:c0<194∨244<c0:=by omega
 rcases q with q | q
 ·simp (disch:=omega) [a1,dle_f]
  exact endV_2 rfl (by simp;unfold refOne;repeat' split
                       all_goals omega) (by simp;unfold refOne;repeat' split
                                            all_goals omega) rfl rfl
 ·simp (disch:=omega) [a1,dle_t,dle_f]
  exact endV_2 rfl (by simp;unfold refOne;repeat' split
                       all_goals omega) (by simp;unfold refOne;repeat' split
                                            all_goals omega) rfl rfl
end Go.Pv.T

/- Runes of a text, the reference's way. -/
namespace Go.Pv.T
open Go Go.Pv
@[simp] theorem str_strip (s:List UInt8):(V.str s).strip = .str s:=rfl
@[simp] theorem str_pureTop (s:List UInt8):(V.str s).pureTop=true:=rfl
@[simp] theorem str_pureLeaf (s:List UInt8):(V.str s).pureLeaf=true:=rfl
@[simp] theorem sl_strip (t:Option (Nat × Nat)) (nl:Bool) (n:Nat) (cs:List V):(V.sl t nl n cs).strip = .sl none nl n cs:=rfl
@[simp] theorem sl_strip1 (t:Option (Nat × Nat)) (nl:Bool) (n:Nat) (cs:List V):(V.sl t nl n cs).strip1 = .sl none nl n cs:=rfl
@[simp] theorem sl_pureTop (nl:Bool) (n:Nat) (cs:List V):(V.sl none nl n cs).pureTop=true:=rfl
@[simp] theorem sl_pureLeaf (nl:Bool) (n:Nat) (cs:List V):(V.sl none nl n cs).pureLeaf=true:=rfl
def rU (s:List UInt8) (p:Nat):Nat:=(Utf8.decode ⟨s.toArray⟩ p).1
def rW (s:List UInt8) (p:Nat):Nat:=(Utf8.decode ⟨s.toArray⟩ p).2
theorem one_eq {s:List UInt8} {p:Nat} (h:p<s.length):refOne (s.length - p) (s.getD p 0).toNat (s.getD (p+1) 0).toNat (s.getD (p+2) 0).toNat (s.getD (p+3) 0).toNat=(rW s p,rU s p):=by
 rw [refOne_eq _ _ _ _ _ (by omega) (s.getD p 0).toNat_lt (s.getD (p+1) 0).toNat_lt (s.getD (p+2) 0).toNat_lt (s.getD (p+3) 0).toNat_lt]
 unfold rW rU
 rw [Lib.decode_N]
set_option maxRecDepth 100000 in
theorem one_w (n b0 b1 b2 b3:Nat) (hn:1≤n):1≤(refOne n b0 b1 b2 b3).1∧(refOne n b0 b1 b2 b3).1≤n:=by
 unfold refOne
 repeat' split
 all_goals (simp only;omega)
set_option maxRecDepth 100000 in
theorem one_bad (n b0 b1 b2 b3:Nat) (h1:b1<256) (_:b2<256) (h:(refOne n b0 b1 b2 b3).2=65533):(refOne n b0 b1 b2 b3).1=1∨(refOne n b0 b1 b2 b3).1=3:=by
 revert h
 unfold refOne
 repeat' split
 all_goals (intro h;simp at h ⊢;try omega)
theorem rW_pos {s:List UInt8} {p:Nat} (h:p<s.length):1≤rW s p∧p+rW s p≤s.length:=by
 have:=one_w (s.length - p) (s.getD p 0).toNat (s.getD (p+1) 0).toNat (s.getD (p+2) 0).toNat (s.getD (p+3) 0).toNat (by omega)
 rw [one_eq h] at this
 simp only at this
 omega
theorem rU_bad {s:List UInt8} {p:Nat} (h:p<s.length) (hu:rU s p=65533):rW s p=1∨rW s p=3:=by
 have:=one_bad (s.length - p) (s.getD p 0).toNat (s.getD (p+1) 0).toNat (s.getD (p+2) 0).toNat (s.getD (p+3) 0).toNat (s.getD (p+1) 0).toNat_lt (s.getD (p+2) 0).toNat_lt
 rw [one_eq h] at this
 exact this hu
def RN (s:List UInt8) (p:Nat):List Int:=(runesL s (s.length - p) p).map fun r=>((r:Nat):Int)
theorem runesI_eq (s:List UInt8):runesI s=RN s 0:=rfl
theorem runesL_fuel (s:List UInt8):∀ (b b' p:Nat),s.length≤p+b→s.length≤p+b'→runesL s b p=runesL s b' p
 | 0,0,_,_,_=>rfl
 | 0,b'+1,p,h,_=>by
  unfold runesL
  rw [if_neg (by omega)]
 | b+1,0,p,_,h=>by
  unfold runesL
  rw [if_neg (by omega)]
 | b+1,b'+1,p,h,h'=>by
  unfold runesL
  by_cases hp:p<s.length
  ·rw [if_pos hp,if_pos hp]
   have:=(rW_pos hp).1
   unfold rW at this
   rw [runesL_fuel s b b' _ (by omega) (by omega)]
  ·rw [if_neg hp,if_neg hp]
theorem RN_step {s:List UInt8} {p:Nat} (h:p<s.length):RN s p=(rU s p:Int)::RN s (p+rW s p):=by
 have hw:=rW_pos h
 unfold RN
 obtain ⟨n,hn⟩:∃ n,s.length - p=n+1:=⟨s.length - p - 1,by omega⟩
 rw [hn]
 conv=>lhs;unfold runesL
 rw [if_pos h,List.map_cons]
 congr 2
 exact runesL_fuel s _ _ _ (by unfold rW at hw;omega) (by unfold rW at hw ⊢;omega)
theorem RN_end {s:List UInt8} {p:Nat} (h:s.length≤p):RN s p=[]:=by
 unfold RN
 rw [show s.length - p=0 by omega]
 rfl
theorem runesL_len (s:List UInt8):∀ (b p:Nat),(runesL s b p).length≤b
 | 0,_=>Nat.le_refl _
 | b+1,p=>by
  unfold runesL
  split
  ·have:=runesL_len s b (p+(Utf8.decode ⟨s.toArray⟩ p).2)
   simp only [List.length_cons]
   omega
  ·simp
theorem runesI_len (s:List UInt8):(runesI s).length≤s.length:=by
 rw [runesI_eq,RN,List.length_map]
 exact runesL_len s _ _
def VD (s:List UInt8) (p:Nat):Bool:=Lib.validD (s.drop p)
theorem dec_drop (s:List UInt8) (p:Nat):Lib.decodeL (s.drop p)=(rU s p,rW s p):=Lib.decodeL_drop ⟨s.toArray⟩ p
theorem VD_step {s:List UInt8} {p:Nat} (h:p<s.length):VD s p=if rU s p=65533∧rW s p=1 then false else VD s (p+rW s p):=by
 have hne:s.drop p≠[]:=fun e=>by have:=congrArg List.length e;rw [List.length_drop] at this;simp at this;omega
 unfold VD
 rw [Lib.validD_step _ hne,dec_drop]
 simp only [List.drop_drop]
theorem VD_end {s:List UInt8} {p:Nat} (h:s.length≤p):VD s p=true:=by
 unfold VD
 rw [List.drop_of_length_le h]
 rfl
theorem ev216' (s:List UInt8) (hs:s.length≤1000000) (p:Nat) (h:p<s.length):Ev E 216 [.str s,.int .i64 p] (.tup [.int .i64 (rW s p:Nat),.int .i64 (rU s p:Nat)]):=by
 have:=ev216 s hs p h
 rw [one_eq h] at this
 exact this
theorem ev172 (s:List UInt8) (hs:s.length≤1000000):Ev E 172 [.str s] (.sl (some (0,1)) false (runesI s).length ((runesI s).flatMap intC)):=by
 refine Ev_wpK (af:=F172) rfl ?_
 simp [F172]
 refine kS_buildSl (cs:=[]) rfl rfl rfl ?_
 simp
 refine wp_loopF (n:=s.length) [(3,24)] (fun k st=>∃ p u pre,k=s.length - p∧p≤s.length∧st.tm 4 = .int .i64 (p:Nat)∧runesI s=pre++RN s p∧st.tm 3 = .sl (some (u,1)) false pre.length (pre.flatMap intC)∧st.tk u=true) rfl rfl
  ⟨0,64,[],by simp [runesI_eq]⟩ ?_
 rintro k st ⟨p,u,pre,rfl,hp,h4,hpre,h3,hu⟩ f
 have f0:st.tm 0 = .str s:=by rw [f.t 0 (by simp)];simp
 have hpl:pre.length≤1000000:=by
  have h1:=congrArg List.length hpre
  have h2:=runesI_len s
  rw [List.length_append] at h1
  omega
 by_cases hlt:p<s.length
 ·have hw:=rW_pos hlt
  simp [h4,f0,hlt]
  refine kS_ev (ev216' s hs p hlt) (by simp) rfl rfl ?_
  simp [h3]
  refine kS_buildSl (cs:=[.int .i64 (rU s p)]) (by simp [splice]) rfl rfl ?_
  simp
  refine kS_append_tok (u:=u) (nl:=false) (n:=pre.length) (cs:=pre.flatMap intC) (ys:=[.int .i64 (rU s p)]) (by simp) (by simp [app_tk,hu]) (by simp [slCells]) (by simp) (by rw [flatMap_len intC_len]) (by decide) rfl (by simp;omega) (by simp;omega) ?_
  simp [h4]
  refine ⟨s.length - (p+rW s p),by omega,p+rW s p,by omega,by omega,by rw [wrap64' (by omega) (by omega)];simp,_,pre++[(rU s p:Int)],?_,?_,Or.inl rfl⟩
  ·rw [hpre,RN_step hlt];simp
  ·simp [intC]
 ·have:p=s.length:=by omega
  subst this
  simp [h4,f0]
  rw [RN_end (Nat.le_refl _),List.append_nil] at hpre
  exact endV_tokG (u:=u) (by simp [f.d]) (by simp [h3,hpre]) (by simpa using hu)
theorem ev174 (s:List UInt8) (hs:s.length≤1000000):Ev E 174 [.str s] (.bool (Lib.validD s)):=by
 refine Ev_wpK (af:=F174) rfl ?_
 simp [F174]
 refine wp_loopF (n:=s.length) [(2,24)] (fun k st=>∃ p,k=s.length - p∧p≤s.length∧st.tm 3 = .int .i64 (p:Nat)∧Lib.validD s=VD s p) rfl rfl
  ⟨0,by simp [VD]⟩ ?_
 rintro k st ⟨p,rfl,hp,h3,hv⟩ f
 have f0:st.tm 0 = .str s:=by rw [f.t 0 (by simp)];simp
 by_cases hlt:p<s.length
 ·have hw:=rW_pos hlt
  rw [VD_step hlt] at hv
  simp [h3,f0,hlt]
  refine kS_ev (ev216' s hs p hlt) (by simp) rfl rfl ?_
  by_cases hb:rU s p=65533
  ·rcases rU_bad hlt hb with h1 | h1
   ·rw [if_pos ⟨hb,h1⟩] at hv
    simp [hb,h1]
    exact endV_1 (by simp [f.d]) (by simp [hv]) rfl
   ·rw [if_neg (by omega)] at hv
    simp [hb,h1,h3]
    exact ⟨s.length - (p+3),by omega,p+3,rfl,by omega,by rw [wrap64' (by omega) (by omega)];simp,by rw [hv,h1]⟩
  ·rw [if_neg (by omega)] at hv
   have hb':((rU s p:Int) == 65533)=false:=by rw [beq_eq_false_iff_ne];omega
   simp [hb',h3]
   exact ⟨s.length - (p+rW s p),by omega,p+rW s p,rfl,by omega,by rw [wrap64' (by omega) (by omega)];simp,hv⟩
 ·have:p=s.length:=by omega
  subst this
  rw [VD_end (Nat.le_refl _)] at hv
  simp [h3,f0]
  exact endV_1 (by simp [f.d]) (by simp [hv]) rfl
end Go.Pv.T

/- The reference's names, and tables. -/
namespace Go.Pv.T
open Go Go.Pv
theorem idx_sl {α:Type} {f:α→List V} {k:Nat} (hf:∀ a,(f a).length=k) (t:Option (Nat × Nat)) (nl:Bool) (l:List α) (kk:IntKind) {i:Nat} (h:i<l.length):idxSlV k (.sl t nl l.length (l.flatMap f)) (.int kk i)=some (.eptr (l.flatMap f) (i * k)):=by
 simp only [idxSlV_sl,flatMap_len hf]
 rw [if_pos (by simp;omega)]
 rfl
theorem idx_sl0 {α:Type} {f:α→List V} {k:Nat} (hf:∀ a,(f a).length=k) (t:Option (Nat × Nat)) (nl:Bool) (l:List α) (kk:IntKind) (h:0<l.length):idxSlV k (.sl t nl l.length (l.flatMap f)) (.int kk 0)=some (.eptr (l.flatMap f) 0):=by
 have:=idx_sl hf t nl l kk h
 simpa using this
theorem int_at (l:List Int) {i:Nat} (h:i<l.length):(l.flatMap intC)[i]? = some (.int .i64 l[i]):=by
 have:=fld_at (f:=intC) intC_len l h (by decide:0<1)
 rw [Nat.mul_one,Nat.add_zero] at this
 rw [this]
 rfl
theorem str_at (l:List (List UInt8)) {i:Nat} (h:i<l.length):(l.flatMap strC)[i]? = some (.str l[i]):=by
 have:=fld_at (f:=strC) strC_len l h (by decide:0<1)
 rw [Nat.mul_one,Nat.add_zero] at this
 rw [this]
 rfl
theorem wrapU {i N:Nat} (h:i<N) (hN:N≤1000000000):IntKind.i64.wrap ((i:Int)+1)=(i:Int)+1:=wrap64' (by omega) (by omega)
theorem dne_t {a b:Int} (h:a<b∨b<a):(a != b)=true:=by simp;omega
theorem dne_f {a b:Int} (h:a=b):(a != b)=false:=by simp [h]
def headDig:List Int→Bool
 | []=>false
 | c::_=>digitB c
def nmOk (l:List Int):Bool:=decide (1≤l.length) && decide (l.length≤20) && !(headDig l) && l.all partB
def nameB (s:List UInt8):Bool:=!resB s && Lib.validD s && nmOk (runesI s)
def lessB (a b:List UInt8):Bool:=decide (cmpL (runesI a) (runesI b)<0)
def okAt (t:List (List UInt8)) (j:Nat):Bool:=nameB (t.getD j []) && (j == 0 || lessB (t.getD (j - 1) []) (t.getD j []))
def tabB (t:List (List UInt8)):Bool:=(List.range t.length).all (okAt t)
theorem headD_get {l:List Int} (h:0<l.length):headDig l=digitB l[0]:=by
 cases l with
 | nil=>simp at h
 | cons a l=>rfl
theorem all_at {α:Type} {p:α→Bool} {l:List α} (h:∀ j (hj:j<l.length),p l[j]=true):l.all p=true:=by
 rw [List.all_eq_true]
 intro x hx
 obtain ⟨j,hj,rfl⟩:=List.getElem_of_mem hx
 exact h j hj
theorem all_not {α:Type} {p:α→Bool} {l:List α} {j:Nat} (hj:j<l.length) (h:p l[j]=false):l.all p=false:=by
 rw [List.all_eq_false]
 exact ⟨_,List.getElem_mem hj,by rw [h];decide⟩
theorem part_cases (c:Int):(partB c=false∧(c<48∨(57<c∧c<65)∨(90<c∧c<95)∨c=96∨(122<c∧c<128)))∨(partB c=true∧((48≤c∧c≤57)∨(65≤c∧c≤90)∨c=95∨(97≤c∧c≤122)∨127<c)):=by
 simp [partB,digitB]
 omega
def L126:C:=.seq (.seq (.region [
 ⟨(some 37),.mov (.t 4),none,false⟩,
 ⟨(some 38),.mov (.t 3),none,false⟩,
 ⟨(some 39),.lenSl (.t 38),none,false⟩,
 ⟨(some 40),.bin .lss (.t 37) (.t 39),none,false⟩])
 (.cond (.t 40) (.skip)
  (.exit 0)))
 (.seq (.block 1 (.seq (.region [
  ⟨(some 43),.mov (.t 3),none,false⟩,
  ⟨(some 44),.mov (.t 4),none,false⟩,
  ⟨(some 45),.idxSl 1 (.t 43) (.t 44),none,false⟩,
  ⟨(some 46),.load none (.t 45),none,false⟩,
  ⟨(some 5),.mov (.t 46),none,false⟩])
  (.seq (.region [
   ⟨(some 47),.mov (.t 5),none,false⟩,
   ⟨(some 48),.bin .lss (.t 47) (.c (.int .i64 128)),none,false⟩,
   ⟨(some 49),.mov (.t 48),none,false⟩,
   ⟨(some 50),.mov (.t 5),(some (49,true)),false⟩,
   ⟨(some 51),.bin .neq (.t 50) (.c (.int .i64 95)),(some (49,true)),false⟩,
   ⟨(some 52),.pick (.t 49) (.t 51) (.c (.bool false)),none,false⟩,
   ⟨(some 53),.mov (.t 52),none,false⟩,
   ⟨(some 54),.mov (.t 5),(some (53,true)),false⟩,
   ⟨(some 55),.bin .lss (.t 54) (.c (.int .i64 48)),(some (53,true)),false⟩,
   ⟨(some 56),.mov (.t 55),(some (53,true)),false⟩,
   ⟨(some 57),.mov (.t 5),(some (56,false)),false⟩,
   ⟨(some 58),.bin .gtr (.t 57) (.c (.int .i64 57)),(some (56,false)),false⟩,
   ⟨(some 59),.pick (.t 56) (.c (.bool true)) (.t 58),(some (53,true)),false⟩,
   ⟨(some 60),.pick (.t 53) (.t 59) (.c (.bool false)),none,false⟩,
   ⟨(some 61),.mov (.t 60),none,false⟩,
   ⟨(some 62),.mov (.t 5),(some (61,true)),false⟩,
   ⟨(some 63),.bin .lss (.t 62) (.c (.int .i64 65)),(some (61,true)),false⟩,
   ⟨(some 64),.mov (.t 63),(some (61,true)),false⟩,
   ⟨(some 65),.mov (.t 5),(some (64,false)),false⟩,
   ⟨(some 66),.bin .gtr (.t 65) (.c (.int .i64 90)),(some (64,false)),false⟩,
   ⟨(some 67),.pick (.t 64) (.c (.bool true)) (.t 66),(some (61,true)),false⟩,
   ⟨(some 68),.pick (.t 61) (.t 67) (.c (.bool false)),none,false⟩,
   ⟨(some 69),.mov (.t 68),none,false⟩,
   ⟨(some 70),.mov (.t 5),(some (69,true)),false⟩,
   ⟨(some 71),.bin .lss (.t 70) (.c (.int .i64 97)),(some (69,true)),false⟩,
   ⟨(some 72),.mov (.t 71),(some (69,true)),false⟩,
   ⟨(some 73),.mov (.t 5),(some (72,false)),false⟩,
   ⟨(some 74),.bin .gtr (.t 73) (.c (.int .i64 122)),(some (72,false)),false⟩,
   ⟨(some 75),.pick (.t 72) (.c (.bool true)) (.t 74),(some (69,true)),false⟩,
   ⟨(some 76),.pick (.t 69) (.t 75) (.c (.bool false)),none,false⟩])
   (.cond (.t 76) (.seq (.region [
    ⟨(some 2),.mov (.c (.bool false)),none,false⟩])
    (.ret))
    (.skip)))))
  (.region [
   ⟨(some 41),.mov (.t 4),none,false⟩,
   ⟨(some 42),.bin .add (.t 41) (.c (.int .i64 1)),none,false⟩,
   ⟨(some 4),.mov (.t 42),none,false⟩]))
theorem ev126 (s:List UInt8) (hs:s.length≤1000000):Ev E 126 [.str s] (.bool (nameB s)):=by
 refine Ev_wpK (af:=F126) rfl ?_
 simp [F126]
 refine kS_ev (ev172 s hs) (by simp) rfl rfl ?_
 have hl:=runesI_len s
 unfold nameB nmOk
 generalize hr:runesI s=l at *
 simp [retA,toksRes,V.toks,V.tok,inRes,inTop,inLeaf]
 by_cases a1:(l.length:Int)<1
 ·simp [a1]
  exact endV_1 rfl (by simp;omega) rfl
 by_cases a2:20<(l.length:Int)
 ·simp [a1,a2]
  exact endV_1 rfl (by simp;omega) rfl
 have h0:0<l.length:=by omega
 have hh:=headD_get h0
 simp [a1,a2]
 refine kS_ev (ev173 s) (by simp) rfl rfl ?_
 cases b1:resB s
 case true =>
  simp
  exact endV_1 rfl (by simp) rfl
 simp
 refine kS_ev (ev174 s hs) (by simp) rfl rfl ?_
 cases b2:Lib.validD s
 case false =>
  simp
  exact endV_1 rfl (by simp) rfl
 have goon:∀ {st:St},st.df=[]→st.tm 4 = .int .i64 0→st.tm 3 = .sl (some (128,1)) false l.length (l.flatMap intC)→headDig l=false →
  wpC E noYF (.loop L126) st (kBlk 0 (kSeq E noYF (.seq (.region [⟨(some 2),.mov (.c (.bool true)),none,false⟩]) (.ret)) (kEnd [.t 2] (.bool (!false && true && (decide (1≤l.length) && decide (l.length≤20) && !(headDig l) && l.all partB)))))):=by
  intro st hd h4 h3 hg
  refine wp_loopUp [(2,2),(4,5),(37,76)] l.length (fun i s=>s.tm 4 = .int .i64 i∧∀ j (hj:j<l.length),j<i→partB l[j]=true) rfl rfl ⟨by simp [h4],fun j _ h=>by omega⟩ ?_
  rintro i s hi ⟨h4,hb⟩ f
  have f3:s.tm 3 = .sl (some (128,1)) false l.length (l.flatMap intC):=by rw [f.t 3 (by simp)];simp [h3]
  by_cases hlt:i<l.length
  ·have hw:=wrapU hlt (by omega)
   obtain ⟨c,hc⟩:∃ c,l[i]=c:=⟨_,rfl⟩
   have hi0:=int_at l hlt
   rw [hc] at hi0
   rcases part_cases c with ⟨hp,q⟩ | ⟨hp,q⟩
   ·rcases q with q | q | q | q | q
    all_goals
     simp (disch:=omega) [L126,h4,f3,hlt,idx_sl intC_len,hi0,dlt_t,dlt_f,dne_t]
     exact endV_1 (by simp [f.d,hd]) (by simp [all_not hlt (hc ▸ hp)]) rfl
   ·rcases q with q | q | q | q | q
    all_goals
     simp (disch:=omega) [L126,h4,f3,hlt,idx_sl intC_len,hi0,dlt_t,dlt_f,dne_t,dne_f,hw]
     intro j hj hji
     rcases Nat.lt_succ_iff_lt_or_eq.1 hji with h | rfl
     ·exact hb j hj h
     ·exact hc ▸ hp
  ·have:i=l.length:=by omega
   subst this
   simp [L126,h4,f3]
   exact endV_1 (by simp [f.d,hd]) (by simp [hg,all_at (fun j hj=>hb j hj hj)];omega) rfl
 obtain ⟨c,hc⟩:∃ c,l[0]=c:=⟨_,rfl⟩
 have hi0:=int_at l h0
 rw [hc] at hh hi0
 by_cases d1:48≤c
 ·by_cases d2:c≤57
  ·simp [idx_sl0 intC_len _ _ l _ h0,hi0,d1,d2]
   exact endV_1 rfl (by simp [hh,digitB,d1,d2]) rfl
  simp [idx_sl0 intC_len _ _ l _ h0,hi0,d1,d2]
  exact goon rfl (by simp) (by simp) (by simp [hh,digitB,d2])
 simp [idx_sl0 intC_len _ _ l _ h0,hi0,d1]
 exact goon rfl (by simp) (by simp) (by simp [hh,digitB,d1])
end Go.Pv.T

/- Order and tables, the reference's; names, the program's. -/
namespace Go.Pv.T
open Go Go.Pv
theorem cmpI_lt (a b:Int):(cmpI a b<0)=(a<b):=by
 unfold cmpI
 split
 ·simp [*]
 ·split <;> simp [*]
theorem cmpI_z {a b:Int}:cmpI a b=0 ↔ a=b:=by
 unfold cmpI
 split
 ·simp;omega
 ·split
  ·simp;omega
  ·simp;omega
theorem ev127 (a b:List UInt8) (ha:a.length≤1000000) (hb:b.length≤1000000):Ev E 127 [.str a,.str b] (.bool (lessB a b)):=by
 refine Ev_wpK (af:=F127) rfl ?_
 simp [F127]
 refine kS_ev (ev172 a ha) (by simp) rfl rfl ?_
 have hxl:=runesI_len a
 have hyl:=runesI_len b
 unfold lessB
 simp [retA,toksRes,V.toks,V.tok,inRes,inTop,inLeaf]
 refine kS_ev (ev172 b hb) (by simp) rfl rfl ?_
 generalize runesI a=x at *
 generalize runesI b=y at *
 simp [retA,toksRes,V.toks,V.tok,inRes,inTop,inLeaf]
 refine wp_loopUp [(4,4),(7,7),(12,41)] x.length (fun i s=>s.tm 7 = .int .i64 i∧i≤y.length∧cmpL (x.drop i) (y.drop i)=cmpL x y) rfl rfl ⟨by simp,by simp,by simp⟩ ?_
 rintro i s hi ⟨h7,hiy,hc⟩ f
 have f5:s.tm 5 = .sl (some (128,1)) false x.length (x.flatMap intC):=by rw [f.t 5 (by simp)];simp
 have f6:s.tm 6 = .sl (some (256,1)) false y.length (y.flatMap intC):=by rw [f.t 6 (by simp)];simp
 have fd:s.df=[]:=by rw [f.d];simp
 clear f
 by_cases hlt:i<x.length
 ·by_cases hly:i<y.length
  ·have hw:=wrapU hlt (by omega)
   rw [List.drop_eq_getElem_cons hlt,List.drop_eq_getElem_cons hly,cmpL] at hc
   obtain ⟨c,hxc⟩:∃ c,x[i]=c:=⟨_,rfl⟩
   obtain ⟨d,hyd⟩:∃ d,y[i]=d:=⟨_,rfl⟩
   have hx0:=int_at x hlt
   have hy0:=int_at y hly
   rw [hxc] at hc hx0
   rw [hyd] at hc hy0
   by_cases he:c=d
   ·rw [if_pos (cmpI_z.2 he)] at hc
    simp [h7,f5,f6,hlt,hly,idx_sl intC_len,hx0,hy0,he,hw]
    exact ⟨by omega,hc⟩
   ·rw [if_neg (fun h=>he (cmpI_z.1 h))] at hc
    have he':(c != d)=true:=by simpa using he
    simp [h7,f5,f6,hlt,hly,idx_sl intC_len,hx0,hy0,he']
    exact endV_1 (by simp [fd]) (by simp [← hc,cmpI_lt]) rfl
  ·have e:y.drop i=[]:=List.drop_of_length_le (by omega)
   rw [List.drop_eq_getElem_cons hlt,e,cmpL] at hc
   have hnl:¬ x.length<y.length:=by omega
   simp [h7,f5,f6,hlt,hly]
   exact endV_1 (by simp [fd]) (by simp [← hc,hnl]) rfl
 ·have:i=x.length:=by omega
  subst this
  rw [List.drop_length] at hc
  simp [h7,f5,f6]
  by_cases hly:x.length<y.length
  ·rw [List.drop_eq_getElem_cons hly,cmpL] at hc
   exact endV_1 (by simp [fd]) (by simp [← hc,hly]) rfl
  ·rw [List.drop_of_length_le (by omega:y.length≤x.length),cmpL] at hc
   exact endV_1 (by simp [fd]) (by simp [← hc,hly]) rfl
theorem tabB_t {t:List (List UInt8)} (h:∀ j,j<t.length→okAt t j=true):tabB t=true:=List.all_eq_true.2 fun j hj=>h j (List.mem_range.1 hj)
theorem tabB_f {t:List (List UInt8)} {j:Nat} (hj:j<t.length) (h:okAt t j=false):tabB t=false:=List.all_eq_false.2 ⟨j,List.mem_range.2 hj,by rw [h];decide⟩
theorem getD_lt {α:Type} {l:List α} {i:Nat} {d:α} (h:i<l.length):l.getD i d=l[i]:=by simp [List.getD,h]
theorem wrapP {i:Nat} (h:0<i) (hN:i≤1000000000):IntKind.i64.wrap ((i:Int) - 1)=((i - 1:Nat):Int):=by
 rw [wrap64' (by omega) (by omega)];omega
theorem ev81 (nl:Bool) (t:List (List UInt8)) (hn:t.length≤1000000) (hl:∀ s∈t,s.length≤1000000):Ev E 81 [slOf nl strC t] (.bool (tabB t)):=by
 refine Ev_wpK (af:=F81) rfl ?_
 simp [F81]
 refine wp_loopUp [(2,4),(5,32)] t.length (fun i s=>s.tm 3 = .int .i64 i∧∀ j,j<t.length→j<i→okAt t j=true) rfl rfl ⟨by simp,fun j _ h=>by omega⟩ ?_
 rintro i s hi ⟨h3,hb⟩ f
 have f0:s.tm 0=slOf nl strC t:=by rw [f.t 0 (by simp)];simp
 have fd:s.df=[]:=by rw [f.d];simp
 clear f
 by_cases hlt:i<t.length
 ·have hw:=wrapU hlt (by omega)
  have hok:okAt t i=(nameB t[i] && (i == 0 || lessB (t.getD (i - 1) []) t[i])):=by unfold okAt;rw [getD_lt hlt]
  have hsi:=hl _ (List.getElem_mem hlt)
  obtain ⟨c,hc⟩:∃ c,t[i]=c:=⟨_,rfl⟩
  have ht0:=str_at t hlt
  rw [hc] at hok ht0 hsi
  have step:okAt t i=true→∀ j,j<t.length→j<i+1→okAt t j=true:=fun h j hj hji=>by
   rcases Nat.lt_succ_iff_lt_or_eq.1 hji with h' | rfl
   ·exact hb j hj h'
   ·exact h
  simp [h3,f0,hlt,idx_slOf strC_len,ht0]
  refine kD_ev (ev126 c hsi) (by simp) rfl rfl ?_
  cases hnm:nameB c
  ·rw [hnm] at hok
   simp
   exact endV_1 (by simp [fd]) (by simp [tabB_f hlt hok]) rfl
  ·rw [hnm] at hok
   by_cases h0:i=0
   ·subst h0
    simp [h3]
    exact ⟨hlt,by decide,fun j hj h=>by subst h;exact step (by simp [hok]) 0 hj (by omega)⟩
   ·have h0':0<i:=by omega
    have hwp:=wrapP h0' (by omega)
    have hlp:i - 1<t.length:=by omega
    have hsp:=hl _ (List.getElem_mem hlp)
    have ht1:=str_at t hlp
    rw [getD_lt hlp] at hok
    obtain ⟨e,he⟩:∃ e,t[i - 1]=e:=⟨_,rfl⟩
    rw [he] at hok ht1 hsp
    simp [h3,f0,h0',hwp,hlp,idx_slOf strC_len,ht1,hlt,ht0]
    refine kD_ev (ev127 e c hsp hsi) (by simp) rfl rfl ?_
    cases hls:lessB e c
    ·simp
     exact endV_1 (by simp [fd]) (by simp [tabB_f hlt (by simp [hok,hls,h0])]) rfl
    ·simp [h3,hw]
     exact ⟨hlt,step (by simp [hok,hls])⟩
 ·have:i=t.length:=by omega
  subst this
  simp [h3,f0]
  exact endV_1 (by simp [fd]) (by simp [tabB_t (fun j hj=>hb j hj hj)]) rfl
end Go.Pv.T

/- Is a text UTF-8? The library's way. -/
namespace Go.Pv.T
open Go Go.Pv
theorem u64_or {a b:Nat} (ha:a<2 ^ 64) (hb:b<2 ^ 64):binV .or (.int .u64 (a:Int)) (.int .u64 (b:Int))=some (.int .u64 ((a ||| b:Nat):Int)):=by
 have h:a ||| b<2 ^ 64:=Nat.or_lt_two_pow ha hb
 simp only [binV,intBin,if_true]
 have e:(BitVec.ofInt IntKind.u64.bits (a:Int) ||| BitVec.ofInt IntKind.u64.bits (b:Int)).toNat=a ||| b:=by
  rw [BitVec.toNat_or,BitVec.ofInt_natCast,BitVec.ofInt_natCast,BitVec.toNat_ofNat,BitVec.toNat_ofNat]
  rw [show IntKind.u64.bits=64 from rfl,Nat.mod_eq_of_lt ha,Nat.mod_eq_of_lt hb]
 rw [e,IntKind.wrap_u64]
 congr 2
 omega
theorem u64_and {a b:Nat} {m:Int} (hm:m=(b:Int)) (ha:a<2 ^ 64) (hb:b<2 ^ 64):binV .and (.int .u64 (a:Int)) (.int .u64 m)=some (.int .u64 ((a &&& b:Nat):Int)):=by
 subst hm
 have h:a &&& b<2 ^ 64:=Nat.and_lt_two_pow _ hb
 simp only [binV,intBin,if_true]
 have e:(BitVec.ofInt IntKind.u64.bits (a:Int) &&& BitVec.ofInt IntKind.u64.bits (b:Int)).toNat=a &&& b:=by
  rw [BitVec.toNat_and,BitVec.ofInt_natCast,BitVec.ofInt_natCast,BitVec.toNat_ofNat,BitVec.toNat_ofNat]
  rw [show IntKind.u64.bits=64 from rfl,Nat.mod_eq_of_lt ha,Nat.mod_eq_of_lt hb]
 rw [e,IntKind.wrap_u64]
 congr 2
 omega
theorem u64_shl {a k:Nat} {m:Int} (hm:m=(k:Int)) (hk:k≤64) (h:a * 2 ^ k<2 ^ 64):binV .shl (.int .u64 (a:Int)) (.int .u64 m)=some (.int .u64 ((a * 2 ^ k:Nat):Int)):=by
 subst hm
 simp only [binV,shiftBin]
 rw [if_neg (by omega)]
 simp only [Int.toNat_natCast,show IntKind.u64.bits=64 from rfl,Nat.min_eq_left hk]
 rw [IntKind.wrap_u64]
 congr 2
 have:((a:Int) * 2 ^ k)=((a * 2 ^ k:Nat):Int):=by simp
 rw [this]
 omega
theorem slStr_from {l:List UInt8} {kk:IntKind} {k:Nat} {x:Int} (hx:x=(k:Int)) (h:k≤l.length):slStrV (some (.int kk x)) none (.str l)=some (.str (l.drop k)):=by
 subst hx
 simp [slStrV,bounds,h]
def wd (l:List UInt8):Nat:=Lib.leNat (l.take 8)
theorem or_add (a b k:Nat) (h:a<2 ^ k):a ||| b * 2 ^ k=a+b * 2 ^ k:=by
 have:=Nat.shiftLeft_add_eq_or_of_lt h b
 rw [Nat.shiftLeft_eq] at this
 rw [Nat.or_comm,← this,Nat.add_comm]
theorem wd_8 (a b c d e f g h:UInt8) (t:List UInt8):wd (a::b::c::d::e::f::g::h::t) =
 a.toNat+b.toNat * 2 ^ 8+c.toNat * 2 ^ 16+d.toNat * 2 ^ 24+e.toNat * 2 ^ 32+f.toNat * 2 ^ 40+g.toNat * 2 ^ 48+h.toNat * 2 ^ 56:=by
 simp only [wd,List.take,Lib.leNat]
 omega
theorem shl_ex (x:UInt8) (k:Nat) {m:Int} (hm:m=(k:Int)) (hk:k≤56):∃ B:Nat,B=x.toNat * 2 ^ k∧binV .shl (.int .u64 (x.toNat:Int)) (.int .u64 m)=some (.int .u64 (B:Int)):=by
 have hx:=x.toNat_lt
 have h1:x.toNat * 2 ^ k<2 ^ 64:=by
  calc x.toNat * 2 ^ k<2 ^ 8 * 2 ^ k:=Nat.mul_lt_mul_of_pos_right hx (Nat.two_pow_pos k)
   _=2 ^ (8+k):=(Nat.pow_add ..).symm
   _≤2 ^ 64:=Nat.pow_le_pow_right (by decide) (by omega)
 exact ⟨_,rfl,u64_shl hm (by omega) h1⟩
theorem or_ex {O B:Nat} (k c:Nat) (h:O<2 ^ k) (hB:B=c * 2 ^ k) (hc:c<2 ^ 8) (hk:k≤56):∃ O':Nat,O'=O+B∧O'<2 ^ (k+8)∧binV .or (.int .u64 (O:Int)) (.int .u64 (B:Int))=some (.int .u64 (O':Int)):=by
 have h2:B+2 ^ k≤2 ^ (k+8):=by
  rw [hB,Nat.pow_add,Nat.mul_comm (2 ^ k),← Nat.succ_mul]
  exact Nat.mul_le_mul_right _ hc
 have h3:2 ^ (k+8)≤2 ^ 64:=Nat.pow_le_pow_right (by decide) (by omega)
 refine ⟨O+B,rfl,by omega,?_⟩
 rw [u64_or (by omega) (by omega),hB,or_add _ _ _ h]
theorem ev252 (l:List UInt8) (hl:8≤l.length):Ev E 252 [.str l] (.int .u64 (wd l)):=by
 match l,hl with
 | a::b::c::d::e::f::g::h::t,_ =>
  rw [wd_8]
  have l0:=a.toNat_lt
  have l1:=b.toNat_lt
  have l2:=c.toNat_lt
  have l3:=d.toNat_lt
  have l4:=e.toNat_lt
  have l5:=f.toNat_lt
  have l6:=g.toNat_lt
  have l7:=h.toNat_lt
  refine Ev_wpK (af:=F252) rfl ?_
  have cv:∀ x:UInt8,convV .u64 (.int .u8 (x.toNat:Int))=some (.int .u64 (x.toNat:Int)):=fun x=>by
   have:=x.toNat_lt
   simp only [convV,IntKind.wrap_u64]
   congr 2
   omega
  have iv:∀ (s:List UInt8) (i:Nat) (x:UInt8) (y:Int),y=(i:Int)→s[i]? = some x→idxStrV (.str s) (.int .i64 y)=some (.int .u8 (x.toNat:Int)):=by
   intro s i x y hy hx
   subst hy
   simp [idxStrV,hx]
  have i0:=iv (a::b::c::d::e::f::g::h::t) 0 a 0 rfl rfl
  have i1:=iv (a::b::c::d::e::f::g::h::t) 1 b 1 rfl rfl
  have i2:=iv (a::b::c::d::e::f::g::h::t) 2 c 2 rfl rfl
  have i3:=iv (a::b::c::d::e::f::g::h::t) 3 d 3 rfl rfl
  have i4:=iv (a::b::c::d::e::f::g::h::t) 4 e 4 rfl rfl
  have i5:=iv (a::b::c::d::e::f::g::h::t) 5 f 5 rfl rfl
  have i6:=iv (a::b::c::d::e::f::g::h::t) 6 g 6 rfl rfl
  have i7:=iv (a::b::c::d::e::f::g::h::t) 7 h 7 rfl rfl
  obtain ⟨B1,hB1,s1⟩:=shl_ex b 8 (m:=8) rfl (by decide)
  obtain ⟨B2,hB2,s2⟩:=shl_ex c 16 (m:=16) rfl (by decide)
  obtain ⟨B3,hB3,s3⟩:=shl_ex d 24 (m:=24) rfl (by decide)
  obtain ⟨B4,hB4,s4⟩:=shl_ex e 32 (m:=32) rfl (by decide)
  obtain ⟨B5,hB5,s5⟩:=shl_ex f 40 (m:=40) rfl (by decide)
  obtain ⟨B6,hB6,s6⟩:=shl_ex g 48 (m:=48) rfl (by decide)
  obtain ⟨B7,hB7,s7⟩:=shl_ex h 56 (m:=56) rfl (by decide)
  obtain ⟨O1,hO1,q1,o1⟩:=or_ex (O:=a.toNat) 8 _ l0 hB1 l1 (by decide)
  obtain ⟨O2,hO2,q2,o2⟩:=or_ex (O:=O1) 16 _ q1 hB2 l2 (by decide)
  obtain ⟨O3,hO3,q3,o3⟩:=or_ex (O:=O2) 24 _ q2 hB3 l3 (by decide)
  obtain ⟨O4,hO4,q4,o4⟩:=or_ex (O:=O3) 32 _ q3 hB4 l4 (by decide)
  obtain ⟨O5,hO5,q5,o5⟩:=or_ex (O:=O4) 40 _ q4 hB5 l5 (by decide)
  obtain ⟨O6,hO6,q6,o6⟩:=or_ex (O:=O5) 48 _ q5 hB6 l6 (by decide)
  obtain ⟨O7,hO7,q7,o7⟩:=or_ex (O:=O6) 56 _ q6 hB7 l7 (by decide)
  have tot:O7=a.toNat+b.toNat * 2 ^ 8+c.toNat * 2 ^ 16+d.toNat * 2 ^ 24+e.toNat * 2 ^ 32+f.toNat * 2 ^ 40+g.toNat * 2 ^ 48+h.toNat * 2 ^ 56:=by omega
  rw [← tot]
  clear tot hB1 hB2 hB3 hB4 hB5 hB6 hB7 hO7 q7 hO6 q6 hO5 q5 hO4 q4 hO3 q3 hO2 q2 hO1 q1
  simp [F252,cv,i0,i1,i2,i3,i4,i5,i6,i7,s1,o1,s2,o2,s3,o3,s4,o4,s5,o5,s6,o6,s7,o7]
  exact endV_1 rfl (by simp) rfl
end Go.Pv.T

/- utf8.ValidString. -/
namespace Go.Pv.T
open Go Go.Pv
theorem eval_g1 (tm:Nat→V):eval E tm (.g 1) = .eptr utf8first 0:=rfl
theorem eval_g2 (tm:Nat→V):eval E tm (.g 2) = .eptr accR 0:=rfl
theorem first_at (b:Nat) (h:b<256):utf8first[b]? = some (.int .u8 (Lib.firstT b:Nat)):=by
 unfold utf8first
 rw [List.getElem?_map,List.getElem?_range h]
 rfl
theorem acc_at (y:Nat) (h:y<16):(accR.drop (y * 2)).take 2=[.int .u8 (Lib.accLo y:Nat),.int .u8 (Lib.accHi y:Nat)]:=by
 have:y=0∨y=1∨y=2∨y=3∨y=4∨y=5∨y=6∨y=7∨y=8∨y=9∨y=10∨y=11∨y=12∨y=13∨y=14∨y=15:=by omega
 rcases this with h | h | h | h | h | h | h | h | h | h | h | h | h | h | h | h <;> subst h <;> rfl
theorem and7:∀ x:Fin 256,IntKind.u8.wrap ((BitVec.ofInt IntKind.u8.bits ((x.val:Nat):Int) &&& BitVec.ofInt IntKind.u8.bits 7).toNat:Int)=((x.val % 8:Nat):Int):=by decide +kernel
theorem u8_and7 (x:Nat) (h:x<256):binV .and (.int .u8 (x:Int)) (.int .u8 7)=some (.int .u8 ((x % 8:Nat):Int)):=by
 simp only [binV,intBin,if_true]
 have:=and7 ⟨x,h⟩
 simp only at this
 rw [this]
theorem u8_shr4 (x:Nat) (_:x<256):binV .shr (.int .u8 (x:Int)) (.int .u64 4)=some (.int .u8 ((x / 16:Nat):Int)):=by
 simp only [binV,shiftBin]
 rw [if_neg (by decide)]
 have e:min (Int.toNat 4) IntKind.u8.bits=4:=by decide
 rw [e]
 congr 2
 rw [Int.fdiv_eq_ediv_of_nonneg _ (by decide)]
 omega
theorem first_lt (b:Nat):Lib.firstT b<256:=by
 unfold Lib.firstT
 repeat' split
 all_goals omega
abbrev M8:Nat:=9259542123273814144
theorem wd_lt (l:List UInt8):wd l<2 ^ 64:=by
 have h:=Lib.leNat_lt (l.take 8)
 have h2:(256:Nat) ^ (l.take 8).length≤256 ^ 8:=Nat.pow_le_pow_right (by decide) (by rw [List.length_take];omega)
 have h3:(256:Nat) ^ 8=2 ^ 64:=by decide
 unfold wd
 omega
theorem wd_ascii {l:List UInt8} (h8:8≤l.length) (h:wd l &&& M8=0):Lib.validD l=Lib.validD (l.drop 8):=by
 have e:(l.take 8).length=8:=by rw [List.length_take];omega
 have:=(Lib.leNat_mask (l.take 8)).1 (by rw [e,Lib.maskN8];exact h)
 exact Lib.validD_ascii 8 l this
theorem and_ex (w:Nat) (hw:w<2 ^ 64):∃ q:Nat,q=w &&& M8∧binV .and (.int .u64 (w:Int)) (.int .u64 9259542123273814144)=some (.int .u64 (q:Int)) :=
 ⟨_,rfl,u64_and (b:=M8) rfl hw (by decide)⟩
theorem orw_ex {a b:Nat} (ha:a<2 ^ 64) (hb:b<2 ^ 64):∃ q:Nat,q=a ||| b∧q<2 ^ 64∧binV .or (.int .u64 (a:Int)) (.int .u64 (b:Int))=some (.int .u64 (q:Int)) :=
 ⟨_,rfl,Nat.or_lt_two_pow ha hb,u64_or ha hb⟩
theorem beq0 (q:Nat):((q:Int) == 0)=decide (q=0):=by
 rw [Bool.eq_iff_iff];simp
set_option maxRecDepth 100000 in
set_option maxHeartbeats 8000000 in
theorem ev231 (s:List UInt8) (_:s.length≤1000000):Ev E 231 [.str s] (.bool (Lib.validD s)):=by
 refine Ev_wpK (af:=F231) rfl ?_
 simp [F231]
 refine wp_loopF (n:=s.length) [(0,200)] (fun k st=>∃ l,k=l.length∧st.tm 0 = .str l∧Lib.validD s=Lib.validD l∧l.length≤s.length) rfl rfl ⟨s,by simp⟩ ?_
 rintro k st ⟨l,rfl,h0,hv,hl⟩ f
 have fd:st.df=[]:=by rw [f.d];simp
 have fb:st.fb=0:=by rw [f.b];simp
 have fr:st.ro=0:=by rw [f.r];simp
 clear f
 cases hl0:l with
 | nil =>
  subst hl0
  simp [h0]
  exact endV_1 (by simp [fd]) (by simp [hv];rfl) rfl
 | cons b t =>
 rw [← hl0]
 have hlen:l.length=t.length+1:=by rw [hl0];rfl
 have hb256:=b.toNat_lt
 have hget:l.getD 0 0=b:=by rw [hl0];rfl
 have i0:idxStrV (.str l) (.int .i64 0)=some (.int .u8 (b.toNat:Int)):=by
  have:=idxStr_at (s:=l) (i:=0) (x:=0) .i64 (by omega) rfl
  rw [hget] at this
  exact this
 have hpos:0<l.length:=by omega
 by_cases hb:(b.toNat:Int)<128
 ·have hvt:Lib.validD s=Lib.validD t:=by rw [hv,hl0,Lib.validD_cons b t (by omega)]
  have d1:slStrV (some (.int .i64 1)) none (.str l)=some (.str t):=by
   rw [slStr_from (k:=1) (x:=1) rfl (by omega:1≤l.length),hl0];rfl
  by_cases h8:8<(t.length:Int)
  ·obtain ⟨w,hw⟩:∃ w,wd t=w:=⟨_,rfl⟩
   have hwl:w<2 ^ 64:=hw ▸ wd_lt t
   obtain ⟨q,hq,aq⟩:=and_ex w hwl
   simp [h0,hpos,i0,hb,d1,h8]
   refine kS_ev (ev252 t (by omega)) (by simp) rfl rfl ?_
   rw [hw]
   by_cases hq0:q=0
   ·have hv8:Lib.validD s=Lib.validD (t.drop 8):=by rw [hvt,wd_ascii (by omega) (by rw [hw,← hq,hq0])]
    have d8:slStrV (some (.int .i64 8)) none (.str t)=some (.str (t.drop 8)):=slStr_from (k:=8) rfl (by omega)
    have hl8:(t.drop 8).length=t.length - 8:=List.length_drop
    obtain ⟨u,hu⟩:∃ u,t.drop 8=u:=⟨_,rfl⟩
    rw [hu] at hv8 d8 hl8
    simp [aq,hq0,d8]
    by_cases h16:16<(u.length:Int)
    ·have d8u:slStrV (some (.int .i64 8)) none (.str u)=some (.str (u.drop 8)):=slStr_from (k:=8) rfl (by omega)
     have d16:slStrV (some (.int .i64 16)) none (.str u)=some (.str (u.drop 16)):=slStr_from (k:=16) rfl (by omega)
     have hlu:(u.drop 8).length=u.length - 8:=List.length_drop
     obtain ⟨w1,hw1⟩:∃ w,wd u=w:=⟨_,rfl⟩
     obtain ⟨w2,hw2⟩:∃ w,wd (u.drop 8)=w:=⟨_,rfl⟩
     obtain ⟨o,ho,hol,oo⟩:=orw_ex (hw1 ▸ wd_lt u) (hw2 ▸ wd_lt (u.drop 8))
     obtain ⟨q2,hq2,aq2⟩:=and_ex o hol
     have e1:=ev252 u (by omega)
     have e2:=ev252 (u.drop 8) (by omega)
     rw [hw1] at e1
     rw [hw2] at e2
     obtain ⟨u8,hu8⟩:∃ x,u.drop 8=x:=⟨_,rfl⟩
     rw [hu8] at d8u e2 hlu
     simp [h16]
     refine kD_ev e1 (by simp) rfl rfl ?_
     simp [d8u]
     refine kD_ev e2 (by simp) rfl rfl ?_
     by_cases hq20:q2=0
     ·have hb2:=(Lib.or_mask w1 w2 M8).1 (by rw [← ho,← hq2,hq20])
      have hv16:Lib.validD s=Lib.validD (u.drop 16):=by
       rw [hv8,wd_ascii (by omega) (by rw [hw1];exact hb2.1),hu8,wd_ascii (by omega) (by rw [← hu8,hw2];exact hb2.2),← hu8,List.drop_drop]
      have hl16:(u.drop 16).length=u.length - 16:=List.length_drop
      obtain ⟨v,hv'⟩:∃ x,u.drop 16=x:=⟨_,rfl⟩
      rw [hv'] at d16 hv16 hl16
      simp [oo,aq2,hq20,d16]
      refine wp_loopF (n:=v.length) [(0,0),(42,64)] (fun k st=>∃ x,k=x.length∧st.tm 0 = .str x∧Lib.validD s=Lib.validD x∧x.length≤v.length) rfl rfl ⟨v,by simp [hv16]⟩ ?_
      rintro k st' ⟨x,rfl,g0,gv,gl⟩ _
      by_cases h32:32<(x.length:Int)
      ·have d8x:slStrV (some (.int .i64 8)) none (.str x)=some (.str (x.drop 8)):=slStr_from (k:=8) rfl (by omega)
       have d16x:slStrV (some (.int .i64 16)) none (.str x)=some (.str (x.drop 16)):=slStr_from (k:=16) rfl (by omega)
       have d24x:slStrV (some (.int .i64 24)) none (.str x)=some (.str (x.drop 24)):=slStr_from (k:=24) rfl (by omega)
       have d32x:slStrV (some (.int .i64 32)) none (.str x)=some (.str (x.drop 32)):=slStr_from (k:=32) rfl (by omega)
       have hl32:(x.drop 32).length=x.length - 32:=List.length_drop
       obtain ⟨y0,hy0⟩:∃ w,wd x=w:=⟨_,rfl⟩
       obtain ⟨y1,hy1⟩:∃ w,wd (x.drop 8)=w:=⟨_,rfl⟩
       obtain ⟨y2,hy2⟩:∃ w,wd (x.drop 16)=w:=⟨_,rfl⟩
       obtain ⟨y3,hy3⟩:∃ w,wd (x.drop 24)=w:=⟨_,rfl⟩
       obtain ⟨p1,hp1,hp1l,op1⟩:=orw_ex (hy0 ▸ wd_lt x) (hy1 ▸ wd_lt (x.drop 8))
       obtain ⟨p2,hp2,hp2l,op2⟩:=orw_ex (hy2 ▸ wd_lt (x.drop 16)) (hy3 ▸ wd_lt (x.drop 24))
       obtain ⟨p3,hp3,hp3l,op3⟩:=orw_ex hp1l hp2l
       obtain ⟨q3,hq3,aq3⟩:=and_ex p3 hp3l
       have e1:=ev252 x (by omega)
       have e2:=ev252 (x.drop 8) (by rw [List.length_drop];omega)
       have e3:=ev252 (x.drop 16) (by rw [List.length_drop];omega)
       have e4:=ev252 (x.drop 24) (by rw [List.length_drop];omega)
       rw [hy0] at e1
       rw [hy1] at e2
       rw [hy2] at e3
       rw [hy3] at e4
       have hall:q3=0→Lib.validD s=Lib.validD (x.drop 32):=by
        intro hz
        rw [hq3,hp3,Lib.or_mask,hp1,hp2,Lib.or_mask,Lib.or_mask] at hz
        obtain ⟨⟨z0,z1⟩,z2,z3⟩:=hz
        rw [gv,wd_ascii (by omega) (by rw [hy0];exact z0),wd_ascii (by rw [List.length_drop];omega) (by rw [hy1];exact z1),List.drop_drop,
         wd_ascii (by rw [List.length_drop];omega) (by rw [hy2];exact z2),List.drop_drop,wd_ascii (by rw [List.length_drop];omega) (by rw [hy3];exact z3),List.drop_drop]
       clear hy0 hy1 hy2 hy3 hp1 hp2 hp3 hq3
       obtain ⟨x8,hx8⟩:∃ z,x.drop 8=z:=⟨_,rfl⟩
       obtain ⟨x16,hx16⟩:∃ z,x.drop 16=z:=⟨_,rfl⟩
       obtain ⟨x24,hx24⟩:∃ z,x.drop 24=z:=⟨_,rfl⟩
       obtain ⟨x32,hx32⟩:∃ z,x.drop 32=z:=⟨_,rfl⟩
       rw [hx8] at d8x e2
       rw [hx16] at d16x e3
       rw [hx24] at d24x e4
       rw [hx32] at d32x hl32 hall
       simp [g0,h32]
       refine kD_ev e1 (by simp) rfl rfl ?_
       simp [d8x,g0]
       refine kD_ev e2 (by simp) rfl rfl ?_
       simp [d16x,op1,g0]
       refine kD_ev e3 (by simp) rfl rfl ?_
       simp [d24x,g0]
       refine kD_ev e4 (by simp) rfl rfl ?_
       by_cases hq30:q3=0
       ·simp [op2,op3,aq3,hq30,d32x,g0]
        exact ⟨x32.length,by omega,x32,rfl,rfl,hall hq30,by omega⟩
       ·simp [op2,op3,aq3,beq0,hq30,g0]
        exact ⟨x.length,by omega,x,rfl,rfl,gv,by omega⟩
      ·simp [g0,h32]
       exact ⟨x.length,by omega,x,rfl,rfl,gv,by omega⟩
     ·simp [oo,aq2,beq0,hq20]
      exact ⟨u.length,by omega,u,rfl,rfl,hv8,by omega⟩
    ·simp [h16]
     exact ⟨u.length,by omega,u,rfl,rfl,hv8,by omega⟩
   ·simp [aq,beq0,hq0]
    exact ⟨t.length,by omega,t,rfl,rfl,hvt,by omega⟩
  ·simp [h0,hpos,i0,hb,d1,h8]
   exact ⟨t.length,by omega,t,rfl,rfl,hvt,by omega⟩
 ·have hlead:=Lib.validD_lead l (by rw [hl0];simp) (by rw [hget];omega)
  rw [hget] at hlead
  rw [← hv] at hlead
  obtain ⟨x,hx⟩:∃ x,Lib.firstT b.toNat=x:=⟨_,rfl⟩
  have hx256:x<256:=hx ▸ first_lt _
  have ld1:=first_at b.toNat b.toNat_lt
  have ia1:idxArrV 256 1 (.eptr utf8first 0) (.int .u8 (b.toNat:Int))=some (.eptr utf8first b.toNat):=by
   simp only [idxArrV]
   rw [if_pos (by omega)]
   simp
  have a7:=u8_and7 x hx256
  have s4:=u8_shr4 x hx256
  obtain ⟨y,hy⟩:∃ y,x / 16=y:=⟨_,rfl⟩
  obtain ⟨sz,hsz⟩:∃ y,x % 8=y:=⟨_,rfl⟩
  have hy16:y<16:=by omega
  have ia2:idxArrV 16 2 (.eptr accR 0) (.int .u8 (y:Int))=some (.eptr accR (y * 2)):=by
   simp only [idxArrV]
   rw [if_pos (by omega)]
   simp
  have ld2:∀ ob,loadV ob (some 2) (.eptr accR (y * 2))=some (.agg [.int .u8 (Lib.accLo y:Nat),.int .u8 (Lib.accHi y:Nat)]):=fun ob=>by
   rw [loadV_e,pick1_some,acc_at y hy16,if_pos (by show y * 2+2≤32;omega)]
  have cv:convV .i64 (.int .u8 (sz:Int))=some (.int .i64 (sz:Int)):=by simp only [convV];rw [wrap64' (by omega) (by omega)]
  rw [hx] at hlead ld1
  rw [hsz] at a7 hlead
  rw [hy] at s4 hlead
  have i1:1<l.length→_:=fun h=>idxStr_at (s:=l) (i:=1) (x:=1) .i64 h rfl
  have i2:2<l.length→_:=fun h=>idxStr_at (s:=l) (i:=2) (x:=2) .i64 h rfl
  have i3:3<l.length→_:=fun h=>idxStr_at (s:=l) (i:=3) (x:=3) .i64 h rfl
  generalize (l.getD 1 0).toNat=b1 at *
  generalize (l.getD 2 0).toNat=b2 at *
  generalize (l.getD 3 0).toNat=b3 at *
  generalize Lib.accLo y=lo at *
  generalize Lib.accHi y=hi at *
  simp [h0,hpos,i0,hb,eval_g1,ia1,ld1,a7,cv,s4,eval_g2,ia2,ld2,objCells,fb,fr,splice]
  by_cases hs2:sz=2
  ·by_cases c0:(l.length:Int)<2
   ·have hc:Lib.checkN l.length b1 b2 b3 sz lo hi=none:=by unfold Lib.checkN;simp [hs2];omega
    rw [hc] at hlead
    simp [hs2,h0,c0]
    exact endV_1 (by simp [fd]) (by simp [hlead]) rfl
   have i1:=i1 (by omega)
   by_cases c1:(b1:Int)<lo
   ·have hc:Lib.checkN l.length b1 b2 b3 sz lo hi=none:=by unfold Lib.checkN;simp [hs2];omega
    rw [hc] at hlead
    simp [hs2,h0,objCells,c0,i1,c1]
    exact endV_1 (by simp [fd]) (by simp [hlead]) rfl
   by_cases c2:(hi:Int)<b1
   ·have hc:Lib.checkN l.length b1 b2 b3 sz lo hi=none:=by unfold Lib.checkN;simp [hs2];omega
    rw [hc] at hlead
    simp [hs2,h0,objCells,c0,i1,c1,c2]
    exact endV_1 (by simp [fd]) (by simp [hlead]) rfl
   have hc:Lib.checkN l.length b1 b2 b3 sz lo hi=some 2:=by unfold Lib.checkN;simp [hs2];omega
   rw [hc] at hlead
   have dd:slStrV (some (.int .i64 2)) none (.str l)=some (.str (l.drop 2)):=slStr_from (k:=2) rfl (by omega)
   simp [hs2,h0,objCells,c0,i1,c1,c2,dd]
   exact ⟨(l.drop 2).length,by rw [List.length_drop];omega,l.drop 2,by simp,rfl,hlead,by rw [List.length_drop];omega⟩
  by_cases hs3:sz=3
  ·by_cases c0:(l.length:Int)<3
   ·have hc:Lib.checkN l.length b1 b2 b3 sz lo hi=none:=by unfold Lib.checkN;simp [hs3];omega
    rw [hc] at hlead
    simp [hs3,h0,c0]
    exact endV_1 (by simp [fd]) (by simp [hlead]) rfl
   have i1:=i1 (by omega)
   have i2:=i2 (by omega)
   by_cases c1:(b1:Int)<lo
   ·have hc:Lib.checkN l.length b1 b2 b3 sz lo hi=none:=by unfold Lib.checkN;simp [hs3];omega
    rw [hc] at hlead
    simp [hs3,h0,objCells,c0,i1,c1]
    exact endV_1 (by simp [fd]) (by simp [hlead]) rfl
   by_cases c2:(hi:Int)<b1
   ·have hc:Lib.checkN l.length b1 b2 b3 sz lo hi=none:=by unfold Lib.checkN;simp [hs3];omega
    rw [hc] at hlead
    simp [hs3,h0,objCells,c0,i1,c1,c2]
    exact endV_1 (by simp [fd]) (by simp [hlead]) rfl
   by_cases e2:(b2:Int)<128
   ·have hc:Lib.checkN l.length b1 b2 b3 sz lo hi=none:=by unfold Lib.checkN;simp [hs3];omega
    rw [hc] at hlead
    simp [hs3,h0,objCells,c0,i1,i2,c1,c2,e2]
    exact endV_1 (by simp [fd]) (by simp [hlead]) rfl
   by_cases f2:191<(b2:Int)
   ·have hc:Lib.checkN l.length b1 b2 b3 sz lo hi=none:=by unfold Lib.checkN;simp [hs3];omega
    rw [hc] at hlead
    simp [hs3,h0,objCells,c0,i1,i2,c1,c2,e2,f2]
    exact endV_1 (by simp [fd]) (by simp [hlead]) rfl
   have hc:Lib.checkN l.length b1 b2 b3 sz lo hi=some 3:=by unfold Lib.checkN;simp [hs3];omega
   rw [hc] at hlead
   have dd:slStrV (some (.int .i64 3)) none (.str l)=some (.str (l.drop 3)):=slStr_from (k:=3) rfl (by omega)
   simp [hs3,h0,objCells,c0,i1,i2,c1,c2,e2,f2,dd]
   exact ⟨(l.drop 3).length,by rw [List.length_drop];omega,l.drop 3,by simp,rfl,hlead,by rw [List.length_drop];omega⟩
  by_cases hs4:sz=4
  ·by_cases c0:(l.length:Int)<4
   ·have hc:Lib.checkN l.length b1 b2 b3 sz lo hi=none:=by unfold Lib.checkN;simp [hs4];omega
    rw [hc] at hlead
    simp [hs4,h0,c0]
    exact endV_1 (by simp [fd]) (by simp [hlead]) rfl
   have i1:=i1 (by omega)
   have i2:=i2 (by omega)
   have i3:=i3 (by omega)
   by_cases c1:(b1:Int)<lo
   ·have hc:Lib.checkN l.length b1 b2 b3 sz lo hi=none:=by unfold Lib.checkN;simp [hs4];omega
    rw [hc] at hlead
    simp [hs4,h0,objCells,c0,i1,c1]
    exact endV_1 (by simp [fd]) (by simp [hlead]) rfl
   by_cases c2:(hi:Int)<b1
   ·have hc:Lib.checkN l.length b1 b2 b3 sz lo hi=none:=by unfold Lib.checkN;simp [hs4];omega
    rw [hc] at hlead
    simp [hs4,h0,objCells,c0,i1,c1,c2]
    exact endV_1 (by simp [fd]) (by simp [hlead]) rfl
   by_cases e2:(b2:Int)<128
   ·have hc:Lib.checkN l.length b1 b2 b3 sz lo hi=none:=by unfold Lib.checkN;simp [hs4];omega
    rw [hc] at hlead
    simp [hs4,h0,objCells,c0,i1,i2,c1,c2,e2]
    exact endV_1 (by simp [fd]) (by simp [hlead]) rfl
   by_cases f2:191<(b2:Int)
   ·have hc:Lib.checkN l.length b1 b2 b3 sz lo hi=none:=by unfold Lib.checkN;simp [hs4];omega
    rw [hc] at hlead
    simp [hs4,h0,objCells,c0,i1,i2,c1,c2,e2,f2]
    exact endV_1 (by simp [fd]) (by simp [hlead]) rfl
   by_cases e3:(b3:Int)<128
   ·have hc:Lib.checkN l.length b1 b2 b3 sz lo hi=none:=by unfold Lib.checkN;simp [hs4];omega
    rw [hc] at hlead
    simp [hs4,h0,objCells,c0,i1,i2,i3,c1,c2,e2,f2,e3]
    exact endV_1 (by simp [fd]) (by simp [hlead]) rfl
   by_cases f3:191<(b3:Int)
   ·have hc:Lib.checkN l.length b1 b2 b3 sz lo hi=none:=by unfold Lib.checkN;simp [hs4];omega
    rw [hc] at hlead
    simp [hs4,h0,objCells,c0,i1,i2,i3,c1,c2,e2,f2,e3,f3]
    exact endV_1 (by simp [fd]) (by simp [hlead]) rfl
   have hc:Lib.checkN l.length b1 b2 b3 sz lo hi=some 4:=by unfold Lib.checkN;simp [hs4];omega
   rw [hc] at hlead
   have dd:slStrV (some (.int .i64 4)) none (.str l)=some (.str (l.drop 4)):=slStr_from (k:=4) rfl (by omega)
   simp [hs4,h0,objCells,c0,i1,i2,i3,c1,c2,e2,f2,e3,f3,dd]
   exact ⟨(l.drop 4).length,by rw [List.length_drop];omega,l.drop 4,by simp,rfl,hlead,by rw [List.length_drop];omega⟩
  have hc:Lib.checkN l.length b1 b2 b3 sz lo hi=none:=by unfold Lib.checkN;simp [hs2,hs3,hs4]
  rw [hc] at hlead
  have z2:((sz:Int) == 2)=false:=by simp;omega
  have z3:((sz:Int) == 3)=false:=by simp;omega
  have z4:((sz:Int) == 4)=false:=by simp;omega
  simp [z2,z3,z4]
  exact endV_1 (by simp [fd]) (by simp [hlead]) rfl
end Go.Pv.T

/- Names and tables, the program's. -/
namespace Go.Pv.T
open Go Go.Pv
def nmScan:Nat→List Int→Bool
 | n,[]=>decide (0<n) && decide (n≤20)
 | n,c::l=>if !partB c || (decide (n=0) && digitB c) then false else nmScan (n+1) l
theorem nmScan_pos:∀ (l:List Int) (n:Nat),0<n→nmScan n l=(l.all partB && decide (n+l.length≤20))
 | [],n,h=>by simp [nmScan,h]
 | c::l,n,h=>by
  have h0:¬ n=0:=by omega
  rw [nmScan,nmScan_pos l (n+1) (by omega)]
  cases hp:partB c
  ·simp [hp]
  ·simp only [hp,h0,decide_false,Bool.false_and,Bool.or_false,Bool.not_true,Bool.false_eq_true,if_false,List.all_cons,Bool.true_and,List.length_cons]
   congr 2
   exact propext ⟨fun h=>by omega,fun h=>by omega⟩
theorem nmScan_0 (l:List Int):nmScan 0 l=nmOk l:=by
 cases l with
 | nil=>rfl
 | cons c l =>
  rw [nmScan,nmScan_pos l 1 (by omega)]
  unfold nmOk headDig
  have e:decide (1+l.length≤20)=decide (l.length+1≤20):=by rw [Nat.add_comm]
  cases hp:partB c <;> cases hd:digitB c <;> simp [hp,hd,e]
  rw [Bool.and_comm]
theorem kS_next {E:Env} {Yf:YF} {st:St} {ub:Nat} {K:St→Nat→Prop} {d:Option Nat} {nm:Bool} {x:A} {l u pos:Nat} {s:List UInt8} (hx:eval E st.tm x = .iter l u) (ho:st.ob l=some ⟨u,.siter s pos⟩) (hro:st.ro≤u)
 (h1:pos<s.length→kApp K st d ub { v:=.tup [.bool true,.int .i64 pos,.int .i32 (rU s pos:Nat)],obs:=[(l,⟨u,.siter s (pos+rW s pos)⟩)] })
 (h2:¬ pos<s.length→kSet K st d ub (.tup [.bool false])):wpStep E Yf ⟨d,.nextStr x,none,nm⟩ st ub K:=kS_nextStr hx ho hro h1 h2
theorem ev194 (s:List UInt8) (hs:s.length≤1000000):Ev E 194 [.str s] (.bool (nameB s)):=by
 refine Ev_wpK (af:=F194) rfl ?_
 simp [F194]
 refine kS_ev (ev230 s) (by simp) rfl rfl ?_
 unfold nameB
 cases b1:resB s
 case true =>
  simp
  exact endV_1 rfl (by simp) rfl
 simp
 refine kS_ev (ev231 s hs) (by simp) rfl rfl ?_
 cases b2:Lib.validD s
 case false =>
  simp
  exact endV_1 rfl (by simp) rfl
 simp
 rw [← nmScan_0]
 refine wp_loopF (n:=s.length) [(2,3),(5,5),(15,30)] (fun k st=>∃ p n u,k=s.length - p∧p≤s.length∧n≤p∧st.tm 3 = .int .i64 (n:Nat)∧st.tm 14 = .iter 28 u∧st.ob 28=some ⟨u,.siter s p⟩∧nmScan 0 (runesI s)=nmScan n (RN s p)) rfl rfl
  ⟨0,0,640,by simp [runesI_eq]⟩ ?_
 rintro k st ⟨p,n,u,rfl,hp,hnp,h3,h14,ho,hsc⟩ f
 have fd:st.df=[]:=by rw [f.d];simp
 have fb:st.fb=0:=by rw [f.b];simp
 have fr:st.ro=0:=by rw [f.r];simp
 clear f
 simp
 refine kS_next (l:=28) (u:=u) (pos:=p) (s:=s) (by simp [h14]) (by simp [ho]) (by simp [fr]) (fun hlt=>?_) (fun hge=>?_)
 ·have hw:=rW_pos hlt
  rw [RN_step hlt,nmScan] at hsc
  obtain ⟨c,hc⟩:∃ c:Int,(rU s p:Int)=c:=⟨_,rfl⟩
  rw [hc] at hsc ⊢
  simp
  refine kS_ev (ev232 c) (by simp) rfl rfl ?_
  cases hpc:partB c
  ·rw [hpc] at hsc
   simp
   exact endV_1 (by simp [fd]) (by simp [hsc]) rfl
  ·by_cases hn0:n=0
   ·subst hn0
    simp [h3]
    refine kS_ev (ev233 c) (by simp) rfl rfl ?_
    cases hdc:digitB c
    ·simp [h3,h14,hdc,hpc] at hsc ⊢
     exact ⟨s.length - (p+rW s p),by omega,p+rW s p,rfl,by omega,1,by omega,by decide,rfl,hsc⟩
    ·simp [hdc,hpc] at hsc ⊢
     exact endV_1 (by simp [fd]) (by simp [hsc]) rfl
   ·simp [h3,h14,hpc,beq0,hn0] at hsc ⊢
    exact ⟨s.length - (p+rW s p),by omega,p+rW s p,rfl,by omega,n+1,by omega,by rw [wrap64' (by omega) (by omega)];simp,rfl,hsc⟩
 ·have:p=s.length:=by omega
  subst this
  rw [RN_end (Nat.le_refl _),nmScan] at hsc
  by_cases hn0:0<n
  ·simp [h3,hn0] at hsc ⊢
   exact endV_1 (by simp [fd]) (by simp [hsc];omega) rfl
  ·simp [h3,hn0] at hsc ⊢
   exact endV_1 (by simp [fd]) (by simp [hsc]) rfl
theorem ev153 (nl:Bool) (t:List (List UInt8)) (hn:t.length≤1000000) (hl:∀ s∈t,s.length≤1000000):Ev E 153 [slOf nl strC t] (.bool (tabB t)):=by
 refine Ev_wpK (af:=F153) rfl ?_
 simp [F153]
 refine wp_loopUp [(2,4),(7,29)] t.length (fun i s=>s.tm 7 = .int .i64 i∧∀ j,j<t.length→j<i→okAt t j=true) rfl rfl ⟨by simp,fun j _ h=>by omega⟩ ?_
 rintro i s hi ⟨h7,hb⟩ f
 have f0:s.tm 0=slOf nl strC t:=by rw [f.t 0 (by simp)];simp
 have f5:s.tm 5=slOf nl strC t:=by rw [f.t 5 (by simp)];simp
 have f6:s.tm 6 = .int .i64 t.length:=by rw [f.t 6 (by simp)];simp
 have fd:s.df=[]:=by rw [f.d];simp
 clear f
 by_cases hlt:i<t.length
 ·have hw:=wrapU hlt (by omega)
  have hok:okAt t i=(nameB t[i] && (i == 0 || lessB (t.getD (i - 1) []) t[i])):=by unfold okAt;rw [getD_lt hlt]
  have hsi:=hl _ (List.getElem_mem hlt)
  obtain ⟨c,hc⟩:∃ c,t[i]=c:=⟨_,rfl⟩
  have ht0:=str_at t hlt
  rw [hc] at hok ht0 hsi
  have step:okAt t i=true→∀ j,j<t.length→j<i+1→okAt t j=true:=fun h j hj hji=>by
   rcases Nat.lt_succ_iff_lt_or_eq.1 hji with h' | rfl
   ·exact hb j hj h'
   ·exact h
  simp [h7,f5,f6,hlt,idx_slOf strC_len,ht0]
  refine kS_ev (ev194 c hsi) (by simp) rfl rfl ?_
  cases hnm:nameB c
  ·rw [hnm] at hok
   simp
   exact endV_1 (by simp [fd]) (by simp [tabB_f hlt hok]) rfl
  ·rw [hnm] at hok
   by_cases h0:i=0
   ·subst h0
    simp [h7]
    exact ⟨hlt,by decide,fun j hj h=>by subst h;exact step (by simp [hok]) 0 hj (by omega)⟩
   ·have h0':0<i:=by omega
    have hwp:=wrapP h0' (by omega)
    have hlp:i - 1<t.length:=by omega
    have hsp:=hl _ (List.getElem_mem hlp)
    have ht1:=str_at t hlp
    rw [getD_lt hlp] at hok
    obtain ⟨e,he⟩:∃ e,t[i - 1]=e:=⟨_,rfl⟩
    rw [he] at hok ht1 hsp
    have hle:=runesI_len e
    have hlc:=runesI_len c
    simp [f0,h0',hwp,hlp,idx_slOf strC_len,ht1]
    refine kS_ev (ev199 e c (by omega) (by omega)) (by simp) rfl rfl ?_
    cases hls:lessB e c
    ·have hls':=hls
     unfold lessB at hls'
     rw [hls']
     simp
     exact endV_1 (by simp [fd]) (by simp [tabB_f hlt (by simp [hok,hls,h0])]) rfl
    ·have hls':=hls
     unfold lessB at hls'
     rw [hls']
     simp [h7,hw]
     exact ⟨hlt,step (by simp [hok,hls])⟩
 ·have:i=t.length:=by omega
  subst this
  simp [h7,f6]
  exact endV_1 (by simp [fd]) (by simp [tabB_t (fun j hj=>hb j hj hj)]) rfl
end Go.Pv.T

/- A range over all ops of a history, of which no round breaks off; the counts of hist.used. -/
namespace Go.Pv.T
open Go Go.Pv
def Fr1 (n:Nat) (ob ob':Nat→Option Obj'):Prop:=∀ key,(∀ m,n≤m→key≠2 * m+1)→ob' key=ob key
theorem range_opsN (h:Hist') (hn:h.ts.length≤1000) (hm:∀ t∈h.ts,t.ops.length≤1000000) {as bd:C} {ps:List Nat} (hps:ps.length=2) (has:as.one=true) (hbd:bd.one=true) {st:St} {f:A} {lh uh:Nat}
 (hf:eval E st.tm f = .fn (.func 146) [] [.ptr lh uh 0]) (oh:st.ob lh=some ⟨uh,.cells (histC h)⟩) (hl1:lh≠2 * st.nx+1) (hl3:lh≠2 * st.nx+3) (hro:st.ro=0)
 (J:Nat→Nat→(Nat→Option Obj')→(Nat→Bool)→Nat→Prop) {Q:Ex→St→Prop}
 (hJf:∀ i k ob ob' tk ub ub',J i k ob tk ub→ub≤ub'→Fr1 st.nx ob ob'→J i k ob' tk ub')
 (hnext:∀ i (hi:i<h.ts.length) ob tk ub,J i (h.ts[i]).ops.length ob tk ub→J (i+1) 0 ob tk ub)
 (hbody:∀ i (hi:i<h.ts.length) k (hk:k<(h.ts[i]).ops.length) ob tk ub,J i k ob tk ub→ob (2 * st.nx+1)=some ⟨st.nx,.loop .ready none⟩→ob (2 * st.nx+3)=some ⟨st.nx+1,.dfr⟩→st.nx+64≤ub →
  wpC E noYF as { tm:=setPs st.tm ps [.agg [.int .i64 i,.int .i64 k],.agg (opC (h.ts[i]).ops[k])],ob:=ob,tk:=tk,ro:=0,nx:=ub,fb:=st.fb,df:=[] } fun e s1=>e = .nrm∧s1.ob (2 * st.nx+1)=some ⟨st.nx,.loop .ready none⟩ ∧
   wpC E noYF bd { s1 with ob:=upd s1.ob (2 * st.nx+1) (some ⟨st.nx,.loop .busy none⟩) } fun e s2=>s2.ob (2 * st.nx+1)=some ⟨st.nx,.loop .busy none⟩∧s2.ob (2 * st.nx+3)=some ⟨st.nx+1,.dfr⟩∧st.nx+64≤s2.nx∧e = .nrm∧J i (k+1) s2.ob s2.tk s2.nx)
 (h0:J 0 0 st.ob st.tk (st.nx+64))
 (hQ:∀ ob tk ub,J h.ts.length 0 ob tk ub→ob (2 * st.nx+3)=some ⟨st.nx+1,.dfr⟩→st.nx+64≤ub→Q .nrm { st with ob:=ob,tk:=tk,nx:=ub,df:=(2 * st.nx+3,st.nx+1)::st.df }) :
 wpC E noYF (.rangeFunc f ps as bd) st Q:=by
 refine wpC_rangeFunc (g:=146) (first:=[]) (captured:=[.ptr lh uh 0]) hf ?_
 have n13:¬ 2 * st.nx+3=2 * st.nx+1:=by omega
 have n31:¬ 2 * st.nx+1=2 * st.nx+3:=by omega
 have:=run146 (Yf:=roundF E noYF as bd st ps (2 * st.nx+1) st.nx) h hn hm (l:=2 * st.nx+1) (u:=st.nx) (lh:=lh) (uh:=uh)
  (ob0:=upd (upd st.ob (2 * st.nx+3) (some ⟨st.nx+1,.dfr⟩)) (2 * st.nx+1) (some ⟨st.nx,.loop .ready none⟩)) (tk0:=st.tk) (ro:=st.ro) (base:=(st.fb+1023) * 1024) (ub0:=st.nx+64)
  (by simp only [upd_apply,hl1,hl3,if_false,oh]) (by omega)
  (fun i k ob tk ub=>J i k ob tk ub∧ob (2 * st.nx+1)=some ⟨st.nx,.loop .ready none⟩∧ob (2 * st.nx+3)=some ⟨st.nx+1,.dfr⟩∧st.nx+64≤ub)
  (fun r=>∃ s pend,r.2.1 (2 * st.nx+1)=some ⟨st.nx,.loop s pend⟩∧s≠.busy∧st.ro≤st.nx∧Q (pend.getD .nrm) { st with ob:=fun k=>if Nat.beq (2 * st.nx+1) k then none else r.2.1 k,tk:=r.2.2.1,nx:=r.2.2.2,df:=(2 * st.nx+3,st.nx+1)::st.df })
  ?_ ?_ ?_ ?_ ?_
 ·obtain ⟨r,hr,hP⟩:=this
  exact ⟨r,hr,hP⟩
 ·rintro i k ob ob' tk ub ub' ⟨g1,g2,g3,g4⟩ hub hfr
  have f:∀ key,(∀ m,ub≤m→key≠2 * m+1)→ob' key=ob key:=hfr
  exact ⟨hJf _ _ _ _ _ _ _ g1 hub (fun key hk=>f key (fun m hm=>hk m (by omega))),by rw [f _ (fun m hm=>by omega)];exact g2,by rw [f _ (fun m hm=>by omega)];exact g3,by omega⟩
 ·rintro i hi ob tk ub ⟨g1,g⟩
  exact ⟨hnext i hi ob tk ub g1,g⟩
 ·rintro i hi k hk ob tk ub ⟨g1,g2,g3,g4⟩ hru
  have hb:=hbody i hi k hk ob tk ub g1 g2 g3 g4
  have:=EvY_round (E:=E) (Yf:=noYF) (as:=as) (bd:=bd) (st:=st) (ps:=ps) (l:=2 * st.nx+1) (u:=st.nx) (xs:=[.agg [.int .i64 i,.int .i64 k],.agg (opC (h.ts[i]).ops[k])]) (ob:=ob) (tk:=tk) (ro:=st.ro) (ub:=ub)
   (P:=fun r=>st.ro≤r.2.2.2∧r.1 = .bool true∧J i (k+1) r.2.1 r.2.2.1 r.2.2.2∧r.2.1 (2 * st.nx+1)=some ⟨st.nx,.loop .ready none⟩∧r.2.1 (2 * st.nx+3)=some ⟨st.nx+1,.dfr⟩∧st.nx+64≤r.2.2.2)
   (by simp [hps]) (by omega) g2 has hbd (by
    rw [hro]
    refine wpC_mono (fun e s1 h1=>?_) hb
    obtain ⟨e1,e2,e3⟩:=h1
    refine ⟨e1,e2,wpC_mono (fun e s2 h2=>?_) e3⟩
    obtain ⟨k1,k2,k3,k4,k5⟩:=h2
    subst k4
    refine ⟨k1,by omega,rfl,?_,?_,?_,k3⟩
    ·exact hJf _ _ _ _ _ _ _ k5 (Nat.le_refl _) (fun key hk=>upd_ne _ _ (hk st.nx (Nat.le_refl _)))
    ·exact upd_same _ _ _
    ·show upd s2.ob _ _ _=_
     rw [upd_ne _ _ n13];exact k2)
  obtain ⟨r,hr,p1,p2,p3,p4,p5,p6⟩:=this
  exact ⟨r,hr,p1,.inl ⟨p2,p3,p4,p5,p6⟩⟩
 ·rintro ob tk ub ⟨g1,g2,g3,g4⟩
  refine ⟨.ready,none,g2,by simp,by omega,?_⟩
  have hob:Fr1 st.nx ob (fun k=>if Nat.beq (2 * st.nx+1) k then none else ob k):=fun key hk=>away ob (hk st.nx (Nat.le_refl _))
  exact hQ _ _ _ (hJf _ _ _ _ _ _ _ g1 (Nat.le_refl _) hob) ((away ob n13).trans g3) g4
 ·refine ⟨hJf _ _ _ _ _ _ _ h0 (Nat.le_refl _) (fun key hk=>?_),upd_same _ _ _,?_,by omega⟩
  ·have h3:=hk (st.nx+1) (by omega)
   rw [upd_ne _ _ (hk st.nx (Nat.le_refl _)),upd_ne _ _ (by omega)]
  ·rw [upd_ne _ _ n13,upd_same]
@[simp] theorem cells_map (l u:Nat):(V.map l u).cells=[.map l u]:=rfl
@[simp] theorem leaf_map (l u:Nat):(V.map l u).leaf=true:=rfl
@[simp] theorem cells_nilmap:V.nilmap.cells=[.nilmap]:=rfl
@[simp] theorem leaf_nilmap:V.nilmap.leaf=true:=rfl
def headsB (h:Hist'):Bool:=tabB h.ss && (tabB h.ks && (decide (h.ss.length≤20) && (decide (h.ks.length≤40) && decide (h.ts.length≤40))))
structure Small (h:Hist'):Prop where
 ss:h.ss.length≤1000
 sl:∀ s∈h.ss,s.length≤1000
 ks:h.ks.length≤1000
 kl:∀ s∈h.ks,s.length≤1000
 ts:h.ts.length≤1000
 os:∀ t∈h.ts,t.ops.length≤1000
theorem ev107 {h:Hist'} (hs:Small h):Ev E 107 [.agg (histC h)] (.bool (headsB h)):=by
 refine Ev_wpK (af:=F107) rfl ?_
 have e1:=ev153 h.sn h.ss (by have:=hs.ss;omega) (fun s h=>by have:=hs.sl s h;omega)
 have e2:=ev153 h.kn h.ks (by have:=hs.ks;omega) (fun s h=>by have:=hs.kl s h;omega)
 simp [F107,histC,objCells]
 refine kS_ev e1 (by simp) rfl rfl ?_
 unfold headsB
 cases b1:tabB h.ss
 ·simp
  exact endV_1 rfl (by simp) rfl
 simp [objCells]
 refine kS_ev e2 (by simp) rfl rfl ?_
 cases b2:tabB h.ks
 ·simp
  exact endV_1 rfl (by simp) rfl
 by_cases b3:(h.ss.length:Int)≤20
 ·by_cases b4:(h.ks.length:Int)≤40
  ·simp [objCells,b3,b4]
   exact endV_1 rfl (by simp [show h.ss.length≤20 by omega,show h.ks.length≤40 by omega];omega) rfl
  ·simp [objCells,b3,b4]
   exact endV_1 rfl (by simp;omega) rfl
 ·simp [objCells,b3]
  exact endV_1 rfl (by simp;omega) rfl
def usesS (h:Hist'):List Int:=h.ts.map (·.s)
def usesK (h:Hist'):List Int:=(opsOf h).map (·.key)
def usedB (h:Hist'):Bool:=decide ((dd (usesS h)).length=h.ss.length) && decide ((dd (usesK h)).length=h.ks.length)
def opsTo (h:Hist') (i k:Nat):List Op':=(h.ts.take i).flatMap (·.ops)++(h.ts.getD i ⟨0,0,true,[]⟩).ops.take k
theorem opsTo_step {h:Hist'} {i k:Nat} (hi:i<h.ts.length) (hk:k<(h.ts[i]).ops.length):opsTo h i (k+1)=opsTo h i k++[(h.ts[i]).ops[k]]:=by
 unfold opsTo
 rw [getD_lt hi,List.take_succ_eq_append_getElem hk,List.append_assoc]
theorem opsTo_next {h:Hist'} {i:Nat} (hi:i<h.ts.length):opsTo h i (h.ts[i]).ops.length=opsTo h (i+1) 0:=by
 unfold opsTo
 rw [getD_lt hi,List.take_length,List.take_zero,List.append_nil,List.take_succ_eq_append_getElem hi,List.flatMap_append]
 simp
theorem opsTo_end (h:Hist'):opsTo h h.ts.length 0=opsOf h:=by simp [opsTo,opsOf]
theorem opsTo_zero (h:Hist'):opsTo h 0 0=[]:=by simp [opsTo]
theorem endV_df {res:List ARes} {st:St} {l u:Nat} {v:V} (hd:st.df=[(l,u)]) (ho:st.ob l=some ⟨u,.dfr⟩) (hr:st.ro≤u)
 (h:endV res (.ret,{ st with ob:=fun k=>if Nat.beq l k then none else st.ob k,df:=[] })=some v):endV res (.ret,st)=some v:=by
 have h1:dfOk st=true:=by
  unfold dfOk
  rw [hd]
  simp only [List.all_cons,List.all_nil,ho,Bool.and_true,List.map_cons,List.map_nil,nodup,List.any_nil,Bool.not_false,Bool.and_eq_true,Nat.beq_refl,true_and]
  exact Nat.ble_eq ▸ hr
 have h2:st.noDf = { st with ob:=fun k=>if Nat.beq l k then none else st.ob k,df:=[] }:=by
  unfold St.noDf
  rw [hd]
  simp
 simp only [endV,h1,h2,if_true]
 simp only [endV] at h
 rw [dfOk_of rfl,noDf_of rfl] at h
 exact h
theorem ev112 {h:Hist'} (hs:Small h):Ev E 112 [.agg (histC h)] (.bool (usedB h)):=by
 refine Ev_wpK (af:=F112) rfl ?_
 have hts:=hs.ts
 simp [F112,histC,objCells,splice]
 refine wp_loopUp [(6,6),(15,23),(14,14)] h.ts.length (fun i s=>s.tm 14 = .int .i64 i∧s.ob 2=some ⟨0,.cells (histC h)⟩∧s.ob 8=some ⟨256,.cells [.map 20 192]⟩∧s.ob 20=some ⟨192,.mp 0 []⟩ ∧
  ∃ ver m,s.ob 18=some ⟨128,.mp ver (MP intV m)⟩∧m.map (·.1)=dd ((h.ts.take i).map (·.s))) rfl rfl ⟨by simp,by simp [histC],by simp,by simp,0,[],by simp [MP],by simp [dd]⟩ ?_
 rintro i s hi ⟨h14,o2,o8,o20,ver,m,o18,hm⟩ f
 have f12:s.tm 12=slOf h.tn txnC h.ts:=by rw [f.t 12 (by simp)];simp
 have f13:s.tm 13 = .int .i64 h.ts.length:=by rw [f.t 13 (by simp)];simp
 have f1:s.tm 1 = .ptr 2 0 0:=by rw [f.t 1 (by simp)];simp
 have f3:s.tm 3 = .map 18 128:=by rw [f.t 3 (by simp)];simp
 have f4:s.tm 4 = .ptr 8 256 0:=by rw [f.t 4 (by simp)];simp
 have fd:s.df=[]:=by rw [f.d];simp
 have fb:s.fb=0:=by rw [f.b];simp
 have fr:s.ro=0:=by rw [f.r];simp
 clear f
 by_cases hlt:i<h.ts.length
 ·have hw:=wrapU hlt (by omega)
  simp [h14,f12,f13,hlt,idx_slOf txnC_len,load_slOf txnC_len,txnC,objCells,fb,fr,splice,f3,lookupV_MI m,objMap,o18]
  refine kS_mapSet (f:=intV) (a:=IntKind.i64.wrap (mcnt m h.ts[i].s+1)) (ver:=ver) (l:=18) (u:=128) (k:=h.ts[i].s) m (by simp) (by simp) (by simp [intV]) (by simp [o18]) (by simp [fr]) ?_
  simp [h14,hw,o2,o8,o20,histC]
  refine ⟨hlt,ver+1,mset m h.ts[i].s (IntKind.i64.wrap (mcnt m h.ts[i].s+1)),by simp,?_⟩
  rw [mset_keys,hm,← List.map_take,List.take_succ_eq_append_getElem hlt,List.map_append]
  exact (dd_snoc _ _).symm
 ·have:i=h.ts.length:=by omega
  subst this
  rw [List.take_length] at hm
  simp [h14,f13]
  simp [f1,o2,objCells,histC]
  refine kS_callS (vs:=[.agg (histC h)]) (by simp [histC]) rfl ?_
  obtain ⟨r,hr,e1,e2,e3,e4⟩:=ev102 (Yf:=noYF) h s.ob s.tk 0 (26 * 1024) (s.nx+64+64)
  refine ⟨r,by simpa [fr,fb] using hr,?_⟩
  simp
  refine wpC_gen fun st hst=>?_
  have n2:¬ (2:Nat)=2 * (s.nx+64+64)+1:=by omega
  have n8:¬ (8:Nat)=2 * (s.nx+64+64)+1:=by omega
  have n18:¬ (18:Nat)=2 * (s.nx+64+64)+1:=by omega
  have n20:¬ (20:Nat)=2 * (s.nx+64+64)+1:=by omega
  have g25:st.tm 25 = .fn (.func 146) [] [.ptr (2 * (s.nx+64+64)+1) (s.nx+64+64) 0]:=by rw [hst];simp [put,e1]
  have g1:st.tm 1 = .ptr 2 0 0:=by rw [hst];simp [put,upd_apply,f1]
  have g3:st.tm 3 = .map 18 128:=by rw [hst];simp [put,upd_apply,f3]
  have g4:st.tm 4 = .ptr 8 256 0:=by rw [hst];simp [put,upd_apply,f4]
  have gd:st.df=[]:=by rw [hst];simp [fd]
  have gb:st.fb=0:=by rw [hst];simp [fb]
  have gr:st.ro=0:=by rw [hst];simp [fr]
  have gn:st.nx=s.nx+64+64+256:=by rw [hst];simp [e4]
  have p2:st.ob 2=some ⟨0,.cells (histC h)⟩:=by rw [hst];simp only [setN_ob];rw [e2,if_neg n2];exact o2
  have p8:st.ob 8=some ⟨256,.cells [.map 20 192]⟩:=by rw [hst];simp only [setN_ob];rw [e2,if_neg n8];exact o8
  have p18:st.ob 18=some ⟨128,.mp ver (MP intV m)⟩:=by rw [hst];simp only [setN_ob];rw [e2,if_neg n18];exact o18
  have p20:st.ob 20=some ⟨192,.mp 0 []⟩:=by rw [hst];simp only [setN_ob];rw [e2,if_neg n20];exact o20
  have pl:st.ob (2 * (s.nx+64+64)+1)=some ⟨s.nx+64+64,.cells (histC h)⟩:=by rw [hst];simp only [setN_ob];rw [e2,if_pos rfl]
  clear hst e1 e2 e3 e4 hr
  refine range_opsN h hts (fun t ht=>by have:=hs.os t ht;omega) rfl rfl rfl (by simpa using g25) pl (by omega) (by omega) gr
   (fun i k ob tk ub=>ob 2=some ⟨0,.cells (histC h)⟩∧ob 8=some ⟨256,.cells [.map 20 192]⟩∧ob 18=some ⟨128,.mp ver (MP intV m)⟩∧∃ ver' m',ob 20=some ⟨192,.mp ver' (MP intV m')⟩∧m'.map (·.1)=dd ((opsTo h i k).map (·.key)))
   ?_ ?_ ?_ ?_ ?_
  ·rintro i k ob ob' tk ub ub' ⟨q2,q8,q18,v',m',q20,hk⟩ hub hfr
   exact ⟨(hfr 2 (fun m _=>by omega)).trans q2,(hfr 8 (fun m _=>by omega)).trans q8,(hfr 18 (fun m _=>by omega)).trans q18,v',m',(hfr 20 (fun m _=>by omega)).trans q20,hk⟩
  ·rintro i hi ob tk ub ⟨q2,q8,q18,v',m',q20,hk⟩
   exact ⟨q2,q8,q18,v',m',q20,by rw [hk,opsTo_next hi]⟩
  ·rintro i hi k hk ob tk ub ⟨q2,q8,q18,v',m',q20,hkeys⟩ w1 w3 hub
   have r1:¬ 2 * st.nx+1=16:=by omega
   have r3:¬ 2 * st.nx+3=16:=by omega
   have r31:¬ 2 * st.nx+3=2 * st.nx+1:=by omega
   have r120:¬ 2 * st.nx+1=20:=by omega
   have r320:¬ 2 * st.nx+3=20:=by omega
   have b16:¬ 16=2 * st.nx+1:=by omega
   have b8:¬ 8=2 * st.nx+1:=by omega
   have b20:¬ 20=2 * st.nx+1:=by omega
   have b2:¬ 2=2 * st.nx+1:=by omega
   have b18:¬ 18=2 * st.nx+1:=by omega
   simp [setPs,upd_apply,opC,objCells,gb,splice,g4,r1,w1,b16,b8,q8,lookupV_MI m',objMap,b20,q20]
   obtain ⟨o,ho⟩:∃ o,(h.ts[i]).ops[k]=o:=⟨_,rfl⟩
   rw [ho]
   refine kS_mapSet (f:=intV) (a:=IntKind.i64.wrap (mcnt m' o.key+1)) (ver:=v') (l:=20) (u:=192) (k:=o.key) m' (by simp) (by simp) (by simp [intV]) (by simp [upd_apply,b20,q20]) (by simp) ?_
   simp [upd_apply,r120,r320,r3,b2,b8,b18,q2,q8,q18,w3]
   refine ⟨by omega,v'+1,mset m' o.key (IntKind.i64.wrap (mcnt m' o.key+1)),by simp,?_⟩
   rw [mset_keys,hkeys,opsTo_step hi hk,List.map_append,ho]
   exact (dd_snoc _ _).symm
  ·exact ⟨p2,p8,p18,0,[],p20,by rw [opsTo_zero];rfl⟩
  ·rintro ob tk ub ⟨q2,q8,q18,v',m',q20,hkeys⟩ w3 hub
   rw [opsTo_end] at hkeys
   have l1:m.length=(dd (usesS h)).length:=by rw [← List.length_map (f:=(·.1)),hm];rfl
   have l2:m'.length=(dd (usesK h)).length:=by rw [← List.length_map (f:=(·.1)),hkeys];rfl
   simp [g3,g1,objMap,q18,q2,objCells,histC,l1]
   unfold usedB
   by_cases c1:(dd (usesS h)).length=h.ss.length
   ·simp [c1,g4,g1,q8,q2,objMap,q20,objCells,histC,l2]
    refine endV_df (l:=2 * st.nx+3) (u:=st.nx+1) (by simp [gd]) (by simp [w3]) (by simp [gr]) (endV_1 rfl ?_ rfl)
    simp
    rw [Bool.eq_iff_iff];simp;omega
   ·have c1':(((dd (usesS h)).length:Int) == (h.ss.length:Int))=false:=by simp;omega
    simp [c1']
    refine endV_df (l:=2 * st.nx+3) (u:=st.nx+1) (by simp [gd]) (by simp [w3]) (by simp [gr]) (endV_1 rfl ?_ rfl)
    simp [c1]
end Go.Pv.T

/- May a history be? The program's way. -/
namespace Go.Pv.T
open Go Go.Pv
def mayH (h:Hist'):Bool:=headsB h && (h.ts.all (txnB h) && ((opsOf h).all (opB h) && usedB h))
def errH (h:Hist'):Int:=if mayH h then 0 else 4
theorem any_not {α:Type} (p:α→Bool) (l:List α):(l.any fun t=>!p t) = !(l.all p):=by
 induction l with
 | nil=>rfl
 | cons a l ih=>simp [ih]
theorem ev70 {h:Hist'} (hs:Small h):Ev E 70 [.agg (histC h)] (.int .i64 (errH h)):=by
 refine Ev_wpK (af:=F70) rfl ?_
 have hts:=hs.ts
 have hos:∀ t∈h.ts,t.ops.length≤1000000:=fun t ht=>by have:=hs.os t ht;omega
 have e107:=ev107 hs
 have e112:=ev112 hs
 obtain ⟨R,hR⟩:∃ R,errH h=R:=⟨_,rfl⟩
 have hR':R=if headsB h && (h.ts.all (txnB h) && ((opsOf h).all (opB h) && usedB h)) then 0 else 4:=hR.symm
 rw [hR]
 clear hR
 simp [F70,histC,objCells]
 refine kS_ev e107 (by simp [histC]) rfl (by simp [histC]) ?_
 cases b1:headsB h
 ·rw [b1] at hR'
  simp at hR'
  subst hR'
  simp [objCells,splice]
  exact kEnd_of rfl (l:=[.int .i64 4]) (by simp [resOf,objCells]) rfl rfl
 rw [b1] at hR'
 simp [objCells]
 refine kS_callO (vs:=[slOf h.tn txnC h.ts,.fn (.func 109) [] [.ptr 2 0 0]]) (by simp) rfl rfl (ev108 (p:=fun t=>!txnB h t) rfl (fun t tk base ub=>ev109 (h:=h) ⟨rfl,by simp [histC]⟩ t tk base ub) h.tn h.ts (by omega) _ _ _) ?_
 rw [any_not]
 cases b2:h.ts.all (txnB h)
 ·rw [b2] at hR'
  replace hR':R=4:=hR'
  subst hR'
  simp [objCells,splice]
  exact kEnd_of rfl (l:=[.int .i64 4]) (by simp [resOf,objCells]) rfl rfl
 rw [b2] at hR'
 simp [objCells]
 refine kS_callS (vs:=[.agg (histC h)]) (by simp [histC]) rfl ?_
 obtain ⟨r,hr,e1,e2,e3,e4⟩:=ev102 (Yf:=noYF) h _ _ 0 _ _
 refine ⟨r,hr,?_⟩
 simp
 refine wpC_gen fun st hst=>?_
 obtain ⟨U,hU⟩:∃ U,st.nx=U:=⟨_,rfl⟩
 obtain ⟨m,hm,hmU,g15,p2,p4,pl⟩:∃ m,m % 64=0∧m<U∧st.tm 15 = .fn (.func 146) [] [.ptr (2 * m+1) m 0]∧st.ob 2=some ⟨0,.cells (histC h)⟩∧st.ob 4=some ⟨64,.cells [.int .i64 0]⟩∧st.ob (2 * m+1)=some ⟨m,.cells (histC h)⟩:=by
  refine ⟨_,?_,?_,by rw [hst];simp only [setN_tm,put,upd_same];exact e1,?_,?_,?_⟩
  ·decide
  ·rw [← hU,hst,setN_nx,e4];omega
  ·rw [hst];simp only [setN_ob];rw [e2];simp [histC]
  ·rw [hst];simp only [setN_ob];rw [e2];simp
  ·rw [hst];simp only [setN_ob];rw [e2];simp
 have g1:st.tm 1 = .ptr 2 0 0:=by rw [hst];simp [put,upd_apply]
 have g2:st.tm 2 = .ptr 4 64 0:=by rw [hst];simp [put,upd_apply]
 have gd:st.df=[]:=by rw [hst];simp
 have gb:st.fb=0:=by rw [hst];simp
 have gr:st.ro=0:=by rw [hst];simp
 have hU64:64≤U:=by rw [← hU,hst,setN_nx,e4];omega
 clear hst e1 e2 e3 e4 hr
 refine range70 h hts hos U hU hU64 g15 ⟨m,rfl,hmU⟩ g1 g2 gr gb p2 p4 pl ?_
 intro e ob tk ub c q2 q4 q3 hub hcase
 rcases hcase with ⟨b3,rfl,rfl⟩ | ⟨b3,rfl,rfl⟩
 ·rw [b3] at hR'
  simp [g1,objCells,q2,histC]
  refine kS_ev e112 (by simp [histC]) rfl (by simp [histC]) ?_
  have n3:¬ 2 * U+3=4:=by omega
  have n4:¬ 4=2 * U+3:=by omega
  cases b4:usedB h
  ·rw [b4] at hR'
   replace hR':R=4:=hR'
   subst hR'
   simp [objCells,g2,q4,gr,splice]
   refine endV_df (l:=2 * U+3) (u:=U+1) (by simp [gd]) (by simp [q3,n3]) (by simp) (endV_plain rfl (l:=[.int .i64 4]) ?_ rfl)
   simp [resOf,objCells,g2,n3]
  ·rw [b4] at hR'
   replace hR':R=0:=hR'
   subst hR'
   simp [objCells,g2,q4,gr,splice]
   refine endV_df (l:=2 * U+3) (u:=U+1) (by simp [gd]) (by simp [q3,n3]) (by simp) (endV_plain rfl (l:=[.int .i64 0]) ?_ rfl)
   simp [resOf,objCells,g2,n3]
 ·rw [b3] at hR'
  replace hR':R=4:=hR'
  subst hR'
  have n3:¬ 2 * U+3=4:=by omega
  have n4:¬ 4=2 * U+3:=by omega
  simp
  refine endV_df (l:=2 * U+3) (u:=U+1) (by simp [gd]) (by simp [q3]) (by simp [gr]) (endV_plain rfl (l:=[.int .i64 4]) ?_ rfl)
  simp [resOf,objCells,g2,n3,q4]
end Go.Pv.T

/- The reference's ops: what it marks. -/
namespace Go.Pv.T
open Go Go.Pv
def marks (bs:List Bool) (ks:List Int):List Bool:=ks.foldl (fun b k=>b.set k.toNat true) bs
theorem marks_len (ks:List Int):∀ bs:List Bool,(marks bs ks).length=bs.length:=by
 induction ks with
 | nil=>intro bs;rfl
 | cons k ks ih=>intro bs;exact (ih _).trans List.length_set
theorem marks_snoc (bs:List Bool) (ks:List Int) (k:Int):marks bs (ks++[k])=(marks bs ks).set k.toNat true:=by simp [marks]
theorem marks_app (bs:List Bool) (a b:List Int):marks bs (a++b)=marks (marks bs a) b:=by simp [marks]
theorem splice_set (bs:List Bool) (k:Nat) (h:k<bs.length):splice (bs.map V.bool) k [.bool true]=(bs.set k true).map V.bool:=by
 unfold splice
 rw [List.map_set,List.set_eq_take_append_cons_drop,if_pos (by simpa using h)]
 simp
def goodT (h:Hist') (t:Txn'):Bool:=txnB h t && t.ops.all (opB h)
theorem idx_osl {l u n:Nat} {kk:IntKind} {x:Int} (h0:0≤x) (h1:x<n):idxSlV 1 (.osl l u 0 n 1) (.int kk x)=some (.ptr l u x.toNat):=by
 simp [idxSlV,h0,h1]
theorem within_of {n:Int} {l:Nat} (h1:¬ n<0) (h2:¬ (l:Int)≤n):within n l=true:=by unfold within;simp;omega
theorem within_f1 {n:Int} {l:Nat} (h1:n<0):within n l=false:=by unfold within;simp;omega
theorem within_f2 {n:Int} {l:Nat} (h1:(l:Int)≤n):within n l=false:=by unfold within;simp;omega
theorem ev82 {Yf:YF} {h:Hist'} {t:Txn'} (ht:t.ops.length≤1000000) {ob:Nat→Option Obj'} {tk:Nat→Bool} {ro base ub l u:Nat} {bs:List Bool} (hbs:bs.length=h.ks.length) (ho:ob l=some ⟨u,.cells (bs.map V.bool)⟩) (hro:ro≤u) (hrb:ro≤ub)
 (hl:∀ m,ub≤m→l≠2 * m+1) :
 ∃ r,EvS E Yf.y 82 [.agg (histC h),.agg (txnC t),.osl l u 0 h.ks.length 1] ob tk ro base ub r∧r.1 = .bool (goodT h t)∧(goodT h t=true →
  r.2.1 l=some ⟨u,.cells ((marks bs (t.ops.map (·.key))).map V.bool)⟩∧(∀ key,key≠l→(∀ m,ub≤m→key≠2 * m+1)→r.2.1 key=ob key)∧r.2.2.1=tk∧ub≤r.2.2.2):=by
 refine EvS_wp (af:=S82) rfl (by decide) ?_
 show wpC E Yf S82.body _ (kEndS S82.res _)
 have n3:¬ 2 * (ub+64)=2 * ub:=by omega
 have n4:¬ 2 * ub=2 * (ub+64):=by omega
 have fin:∀ {e:Ex} {s:St},e = .ret→s.df=[]→s.tm 6 = .bool false→goodT h t=false→kEndS S82.res (fun r=>r.1 = .bool (goodT h t)∧(goodT h t=true →
  r.2.1 l=some ⟨u,.cells ((marks bs (t.ops.map (·.key))).map V.bool)⟩∧(∀ key,key≠l→(∀ m,ub≤m→key≠2 * m+1)→r.2.1 key=ob key)∧r.2.2.1=tk∧ub≤r.2.2.2)) e s:=by
  intro e s he hd h6 hg
  subst he
  refine ⟨(.bool false,s.ob,s.tk,s.nx),?_,by rw [hg],fun h=>by rw [hg] at h;cases h⟩
  simp [endS,hd,S82,resOf,h6]
 generalize hP:(fun r:V × (Nat→Option Obj') × (Nat→Bool) × Nat=>r.1 = .bool (goodT h t)∧(goodT h t=true →
  r.2.1 l=some ⟨u,.cells ((marks bs (t.ops.map (·.key))).map V.bool)⟩∧(∀ key,key≠l→(∀ m,ub≤m→key≠2 * m+1)→r.2.1 key=ob key)∧r.2.2.1=tk∧ub≤r.2.2.2))=P at fin ⊢
 have gf:∀ {b:Bool},txnB h t=b→b=false→goodT h t=false:=fun h1 h2=>by unfold goodT;rw [h1,h2];rfl
 simp [S82,histC,txnC,objCells]
 by_cases s1:t.s<0
 ·simp [s1]
  exact fin rfl (by simp) (by simp) (gf (b:=false) (by unfold txnB;rw [within_f1 s1];rfl) rfl)
 by_cases s2:(h.ss.length:Int)≤t.s
 ·simp [s1,s2,objCells,n4]
  exact fin rfl (by simp) (by simp) (gf (b:=false) (by unfold txnB;rw [within_f2 s2];rfl) rfl)
 by_cases f1:t.f<1
 ·simp [s1,s2,f1,objCells,n4]
  exact fin rfl (by simp) (by simp) (gf (b:=false) (by unfold txnB;simp;omega) rfl)
 by_cases f2:3<t.f
 ·simp [s1,s2,f1,f2,objCells,n4]
  exact fin rfl (by simp) (by simp) (gf (b:=false) (by unfold txnB;simp;omega) rfl)
 by_cases l1:20<(t.ops.length:Int)
 ·simp [s1,s2,f1,f2,l1,objCells,n4]
  exact fin rfl (by simp) (by simp) (gf (b:=false) (by unfold txnB;simp;omega) rfl)
 have htx:txnB h t=true:=by unfold txnB;rw [within_of s1 s2];simp;omega
 simp [s1,s2,f1,f2,l1,objCells,n4]
 refine wp_loopUp [(6,8),(36,78)] t.ops.length (fun i s=>s.tm 7 = .int .i64 i∧s.ob (2 * ub+1)=some ⟨ub,.cells (histC h)⟩∧s.ob (2 * (ub+64)+1)=some ⟨ub+64,.cells (txnC t)⟩ ∧
  s.ob l=some ⟨u,.cells ((marks bs ((t.ops.take i).map (·.key))).map V.bool)⟩∧(∀ key,key≠l→(∀ m,ub≤m→key≠2 * m+1)→s.ob key=ob key)∧s.tk=tk∧ub+128≤s.nx∧(t.ops.take i).all (opB h)=true) rfl rfl ?_ ?_
 ·refine ⟨by simp,by simp [n4,histC],by simp [txnC],?_,?_,?_,?_,by simp⟩
  ·have e1:=hl ub (by omega)
   have e2:=hl (ub+64) (by omega)
   simp [e1,e2,ho,marks]
  ·intro key _ hm
   have e1:=hm ub (by omega)
   have e2:=hm (ub+64) (by omega)
   simp [e1,e2]
  ·simp [app_tk0]
  ·simp
 ·rintro i s hi ⟨h7,oa,ob',ol,hfr,htk,hnx,hall⟩ f
  have f2:s.tm 2 = .osl l u 0 h.ks.length 1:=by rw [f.t 2 (by simp)];simp
  have f3:s.tm 3 = .ptr (2 * ub+1) ub 0:=by rw [f.t 3 (by simp)];simp
  have f4:s.tm 4 = .ptr (2 * (ub+64)+1) (ub+64) 0:=by rw [f.t 4 (by simp)];simp
  have fd:s.df=[]:=by rw [f.d];simp
  have fr:s.ro=ro:=by rw [f.r];simp
  clear f
  by_cases hlt:i<t.ops.length
  ·have hw:=wrapU hlt (by omega)
   have x1:¬ 2 * ub=2 * (s.nx+64+64+64+64+64+64+64+64+64+64):=by omega
   have x2:¬ 2 * (ub+64)=2 * (s.nx+64+64+64+64+64+64+64+64+64+64):=by omega
   have x3:¬ l=2 * (s.nx+64+64+64+64+64+64+64+64+64+64)+1:=hl _ (by omega)
   have x3':¬ 2 * (s.nx+64+64+64+64+64+64+64+64+64+64)+1=l:=fun e=>x3 e.symm
   have x4:¬ 2 * ub+1=l:=fun e=>hl ub (by omega) e.symm
   have x5:¬ 2 * (ub+64)+1=l:=fun e=>hl (ub+64) (by omega) e.symm
   have x6:ro≤s.nx+64+64+64+64+64+64+64+64+64+64:=by omega
   obtain ⟨o,hoo⟩:∃ o,t.ops[i]=o:=⟨_,rfl⟩
   have hl4:=load_slOf opC_len s.ob t.ops hlt
   have bad:opB h o=false→goodT h t=false:=fun hb=>by
    unfold goodT
    rw [all_not hlt (by rw [hoo];exact hb),Bool.and_false]
   simp [h7,f4,ob',objCells,txnC,hlt,idx_slOf opC_len,load_slOf opC_len,hoo,opC,splice,fr,x6]
   by_cases k1:o.key<0
   ·simp [k1]
    exact fin rfl (by simp [fd]) (by simp) (bad (by unfold opB;rw [within_f1 k1];rfl))
   by_cases k2:(h.ks.length:Int)≤o.key
   ·simp [k1,k2,f3,oa,objCells,x1,histC]
    exact fin rfl (by simp [fd]) (by simp) (bad (by unfold opB;rw [within_f2 k2];rfl))
   have hwi:=within_of k1 k2
   simp [k1,k2,f3,oa,objCells,x1,histC]
   refine kS_ev (ev124 o.v) (by simp [valC]) rfl (by simp [valC]) ?_
   cases k3:valB o.v
   ·simp
    exact fin rfl (by simp [fd]) (by simp) (bad (by unfold opB;rw [hwi,k3];rfl))
   have hk0:0≤o.key:=by omega
   have hk1:o.key<(h.ks.length:Int):=by omega
   have hio:=idx_osl (l:=l) (u:=u) (n:=h.ks.length) (kk:=.i64) hk0 hk1
   have hsp:=splice_set (marks bs ((t.ops.take i).map (·.key))) o.key.toNat (by rw [marks_len,hbs];omega)
   have hml:(marks bs ((t.ops.take i).map (·.key))).length=h.ks.length:=by rw [marks_len,hbs]
   have hnext:marks bs ((t.ops.take (i+1)).map (·.key))=(marks bs ((t.ops.take i).map (·.key))).set o.key.toNat true:=by
    rw [List.take_succ_eq_append_getElem hlt,List.map_append,hoo]
    exact marks_snoc _ _ _
   have hlen:o.key.toNat+1≤h.ks.length:=by omega
   have hall':opB h o=true→(t.ops.take (i+1)).all (opB h)=true:=fun hb=>by
    rw [List.take_succ_eq_append_getElem hlt,List.all_append,hall,hoo]
    simp [hb]
   generalize marks bs ((t.ops.take i).map (·.key))=mk at *
   cases k4:o.w
   ·have hgo:opB h o=true:=by unfold opB;rw [hwi,k3,k4];rfl
    simp [objCells,x1,x2,x3,f2,hio,ol,hro,hml,hlen,hsp,fr,h7,hw]
    refine ⟨hlt,?_,?_,?_,?_,htk,?_,?_⟩
    ·rw [if_neg x4,oa];rfl
    ·rw [if_neg x5,ob'];rfl
    ·rw [← List.map_take,hnext,List.map_set]
    ·intro key h1 h2
     rw [if_neg h1,if_neg (h2 _ (by omega)),if_neg (h2 _ (by omega))]
     exact hfr key h1 h2
    ·omega
    ·have:=hall' hgo
     rw [List.all_eq_true] at this
     exact this
   ·cases k5:(o.v.kind == 1)
    ·have k5':(o.v.kind != 1)=true:=by simpa using k5
     simp [objCells,k5']
     exact fin rfl (by simp [fd]) (by simp) (bad (by unfold opB;rw [hwi,k3,k4,k5];rfl))
    ·have k5':(o.v.kind != 1)=false:=by simpa using k5
     have hgo:opB h o=true:=by unfold opB;rw [hwi,k3,k4,k5];rfl
     simp [objCells,x1,x2,x3,f2,hio,ol,hro,hml,hlen,hsp,fr,h7,hw,k5']
     refine ⟨hlt,?_,?_,?_,?_,htk,?_,?_⟩
     ·rw [if_neg x4,oa];rfl
     ·rw [if_neg x5,ob'];rfl
     ·rw [← List.map_take,hnext,List.map_set]
     ·intro key h1 h2
      rw [if_neg h1,if_neg (h2 _ (by omega)),if_neg (h2 _ (by omega))]
      exact hfr key h1 h2
     ·omega
     ·have:=hall' hgo
      rw [List.all_eq_true] at this
      exact this
  ·have:i=t.ops.length:=by omega
   subst this
   rw [List.take_length] at hall ol
   have hg:goodT h t=true:=by unfold goodT;rw [htx,hall];rfl
   simp [h7,f4,ob',objCells,txnC]
   refine ⟨(.bool true,s.ob,s.tk,s.nx+64+64+64+64+64+64),?_,?_⟩
   ·simp [endS,resOf,fd]
   ·rw [← hP]
    exact ⟨by rw [hg],fun _=>⟨ol,hfr,htk,by show ub≤_;simp;omega⟩⟩
end Go.Pv.T

/- May a history be? The reference's way. -/
namespace Go.Pv.T
open Go Go.Pv
theorem kD_mkSl {E:Env} {st:St} {ub:Nat} {K:List FP→St→Prop} {d:Option Nat} {nm:Bool} {r:List AOpr} {sz bytes n:Nat} {zero:List V} {x y:A} (hl:eval E st.tm x = .int .i64 (n:Int)) (hc:eval E st.tm y = .int .i64 (n:Int)) (hb:n * bytes≤140737488355328) (hn:n≤140737488355328) (hz:zero.length=sz) (h0:0<sz)
 (h:kDApp E r K (eval E st.tm) (.mkSl true sz bytes zero x y) st d ub { v:=.osl (objName d nm st.fb ub) ub 0 n sz,obs:=[(objName d nm st.fb ub,⟨ub,.cells (repl n zero)⟩)] }):wpDraw E (⟨d,.mkSl true sz bytes zero x y,none,nm⟩::r) st ub K:=by
 rw [wpDraw_of rfl]
 simp only [aop,hl,hc]
 rw [if_pos (by refine ⟨by omega,by omega,?_,by omega,hz,h0⟩;rw [← Int.natCast_mul];exact Int.ofNat_le.2 hb)]
 simp only [Bool.not_true,Bool.false_eq_true,false_and,if_false,mkObj,wpD_some,name_eq,Int.toNat_natCast]
 exact h
theorem repl_false (n:Nat):repl n [.bool false]=(List.replicate n false).map V.bool:=by
 unfold repl
 apply List.ext_getElem
 ·simp
 ·intro i h1 h2
  simp [List.getD,Nat.mod_one]
theorem marks_get (ks:List Int):∀ (bs:List Bool) (j:Nat) (hj:j<bs.length),(∀ k∈ks,0≤k)→(marks bs ks)[j]? = some (bs[j] || ks.any fun k=>k == (j:Int)):=by
 induction ks with
 | nil=>intro bs j hj _;simp [marks,hj]
 | cons k ks ih =>
  intro bs j hj h
  have hk:=h k (by simp)
  have:=ih (bs.set k.toNat true) j (by simpa using hj) (fun x hx=>h x (by simp [hx]))
  show (marks (bs.set k.toNat true) ks)[j]? = _
  rw [this,List.getElem_set,List.any_cons]
  by_cases hkj:k.toNat=j
  ·have:k=(j:Int):=by omega
   simp [this]
  ·have:¬ k=(j:Int):=by omega
   have e:(k == (j:Int))=false:=by simpa using this
   rw [if_neg hkj,e,Bool.false_or]
theorem marks_all {ks:List Int} {n:Nat} (h:∀ k∈ks,0≤k∧k<n):(marks (List.replicate n false) ks).all id=decide ((dd ks).length=n):=by
 have hp:=(pigeon n (dd ks) (nodup_dd ks) (fun x hx=>h x (mem_dd.1 hx))).2
 rw [Bool.eq_iff_iff,List.all_eq_true,decide_eq_true_eq,hp]
 constructor
 ·intro hall k hk
  have hl:k<(marks (List.replicate n false) ks).length:=by rw [marks_len];simpa using hk
  have:=hall _ (List.getElem_mem hl)
  have hg:=marks_get ks (List.replicate n false) k (by simpa using hk) (fun x hx=>(h x hx).1)
  rw [List.getElem?_eq_getElem hl,Option.some.injEq] at hg
  rw [hg] at this
  simp at this
  exact mem_dd.2 this
 ·intro hall x hx
  obtain ⟨j,hj,rfl⟩:=List.getElem_of_mem hx
  have hjn:j<n:=by rw [marks_len] at hj;simpa using hj
  have hg:=marks_get ks (List.replicate n false) j (by simpa using hjn) (fun x hx=>(h x hx).1)
  rw [List.getElem?_eq_getElem hj,Option.some.injEq] at hg
  rw [hg]
  have:=mem_dd.1 (hall j hjn)
  simp
  exact this
theorem goodT_all (h:Hist'):h.ts.all (goodT h)=(h.ts.all (txnB h) && (opsOf h).all (opB h)):=by
 unfold opsOf
 induction h.ts with
 | nil=>rfl
 | cons t l ih =>
  simp only [List.all_cons,List.flatMap_cons,List.all_append,ih,goodT]
  cases txnB h t <;> cases t.ops.all (opB h) <;> cases l.all (txnB h) <;> simp
theorem within_iff {n:Int} {l:Nat}:within n l=true ↔ 0≤n∧n<l:=by unfold within;simp
theorem mayH_ref {h:Hist'} (hd:headsB h=true) (hg:h.ts.all (goodT h)=true):mayH h=((marks (List.replicate h.ks.length false) (usesK h)).all id && (marks (List.replicate h.ss.length false) (usesS h)).all id):=by
 rw [goodT_all,Bool.and_eq_true] at hg
 have hS:∀ k∈usesS h,0≤k∧k<h.ss.length:=by
  intro k hk
  obtain ⟨t,ht,rfl⟩:=List.mem_map.1 hk
  have:=List.all_eq_true.1 hg.1 t ht
  unfold txnB at this
  rw [Bool.and_eq_true] at this
  exact within_iff.1 this.1
 have hK:∀ k∈usesK h,0≤k∧k<h.ks.length:=by
  intro k hk
  obtain ⟨t,ht,rfl⟩:=List.mem_map.1 hk
  have:=List.all_eq_true.1 hg.2 t ht
  unfold opB at this
  rw [Bool.and_eq_true] at this
  exact within_iff.1 this.1
 rw [marks_all hS,marks_all hK]
 unfold mayH usedB
 rw [hd,hg.1,hg.2]
 simp only [Bool.true_and]
 rw [Bool.and_comm]
theorem errH_f1 {h:Hist'} (hd:headsB h=false):errH h=4:=by unfold errH mayH;rw [hd];rfl
theorem errH_f2 {h:Hist'} (hg:h.ts.all (goodT h)=false):errH h=4:=by
 unfold errH mayH
 rw [goodT_all] at hg
 rw [← Bool.and_assoc (h.ts.all (txnB h)),hg]
 simp
end Go.Pv.T

/- May a history be? The walk of the reference's. -/
namespace Go.Pv.T
open Go Go.Pv
def allT (l:List Bool):Bool:=l.all id
theorem allT_nil:allT []=true:=rfl
theorem allT_succ {l:List Bool} {j:Nat} (h:j<l.length):allT (l.take (j+1))=(allT (l.take j) && l[j]):=by
 unfold allT;rw [List.take_succ_eq_append_getElem h,List.all_append];simp
theorem ev32 {h:Hist'} (hs:Small h):Ev E 32 [.agg (histC h)] (.int .i64 (errH h)):=by
 refine Ev_wpK (af:=F32) rfl ?_
 have hts:=hs.ts
 have hks:=hs.ks
 have hss:=hs.ss
 have e1:=ev81 h.sn h.ss (by omega) (fun s hx=>by have:=hs.sl s hx;omega)
 have e2:=ev81 h.kn h.ks (by omega) (fun s hx=>by have:=hs.kl s hx;omega)
 obtain ⟨R,hR⟩:∃ R,errH h=R:=⟨_,rfl⟩
 have bad:headsB h=false→R=4:=fun hd=>hR ▸ errH_f1 hd
 have bad2:h.ts.all (goodT h)=false→R=4:=fun hd=>hR ▸ errH_f2 hd
 rw [hR]
 simp [F32,histC,objCells]
 refine kS_ev e1 (by simp) rfl rfl ?_
 cases b1:tabB h.ss
 ·rw [bad (by unfold headsB;rw [b1];rfl)]
  simp
  exact endV_1 rfl (by simp) rfl
 simp [objCells]
 refine kS_ev e2 (by simp) rfl rfl ?_
 cases b2:tabB h.ks
 ·rw [bad (by unfold headsB;rw [b1,b2];rfl)]
  simp
  exact endV_1 rfl (by simp) rfl
 by_cases c1:20<(h.ss.length:Int)
 ·rw [bad (by unfold headsB;simp;omega)]
  simp [objCells,c1]
  exact endV_1 rfl (by simp) rfl
 by_cases c2:40<(h.ks.length:Int)
 ·rw [bad (by unfold headsB;simp;omega)]
  simp [objCells,c1,c2]
  exact endV_1 rfl (by simp) rfl
 by_cases c3:40<(h.ts.length:Int)
 ·rw [bad (by unfold headsB;simp;omega)]
  simp [objCells,c1,c2,c3]
  exact endV_1 rfl (by simp) rfl
 have hd:headsB h=true:=by unfold headsB;rw [b1,b2];simp;omega
 simp [objCells,c1,c2,c3]
 refine kD_mkSl (n:=h.ks.length) (by simp) (by simp) (by omega) (by omega) rfl (by decide) ?_
 simp [objCells]
 refine kD_mkSl (n:=h.ss.length) (by simp) (by simp) (by omega) (by omega) rfl (by decide) ?_
 simp [repl_false]
 refine ⟨by simp [drawOk,indep,disj,fpOf,rdOb,rdTk,lOf,Delta.wo,Delta.wt];decide,?_⟩
 refine wpC_gen fun st hst=>?_
 have g1:st.tm 1 = .ptr 1 0 0:=by rw [hst];simp
 have g3:st.tm 3 = .osl 4225 2112 0 h.ks.length 1:=by rw [hst];simp
 have g4:st.tm 4 = .osl 4737 2368 0 h.ss.length 1:=by rw [hst];simp
 have g5:st.tm 5 = .int .i64 0:=by rw [hst];simp
 have p1:st.ob 1=some ⟨0,.cells (histC h)⟩:=by rw [hst];simp [histC]
 have pk:st.ob 4225=some ⟨2112,.cells ((List.replicate h.ks.length false).map V.bool)⟩:=by rw [hst];simp
 have ps:st.ob 4737=some ⟨2368,.cells ((List.replicate h.ss.length false).map V.bool)⟩:=by rw [hst];simp
 have gd:st.df=[]:=by rw [hst];simp
 have gb:st.fb=0:=by rw [hst];simp
 have gr:st.ro=0:=by rw [hst];simp
 have gn:2400≤st.nx:=by rw [hst];simp
 clear hst
 generalize hB:List.replicate h.ks.length false=B at *
 generalize hC:List.replicate h.ss.length false=D at *
 have hBl:B.length=h.ks.length:=by rw [← hB];simp
 have hDl:D.length=h.ss.length:=by rw [← hC];simp
 refine wp_loopUp [(2,2),(5,5),(45,68)] h.ts.length (fun i s=>s.tm 5 = .int .i64 i∧s.ob 1=some ⟨0,.cells (histC h)⟩∧s.ob 4225=some ⟨2112,.cells ((marks B ((h.ts.take i).flatMap fun t=>t.ops.map (·.key))).map V.bool)⟩ ∧
  s.ob 4737=some ⟨2368,.cells ((marks D ((h.ts.take i).map (·.s))).map V.bool)⟩∧2400≤s.nx∧(h.ts.take i).all (goodT h)=true) rfl rfl ⟨by simp [g5],p1,by simp [pk,marks],by simp [ps,marks],gn,by simp⟩ ?_
 rintro i s hi ⟨h5,o1,ok,os,hnx,hall⟩ f
 have f1:s.tm 1 = .ptr 1 0 0:=by rw [f.t 1 (by simp),g1]
 have f3:s.tm 3 = .osl 4225 2112 0 h.ks.length 1:=by rw [f.t 3 (by simp),g3]
 have f4:s.tm 4 = .osl 4737 2368 0 h.ss.length 1:=by rw [f.t 4 (by simp),g4]
 have fd:s.df=[]:=by rw [f.d,gd]
 have fb:s.fb=0:=by rw [f.b,gb]
 have fr:s.ro=0:=by rw [f.r,gr]
 clear f
 by_cases hlt:i<h.ts.length
 ·have hw:=wrapU hlt (by omega)
  obtain ⟨t,ht⟩:∃ t,h.ts[i]=t:=⟨_,rfl⟩
  have htm:t∈h.ts:=ht ▸ List.getElem_mem hlt
  have hos:=hs.os t htm
  have hl3:=load_slOf txnC_len s.ob h.ts hlt
  rw [ht] at hl3
  simp [h5,f1,o1,objCells,histC,hlt,idx_slOf txnC_len,load_slOf txnC_len,ht,f3]
  refine kS_callS (vs:=[.agg (histC h),.agg (txnC t),.osl 4225 2112 0 h.ks.length 1]) (by simp [histC]) rfl ?_
  simp [fr,fb]
  have hml:(marks B ((h.ts.take i).flatMap fun t=>t.ops.map (·.key))).length=h.ks.length:=by rw [marks_len,hBl]
  have hmd:(marks D ((h.ts.take i).map (·.s))).length=h.ss.length:=by rw [marks_len,hDl]
  obtain ⟨⟨v,ob',tk',ub'⟩,hr,hv,hg⟩:=ev82 (Yf:=noYF) (h:=h) (t:=t) (by omega) (ob:=s.ob) (tk:=s.tk) (ro:=0) (base:=61440) (ub:=s.nx+64+64+64+64+64+64+64+64+64+64+64+64) (l:=4225) (u:=2112) hml ok (by omega) (by omega) (fun m hm=>by omega)
  refine ⟨v,ob',tk',ub',hr,?_⟩
  simp only at hv hg
  subst hv
  cases hgt:goodT h t
  ·rw [bad2 (all_not hlt (by rw [ht];exact hgt))]
   simp [put]
   exact endV_1 (by simp [fd]) (by simp) rfl
  ·obtain ⟨q1,q2,q3,q4⟩:=hg hgt
   have q1':=(q2 1 (by decide) (fun m hm=>by omega)).trans o1
   have qs:=(q2 4737 (by decide) (fun m hm=>by omega)).trans os
   have htx:txnB h t=true:=by unfold goodT at hgt;rw [Bool.and_eq_true] at hgt;exact hgt.1
   have hwi:0≤t.s∧t.s<h.ss.length:=by unfold txnB at htx;rw [Bool.and_eq_true] at htx;exact within_iff.1 htx.1
   have hio:=idx_osl (l:=4737) (u:=2368) (n:=h.ss.length) (kk:=.i64) hwi.1 hwi.2
   have hsp:=splice_set (marks D ((h.ts.take i).map (·.s))) t.s.toNat (by rw [hmd];omega)
   have hfl:(h.ts.flatMap txnC)[i * 3]? = some (.int .i64 t.s):=by
    have:=fld_at txnC_len h.ts hlt (by decide:0<3)
    rw [Nat.add_zero,ht] at this
    rw [this];rfl
   have hnk:marks B ((h.ts.take (i+1)).flatMap fun t=>t.ops.map (·.key))=marks (marks B ((h.ts.take i).flatMap fun t=>t.ops.map (·.key))) (t.ops.map (·.key)):=by
    rw [List.take_succ_eq_append_getElem hlt,List.flatMap_append,marks_app,ht];simp
   have hns:marks D ((h.ts.take (i+1)).map (·.s))=(marks D ((h.ts.take i).map (·.s))).set t.s.toNat true:=by
    rw [List.take_succ_eq_append_getElem hlt,List.map_append,ht];exact marks_snoc _ _ _
   have hal:(h.ts.take (i+1)).all (goodT h)=true:=by
    rw [List.take_succ_eq_append_getElem hlt,List.all_append,hall,ht];simp [hgt]
   rw [← hnk] at q1
   have hts1:t.s.toNat+1≤h.ss.length:=by omega
   obtain ⟨mk,hmk⟩:∃ m,marks B ((h.ts.take (i+1)).flatMap fun t=>t.ops.map (·.key))=m:=⟨_,rfl⟩
   rw [hmk] at q1
   generalize marks D ((h.ts.take i).map (·.s))=md at *
   simp [put,upd_apply,f1,f4,h5,q1',objCells,histC,hlt,idx_slOf txnC_len,hfl,hio,qs,hmd,hsp,hw,q1,hts1]
   refine ⟨by rw [hmk],by rw [← List.map_take,hns,List.map_set],by omega,?_⟩
   rw [List.all_eq_true] at hal
   exact hal
 ·have:i=h.ts.length:=by omega
  subst this
  rw [List.take_length] at hall ok os
  have hmay:=mayH_ref hd hall
  have hK:(h.ts.flatMap fun t=>t.ops.map (·.key))=usesK h:=by unfold usesK opsOf;rw [List.map_flatMap]
  have hS:h.ts.map (·.s)=usesS h:=rfl
  rw [hK] at ok
  rw [hS] at os
  rw [hB,hC] at hmay
  have hml:(marks B (usesK h)).length=h.ks.length:=by rw [marks_len,hBl]
  have hmd:(marks D (usesS h)).length=h.ss.length:=by rw [marks_len,hDl]
  have hR':R=if allT (marks B (usesK h)) && allT (marks D (usesS h)) then 0 else 4:=by rw [← hR,errH,hmay];rfl
  clear hmay hR
  generalize marks B (usesK h)=mk at *
  generalize marks D (usesS h)=md at *
  simp [h5,f1,o1,objCells,histC]
  refine wp_loopUp [(6,7),(69,81)] h.ks.length (fun i s'=>s'.tm 7 = .int .i64 i∧s'.ob=s.ob∧s'.tm 6 = .bool (allT (mk.take i))) rfl rfl ⟨by simp,by simp,by simp [allT_nil]⟩ ?_
  rintro j s1 hj ⟨k7,ko,k6⟩ f
  have m3:s1.tm 3 = .osl 4225 2112 0 h.ks.length 1:=by rw [f.t 3 (by simp)];simp [f3]
  have m4:s1.tm 4 = .osl 4737 2368 0 h.ss.length 1:=by rw [f.t 4 (by simp)];simp [f4]
  have md1:s1.df=[]:=by rw [f.d];simp [fd]
  clear f
  by_cases hjt:j<h.ks.length
  ·have hw:=wrapU hjt (by omega)
   have hjm:j<mk.length:=by omega
   have hio:=idx_osl (l:=4225) (u:=2112) (n:=h.ks.length) (kk:=.i64) (x:=(j:Int)) (by omega) (by omega)
   have hnx:allT (mk.take (j+1))=(allT (mk.take j) && mk[j]):=allT_succ hjm
   cases hb:allT (mk.take j)
   ·rw [hb] at k6 hnx
    simp [k7,m3,hjt,k6,hw,ko]
    rw [hnx];rfl
   ·rw [hb] at k6 hnx
    simp [k7,m3,hjt,k6,hw,ko,hio,objCells,ok,hjm]
    rw [hnx];rfl
  ·have:j=h.ks.length:=by omega
   subst this
   have hmt:mk.take h.ks.length=mk:=List.take_of_length_le (by omega)
   rw [hmt] at k6
   simp [k7,m3]
   refine wp_loopUp [(6,6),(8,8),(82,94)] h.ss.length (fun i s'=>s'.tm 8 = .int .i64 i∧s'.ob=s.ob∧s'.tm 6 = .bool (allT mk && allT (md.take i))) rfl rfl ⟨by simp,by simp [ko],by simp [k6,allT_nil]⟩ ?_
   rintro j s2 hj ⟨z8,zo,z6⟩ f
   have y4:s2.tm 4 = .osl 4737 2368 0 h.ss.length 1:=by rw [f.t 4 (by simp)];simp [m4]
   have yd:s2.df=[]:=by rw [f.d];simp [md1]
   clear f
   by_cases hjt:j<h.ss.length
   ·have hw:=wrapU hjt (by omega)
    have hjm:j<md.length:=by omega
    have hio:=idx_osl (l:=4737) (u:=2368) (n:=h.ss.length) (kk:=.i64) (x:=(j:Int)) (by omega) (by omega)
    have hnx:allT (md.take (j+1))=(allT (md.take j) && md[j]):=allT_succ hjm
    cases hb:(allT mk && allT (md.take j))
    ·have hnx':(allT mk && allT (md.take (j+1)))=false:=by rw [hnx,← Bool.and_assoc,hb];rfl
     rw [hb] at z6
     simp [z8,y4,hjt,z6,hw,zo]
     intro hm;rw [hm] at hnx';exact hnx'
    ·have hnx':(allT mk && allT (md.take (j+1)))=md[j]:=by rw [hnx,← Bool.and_assoc,hb];rfl
     rw [hb] at z6
     simp [z8,y4,hjt,z6,hw,zo,hio,objCells,os,hjm]
     exact hnx'.symm
   ·have:j=h.ss.length:=by omega
    subst this
    have hmt:md.take h.ss.length=md:=List.take_of_length_le (by omega)
    rw [hmt] at z6
    cases hb:(allT mk && allT md)
    ·rw [hb] at z6 hR'
     simp [z8,y4,z6]
     exact endV_1 (by simp [yd]) (by simp [hR']) rfl
    ·rw [hb] at z6 hR'
     simp [z8,y4,z6]
     exact endV_1 (by simp [yd]) (by simp [hR']) rfl
end Go.Pv.T

/- Slices that are sorted where they lie: cells of an array. -/
namespace Go.Pv.T
open Go Go.Pv Go.Sort
def arr {α:Type} (f:α→List V) (d:Array α):List V:=d.toList.flatMap f
theorem arr_len {α:Type} {f:α→List V} {sz:Nat} (hf:∀ a,(f a).length=sz) (d:Array α):(arr f d).length=d.size * sz:=by
 unfold arr;rw [flatMap_len hf,Array.length_toList]
theorem flat_set {α:Type} {f:α→List V} {sz:Nat} (hf:∀ a,(f a).length=sz) (a:α):∀ (l:List α) (i:Nat),i<l.length→splice (l.flatMap f) (i * sz) (f a)=(l.set i a).flatMap f
 | [],_,h=>by simp at h
 | x::l,0,_=>by simp [splice,hf]
 | x::l,i+1,h=>by
  have ih:=flat_set hf a l i (by simpa using h)
  have e:(i+1) * sz=(f x).length+i * sz:=by rw [hf,Nat.succ_mul,Nat.add_comm]
  unfold splice at ih ⊢
  rw [List.set_cons_succ,List.flatMap_cons,List.flatMap_cons,← ih,e,List.take_length_add_append,Nat.add_assoc,List.drop_length_add_append]
  simp
theorem arr_set {α:Type} {f:α→List V} {sz:Nat} {d:Array α} (hf:∀ a,(f a).length=sz) {i:Nat} (hi:i<d.size) (a:α):splice (arr f d) (i * sz) (f a)=arr f (d.setIfInBounds i a):=by
 unfold arr
 rw [flat_set hf a d.toList i (by simpa using hi),Array.toList_setIfInBounds]
section
variable {α:Type} [Inhabited α] {f:α→List V} {sz:Nat} {d:Array α}
theorem arr_at (hf:∀ a,(f a).length=sz) {i:Nat} (hi:i<d.size):((arr f d).drop (i * sz)).take sz=f d[i]!:=by
 unfold arr
 rw [flatMap_at hf d.toList i (by simpa using hi),Array.getElem_toList,getElem!_pos d i hi]
theorem idxA {l u n:Nat} {kk:IntKind} {x:Int} (h0:0≤x) (h1:x<n):idxSlV sz (.osl l u 0 n sz) (.int kk x)=some (.ptr l u (x.toNat * sz)):=by
 simp [idxSlV,h0,h1]
end
theorem swp_size {α:Type} [Inhabited α] (d:Array α) (i j:Nat):(swp d i j).size=d.size:=by simp [swp]
theorem ldI {ob:Nat→Option Obj'} {l u:Nat} {d:Array Int} {x:Nat} (ho:ob l=some ⟨u,.cells (arr intC d)⟩) (hx:x<d.size):loadV ob none (.ptr l u (x * 1))=some (.int .i64 d[x]!):=by
 have h:=arr_at (sz:=1) intC_len hx
 simp only [loadV,objCells,ho,if_true,Option.bind_some,pick1]
 have:=congrArg List.head? h
 simpa [List.head?_take,List.head?_drop,intC] using this
theorem stI {d:Array Int} {x:Nat} (hx:x<d.size) (z:Int):splice (arr intC d) x [.int .i64 z]=arr intC (d.setIfInBounds x z):=by
 have:=arr_set (sz:=1) intC_len hx z
 rwa [Nat.mul_one] at this
@[simp] theorem arrI_len (d:Array Int):(arr intC d).length=d.size:=by rw [arr_len (sz:=1) intC_len,Nat.mul_one]
end Go.Pv.T

/- Insertion sort, where the cells lie. -/
namespace Go.Pv.T
open Go Go.Pv Go.Sort
theorem ev205 (x:Int):Ev E 205 [.int .i64 x] (.bool false):=by
 refine Ev_wpK (af:=F205) rfl ?_
 simp [F205]
 exact endV_1 rfl (by simp) rfl
theorem ev163 (x y:Int):Ev E 163 [.int .i64 x,.int .i64 y] (.bool (ltInt x y)):=by
 have e:=ev205 x
 refine Ev_wpK (af:=F163) rfl ?_
 simp [F163]
 refine kS_ev e (by simp) rfl (by simp) ?_
 simp
 exact endV_1 rfl (by simp [ltInt]) rfl
def At (l u:Nat) (cs:List V) (ob:Nat→Option Obj') (tk:Nat→Bool) (ub:Nat) (ob':Nat→Option Obj') (tk':Nat→Bool) (ub':Nat):Prop :=
 ob' l=some ⟨u,.cells cs⟩∧(∀ key,key≠l→(∀ m,ub≤m→key≠2 * m+1)→ob' key=ob key)∧tk'=tk∧ub≤ub'
theorem endS_nil {st:St} {P:V × (Nat→Option Obj') × (Nat→Bool) × Nat→Prop} {e:Ex} (he:e = .nrm∨e = .ret) (hd:st.df=[]) (h:P (.tup [],st.ob,st.tk,st.nx)):kEndS [] P e st:=by
 refine ⟨_,?_,h⟩
 rcases he with rfl | rfl <;> simp [endS,hd]
theorem wrapN {x:Int} (h1:-1000000000≤x) (h2:x≤1000000000):IntKind.i64.wrap x=x:=wrap64' (by omega) (by omega)
theorem sv157 {Yf:YF} {l u a b:Nat} {d:Array Int} (hd:d.size≤1000000) (hb:b≤d.size) (hab:a≤b) {ob:Nat→Option Obj'} {tk:Nat→Bool} {ro base ub:Nat} (ho:ob l=some ⟨u,.cells (arr intC d)⟩) (hro:ro≤u) :
 ∃ r,EvS E Yf.y 157 [.osl l u 0 d.size 1,.int .i64 a,.int .i64 b] ob tk ro base ub r∧At l u (arr intC (insertionSort ltInt d a b)) ob tk ub r.2.1 r.2.2.1 r.2.2.2:=by
 refine EvS_wp (af:=S157) rfl (by decide) ?_
 show wpC E Yf S157.body _ (kEndS S157.res _)
 have w1:IntKind.i64.wrap ((a:Int)+1)=(a:Int)+1:=wrapN (by omega) (by omega)
 simp [S157,w1]
 refine wp_loopUp [(6,7),(10,48)] (b - a) (fun k s=>s.tm 6 = .int .i64 ((a:Int)+1+k)∧∃ d1:Array Int,insOuter ltInt a b (a+1+k) d1=insertionSort ltInt d a b∧d1.size=d.size∧At l u (arr intC d1) ob tk ub s.ob s.tk s.nx) rfl rfl
  ⟨by simp,d,rfl,rfl,by simp [ho],by simp,by simp,by simp;omega⟩ ?_
 rintro k s hk ⟨h6,d1,e1,z1,a1,a2,a3,a4⟩ f
 have f0:s.tm 0 = .osl l u 0 d.size 1:=by rw [f.t 0 (by simp)];simp
 have f1:s.tm 1 = .int .i64 a:=by rw [f.t 1 (by simp)];simp
 have f2:s.tm 2 = .int .i64 b:=by rw [f.t 2 (by simp)];simp
 have fd:s.df=[]:=by rw [f.d];simp
 have fr:s.ro=ro:=by rw [f.r];simp
 clear f
 by_cases hlt:a+1+k<b
 ·have c1:(a:Int)+1+k<b:=by omega
  have hout:insOuter ltInt a b (a+1+k) d1=insOuter ltInt a b (a+1+(k+1)) (insInner ltInt a (a+1+k) d1):=by
   conv=>lhs;rw [insOuter,if_pos hlt]
   rfl
  have w2:IntKind.i64.wrap ((a:Int)+1+k+1)=(a:Int)+1+(k+1):=by rw [wrapN (by omega) (by omega)];omega
  simp [h6,f2,c1]
  refine wp_loopUp [(7,7),(16,48)] (a+1+k) (fun j s'=>s'.tm 7 = .int .i64 ((a+1+k - j:Nat):Int)∧∃ d2:Array Int,insInner ltInt a (a+1+k - j) d2=insInner ltInt a (a+1+k) d1∧d2.size=d.size∧At l u (arr intC d2) ob tk ub s'.ob s'.tk s'.nx) rfl rfl
   ⟨by simp,d1,rfl,z1,by simp [a1],by simpa using a2,by simp [a3],by simp;omega⟩ ?_
  rintro j s1 hj ⟨h7,d2,e2,z2,b1,b2,b3,b4⟩ f
  have g0:s1.tm 0 = .osl l u 0 d.size 1:=by rw [f.t 0 (by simp)];simp [f0]
  have g1:s1.tm 1 = .int .i64 a:=by rw [f.t 1 (by simp)];simp [f1]
  have g6:s1.tm 6 = .int .i64 ((a:Int)+1+k):=by rw [f.t 6 (by simp)];simp [h6]
  have gd:s1.df=[]:=by rw [f.d];simp [fd]
  have gr:s1.ro=ro:=by rw [f.r];simp [fr]
  clear f
  by_cases hgt:a<a+1+k - j
  ·obtain ⟨m,hm⟩:∃ m,a+1+k - j=m+1:=⟨a+1+k - j - 1,by omega⟩
   rw [hm] at h7 e2 hgt
   have i1:idxSlV 1 (.osl l u 0 d.size 1) (.int .i64 ((m+1:Nat):Int))=some (.ptr l u ((m+1) * 1)):=idxA (by omega) (by omega)
   have i0:idxSlV 1 (.osl l u 0 d.size 1) (.int .i64 ((m:Nat):Int))=some (.ptr l u (m * 1)):=idxA (by omega) (by omega)
   have w3:IntKind.i64.wrap (((m+1:Nat):Int) - 1)=(m:Nat):=by rw [wrapN (by omega) (by omega)];omega
   have l1:=ldI b1 (x:=m+1) (by omega)
   have l0:=ldI b1 (x:=m) (by omega)
   have c2:(a:Int)<((m+1:Nat):Int):=by omega
   generalize hM1:((m+1:Nat):Int)=M1 at *
   generalize hM0:((m:Nat):Int)=M0 at *
   simp only [Nat.mul_one] at i1 i0 l1 l0
   simp [h7,g0,g1,c2,i1,i0,w3,l1,l0]
   have st1:=stI (d:=d2) (x:=m+1) (by omega) d2[m]!
   have st2:=stI (d:=d2.setIfInBounds (m+1) d2[m]!) (x:=m) (by simp;omega) d2[m+1]!
   have hsw:(d2.setIfInBounds (m+1) d2[m]!).setIfInBounds m d2[m+1]! = swp d2 (m+1) m:=rfl
   rw [hsw] at st2
   have hz1:m+1+1≤d2.size:=by omega
   have hz2:m+1≤d2.size:=by omega
   have hro':ro≤u:=hro
   refine kS_ev (ev163 d2[m+1]! d2[m]!) (by simp) rfl (by simp) ?_
   simp
   cases hl:ltInt d2[m+1]! d2[m]!
   ·have e3:insInner ltInt a (m+1) d2=d2:=by rw [insInner];simp [hl]
    rw [e3] at e2
    simp [g6,w2]
    refine ⟨by omega,d2,?_,z2,by simpa [At] using ⟨b1,b2,b3,by omega⟩⟩
    rw [← e1,hout,← e2]
   ·have e3:insInner ltInt a (m+1) d2=insInner ltInt a m (swp d2 (m+1) m):=by rw [insInner];simp [hl,hgt]
    have hj1:a+1+k - (j+1)=m:=by omega
    simp [h7,g0,i1,i0,w3,l1,l0,objCells,b1,st1,st2,hz1,hz2,hro',gr]
    refine ⟨by omega,by rw [hj1,hM0],swp d2 (m+1) m,by rw [hj1,← e3,e2],by rw [swp_size];exact z2,?_⟩
    simp [At,app_tk0,b3]
    refine ⟨fun key h1 h2=>?_,by omega⟩
    simp only [if_neg h1]
    exact b2 key h1 h2
  ·have e3:insInner ltInt a (a+1+k - j) d2=d2:=by
    cases hc:a+1+k - j with
    | zero=>rfl
    | succ m=>rw [insInner];simp;omega
   rw [e3] at e2
   have c3:¬ (a:Int)<((a+1+k - j:Nat):Int):=by omega
   generalize ((a+1+k - j:Nat):Int)=J at *
   simp [h7,g1,c3,g6,w2]
   refine ⟨by omega,d2,?_,z2,by simpa [At] using ⟨b1,b2,b3,by omega⟩⟩
   rw [← e1,hout,← e2]
 ·have c1:¬ (a:Int)+1+k<b:=by omega
  have e3:insOuter ltInt a b (a+1+k) d1=d1:=by rw [insOuter,if_neg hlt]
  rw [e3] at e1
  subst e1
  simp [h6,f2,c1]
  exact endS_nil (Or.inl rfl) (by simp [fd]) (by simpa [At] using ⟨a1,a2,a3,by omega⟩)
end Go.Pv.T

/- Heap sort, where the cells lie. -/
namespace Go.Pv.T
open Go Go.Pv Go.Sort
theorem idxN {l u n x:Nat} {kk:IntKind} {X:Int} (hX:X=(x:Nat)) (hx:x<n):idxSlV 1 (.osl l u 0 n 1) (.int kk X)=some (.ptr l u x):=by
 subst hX
 have:=idxA (sz:=1) (l:=l) (u:=u) (n:=n) (kk:=kk) (x:=(x:Int)) (by omega) (by omega)
 simpa using this
theorem ldN {ob:Nat→Option Obj'} {l u:Nat} {d:Array Int} {x:Nat} (ho:ob l=some ⟨u,.cells (arr intC d)⟩) (hx:x<d.size):loadV ob none (.ptr l u x)=some (.int .i64 d[x]!):=by
 have:=ldI ho hx
 rwa [Nat.mul_one] at this
theorem At.swap {l u:Nat} {d2:Array Int} {cs:List V} {ob:Nat→Option Obj'} {tk:Nat→Bool} {ub:Nat} {ob1:Nat→Option Obj'} {tk1:Nat→Bool} {ub1:Nat} {ob2:Nat→Option Obj'} {tk2:Nat→Bool} {ub2:Nat} (h:At l u (arr intC d2) ob tk ub ob1 tk1 ub1)
 (h1:ob2 l=some ⟨u,.cells cs⟩) (h2:∀ key,key≠l→ob2 key=ob1 key) (h3:tk2=tk1) (h4:ub1≤ub2):At l u cs ob tk ub ob2 tk2 ub2 :=
 ⟨h1,fun key a b=>(h2 key a).trans (h.2.1 key a b),h3.trans h.2.2.1,Nat.le_trans h.2.2.2 h4⟩
theorem sv200 {Yf:YF} {l u lo hi first:Nat} {d:Array Int} (hd:d.size≤1000000) (hf:first+hi≤d.size) (hlo:lo≤d.size) {ob:Nat→Option Obj'} {tk:Nat→Bool} {ro base ub:Nat} (ho:ob l=some ⟨u,.cells (arr intC d)⟩) (hro:ro≤u) :
 ∃ r,EvS E Yf.y 200 [.osl l u 0 d.size 1,.int .i64 lo,.int .i64 hi,.int .i64 first] ob tk ro base ub r∧At l u (arr intC (siftDown ltInt hi first lo d)) ob tk ub r.2.1 r.2.2.1 r.2.2.2:=by
 refine EvS_wp (af:=S200) rfl (by decide) ?_
 show wpC E Yf S200.body _ (kEndS S200.res _)
 simp [S200]
 obtain ⟨I,hI⟩:∃ I:Nat→St→Prop,I=fun n s=>∃ root:Nat,n=hi - root∧root≤d.size∧s.tm 8 = .int .i64 root∧∃ d1:Array Int,siftDown ltInt hi first root d1=siftDown ltInt hi first lo d∧d1.size=d.size∧At l u (arr intC d1) ob tk ub s.ob s.tk s.nx:=⟨_,rfl⟩
 refine wp_loopF (n:=hi - lo) [(8,9),(11,75)] I rfl rfl (by rw [hI];exact ⟨lo,rfl,hlo,by simp,d,rfl,rfl,by simp [At,ho];omega⟩) ?_
 intro n s hIs f
 rw [hI] at hIs
 obtain ⟨root,rfl,hrs,h8,d1,e1,z1,hat⟩:=hIs
 have f0:s.tm 0 = .osl l u 0 d.size 1:=by rw [f.t 0 (by simp)];simp
 have f2:s.tm 2 = .int .i64 hi:=by rw [f.t 2 (by simp)];simp
 have f3:s.tm 3 = .int .i64 first:=by rw [f.t 3 (by simp)];simp
 have fd:s.df=[]:=by rw [f.d];simp
 have fr:s.ro=ro:=by rw [f.r];simp
 clear f
 obtain ⟨R,hR⟩:∃ x:Int,x=(root:Nat):=⟨_,rfl⟩
 obtain ⟨R2,hR2⟩:∃ x:Int,x=2 * R:=⟨_,rfl⟩
 obtain ⟨C,hC⟩:∃ x:Int,x=R2+1:=⟨_,rfl⟩
 obtain ⟨C1,hC1⟩:∃ x:Int,x=C+1:=⟨_,rfl⟩
 obtain ⟨F,hF⟩:∃ x:Int,x=(first:Nat):=⟨_,rfl⟩
 obtain ⟨H,hH⟩:∃ x:Int,x=(hi:Nat):=⟨_,rfl⟩
 obtain ⟨FR,hFR⟩:∃ x:Int,x=F+R:=⟨_,rfl⟩
 obtain ⟨FC,hFC⟩:∃ x:Int,x=F+C:=⟨_,rfl⟩
 obtain ⟨FC1,hFC1⟩:∃ x:Int,x=FC+1:=⟨_,rfl⟩
 have w1:IntKind.i64.wrap (2 * R)=R2:=by rw [wrapN (by omega) (by omega)];exact hR2.symm
 have w2:IntKind.i64.wrap (R2+1)=C:=by rw [wrapN (by omega) (by omega)];exact hC.symm
 have w3:IntKind.i64.wrap (C+1)=C1:=by rw [wrapN (by omega) (by omega)];exact hC1.symm
 have w4:IntKind.i64.wrap (F+R)=FR:=by rw [wrapN (by omega) (by omega)];exact hFR.symm
 have w5:IntKind.i64.wrap (F+C)=FC:=by rw [wrapN (by omega) (by omega)];exact hFC.symm
 have w6:IntKind.i64.wrap (FC+1)=FC1:=by rw [wrapN (by omega) (by omega)];exact hFC1.symm
 have w7:IntKind.i64.wrap (F+C1)=FC1:=by rw [wrapN (by omega) (by omega)];omega
 rw [← hR] at h8
 rw [← hH] at f2
 rw [← hF] at f3
 by_cases hc:hi≤2 * root+1
 ·have c1:H≤C:=by omega
  have e3:siftDown ltInt hi first root d1=d1:=by rw [siftDown];simp;omega
  rw [e3] at e1
  subst e1
  simp [h8,w1,w2,f2,c1]
  exact endS_nil (Or.inl rfl) (by simp [fd]) (hat.swap (by simp [hat.1]) (by simp) (by simp) (by simp;omega))
 have c1:¬ H≤C:=by omega
 have i0:=idxN (l:=l) (u:=u) (n:=d.size) (kk:=.i64) (X:=FR) (x:=first+root) (by omega) (by omega)
 have i1:=idxN (l:=l) (u:=u) (n:=d.size) (kk:=.i64) (X:=FC) (x:=first+(2 * root+1)) (by omega) (by omega)
 have l0:=ldN hat.1 (x:=first+root) (by omega)
 have l1:=ldN hat.1 (x:=first+(2 * root+1)) (by omega)
 have c0:¬ hi≤2 * root+1:=hc
 simp [h8,w1,w2,f2,c1]
 by_cases hr:2 * root+1+1<hi
 ·have c2:C1<H:=by omega
  have i2:=idxN (l:=l) (u:=u) (n:=d.size) (kk:=.i64) (X:=FC1) (x:=first+(2 * root+2)) (by omega) (by omega)
  have l2:=ldN hat.1 (x:=first+(2 * root+2)) (by omega)
  simp [w3,c2,f0,f3,w5,w6,i1,l1,i2,l2]
  refine kS_ev (ev163 d1[first+(2 * root+1)]! d1[first+(2 * root+2)]!) (by simp) rfl (by simp) ?_
  have hi3:first+(2 * root+1)+1=first+(2 * root+2):=rfl
  cases hl:ltInt d1[first+(2 * root+1)]! d1[first+(2 * root+2)]!
  ·simp
   simp [h8,w4,f0,f3,i0,l0,i1,l1,w5]
   refine kS_ev (ev163 d1[first+root]! d1[first+(2 * root+1)]!) (by simp) rfl (by simp) ?_
   cases hl2:ltInt d1[first+root]! d1[first+(2 * root+1)]!
   ·have e3:siftDown ltInt hi first root d1=d1:=by rw [siftDown];simp [c0,hr,hi3,hl,hl2]
    rw [e3] at e1
    subst e1
    simp
    exact endS_nil (Or.inr rfl) (by simp [fd]) (hat.swap (by simp [hat.1]) (by simp) (by simp) (by simp;omega))
   ·have e3:siftDown ltInt hi first root d1=siftDown ltInt hi first (2 * root+1) (swp d1 (first+root) (first+(2 * root+1))):=by rw [siftDown];simp [c0,hr,hi3,hl,hl2]
    have st1:=stI (d:=d1) (x:=first+root) (by omega) d1[first+(2 * root+1)]!
    have st2:=stI (d:=d1.setIfInBounds (first+root) d1[first+(2 * root+1)]!) (x:=first+(2 * root+1)) (by rw [Array.size_setIfInBounds];omega) d1[first+root]!
    have hsw:(d1.setIfInBounds (first+root) d1[first+(2 * root+1)]!).setIfInBounds (first+(2 * root+1)) d1[first+root]! = swp d1 (first+root) (first+(2 * root+1)):=rfl
    rw [hsw] at st2
    have hz1:first+root+1≤d1.size:=by omega
    have hz2:first+(2 * root+1)+1≤d1.size:=by omega
    simp [h8,w4,f0,f3,i0,l0,i1,l1,w5,objCells,hat.1,fr,hro,st1,st2,hz1,hz2]
    exact ⟨hi - (2 * root+1),by omega,by rw [hI];exact ⟨2 * root+1,rfl,by omega,by simp;omega,swp d1 (first+root) (first+(2 * root+1)),by rw [← e3,e1],by rw [swp_size];exact z1,hat.swap (by simp) (fun key hk=>by simp [hk]) (by simp [app_tk0]) (by simp;omega)⟩⟩
  ·simp [w3]
   simp [h8,w4,f0,f3,i0,l0,i2,l2,w7]
   refine kS_ev (ev163 d1[first+root]! d1[first+(2 * root+2)]!) (by simp) rfl (by simp) ?_
   cases hl2:ltInt d1[first+root]! d1[first+(2 * root+2)]!
   ·have e3:siftDown ltInt hi first root d1=d1:=by rw [siftDown];simp [c0,hr,hi3,hl,hl2]
    rw [e3] at e1
    subst e1
    simp
    exact endS_nil (Or.inr rfl) (by simp [fd]) (hat.swap (by simp [hat.1]) (by simp) (by simp) (by simp;omega))
   ·have e3:siftDown ltInt hi first root d1=siftDown ltInt hi first (2 * root+2) (swp d1 (first+root) (first+(2 * root+2))):=by rw [siftDown];simp [c0,hr,hi3,hl,hl2]
    have st1:=stI (d:=d1) (x:=first+root) (by omega) d1[first+(2 * root+2)]!
    have st2:=stI (d:=d1.setIfInBounds (first+root) d1[first+(2 * root+2)]!) (x:=first+(2 * root+2)) (by rw [Array.size_setIfInBounds];omega) d1[first+root]!
    have hsw:(d1.setIfInBounds (first+root) d1[first+(2 * root+2)]!).setIfInBounds (first+(2 * root+2)) d1[first+root]! = swp d1 (first+root) (first+(2 * root+2)):=rfl
    rw [hsw] at st2
    have hz1:first+root+1≤d1.size:=by omega
    have hz2:first+(2 * root+2)+1≤d1.size:=by omega
    simp [h8,w4,f0,f3,i0,l0,i2,l2,w7,objCells,hat.1,fr,hro,st1,st2,hz1,hz2]
    exact ⟨hi - (2 * root+2),by omega,by rw [hI];exact ⟨2 * root+2,rfl,by omega,by simp;omega,swp d1 (first+root) (first+(2 * root+2)),by rw [← e3,e1],by rw [swp_size];exact z1,hat.swap (by simp) (fun key hk=>by simp [hk]) (by simp [app_tk0]) (by simp;omega)⟩⟩
 ·have c2:¬ C1<H:=by omega
  simp [w3,c2]
  simp [h8,w4,f0,f3,i0,l0,i1,l1,w5]
  refine kS_ev (ev163 d1[first+root]! d1[first+(2 * root+1)]!) (by simp) rfl (by simp) ?_
  cases hl2:ltInt d1[first+root]! d1[first+(2 * root+1)]!
  ·have e3:siftDown ltInt hi first root d1=d1:=by rw [siftDown];simp [c0,hr,hl2]
   rw [e3] at e1
   subst e1
   simp
   exact endS_nil (Or.inr rfl) (by simp [fd]) (hat.swap (by simp [hat.1]) (by simp) (by simp) (by simp;omega))
  ·have e3:siftDown ltInt hi first root d1=siftDown ltInt hi first (2 * root+1) (swp d1 (first+root) (first+(2 * root+1))):=by rw [siftDown];simp [c0,hr,hl2]
   have st1:=stI (d:=d1) (x:=first+root) (by omega) d1[first+(2 * root+1)]!
   have st2:=stI (d:=d1.setIfInBounds (first+root) d1[first+(2 * root+1)]!) (x:=first+(2 * root+1)) (by rw [Array.size_setIfInBounds];omega) d1[first+root]!
   have hsw:(d1.setIfInBounds (first+root) d1[first+(2 * root+1)]!).setIfInBounds (first+(2 * root+1)) d1[first+root]! = swp d1 (first+root) (first+(2 * root+1)):=rfl
   rw [hsw] at st2
   have hz1:first+root+1≤d1.size:=by omega
   have hz2:first+(2 * root+1)+1≤d1.size:=by omega
   simp [h8,w4,f0,f3,i0,l0,i1,l1,w5,objCells,hat.1,fr,hro,st1,st2,hz1,hz2]
   exact ⟨hi - (2 * root+1),by omega,by rw [hI];exact ⟨2 * root+1,rfl,by omega,by simp;omega,swp d1 (first+root) (first+(2 * root+1)),by rw [← e3,e1],by rw [swp_size];exact z1,hat.swap (by simp) (fun key hk=>by simp [hk]) (by simp [app_tk0]) (by simp;omega)⟩⟩
end Go.Pv.T

/- Calls that share; heap sort. -/
namespace Go.Pv.T
open Go Go.Pv Go.Sort
def retS (st:St) (d:Option Nat) (v:V) (ob:Nat→Option Obj') (tk:Nat→Bool):St:={ st with tm:=put st.tm d v,ob:=ob,tk:=tk }
section
variable {st:St} {d:Option Nat} {v:V} {ob:Nat→Option Obj'} {tk:Nat→Bool}
@[simp] theorem retS_tm (e n:Nat):(retS st (some e) v ob tk).tm n=if n=e then v else st.tm n:=by simp [retS,put,upd_apply]
@[simp] theorem retS_tm0 (n:Nat):(retS st none v ob tk).tm n=st.tm n:=rfl
@[simp] theorem retS_ob:(retS st d v ob tk).ob=ob:=rfl
@[simp] theorem retS_tk:(retS st d v ob tk).tk=tk:=rfl
@[simp] theorem retS_ro:(retS st d v ob tk).ro=st.ro:=rfl
@[simp] theorem retS_nx:(retS st d v ob tk).nx=st.nx:=rfl
@[simp] theorem retS_fb:(retS st d v ob tk).fb=st.fb:=rfl
@[simp] theorem retS_df:(retS st d v ob tk).df=st.df:=rfl
end
@[simp] theorem nilCheckV_ptr (l u o:Nat):nilCheckV (.ptr l u o)=some (.ptr l u o):=rfl
theorem kS_callP {Yf:YF} {f:FuncId} {xs:List A} {st:St} {ub:Nat} {K:St→Nat→Prop} {d:Option Nat} {nm:Bool} {vs:List V} {P:V × (Nat→Option Obj') × (Nat→Bool) × Nat→Prop} (hx:xs.map (eval E st.tm)=vs) (hs:E.sh nm f=true)
 (he:∃ r,EvS E Yf.y f vs st.ob st.tk st.ro ((st.fb+d.getD 0+1) * 1024) ub r∧P r) (h:∀ v ob' tk' ub',P (v,ob',tk',ub')→K (retS st d v ob' tk') ub'):wpStep E Yf ⟨d,.call f xs,none,nm⟩ st ub K:=by
 obtain ⟨r,hr,hP⟩:=he
 exact kS_callS hx hs ⟨r,hr,h r.1 r.2.1 r.2.2.1 r.2.2.2 hP⟩
theorem endS_2 {st:St} {x y:Nat} {P:V × (Nat→Option Obj') × (Nat→Bool) × Nat→Prop} (hd:st.df=[]) (h:P (.tup [st.tm x,st.tm y],st.ob,st.tk,st.nx)):kEndS [.t x,.t y] P .ret st:=⟨_,by simp [endS,hd,resOf],h⟩
theorem endS_1 {st:St} {x:Nat} {P:V × (Nat→Option Obj') × (Nat→Bool) × Nat→Prop} (hd:st.df=[]) (h:P (st.tm x,st.ob,st.tk,st.nx)):kEndS [.t x] P .ret st:=⟨_,by simp [endS,hd,resOf],h⟩
theorem At.refl {l u:Nat} {cs:List V} {ob:Nat→Option Obj'} {tk:Nat→Bool} {ub:Nat} (h:ob l=some ⟨u,.cells cs⟩):At l u cs ob tk ub ob tk ub:=⟨h,fun _ _ _=>rfl,rfl,Nat.le_refl _⟩
theorem At.trans {l u:Nat} {cs cs':List V} {ob ob1 ob2:Nat→Option Obj'} {tk tk1 tk2:Nat→Bool} {ub ub1 ub1' ub2:Nat} (h:At l u cs ob tk ub ob1 tk1 ub1) (h':At l u cs' ob1 tk1 ub1' ob2 tk2 ub2) (hu:ub1≤ub1'):At l u cs' ob tk ub ob2 tk2 ub2 :=
 ⟨h'.1,fun key a b=>(h'.2.1 key a (fun m hm=>b m (by have:=h.2.2.2;omega))).trans (h.2.1 key a b),h'.2.2.1.trans h.2.2.1,by have:=h.2.2.2;have:=h'.2.2.2;omega⟩
theorem At.same {l u:Nat} {cs:List V} {ob ob1 ob2:Nat→Option Obj'} {tk tk1 tk2:Nat→Bool} {ub ub1 ub2:Nat} (h:At l u cs ob tk ub ob1 tk1 ub1) (h1:ob2=ob1) (h2:tk2=tk1) (hu:ub1≤ub2):At l u cs ob tk ub ob2 tk2 ub2:=by
 subst h1 h2
 exact ⟨h.1,h.2.1,h.2.2.1,Nat.le_trans h.2.2.2 hu⟩
theorem siftDown_size (lt:Int→Int→Bool) (hi first root:Nat) (d:Array Int):(siftDown lt hi first root d).size=d.size:=by
 fun_induction siftDown lt hi first root d <;> simp_all [swp_size]
theorem sv158 {Yf:YF} {l u a b:Nat} {d:Array Int} (hd:d.size≤1000000) (hb:b≤d.size) (hab:a≤b) {ob:Nat→Option Obj'} {tk:Nat→Bool} {ro base ub:Nat} (ho:ob l=some ⟨u,.cells (arr intC d)⟩) (hro:ro≤u) :
 ∃ r,EvS E Yf.y 158 [.osl l u 0 d.size 1,.int .i64 a,.int .i64 b] ob tk ro base ub r∧At l u (arr intC (heapSort ltInt d a b)) ob tk ub r.2.1 r.2.2.1 r.2.2.2:=by
 refine EvS_wp (af:=S158) rfl (by decide) ?_
 show wpC E Yf S158.body _ (kEndS S158.res _)
 obtain ⟨A,hA⟩:∃ x:Int,x=(a:Nat):=⟨_,rfl⟩
 obtain ⟨B,hB⟩:∃ x:Int,x=(b:Nat):=⟨_,rfl⟩
 obtain ⟨H,hH⟩:∃ x:Int,x=B - A:=⟨_,rfl⟩
 obtain ⟨H1,hH1⟩:∃ x:Int,x=H - 1:=⟨_,rfl⟩
 have w1:IntKind.i64.wrap (B - A)=H:=by rw [wrapN (by omega) (by omega)];exact hH.symm
 have w2:IntKind.i64.wrap (H - 1)=H1:=by rw [wrapN (by omega) (by omega)];exact hH1.symm
 have w3:IntKind.i64.wrap (H1.tdiv 2)=(((b - a - 1) / 2+1:Nat):Int) - 1:=by
  rcases Nat.eq_zero_or_pos (b - a) with h | h
  ·have:H1 = -1:=by omega
   rw [this,h];rfl
  ·have:H1=((b - a - 1:Nat):Int):=by omega
   have e:H1.tdiv 2=(((b - a - 1) / 2:Nat):Int):=by rw [this];exact (Int.ofNat_tdiv _ 2).symm
   rw [e,wrapN (by omega) (by omega)]
   omega
 rw [← hA,← hB]
 obtain ⟨K0,hK0⟩:∃ k,k=(b - a - 1) / 2+1:=⟨_,rfl⟩
 rw [← hK0] at w3
 obtain ⟨J0,hJ0⟩:∃ x:Int,x=(K0:Int) - 1:=⟨_,rfl⟩
 rw [← hJ0] at w3
 simp [S158,w1,w2,w3]
 obtain ⟨I,hI⟩:∃ I:Nat→St→Prop,I=fun n s=>s.tm 9 = .int .i64 ((n:Int) - 1)∧n≤K0∧∃ d1:Array Int,heapBuild ltInt (b - a) a n d1=heapBuild ltInt (b - a) a K0 d∧d1.size=d.size∧At l u (arr intC d1) ob tk ub s.ob s.tk s.nx:=⟨_,rfl⟩
 refine wp_loopF (n:=K0) [(9,9),(18,26)] I rfl rfl (by rw [hI];exact ⟨by simp [hJ0],Nat.le_refl _,d,rfl,rfl,(At.refl ho).same (by simp) (by simp) (by simp;omega)⟩) ?_
 intro n s hIs f
 rw [hI] at hIs
 obtain ⟨h9,hnK,d1,e1,z1,hat⟩:=hIs
 have f0:s.tm 0 = .osl l u 0 d.size 1:=by rw [f.t 0 (by simp)];simp
 have f6:s.tm 6 = .int .i64 A:=by rw [f.t 6 (by simp)];simp
 have f7:s.tm 7 = .int .i64 0:=by rw [f.t 7 (by simp)];simp
 have f8:s.tm 8 = .int .i64 H:=by rw [f.t 8 (by simp)];simp
 have fd:s.df=[]:=by rw [f.d];simp
 have fr:s.ro=ro:=by rw [f.r];simp
 clear f
 cases n with
 | succ m =>
  obtain ⟨J,hJ⟩:∃ x:Int,x=((m+1:Nat):Int) - 1:=⟨_,rfl⟩
  rw [← hJ] at h9
  have c1:0≤J:=by omega
  have w4:IntKind.i64.wrap (J - 1)=(m:Int) - 1:=by rw [wrapN (by omega) (by omega)];omega
  simp [h9,c1,f0,f8,f6]
  refine kS_callP (vs:=[.osl l u 0 d1.size 1,.int .i64 (m:Nat),.int .i64 ((b - a:Nat):Int),.int .i64 (a:Nat)]) (by simp [z1];omega) rfl (sv200 (l:=l) (u:=u) (d:=d1) (by omega) (by omega) (by omega) (by simp [hat.1]) (by simp [fr,hro])) ?_
  rintro v ob' tk' ub' hat2
  simp [h9,w4]
  refine ⟨m,by omega,?_⟩
  rw [hI]
  exact ⟨by simp,by omega,siftDown ltInt (b - a) a m d1,by rw [← e1];rfl,by rw [siftDown_size];exact z1,(hat.trans hat2 (by omega)).same rfl rfl (by simp;omega)⟩
 | zero =>
  have e3:d1=heapBuild ltInt (b - a) a K0 d:=by rw [← e1];rfl
  have w5:IntKind.i64.wrap (H - 1)=((b - a:Nat):Int) - 1:=by rw [wrapN (by omega) (by omega)];omega
  simp [h9,f8,w5]
  obtain ⟨I2,hI2⟩:∃ I:Nat→St→Prop,I=fun n s=>s.tm 10 = .int .i64 ((n:Int) - 1)∧n≤b - a∧∃ d2:Array Int,heapPop ltInt a n d2=heapSort ltInt d a b∧d2.size=d.size∧At l u (arr intC d2) ob tk ub s.ob s.tk s.nx:=⟨_,rfl⟩
  refine wp_loopF (n:=b - a) [(10,10),(29,55)] I2 rfl rfl (by rw [hI2];exact ⟨by simp,Nat.le_refl _,d1,by rw [e3,hK0];rfl,z1,hat.same rfl rfl (by simp;omega)⟩) ?_
  intro n s1 hIs f
  rw [hI2] at hIs
  obtain ⟨h10,hnB,d2,e2,z2,hat1⟩:=hIs
  have g0:s1.tm 0 = .osl l u 0 d.size 1:=by rw [f.t 0 (by simp)];simp [f0]
  have g6:s1.tm 6 = .int .i64 A:=by rw [f.t 6 (by simp)];simp [f6]
  have g7:s1.tm 7 = .int .i64 0:=by rw [f.t 7 (by simp)];simp [f7]
  have gd:s1.df=[]:=by rw [f.d];simp [fd]
  have gr:s1.ro=ro:=by rw [f.r];simp [fr]
  clear f
  cases n with
  | succ m =>
   obtain ⟨J,hJ⟩:∃ x:Int,x=((m+1:Nat):Int) - 1:=⟨_,rfl⟩
   rw [← hJ] at h10
   obtain ⟨AJ,hAJ⟩:∃ x:Int,x=A+J:=⟨_,rfl⟩
   have c1:0≤J:=by omega
   have w4:IntKind.i64.wrap (J - 1)=(m:Int) - 1:=by rw [wrapN (by omega) (by omega)];omega
   have w6:IntKind.i64.wrap (A+J)=AJ:=by rw [wrapN (by omega) (by omega)];exact hAJ.symm
   have i0:=idxN (l:=l) (u:=u) (n:=d.size) (kk:=.i64) (X:=A) (x:=a) (by omega) (by omega)
   have i1:=idxN (l:=l) (u:=u) (n:=d.size) (kk:=.i64) (X:=AJ) (x:=a+m) (by omega) (by omega)
   have l0:=ldN hat1.1 (x:=a) (by omega)
   have l1:=ldN hat1.1 (x:=a+m) (by omega)
   have st1:=stI (d:=d2) (x:=a) (by omega) d2[a+m]!
   have st2:=stI (d:=d2.setIfInBounds a d2[a+m]!) (x:=a+m) (by rw [Array.size_setIfInBounds];omega) d2[a]!
   have hsw:(d2.setIfInBounds a d2[a+m]!).setIfInBounds (a+m) d2[a]! = swp d2 a (a+m):=rfl
   rw [hsw] at st2
   have hz1:a+1≤d2.size:=by omega
   have hz2:a+m+1≤d2.size:=by omega
   have hzs:(swp d2 a (a+m)).size=d2.size:=swp_size _ _ _
   simp [h10,c1,g0,g6,w6,i0,i1,l0,l1,objCells,hat1.1,gr,hro,st1,st2,hz1,hz2,g7]
   have hat2:∀ (ob2:Nat→Option Obj') (tk2:Nat→Bool) (ub2:Nat),ob2 l=some ⟨u,.cells (arr intC (swp d2 a (a+m)))⟩→(∀ key,key≠l→ob2 key=s1.ob key)→tk2=s1.tk→s1.nx≤ub2→At l u (arr intC (swp d2 a (a+m))) ob tk ub ob2 tk2 ub2:=fun _ _ _ q1 q2 q3 q4=>hat1.swap q1 q2 q3 q4
   refine kS_callP (vs:=[.osl l u 0 (swp d2 a (a+m)).size 1,.int .i64 (0:Nat),.int .i64 (m:Nat),.int .i64 (a:Nat)]) (by simp [hzs,z2];omega) rfl (sv200 (l:=l) (u:=u) (d:=swp d2 a (a+m)) (by omega) (by omega) (by omega) (by simp) (by simp [gr,hro])) ?_
   rintro v ob' tk' ub' hat3
   have hat4:=(hat2 _ _ _ (by simp) (fun key hk=>by simp [hk]) (by simp [app_tk0]) (by omega)).trans hat3 (Nat.le_refl _)
   simp [h10,w4]
   refine ⟨m,by omega,?_⟩
   rw [hI2]
   exact ⟨by simp,by omega,siftDown ltInt m a 0 (swp d2 a (a+m)),by rw [← e2];rfl,by rw [siftDown_size,swp_size];exact z2,hat4.same rfl rfl (by simp;omega)⟩
  | zero =>
   have e4:d2=heapSort ltInt d a b:=by rw [← e2];rfl
   subst e4
   simp [h10]
   exact endS_nil (Or.inl rfl) (by simp [gd]) (hat1.same rfl rfl (by simp;omega))
end Go.Pv.T

/- Turning round; pivots. -/
namespace Go.Pv.T
open Go Go.Pv Go.Sort
theorem sv161 {Yf:YF} {l u a b:Nat} {d:Array Int} (hd:d.size≤1000000) (hb:b≤d.size) (hab:a<b) {ob:Nat→Option Obj'} {tk:Nat→Bool} {ro base ub:Nat} (ho:ob l=some ⟨u,.cells (arr intC d)⟩) (hro:ro≤u) :
 ∃ r,EvS E Yf.y 161 [.osl l u 0 d.size 1,.int .i64 a,.int .i64 b] ob tk ro base ub r∧At l u (arr intC (reverseRange d a b)) ob tk ub r.2.1 r.2.2.1 r.2.2.2:=by
 refine EvS_wp (af:=S161) rfl (by decide) ?_
 show wpC E Yf S161.body _ (kEndS S161.res _)
 have w1:IntKind.i64.wrap ((b:Int) - 1)=((b - 1:Nat):Int):=by rw [wrapN (by omega) (by omega)];omega
 simp [S161,w1]
 obtain ⟨I,hI⟩:∃ I:Nat→St→Prop,I=fun n s=>∃ i j:Nat,n=j - i∧i≤b∧j<b∧s.tm 6 = .int .i64 i∧s.tm 7 = .int .i64 j∧∃ d1:Array Int,reverseLoop i j d1=reverseRange d a b∧d1.size=d.size∧At l u (arr intC d1) ob tk ub s.ob s.tk s.nx:=⟨_,rfl⟩
 refine wp_loopF (n:=b - 1 - a) [(6,7),(11,31)] I rfl rfl (by rw [hI];exact ⟨a,b - 1,rfl,by omega,by omega,by simp,by simp,d,rfl,rfl,(At.refl ho).same rfl rfl (by simp;omega)⟩) ?_
 intro n s hIs f
 rw [hI] at hIs
 obtain ⟨i,j,rfl,hi,hj,h6,h7,d1,e1,z1,hat⟩:=hIs
 have f0:s.tm 0 = .osl l u 0 d.size 1:=by rw [f.t 0 (by simp)];simp
 have fd:s.df=[]:=by rw [f.d];simp
 have fr:s.ro=ro:=by rw [f.r];simp
 clear f
 obtain ⟨X,hX⟩:∃ x:Int,x=(i:Nat):=⟨_,rfl⟩
 obtain ⟨Z,hZ⟩:∃ x:Int,x=(j:Nat):=⟨_,rfl⟩
 rw [← hX] at h6
 rw [← hZ] at h7
 by_cases hij:i<j
 ·have c1:X<Z:=by omega
  have w2:IntKind.i64.wrap (X+1)=((i+1:Nat):Int):=by rw [wrapN (by omega) (by omega)];omega
  have w3:IntKind.i64.wrap (Z - 1)=((j - 1:Nat):Int):=by rw [wrapN (by omega) (by omega)];omega
  have i0:=idxN (l:=l) (u:=u) (n:=d.size) (kk:=.i64) (X:=X) (x:=i) (by omega) (by omega)
  have i1:=idxN (l:=l) (u:=u) (n:=d.size) (kk:=.i64) (X:=Z) (x:=j) (by omega) (by omega)
  have l0:=ldN hat.1 (x:=i) (by omega)
  have l1:=ldN hat.1 (x:=j) (by omega)
  have st1:=stI (d:=d1) (x:=i) (by omega) d1[j]!
  have st2:=stI (d:=d1.setIfInBounds i d1[j]!) (x:=j) (by rw [Array.size_setIfInBounds];omega) d1[i]!
  have hsw:(d1.setIfInBounds i d1[j]!).setIfInBounds j d1[i]! = swp d1 i j:=rfl
  rw [hsw] at st2
  have hz1:i+1≤d1.size:=by omega
  have hz2:j+1≤d1.size:=by omega
  have e3:reverseLoop i j d1=reverseLoop (i+1) (j - 1) (swp d1 i j):=by rw [reverseLoop,if_pos hij]
  generalize hN1:((i+1:Nat):Int)=N1 at *
  generalize hN2:((j - 1:Nat):Int)=N2 at *
  simp [h6,h7,c1,f0,i0,i1,l0,l1,objCells,hat.1,fr,hro,st1,st2,hz1,hz2,w2,w3]
  exact ⟨j - 1 - (i+1),by omega,by rw [hI];exact ⟨i+1,j - 1,rfl,by omega,by omega,by simp [hN1],by simp [hN2],swp d1 i j,by rw [← e3,e1],by rw [swp_size];exact z1,hat.swap (by simp) (fun key hk=>by simp [hk]) (by simp [app_tk0]) (by simp;omega)⟩⟩
 ·have c1:¬ X<Z:=by omega
  have e3:reverseLoop i j d1=d1:=by rw [reverseLoop,if_neg hij]
  rw [e3] at e1
  subst e1
  simp [h6,h7,c1]
  exact endS_nil (Or.inl rfl) (by simp [fd]) (hat.same rfl rfl (by simp;omega))
def Cn (w uw:Nat) (ob:Nat→Option Obj') (tk:Nat→Bool) (ub:Nat) (ob':Nat→Option Obj') (tk':Nat→Bool) (ub':Nat):Prop :=
 (∃ c,ob' w=some ⟨uw,.cells [.int .i64 c]⟩)∧(∀ key,key≠w→ob' key=ob key)∧tk'=tk∧ub≤ub'
theorem Cn.trans {w uw:Nat} {ob ob1 ob2:Nat→Option Obj'} {tk tk1 tk2:Nat→Bool} {ub ub1 ub1' ub2:Nat} (h:Cn w uw ob tk ub ob1 tk1 ub1) (h':Cn w uw ob1 tk1 ub1' ob2 tk2 ub2) (hu:ub1≤ub1'):Cn w uw ob tk ub ob2 tk2 ub2 :=
 ⟨h'.1,fun key a=>(h'.2.1 key a).trans (h.2.1 key a),h'.2.2.1.trans h.2.2.1,by have:=h.2.2.2;have:=h'.2.2.2;omega⟩
theorem sv240 {Yf:YF} {l u w uw a b:Nat} {d:Array Int} {c:Int} (ha:a<d.size) (hb:b<d.size) {ob:Nat→Option Obj'} {tk:Nat→Bool} {ro base ub:Nat} (ho:ob l=some ⟨u,.cells (arr intC d)⟩) (hw:ob w=some ⟨uw,.cells [.int .i64 c]⟩) (hro:ro≤uw) :
 ∃ r,EvS E Yf.y 240 [.osl l u 0 d.size 1,.int .i64 a,.int .i64 b,.ptr w uw 0] ob tk ro base ub r∧(∃ x y:Nat,r.1 = .tup [.int .i64 x,.int .i64 y]∧(x=a∧y=b∨x=b∧y=a))∧Cn w uw ob tk ub r.2.1 r.2.2.1 r.2.2.2:=by
 refine EvS_wp (af:=S240) rfl (by decide) ?_
 show wpC E Yf S240.body _ (kEndS S240.res _)
 have i0:=idxN (l:=l) (u:=u) (n:=d.size) (kk:=.i64) (X:=(a:Int)) (x:=a) rfl (by omega)
 have i1:=idxN (l:=l) (u:=u) (n:=d.size) (kk:=.i64) (X:=(b:Int)) (x:=b) rfl (by omega)
 have l0:=ldN ho (x:=a) (by omega)
 have l1:=ldN ho (x:=b) (by omega)
 simp [S240,i0,i1,l0,l1]
 refine kS_ev (ev163 d[b]! d[a]!) (by simp) rfl (by simp) ?_
 simp
 cases hl:ltInt d[b]! d[a]!
 ·simp
  exact endS_2 (by simp) ⟨⟨a,b,by simp,Or.inl ⟨rfl,rfl⟩⟩,⟨c,hw⟩,fun _ _=>rfl,rfl,by simp;omega⟩
 ·simp [objCells,hw,hro,splice]
  exact endS_2 (by simp) ⟨⟨b,a,by simp,Or.inr ⟨rfl,rfl⟩⟩,⟨IntKind.i64.wrap (c+1),by simp⟩,fun key hk=>by simp [hk],by simp [app_tk0],by simp;omega⟩
end Go.Pv.T

/- Pivots. -/
namespace Go.Pv.T
open Go Go.Pv Go.Sort
theorem sv204 {Yf:YF} {l u w uw a b c:Nat} {d:Array Int} {z:Int} (ha:a<d.size) (hb:b<d.size) (hc:c<d.size) (hlw:l≠w) {ob:Nat→Option Obj'} {tk:Nat→Bool} {ro base ub:Nat} (ho:ob l=some ⟨u,.cells (arr intC d)⟩) (hw:ob w=some ⟨uw,.cells [.int .i64 z]⟩) (hro:ro≤uw) :
 ∃ r,EvS E Yf.y 204 [.osl l u 0 d.size 1,.int .i64 a,.int .i64 b,.int .i64 c,.ptr w uw 0] ob tk ro base ub r∧(∃ x:Nat,r.1 = .int .i64 x∧(x=a∨x=b∨x=c))∧Cn w uw ob tk ub r.2.1 r.2.2.1 r.2.2.2:=by
 refine EvS_wp (af:=S204) rfl (by decide) ?_
 show wpC E Yf S204.body _ (kEndS S204.res _)
 simp [S204]
 refine kS_callP (vs:=[.osl l u 0 d.size 1,.int .i64 a,.int .i64 b,.ptr w uw 0]) (by simp) rfl (sv240 (c:=z) ha hb (by simpa using ho) (by simpa using hw) (by simpa using hro)) ?_
 rintro v ob1 tk1 ub1 ⟨⟨x,y,hv,hxy⟩,hC⟩
 simp only at hv
 subst hv
 obtain ⟨⟨c1,q1⟩,q2,q3,q4⟩:=id hC
 simp only at q1 q2 q3 q4
 have ho1:ob1 l=some ⟨u,.cells (arr intC d)⟩:=(q2 l hlw).trans (by simpa using ho)
 have hx:x<d.size:=by omega
 have hy:y<d.size:=by omega
 simp
 refine kS_callP (vs:=[.osl l u 0 d.size 1,.int .i64 y,.int .i64 c,.ptr w uw 0]) (by simp) rfl (sv240 (c:=c1) hy hc (by simpa using ho1) (by simpa using q1) (by simpa using hro)) ?_
 rintro v ob2 tk2 ub2 ⟨⟨x2,y2,hv,hxy2⟩,hC2⟩
 simp only at hv
 subst hv
 obtain ⟨⟨c2,p1⟩,p2,p3,p4⟩:=id hC2
 simp only at p1 p2 p3 p4
 have ho2:ob2 l=some ⟨u,.cells (arr intC d)⟩:=(p2 l hlw).trans (by simpa using ho1)
 have hx2:x2<d.size:=by omega
 simp
 refine kS_callP (vs:=[.osl l u 0 d.size 1,.int .i64 x,.int .i64 x2,.ptr w uw 0]) (by simp) rfl (sv240 (c:=c2) hx hx2 (by simpa using ho2) (by simpa using p1) (by simpa using hro)) ?_
 rintro v ob3 tk3 ub3 ⟨⟨x3,y3,hv,hxy3⟩,hC3⟩
 simp only at hv
 subst hv
 simp
 have h12:=hC.trans hC2 (by show ub1≤_;omega)
 have h13:=h12.trans hC3 (by show ub2≤_;omega)
 exact endS_1 (by simp) ⟨⟨y3,by simp,by omega⟩,h13.1,h13.2.1,h13.2.2.1,by have:=h13.2.2.2;simp at this ⊢;omega⟩
theorem kIf_gen {Yf:YF} {a b:C} {st:St} {Q:Ex→St→Prop} {c:Bool} (h:∀ s,s=st→kIf E Yf a b s Q c):kIf E Yf a b st Q c:=h st rfl
theorem sv160 {Yf:YF} {l u a b:Nat} {d:Array Int} (hd:d.size≤49) (hb:b≤d.size) (hab:a<b) {ob:Nat→Option Obj'} {tk:Nat→Bool} {ro base ub:Nat} (ho:ob l=some ⟨u,.cells (arr intC d)⟩) (hl:∀ m,ub≤m→l≠2 * m+1) (hru:ro≤ub) :
 ∃ r,EvS E Yf.y 160 [.osl l u 0 d.size 1,.int .i64 a,.int .i64 b] ob tk ro base ub r∧(∃ x h:Nat,r.1 = .tup [.int .i64 x,.int .i64 h]∧a≤x∧x<b∧h≤2)∧At l u (arr intC d) ob tk ub r.2.1 r.2.2.1 r.2.2.2:=by
 refine EvS_wp (af:=S160) rfl (by decide) ?_
 show wpC E Yf S160.body _ (kEndS S160.res _)
 obtain ⟨A,hA⟩:∃ x:Int,x=(a:Nat):=⟨_,rfl⟩
 obtain ⟨B,hB⟩:∃ x:Int,x=(b:Nat):=⟨_,rfl⟩
 obtain ⟨L,hL⟩:∃ x:Int,x=B - A:=⟨_,rfl⟩
 obtain ⟨q,hq⟩:∃ q,q=(b - a) / 4:=⟨_,rfl⟩
 obtain ⟨Q,hQ⟩:∃ x:Int,x=(q:Nat):=⟨_,rfl⟩
 obtain ⟨Q2,hQ2⟩:∃ x:Int,x=Q * 2:=⟨_,rfl⟩
 obtain ⟨Q3,hQ3⟩:∃ x:Int,x=Q * 3:=⟨_,rfl⟩
 obtain ⟨P1,hP1⟩:∃ x:Int,x=A+Q:=⟨_,rfl⟩
 obtain ⟨P2,hP2⟩:∃ x:Int,x=A+Q2:=⟨_,rfl⟩
 obtain ⟨P3,hP3⟩:∃ x:Int,x=A+Q3:=⟨_,rfl⟩
 have w1:IntKind.i64.wrap (B - A)=L:=by rw [wrapN (by omega) (by omega)];exact hL.symm
 have w2:IntKind.i64.wrap (L.tdiv 4)=Q:=by
  have e:L=((b - a:Nat):Int):=by omega
  have e2:L.tdiv 4=(((b - a) / 4:Nat):Int):=by rw [e];exact (Int.ofNat_tdiv _ 4).symm
  rw [e2,wrapN (by omega) (by omega)];omega
 have w3:IntKind.i64.wrap Q=Q:=wrapN (by omega) (by omega)
 have w4:IntKind.i64.wrap (Q * 2)=Q2:=by rw [wrapN (by omega) (by omega)];exact hQ2.symm
 have w5:IntKind.i64.wrap (Q * 3)=Q3:=by rw [wrapN (by omega) (by omega)];exact hQ3.symm
 have w6:IntKind.i64.wrap (A+Q)=P1:=by rw [wrapN (by omega) (by omega)];exact hP1.symm
 have w7:IntKind.i64.wrap (A+Q2)=P2:=by rw [wrapN (by omega) (by omega)];exact hP2.symm
 have w8:IntKind.i64.wrap (A+Q3)=P3:=by rw [wrapN (by omega) (by omega)];exact hP3.symm
 have c2:¬ 50≤L:=by omega
 have bq:a+q<b∧a+q * 2<b∧a+q * 3<b∧a≤a+q∧a≤a+q * 2∧a≤a+q * 3:=by omega
 rw [← hA,← hB]
 simp [S160,w1,w2,w3,w4,w5,w6,w7,w8]
 generalize hQ:kSeq E Yf _ (kEndS _ _)=Q
 have fin:∀ (s:St) (w uw x:Nat) (z:Int),s.tm 9 = .ptr w uw 0→s.ob w=some ⟨uw,.cells [.int .i64 z]⟩→s.tm 11 = .int .i64 x→a≤x→x<b→s.df=[]→At l u (arr intC d) ob tk ub s.ob s.tk s.nx→Q .nrm s:=by
  intro s w uw x z h9 hw h11 hax hxb hd hat
  rw [← hQ]
  by_cases z0:z=0
  ·subst z0
   simp [h9,objCells,hw,h11]
   exact endS_2 (by simp [hd]) ⟨⟨x,1,by simp,hax,hxb,by omega⟩,hat.same rfl rfl (by simp;omega)⟩
  ·have z0':(z == 0)=false:=by simpa using z0
   by_cases z1:z=12
   ·subst z1
    simp [h9,objCells,hw,h11]
    exact endS_2 (by simp [hd]) ⟨⟨x,2,by simp,hax,hxb,by omega⟩,hat.same rfl rfl (by simp;omega)⟩
   ·have z1':(z == 12)=false:=by simpa using z1
    simp [h9,objCells,hw,h11,z0',z1']
    exact endS_2 (by simp [hd]) ⟨⟨x,0,by simp,hax,hxb,by omega⟩,hat.same rfl rfl (by simp;omega)⟩
 clear hQ
 obtain ⟨N,hN⟩:∃ N,ub+64+64+64+64+64+64=N:=⟨_,rfl⟩
 have hl':=hl N (by omega)
 have hl'':¬ 2 * N+1=l:=fun e=>hl' e.symm
 refine kIf_gen fun st hst=>?_
 have g0:st.tm 0 = .osl l u 0 d.size 1:=by rw [hst];simp
 have g8:st.tm 8 = .int .i64 L:=by rw [hst];simp
 have g9:st.tm 9 = .ptr (2 * N+1) N 0:=by rw [hst,← hN];simp
 have g10:st.tm 10 = .int .i64 ((a+q:Nat):Int):=by rw [hst];simp;omega
 have g11:st.tm 11 = .int .i64 ((a+q * 2:Nat):Int):=by rw [hst];simp;omega
 have g12:st.tm 12 = .int .i64 ((a+q * 3:Nat):Int):=by rw [hst];simp;omega
 have gd:st.df=[]:=by rw [hst];simp
 have gr:st.ro=ro:=by rw [hst];simp
 have gn:N≤st.nx:=by rw [hst,← hN];simp
 have gw:st.ob (2 * N+1)=some ⟨N,.cells [.int .i64 0]⟩:=by rw [hst,← hN];simp
 have gf:∀ key,key≠2 * N+1→st.ob key=ob key:=by
  intro key hk
  rw [← hN] at hk
  rw [hst];simp [hk]
 have gt:st.tk=tk:=by rw [hst];simp [app_tk0]
 clear hst
 have gl:st.ob l=some ⟨u,.cells (arr intC d)⟩:=(gf l hl').trans ho
 by_cases h8:8≤L
 ·simp [h8,c2,g8,g0,g10,g11,g12]
  refine kS_callP (vs:=[.osl l u 0 d.size 1,.int .i64 ((a+q:Nat):Int),.int .i64 ((a+q * 2:Nat):Int),.int .i64 ((a+q * 3:Nat):Int),.ptr (2 * N+1) N 0]) (by simp [g9]) rfl (sv204 (l:=l) (u:=u) (d:=d) (z:=0) (by omega) (by omega) (by omega) hl' (by simpa using gl) (by simpa using gw) (by simp [gr];omega)) ?_
  rintro v ob' tk' ub' ⟨⟨x,hv,hx⟩,hC⟩
  simp only at hv
  subst hv
  obtain ⟨⟨c',q1⟩,q2,q3,q4⟩:=hC
  simp only at q1 q2 q3 q4
  simp
  have hxx:a≤x∧x<b:=by rcases hx with h | h | h <;> subst h <;> exact ⟨by first | exact bq.2.2.2.1 | exact bq.2.2.2.2.1 | exact bq.2.2.2.2.2,by first | exact bq.1 | exact bq.2.1 | exact bq.2.2.1⟩
  refine fin _ (2 * N+1) N x c' (by simp [g9]) (by simpa using q1) (by simp) hxx.1 hxx.2 (by simp [gd]) ⟨?_,?_,?_,?_⟩
  ·simp;rw [q2 l hl'];simpa using gl
  ·intro key h1 h2
   have:=h2 N (by rw [← hN];omega)
   simp;rw [q2 key this];simpa using gf key this
  ·simp;rw [q3];simpa using gt
  ·simp at q4 ⊢;omega
 ·simp [h8]
  refine fin _ (2 * N+1) N (a+q * 2) 0 g9 gw g11 bq.2.2.2.2.1 bq.2.1 gd ⟨gl,?_,gt,Nat.le_trans (by rw [← hN];omega) gn⟩
  intro key h1 h2
  exact gf key (h2 N (by rw [← hN];omega))
end Go.Pv.T

/- Scans. -/
namespace Go.Pv.T
open Go Go.Pv Go.Sort
theorem wpC_both {Yf:YF} {c:C} {st:St} {ws:List (Nat × Nat)} {Q:Ex→St→Prop} {R:Ex→St→Prop} (hn:c.noRF=true) (hw:(c.ws.all fun t=>inR t ws)=true) (h:wpC E Yf c st Q) (hk:∀ e s,Q e s→Keeps (fun t=>inR t ws=true) st s→R e s):wpC E Yf c st R :=
 wpC_mono (fun e s h=>hk e s h.1 (h.2.weak fun t ht=>List.all_eq_true.1 hw t ht)) (wpC_keeps hn h)
theorem keepsT {ws:List (Nat × Nat)} {a b c:St} (h:Keeps (fun t=>inR t ws=true) a b) (h':Keeps (fun t=>inR t ws=true) b c):Keeps (fun t=>inR t ws=true) a c:=h.trans h' (fun _ h=>h) (fun _ h=>h)
def Calm (s s':St):Prop:=s'.ob=s.ob∧s'.tk=s.tk∧s.nx≤s'.nx
theorem Calm.refl (s:St):Calm s s:=⟨rfl,rfl,Nat.le_refl _⟩
theorem Calm.trans {a b c:St} (h:Calm a b) (h':Calm b c):Calm a c:=⟨h'.1.trans h.1,h'.2.1.trans h.2.1,Nat.le_trans h.2.2 h'.2.2⟩
theorem scan_up {Yf:YF} {cC sC:C} {tc ti x y:Nat} {st:St} {Q:Ex→St→Prop} {α:Type} [Inhabited α] {p:α→Bool} {d:Array α} {i0 j:Nat} (ws:List (Nat × Nat)) (hc:cC.noRF=true) (hs:sC.noRF=true) (hwc:(cC.ws.all fun t=>inR t ws)=true) (hws:(sC.ws.all fun t=>inR t ws)=true)
 (h0:st.tm ti = .int .i64 i0)
 (hcond:∀ (s:St) (i:Nat),s.tm ti = .int .i64 i→i0≤i→i≤i0∨i≤j+1→Calm st s→Keeps (fun t=>inR t ws=true) st s→wpC E Yf cC s fun e s'=>e = .nrm∧s'.tm tc = .bool (decide (i≤j) && p d[i]!)∧s'.tm ti=s.tm ti∧Calm s s')
 (hstep:∀ (s:St) (i:Nat),s.tm ti = .int .i64 i→i0≤i→i≤j→wpC E Yf sC s fun e s'=>e = .nrm∧s'.tm ti = .int .i64 (i+1:Nat)∧Calm s s')
 (hk:∀ s:St,s.tm ti = .int .i64 (scanUp p d j i0:Nat)→Calm st s→Keeps (fun t=>inR t ws=true) st s→Q (.exit x) s) :
 wpC E Yf (.loop (.seq (.seq cC (.cond (.t tc) .skip (.exit x))) (.block y sC))) st Q:=by
 refine wp_loopF (n:=j+1 - i0) ws (fun n s=>∃ i:Nat,n=j+1 - i∧i0≤i∧(i≤i0∨i≤j+1)∧s.tm ti = .int .i64 i∧scanUp p d j i=scanUp p d j i0∧Calm st s) (by simp [C.noRF,hc,hs]) ?_ ⟨i0,rfl,Nat.le_refl _,Or.inl (Nat.le_refl _),h0,rfl,Calm.refl _⟩ ?_
 ·simp only [C.ws,List.append_nil,List.all_append,hwc,hws,Bool.and_self]
 rintro n s ⟨i,rfl,hi,hi',hti,hsc,hcalm⟩ hf
 rw [kC_seq,kC_seq]
 refine wpC_both hc hwc (hcond s i hti hi hi' hcalm hf) ?_
 rintro e s1 ⟨rfl,htc,hti1,hca⟩ hf1
 rw [kSeq_nrm,kC_cond,show eval E s1.tm (.t tc)=s1.tm tc from rfl,htc,ifK_bool]
 cases hb:(decide (i≤j) && p d[i]!)
 ·rw [kIf_false,kC_exit,kSeq_exit,kLoop_exit]
  have e3:scanUp p d j i=i:=by rw [scanUp,hb];rfl
  rw [e3] at hsc
  exact hk s1 (by rw [hti1,hti,hsc]) (hcalm.trans hca) (keepsT hf hf1)
 ·rw [kIf_true,kC_skip,kSeq_nrm,kC_block]
  rw [Bool.and_eq_true,decide_eq_true_eq] at hb
  refine wpC_mono ?_ (hstep s1 i (by rw [hti1,hti]) hi hb.1)
  rintro e s2 ⟨rfl,h1,h2⟩
  rw [kBlk_nrm,kLoop_nrm]
  refine ⟨j+1 - (i+1),by omega,i+1,rfl,by omega,Or.inr (by omega),h1,?_,hcalm.trans (hca.trans h2)⟩
  rw [← hsc]
  conv=>rhs;rw [scanUp]
  simp [hb]
theorem scan_down {Yf:YF} {cC sC:C} {tc tj x y:Nat} {st:St} {Q:Ex→St→Prop} {α:Type} [Inhabited α] {p:α→Bool} {d:Array α} {i j0:Nat} (hi1:1≤i) (ws:List (Nat × Nat)) (hc:cC.noRF=true) (hs:sC.noRF=true) (hwc:(cC.ws.all fun t=>inR t ws)=true) (hws:(sC.ws.all fun t=>inR t ws)=true)
 (h0:st.tm tj = .int .i64 j0)
 (hcond:∀ (s:St) (j:Nat),s.tm tj = .int .i64 j→j≤j0→Calm st s→Keeps (fun t=>inR t ws=true) st s→wpC E Yf cC s fun e s'=>e = .nrm∧s'.tm tc = .bool (decide (i≤j) && p d[j]!)∧s'.tm tj=s.tm tj∧Calm s s')
 (hstep:∀ (s:St) (j:Nat),s.tm tj = .int .i64 (j+1:Nat)→j+1≤j0→wpC E Yf sC s fun e s'=>e = .nrm∧s'.tm tj = .int .i64 j∧Calm s s')
 (hk:∀ s:St,s.tm tj = .int .i64 (scanDown p d i j0:Nat)→Calm st s→Keeps (fun t=>inR t ws=true) st s→Q (.exit x) s) :
 wpC E Yf (.loop (.seq (.seq cC (.cond (.t tc) .skip (.exit x))) (.block y sC))) st Q:=by
 refine wp_loopF (n:=j0) ws (fun n s=>n≤j0∧s.tm tj = .int .i64 n∧scanDown p d i n=scanDown p d i j0∧Calm st s) (by simp [C.noRF,hc,hs]) ?_ ⟨Nat.le_refl _,h0,rfl,Calm.refl _⟩ ?_
 ·simp only [C.ws,List.append_nil,List.all_append,hwc,hws,Bool.and_self]
 rintro n s ⟨hn,htj,hsc,hcalm⟩ hf
 rw [kC_seq,kC_seq]
 refine wpC_both hc hwc (hcond s n htj hn hcalm hf) ?_
 rintro e s1 ⟨rfl,htc,htj1,hca⟩ hf1
 rw [kSeq_nrm,kC_cond,show eval E s1.tm (.t tc)=s1.tm tc from rfl,htc,ifK_bool]
 cases hb:(decide (i≤n) && p d[n]!)
 ·rw [kIf_false,kC_exit,kSeq_exit,kLoop_exit]
  have e3:scanDown p d i n=n:=by
   cases n with
   | zero=>rfl
   | succ n=>rw [scanDown,hb];rfl
  rw [e3] at hsc
  exact hk s1 (by rw [htj1,htj,hsc]) (hcalm.trans hca) (keepsT hf hf1)
 ·rw [kIf_true,kC_skip,kSeq_nrm,kC_block]
  have hb':=hb
  rw [Bool.and_eq_true,decide_eq_true_eq] at hb'
  cases n with
  | zero=>omega
  | succ n =>
   refine wpC_mono ?_ (hstep s1 n (by rw [htj1,htj]) hn)
   rintro e s2 ⟨rfl,h1,h2⟩
   rw [kBlk_nrm,kLoop_nrm]
   refine ⟨n,by omega,by omega,h1,?_,hcalm.trans (hca.trans h2)⟩
   rw [← hsc,scanDown,hb]
   rfl
end Go.Pv.T

/- Partitions. -/
namespace Go.Pv.T
open Go Go.Pv Go.Sort
theorem scanUp_ge {α:Type} [Inhabited α] (p:α→Bool) (d:Array α) (j i:Nat):i≤scanUp p d j i∧(i≤j+1→scanUp p d j i≤j+1):=by
 fun_induction scanUp p d j i with
 | case1 i h ih =>
  rw [Bool.and_eq_true,decide_eq_true_eq] at h
  exact ⟨by omega,fun _=>ih.2 (by omega)⟩
 | case2 i h=>exact ⟨Nat.le_refl _,fun h=>h⟩
theorem scanDown_le {α:Type} [Inhabited α] (p:α→Bool) (d:Array α) (i:Nat):∀ j,scanDown p d i j≤j∧(i≤scanDown p d i j+1∨scanDown p d i j=j)
 | 0=>⟨Nat.le_refl _,Or.inr rfl⟩
 | j+1=>by
  rw [scanDown]
  split
  ·rename_i h
   rw [Bool.and_eq_true,decide_eq_true_eq] at h
   have ih:=scanDown_le p d i j
   refine ⟨by omega,Or.inl ?_⟩
   rcases ih.2 with h2 | h2
   ·exact h2
   ·rw [h2];omega
  ·exact ⟨Nat.le_refl _,Or.inr rfl⟩
theorem partLoop_step {lt:Int→Int→Bool} {a i j i2 j2:Nat} {d:Array Int} (_:1≤i) (h1:scanUp (fun x=>lt x d[a]!) d j i=i2) (h2:scanDown (fun x=>!lt x d[a]!) d i2 j=j2) :
 partLoop lt a i j d=if i2 > j2 then (j2,d) else partLoop lt a (i2+1) (j2 - 1) (swp d i2 j2):=by
 have g1:=(scanUp_ge (fun x=>lt x d[a]!) d j i).1
 have g2:=(scanDown_le (fun x=>!lt x d[a]!) d i2 j).1
 rw [partLoop]
 simp only [h1,h2]
 by_cases h:i2 > j2
 ·rw [if_pos h,if_pos h]
 ·rw [if_neg h,if_neg h,dif_pos (by omega)]
theorem At.calm {l u:Nat} {cs:List V} {ob:Nat→Option Obj'} {tk:Nat→Bool} {ub:Nat} {s s':St} (h:At l u cs ob tk ub s.ob s.tk s.nx) (hc:Calm s s'):At l u cs ob tk ub s'.ob s'.tk s'.nx:=h.same hc.1 hc.2.1 hc.2.2
theorem sv165 {Yf:YF} {l u a b pv:Nat} {d:Array Int} (hd:d.size≤1000000) (hb:b≤d.size) (hap:a≤pv) (hpb:pv<b) {ob:Nat→Option Obj'} {tk:Nat→Bool} {ro base ub:Nat} (ho:ob l=some ⟨u,.cells (arr intC d)⟩) (hro:ro≤u) :
 ∃ r,EvS E Yf.y 165 [.osl l u 0 d.size 1,.int .i64 a,.int .i64 b,.int .i64 pv] ob tk ro base ub r∧r.1 = .tup [.int .i64 (partition ltInt d a b pv).1,.bool (partition ltInt d a b pv).2.1]∧At l u (arr intC (partition ltInt d a b pv).2.2) ob tk ub r.2.1 r.2.2.1 r.2.2.2:=by
 refine EvS_wp (af:=S165) rfl (by decide) ?_
 show wpC E Yf S165.body _ (kEndS S165.res _)
 have w1:IntKind.i64.wrap ((a:Int)+1)=((a+1:Nat):Int):=by rw [wrapN (by omega) (by omega)];omega
 have w2:IntKind.i64.wrap ((b:Int) - 1)=((b - 1:Nat):Int):=by rw [wrapN (by omega) (by omega)];omega
 have ia:∀ n,a<n→idxSlV 1 (.osl l u 0 n 1) (.int .i64 (a:Int))=some (.ptr l u a):=fun n h=>idxN rfl h
 have ia':=ia d.size (by omega)
 have ip:=idxN (l:=l) (u:=u) (n:=d.size) (kk:=.i64) (X:=(pv:Int)) (x:=pv) rfl (by omega)
 have la:=ldN ho (x:=a) (by omega)
 have lp:=ldN ho (x:=pv) (by omega)
 have st1:=stI (d:=d) (x:=a) (by omega) d[pv]!
 have st2:=stI (d:=d.setIfInBounds a d[pv]!) (x:=pv) (by rw [Array.size_setIfInBounds];omega) d[a]!
 have hsw:(d.setIfInBounds a d[pv]!).setIfInBounds pv d[a]! = swp d a pv:=rfl
 rw [hsw] at st2
 have hz1:a+1≤d.size:=by omega
 have hz2:pv+1≤d.size:=by omega
 obtain ⟨P,hP⟩:∃ P,partition ltInt d a b pv=P:=⟨_,rfl⟩
 rw [hP]
 unfold partition at hP
 obtain ⟨D,hD⟩:∃ D,swp d a pv=D:=⟨_,rfl⟩
 have zD:D.size=d.size:=by rw [← hD];exact swp_size _ _ _
 rw [hD] at st2 hP
 simp only at hP
 generalize hA1:((a+1:Nat):Int)=A1 at w1
 generalize hB1:((b - 1:Nat):Int)=B1 at w2
 simp [S165,ia',ip,la,lp,objCells,ho,hro,st1,st2,hz1,hz2,w1,w2]
 refine wpC_gen fun st hst=>?_
 have g0:st.tm 0 = .osl l u 0 d.size 1:=by rw [hst];simp
 have g1:st.tm 1 = .int .i64 a:=by rw [hst];simp
 have g10:st.tm 10 = .int .i64 (a+1:Nat):=by rw [hst,hA1];simp
 have g11:st.tm 11 = .int .i64 (b - 1:Nat):=by rw [hst,hB1];simp
 have gd:st.df=[]:=by rw [hst];simp
 have gr:st.ro=ro:=by rw [hst];simp
 have gat:At l u (arr intC D) ob tk ub st.ob st.tk st.nx:=by rw [hst];exact (At.refl ho).swap (by simp) (fun key hk=>by simp [hk]) (by simp [app_tk0]) (by simp;omega)
 clear hst st1 st2 hsw hA1 hB1 w1 w2 la lp ip
 refine scan_up (p:=fun x=>ltInt x D[a]!) (d:=D) (i0:=a+1) (j:=b - 1) [(10,10),(30,45)] rfl rfl rfl rfl g10 ?_ ?_ ?_
 ·intro s9 x1 hx9 h19 h29 hca9 hf9
  have m0:s9.tm 0 = .osl l u 0 d.size 1:=by rw [hf9.t 0 (by simp)];exact g0
  have m1:s9.tm 1 = .int .i64 a:=by rw [hf9.t 1 (by simp)];exact g1
  have mf:s9.tm 11 = .int .i64 ((b - 1:Nat):Int):=by rw [hf9.t 11 (by simp)];exact g11
  have hat9:=gat.calm hca9
  generalize hX:(x1:Int)=X at *
  generalize hZ:((b - 1:Nat):Int)=Z at *
  by_cases hle:x1≤b - 1
  ·have c1:X≤Z:=by omega
   have ii:=idxN (l:=l) (u:=u) (n:=d.size) (kk:=.i64) (X:=X) (x:=x1) (by omega) (by omega)
   have li:=ldN hat9.1 (x:=x1) (by omega)
   have la:=ldN hat9.1 (x:=a) (by omega)
   simp [hx9,mf,c1,m0,m1,ii,li,ia',la]
   refine kS_ev (ev163 D[x1]! D[a]!) (by simp) rfl (by simp) ?_
   simp [hle,hx9,Calm] <;> omega
  ·have c1:¬ X≤Z:=by omega
   simp [hx9,mf,c1,hle,Calm] <;> omega
 ·intro s9 x1 hx9 h19 h29
  have hw:IntKind.i64.wrap ((x1:Int)+1)=(x1:Int)+1:=wrapN (by omega) (by omega)
  simp [hx9,hw,Calm] <;> omega
 intro s9 h9 hca9 hf9
 obtain ⟨i1,hi1⟩:∃ x,scanUp (fun x=>ltInt x D[a]!) D (b - 1) (a+1)=x:=⟨_,rfl⟩
 have bi:=scanUp_ge (fun x=>ltInt x D[a]!) D (b - 1) (a+1)
 rw [hi1] at h9 hP bi
 have k0:s9.tm 0 = .osl l u 0 d.size 1:=by rw [hf9.t 0 (by simp)];exact g0
 have k1:s9.tm 1 = .int .i64 a:=by rw [hf9.t 1 (by simp)];exact g1
 have k11:s9.tm 11 = .int .i64 ((b - 1:Nat):Int):=by rw [hf9.t 11 (by simp)];exact g11
 have kd:s9.df=[]:=by rw [hf9.d];exact gd
 have kr:s9.ro=ro:=by rw [hf9.r];exact gr
 have kat:=gat.calm hca9
 clear hca9 hf9
 have k10:=h9
 simp
 refine scan_down (p:=fun x=>!ltInt x D[a]!) (d:=D) (i:=i1) (j0:=b - 1) (by omega) [(11,11),(46,62)] rfl rfl rfl rfl k11 ?_ ?_ ?_
 ·intro s9 x1 hx9 h19 hca9 hf9
  have m0:s9.tm 0 = .osl l u 0 d.size 1:=by rw [hf9.t 0 (by simp)];exact k0
  have m1:s9.tm 1 = .int .i64 a:=by rw [hf9.t 1 (by simp)];exact k1
  have mf:s9.tm 10 = .int .i64 ((i1:Nat):Int):=by rw [hf9.t 10 (by simp)];exact k10
  have hat9:=kat.calm hca9
  generalize hX:(x1:Int)=X at *
  generalize hZ:((i1:Nat):Int)=Z at *
  by_cases hle:i1≤x1
  ·have c1:Z≤X:=by omega
   have ii:=idxN (l:=l) (u:=u) (n:=d.size) (kk:=.i64) (X:=X) (x:=x1) (by omega) (by omega)
   have li:=ldN hat9.1 (x:=x1) (by omega)
   have la:=ldN hat9.1 (x:=a) (by omega)
   simp [hx9,mf,c1,m0,m1,ii,li,ia',la]
   refine kS_ev (ev163 D[x1]! D[a]!) (by simp) rfl (by simp) ?_
   simp [hle,hx9,Calm] <;> omega
  ·have c1:¬ Z≤X:=by omega
   simp [hx9,mf,c1,hle,Calm] <;> omega
 ·intro s9 x1 hx9 h19
  have hw:IntKind.i64.wrap (((x1+1:Nat):Int) - 1)=(x1:Int):=by rw [wrapN (by omega) (by omega)];omega
  generalize ((x1+1:Nat):Int)=J at *
  simp [hx9,hw,Calm] <;> omega
 intro s9 h9 hca9 hf9
 obtain ⟨j1,hj1⟩:∃ x,scanDown (fun x=>!ltInt x D[a]!) D i1 (b - 1)=x:=⟨_,rfl⟩
 have bj:=scanDown_le (fun x=>!ltInt x D[a]!) D i1 (b - 1)
 rw [hj1] at h9 hP bj
 have q0:s9.tm 0 = .osl l u 0 d.size 1:=by rw [hf9.t 0 (by simp)];exact k0
 have q1:s9.tm 1 = .int .i64 a:=by rw [hf9.t 1 (by simp)];exact k1
 have q10:s9.tm 10 = .int .i64 ((i1:Nat):Int):=by rw [hf9.t 10 (by simp)];exact k10
 have qd:s9.df=[]:=by rw [hf9.d];exact kd
 have qr:s9.ro=ro:=by rw [hf9.r];exact kr
 have qat:=kat.calm hca9
 clear hca9 hf9
 have q11:=h9
 clear h9
 obtain ⟨X,hX⟩:∃ x:Int,x=(i1:Nat):=⟨_,rfl⟩
 obtain ⟨Z,hZ⟩:∃ x:Int,x=(j1:Nat):=⟨_,rfl⟩
 rw [← hX] at q10
 rw [← hZ] at q11
 obtain ⟨A,hA⟩:∃ x:Int,x=(a:Nat):=⟨_,rfl⟩
 rw [← hA] at q1 ia'
 by_cases hgt:i1 > j1
 ·rw [if_pos hgt] at hP
  subst hP
  have c1:Z<X:=by omega
  have ix:=idxN (l:=l) (u:=u) (n:=d.size) (kk:=.i64) (X:=Z) (x:=j1) (by omega) (by omega)
  have iy:=idxN (l:=l) (u:=u) (n:=d.size) (kk:=.i64) (X:=A) (x:=a) (by omega) (by omega)
  have lx:=ldN qat.1 (x:=j1) (by omega)
  have ly:=ldN qat.1 (x:=a) (by omega)
  have sa:=stI (d:=D) (x:=j1) (by omega) D[a]!
  have sb:=stI (d:=D.setIfInBounds (j1) D[a]!) (x:=a) (by rw [Array.size_setIfInBounds];omega) D[j1]!
  rw [show (D.setIfInBounds (j1) D[a]!).setIfInBounds (a) D[j1]! = swp D (j1) (a) from rfl] at sb
  have za:j1+1≤D.size:=by omega
  have zb:a+1≤D.size:=by omega
  simp [q10,q11,q0,q1,c1,ix,iy,lx,ly,sa,sb,za,zb,objCells,hro,qr,qat.1]
  exact endS_2 (by simp [qd]) ⟨by simp [hZ],qat.swap (by simp) (fun key hk=>by simp [hk]) (by simp [app_tk0]) (by simp;omega)⟩
 ·rw [if_neg hgt] at hP
  have c1:¬ Z<X:=by omega
  obtain ⟨r,hr⟩:∃ r,partLoop ltInt a (i1+1) (j1 - 1) (swp D i1 j1)=r:=⟨_,rfl⟩
  rw [hr] at hP
  have w3:IntKind.i64.wrap (X+1)=X+1:=wrapN (by omega) (by omega)
  have w4:IntKind.i64.wrap (Z - 1)=Z - 1:=wrapN (by omega) (by omega)
  have ix:=idxN (l:=l) (u:=u) (n:=d.size) (kk:=.i64) (X:=X) (x:=i1) (by omega) (by omega)
  have iy:=idxN (l:=l) (u:=u) (n:=d.size) (kk:=.i64) (X:=Z) (x:=j1) (by omega) (by omega)
  have lx:=ldN qat.1 (x:=i1) (by omega)
  have ly:=ldN qat.1 (x:=j1) (by omega)
  have sa:=stI (d:=D) (x:=i1) (by omega) D[j1]!
  have sb:=stI (d:=D.setIfInBounds (i1) D[j1]!) (x:=j1) (by rw [Array.size_setIfInBounds];omega) D[i1]!
  rw [show (D.setIfInBounds (i1) D[j1]!).setIfInBounds (j1) D[i1]! = swp D (i1) (j1) from rfl] at sb
  have za:i1+1≤D.size:=by omega
  have zb:j1+1≤D.size:=by omega
  simp [q10,q11,q0,c1,ix,iy,lx,ly,sa,sb,za,zb,objCells,hro,qr,qat.1,w3,w4]
  refine wpC_gen fun st hst=>?_
  obtain ⟨I,hI⟩:∃ I:Nat→St→Prop,I=fun n s=>∃ i j:Nat,n=j+1 - i∧a+1≤i∧i≤b+1∧a≤j∧j<b∧s.tm 10 = .int .i64 i∧s.tm 11 = .int .i64 j∧∃ D3:Array Int,partLoop ltInt a i j D3=r∧D3.size=d.size∧At l u (arr intC D3) ob tk ub s.ob s.tk s.nx:=⟨_,rfl⟩
  have e0:st.tm 0 = .osl l u 0 d.size 1:=by rw [hst];simp [q0]
  have e1:st.tm 1 = .int .i64 a:=by rw [hst];simp [q1,hA]
  have e10:st.tm 10 = .int .i64 (i1+1:Nat):=by rw [hst];simp [hX]
  have e11:st.tm 11 = .int .i64 (j1 - 1:Nat):=by rw [hst];simp;omega
  have ed:st.df=[]:=by rw [hst];simp [qd]
  have er:st.ro=ro:=by rw [hst];simp [qr]
  have eat:At l u (arr intC (swp D i1 j1)) ob tk ub st.ob st.tk st.nx:=by rw [hst];exact qat.swap (by simp) (fun key hk=>by simp [hk]) (by simp [app_tk0]) (by simp;omega)
  clear hst
  refine wp_loopF (n:=j1 - 1+1 - (i1+1)) [(10,11),(99,152)] I rfl rfl (by rw [hI];exact ⟨i1+1,j1 - 1,rfl,by omega,by omega,by omega,by omega,e10,e11,swp D i1 j1,hr,by rw [swp_size,zD],eat⟩) ?_
  intro n s hIs f
  rw [hI] at hIs
  obtain ⟨i,j,rfl,hi,hib,hja,hjb,t10,t11,D3,hpl,z3,tat⟩:=hIs
  have t0:s.tm 0 = .osl l u 0 d.size 1:=by rw [f.t 0 (by simp)];exact e0
  have t1:s.tm 1 = .int .i64 a:=by rw [f.t 1 (by simp)];exact e1
  have td:s.df=[]:=by rw [f.d];exact ed
  have tr:s.ro=ro:=by rw [f.r];exact er
  clear f ix iy lx ly sa sb za zb q10 q11 q0 q1 qat qd qr e0 e1 e10 e11 ed er eat
  rw [hA] at ia'
  simp
  refine scan_up (p:=fun x=>ltInt x D3[a]!) (d:=D3) (i0:=i) (j:=j) [(10,10),(99,114)] rfl rfl rfl rfl t10 ?_ ?_ ?_
  ·intro s9 x1 hx9 h19 h29 hca9 hf9
   have m0:s9.tm 0 = .osl l u 0 d.size 1:=by rw [hf9.t 0 (by simp)];exact t0
   have m1:s9.tm 1 = .int .i64 a:=by rw [hf9.t 1 (by simp)];exact t1
   have mf:s9.tm 11 = .int .i64 ((j:Nat):Int):=by rw [hf9.t 11 (by simp)];exact t11
   have hat9:=tat.calm hca9
   generalize hX:(x1:Int)=X at *
   generalize hZ:((j:Nat):Int)=Z at *
   by_cases hle:x1≤j
   ·have c1:X≤Z:=by omega
    have ii:=idxN (l:=l) (u:=u) (n:=d.size) (kk:=.i64) (X:=X) (x:=x1) (by omega) (by omega)
    have li:=ldN hat9.1 (x:=x1) (by omega)
    have la:=ldN hat9.1 (x:=a) (by omega)
    simp [hx9,mf,c1,m0,m1,ii,li,ia',la]
    refine kS_ev (ev163 D3[x1]! D3[a]!) (by simp) rfl (by simp) ?_
    simp [hle,hx9,Calm] <;> omega
   ·have c1:¬ X≤Z:=by omega
    simp [hx9,mf,c1,hle,Calm] <;> omega
  ·intro s9 x1 hx9 h19 h29
   have hw:IntKind.i64.wrap ((x1:Int)+1)=(x1:Int)+1:=wrapN (by omega) (by omega)
   simp [hx9,hw,Calm] <;> omega
  intro s9 h9 hca9 hf9
  obtain ⟨i2,hi2⟩:∃ x,scanUp (fun x=>ltInt x D3[a]!) D3 j i=x:=⟨_,rfl⟩
  have bi2:=scanUp_ge (fun x=>ltInt x D3[a]!) D3 j i
  rw [hi2] at h9 bi2
  have k0:s9.tm 0 = .osl l u 0 d.size 1:=by rw [hf9.t 0 (by simp)];exact t0
  have k1:s9.tm 1 = .int .i64 a:=by rw [hf9.t 1 (by simp)];exact t1
  have k11:s9.tm 11 = .int .i64 ((j:Nat):Int):=by rw [hf9.t 11 (by simp)];exact t11
  have kd:s9.df=[]:=by rw [hf9.d];exact td
  have kr:s9.ro=ro:=by rw [hf9.r];exact tr
  have kat:=tat.calm hca9
  clear hca9 hf9
  have k10:=h9
  clear h9
  simp
  refine scan_down (p:=fun x=>!ltInt x D3[a]!) (d:=D3) (i:=i2) (j0:=j) (by omega) [(11,11),(115,131)] rfl rfl rfl rfl k11 ?_ ?_ ?_
  ·intro s9 x1 hx9 h19 hca9 hf9
   have m0:s9.tm 0 = .osl l u 0 d.size 1:=by rw [hf9.t 0 (by simp)];exact k0
   have m1:s9.tm 1 = .int .i64 a:=by rw [hf9.t 1 (by simp)];exact k1
   have mf:s9.tm 10 = .int .i64 ((i2:Nat):Int):=by rw [hf9.t 10 (by simp)];exact k10
   have hat9:=kat.calm hca9
   generalize hX:(x1:Int)=X at *
   generalize hZ:((i2:Nat):Int)=Z at *
   by_cases hle:i2≤x1
   ·have c1:Z≤X:=by omega
    have ii:=idxN (l:=l) (u:=u) (n:=d.size) (kk:=.i64) (X:=X) (x:=x1) (by omega) (by omega)
    have li:=ldN hat9.1 (x:=x1) (by omega)
    have la:=ldN hat9.1 (x:=a) (by omega)
    simp [hx9,mf,c1,m0,m1,ii,li,ia',la]
    refine kS_ev (ev163 D3[x1]! D3[a]!) (by simp) rfl (by simp) ?_
    simp [hle,hx9,Calm] <;> omega
   ·have c1:¬ Z≤X:=by omega
    simp [hx9,mf,c1,hle,Calm] <;> omega
  ·intro s9 x1 hx9 h19
   have hw:IntKind.i64.wrap (((x1+1:Nat):Int) - 1)=(x1:Int):=by rw [wrapN (by omega) (by omega)];omega
   generalize ((x1+1:Nat):Int)=J at *
   simp [hx9,hw,Calm] <;> omega
  intro s9 h9 hca9 hf9
  obtain ⟨j2,hj2⟩:∃ x,scanDown (fun x=>!ltInt x D3[a]!) D3 i2 j=x:=⟨_,rfl⟩
  have bj2:=scanDown_le (fun x=>!ltInt x D3[a]!) D3 i2 j
  rw [hj2] at h9 bj2
  have q0:s9.tm 0 = .osl l u 0 d.size 1:=by rw [hf9.t 0 (by simp)];exact k0
  have q1:s9.tm 1 = .int .i64 a:=by rw [hf9.t 1 (by simp)];exact k1
  have q10:s9.tm 10 = .int .i64 ((i2:Nat):Int):=by rw [hf9.t 10 (by simp)];exact k10
  have qd:s9.df=[]:=by rw [hf9.d];exact kd
  have qr:s9.ro=ro:=by rw [hf9.r];exact kr
  have qat:=kat.calm hca9
  clear hca9 hf9
  have q11:=h9
  clear h9
  have hst:=partLoop_step (by omega) hi2 hj2
  rw [hpl] at hst
  obtain ⟨X2,hX2⟩:∃ x:Int,x=(i2:Nat):=⟨_,rfl⟩
  obtain ⟨Z2,hZ2⟩:∃ x:Int,x=(j2:Nat):=⟨_,rfl⟩
  rw [← hX2] at q10
  rw [← hZ2] at q11
  by_cases hgt2:i2 > j2
  ·rw [if_pos hgt2] at hst
   subst hst
   subst hP
   have c2:Z2<X2:=by omega
   rw [← hA] at q1
   have ix:=idxN (l:=l) (u:=u) (n:=d.size) (kk:=.i64) (X:=Z2) (x:=j2) (by omega) (by omega)
   have iy:=idxN (l:=l) (u:=u) (n:=d.size) (kk:=.i64) (X:=A) (x:=a) (by omega) (by omega)
   have lx:=ldN qat.1 (x:=j2) (by omega)
   have ly:=ldN qat.1 (x:=a) (by omega)
   have sa:=stI (d:=D3) (x:=j2) (by omega) D3[a]!
   have sb:=stI (d:=D3.setIfInBounds (j2) D3[a]!) (x:=a) (by rw [Array.size_setIfInBounds];omega) D3[j2]!
   rw [show (D3.setIfInBounds (j2) D3[a]!).setIfInBounds (a) D3[j2]! = swp D3 (j2) (a) from rfl] at sb
   have za:j2+1≤D3.size:=by omega
   have zb:a+1≤D3.size:=by omega
   simp [q10,q11,q0,q1,c2,ix,iy,lx,ly,sa,sb,za,zb,objCells,hro,qr,qat.1]
   exact endS_2 (by simp [qd]) ⟨by simp [hZ2],qat.swap (by simp) (fun key hk=>by simp [hk]) (by simp [app_tk0]) (by simp;omega)⟩
  ·rw [if_neg hgt2] at hst
   have c2:¬ Z2<X2:=by omega
   have w3:IntKind.i64.wrap (X2+1)=X2+1:=wrapN (by omega) (by omega)
   have w4:IntKind.i64.wrap (Z2 - 1)=Z2 - 1:=wrapN (by omega) (by omega)
   have ix:=idxN (l:=l) (u:=u) (n:=d.size) (kk:=.i64) (X:=X2) (x:=i2) (by omega) (by omega)
   have iy:=idxN (l:=l) (u:=u) (n:=d.size) (kk:=.i64) (X:=Z2) (x:=j2) (by omega) (by omega)
   have lx:=ldN qat.1 (x:=i2) (by omega)
   have ly:=ldN qat.1 (x:=j2) (by omega)
   have sa:=stI (d:=D3) (x:=i2) (by omega) D3[j2]!
   have sb:=stI (d:=D3.setIfInBounds (i2) D3[j2]!) (x:=j2) (by rw [Array.size_setIfInBounds];omega) D3[i2]!
   rw [show (D3.setIfInBounds (i2) D3[j2]!).setIfInBounds (j2) D3[i2]! = swp D3 (i2) (j2) from rfl] at sb
   have za:i2+1≤D3.size:=by omega
   have zb:j2+1≤D3.size:=by omega
   simp [q10,q11,q0,c2,ix,iy,lx,ly,sa,sb,za,zb,objCells,hro,qr,qat.1,w3,w4]
   exact ⟨j2 - 1+1 - (i2+1),by omega,by rw [hI];exact ⟨i2+1,j2 - 1,rfl,by omega,by omega,by omega,by omega,by simp [hX2],by simp;omega,swp D3 i2 j2,hst.symm,by rw [swp_size,z3],qat.swap (by simp) (fun key hk=>by simp [hk]) (by simp [app_tk0]) (by simp;omega)⟩⟩
end Go.Pv.T

/- Partitions of what is not less. -/
namespace Go.Pv.T
open Go Go.Pv Go.Sort
theorem partEqLoop_step {lt:Int→Int→Bool} {a i j i2 j2:Nat} {d:Array Int} (_:1≤i) (h1:scanUp (fun x=>!lt d[a]! x) d j i=i2) (h2:scanDown (fun x=>lt d[a]! x) d i2 j=j2) :
 partEqLoop lt a i j d=if i2 > j2 then (i2,d) else partEqLoop lt a (i2+1) (j2 - 1) (swp d i2 j2):=by
 have g1:=(scanUp_ge (fun x=>!lt d[a]! x) d j i).1
 have g2:=(scanDown_le (fun x=>lt d[a]! x) d i2 j).1
 rw [partEqLoop]
 simp only [h1,h2]
 by_cases h:i2 > j2
 ·rw [if_pos h,if_pos h]
 ·rw [if_neg h,if_neg h,dif_pos (by omega)]
theorem sv164 {Yf:YF} {l u a b pv:Nat} {d:Array Int} (hd:d.size≤1000000) (hb:b≤d.size) (hap:a≤pv) (hpb:pv<b) {ob:Nat→Option Obj'} {tk:Nat→Bool} {ro base ub:Nat} (ho:ob l=some ⟨u,.cells (arr intC d)⟩) (hro:ro≤u) :
 ∃ r,EvS E Yf.y 164 [.osl l u 0 d.size 1,.int .i64 a,.int .i64 b,.int .i64 pv] ob tk ro base ub r∧r.1 = .int .i64 (partitionEqual ltInt d a b pv).1∧At l u (arr intC (partitionEqual ltInt d a b pv).2) ob tk ub r.2.1 r.2.2.1 r.2.2.2:=by
 refine EvS_wp (af:=S164) rfl (by decide) ?_
 show wpC E Yf S164.body _ (kEndS S164.res _)
 have w1:IntKind.i64.wrap ((a:Int)+1)=((a+1:Nat):Int):=by rw [wrapN (by omega) (by omega)];omega
 have w2:IntKind.i64.wrap ((b:Int) - 1)=((b - 1:Nat):Int):=by rw [wrapN (by omega) (by omega)];omega
 have ia:∀ n,a<n→idxSlV 1 (.osl l u 0 n 1) (.int .i64 (a:Int))=some (.ptr l u a):=fun n h=>idxN rfl h
 have ia':=ia d.size (by omega)
 have ip:=idxN (l:=l) (u:=u) (n:=d.size) (kk:=.i64) (X:=(pv:Int)) (x:=pv) rfl (by omega)
 have la:=ldN ho (x:=a) (by omega)
 have lp:=ldN ho (x:=pv) (by omega)
 have st1:=stI (d:=d) (x:=a) (by omega) d[pv]!
 have st2:=stI (d:=d.setIfInBounds a d[pv]!) (x:=pv) (by rw [Array.size_setIfInBounds];omega) d[a]!
 have hsw:(d.setIfInBounds a d[pv]!).setIfInBounds pv d[a]! = swp d a pv:=rfl
 rw [hsw] at st2
 have hz1:a+1≤d.size:=by omega
 have hz2:pv+1≤d.size:=by omega
 obtain ⟨P,hP⟩:∃ P,partitionEqual ltInt d a b pv=P:=⟨_,rfl⟩
 rw [hP]
 unfold partitionEqual at hP
 obtain ⟨D,hD⟩:∃ D,swp d a pv=D:=⟨_,rfl⟩
 have zD:D.size=d.size:=by rw [← hD];exact swp_size _ _ _
 rw [hD] at st2 hP
 generalize hA1:((a+1:Nat):Int)=A1 at w1
 generalize hB1:((b - 1:Nat):Int)=B1 at w2
 simp [S164,ia',ip,la,lp,objCells,ho,hro,st1,st2,hz1,hz2,w1,w2]
 refine wpC_gen fun st hst=>?_
 obtain ⟨I,hI⟩:∃ I:Nat→St→Prop,I=fun n s=>∃ i j:Nat,n=j+1 - i∧a+1≤i∧i≤b+1∧a≤j∧j<b∧s.tm 9 = .int .i64 i∧s.tm 10 = .int .i64 j∧∃ D3:Array Int,partEqLoop ltInt a i j D3=P∧D3.size=d.size∧At l u (arr intC D3) ob tk ub s.ob s.tk s.nx:=⟨_,rfl⟩
 have e0:st.tm 0 = .osl l u 0 d.size 1:=by rw [hst];simp
 have e1:st.tm 1 = .int .i64 a:=by rw [hst];simp
 have e9:st.tm 9 = .int .i64 (a+1:Nat):=by rw [hst,hA1];simp
 have e10:st.tm 10 = .int .i64 (b - 1:Nat):=by rw [hst,hB1];simp
 have ed:st.df=[]:=by rw [hst];simp
 have er:st.ro=ro:=by rw [hst];simp
 have eat:At l u (arr intC D) ob tk ub st.ob st.tk st.nx:=by rw [hst];exact (At.refl ho).swap (by simp) (fun key hk=>by simp [hk]) (by simp [app_tk0]) (by simp;omega)
 clear hst st1 st2 hsw hA1 hB1 w1 w2 la lp ip
 obtain ⟨A,hA⟩:∃ x:Int,x=(a:Nat):=⟨_,rfl⟩
 refine wp_loopF (n:=b - 1+1 - (a+1)) [(9,10),(29,82)] I rfl rfl (by rw [hI];exact ⟨a+1,b - 1,rfl,by omega,by omega,by omega,by omega,e9,e10,D,hP,zD,eat⟩) ?_
 intro n s hIs f
 rw [hI] at hIs
 obtain ⟨i,j,rfl,hi,hib,hja,hjb,t9,t10,D3,hpl,z3,tat⟩:=hIs
 have t0:s.tm 0 = .osl l u 0 d.size 1:=by rw [f.t 0 (by simp)];exact e0
 have t1:s.tm 1 = .int .i64 a:=by rw [f.t 1 (by simp)];exact e1
 have td:s.df=[]:=by rw [f.d];exact ed
 have tr:s.ro=ro:=by rw [f.r];exact er
 clear f e0 e1 e9 e10 ed er eat
 simp
 refine scan_up (p:=fun x=>!ltInt D3[a]! x) (d:=D3) (i0:=i) (j:=j) [(9,9),(29,45)] rfl rfl rfl rfl t9 ?_ ?_ ?_
 ·intro s9 x1 hx9 h19 h29 hca9 hf9
  have m0:s9.tm 0 = .osl l u 0 d.size 1:=by rw [hf9.t 0 (by simp)];exact t0
  have m1:s9.tm 1 = .int .i64 a:=by rw [hf9.t 1 (by simp)];exact t1
  have mf:s9.tm 10 = .int .i64 ((j:Nat):Int):=by rw [hf9.t 10 (by simp)];exact t10
  have hat9:=tat.calm hca9
  generalize hX:(x1:Int)=X at *
  generalize hZ:((j:Nat):Int)=Z at *
  by_cases hle:x1≤j
  ·have c1:X≤Z:=by omega
   have ii:=idxN (l:=l) (u:=u) (n:=d.size) (kk:=.i64) (X:=X) (x:=x1) (by omega) (by omega)
   have li:=ldN hat9.1 (x:=x1) (by omega)
   have la:=ldN hat9.1 (x:=a) (by omega)
   simp [hx9,mf,c1,m0,m1,ii,li,ia',la]
   refine kS_ev (ev163 D3[a]! D3[x1]!) (by simp) rfl (by simp) ?_
   simp [hle,hx9,Calm] <;> omega
  ·have c1:¬ X≤Z:=by omega
   simp [hx9,mf,c1,hle,Calm] <;> omega
 ·intro s9 x1 hx9 h19 h29
  have hw:IntKind.i64.wrap ((x1:Int)+1)=(x1:Int)+1:=wrapN (by omega) (by omega)
  simp [hx9,hw,Calm] <;> omega
 intro s9 h9 hca9 hf9
 obtain ⟨i2,hi2⟩:∃ x,scanUp (fun x=>!ltInt D3[a]! x) D3 j i=x:=⟨_,rfl⟩
 have bi2:=scanUp_ge (fun x=>!ltInt D3[a]! x) D3 j i
 rw [hi2] at h9 bi2
 have k0:s9.tm 0 = .osl l u 0 d.size 1:=by rw [hf9.t 0 (by simp)];exact t0
 have k1:s9.tm 1 = .int .i64 a:=by rw [hf9.t 1 (by simp)];exact t1
 have k10:s9.tm 10 = .int .i64 ((j:Nat):Int):=by rw [hf9.t 10 (by simp)];exact t10
 have kd:s9.df=[]:=by rw [hf9.d];exact td
 have kr:s9.ro=ro:=by rw [hf9.r];exact tr
 have kat:=tat.calm hca9
 clear hca9 hf9
 have k9:=h9
 clear h9
 simp
 refine scan_down (p:=fun x=>ltInt D3[a]! x) (d:=D3) (i:=i2) (j0:=j) (by omega) [(10,10),(46,61)] rfl rfl rfl rfl k10 ?_ ?_ ?_
 ·intro s9 x1 hx9 h19 hca9 hf9
  have m0:s9.tm 0 = .osl l u 0 d.size 1:=by rw [hf9.t 0 (by simp)];exact k0
  have m1:s9.tm 1 = .int .i64 a:=by rw [hf9.t 1 (by simp)];exact k1
  have mf:s9.tm 9 = .int .i64 ((i2:Nat):Int):=by rw [hf9.t 9 (by simp)];exact k9
  have hat9:=kat.calm hca9
  generalize hX:(x1:Int)=X at *
  generalize hZ:((i2:Nat):Int)=Z at *
  by_cases hle:i2≤x1
  ·have c1:Z≤X:=by omega
   have ii:=idxN (l:=l) (u:=u) (n:=d.size) (kk:=.i64) (X:=X) (x:=x1) (by omega) (by omega)
   have li:=ldN hat9.1 (x:=x1) (by omega)
   have la:=ldN hat9.1 (x:=a) (by omega)
   simp [hx9,mf,c1,m0,m1,ii,li,ia',la]
   refine kS_ev (ev163 D3[a]! D3[x1]!) (by simp) rfl (by simp) ?_
   simp [hle,hx9,Calm] <;> omega
  ·have c1:¬ Z≤X:=by omega
   simp [hx9,mf,c1,hle,Calm] <;> omega
 ·intro s9 x1 hx9 h19
  have hw:IntKind.i64.wrap (((x1+1:Nat):Int) - 1)=(x1:Int):=by rw [wrapN (by omega) (by omega)];omega
  generalize ((x1+1:Nat):Int)=J at *
  simp [hx9,hw,Calm] <;> omega
 intro s9 h9 hca9 hf9
 obtain ⟨j2,hj2⟩:∃ x,scanDown (fun x=>ltInt D3[a]! x) D3 i2 j=x:=⟨_,rfl⟩
 have bj2:=scanDown_le (fun x=>ltInt D3[a]! x) D3 i2 j
 rw [hj2] at h9 bj2
 have q0:s9.tm 0 = .osl l u 0 d.size 1:=by rw [hf9.t 0 (by simp)];exact k0
 have q1:s9.tm 1 = .int .i64 a:=by rw [hf9.t 1 (by simp)];exact k1
 have q9:s9.tm 9 = .int .i64 ((i2:Nat):Int):=by rw [hf9.t 9 (by simp)];exact k9
 have qd:s9.df=[]:=by rw [hf9.d];exact kd
 have qr:s9.ro=ro:=by rw [hf9.r];exact kr
 have qat:=kat.calm hca9
 clear hca9 hf9
 have q10:=h9
 clear h9
 have hst:=partEqLoop_step (by omega) hi2 hj2
 rw [hpl] at hst
 obtain ⟨X2,hX2⟩:∃ x:Int,x=(i2:Nat):=⟨_,rfl⟩
 obtain ⟨Z2,hZ2⟩:∃ x:Int,x=(j2:Nat):=⟨_,rfl⟩
 rw [← hX2] at q9
 rw [← hZ2] at q10
 by_cases hgt2:i2 > j2
 ·rw [if_pos hgt2] at hst
  subst hst
  have c2:Z2<X2:=by omega
  simp [q9,q10,c2]
  exact endS_1 (by simp [qd]) ⟨by simp [hX2],qat.same rfl rfl (by simp;omega)⟩
 ·rw [if_neg hgt2] at hst
  have c2:¬ Z2<X2:=by omega
  have w3:IntKind.i64.wrap (X2+1)=X2+1:=wrapN (by omega) (by omega)
  have w4:IntKind.i64.wrap (Z2 - 1)=Z2 - 1:=wrapN (by omega) (by omega)
  have ix:=idxN (l:=l) (u:=u) (n:=d.size) (kk:=.i64) (X:=X2) (x:=i2) (by omega) (by omega)
  have iy:=idxN (l:=l) (u:=u) (n:=d.size) (kk:=.i64) (X:=Z2) (x:=j2) (by omega) (by omega)
  have lx:=ldN qat.1 (x:=i2) (by omega)
  have ly:=ldN qat.1 (x:=j2) (by omega)
  have sa:=stI (d:=D3) (x:=i2) (by omega) D3[j2]!
  have sb:=stI (d:=D3.setIfInBounds (i2) D3[j2]!) (x:=j2) (by rw [Array.size_setIfInBounds];omega) D3[i2]!
  rw [show (D3.setIfInBounds (i2) D3[j2]!).setIfInBounds (j2) D3[i2]! = swp D3 (i2) (j2) from rfl] at sb
  have za:i2+1≤D3.size:=by omega
  have zb:j2+1≤D3.size:=by omega
  simp [q9,q10,q0,c2,ix,iy,lx,ly,sa,sb,za,zb,objCells,hro,qr,qat.1,w3,w4]
  exact ⟨j2 - 1+1 - (i2+1),by omega,by rw [hI];exact ⟨i2+1,j2 - 1,rfl,by omega,by omega,by omega,by omega,by simp [hX2],by simp;omega,swp D3 i2 j2,hst.symm,by rw [swp_size,z3],qat.swap (by simp) (fun key hk=>by simp [hk]) (by simp [app_tk0]) (by simp;omega)⟩⟩
end Go.Pv.T
