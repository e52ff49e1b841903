/- Looking through slices; an observer's round of a predicate. -/
import Derived.Test.YtphecmnehkdihaaGreatDoorEC
import Derived.Laws.BitsLemmas
import Derived.Lib.ValidLaws
import Derived.Laws.Bits64
import Derived.Sort.AssemblyPlain
set_option maxRecDepth 100000
namespace Go.Pv.T
open Go Go.Pv
@[simp] theorem startS_tm (args:List V) (ob:Nat→Option Obj') (tk:Nat→Bool) (ro base ub n:Nat):(startS args ob tk ro base ub).tm n=args.getD n none':=rfl
@[simp] theorem startS_ob (args:List V) (ob:Nat→Option Obj') (tk:Nat→Bool) (ro base ub:Nat):(startS args ob tk ro base ub).ob=ob:=rfl
@[simp] theorem startS_tk (args:List V) (ob:Nat→Option Obj') (tk:Nat→Bool) (ro base ub:Nat):(startS args ob tk ro base ub).tk=tk:=rfl
@[simp] theorem startS_ro (args:List V) (ob:Nat→Option Obj') (tk:Nat→Bool) (ro base ub:Nat):(startS args ob tk ro base ub).ro=ro:=rfl
@[simp] theorem startS_nx (args:List V) (ob:Nat→Option Obj') (tk:Nat→Bool) (ro base ub:Nat):(startS args ob tk ro base ub).nx=ub:=rfl
@[simp] theorem startS_fb (args:List V) (ob:Nat→Option Obj') (tk:Nat→Bool) (ro base ub:Nat):(startS args ob tk ro base ub).fb=base:=rfl
@[simp] theorem startS_df (args:List V) (ob:Nat→Option Obj') (tk:Nat→Bool) (ro base ub:Nat):(startS args ob tk ro base ub).df=[]:=rfl
theorem wrap64' {n:Int} (h:-9223372036854775808≤n) (h':n≤9223372036854775807):IntKind.i64.wrap n=n:=by
 rw [IntKind.wrap_i64];omega
section
variable {α:Type} {f:α→List V} {k:Nat}
theorem flatMap_len (hf:∀ a,(f a).length=k):∀ (l:List α),(l.flatMap f).length=l.length * k
 | []=>by simp
 | a::l=>by rw [List.flatMap_cons,List.length_append,hf,flatMap_len hf l,List.length_cons,Nat.succ_mul];omega
theorem flatMap_at (hf:∀ a,(f a).length=k):∀ (l:List α) (i:Nat) (h:i<l.length),((l.flatMap f).drop (i * k)).take k=f l[i]
 | a::l,0,_=>by rw [List.flatMap_cons,Nat.zero_mul,List.drop_zero,List.take_append_of_le_length (by rw [hf];omega),List.take_of_length_le (by rw [hf];omega)];rfl
 | a::l,i+1,h=>by
  rw [List.flatMap_cons,Nat.succ_mul,List.drop_append,List.drop_of_length_le (by rw [hf];omega),List.nil_append,hf,Nat.add_sub_cancel]
  exact flatMap_at hf l i (by simpa using h)
theorem idx_slOf (hf:∀ a,(f a).length=k) (nl:Bool) (l:List α) (kk:IntKind) {i:Nat} (h:i<l.length):idxSlV k (slOf nl f l) (.int kk i)=some (.eptr (l.flatMap f) (i * k)):=by
 simp only [slOf,idxSlV_sl,flatMap_len hf]
 rw [if_pos (by simp;omega)]
 rfl
theorem load_slOf (hf:∀ a,(f a).length=k) (ob:Nat→Option Obj') (l:List α) {i:Nat} (h:i<l.length):loadV ob (some k) (.eptr (l.flatMap f) (i * k))=some (.agg (f l[i])):=by
 have:i * k+k≤l.length * k:=by rw [← Nat.succ_mul];exact Nat.mul_le_mul_right k h
 rw [loadV_e,pick1_some,if_pos (by rw [flatMap_len hf];exact this),flatMap_at hf l i h]
end
@[simp] theorem txnC_len (t:Txn'):(txnC t).length=3:=rfl
@[simp] theorem opC_len (t:Op'):(opC t).length=4:=rfl
@[simp] theorem strC_len (t:List UInt8):(strC t).length=1:=rfl
theorem kS_callVO {E:Env} {Yf:YF} {q:A} {xs:List A} {st:St} {ub:Nat} {K:St→Nat→Prop} {d:Option Nat} {nm:Bool} {f:FuncId} {first captured:List V} (hq:eval E st.tm q = .fn (.func f) first captured) (hs:E.sh nm f=false)
 (hp:((first++xs.map (eval E st.tm)++captured).all fun v=>v.strip.pureTop)=false) {v:V} (hv:EvO E f (first++xs.map (eval E st.tm)++captured) st.ob st.tk ((st.fb+d.getD 0+1) * 1024) ub v) (h:wpD (retA ub v) (kApp K st d ub)) :
 wpStep E Yf ⟨d,.callV q xs,none,nm⟩ st ub K:=by
 have hsh:sharedCall E nm (eval E st.tm) (.callV q xs)=some (f,first++xs.map (eval E st.tm)++captured):=by simp only [sharedCall,hq,hs,hp,Bool.not_false,Bool.true_and,Bool.false_eq_true,if_false]
 simp only [wpStep,wanted,yieldCall,hq,hsh]
 obtain ⟨δ,hδ,hK⟩:=h
 exact .inr ⟨hs,v,hv,δ,hδ,hK⟩
theorem kS_callO {E:Env} {Yf:YF} {f:FuncId} {xs:List A} {st:St} {ub:Nat} {K:St→Nat→Prop} {d:Option Nat} {nm:Bool} {vs:List V} (hx:xs.map (eval E st.tm)=vs) (hs:E.sh nm f=false) (hp:(vs.all fun v=>v.strip.pureTop)=false) {v:V}
 (hv:EvO E f vs st.ob st.tk ((st.fb+d.getD 0+1) * 1024) ub v) (h:wpD (retA ub v) (kApp K st d ub)):wpStep E Yf ⟨d,.call f xs,none,nm⟩ st ub K :=
 wpS_callO hs (by rw [hx];exact hp) ⟨v,by rw [hx];exact hv,h⟩
theorem EvO_wpK {E:Env} {f:FuncId} {af:AF} {args:List V} {ob:Nat→Option Obj'} {tk:Nat→Bool} {base ub:Nat} {r:V} (hf:E.fs f=some af) (h:wpC E noYF af.body (startS args ob (fun _=>false) ub base ub) (kEnd af.res r)) (hz:E.fz f=false:=by rfl):EvO E f args ob tk base ub r:=EvO_wp hf h hz
def HistAt (h:Hist') (ob:Nat→Option Obj') (l u:Nat):Prop:=l % 2=0∧ob l=some ⟨u,.cells (histC h)⟩
theorem ev154 {h:Hist'} {ob:Nat→Option Obj'} {l u:Nat} (hh:HistAt h ob l u) (t:Txn') (tk:Nat→Bool) (base ub:Nat):EvO E 154 [.agg (txnC t),.ptr l u 0] ob tk base ub (.bool (!txnB h t)):=by
 obtain ⟨h2,ho⟩:=hh
 refine EvO_wpK (af:=S154) rfl ?_
 have hne:¬ l=2 * ub+1:=by omega
 simp [S154,objCells,hne,ho,txnC,histC]
 refine kS_call (vs:=[.agg (histC h),.agg (txnC t)]) (by simp [histC,txnC]) rfl (by simp [histC,txnC]) (by simpa [histC,txnC] using ev155 h t) ?_
 simp
 exact endV_1 rfl (by simp) rfl
def firstI {α:Type} (p:α→Bool) (l:List α):Int:=match l.findIdx? p with
 | some i=>i
 | none=>-1
theorem firstI_found {α:Type} {p:α→Bool} {l:List α} {i:Nat} (h:i<l.length) (hn:p l[i]=true) (hb:∀ j (hj:j<l.length),j<i→p l[j]=false):firstI p l=i:=by
 unfold firstI
 have:l.findIdx? p=some i:=by
  rw [List.findIdx?_eq_some_iff_getElem]
  exact ⟨h,hn,fun j hj=>by rw [hb j (by omega) hj];decide⟩
 rw [this]
theorem firstI_none {α:Type} {p:α→Bool} {l:List α} (hb:∀ j (hj:j<l.length),p l[j]=false):firstI p l = -1:=by
 unfold firstI
 have:l.findIdx? p=none:=by
  rw [List.findIdx?_eq_none_iff]
  intro x hx
  obtain ⟨j,hj,e⟩:=List.getElem_of_mem hx
  rw [← e]
  exact hb j hj
 rw [this]
theorem firstI_any {α:Type} (p:α→Bool) (l:List α):decide (0≤firstI p l)=l.any p:=by
 unfold firstI
 cases h:l.findIdx? p with
 | none =>
  rw [List.findIdx?_eq_none_iff] at h
  simp
  intro x hx
  simpa using h x hx
 | some i =>
  rw [List.findIdx?_eq_some_iff_getElem] at h
  obtain ⟨hi,hp,_⟩:=h
  simp
  exact ⟨_,List.getElem_mem hi,hp⟩
theorem ev213 {p:Txn'→Bool} {g:FuncId} {cap:V} {ob:Nat→Option Obj'} (hs:E.sh true g=false) (hcap:cap.strip.pureTop=false) (hp:∀ (t:Txn') (tk:Nat→Bool) (base ub:Nat),EvO E g [.agg (txnC t),cap] ob tk base ub (.bool (p t)))
 (nl:Bool) (l:List Txn') (hl:l.length≤140737488355328) (tk:Nat→Bool) (base ub:Nat):EvO E 213 [slOf nl txnC l,.fn (.func g) [] [cap]] ob tk base ub (.int .i64 (firstI p l)):=by
 refine EvO_wpK (af:=S213) rfl ?_
 simp [S213]
 refine wp_loopK (n:=l.length) (fun k s=>∃ i,k=l.length - i∧i≤l.length∧s.df=[]∧s.ob=ob∧s.tm 0=slOf nl txnC l∧s.tm 1 = .fn (.func g) [] [cap]∧s.tm 7 = .int .i64 l.length∧s.tm 8 = .int .i64 i∧∀ j (hj:j<l.length),j<i→p l[j]=false)
  ⟨0,by simp⟩ ?_
 rintro k s ⟨i,rfl,hi,hd,ho,h0,h1,h7,h8,hb⟩
 by_cases hlt:i<l.length
 ·simp [h0,h1,h7,h8,hlt,idx_slOf txnC_len,load_slOf txnC_len]
  refine kS_callVO (f:=g) (first:=[]) (captured:=[cap]) (by simp) hs (by simp [hcap]) (v:=.bool (p l[i])) (by simpa [ho] using hp l[i] _ _ _) ?_
  cases hpi:p l[i]
  ·simp [h0,h1,h7,h8,hd]
   refine ⟨l.length - (i+1),by omega,i+1,rfl,by omega,ho,by rw [wrap64' (by omega) (by omega)];simp,?_⟩
   intro j hj hji
   rcases Nat.lt_succ_iff_lt_or_eq.1 hji with h | rfl
   ·exact hb j hj h
   ·exact hpi
  ·simp
   refine endV_1 (by simpa using hd) ?_ rfl
   simp
   rw [firstI_found hlt hpi hb]
 ·have:i=l.length:=by omega
  subst this
  simp [h7,h8]
  refine endV_1 (by simpa using hd) ?_ rfl
  simp [firstI_none (fun j hj=>hb j hj hj)]
theorem ev153 {p:Txn'→Bool} {g:FuncId} {ob:Nat→Option Obj'} {a b c:Nat} (hs:E.sh true g=false) (hp:∀ (t:Txn') (tk:Nat→Bool) (base ub:Nat),EvO E g [.agg (txnC t),.ptr a b c] ob tk base ub (.bool (p t)))
 (nl:Bool) (l:List Txn') (hl:l.length≤140737488355328) (tk:Nat→Bool) (base ub:Nat):EvO E 153 [slOf nl txnC l,.fn (.func g) [] [.ptr a b c]] ob tk base ub (.bool (l.any p)):=by
 refine EvO_wpK (af:=S153) rfl ?_
 simp [S153]
 refine kS_callO (vs:=[slOf nl txnC l,.fn (.func g) [] [.ptr a b c]]) (by simp) rfl rfl (ev213 hs rfl hp nl l hl _ _ _) ?_
 simp
 exact endV_1 rfl (by simp [firstI_any]) rfl
def Fr (ub:Nat) (ob ob':Nat→Option Obj'):Prop:=∀ key,(∀ m,ub≤m→key≠2 * m+1)→ob' key=ob key
theorem Fr.refl (ub:Nat) (ob:Nat→Option Obj'):Fr ub ob ob:=fun _ _=>rfl
def kEndS (res:List ARes) (P:V × (Nat→Option Obj') × (Nat→Bool) × Nat→Prop):Ex→St→Prop:=fun e s=>∃ r,endS res (e,s)=some r∧P r
theorem app_tk0 (st:St) (d:Option Nat) (v:V) (obs:List (Nat × Obj')):(st.app d { v:=v,obs:=obs }).tk=st.tk:=by
 funext u
 simp [app_tk]
theorem Fr.two {ub m:Nat} {ob ob':Nat→Option Obj'} (h:∀ key,key≠2 * m+1→ob' key=ob key) (hm:ub≤m):Fr ub ob ob':=fun key hk=>h key (hk m hm)
theorem step_gen {E:Env} {Yf:YF} {o:AOpr} {st:St} {ub:Nat} {K:St→Nat→Prop} (h:∀ s',s'=st→wpStep E Yf o s' ub K):wpStep E Yf o st ub K:=h st rfl
theorem run146 {Yf:YF} (h:Hist') (hn:h.ts.length≤1000) (hm:∀ t∈h.ts,t.ops.length≤1000000) {l u lh uh:Nat} {ob0:Nat→Option Obj'} {tk0:Nat→Bool} {ro base ub0:Nat} (hh:ob0 lh=some ⟨uh,.cells (histC h)⟩) (hro:ro≤ub0)
 (J:Nat→Nat→(Nat→Option Obj')→(Nat→Bool)→Nat→Prop) (P:V × (Nat→Option Obj') × (Nat→Bool) × Nat→Prop)
 (hfr:∀ i k ob ob' tk ub ub',J i k ob tk ub→ub≤ub'→Fr ub ob ob'→J i k ob' tk ub')
 (hnext:∀ i (hi:i<h.ts.length) ob tk ub,J i (h.ts[i]).ops.length ob tk ub→J (i+1) 0 ob tk ub)
 (hstep:∀ i (hi:i<h.ts.length) k (hk:k<(h.ts[i]).ops.length) ob tk ub,J i k ob tk ub→ro≤ub→∃ r,EvY Yf l u [.agg [.int .i64 i,.int .i64 k],.agg (opC (h.ts[i]).ops[k])] ob tk ro ub r∧ro≤r.2.2.2 ∧
  ((r.1 = .bool true∧J i (k+1) r.2.1 r.2.2.1 r.2.2.2)∨(r.1 = .bool false∧∀ ob' ub',r.2.2.2≤ub'→Fr r.2.2.2 r.2.1 ob'→P (.tup [],ob',r.2.2.1,ub'))))
 (hend:∀ ob tk ub,J h.ts.length 0 ob tk ub→P (.tup [],ob,tk,ub))
 (h0:J 0 0 ob0 tk0 ub0):∃ r,EvS E Yf.y 215 [.yld l u,.ptr lh uh 0] ob0 tk0 ro base ub0 r∧P r:=by
 refine EvS_wp (af:=S215) rfl (by decide) ?_
 show wpC E Yf S215.body _ (kEndS S215.res P)
 simp [S215,objCells,hh,histC]
 refine wp_loopK (n:=h.ts.length) (fun k s=>∃ i,k=h.ts.length - i∧i≤h.ts.length∧s.df=[]∧s.fb=base∧s.ro=ro∧ro≤s.nx∧s.tm 0 = .yld l u∧s.tm 8=slOf h.tn txnC h.ts∧s.tm 9 = .int .i64 h.ts.length∧s.tm 10 = .int .i64 i∧J i 0 s.ob s.tk s.nx)
  ⟨0,by simp;exact ⟨by omega,hfr _ _ _ _ _ _ _ h0 (by omega) (Fr.refl _ _)⟩⟩ ?_
 rintro k s ⟨i,rfl,hi,hd,hfb,hsr,hnx,h0,h8,h9,h10,hJ⟩
 by_cases hlt:i<h.ts.length
 ·simp [h8,h9,h10,hlt,idx_slOf txnC_len,load_slOf txnC_len,txnC,objCells,hsr]
  refine ⟨by omega,?_⟩
  refine wp_loopK (n:=(h.ts[i]).ops.length) (fun k s=>∃ j,k=(h.ts[i]).ops.length - j∧j≤(h.ts[i]).ops.length∧s.df=[]∧s.fb=base∧s.ro=ro∧ro≤s.nx∧s.tm 0 = .yld l u∧s.tm 8=slOf h.tn txnC h.ts∧s.tm 9 = .int .i64 h.ts.length∧s.tm 10 = .int .i64 i ∧
   s.tm 3 = .int .i64 i∧s.tm 16=slOf (h.ts[i]).nl opC (h.ts[i]).ops∧s.tm 17 = .int .i64 (h.ts[i]).ops.length∧s.tm 18 = .int .i64 j∧J i j s.ob s.tk s.nx) ⟨0,?_⟩ ?_
  ·simp [hd,hfb,hsr,h0,h8,h9,h10]
   refine ⟨by omega,?_⟩
   rw [app_tk0,setT_tk,app_tk0]
   refine hfr _ _ _ _ _ _ _ hJ (by omega:s.nx≤_) (Fr.two (m:=s.nx+64+64+64+64) (fun key hk=>?_) (by omega))
   simp [hk]
  clear hd hfb hsr hnx h0 h8 h9 h10 hJ s
  rintro k s ⟨j,rfl,hj,hd,hfb,hsr,hnx,h0,h8,h9,h10,h3,h16,h17,h18,hJ⟩
  by_cases hjt:j<(h.ts[i]).ops.length
  ·simp [h0,h3,h16,h17,h18,hjt,idx_slOf opC_len,load_slOf opC_len,opC,objCells,hsr,splice]
   refine ⟨by omega,step_gen fun s' hs'=>?_⟩
   have e23:s'.tm 23 = .yld l u:=by rw [hs'];simp
   have e26:s'.tm 26 = .agg [.int .i64 i,.int .i64 j]:=by rw [hs'];simp
   have e27:s'.tm 27 = .agg (opC (h.ts[i]).ops[j]):=by rw [hs'];simp [opC]
   have e0:s'.tm 0 = .yld l u:=by rw [hs'];simp [h0]
   have e8:s'.tm 8=slOf h.tn txnC h.ts:=by rw [hs'];simp [h8]
   have e9:s'.tm 9 = .int .i64 h.ts.length:=by rw [hs'];simp [h9]
   have e10:s'.tm 10 = .int .i64 i:=by rw [hs'];simp [h10]
   have e3:s'.tm 3 = .int .i64 i:=by rw [hs'];simp [h3]
   have e16:s'.tm 16=slOf (h.ts[i]).nl opC (h.ts[i]).ops:=by rw [hs'];simp [h16]
   have e17:s'.tm 17 = .int .i64 (h.ts[i]).ops.length:=by rw [hs'];simp [h17]
   have e18:s'.tm 18 = .int .i64 j:=by rw [hs'];simp [h18]
   have ed:s'.df=[]:=by rw [hs'];simp [hd]
   have ef:s'.fb=base:=by rw [hs'];simp [hfb]
   have er:s'.ro=ro:=by rw [hs'];simp [hsr]
   have et:s'.tk=s.tk:=by rw [hs'];simp only [setT_tk,setN_tk,app_tk0]
   have eo:Fr s.nx s.ob s'.ob:=by
    rw [hs']
    exact Fr.two (m:=s.nx+64+64+64+64) (fun key hk=>by simp [hk]) (by omega)
   clear hs'
   obtain ⟨r,hr,hru,hcase⟩:=hstep i hlt j hjt s'.ob s.tk (s.nx+64+64+64+64+64+64+64+64+64+64+64+64) (hfr _ _ _ _ _ _ _ hJ (by omega) eo) (by omega)
   refine wpS_yield (l:=l) (u:=u) (by simpa using e23) ⟨r,by simpa [e26,e27,et,er] using hr,?_⟩
   rcases hcase with ⟨hr1,hJ2⟩ | ⟨hr1,hP⟩
   ·simp [hr1,put,upd_apply,e18]
    have hb:=hm h.ts[i] (List.getElem_mem hlt)
    refine ⟨(h.ts[i]).ops.length - (j+1),by omega,j+1,rfl,by omega,ed,ef,er,by omega,e0,e8,e9,e10,e3,e16,e17,by rw [wrap64' (by omega) (by omega)];simp,?_⟩
    exact hfr _ _ _ _ _ _ _ hJ2 (by omega) (Fr.refl _ _)
   ·simp [hr1,put]
    refine ⟨(.tup [],r.2.1,r.2.2.1,r.2.2.2+64),?_,hP _ _ (by omega) (Fr.refl _ _)⟩
    simp [endS,ed]
  ·have:j=(h.ts[i]).ops.length:=by omega
   subst this
   have hJ':=hnext i hlt _ _ _ hJ
   simp [h17,h18,h0,h8,h9,h10,hd,hfb,hsr]
   refine ⟨h.ts.length - (i+1),by omega,i+1,rfl,by omega,by omega,by rw [wrap64' (by omega) (by omega)];simp,?_⟩
   exact hfr _ _ _ _ _ _ _ hJ' (by omega) (Fr.refl _ _)
 ·have:i=h.ts.length:=by omega
  subst this
  simp [h9,h10]
  refine ⟨(.tup [],s.ob,s.tk,s.nx+64),?_,hend _ _ _ (hfr _ _ _ _ _ _ _ hJ (Nat.le_add_right _ _) (Fr.refl _ _))⟩
  simp [endS,hd]
theorem kS_callS {E:Env} {Yf:YF} {f:FuncId} {xs:List A} {st:St} {ub:Nat} {K:St→Nat→Prop} {d:Option Nat} {nm:Bool} {vs:List V} (hx:xs.map (eval E st.tm)=vs) (hs:E.sh nm f=true)
 (h:∃ r,EvS E Yf.y f vs st.ob st.tk st.ro ((st.fb+d.getD 0+1) * 1024) ub r∧K { st with tm:=put st.tm d r.1,ob:=r.2.1,tk:=r.2.2.1 } r.2.2.2):wpStep E Yf ⟨d,.call f xs,none,nm⟩ st ub K:=by
 have hsh:sharedCall E nm (eval E st.tm) (.call f xs)=some (f,vs):=by simp only [sharedCall,hs,hx,Bool.not_true,Bool.false_and,Bool.false_eq_true,if_false]
 simp only [wpStep,wanted,yieldCall,hsh]
 obtain ⟨r,hr,hK⟩:=h
 exact .inl ⟨hs,EvS.list ⟨r,hr,hK⟩⟩
theorem kS_callL {E:Env} {Yf:YF} {f:FuncId} {xs:List A} {st:St} {ub:Nat} {K:St→Nat→Prop} {d:Option Nat} {nm:Bool} {vs:List V} (hx:xs.map (eval E st.tm)=vs) (hs:E.sh nm f=true)
 (h:EvSL E Yf.y f vs st.ob st.tk st.ro ((st.fb+d.getD 0+1) * 1024) ub fun r=>K { st with tm:=put st.tm d r.1,ob:=r.2.1,tk:=r.2.2.1 } r.2.2.2):wpStep E Yf ⟨d,.call f xs,none,nm⟩ st ub K:=by
 have hsh:sharedCall E nm (eval E st.tm) (.call f xs)=some (f,vs):=by simp only [sharedCall,hs,hx,Bool.not_true,Bool.false_and,Bool.false_eq_true,if_false]
 simp only [wpStep,wanted,yieldCall,hsh]
 exact .inl ⟨hs,h⟩
theorem ev156 {Yf:YF} (h:Hist') (ob:Nat→Option Obj') (tk:Nat→Bool) (ro base ub:Nat):∃ r,EvS E Yf.y 156 [.agg (histC h)] ob tk ro base ub r ∧
 r.1 = .fn (.func 215) [] [.ptr (2 * ub+1) ub 0]∧(∀ key,r.2.1 key=if key=2 * ub+1 then some ⟨ub,.cells (histC h)⟩ else ob key)∧r.2.2.1=tk∧r.2.2.2=ub+256:=by
 refine EvS_wp (af:=S156) rfl (by decide) ?_
 show wpC E Yf S156.body _ (kEndS S156.res _)
 simp [S156,histC]
 refine ⟨(.fn (.func 215) [] [.ptr (2 * ub+1) ub 0],_,_,_),rfl,?_⟩
 simp [app_tk0]
def opsOf (h:Hist'):List Op':=h.ts.flatMap (·.ops)
def goodTo (h:Hist') (i k:Nat):Prop:=∀ i' (hi:i'<h.ts.length) k' (hk:k'<(h.ts[i']).ops.length),(i'<i∨i'=i∧k'<k)→opB h (h.ts[i']).ops[k']=true
def AS70:C:=.region [
 ⟨(some 4),.alloc [(.bool false),(.int .i64 0),(.int .i64 0),(.int .i64 0)],none,false⟩,
 ⟨none,.store 4 (.t 4) (.t 17),none,false⟩]
def BD70:C:=.block 1 (.seq (.region [
            ⟨(some 18),.load (some 3) (.t 1),none,false⟩,
            ⟨(some 19),.load (some 4) (.t 4),none,false⟩,
            ⟨(some 20),.call 157 [(.t 18),(.t 19)],none,false⟩,
            ⟨(some 21),.un .not (.t 20),none,false⟩])
 (.cond (.t 21) (.seq (.region [
  ⟨none,.store 1 (.t 2) (.c (.int .i64 4)),none,false⟩])
  (.ret))
  (.skip)))
theorem goodTo_all {h:Hist'} (hg:goodTo h h.ts.length 0):(opsOf h).all (opB h)=true:=by
 rw [List.all_eq_true]
 intro o ho
 obtain ⟨t,ht,hot⟩:=List.mem_flatMap.1 ho
 obtain ⟨i,hi,rfl⟩:=List.getElem_of_mem ht
 obtain ⟨k,hk,rfl⟩:=List.getElem_of_mem hot
 exact hg i hi k hk (Or.inl hi)
theorem wpC_gen {E:Env} {Yf:YF} {c:C} {st:St} {Q:Ex→St→Prop} (h:∀ s',s'=st→wpC E Yf c s' Q):wpC E Yf c st Q:=h st rfl
theorem away {l k:Nat} (ob:Nat→Option Obj') (h:k≠l):(if Nat.beq l k then none else ob k)=ob k:=by
 cases hb:Nat.beq l k with
 | false=>rfl
 | true=>exact absurd (Nat.eq_of_beq_eq_true hb).symm h
theorem range70 (h:Hist') (hn:h.ts.length≤1000) (hm:∀ t∈h.ts,t.ops.length≤1000000) {st:St} {lh uh:Nat} (U:Nat) (hU:st.nx=U) (hU0:64≤U) (h15:st.tm 15 = .fn (.func 215) [] [.ptr lh uh 0]) (hl:∃ m,lh=2 * m+1∧m<U)
 (h1:st.tm 1 = .ptr 2 0 0) (h2:st.tm 2 = .ptr 4 64 0) (hro:st.ro=0) (hfb:st.fb=0) (o2:st.ob 2=some ⟨0,.cells (histC h)⟩) (o4:st.ob 4=some ⟨64,.cells [.int .i64 0]⟩) (oh:st.ob lh=some ⟨uh,.cells (histC h)⟩) {Q:Ex→St→Prop}
 (hQ:∀ (e:Ex) (ob:Nat→Option Obj') (tk:Nat→Bool) (ub:Nat) (c:Int),ob 2=some ⟨0,.cells (histC h)⟩→ob 4=some ⟨64,.cells [.int .i64 c]⟩→ob (2 * U+3)=some ⟨U+1,.dfr⟩→U+64≤ub →
  ((opsOf h).all (opB h)=true∧e = .nrm∧c=0∨(opsOf h).all (opB h)=false∧e = .ret∧c=4)→Q e { st with ob:=ob,tk:=tk,nx:=ub,df:=(2 * U+3,U+1)::st.df }) :
 wpC E noYF (.rangeFunc (.t 15) [16,17] AS70 BD70) st Q:=by
 obtain ⟨m,rfl,hmU⟩:=hl
 subst hU
 refine wpC_rangeFunc (g:=215) (first:=[]) (captured:=[.ptr (2 * m+1) uh 0]) (by simpa using h15) ?_
 have:=run146 (Yf:=roundF E noYF AS70 BD70 st [16,17] (2 * st.nx+1) st.nx) h hn hm (l:=2 * st.nx+1) (u:=st.nx) (lh:=2 * m+1) (uh:=uh)
  (ob0:=upd (upd st.ob (2 * st.nx+3) (some ⟨st.nx+1,.dfr⟩)) (2 * st.nx+1) (some ⟨st.nx,.loop .ready none⟩)) (tk0:=st.tk) (ro:=st.ro) (base:=(st.fb+1023) * 1024) (ub0:=st.nx+64)
  (by have e1:¬ 2 * m+1=2 * st.nx+1:=by omega
      have e2:¬ 2 * m+1=2 * st.nx+3:=by omega
      simp only [upd_apply,e1,e2,if_false,oh]) (by omega)
  (fun i k ob tk ub=>goodTo h i k∧ob (2 * st.nx+1)=some ⟨st.nx,.loop .ready none⟩∧ob (2 * st.nx+3)=some ⟨st.nx+1,.dfr⟩∧ob 2=some ⟨0,.cells (histC h)⟩∧ob 4=some ⟨64,.cells [.int .i64 0]⟩∧st.nx+64≤ub)
  (fun r=>∃ s pend,r.2.1 (2 * st.nx+1)=some ⟨st.nx,.loop s pend⟩∧s≠.busy∧st.ro≤st.nx∧Q (pend.getD .nrm) { st with ob:=fun k=>if Nat.beq (2 * st.nx+1) k then none else r.2.1 k,tk:=r.2.2.1,nx:=r.2.2.2,df:=(2 * st.nx+3,st.nx+1)::st.df })
  ?_ ?_ ?_ ?_ ?_
 ·obtain ⟨r,hr,hP⟩:=this
  exact ⟨r,hr,hP⟩
 ·-- what J says stands behind what is new
  rintro i k ob ob' tk ub ub' ⟨g1,g2,g3,g4,g5,g6⟩ hub hfr
  have f:∀ key,(∀ m,ub≤m→key≠2 * m+1)→ob' key=ob key:=hfr
  exact ⟨g1,by rw [f _ (fun m hm=>by omega)];exact g2,by rw [f _ (fun m hm=>by omega)];exact g3,by rw [f _ (fun m hm=>by omega)];exact g4,by rw [f _ (fun m hm=>by omega)];exact g5,by omega⟩
 ·rintro i hi ob tk ub ⟨g1,g⟩
  refine ⟨fun i' hi' k' hk' hlt=>?_,g⟩
  rcases hlt with h' | ⟨_,h'⟩
  ·rcases Nat.lt_succ_iff_lt_or_eq.1 h' with h'' | rfl
   ·exact g1 i' hi' k' hk' (Or.inl h'')
   ·exact g1 i' hi' k' hk' (Or.inr ⟨rfl,hk'⟩)
  ·omega
 ·rintro i hi k hk ob tk ub ⟨g1,g2,g3,g4,g5,g6⟩ hru
  refine EvY_round (asg:=AS70) (bd:=BD70) (xs:=[.agg [.int .i64 i,.int .i64 k],.agg (opC (h.ts[i]).ops[k])]) rfl (by omega) g2 (by decide) (by decide) ?_
  simp [AS70,setPs,objCells,hfb,opC,hro]
  refine ⟨by rw [if_neg (by omega),if_neg (by omega)];exact g2,wpC_gen fun s' hs'=>?_⟩
  have f1:s'.tm 1 = .ptr 2 0 0:=by rw [hs'];simp [upd_apply,h1]
  have f2:s'.tm 2 = .ptr 4 64 0:=by rw [hs'];simp [upd_apply,h2]
  have f4:s'.tm 4 = .ptr 8 ub 0:=by rw [hs'];simp
  have n2:¬ 2=2 * st.nx+1:=by omega
  have n4:¬ 4=2 * st.nx+1:=by omega
  have n8:¬ 8=2 * st.nx+1:=by omega
  have n3:¬ 2 * st.nx+3=2 * st.nx+1:=by omega
  have n38:¬ 2 * st.nx+3=8:=by omega
  have p2:s'.ob 2=some ⟨0,.cells (histC h)⟩:=by rw [hs'];simp only [upd_apply,n2,if_false,app_ob1];simp [g4]
  have p4:s'.ob 4=some ⟨64,.cells [.int .i64 0]⟩:=by rw [hs'];simp only [upd_apply,n4,if_false,app_ob1];simp [g5]
  have p8:s'.ob 8=some ⟨ub,.cells (opC (h.ts[i]).ops[k])⟩:=by rw [hs'];simp only [upd_apply,n8,if_false,app_ob1];simp [opC]
  have p3:s'.ob (2 * st.nx+3)=some ⟨st.nx+1,.dfr⟩:=by rw [hs'];simp only [upd_apply,n3,n38,if_false,app_ob1];exact g3
  have p1:s'.ob (2 * st.nx+1)=some ⟨st.nx,.loop .busy none⟩:=by rw [hs'];simp
  have fr:s'.ro=0:=by rw [hs']
  have fn:ub≤s'.nx:=by rw [hs'];simp;omega
  clear hs'
  simp [BD70,f1,f4,p2,p8,objCells,opC,histC]
  refine kS_call (vs:=[.agg (histC h),.agg (opC (h.ts[i]).ops[k])]) (by simp [histC,opC]) rfl (by simp [histC,opC]) (by simpa [histC,opC] using ev157 h (h.ts[i]).ops[k]) ?_
  have m1:¬ 2 * st.nx+1=4:=by omega
  have m3:¬ 2 * st.nx+3=4:=by omega
  cases hb:opB h (h.ts[i]).ops[k]
  ·simp [f2,p4,objCells,fr,m1,p1,roundAns,splice]
   intro ob' ub' hle hfr
   have fk:∀ key,(∀ m,s'.nx+64+64+64+64+64≤m→key≠2 * m+1)→ob' key=_:=hfr
   have hall:(opsOf h).all (opB h)=false:=by
    rw [List.all_eq_false]
    exact ⟨_,List.mem_flatMap.2 ⟨_,List.getElem_mem hi,List.getElem_mem hk⟩,by rw [hb];decide⟩
   have n1':∀ {k:Nat},k≠2 * st.nx+1→(if 2 * st.nx+1=k then none else ob' k)=ob' k:=fun hk=>if_neg fun e=>hk e.symm
   refine ⟨.done,some .ret,?_,by simp,?_⟩
   ·rw [fk _ (fun m hm=>by omega)]
    simp
   ·have:=hQ .ret (fun k=>if 2 * st.nx+1=k then none else ob' k) s'.tk ub' 4 (by rw [n1' n2,fk _ (fun m hm=>by omega)];simp only [upd_apply,n2,if_false,app_ob1];simp [p2]) (by rw [n1' n4,fk _ (fun m hm=>by omega)];simp only [upd_apply,n4,if_false,app_ob1];simp)
     (by rw [n1' n3,fk _ (fun m hm=>by omega)];simp only [upd_apply,n3,m3,if_false,app_ob1];exact p3) (by omega) (Or.inr ⟨hall,rfl,rfl⟩)
    rw [hro,hfb] at this
    exact this
  ·simp [p1,roundAns]
   refine ⟨fun i' hi' k' hk' hlt=>?_,?_,?_,?_,by omega⟩
   ·rcases hlt with h' | ⟨rfl,h'⟩
    ·exact g1 i' hi' k' hk' (Or.inl h')
    ·rcases Nat.lt_succ_iff_lt_or_eq.1 h' with h'' | rfl
     ·exact g1 _ hi' k' hk' (Or.inr ⟨rfl,h''⟩)
     ·exact hb
   ·rw [upd_apply,if_neg n3];exact p3
   ·rw [upd_apply,if_neg n2];exact p2
   ·rw [upd_apply,if_neg n4];exact p4
 ·rintro ob tk ub ⟨g1,g2,g3,g4,g5,g6⟩
  refine ⟨.ready,none,g2,by simp,by omega,?_⟩
  exact hQ .nrm _ _ _ 0 ((away ob (by omega)).trans g4) ((away ob (by omega)).trans g5) ((away ob (by omega)).trans g3) g6 (Or.inl ⟨goodTo_all g1,rfl,rfl⟩)
 ·refine ⟨fun i' hi' k' hk' hlt=>by omega,?_,?_,?_,?_,by omega⟩
  ·simp
  ·simp [upd_apply]
  ·have e1:¬ 2=2 * st.nx+1:=by omega
   have e2:¬ 2=2 * st.nx+3:=by omega
   simp only [upd_apply,e1,e2,if_false,o2]
  ·have e1:¬ 4=2 * st.nx+1:=by omega
   have e2:¬ 4=2 * st.nx+3:=by omega
   simp only [upd_apply,e1,e2,if_false,o4]
def rc (l:List Op'):Nat:=(l.filter fun o=>!o.w).length
def rcT (l:List Txn'):Nat:=rc (l.flatMap (·.ops))
section
variable {E:Env} {Yf:YF} {st:St} {ub:Nat} {K:St→Nat→Prop} {d:Option Nat} {nm:Bool}
theorem kS_append_tok {sz bytes u n:Nat} {nl:Bool} {cs ys:List V} {s x:A} (hs:eval E st.tm s = .sl (some (u,sz)) nl n cs) (htk:st.tk u=true) (hx:slCells st.ob sz (eval E st.tm x)=some ys) (hne:ys≠[]) (hlen:cs.length=n * sz) (h0:0<sz)
 (hp:ys.all V.pureLeaf=true) (hb:(n+ys.length / sz) * bytes≤140737488355328) (hb2:n+ys.length / sz≤140737488355328) (h:kApp K st d ub { v:=.sl (some (ub,sz)) false (n+ys.length / sz) (cs++ys),del:=some u,add:=[ub] }) :
 wpStep E Yf ⟨d,.append false sz bytes s x,none,nm⟩ st ub K:=by
 rw [wpStep_of _ rfl rfl]
 simp only [aop,hs,hx,Option.bind_some,if_neg hne,Bool.false_and,Bool.false_eq_true,if_false]
 rw [if_pos ⟨hlen,h0,hp,hb,hb2⟩,if_pos (by simp [htk]),wpD_some]
 exact h
theorem kS_append_nil {sz bytes:Nat} {ys:List V} {s x:A} (hs:eval E st.tm s = .sl none true 0 []) (hx:slCells st.ob sz (eval E st.tm x)=some ys) (hne:ys≠[]) (h0:0<sz)
 (hp:ys.all V.pureLeaf=true) (hb:(0+ys.length / sz) * bytes≤140737488355328) (hb2:0+ys.length / sz≤140737488355328) (h:kApp K st d ub { v:=.sl (some (ub,sz)) false (0+ys.length / sz) ([]++ys),add:=[ub] }) :
 wpStep E Yf ⟨d,.append false sz bytes s x,none,nm⟩ st ub K:=by
 rw [wpStep_of _ rfl rfl]
 simp only [aop,hs,hx,Option.bind_some,if_neg hne,Bool.false_and,Bool.false_eq_true,if_false]
 rw [if_pos ⟨by simp,h0,hp,hb,hb2⟩,if_pos trivial,wpD_some]
 exact h
theorem kS_buildSl {sz n:Nat} {zero:List V} {parts:List (Nat × Nat × A)} {cs:List V} (hf:fill zero (evalParts (eval E st.tm) parts)=some cs) (hl:cs.length=n * sz) (hp:(cs.map V.strip1).all V.pureLeaf=true)
 (h:kApp K st d ub { v:=.sl (some (ub,sz)) false n (cs.map V.strip1),add:=[ub] }):wpStep E Yf ⟨d,.buildSl false sz zero parts n,none,nm⟩ st ub K:=by
 rw [wpStep_of _ rfl rfl]
 simp only [aop,hf,Option.bind_some,Bool.false_eq_true,if_false]
 rw [if_pos ⟨hl,hp⟩,wpD_some]
 exact h
end
theorem fld_at {α:Type} {f:α→List V} {k:Nat} (hf:∀ a,(f a).length=k) (l:List α) {i o:Nat} (h:i<l.length) (ho:o<k):(l.flatMap f)[i * k+o]? = (f l[i])[o]?:=by
 have:=flatMap_at hf l i h
 rw [← this,List.getElem?_take,if_pos ho,List.getElem?_drop]
def numsTo (p:Txn'→Bool) (l:List Txn'):Nat→List Int
 | 0=>[]
 | i+1=>numsTo p l i++(match l[i]? with | some t=>if p t then [(i:Int)] else [] | none=>[])
theorem numsTo_len (p:Txn'→Bool) (l:List Txn'):∀ i,(numsTo p l i).length≤i
 | 0=>by simp [numsTo]
 | i+1=>by
  have:=numsTo_len p l i
  simp only [numsTo,List.length_append]
  split
  ·split <;> simp <;> omega
  ·simp;omega
def intC (n:Int):List V:=[.int .i64 n]
theorem numsTo_succ {p:Txn'→Bool} {l:List Txn'} {i:Nat} (h:i<l.length):numsTo p l (i+1)=numsTo p l i++(if p l[i] then [(i:Int)] else []):=by
 simp [numsTo,List.getElem?_eq_getElem h]
@[simp] theorem intC_len (n:Int):(intC n).length=1:=rfl
def isInfo (t:Txn'):Bool:=t.f == 3
def infosH (h:Hist'):List Int:=numsTo isInfo h.ts h.ts.length
def digitB (r:Int):Bool:=decide (48≤r) && decide (r≤57)
theorem ev267 (r:Int):Ev E 267 [.int .i32 r] (.bool (digitB r)):=by
 refine Ev_wpK (af:=F267) rfl ?_
 unfold digitB
 by_cases h:48≤r
 ·simp [F267,h]
  exact endV_1 rfl (by simp) rfl
 ·simp [F267,h]
  exact endV_1 rfl (by simp) rfl
theorem ev320 (r:Int):Ev E 320 [.int .i32 r] (.bool false):=by
 refine Ev_wpK (af:=F320) rfl ?_
 simp [F320]
 exact endV_1 rfl (by simp) rfl
def cmpI (a b:Int):Int:=if a<b then -1 else if b<a then 1 else 0
theorem ev304 (a b:Int):Ev E 304 [.int .i32 a,.int .i32 b] (.int .i64 (cmpI a b)):=by
 refine Ev_wpK (af:=F304) rfl ?_
 simp [F304]
 refine kS_call (vs:=[.int .i32 a]) (by simp) rfl rfl (ev320 a) ?_
 simp
 refine kS_call (vs:=[.int .i32 b]) (by simp) rfl rfl (ev320 b) ?_
 unfold cmpI
 by_cases h:a<b
 ·simp [h]
  exact endV_1 rfl (by simp) rfl
 ·by_cases h2:b<a
  ·simp [h,h2]
   exact endV_1 rfl (by simp) rfl
  ·simp [h,h2]
   exact endV_1 rfl (by simp) rfl
def runeC (r:Int):List V:=[.int .i32 r]
@[simp] theorem runeC_len (n:Int):(runeC n).length=1:=rfl
def cmpL:List Int→List Int→Int
 | [],[]=>0
 | [],_::_=>-1
 | _::_,[]=>1
 | a::x,b::y=>if cmpI a b=0 then cmpL x y else cmpI a b
theorem rune_at (l:List Int) {i:Nat} (h:i<l.length):(l.flatMap runeC)[i]? = some (.int .i32 l[i]):=by
 have:=fld_at (f:=runeC) runeC_len l h (by decide:0<1)
 rw [Nat.mul_one,Nat.add_zero] at this
 rw [this]
 rfl
theorem ev293 (nx ny:Bool) (x y:List Int) (hx:x.length≤140737488355328):Ev E 293 [slOf nx runeC x,slOf ny runeC y] (.int .i64 (cmpL x y)):=by
 refine Ev_wpK (af:=F293) rfl ?_
 simp [F293]
 refine wp_loopK (n:=x.length) (fun k s=>∃ i,k=x.length - i∧i≤x.length∧i≤y.length∧s.df=[]∧s.tm 0=slOf nx runeC x∧s.tm 1=slOf ny runeC y∧s.tm 9=slOf nx runeC x∧s.tm 10 = .int .i64 x.length∧s.tm 11 = .int .i64 i∧cmpL (x.drop i) (y.drop i)=cmpL x y)
  ⟨0,by simp⟩ ?_
 rintro k s ⟨i,rfl,hi,hiy,hd,h0,h1,h9,h10,h11,hc⟩
 by_cases hlt:i<x.length
 ·rw [List.drop_eq_getElem_cons hlt] at hc
  by_cases hly:i<y.length
  ·rw [List.drop_eq_getElem_cons hly,cmpL] at hc
   have hny:¬ (y.length:Int)≤i:=by omega
   simp [h1,h9,h10,h11,hlt,hny,hly,idx_slOf runeC_len,rune_at x hlt,rune_at y hly]
   refine kS_call (vs:=[.int .i32 x[i],.int .i32 y[i]]) (by simp) rfl rfl (ev304 x[i] y[i]) ?_
   by_cases hz:cmpI x[i] y[i]=0
   ·rw [if_pos hz] at hc
    simp [hz,h0,h1,h9,h10,h11,hd]
    exact ⟨x.length - (i+1),by omega,i+1,rfl,by omega,by omega,by rw [wrap64' (by omega) (by omega)];simp,hc⟩
   ·rw [if_neg hz] at hc
    have hz':(cmpI x[i] y[i] != 0)=true:=by simpa using hz
    simp [hz']
    exact endV_1 (by simpa using hd) (by simp [hc]) rfl
  ·have hny:(y.length:Int)≤i:=by omega
   have e:y.drop i=[]:=List.drop_of_length_le (by omega)
   rw [e,cmpL] at hc
   simp [h1,h9,h10,h11,hlt,hny,idx_slOf runeC_len,rune_at x hlt]
   exact endV_1 (by simpa using hd) (by simp [hc]) rfl
 ·have:i=x.length:=by omega
  subst this
  rw [List.drop_length] at hc
  by_cases hly:x.length<y.length
  ·rw [List.drop_eq_getElem_cons hly,cmpL] at hc
   simp [h0,h1,h10,h11,hly]
   exact endV_1 (by simpa using hd) (by simp [hc]) rfl
  ·have e:y.drop x.length=[]:=List.drop_of_length_le (by omega)
   rw [e,cmpL] at hc
   simp [h0,h1,h10,h11,hly]
   exact endV_1 (by simpa using hd) (by simp [hc]) rfl
def runesI (s:List UInt8):List Int:=(runesL s s.length 0).map fun r=>((r:Nat):Int)
theorem kS_runes {E:Env} {Yf:YF} {st:St} {ub:Nat} {K:St→Nat→Prop} {d:Option Nat} {nm:Bool} {x:A} {s:List UInt8} (hs:eval E st.tm x = .str s) (hb:(runesI s).length≤70368744177664)
 (h:kApp K st d ub { v:=.sl (some (ub,1)) false (runesI s).length ((runesI s).flatMap runeC),add:=[ub] }):wpStep E Yf ⟨d,.runesOfStr x,none,nm⟩ st ub K:=by
 have e:(runesL s s.length 0).map (fun r=>V.int .i32 (r:Nat))=(runesI s).flatMap runeC:=by
  rw [runesI,List.flatMap_map]
  generalize runesL s s.length 0=l
  induction l with
  | nil=>rfl
  | cons r l ih=>simp only [List.map_cons,List.flatMap_cons,ih,runeC];rfl
 have el:(runesI s).length=(runesL s s.length 0).length:=by simp [runesI]
 rw [wpStep_of _ rfl rfl]
 simp only [aop,hs]
 rw [← el,if_pos hb,wpD_some,e]
 exact h
theorem ev280 (a b:List UInt8) (ha:(runesI a).length≤1000000) (hb:(runesI b).length≤1000000):Ev E 280 [.str a,.str b] (.int .i64 (cmpL (runesI a) (runesI b))):=by
 refine Ev_wpK (af:=F280) rfl ?_
 simp [F280]
 refine kS_runes (s:=a) (by simp) (by omega) ?_
 simp
 refine kS_runes (s:=b) (by simp) (by omega) ?_
 simp
 refine kS_call (vs:=[.sl (some (128,1)) false (runesI a).length ((runesI a).flatMap runeC),.sl (some (256,1)) false (runesI b).length ((runesI b).flatMap runeC)]) (by simp) rfl rfl (ev293 false false _ _ (by omega)) ?_
 simp
 exact endV_1 rfl (by simp) rfl
theorem ev251 (a b:List UInt8) (ha:(runesI a).length≤1000000) (hb:(runesI b).length≤1000000):Ev E 251 [.str a,.str b] (.bool (decide (cmpL (runesI a) (runesI b)<0))):=by
 refine Ev_wpK (af:=F251) rfl ?_
 simp [F251]
 refine kS_call (vs:=[.str a,.str b]) (by simp) rfl rfl (ev280 a b ha hb) ?_
 simp
 exact endV_1 rfl (by simp) rfl
def resB (s:List UInt8):Bool:=s == [98,101,103,105,110] || s == [114,101,97,100] || s == [119,114,105,116,101] || s == [111,107] || s == [102,97,105,108] || s == [105,110,102,111] || s == [110,105,108]
theorem ev264 (s:List UInt8):Ev E 264 [.str s] (.bool (resB s)):=by
 refine Ev_wpK (af:=F264) rfl ?_
 unfold resB
 generalize h1:(s == [98,101,103,105,110])=b1
 generalize h2:(s == [114,101,97,100])=b2
 generalize h3:(s == [119,114,105,116,101])=b3
 generalize h4:(s == [111,107])=b4
 generalize h5:(s == [102,97,105,108])=b5
 generalize h6:(s == [105,110,102,111])=b6
 generalize h7:(s == [110,105,108])=b7
 cases b1
 ·cases b2
  ·cases b3
   ·cases b4
    ·cases b5
     ·cases b6
      ·cases b7
       all_goals (simp [F264,h1,h2,h3,h4,h5,h6,h7];exact endV_1 rfl (by simp) rfl)
      ·simp [F264,h1,h2,h3,h4,h5,h6];exact endV_1 rfl (by simp) rfl
     ·simp [F264,h1,h2,h3,h4,h5];exact endV_1 rfl (by simp) rfl
    ·simp [F264,h1,h2,h3,h4];exact endV_1 rfl (by simp) rfl
   ·simp [F264,h1,h2,h3];exact endV_1 rfl (by simp) rfl
  ·simp [F264,h1,h2];exact endV_1 rfl (by simp) rfl
 ·simp [F264,h1];exact endV_1 rfl (by simp) rfl
def partB (r:Int):Bool:=decide (127<r) || (r == 95) || digitB r || (decide (97≤r) && decide (r≤122)) || (decide (65≤r) && decide (r≤90))
theorem ev266 (r:Int):Ev E 266 [.int .i32 r] (.bool (partB r)):=by
 refine Ev_wpK (af:=F266) rfl ?_
 unfold partB
 by_cases h1:127<r
 ·simp [F266,h1]
  exact endV_1 rfl (by simp) rfl
 cases h2:(r == 95)
 ·simp [F266,h1,h2]
  refine kS_call (vs:=[.int .i32 r]) (by simp) rfl rfl (ev267 r) ?_
  cases h3:digitB r
  ·by_cases h4:97≤r
   ·by_cases h5:r≤122
    ·simp [h4,h5]
     exact endV_1 rfl (by simp) rfl
    ·have h6:65≤r:=by omega
     have h7:¬ r≤90:=by omega
     simp [h4,h5,h6,h7]
     exact endV_1 rfl (by simp) rfl
   ·by_cases h6:65≤r
    ·simp [h4,h6]
     exact endV_1 rfl (by simp) rfl
    ·simp [h4,h6]
     exact endV_1 rfl (by simp) rfl
  ·simp
   exact endV_1 rfl (by simp) rfl
 ·simp [F266,h1,h2]
  exact endV_1 rfl (by simp) rfl
end Go.Pv.T
namespace Go.Pv
open Go
def AOp.plainOp:AOp→Bool
 | .call .. | .callV .. | .entry _ | .nextMap _=>false
 | _=>true
def AOp.valOp:AOp→Bool
 | .mov _ | .pick .. | .bin .. | .eq .. | .un .. | .build .. | .load .. | .nilCheck _ | .fieldAddr .. | .idxSl .. | .idxArr .. | .part .. | .idxStr .. | .idxVal .. | .slStr .. | .slSl .. | .lenStr _ | .lenSl _ | .lenMap _ | .extract .. | .mkFn .. | .lookup .. | .iface .. | .assert .. | .conv .. | .minmax ..=>true
 | _=>false
def kDr (E:Env) (r:List AOpr) (K:List FP→St→Prop):St→Nat→Prop:=fun st ub=>wpDraw E r st ub K
def kFp (f:FP) (K:List FP→St→Prop):List FP→St→Prop:=fun fs s=>K (f::fs) s
def kDQ (free:List (Nat × Nat)) (Q:Ex→St→Prop):List FP→St→Prop:=fun fs s=>drawOk free fs=true∧newOk fs=true∧Q .nrm s
def kDGd (E:Env) (o:AOpr) (r:List AOpr) (st:St) (ub:Nat) (K:List FP→St→Prop):Bool→Prop
 | true=>wpDraw E (o::r) st ub K
 | false=>wpDraw E r (st.setT o.dst none') (ub+64) (kFp {} K)
def kDApp (E:Env) (r:List AOpr) (K:List FP→St→Prop) (ρ:A→V) (op:AOp) (st:St) (d:Option Nat) (ub:Nat):Delta→Prop:=fun δ=>wpDraw E r (st.app d δ) (ub+64) (kFp (fpOf ρ op δ) K)
theorem val_delta {call:FuncId→List V→Option V} {ρ:A→V} {ob:Nat→Option Obj'} {tk:Nat→Bool} {ro du ub:Nat} {op:AOp} {δ:Delta} (h:op.valOp=true) (ha:aop call ρ ob tk ro du ub op=some δ):∃ v,δ = { v:=v }:=by
 have key:∀ {o:Option V},o.bind one=some δ→∃ v,δ = { v:=v }:=fun {o} hb=>by
  cases o with
  | none=>cases hb
  | some v=>cases hb;exact ⟨v,rfl⟩
 cases op <;> first | (cases h;done) | skip
 all_goals simp only [aop] at ha
 all_goals first
  | exact key ha
  | exact key (o:=some _) ha
  | (repeat' split at ha) <;> first | (cases ha;done) | exact key ha | exact key (o:=some _) ha | skip
 all_goals (try simp only [Option.bind_eq_some_iff] at ha)
 all_goals first
  | (obtain ⟨_,_,hb⟩:=ha;exact key (o:=some _) hb)
  | skip
 all_goals
  obtain ⟨_,_,x,_,hb⟩:=ha
  first | exact key (o:=some _) hb | (rcases x with _ | ⟨_,_⟩ <;> exact key (o:=some _) hb)
def kPin (E:Env) (fs:List AOpr) (st:St) (Q:Ex→St→Prop):St→Nat→Prop:=fun s ub=>wpDraw E fs s ub fun _ s'=>sameF fs st s'=true∧Q .nrm s'
def kPQ (fs:List AOpr) (st:St) (Q:Ex→St→Prop):List FP→St→Prop:=fun _ s'=>sameF fs st s'=true∧Q .nrm s'
section
variable {E:Env} {Yf:YF} {st:St} {ub:Nat} {K:List FP→St→Prop} {d:Option Nat} {nm:Bool} {Q:Ex→St→Prop} {r:List AOpr}
theorem kC_pin {o:AOpr} {fs:List AOpr}:wpC E Yf (.pin o fs) st Q=wpStep E Yf o st st.nx (kPin E fs st Q):=propext Iff.rfl
theorem kPin_app {fs:List AOpr} {s:St}:kPin E fs st Q s ub=wpDraw E fs s ub (kPQ fs st Q):=propext Iff.rfl
theorem kPQ_app {fs:List AOpr} {f:List FP} {s:St}:kPQ fs st Q f s=(sameF fs st s=true∧Q .nrm s):=propext Iff.rfl
theorem sameF_nil {s s':St}:sameF [] s s'=true:=by simp [sameF]
theorem sameF_cons {op:AOp} {gd:Option (Nat × Bool)} {t:Nat} {fs:List AOpr} {s s':St}:sameF (⟨some t,op,gd,nm⟩::fs) s s'=(V.eqb (s.tm t) (s'.tm t) && sameF fs s s'):=by simp [sameF]
theorem eqb_same (v:V):V.eqb v v=true:=eqb_refl v
theorem kDr_app:kDr E r K st ub=wpDraw E r st ub K:=propext Iff.rfl
theorem kFp_app {f:FP} {fs:List FP}:kFp f K fs st=K (f::fs) st:=propext Iff.rfl
theorem kDQ_app {free:List (Nat × Nat)} {fs:List FP}:kDQ free Q fs st=(drawOk free fs=true∧newOk fs=true∧Q .nrm st):=propext Iff.rfl
theorem kC_draw {ops:List AOpr} {free:List (Nat × Nat)}:wpC E Yf (.draw ops free) st Q=wpDraw E ops st st.nx (kDQ free Q):=propext Iff.rfl
theorem kDr_nil:wpDraw E [] st ub K=K [] (st.setN ub):=propext Iff.rfl
theorem kDGd_true {o:AOpr}:kDGd E o r st ub K true=wpDraw E (o::r) st ub K:=propext Iff.rfl
theorem kDGd_false {o:AOpr}:kDGd E o r st ub K false=wpDraw E r (st.setT o.dst none') (ub+64) (kFp {} K):=propext Iff.rfl
theorem kDr_guard {op:AOp} {t:Nat} {b:Bool}:wpDraw E (⟨d,op,some (t,b),nm⟩::r) st ub K=gdK (st.tm t) b (kDGd E ⟨d,op,none,nm⟩ r st ub K):=by
 have hn:AOpr.name ⟨d,op,some (t,b),nm⟩=AOpr.name ⟨d,op,none,nm⟩:=rfl
 have ht:∀ c,st.tm t = .bool c→(wpDraw E (⟨d,op,some (t,b),nm⟩::r) st ub K=kDGd E ⟨d,op,none,nm⟩ r st ub K (c == b)):=fun c hc=>by
  cases hcb:(c == b)
  ·have:wanted ⟨d,op,some (t,b),nm⟩ st.tm=some false:=by simp [wanted,hc,hcb]
   rw [wpDraw,this,kDGd_false,← app_v];rfl
  ·have:wanted ⟨d,op,some (t,b),nm⟩ st.tm=some true:=by simp [wanted,hc,hcb]
   rw [wpDraw,this,kDGd_true,wpDraw];rfl
 cases h:st.tm t with
 | bool c=>rw [ht c h];rfl
 | tup l=>cases l with
  | nil =>
   have:wanted ⟨d,op,some (t,b),nm⟩ st.tm=some false:=by simp [wanted,h]
   rw [wpDraw,this]
   show _=kDGd E ⟨d,op,none,nm⟩ r st ub K false
   rw [kDGd_false,← app_v];rfl
  | cons a l =>
   have:wanted ⟨d,op,some (t,b),nm⟩ st.tm=none:=by simp [wanted,h]
   rw [wpDraw,this];rfl
 | _ =>
  have:wanted ⟨d,op,some (t,b),nm⟩ st.tm=none:=by simp [wanted,h]
  rw [wpDraw,this];rfl
theorem wpDraw_of {op:AOp} (h:op.plainOp=true):wpDraw E (⟨d,op,none,nm⟩::r) st ub K=wpD (aop (fun _ _=>none) (eval E st.tm) st.ob st.tk st.ro (AOpr.name ⟨d,op,none,nm⟩ st.fb ub) ub op) (kDApp E r K (eval E st.tm) op st d ub):=by
 cases op <;> first | cases h;done | (simp only [wpDraw,wanted,sharedCall,AOp.far,true_and];rfl)
theorem kD_val {op:AOp} (h:op.valOp=true):wpDraw E (⟨d,op,none,nm⟩::r) st ub K=wpStep E Yf ⟨d,op,none,nm⟩ st ub (kDr E r (kFp { ro:=rdOb (eval E st.tm) op,rt:=rdTk (eval E st.tm) op } K)):=by
 have h1:op.plainOp=true:=by cases op <;> first | rfl | cases h
 have h2:op.isCall=false:=by cases op <;> first | rfl | cases h
 have h3:op.isNext=false:=by cases op <;> first | rfl | cases h
 rw [wpDraw_of h1,wpStep_of _ h2 h3]
 refine propext ⟨?_,?_⟩
 ·rintro ⟨δ,hδ,hk⟩
  obtain ⟨v,rfl⟩:=val_delta h hδ
  exact ⟨_,hδ,hk⟩
 ·rintro ⟨δ,hδ,hk⟩
  obtain ⟨v,rfl⟩:=val_delta h hδ
  exact ⟨_,hδ,hk⟩
theorem kD_store {sz:Nat} {p x:A}:wpDraw E (⟨d,.store sz p x,none,nm⟩::r) st ub K=wpStore st sz (eval E st.tm x) (kDApp E r K (eval E st.tm) (.store sz p x) st d ub) (eval E st.tm p):=by
 rw [wpDraw_of rfl]
 simp only [aop]
 generalize he:kDApp E r K (eval E st.tm) (.store sz p x) st d ub=k
 clear he
 generalize eval E st.tm p=vp
 cases vp <;> simp only [wpD_none,wpStore]
 rename_i l u off
 cases objCells st.ob l u with
 | none=>simp [wpD]
 | some cs=>simp only [Option.bind_some,wpD_ite,wpD_some,Option.some.injEq,exists_eq_left',Nat.ble_eq,and_assoc]
theorem kD_alloc {z:List V}:wpDraw E (⟨d,.alloc z,none,nm⟩::r) st ub K=kDApp E r K (eval E st.tm) (.alloc z) st d ub { v:=.ptr (objName d nm st.fb ub) ub 0,obs:=[(objName d nm st.fb ub,⟨ub,.cells z⟩)] }:=by
 rw [wpDraw_of rfl];simp only [aop,mkObj,wpD_some,name_eq]
theorem kD_box {sz:Nat} {x:A}:wpDraw E (⟨d,.box sz x,none,nm⟩::r) st ub K=(((eval E st.tm x).cells.length=sz∧(eval E st.tm x).cells.all V.leaf=true)∧kDApp E r K (eval E st.tm) (.box sz x) st d ub { v:=.ptr (objName d nm st.fb ub) ub 0,obs:=[(objName d nm st.fb ub,⟨ub,.cells (eval E st.tm x).cells⟩)] }):=by
 rw [wpDraw_of rfl];simp only [aop,mkObj,wpD_ite,wpD_some,name_eq]
theorem kDApp_v {ρ:A→V} {op:AOp} {v:V}:kDApp E r K ρ op st d ub { v:=v } = wpDraw E r (st.setT d v) (ub+64) (kFp (fpOf ρ op { v:=v }) K):=by rw [kDApp,app_v]
theorem kDApp_app {ρ:A→V} {op:AOp} {δ:Delta}:kDApp E r K ρ op st d ub δ=wpDraw E r (st.app d δ) (ub+64) (kFp (fpOf ρ op δ) K):=propext Iff.rfl
theorem kD_ev {f:FuncId} {xs:List A} {args:List V} {v:V} (hev:Ev E f args v) (hx:(xs.map fun x=>(eval E st.tm x).strip)=args) (hs:E.sh nm f=false) (hp:args.all V.pureTop=true) (h:wpD (retA ub v) (kDApp E r K (eval E st.tm) (.call f xs) st d ub)) :
 wpDraw E (⟨d,.call f xs,none,nm⟩::r) st ub K:=by
 have hp':(xs.all fun x=>(eval E st.tm x).strip.pureTop)=true:=by rw [← hx,List.all_map] at hp;exact hp
 have hsh:sharedCall E nm (eval E st.tm) (.call f xs)=none:=by simp only [sharedCall,hs,hp',Bool.not_false,Bool.and_self,if_true]
 obtain ⟨δ,hδ,hk⟩:=h
 simp only [wpDraw,wanted,hsh,AOp.far,true_and]
 exact ⟨hp',v,hx ▸ hev,δ,hδ,hk⟩
theorem kS_ev {K:St→Nat→Prop} {f:FuncId} {xs:List A} {args:List V} {v:V} (hev:Ev E f args v) (hx:(xs.map fun x=>(eval E st.tm x).strip)=args) (hs:E.sh nm f=false) (hp:args.all V.pureTop=true) (h:wpD (retA ub v) (kApp K st d ub)) :
 wpStep E Yf ⟨d,.call f xs,none,nm⟩ st ub K:=by
 have hp':(xs.all fun x=>(eval E st.tm x).strip.pureTop)=true:=by rw [← hx,List.all_map] at hp;exact hp
 have hsh:sharedCall E nm (eval E st.tm) (.call f xs)=none:=by simp only [sharedCall,hs,hp',Bool.not_false,Bool.and_self,if_true]
 obtain ⟨δ,hδ,hk⟩:=h
 simp only [wpStep,wanted,yieldCall,hsh,wpCall]
 exact ⟨by rw [hx];exact hp,v,hx ▸ hev,δ,hδ,hk⟩
end
/-! What a loop leaves alone. -/
def inR (t:Nat):List (Nat × Nat)→Bool
 | []=>false
 | (a,b)::l=>(decide (a≤t) && decide (t≤b)) || inR t l
@[simp] theorem inR_nil (t:Nat):inR t []=false:=rfl
@[simp] theorem inR_cons (t a b:Nat) (l:List (Nat × Nat)):inR t ((a,b)::l)=((decide (a≤t) && decide (t≤b)) || inR t l):=rfl
def C.ws:C→List Nat
 | .region ops | .draw ops _=>ops.filterMap (·.dst)
 | .pin o fs=>(o::fs).filterMap (·.dst)
 | .seq a b | .cond _ a b=>a.ws++b.ws
 | .block _ a | .loop a=>a.ws
 | _=>[]
def C.noRF:C→Bool
 | .rangeFunc ..=>false
 | .seq a b | .cond _ a b=>a.noRF && b.noRF
 | .block _ a | .loop a=>a.noRF
 | _=>true
structure Keeps (p:Nat→Prop) (st s:St):Prop where
 b:s.fb=st.fb
 r:s.ro=st.ro
 d:s.df=st.df
 t:∀ t,¬ p t→s.tm t=st.tm t
theorem Keeps.rfl' (p:Nat→Prop) (st:St):Keeps p st st:=⟨rfl,rfl,rfl,fun _ _=>rfl⟩
theorem Keeps.trans {p q q':Nat→Prop} {a b c:St} (h:Keeps p a b) (h':Keeps q b c) (hp:∀ t,p t→q' t) (hq:∀ t,q t→q' t):Keeps q' a c :=
 ⟨h'.b.trans h.b,h'.r.trans h.r,h'.d.trans h.d,fun t ht=>(h'.t t fun h=>ht (hq t h)).trans (h.t t fun h=>ht (hp t h))⟩
theorem Keeps.weak {p q:Nat→Prop} {a b:St} (h:Keeps p a b) (hp:∀ t,p t→q t):Keeps q a b:=⟨h.b,h.r,h.d,fun t ht=>h.t t fun h=>ht (hp t h)⟩
theorem put_ne {tm:Nat→V} {d:Option Nat} {v:V} {t:Nat} (h:¬ t∈d.toList):put tm d v t=tm t:=by
 cases d with
 | none=>rfl
 | some d=>exact upd_ne tm v (fun e=>h (by simp [e]))
theorem Keeps.app {st:St} {d:Option Nat} {δ:Delta}:Keeps (·∈d.toList) st (st.app d δ):=⟨rfl,rfl,rfl,fun _ ht=>put_ne ht⟩
section
variable {E:Env} {Yf:YF}
theorem wpStep_keeps {o:AOpr} {st:St} {ub:Nat} {K:St→Nat→Prop} (hk:wpStep E Yf o st ub K):wpStep E Yf o st ub fun s u=>K s u∧Keeps (·∈o.dst.toList) st s:=by
 have call:∀ {f:FuncId} {xs:List V},wpCall E f xs st o.dst ub K→wpCall E f xs st o.dst ub fun s u=>K s u∧Keeps (·∈o.dst.toList) st s:=by
  rintro f xs ⟨hp,v,hv,δ,hδ,hK⟩
  exact ⟨hp,v,hv,δ,hδ,hK,Keeps.app⟩
 unfold wpStep at hk ⊢
 cases hw:wanted o st.tm with
 | none=>simp only [hw] at hk
 | some b =>
  cases b with
  | false=>simp only [hw] at hk ⊢;exact ⟨hk,rfl,rfl,rfl,fun _ ht=>put_ne ht⟩
  | true =>
   simp only [hw] at hk ⊢
   cases hy:yieldCall (eval E st.tm) o.op with
   | some x =>
    obtain ⟨l,u,xs⟩:=x
    simp only [hy] at hk ⊢
    obtain ⟨r,hr,hK⟩:=hk
    exact ⟨r,hr,hK,rfl,rfl,rfl,fun _ ht=>put_ne ht⟩
   | none =>
   simp only [hy] at hk ⊢
   cases hsh:sharedCall E o.nm (eval E st.tm) o.op with
   | some fx =>
    simp only [hsh] at hk ⊢
    rcases hk with ⟨h1,n,l,hr,hne,hK⟩ | ⟨h1,v,hv,δ,hδ,hK⟩
    ·exact .inl ⟨h1,n,l,hr,hne,fun r hm=>⟨hK r hm,rfl,rfl,rfl,fun _ ht=>put_ne ht⟩⟩
    ·exact .inr ⟨h1,v,hv,δ,hδ,hK,Keeps.app⟩
   | none =>
    simp only [hsh] at hk ⊢
    cases ho:o.op <;> simp only [ho] at hk ⊢
    case call f xs=>exact call hk
    case callV q xs =>
     obtain ⟨f,first,captured,hev,hk⟩:=hk
     exact ⟨f,first,captured,hev,call hk⟩
    case nextMap x =>
     obtain ⟨l,hl,hK⟩:=hk
     exact ⟨l,hl,fun δ hδ=>⟨hK δ hδ,Keeps.app⟩⟩
    all_goals
     obtain ⟨δ,hδ,hK⟩:=hk
     exact ⟨δ,hδ,hK,Keeps.app⟩
theorem mem_ws_cons {o:AOpr} {r:List AOpr} {t:Nat}:t∈(o::r).filterMap (·.dst) ↔ t∈o.dst.toList∨t∈r.filterMap (·.dst):=by
 cases h:o.dst with
 | none=>simp [h]
 | some d=>simp [h]
theorem wpOps_keeps:∀ {ops:List AOpr} {st:St} {ub:Nat} {K:St→Prop},wpOps' E Yf ops st ub K→wpOps' E Yf ops st ub fun s=>K s∧Keeps (·∈ops.filterMap (·.dst)) st s
 | [],st,ub,K,hk=>⟨hk,rfl,rfl,rfl,fun _ _=>rfl⟩
 | o::r,st,ub,K,hk=>by
  refine wpStep_mono (fun s u h=>?_) (wpStep_keeps hk)
  refine wpOps_mono (fun s' h'=>?_) (wpOps_keeps h.1)
  exact ⟨h'.1,h.2.trans h'.2 (fun t ht=>mem_ws_cons.2 (.inl ht)) (fun t ht=>mem_ws_cons.2 (.inr ht))⟩
theorem wpDraw_keeps:∀ {ops:List AOpr} {st:St} {ub:Nat} {K:List FP→St→Prop},wpDraw E ops st ub K→wpDraw E ops st ub fun f s=>K f s∧Keeps (·∈ops.filterMap (·.dst)) st s
 | [],st,ub,K,hk=>⟨hk,rfl,rfl,rfl,fun _ _=>rfl⟩
 | o::r,st,ub,K,hk=>by
  have key:∀ {δ:Delta} {f:List FP→List FP} {ub:Nat},wpDraw E r (st.app o.dst δ) ub (fun fs s=>K (f fs) s)→wpDraw E r (st.app o.dst δ) ub fun fs s=>K (f fs) s∧Keeps (·∈(o::r).filterMap (·.dst)) st s:=fun h =>
   wpDraw_mono (fun f s h'=>⟨h'.1,Keeps.app.trans h'.2 (fun t ht=>mem_ws_cons.2 (.inl ht)) (fun t ht=>mem_ws_cons.2 (.inr ht))⟩) (wpDraw_keeps h)
  unfold wpDraw at hk ⊢
  cases hw:wanted o st.tm with
  | none=>simp only [hw] at hk
  | some b =>
   cases b with
   | false=>simp only [hw] at hk ⊢;exact key (f:=fun fs=>{}::fs) hk
   | true =>
    simp only [hw] at hk ⊢
    cases hsh:sharedCall E o.nm (eval E st.tm) o.op with
    | some fx =>
     simp only [hsh] at hk ⊢
     rcases hk with ⟨h1,v,hv,δ,hδ,hK⟩ | ⟨h1,h2,a',v,ha,hv,δ,hδ,hK⟩
     ·exact .inl ⟨h1,v,hv,δ,hδ,key (f:=fun fs=>{ wt:=δ.wt,all:=true,seen:=fun l=>(st.ob l).isSome }::fs) hK⟩
     ·exact .inr ⟨h1,h2,a',v,ha,hv,δ,hδ,key (f:=fun fs=>{ wo:=δ.wo,all:=true,seen:=fun l=>(st.ob l).isSome,nw:=true }::fs) hK⟩
    | none =>
     simp only [hsh] at hk ⊢
     refine ⟨hk.1,?_⟩
     have hk:=hk.2
     cases ho:o.op <;> simp only [ho] at hk ⊢
     case call f xs =>
      obtain ⟨h1,v,hv,δ,hδ,hK⟩:=hk
      exact ⟨h1,v,hv,δ,hδ,key (f:=fun fs=>fpOf (eval E st.tm) (.call f xs) δ::fs) hK⟩
     case callV q xs =>
      obtain ⟨f,first,captured,hev,h1,v,hv,δ,hδ,hK⟩:=hk
      exact ⟨f,first,captured,hev,h1,v,hv,δ,hδ,key (f:=fun fs=>fpOf (eval E st.tm) (.callV q xs) δ::fs) hK⟩
     all_goals
      obtain ⟨δ,hδ,hK⟩:=hk
      exact ⟨δ,hδ,key (f:=fun fs=>fpOf (eval E st.tm) _ δ::fs) hK⟩
theorem wpC_keeps:∀ {c:C},c.noRF=true→∀ {st:St} {Q:Ex→St→Prop},wpC E Yf c st Q→wpC E Yf c st fun e s=>Q e s∧Keeps (·∈c.ws) st s:=by
 intro c
 induction c with
 | skip=>intro _ st Q hk;exact ⟨hk,Keeps.rfl' _ _⟩
 | ret=>intro _ st Q hk;exact ⟨hk,Keeps.rfl' _ _⟩
 | exit id=>intro _ st Q hk;exact ⟨hk,Keeps.rfl' _ _⟩
 | stuck=>intro _ st Q hk;exact hk
 | rangeFunc f ps a b=>intro hn;cases hn
 | region ops=>intro _ st Q hk;exact wpOps_keeps hk
 | draw ops free=>intro _ st Q hk;exact wpDraw_mono (fun f s h=>⟨h.1.1,h.1.2.1,h.1.2.2,h.2⟩) (wpDraw_keeps hk)
 | pin o fs=>intro _ st Q hk;exact wpStep_mono (fun s u h=>wpDraw_mono (fun f s' h'=>⟨h'.1.1,h'.1.2,h.2.trans h'.2 (fun t ht=>mem_ws_cons.2 (.inl ht)) (fun t ht=>mem_ws_cons.2 (.inr ht))⟩) (wpDraw_keeps h.1)) (wpStep_keeps hk)
 | seq a b iha ihb =>
  intro hn st Q hk
  have hn:=Bool.and_eq_true_iff.1 hn
  rw [kC_seq]
  refine wpC_mono (fun e s he=>?_) (iha hn.1 hk)
  obtain ⟨he,hf⟩:=he
  cases e
  ·refine wpC_mono (fun e s' he'=>?_) (ihb hn.2 he)
   exact ⟨he'.1,hf.trans he'.2 (fun t ht=>List.mem_append.2 (.inl ht)) (fun t ht=>List.mem_append.2 (.inr ht))⟩
  ·exact ⟨he,hf.weak (fun t ht=>List.mem_append.2 (.inl ht))⟩
  ·exact ⟨he,hf.weak (fun t ht=>List.mem_append.2 (.inl ht))⟩
 | cond q a b iha ihb =>
  intro hn st Q hk
  have hn:=Bool.and_eq_true_iff.1 hn
  obtain ⟨t,ht,h1,h2⟩:=hk
  exact ⟨t,ht,fun e=>wpC_mono (fun e s he=>⟨he.1,he.2.weak (fun t ht=>List.mem_append.2 (.inl ht))⟩) (iha hn.1 (h1 e)),
   fun e=>wpC_mono (fun e s he=>⟨he.1,he.2.weak (fun t ht=>List.mem_append.2 (.inr ht))⟩) (ihb hn.2 (h2 e))⟩
 | block id a ih =>
  intro hn st Q hk
  rw [kC_block]
  refine wpC_mono (fun e s he=>?_) (ih hn hk)
  obtain ⟨he,hf⟩:=he
  cases e
  ·exact ⟨he,hf⟩
  ·simp only [kBlk_exit] at he ⊢
   split at he
   ·rename_i hi;simp only [hi,if_true];exact ⟨he,hf⟩
   ·rename_i hi;simp only [hi,if_false];exact ⟨he,hf⟩
  ·exact ⟨he,hf⟩
 | loop a ih =>
  intro hn st Q hk
  obtain ⟨N,hk⟩:=hk
  refine ⟨N,?_⟩
  have key:∀ (N:Nat) (st:St),wpLoop (wpC E Yf a) N st Q→wpLoop (wpC E Yf a) N st fun e s=>Q e s∧Keeps (·∈a.ws) st s:=by
   intro N
   induction N with
   | zero=>intro st h;exact h
   | succ N ihN =>
    intro st h
    refine wpC_mono (fun e s he=>?_) (ih hn h)
    obtain ⟨he,hf⟩:=he
    cases e
    ·exact wpLoop_mono (W:=wpC E Yf a) (fun _ _ _ h hk=>wpC_mono h hk) (fun e s' he'=>⟨he'.1,hf.trans he'.2 (fun _ h=>h) (fun _ h=>h)⟩) (ihN s he)
    ·exact ⟨he,hf⟩
    ·exact ⟨he,hf⟩
  exact key N st hk
theorem wp_loopF {a:C} {Q:Ex→St→Prop} {n:Nat} {st:St} (ws:List (Nat × Nat)) (I:Nat→St→Prop) (hn:a.noRF=true) (hw:(a.ws.all fun t=>inR t ws)=true) (h0:I n st)
 (hs:∀ k s,I k s→Keeps (fun t=>inR t ws=true) st s→wpC E Yf a s (kLoop I k Q)):wpC E Yf (.loop a) st Q:=by
 refine wp_loopK (fun k s=>I k s∧Keeps (fun t=>inR t ws=true) st s) (n:=n) ⟨h0,Keeps.rfl' _ _⟩ fun k s ⟨hI,hf⟩=>?_
 refine wpC_mono (fun e s' he=>?_) (wpC_keeps hn (hs k s hI hf))
 obtain ⟨he,hf'⟩:=he
 cases e
 ·obtain ⟨j,hj,hI'⟩:=he
  exact ⟨j,hj,hI',hf.trans hf' (fun _ h=>h) (fun t ht=>List.all_eq_true.1 hw t ht)⟩
 ·exact he
 ·exact he
def kUp (I:Nat→St→Prop) (N i:Nat) (Q:Ex→St→Prop):Ex→St→Prop:=fun e s=>match e with
 | .nrm=>i<N∧I (i+1) s
 | e=>Q e s
theorem wp_loopUp {a:C} {Q:Ex→St→Prop} {st:St} (ws:List (Nat × Nat)) (N:Nat) (I:Nat→St→Prop) (hn:a.noRF=true) (hw:(a.ws.all fun t=>inR t ws)=true) (h0:I 0 st)
 (hs:∀ i s,i≤N→I i s→Keeps (fun t=>inR t ws=true) st s→wpC E Yf a s (kUp I N i Q)):wpC E Yf (.loop a) st Q:=by
 refine wp_loopF (n:=N) ws (fun k s=>∃ i,k=N - i∧i≤N∧I i s) hn hw ⟨0,rfl,Nat.zero_le _,h0⟩ ?_
 rintro k s ⟨i,rfl,hi,hI⟩ hf
 refine wpC_mono (fun e s' he=>?_) (hs i s hi hI hf)
 cases e
 ·obtain ⟨h1,h2⟩:=he
  exact ⟨N - (i+1),by omega,i+1,rfl,by omega,h2⟩
 ·exact he
 ·exact he
end
theorem kUp_nrm {I:Nat→St→Prop} {N i:Nat} {Q:Ex→St→Prop} {st:St}:kUp I N i Q .nrm st=(i<N∧I (i+1) st):=propext Iff.rfl
theorem kUp_exit {I:Nat→St→Prop} {N i j:Nat} {Q:Ex→St→Prop} {st:St}:kUp I N i Q (.exit j) st=Q (.exit j) st:=propext Iff.rfl
theorem kUp_ret {I:Nat→St→Prop} {N i:Nat} {Q:Ex→St→Prop} {st:St}:kUp I N i Q .ret st=Q .ret st:=propext Iff.rfl
theorem noNew_nil:noNew []=true:=rfl
theorem noNew_cons (f:FP) (fs:List FP):noNew (f::fs)=(!f.nw && noNew fs):=rfl
theorem fpOf_nw (ρ:A→V) (o:AOp) (δ:Delta):(fpOf ρ o δ).nw=false:=rfl
theorem newOk_noNew {fs:List FP} (h:noNew fs=true):newOk fs=true:=by simp only [newOk,h,Bool.true_or]
theorem drawOk_nil (fs:List FP):drawOk [] fs=true:=rfl
section
variable {E:Env} {st:St} {ub:Nat} {K:List FP→St→Prop} {d:Option Nat} {nm:Bool} {r:List AOpr}
theorem kD_mov {x:A}:wpDraw E (⟨d,.mov x,none,nm⟩::r) st ub K=wpStep E noYF ⟨d,.mov x,none,nm⟩ st ub (kDr E r (kFp { ro:=rdOb (eval E st.tm) (.mov x),rt:=rdTk (eval E st.tm) (.mov x) } K)):=kD_val rfl
theorem kD_pick {c a b:A}:wpDraw E (⟨d,.pick c a b,none,nm⟩::r) st ub K=wpStep E noYF ⟨d,.pick c a b,none,nm⟩ st ub (kDr E r (kFp { ro:=rdOb (eval E st.tm) (.pick c a b),rt:=rdTk (eval E st.tm) (.pick c a b) } K)):=kD_val rfl
theorem kD_bin {op:BinOp} {x y:A}:wpDraw E (⟨d,.bin op x y,none,nm⟩::r) st ub K=wpStep E noYF ⟨d,.bin op x y,none,nm⟩ st ub (kDr E r (kFp { ro:=rdOb (eval E st.tm) (.bin op x y),rt:=rdTk (eval E st.tm) (.bin op x y) } K)):=kD_val rfl
theorem kD_eq {neg:Bool} {k:EqK} {x y:A}:wpDraw E (⟨d,.eq neg k x y,none,nm⟩::r) st ub K=wpStep E noYF ⟨d,.eq neg k x y,none,nm⟩ st ub (kDr E r (kFp { ro:=rdOb (eval E st.tm) (.eq neg k x y),rt:=rdTk (eval E st.tm) (.eq neg k x y) } K)):=kD_val rfl
theorem kD_un {op:UnOp} {x:A}:wpDraw E (⟨d,.un op x,none,nm⟩::r) st ub K=wpStep E noYF ⟨d,.un op x,none,nm⟩ st ub (kDr E r (kFp { ro:=rdOb (eval E st.tm) (.un op x),rt:=rdTk (eval E st.tm) (.un op x) } K)):=kD_val rfl
theorem kD_build {z:List V} {ps:List (Nat × Nat × A)}:wpDraw E (⟨d,.build z ps,none,nm⟩::r) st ub K=wpStep E noYF ⟨d,.build z ps,none,nm⟩ st ub (kDr E r (kFp { ro:=rdOb (eval E st.tm) (.build z ps),rt:=rdTk (eval E st.tm) (.build z ps) } K)):=kD_val rfl
theorem kD_load {g:Option Nat} {x:A}:wpDraw E (⟨d,.load g x,none,nm⟩::r) st ub K=wpStep E noYF ⟨d,.load g x,none,nm⟩ st ub (kDr E r (kFp { ro:=rdOb (eval E st.tm) (.load g x),rt:=rdTk (eval E st.tm) (.load g x) } K)):=kD_val rfl
theorem kD_nilCheck {x:A}:wpDraw E (⟨d,.nilCheck x,none,nm⟩::r) st ub K=wpStep E noYF ⟨d,.nilCheck x,none,nm⟩ st ub (kDr E r (kFp { ro:=rdOb (eval E st.tm) (.nilCheck x),rt:=rdTk (eval E st.tm) (.nilCheck x) } K)):=kD_val rfl
theorem kD_fieldAddr {o:Nat} {x:A}:wpDraw E (⟨d,.fieldAddr o x,none,nm⟩::r) st ub K=wpStep E noYF ⟨d,.fieldAddr o x,none,nm⟩ st ub (kDr E r (kFp { ro:=rdOb (eval E st.tm) (.fieldAddr o x),rt:=rdTk (eval E st.tm) (.fieldAddr o x) } K)):=kD_val rfl
theorem kD_idxSl {sz:Nat} {x i:A}:wpDraw E (⟨d,.idxSl sz x i,none,nm⟩::r) st ub K=wpStep E noYF ⟨d,.idxSl sz x i,none,nm⟩ st ub (kDr E r (kFp { ro:=rdOb (eval E st.tm) (.idxSl sz x i),rt:=rdTk (eval E st.tm) (.idxSl sz x i) } K)):=kD_val rfl
theorem kD_idxArr {len sz:Nat} {x i:A}:wpDraw E (⟨d,.idxArr len sz x i,none,nm⟩::r) st ub K=wpStep E noYF ⟨d,.idxArr len sz x i,none,nm⟩ st ub (kDr E r (kFp { ro:=rdOb (eval E st.tm) (.idxArr len sz x i),rt:=rdTk (eval E st.tm) (.idxArr len sz x i) } K)):=kD_val rfl
theorem kD_part {g:Option Nat} {o:Nat} {x:A}:wpDraw E (⟨d,.part g o x,none,nm⟩::r) st ub K=wpStep E noYF ⟨d,.part g o x,none,nm⟩ st ub (kDr E r (kFp { ro:=rdOb (eval E st.tm) (.part g o x),rt:=rdTk (eval E st.tm) (.part g o x) } K)):=kD_val rfl
theorem kD_idxStr {x i:A}:wpDraw E (⟨d,.idxStr x i,none,nm⟩::r) st ub K=wpStep E noYF ⟨d,.idxStr x i,none,nm⟩ st ub (kDr E r (kFp { ro:=rdOb (eval E st.tm) (.idxStr x i),rt:=rdTk (eval E st.tm) (.idxStr x i) } K)):=kD_val rfl
theorem kD_slStr {x:A} {lo hi:Option A}:wpDraw E (⟨d,.slStr x lo hi,none,nm⟩::r) st ub K=wpStep E noYF ⟨d,.slStr x lo hi,none,nm⟩ st ub (kDr E r (kFp { ro:=rdOb (eval E st.tm) (.slStr x lo hi),rt:=rdTk (eval E st.tm) (.slStr x lo hi) } K)):=kD_val rfl
theorem kD_slSl {sz:Nat} {x:A} {lo hi:Option A}:wpDraw E (⟨d,.slSl sz x lo hi,none,nm⟩::r) st ub K=wpStep E noYF ⟨d,.slSl sz x lo hi,none,nm⟩ st ub (kDr E r (kFp { ro:=rdOb (eval E st.tm) (.slSl sz x lo hi),rt:=rdTk (eval E st.tm) (.slSl sz x lo hi) } K)):=kD_val rfl
theorem kD_lenStr {x:A}:wpDraw E (⟨d,.lenStr x,none,nm⟩::r) st ub K=wpStep E noYF ⟨d,.lenStr x,none,nm⟩ st ub (kDr E r (kFp { ro:=rdOb (eval E st.tm) (.lenStr x),rt:=rdTk (eval E st.tm) (.lenStr x) } K)):=kD_val rfl
theorem kD_lenSl {x:A}:wpDraw E (⟨d,.lenSl x,none,nm⟩::r) st ub K=wpStep E noYF ⟨d,.lenSl x,none,nm⟩ st ub (kDr E r (kFp { ro:=rdOb (eval E st.tm) (.lenSl x),rt:=rdTk (eval E st.tm) (.lenSl x) } K)):=kD_val rfl
theorem kD_lenMap {x:A}:wpDraw E (⟨d,.lenMap x,none,nm⟩::r) st ub K=wpStep E noYF ⟨d,.lenMap x,none,nm⟩ st ub (kDr E r (kFp { ro:=rdOb (eval E st.tm) (.lenMap x),rt:=rdTk (eval E st.tm) (.lenMap x) } K)):=kD_val rfl
theorem kD_extract {x:A} {i:Nat}:wpDraw E (⟨d,.extract x i,none,nm⟩::r) st ub K=wpStep E noYF ⟨d,.extract x i,none,nm⟩ st ub (kDr E r (kFp { ro:=rdOb (eval E st.tm) (.extract x i),rt:=rdTk (eval E st.tm) (.extract x i) } K)):=kD_val rfl
theorem kD_mkFn {f:Fn} {a b:List A}:wpDraw E (⟨d,.mkFn f a b,none,nm⟩::r) st ub K=wpStep E noYF ⟨d,.mkFn f a b,none,nm⟩ st ub (kDr E r (kFp { ro:=rdOb (eval E st.tm) (.mkFn f a b),rt:=rdTk (eval E st.tm) (.mkFn f a b) } K)):=kD_val rfl
theorem kD_lookup {q:LK} {z:V} {ok:Bool} {m k:A}:wpDraw E (⟨d,.lookup q z ok m k,none,nm⟩::r) st ub K=wpStep E noYF ⟨d,.lookup q z ok m k,none,nm⟩ st ub (kDr E r (kFp { ro:=rdOb (eval E st.tm) (.lookup q z ok m k),rt:=rdTk (eval E st.tm) (.lookup q z ok m k) } K)):=kD_val rfl
theorem kD_conv {k:IntKind} {x:A}:wpDraw E (⟨d,.conv k x,none,nm⟩::r) st ub K=wpStep E noYF ⟨d,.conv k x,none,nm⟩ st ub (kDr E r (kFp { ro:=rdOb (eval E st.tm) (.conv k x),rt:=rdTk (eval E st.tm) (.conv k x) } K)):=kD_val rfl
theorem kD_minmax {b:Bool} {xs:List A}:wpDraw E (⟨d,.minmax b xs,none,nm⟩::r) st ub K=wpStep E noYF ⟨d,.minmax b xs,none,nm⟩ st ub (kDr E r (kFp { ro:=rdOb (eval E st.tm) (.minmax b xs),rt:=rdTk (eval E st.tm) (.minmax b xs) } K)):=kD_val rfl
end
attribute [simp ↓] kC_pin kPin_app kPQ_app kC_draw kDr_nil kDr_guard kD_store kD_alloc kD_box kD_mov kD_pick kD_bin kD_eq kD_un kD_build kD_load kD_nilCheck kD_fieldAddr kD_idxSl kD_idxArr kD_part kD_idxStr kD_slStr kD_slSl kD_lenStr kD_lenSl kD_lenMap kD_extract kD_mkFn kD_lookup kD_conv kD_minmax
attribute [simp ↓] kDr_app kFp_app kDQ_app kDGd_true kDGd_false kDApp_v kDApp_app kUp_nrm kUp_exit kUp_ret
attribute [simp] sameF_nil sameF_cons eqb_same drawOk_nil noNew_nil noNew_cons fpOf_nw newOk_noNew
def kL (E:Env) (Yf:YF) (a:C) (n:Nat) (Q:Ex→St→Prop):Ex→St→Prop:=fun e s=>match e with
 | .nrm=>wpLoop (wpC E Yf a) n s Q
 | e=>Q e s
section
variable {E:Env} {Yf:YF} {a:C} {Q:Ex→St→Prop} {s:St} {n:Nat}
theorem kL_nrm:kL E Yf a n Q .nrm s=wpLoop (wpC E Yf a) n s Q:=propext Iff.rfl
theorem kL_exit {i:Nat}:kL E Yf a n Q (.exit i) s=Q (.exit i) s:=propext Iff.rfl
theorem kL_ret:kL E Yf a n Q .ret s=Q .ret s:=propext Iff.rfl
theorem wpLoop_1:wpLoop (wpC E Yf a) 1 s Q=wpC E Yf a s (kL E Yf a 0 Q):=propext Iff.rfl
theorem wpLoop_2:wpLoop (wpC E Yf a) 2 s Q=wpC E Yf a s (kL E Yf a 1 Q):=propext Iff.rfl
theorem wpLoop_3:wpLoop (wpC E Yf a) 3 s Q=wpC E Yf a s (kL E Yf a 2 Q):=propext Iff.rfl
theorem wpLoop_4:wpLoop (wpC E Yf a) 4 s Q=wpC E Yf a s (kL E Yf a 3 Q):=propext Iff.rfl
end
def wpStr (k:List UInt8→Prop):V→Prop
 | .str s=>k s
 | _=>False
@[simp] theorem wpStr_str (k:List UInt8→Prop) (s:List UInt8):wpStr k (.str s)=k s:=rfl
def MP {α:Type} (f:α→V) (m:List (Int × α)):List (V × V):=m.map fun p=>(.int .i64 p.1,f p.2)
def mfind {α:Type}:List (Int × α)→Int→Option (Nat × α)
 | [],_=>none
 | (k',a)::m,k=>if k=k' then some (0,a) else (mfind m k).map fun p=>(p.1+1,p.2)
def mset {α:Type} (m:List (Int × α)) (k:Int) (a:α):List (Int × α):=match mfind m k with
 | some (i,_)=>m.set i (k,a)
 | none=>m++[(k,a)]
theorem findKey_MP {α:Type} (f:α→V) (k:Int):∀ m:List (Int × α),findKey .int (.int .i64 k) (MP f m)=some ((mfind m k).map fun p=>(p.1,f p.2))
 | []=>rfl
 | (k',a)::m=>by
  have ih:=findKey_MP f k m
  unfold MP at ih ⊢
  simp only [List.map_cons,findKey,eqLeaf,if_true,mfind]
  by_cases h:k=k'
  ·simp [h]
  ·rw [if_neg h,show (k == k')=false by simpa using h]
   simp only [ih,Option.map_some,Option.map_map]
   rfl
@[simp] theorem MP_length {α:Type} (f:α→V) (m:List (Int × α)):(MP f m).length=m.length:=by simp [MP]
def intV (n:Int):V:=.int .i64 n
def mcnt (m:List (Int × Int)) (k:Int):Int:=((mfind m k).map (·.2)).getD 0
theorem lookupV_MP {α:Type} {f:α→V} {ob:Nat→Option Obj'} {l u:Nat} {z:V} {ok:Bool} {k:Int} (m:List (Int × α)) (h:objMap ob l u=some (MP f m)) :
 lookupV ob .int z ok (.map l u) (.int .i64 k)=some (match mfind m k with | some p=>if ok then .tup [f p.2,.bool true] else f p.2 | none=>if ok then .tup [z,.bool false] else z):=by
 simp only [lookupV,isKey,if_true,h,Option.bind_some,findKey_MP,Option.map_some]
 cases mfind m k <;> rfl
theorem lookupV_MI {ob:Nat→Option Obj'} {l u:Nat} {k:Int} (m:List (Int × Int)) (h:objMap ob l u=some (MP intV m)):lookupV ob .int (.int .i64 0) false (.map l u) (.int .i64 k)=some (.int .i64 (mcnt m k)):=by
 rw [lookupV_MP m h,mcnt]
 cases mfind m k <;> rfl
section
variable {E:Env} {Yf:YF} {st:St} {ub:Nat} {K:St→Nat→Prop} {d:Option Nat} {nm:Bool}
theorem kS_rangeStr {x:A}:wpStep E Yf ⟨d,.range true x,none,nm⟩ st ub K=wpStr (fun s=>kApp K st d ub { v:=.iter (objName d nm st.fb ub) ub,obs:=[(objName d nm st.fb ub,⟨ub,.siter s 0⟩)] }) (eval E st.tm x):=by
 rw [wpStep_of _ rfl rfl]
 simp only [aop,name_eq]
 cases eval E st.tm x <;> simp only [wpD_none,wpStr,mkObj,wpD_some]
 rfl
theorem kS_nextStr {x:A} {l u pos:Nat} {s:List UInt8} (hx:eval E st.tm x = .iter l u) (ho:st.ob l=some ⟨u,.siter s pos⟩) (hro:st.ro≤u)
 (h1:pos<s.length→kApp K st d ub { v:=.tup [.bool true,.int .i64 pos,.int .i32 ((Utf8.decode ⟨s.toArray⟩ pos).1:Nat)],obs:=[(l,⟨u,.siter s (pos+(Utf8.decode ⟨s.toArray⟩ pos).2)⟩)] })
 (h2:¬ pos<s.length→kSet K st d ub (.tup [.bool false])):wpStep E Yf ⟨d,.nextStr x,none,nm⟩ st ub K:=by
 rw [wpStep_of _ rfl rfl]
 simp only [aop,hx,ho]
 rw [if_pos (by simpa using hro)]
 by_cases h:pos<s.length
 ·rw [if_pos h,wpD_some];exact h1 h
 ·rw [if_neg h,wpD_one,app_v];exact h2 h
theorem kS_mkMap:wpStep E Yf ⟨d,.mkMap,none,nm⟩ st ub K=kApp K st d ub { v:=.map (objName d nm st.fb ub) ub,obs:=[(objName d nm st.fb ub,⟨ub,.mp 0 []⟩)] }:=by
 rw [wpStep_of _ rfl rfl]
 simp only [aop,mkObj,wpD_some,name_eq]
 rfl
theorem kS_mapSet {α:Type} {f:α→V} {x y z:A} {l u ver:Nat} {k:Int} {a:α} (m:List (Int × α)) (hm:eval E st.tm x = .map l u) (hk:eval E st.tm y = .int .i64 k) (hv:(eval E st.tm z).strip=f a)
 (ho:st.ob l=some ⟨u,.mp ver (MP f m)⟩) (hro:st.ro≤u) (h:kApp K st d ub { v:=none',obs:=[(l,⟨u,.mp (ver+1) (MP f (mset m k a))⟩)] }):wpStep E Yf ⟨d,.mapSet .int x y z,none,nm⟩ st ub K:=by
 have hob:objMap st.ob l u=some (MP f m):=by simp [objMap,ho]
 have hver:objVer st.ob l=ver:=by simp [objVer,ho]
 rw [wpStep_of _ rfl rfl]
 simp only [aop,hm,hk,isKey,if_true,hob,Option.bind_some,findKey_MP,hver,hv]
 rw [if_pos (by simpa using hro)]
 unfold mset at h
 cases hf:mfind m k with
 | none =>
  rw [hf] at h
  simp only [Option.map_none,wpD_some]
  simpa [MP] using h
 | some p =>
  rw [hf] at h
  simp only [Option.map_some,wpD_some]
  have e:(MP f m).set p.1 (V.int .i64 k,f a)=MP f (m.set p.1 (k,a)):=by simp [MP,List.map_set]
  rw [e]
  exact h
end
attribute [simp ↓] kL_nrm kL_exit kL_ret wpLoop_1 wpLoop_2 wpLoop_3 wpLoop_4 kS_rangeStr kS_mkMap
@[simp] theorem lenMapV_map (ob:Nat→Option Obj') (l u:Nat):lenMapV ob (.map l u)=(objMap ob l u).map fun es=>.int .i64 es.length:=rfl
def ddAdd (l:List Int) (k:Int):List Int:=if k∈l then l else l++[k]
def dd (l:List Int):List Int:=l.foldl ddAdd []
theorem dd_snoc (l:List Int) (k:Int):dd (l++[k])=ddAdd (dd l) k:=by simp [dd]
theorem mfind_none {α:Type} {m:List (Int × α)} {k:Int}:mfind m k=none ↔ k ∉ m.map (·.1):=by
 induction m with
 | nil=>simp [mfind]
 | cons p m ih =>
  obtain ⟨k',a⟩:=p
  by_cases h:k=k'
  ·simp [mfind,h]
  ·simp [mfind,h,ih]
theorem mfind_some {α:Type} {m:List (Int × α)} {k:Int} {i:Nat} {a:α} (h:mfind m k=some (i,a)):∃ hi:i<m.length,m[i]=(k,a):=by
 induction m generalizing i with
 | nil=>cases h
 | cons p m ih =>
  obtain ⟨k',a'⟩:=p
  by_cases hk:k=k'
  ·simp only [mfind,hk,if_true,Option.some.injEq,Prod.mk.injEq] at h
   obtain ⟨rfl,rfl⟩:=h
   exact ⟨by simp,by simp [hk]⟩
  ·simp only [mfind,hk,if_false,Option.map_eq_some_iff,Prod.mk.injEq] at h
   obtain ⟨⟨j,b⟩,hj,rfl,rfl⟩:=h
   obtain ⟨h1,h2⟩:=ih hj
   exact ⟨by simpa using h1,by simpa using h2⟩
theorem mset_keys {α:Type} (m:List (Int × α)) (k:Int) (a:α):(mset m k a).map (·.1)=ddAdd (m.map (·.1)) k:=by
 unfold mset ddAdd
 cases h:mfind m k with
 | none=>rw [if_neg (mfind_none.1 h)];simp
 | some p =>
  obtain ⟨i,b⟩:=p
  obtain ⟨hi,hb⟩:=mfind_some h
  have hmem:k∈m.map (·.1):=List.mem_map.2 ⟨_,List.getElem_mem hi,by rw [hb]⟩
  rw [if_pos hmem,List.map_set]
  apply List.ext_getElem (by simp)
  intro j h1 h2
  simp only [List.getElem_set,List.getElem_map]
  split
  ·rename_i hij;subst hij;rw [hb]
  ·rfl
theorem mem_ddAdd {l:List Int} {k x:Int}:x∈ddAdd l k ↔ x∈l∨x=k:=by
 unfold ddAdd
 split
 ·constructor
  ·exact .inl
  ·rintro (h | rfl) <;> assumption
 ·simp
end Go.Pv
namespace Go.Pv.T
open Go Go.Pv
def refOne (n b0 b1 b2 b3:Nat):Nat × Nat :=
 if b0<128 then (1,b0)
 else if 194≤b0∧b0≤223 then (if n<2∨b1<128∨191<b1 then (1,65533) else (2,64 * (b0 - 192)+b1 - 128))
 else if 224≤b0∧b0≤239 then (if n<3∨b1<128∨191<b1∨b2<128∨191<b2 then (1,65533) else
  if 64 * (64 * (b0 - 224)+b1 - 128)+b2 - 128<2048∨55296≤64 * (64 * (b0 - 224)+b1 - 128)+b2 - 128∧64 * (64 * (b0 - 224)+b1 - 128)+b2 - 128≤57343 then (1,65533) else (3,64 * (64 * (b0 - 224)+b1 - 128)+b2 - 128))
 else if 240≤b0∧b0≤244 then (if n<4∨b1<128∨191<b1∨b2<128∨191<b2∨b3<128∨191<b3 then (1,65533) else
  if 64 * (64 * (64 * (b0 - 240)+b1 - 128)+b2 - 128)+b3 - 128<65536∨1114111<64 * (64 * (64 * (b0 - 240)+b1 - 128)+b2 - 128)+b3 - 128 then (1,65533) else (4,64 * (64 * (64 * (b0 - 240)+b1 - 128)+b2 - 128)+b3 - 128))
 else (1,65533)
set_option maxHeartbeats 4000000 in
theorem refOne_eq (n b0 b1 b2 b3:Nat) (_:1≤n) (h0:b0<256) (h1:b1<256) (h2:b2<256) (h3:b3<256):refOne n b0 b1 b2 b3=((Lib.decodeN n b0 b1 b2 b3).2,(Lib.decodeN n b0 b1 b2 b3).1):=by
 unfold refOne Lib.decodeN
 repeat' split
 all_goals first | (exfalso;omega) | (apply Prod.ext <;> simp only <;> omega)
theorem idxStr_at {s:List UInt8} {i:Nat} {x:Int} (kk:IntKind) (h:i<s.length) (hx:x=(i:Int)):idxStrV (.str s) (.int kk x)=some (.int .u8 ((s.getD i 0).toNat:Nat)):=by
 subst hx
 simp [idxStrV,List.getElem?_eq_getElem h,List.getD]
@[simp] theorem str_strip (s:List UInt8):(V.str s).strip = .str s:=rfl
@[simp] theorem str_pureTop (s:List UInt8):(V.str s).pureTop=true:=rfl
@[simp] theorem str_pureLeaf (s:List UInt8):(V.str s).pureLeaf=true:=rfl
@[simp] theorem sl_strip (t:Option (Nat × Nat)) (nl:Bool) (n:Nat) (cs:List V):(V.sl t nl n cs).strip = .sl none nl n cs:=rfl
@[simp] theorem sl_strip1 (t:Option (Nat × Nat)) (nl:Bool) (n:Nat) (cs:List V):(V.sl t nl n cs).strip1 = .sl none nl n cs:=rfl
@[simp] theorem sl_pureTop (nl:Bool) (n:Nat) (cs:List V):(V.sl none nl n cs).pureTop=true:=rfl
@[simp] theorem sl_pureLeaf (nl:Bool) (n:Nat) (cs:List V):(V.sl none nl n cs).pureLeaf=true:=rfl
def rU (s:List UInt8) (p:Nat):Nat:=(Utf8.decode ⟨s.toArray⟩ p).1
def rW (s:List UInt8) (p:Nat):Nat:=(Utf8.decode ⟨s.toArray⟩ p).2
theorem one_eq {s:List UInt8} {p:Nat} (h:p<s.length):refOne (s.length - p) (s.getD p 0).toNat (s.getD (p+1) 0).toNat (s.getD (p+2) 0).toNat (s.getD (p+3) 0).toNat=(rW s p,rU s p):=by
 rw [refOne_eq _ _ _ _ _ (by omega) (s.getD p 0).toNat_lt (s.getD (p+1) 0).toNat_lt (s.getD (p+2) 0).toNat_lt (s.getD (p+3) 0).toNat_lt]
 unfold rW rU
 rw [Lib.decode_N]
theorem one_w (n b0 b1 b2 b3:Nat) (hn:1≤n):1≤(refOne n b0 b1 b2 b3).1∧(refOne n b0 b1 b2 b3).1≤n:=by
 unfold refOne
 repeat' split
 all_goals (simp only;omega)
theorem rW_pos {s:List UInt8} {p:Nat} (h:p<s.length):1≤rW s p∧p+rW s p≤s.length:=by
 have:=one_w (s.length - p) (s.getD p 0).toNat (s.getD (p+1) 0).toNat (s.getD (p+2) 0).toNat (s.getD (p+3) 0).toNat (by omega)
 rw [one_eq h] at this
 simp only at this
 omega
def RN (s:List UInt8) (p:Nat):List Int:=(runesL s (s.length - p) p).map fun r=>((r:Nat):Int)
theorem runesI_eq (s:List UInt8):runesI s=RN s 0:=rfl
theorem runesL_fuel (s:List UInt8):∀ (b b' p:Nat),s.length≤p+b→s.length≤p+b'→runesL s b p=runesL s b' p
 | 0,0,_,_,_=>rfl
 | 0,b'+1,p,h,_=>by
  unfold runesL
  rw [if_neg (by omega)]
 | b+1,0,p,_,h=>by
  unfold runesL
  rw [if_neg (by omega)]
 | b+1,b'+1,p,h,h'=>by
  unfold runesL
  by_cases hp:p<s.length
  ·rw [if_pos hp,if_pos hp]
   have:=(rW_pos hp).1
   unfold rW at this
   rw [runesL_fuel s b b' _ (by omega) (by omega)]
  ·rw [if_neg hp,if_neg hp]
theorem RN_step {s:List UInt8} {p:Nat} (h:p<s.length):RN s p=(rU s p:Int)::RN s (p+rW s p):=by
 have hw:=rW_pos h
 unfold RN
 obtain ⟨n,hn⟩:∃ n,s.length - p=n+1:=⟨s.length - p - 1,by omega⟩
 rw [hn]
 conv=>lhs;unfold runesL
 rw [if_pos h,List.map_cons]
 congr 2
 exact runesL_fuel s _ _ _ (by unfold rW at hw;omega) (by unfold rW at hw ⊢;omega)
theorem RN_end {s:List UInt8} {p:Nat} (h:s.length≤p):RN s p=[]:=by
 unfold RN
 rw [show s.length - p=0 by omega]
 rfl
theorem runesL_len (s:List UInt8):∀ (b p:Nat),(runesL s b p).length≤b
 | 0,_=>Nat.le_refl _
 | b+1,p=>by
  unfold runesL
  split
  ·have:=runesL_len s b (p+(Utf8.decode ⟨s.toArray⟩ p).2)
   simp only [List.length_cons]
   omega
  ·simp
theorem runesI_len (s:List UInt8):(runesI s).length≤s.length:=by
 rw [runesI_eq,RN,List.length_map]
 exact runesL_len s _ _
theorem idx_sl {α:Type} {f:α→List V} {k:Nat} (hf:∀ a,(f a).length=k) (t:Option (Nat × Nat)) (nl:Bool) (l:List α) (kk:IntKind) {i:Nat} (h:i<l.length):idxSlV k (.sl t nl l.length (l.flatMap f)) (.int kk i)=some (.eptr (l.flatMap f) (i * k)):=by
 simp only [idxSlV_sl,flatMap_len hf]
 rw [if_pos (by simp;omega)]
 rfl
theorem int_at (l:List Int) {i:Nat} (h:i<l.length):(l.flatMap intC)[i]? = some (.int .i64 l[i]):=by
 have:=fld_at (f:=intC) intC_len l h (by decide:0<1)
 rw [Nat.mul_one,Nat.add_zero] at this
 rw [this]
 rfl
theorem str_at (l:List (List UInt8)) {i:Nat} (h:i<l.length):(l.flatMap strC)[i]? = some (.str l[i]):=by
 have:=fld_at (f:=strC) strC_len l h (by decide:0<1)
 rw [Nat.mul_one,Nat.add_zero] at this
 rw [this]
 rfl
theorem wrapU {i N:Nat} (h:i<N) (hN:N≤1000000000):IntKind.i64.wrap ((i:Int)+1)=(i:Int)+1:=wrap64' (by omega) (by omega)
def headDig:List Int→Bool
 | []=>false
 | c::_=>digitB c
def nmOk (l:List Int):Bool:=decide (1≤l.length) && decide (l.length≤20) && !(headDig l) && l.all partB
def nameB (s:List UInt8):Bool:=!resB s && Lib.validD s && nmOk (runesI s)
def lessB (a b:List UInt8):Bool:=decide (cmpL (runesI a) (runesI b)<0)
def okAt (t:List (List UInt8)) (j:Nat):Bool:=nameB (t.getD j []) && (j == 0 || lessB (t.getD (j - 1) []) (t.getD j []))
def tabB (t:List (List UInt8)):Bool:=(List.range t.length).all (okAt t)
theorem tabB_t {t:List (List UInt8)} (h:∀ j,j<t.length→okAt t j=true):tabB t=true:=List.all_eq_true.2 fun j hj=>h j (List.mem_range.1 hj)
theorem tabB_f {t:List (List UInt8)} {j:Nat} (hj:j<t.length) (h:okAt t j=false):tabB t=false:=List.all_eq_false.2 ⟨j,List.mem_range.2 hj,by rw [h];decide⟩
theorem getD_lt {α:Type} {l:List α} {i:Nat} {d:α} (h:i<l.length):l.getD i d=l[i]:=by simp [List.getD,h]
theorem wrapP {i:Nat} (h:0<i) (hN:i≤1000000000):IntKind.i64.wrap ((i:Int) - 1)=((i - 1:Nat):Int):=by
 rw [wrap64' (by omega) (by omega)];omega
theorem u64_or {a b:Nat} (ha:a<2 ^ 64) (hb:b<2 ^ 64):binV .or (.int .u64 (a:Int)) (.int .u64 (b:Int))=some (.int .u64 ((a ||| b:Nat):Int)):=by
 have h:a ||| b<2 ^ 64:=Nat.or_lt_two_pow ha hb
 simp only [binV,intBin,if_true]
 have e:(BitVec.ofInt IntKind.u64.bits (a:Int) ||| BitVec.ofInt IntKind.u64.bits (b:Int)).toNat=a ||| b:=by
  rw [BitVec.toNat_or,BitVec.ofInt_natCast,BitVec.ofInt_natCast,BitVec.toNat_ofNat,BitVec.toNat_ofNat]
  rw [show IntKind.u64.bits=64 from rfl,Nat.mod_eq_of_lt ha,Nat.mod_eq_of_lt hb]
 rw [e,IntKind.wrap_u64]
 congr 2
 omega
theorem u64_and {a b:Nat} {m:Int} (hm:m=(b:Int)) (ha:a<2 ^ 64) (hb:b<2 ^ 64):binV .and (.int .u64 (a:Int)) (.int .u64 m)=some (.int .u64 ((a &&& b:Nat):Int)):=by
 subst hm
 have h:a &&& b<2 ^ 64:=Nat.and_lt_two_pow _ hb
 simp only [binV,intBin,if_true]
 have e:(BitVec.ofInt IntKind.u64.bits (a:Int) &&& BitVec.ofInt IntKind.u64.bits (b:Int)).toNat=a &&& b:=by
  rw [BitVec.toNat_and,BitVec.ofInt_natCast,BitVec.ofInt_natCast,BitVec.toNat_ofNat,BitVec.toNat_ofNat]
  rw [show IntKind.u64.bits=64 from rfl,Nat.mod_eq_of_lt ha,Nat.mod_eq_of_lt hb]
 rw [e,IntKind.wrap_u64]
 congr 2
 omega
theorem u64_shl {a k:Nat} {m:Int} (hm:m=(k:Int)) (hk:k≤64) (h:a * 2 ^ k<2 ^ 64):binV .shl (.int .u64 (a:Int)) (.int .u64 m)=some (.int .u64 ((a * 2 ^ k:Nat):Int)):=by
 subst hm
 simp only [binV,shiftBin]
 rw [if_neg (by omega)]
 simp only [Int.toNat_natCast,show IntKind.u64.bits=64 from rfl,Nat.min_eq_left hk]
 rw [IntKind.wrap_u64]
 congr 2
 have:((a:Int) * 2 ^ k)=((a * 2 ^ k:Nat):Int):=by simp
 rw [this]
 omega
theorem slStr_from {l:List UInt8} {kk:IntKind} {k:Nat} {x:Int} (hx:x=(k:Int)) (h:k≤l.length):slStrV (some (.int kk x)) none (.str l)=some (.str (l.drop k)):=by
 subst hx
 simp [slStrV,bounds,h]
def wd (l:List UInt8):Nat:=Lib.leNat (l.take 8)
theorem or_add (a b k:Nat) (h:a<2 ^ k):a ||| b * 2 ^ k=a+b * 2 ^ k:=by
 have:=Nat.shiftLeft_add_eq_or_of_lt h b
 rw [Nat.shiftLeft_eq] at this
 rw [Nat.or_comm,← this,Nat.add_comm]
theorem wd_8 (a b c d e f g h:UInt8) (t:List UInt8):wd (a::b::c::d::e::f::g::h::t) =
 a.toNat+b.toNat * 2 ^ 8+c.toNat * 2 ^ 16+d.toNat * 2 ^ 24+e.toNat * 2 ^ 32+f.toNat * 2 ^ 40+g.toNat * 2 ^ 48+h.toNat * 2 ^ 56:=by
 simp only [wd,List.take,Lib.leNat]
 omega
theorem shl_ex (x:UInt8) (k:Nat) {m:Int} (hm:m=(k:Int)) (hk:k≤56):∃ B:Nat,B=x.toNat * 2 ^ k∧binV .shl (.int .u64 (x.toNat:Int)) (.int .u64 m)=some (.int .u64 (B:Int)):=by
 have hx:=x.toNat_lt
 have h1:x.toNat * 2 ^ k<2 ^ 64:=by
  calc x.toNat * 2 ^ k<2 ^ 8 * 2 ^ k:=Nat.mul_lt_mul_of_pos_right hx (Nat.two_pow_pos k)
   _=2 ^ (8+k):=(Nat.pow_add ..).symm
   _≤2 ^ 64:=Nat.pow_le_pow_right (by decide) (by omega)
 exact ⟨_,rfl,u64_shl hm (by omega) h1⟩
theorem or_ex {O B:Nat} (k c:Nat) (h:O<2 ^ k) (hB:B=c * 2 ^ k) (hc:c<2 ^ 8) (hk:k≤56):∃ O':Nat,O'=O+B∧O'<2 ^ (k+8)∧binV .or (.int .u64 (O:Int)) (.int .u64 (B:Int))=some (.int .u64 (O':Int)):=by
 have h2:B+2 ^ k≤2 ^ (k+8):=by
  rw [hB,Nat.pow_add,Nat.mul_comm (2 ^ k),← Nat.succ_mul]
  exact Nat.mul_le_mul_right _ hc
 have h3:2 ^ (k+8)≤2 ^ 64:=Nat.pow_le_pow_right (by decide) (by omega)
 refine ⟨O+B,rfl,by omega,?_⟩
 rw [u64_or (by omega) (by omega),hB,or_add _ _ _ h]
theorem ev289 (l:List UInt8) (hl:8≤l.length):Ev E 289 [.str l] (.int .u64 (wd l)):=by
 match l,hl with
 | a::b::c::d::e::f::g::h::t,_ =>
  rw [wd_8]
  have l0:=a.toNat_lt
  have l1:=b.toNat_lt
  have l2:=c.toNat_lt
  have l3:=d.toNat_lt
  have l4:=e.toNat_lt
  have l5:=f.toNat_lt
  have l6:=g.toNat_lt
  have l7:=h.toNat_lt
  refine Ev_wpK (af:=F289) rfl ?_
  have cv:∀ x:UInt8,convV .u64 (.int .u8 (x.toNat:Int))=some (.int .u64 (x.toNat:Int)):=fun x=>by
   have:=x.toNat_lt
   simp only [convV,IntKind.wrap_u64]
   congr 2
   omega
  have iv:∀ (s:List UInt8) (i:Nat) (x:UInt8) (y:Int),y=(i:Int)→s[i]? = some x→idxStrV (.str s) (.int .i64 y)=some (.int .u8 (x.toNat:Int)):=by
   intro s i x y hy hx
   subst hy
   simp [idxStrV,hx]
  have i0:=iv (a::b::c::d::e::f::g::h::t) 0 a 0 rfl rfl
  have i1:=iv (a::b::c::d::e::f::g::h::t) 1 b 1 rfl rfl
  have i2:=iv (a::b::c::d::e::f::g::h::t) 2 c 2 rfl rfl
  have i3:=iv (a::b::c::d::e::f::g::h::t) 3 d 3 rfl rfl
  have i4:=iv (a::b::c::d::e::f::g::h::t) 4 e 4 rfl rfl
  have i5:=iv (a::b::c::d::e::f::g::h::t) 5 f 5 rfl rfl
  have i6:=iv (a::b::c::d::e::f::g::h::t) 6 g 6 rfl rfl
  have i7:=iv (a::b::c::d::e::f::g::h::t) 7 h 7 rfl rfl
  obtain ⟨B1,hB1,s1⟩:=shl_ex b 8 (m:=8) rfl (by decide)
  obtain ⟨B2,hB2,s2⟩:=shl_ex c 16 (m:=16) rfl (by decide)
  obtain ⟨B3,hB3,s3⟩:=shl_ex d 24 (m:=24) rfl (by decide)
  obtain ⟨B4,hB4,s4⟩:=shl_ex e 32 (m:=32) rfl (by decide)
  obtain ⟨B5,hB5,s5⟩:=shl_ex f 40 (m:=40) rfl (by decide)
  obtain ⟨B6,hB6,s6⟩:=shl_ex g 48 (m:=48) rfl (by decide)
  obtain ⟨B7,hB7,s7⟩:=shl_ex h 56 (m:=56) rfl (by decide)
  obtain ⟨O1,hO1,q1,o1⟩:=or_ex (O:=a.toNat) 8 _ l0 hB1 l1 (by decide)
  obtain ⟨O2,hO2,q2,o2⟩:=or_ex (O:=O1) 16 _ q1 hB2 l2 (by decide)
  obtain ⟨O3,hO3,q3,o3⟩:=or_ex (O:=O2) 24 _ q2 hB3 l3 (by decide)
  obtain ⟨O4,hO4,q4,o4⟩:=or_ex (O:=O3) 32 _ q3 hB4 l4 (by decide)
  obtain ⟨O5,hO5,q5,o5⟩:=or_ex (O:=O4) 40 _ q4 hB5 l5 (by decide)
  obtain ⟨O6,hO6,q6,o6⟩:=or_ex (O:=O5) 48 _ q5 hB6 l6 (by decide)
  obtain ⟨O7,hO7,q7,o7⟩:=or_ex (O:=O6) 56 _ q6 hB7 l7 (by decide)
  have tot:O7=a.toNat+b.toNat * 2 ^ 8+c.toNat * 2 ^ 16+d.toNat * 2 ^ 24+e.toNat * 2 ^ 32+f.toNat * 2 ^ 40+g.toNat * 2 ^ 48+h.toNat * 2 ^ 56:=by omega
  rw [← tot]
  clear tot hB1 hB2 hB3 hB4 hB5 hB6 hB7 hO7 q7 hO6 q6 hO5 q5 hO4 q4 hO3 q3 hO2 q2 hO1 q1
  simp [F289,cv,i0,i1,i2,i3,i4,i5,i6,i7,s1,o1,s2,o2,s3,o3,s4,o4,s5,o5,s6,o6,s7,o7]
  exact endV_1 rfl (by simp) rfl
theorem eval_g1 (tm:Nat→V):eval E tm (.g 2) = .eptr utf8first 0:=rfl
theorem eval_g2 (tm:Nat→V):eval E tm (.g 3) = .eptr accR 0:=rfl
theorem first_at (b:Nat) (h:b<256):utf8first[b]? = some (.int .u8 (Lib.firstT b:Nat)):=by
 unfold utf8first
 rw [List.getElem?_map,List.getElem?_range h]
 rfl
theorem acc_at (y:Nat) (h:y<16):(accR.drop (y * 2)).take 2=[.int .u8 (Lib.accLo y:Nat),.int .u8 (Lib.accHi y:Nat)]:=by
 have:y=0∨y=1∨y=2∨y=3∨y=4∨y=5∨y=6∨y=7∨y=8∨y=9∨y=10∨y=11∨y=12∨y=13∨y=14∨y=15:=by omega
 rcases this with h | h | h | h | h | h | h | h | h | h | h | h | h | h | h | h <;> subst h <;> rfl
theorem and7:∀ x:Fin 256,IntKind.u8.wrap ((BitVec.ofInt IntKind.u8.bits ((x.val:Nat):Int) &&& BitVec.ofInt IntKind.u8.bits 7).toNat:Int)=((x.val % 8:Nat):Int):=by decide +kernel
theorem u8_and7 (x:Nat) (h:x<256):binV .and (.int .u8 (x:Int)) (.int .u8 7)=some (.int .u8 ((x % 8:Nat):Int)):=by
 simp only [binV,intBin,if_true]
 have:=and7 ⟨x,h⟩
 simp only at this
 rw [this]
theorem u8_shr4 (x:Nat) (_:x<256):binV .shr (.int .u8 (x:Int)) (.int .u64 4)=some (.int .u8 ((x / 16:Nat):Int)):=by
 simp only [binV,shiftBin]
 rw [if_neg (by decide)]
 have e:min (Int.toNat 4) IntKind.u8.bits=4:=by decide
 rw [e]
 congr 2
 rw [Int.fdiv_eq_ediv_of_nonneg _ (by decide)]
 omega
theorem first_lt (b:Nat):Lib.firstT b<256:=by
 unfold Lib.firstT
 repeat' split
 all_goals omega
abbrev M8:Nat:=9259542123273814144
theorem wd_lt (l:List UInt8):wd l<2 ^ 64:=by
 have h:=Lib.leNat_lt (l.take 8)
 have h2:(256:Nat) ^ (l.take 8).length≤256 ^ 8:=Nat.pow_le_pow_right (by decide) (by rw [List.length_take];omega)
 have h3:(256:Nat) ^ 8=2 ^ 64:=by decide
 unfold wd
 omega
theorem wd_ascii {l:List UInt8} (h8:8≤l.length) (h:wd l &&& M8=0):Lib.validD l=Lib.validD (l.drop 8):=by
 have e:(l.take 8).length=8:=by rw [List.length_take];omega
 have:=(Lib.leNat_mask (l.take 8)).1 (by rw [e,Lib.maskN8];exact h)
 exact Lib.validD_ascii 8 l this
theorem and_ex (w:Nat) (hw:w<2 ^ 64):∃ q:Nat,q=w &&& M8∧binV .and (.int .u64 (w:Int)) (.int .u64 9259542123273814144)=some (.int .u64 (q:Int)) :=
 ⟨_,rfl,u64_and (b:=M8) rfl hw (by decide)⟩
theorem orw_ex {a b:Nat} (ha:a<2 ^ 64) (hb:b<2 ^ 64):∃ q:Nat,q=a ||| b∧q<2 ^ 64∧binV .or (.int .u64 (a:Int)) (.int .u64 (b:Int))=some (.int .u64 (q:Int)) :=
 ⟨_,rfl,Nat.or_lt_two_pow ha hb,u64_or ha hb⟩
theorem beq0 (q:Nat):((q:Int) == 0)=decide (q=0):=by
 rw [Bool.eq_iff_iff];simp
set_option maxHeartbeats 8000000 in
theorem ev265 (s:List UInt8) (_:s.length≤1000000):Ev E 265 [.str s] (.bool (Lib.validD s)):=by
 refine Ev_wpK (af:=F265) rfl ?_
 simp [F265]
 refine wp_loopF (n:=s.length) [(0,200)] (fun k st=>∃ l,k=l.length∧st.tm 0 = .str l∧Lib.validD s=Lib.validD l∧l.length≤s.length) rfl rfl ⟨s,by simp⟩ ?_
 rintro k st ⟨l,rfl,h0,hv,hl⟩ f
 have fd:st.df=[]:=by rw [f.d];simp
 have fb:st.fb=0:=by rw [f.b];simp
 have fr:st.ro=0:=by rw [f.r];simp
 clear f
 cases hl0:l with
 | nil =>
  subst hl0
  simp [h0]
  exact endV_1 (by simp [fd]) (by simp [hv];rfl) rfl
 | cons b t =>
 rw [← hl0]
 have hlen:l.length=t.length+1:=by rw [hl0];rfl
 have hb256:=b.toNat_lt
 have hget:l.getD 0 0=b:=by rw [hl0];rfl
 have i0:idxStrV (.str l) (.int .i64 0)=some (.int .u8 (b.toNat:Int)):=by
  have:=idxStr_at (s:=l) (i:=0) (x:=0) .i64 (by omega) rfl
  rw [hget] at this
  exact this
 have hpos:0<l.length:=by omega
 by_cases hb:(b.toNat:Int)<128
 ·have hvt:Lib.validD s=Lib.validD t:=by rw [hv,hl0,Lib.validD_cons b t (by omega)]
  have d1:slStrV (some (.int .i64 1)) none (.str l)=some (.str t):=by
   rw [slStr_from (k:=1) (x:=1) rfl (by omega:1≤l.length),hl0];rfl
  by_cases h8:8<(t.length:Int)
  ·obtain ⟨w,hw⟩:∃ w,wd t=w:=⟨_,rfl⟩
   have hwl:w<2 ^ 64:=hw ▸ wd_lt t
   obtain ⟨q,hq,aq⟩:=and_ex w hwl
   simp [h0,hpos,i0,hb,d1,h8]
   refine kS_ev (ev289 t (by omega)) (by simp) rfl rfl ?_
   rw [hw]
   by_cases hq0:q=0
   ·have hv8:Lib.validD s=Lib.validD (t.drop 8):=by rw [hvt,wd_ascii (by omega) (by rw [hw,← hq,hq0])]
    have d8:slStrV (some (.int .i64 8)) none (.str t)=some (.str (t.drop 8)):=slStr_from (k:=8) rfl (by omega)
    have hl8:(t.drop 8).length=t.length - 8:=List.length_drop
    obtain ⟨u,hu⟩:∃ u,t.drop 8=u:=⟨_,rfl⟩
    rw [hu] at hv8 d8 hl8
    simp [aq,hq0,d8]
    by_cases h16:16<(u.length:Int)
    ·have d8u:slStrV (some (.int .i64 8)) none (.str u)=some (.str (u.drop 8)):=slStr_from (k:=8) rfl (by omega)
     have d16:slStrV (some (.int .i64 16)) none (.str u)=some (.str (u.drop 16)):=slStr_from (k:=16) rfl (by omega)
     have hlu:(u.drop 8).length=u.length - 8:=List.length_drop
     obtain ⟨w1,hw1⟩:∃ w,wd u=w:=⟨_,rfl⟩
     obtain ⟨w2,hw2⟩:∃ w,wd (u.drop 8)=w:=⟨_,rfl⟩
     obtain ⟨o,ho,hol,oo⟩:=orw_ex (hw1 ▸ wd_lt u) (hw2 ▸ wd_lt (u.drop 8))
     obtain ⟨q2,hq2,aq2⟩:=and_ex o hol
     have e1:=ev289 u (by omega)
     have e2:=ev289 (u.drop 8) (by omega)
     rw [hw1] at e1
     rw [hw2] at e2
     obtain ⟨u8,hu8⟩:∃ x,u.drop 8=x:=⟨_,rfl⟩
     rw [hu8] at d8u e2 hlu
     simp [h16]
     refine kD_ev e1 (by simp) rfl rfl ?_
     simp [d8u]
     refine kD_ev e2 (by simp) rfl rfl ?_
     by_cases hq20:q2=0
     ·have hb2:=(Lib.or_mask w1 w2 M8).1 (by rw [← ho,← hq2,hq20])
      have hv16:Lib.validD s=Lib.validD (u.drop 16):=by
       rw [hv8,wd_ascii (by omega) (by rw [hw1];exact hb2.1),hu8,wd_ascii (by omega) (by rw [← hu8,hw2];exact hb2.2),← hu8,List.drop_drop]
      have hl16:(u.drop 16).length=u.length - 16:=List.length_drop
      obtain ⟨v,hv'⟩:∃ x,u.drop 16=x:=⟨_,rfl⟩
      rw [hv'] at d16 hv16 hl16
      simp [oo,aq2,hq20,d16]
      refine wp_loopF (n:=v.length) [(0,0),(42,64)] (fun k st=>∃ x,k=x.length∧st.tm 0 = .str x∧Lib.validD s=Lib.validD x∧x.length≤v.length) rfl rfl ⟨v,by simp [hv16]⟩ ?_
      rintro k st' ⟨x,rfl,g0,gv,gl⟩ _
      by_cases h32:32<(x.length:Int)
      ·have d8x:slStrV (some (.int .i64 8)) none (.str x)=some (.str (x.drop 8)):=slStr_from (k:=8) rfl (by omega)
       have d16x:slStrV (some (.int .i64 16)) none (.str x)=some (.str (x.drop 16)):=slStr_from (k:=16) rfl (by omega)
       have d24x:slStrV (some (.int .i64 24)) none (.str x)=some (.str (x.drop 24)):=slStr_from (k:=24) rfl (by omega)
       have d32x:slStrV (some (.int .i64 32)) none (.str x)=some (.str (x.drop 32)):=slStr_from (k:=32) rfl (by omega)
       have hl32:(x.drop 32).length=x.length - 32:=List.length_drop
       obtain ⟨y0,hy0⟩:∃ w,wd x=w:=⟨_,rfl⟩
       obtain ⟨y1,hy1⟩:∃ w,wd (x.drop 8)=w:=⟨_,rfl⟩
       obtain ⟨y2,hy2⟩:∃ w,wd (x.drop 16)=w:=⟨_,rfl⟩
       obtain ⟨y3,hy3⟩:∃ w,wd (x.drop 24)=w:=⟨_,rfl⟩
       obtain ⟨p1,hp1,hp1l,op1⟩:=orw_ex (hy0 ▸ wd_lt x) (hy1 ▸ wd_lt (x.drop 8))
       obtain ⟨p2,hp2,hp2l,op2⟩:=orw_ex (hy2 ▸ wd_lt (x.drop 16)) (hy3 ▸ wd_lt (x.drop 24))
       obtain ⟨p3,hp3,hp3l,op3⟩:=orw_ex hp1l hp2l
       obtain ⟨q3,hq3,aq3⟩:=and_ex p3 hp3l
       have e1:=ev289 x (by omega)
       have e2:=ev289 (x.drop 8) (by rw [List.length_drop];omega)
       have e3:=ev289 (x.drop 16) (by rw [List.length_drop];omega)
       have e4:=ev289 (x.drop 24) (by rw [List.length_drop];omega)
       rw [hy0] at e1
       rw [hy1] at e2
       rw [hy2] at e3
       rw [hy3] at e4
       have hall:q3=0→Lib.validD s=Lib.validD (x.drop 32):=by
        intro hz
        rw [hq3,hp3,Lib.or_mask,hp1,hp2,Lib.or_mask,Lib.or_mask] at hz
        obtain ⟨⟨z0,z1⟩,z2,z3⟩:=hz
        rw [gv,wd_ascii (by omega) (by rw [hy0];exact z0),wd_ascii (by rw [List.length_drop];omega) (by rw [hy1];exact z1),List.drop_drop,
         wd_ascii (by rw [List.length_drop];omega) (by rw [hy2];exact z2),List.drop_drop,wd_ascii (by rw [List.length_drop];omega) (by rw [hy3];exact z3),List.drop_drop]
       clear hy0 hy1 hy2 hy3 hp1 hp2 hp3 hq3
       obtain ⟨x8,hx8⟩:∃ z,x.drop 8=z:=⟨_,rfl⟩
       obtain ⟨x16,hx16⟩:∃ z,x.drop 16=z:=⟨_,rfl⟩
       obtain ⟨x24,hx24⟩:∃ z,x.drop 24=z:=⟨_,rfl⟩
       obtain ⟨x32,hx32⟩:∃ z,x.drop 32=z:=⟨_,rfl⟩
       rw [hx8] at d8x e2
       rw [hx16] at d16x e3
       rw [hx24] at d24x e4
       rw [hx32] at d32x hl32 hall
       simp [g0,h32]
       refine kD_ev e1 (by simp) rfl rfl ?_
       simp [d8x,g0]
       refine kD_ev e2 (by simp) rfl rfl ?_
       simp [d16x,op1,g0]
       refine kD_ev e3 (by simp) rfl rfl ?_
       simp [d24x,g0]
       refine kD_ev e4 (by simp) rfl rfl ?_
       by_cases hq30:q3=0
       ·simp [op2,op3,aq3,hq30,d32x,g0]
        exact ⟨x32.length,by omega,x32,rfl,rfl,hall hq30,by omega⟩
       ·simp [op2,op3,aq3,beq0,hq30,g0]
        exact ⟨x.length,by omega,x,rfl,rfl,gv,by omega⟩
      ·simp [g0,h32]
       exact ⟨x.length,by omega,x,rfl,rfl,gv,by omega⟩
     ·simp [oo,aq2,beq0,hq20]
      exact ⟨u.length,by omega,u,rfl,rfl,hv8,by omega⟩
    ·simp [h16]
     exact ⟨u.length,by omega,u,rfl,rfl,hv8,by omega⟩
   ·simp [aq,beq0,hq0]
    exact ⟨t.length,by omega,t,rfl,rfl,hvt,by omega⟩
  ·simp [h0,hpos,i0,hb,d1,h8]
   exact ⟨t.length,by omega,t,rfl,rfl,hvt,by omega⟩
 ·have hlead:=Lib.validD_lead l (by rw [hl0];simp) (by rw [hget];omega)
  rw [hget] at hlead
  rw [← hv] at hlead
  obtain ⟨x,hx⟩:∃ x,Lib.firstT b.toNat=x:=⟨_,rfl⟩
  have hx256:x<256:=hx ▸ first_lt _
  have ld1:=first_at b.toNat b.toNat_lt
  have ia1:idxArrV 256 1 (.eptr utf8first 0) (.int .u8 (b.toNat:Int))=some (.eptr utf8first b.toNat):=by
   simp only [idxArrV]
   rw [if_pos (by omega)]
   simp
  have a7:=u8_and7 x hx256
  have s4:=u8_shr4 x hx256
  obtain ⟨y,hy⟩:∃ y,x / 16=y:=⟨_,rfl⟩
  obtain ⟨sz,hsz⟩:∃ y,x % 8=y:=⟨_,rfl⟩
  have hy16:y<16:=by omega
  have ia2:idxArrV 16 2 (.eptr accR 0) (.int .u8 (y:Int))=some (.eptr accR (y * 2)):=by
   simp only [idxArrV]
   rw [if_pos (by omega)]
   simp
  have ld2:∀ ob,loadV ob (some 2) (.eptr accR (y * 2))=some (.agg [.int .u8 (Lib.accLo y:Nat),.int .u8 (Lib.accHi y:Nat)]):=fun ob=>by
   rw [loadV_e,pick1_some,acc_at y hy16,if_pos (by show y * 2+2≤32;omega)]
  have cv:convV .i64 (.int .u8 (sz:Int))=some (.int .i64 (sz:Int)):=by simp only [convV];rw [wrap64' (by omega) (by omega)]
  rw [hx] at hlead ld1
  rw [hsz] at a7 hlead
  rw [hy] at s4 hlead
  have i1:1<l.length→_:=fun h=>idxStr_at (s:=l) (i:=1) (x:=1) .i64 h rfl
  have i2:2<l.length→_:=fun h=>idxStr_at (s:=l) (i:=2) (x:=2) .i64 h rfl
  have i3:3<l.length→_:=fun h=>idxStr_at (s:=l) (i:=3) (x:=3) .i64 h rfl
  generalize (l.getD 1 0).toNat=b1 at *
  generalize (l.getD 2 0).toNat=b2 at *
  generalize (l.getD 3 0).toNat=b3 at *
  generalize Lib.accLo y=lo at *
  generalize Lib.accHi y=hi at *
  simp [h0,hpos,i0,hb,eval_g1,ia1,ld1,a7,cv,s4,eval_g2,ia2,ld2,objCells,fb,fr,splice]
  by_cases hs2:sz=2
  ·by_cases c0:(l.length:Int)<2
   ·have hc:Lib.checkN l.length b1 b2 b3 sz lo hi=none:=by unfold Lib.checkN;simp [hs2];omega
    rw [hc] at hlead
    simp [hs2,h0,c0]
    exact endV_1 (by simp [fd]) (by simp [hlead]) rfl
   have i1:=i1 (by omega)
   by_cases c1:(b1:Int)<lo
   ·have hc:Lib.checkN l.length b1 b2 b3 sz lo hi=none:=by unfold Lib.checkN;simp [hs2];omega
    rw [hc] at hlead
    simp [hs2,h0,objCells,c0,i1,c1]
    exact endV_1 (by simp [fd]) (by simp [hlead]) rfl
   by_cases c2:(hi:Int)<b1
   ·have hc:Lib.checkN l.length b1 b2 b3 sz lo hi=none:=by unfold Lib.checkN;simp [hs2];omega
    rw [hc] at hlead
    simp [hs2,h0,objCells,c0,i1,c1,c2]
    exact endV_1 (by simp [fd]) (by simp [hlead]) rfl
   have hc:Lib.checkN l.length b1 b2 b3 sz lo hi=some 2:=by unfold Lib.checkN;simp [hs2];omega
   rw [hc] at hlead
   have dd:slStrV (some (.int .i64 2)) none (.str l)=some (.str (l.drop 2)):=slStr_from (k:=2) rfl (by omega)
   simp [hs2,h0,objCells,c0,i1,c1,c2,dd]
   exact ⟨(l.drop 2).length,by rw [List.length_drop];omega,l.drop 2,by simp,rfl,hlead,by rw [List.length_drop];omega⟩
  by_cases hs3:sz=3
  ·by_cases c0:(l.length:Int)<3
   ·have hc:Lib.checkN l.length b1 b2 b3 sz lo hi=none:=by unfold Lib.checkN;simp [hs3];omega
    rw [hc] at hlead
    simp [hs3,h0,c0]
    exact endV_1 (by simp [fd]) (by simp [hlead]) rfl
   have i1:=i1 (by omega)
   have i2:=i2 (by omega)
   by_cases c1:(b1:Int)<lo
   ·have hc:Lib.checkN l.length b1 b2 b3 sz lo hi=none:=by unfold Lib.checkN;simp [hs3];omega
    rw [hc] at hlead
    simp [hs3,h0,objCells,c0,i1,c1]
    exact endV_1 (by simp [fd]) (by simp [hlead]) rfl
   by_cases c2:(hi:Int)<b1
   ·have hc:Lib.checkN l.length b1 b2 b3 sz lo hi=none:=by unfold Lib.checkN;simp [hs3];omega
    rw [hc] at hlead
    simp [hs3,h0,objCells,c0,i1,c1,c2]
    exact endV_1 (by simp [fd]) (by simp [hlead]) rfl
   by_cases e2:(b2:Int)<128
   ·have hc:Lib.checkN l.length b1 b2 b3 sz lo hi=none:=by unfold Lib.checkN;simp [hs3];omega
    rw [hc] at hlead
    simp [hs3,h0,objCells,c0,i1,i2,c1,c2,e2]
    exact endV_1 (by simp [fd]) (by simp [hlead]) rfl
   by_cases f2:191<(b2:Int)
   ·have hc:Lib.checkN l.length b1 b2 b3 sz lo hi=none:=by unfold Lib.checkN;simp [hs3];omega
    rw [hc] at hlead
    simp [hs3,h0,objCells,c0,i1,i2,c1,c2,e2,f2]
    exact endV_1 (by simp [fd]) (by simp [hlead]) rfl
   have hc:Lib.checkN l.length b1 b2 b3 sz lo hi=some 3:=by unfold Lib.checkN;simp [hs3];omega
   rw [hc] at hlead
   have dd:slStrV (some (.int .i64 3)) none (.str l)=some (.str (l.drop 3)):=slStr_from (k:=3) rfl (by omega)
   simp [hs3,h0,objCells,c0,i1,i2,c1,c2,e2,f2,dd]
   exact ⟨(l.drop 3).length,by rw [List.length_drop];omega,l.drop 3,by simp,rfl,hlead,by rw [List.length_drop];omega⟩
  by_cases hs4:sz=4
  ·by_cases c0:(l.length:Int)<4
   ·have hc:Lib.checkN l.length b1 b2 b3 sz lo hi=none:=by unfold Lib.checkN;simp [hs4];omega
    rw [hc] at hlead
    simp [hs4,h0,c0]
    exact endV_1 (by simp [fd]) (by simp [hlead]) rfl
   have i1:=i1 (by omega)
   have i2:=i2 (by omega)
   have i3:=i3 (by omega)
   by_cases c1:(b1:Int)<lo
   ·have hc:Lib.checkN l.length b1 b2 b3 sz lo hi=none:=by unfold Lib.checkN;simp [hs4];omega
    rw [hc] at hlead
    simp [hs4,h0,objCells,c0,i1,c1]
    exact endV_1 (by simp [fd]) (by simp [hlead]) rfl
   by_cases c2:(hi:Int)<b1
   ·have hc:Lib.checkN l.length b1 b2 b3 sz lo hi=none:=by unfold Lib.checkN;simp [hs4];omega
    rw [hc] at hlead
    simp [hs4,h0,objCells,c0,i1,c1,c2]
    exact endV_1 (by simp [fd]) (by simp [hlead]) rfl
   by_cases e2:(b2:Int)<128
   ·have hc:Lib.checkN l.length b1 b2 b3 sz lo hi=none:=by unfold Lib.checkN;simp [hs4];omega
    rw [hc] at hlead
    simp [hs4,h0,objCells,c0,i1,i2,c1,c2,e2]
    exact endV_1 (by simp [fd]) (by simp [hlead]) rfl
   by_cases f2:191<(b2:Int)
   ·have hc:Lib.checkN l.length b1 b2 b3 sz lo hi=none:=by unfold Lib.checkN;simp [hs4];omega
    rw [hc] at hlead
    simp [hs4,h0,objCells,c0,i1,i2,c1,c2,e2,f2]
    exact endV_1 (by simp [fd]) (by simp [hlead]) rfl
   by_cases e3:(b3:Int)<128
   ·have hc:Lib.checkN l.length b1 b2 b3 sz lo hi=none:=by unfold Lib.checkN;simp [hs4];omega
    rw [hc] at hlead
    simp [hs4,h0,objCells,c0,i1,i2,i3,c1,c2,e2,f2,e3]
    exact endV_1 (by simp [fd]) (by simp [hlead]) rfl
   by_cases f3:191<(b3:Int)
   ·have hc:Lib.checkN l.length b1 b2 b3 sz lo hi=none:=by unfold Lib.checkN;simp [hs4];omega
    rw [hc] at hlead
    simp [hs4,h0,objCells,c0,i1,i2,i3,c1,c2,e2,f2,e3,f3]
    exact endV_1 (by simp [fd]) (by simp [hlead]) rfl
   have hc:Lib.checkN l.length b1 b2 b3 sz lo hi=some 4:=by unfold Lib.checkN;simp [hs4];omega
   rw [hc] at hlead
   have dd:slStrV (some (.int .i64 4)) none (.str l)=some (.str (l.drop 4)):=slStr_from (k:=4) rfl (by omega)
   simp [hs4,h0,objCells,c0,i1,i2,i3,c1,c2,e2,f2,e3,f3,dd]
   exact ⟨(l.drop 4).length,by rw [List.length_drop];omega,l.drop 4,by simp,rfl,hlead,by rw [List.length_drop];omega⟩
  have hc:Lib.checkN l.length b1 b2 b3 sz lo hi=none:=by unfold Lib.checkN;simp [hs2,hs3,hs4]
  rw [hc] at hlead
  have z2:((sz:Int) == 2)=false:=by simp;omega
  have z3:((sz:Int) == 3)=false:=by simp;omega
  have z4:((sz:Int) == 4)=false:=by simp;omega
  simp [z2,z3,z4]
  exact endV_1 (by simp [fd]) (by simp [hlead]) rfl
def nmScan:Nat→List Int→Bool
 | n,[]=>decide (0<n) && decide (n≤20)
 | n,c::l=>if !partB c || (decide (n=0) && digitB c) then false else nmScan (n+1) l
theorem nmScan_pos:∀ (l:List Int) (n:Nat),0<n→nmScan n l=(l.all partB && decide (n+l.length≤20))
 | [],n,h=>by simp [nmScan,h]
 | c::l,n,h=>by
  have h0:¬ n=0:=by omega
  rw [nmScan,nmScan_pos l (n+1) (by omega)]
  cases hp:partB c
  ·simp [hp]
  ·simp only [hp,h0,decide_false,Bool.false_and,Bool.or_false,Bool.not_true,Bool.false_eq_true,if_false,List.all_cons,Bool.true_and,List.length_cons]
   congr 2
   exact propext ⟨fun h=>by omega,fun h=>by omega⟩
theorem nmScan_0 (l:List Int):nmScan 0 l=nmOk l:=by
 cases l with
 | nil=>rfl
 | cons c l =>
  rw [nmScan,nmScan_pos l 1 (by omega)]
  unfold nmOk headDig
  have e:decide (1+l.length≤20)=decide (l.length+1≤20):=by rw [Nat.add_comm]
  cases hp:partB c <;> cases hd:digitB c <;> simp [hp,hd,e]
  rw [Bool.and_comm]
theorem kS_next {E:Env} {Yf:YF} {st:St} {ub:Nat} {K:St→Nat→Prop} {d:Option Nat} {nm:Bool} {x:A} {l u pos:Nat} {s:List UInt8} (hx:eval E st.tm x = .iter l u) (ho:st.ob l=some ⟨u,.siter s pos⟩) (hro:st.ro≤u)
 (h1:pos<s.length→kApp K st d ub { v:=.tup [.bool true,.int .i64 pos,.int .i32 (rU s pos:Nat)],obs:=[(l,⟨u,.siter s (pos+rW s pos)⟩)] })
 (h2:¬ pos<s.length→kSet K st d ub (.tup [.bool false])):wpStep E Yf ⟨d,.nextStr x,none,nm⟩ st ub K:=kS_nextStr hx ho hro h1 h2
theorem ev229 (s:List UInt8) (hs:s.length≤1000000):Ev E 229 [.str s] (.bool (nameB s)):=by
 refine Ev_wpK (af:=F229) rfl ?_
 simp [F229]
 refine kS_ev (ev264 s) (by simp) rfl rfl ?_
 unfold nameB
 cases b1:resB s
 case true =>
  simp
  exact endV_1 rfl (by simp) rfl
 simp
 refine kS_ev (ev265 s hs) (by simp) rfl rfl ?_
 cases b2:Lib.validD s
 case false =>
  simp
  exact endV_1 rfl (by simp) rfl
 simp
 rw [← nmScan_0]
 refine wp_loopF (n:=s.length) [(2,3),(5,5),(15,30)] (fun k st=>∃ p n u,k=s.length - p∧p≤s.length∧n≤p∧st.tm 3 = .int .i64 (n:Nat)∧st.tm 14 = .iter 28 u∧st.ob 28=some ⟨u,.siter s p⟩∧nmScan 0 (runesI s)=nmScan n (RN s p)) rfl rfl
  ⟨0,0,640,by simp [runesI_eq]⟩ ?_
 rintro k st ⟨p,n,u,rfl,hp,hnp,h3,h14,ho,hsc⟩ f
 have fd:st.df=[]:=by rw [f.d];simp
 have fb:st.fb=0:=by rw [f.b];simp
 have fr:st.ro=0:=by rw [f.r];simp
 clear f
 simp
 refine kS_next (l:=28) (u:=u) (pos:=p) (s:=s) (by simp [h14]) (by simp [ho]) (by simp [fr]) (fun hlt=>?_) (fun hge=>?_)
 ·have hw:=rW_pos hlt
  rw [RN_step hlt,nmScan] at hsc
  obtain ⟨c,hc⟩:∃ c:Int,(rU s p:Int)=c:=⟨_,rfl⟩
  rw [hc] at hsc ⊢
  simp
  refine kS_ev (ev266 c) (by simp) rfl rfl ?_
  cases hpc:partB c
  ·rw [hpc] at hsc
   simp
   exact endV_1 (by simp [fd]) (by simp [hsc]) rfl
  ·by_cases hn0:n=0
   ·subst hn0
    simp [h3]
    refine kS_ev (ev267 c) (by simp) rfl rfl ?_
    cases hdc:digitB c
    ·simp [h3,h14,hdc,hpc] at hsc ⊢
     exact ⟨s.length - (p+rW s p),by omega,p+rW s p,rfl,by omega,1,by omega,by decide,rfl,hsc⟩
    ·simp [hdc,hpc] at hsc ⊢
     exact endV_1 (by simp [fd]) (by simp [hsc]) rfl
   ·simp [h3,h14,hpc,beq0,hn0] at hsc ⊢
    exact ⟨s.length - (p+rW s p),by omega,p+rW s p,rfl,by omega,n+1,by omega,by rw [wrap64' (by omega) (by omega)];simp,rfl,hsc⟩
 ·have:p=s.length:=by omega
  subst this
  rw [RN_end (Nat.le_refl _),nmScan] at hsc
  by_cases hn0:0<n
  ·simp [h3,hn0] at hsc ⊢
   exact endV_1 (by simp [fd]) (by simp [hsc];omega) rfl
  ·simp [h3,hn0] at hsc ⊢
   exact endV_1 (by simp [fd]) (by simp [hsc]) rfl
theorem ev212 (nl:Bool) (t:List (List UInt8)) (hn:t.length≤1000000) (hl:∀ s∈t,s.length≤1000000):Ev E 212 [slOf nl strC t] (.bool (tabB t)):=by
 refine Ev_wpK (af:=F212) rfl ?_
 simp [F212]
 refine wp_loopUp [(2,4),(7,29)] t.length (fun i s=>s.tm 7 = .int .i64 i∧∀ j,j<t.length→j<i→okAt t j=true) rfl rfl ⟨by simp,fun j _ h=>by omega⟩ ?_
 rintro i s hi ⟨h7,hb⟩ f
 have f0:s.tm 0=slOf nl strC t:=by rw [f.t 0 (by simp)];simp
 have f5:s.tm 5=slOf nl strC t:=by rw [f.t 5 (by simp)];simp
 have f6:s.tm 6 = .int .i64 t.length:=by rw [f.t 6 (by simp)];simp
 have fd:s.df=[]:=by rw [f.d];simp
 clear f
 by_cases hlt:i<t.length
 ·have hw:=wrapU hlt (by omega)
  have hok:okAt t i=(nameB t[i] && (i == 0 || lessB (t.getD (i - 1) []) t[i])):=by unfold okAt;rw [getD_lt hlt]
  have hsi:=hl _ (List.getElem_mem hlt)
  obtain ⟨c,hc⟩:∃ c,t[i]=c:=⟨_,rfl⟩
  have ht0:=str_at t hlt
  rw [hc] at hok ht0 hsi
  have step:okAt t i=true→∀ j,j<t.length→j<i+1→okAt t j=true:=fun h j hj hji=>by
   rcases Nat.lt_succ_iff_lt_or_eq.1 hji with h' | rfl
   ·exact hb j hj h'
   ·exact h
  simp [h7,f5,f6,hlt,idx_slOf strC_len,ht0]
  refine kS_ev (ev229 c hsi) (by simp) rfl rfl ?_
  cases hnm:nameB c
  ·rw [hnm] at hok
   simp
   exact endV_1 (by simp [fd]) (by simp [tabB_f hlt hok]) rfl
  ·rw [hnm] at hok
   by_cases h0:i=0
   ·subst h0
    simp [h7]
    exact ⟨hlt,by decide,fun j hj h=>by subst h;exact step (by simp [hok]) 0 hj (by omega)⟩
   ·have h0':0<i:=by omega
    have hwp:=wrapP h0' (by omega)
    have hlp:i - 1<t.length:=by omega
    have hsp:=hl _ (List.getElem_mem hlp)
    have ht1:=str_at t hlp
    rw [getD_lt hlp] at hok
    obtain ⟨e,he⟩:∃ e,t[i - 1]=e:=⟨_,rfl⟩
    rw [he] at hok ht1 hsp
    have hle:=runesI_len e
    have hlc:=runesI_len c
    simp [f0,h0',hwp,hlp,idx_slOf strC_len,ht1]
    refine kS_ev (ev251 e c (by omega) (by omega)) (by simp) rfl rfl ?_
    cases hls:lessB e c
    ·have hls':=hls
     unfold lessB at hls'
     rw [hls']
     simp
     exact endV_1 (by simp [fd]) (by simp [tabB_f hlt (by simp [hok,hls,h0])]) rfl
    ·have hls':=hls
     unfold lessB at hls'
     rw [hls']
     simp [h7,hw]
     exact ⟨hlt,step (by simp [hok,hls])⟩
 ·have:i=t.length:=by omega
  subst this
  simp [h7,f6]
  exact endV_1 (by simp [fd]) (by simp [tabB_t (fun j hj=>hb j hj hj)]) rfl
def Fr1 (n:Nat) (ob ob':Nat→Option Obj'):Prop:=∀ key,(∀ m,n≤m→key≠2 * m+1)→ob' key=ob key
theorem range_opsN (h:Hist') (hn:h.ts.length≤1000) (hm:∀ t∈h.ts,t.ops.length≤1000000) {asg bd:C} {ps:List Nat} (hps:ps.length=2) (has:asg.one=true) (hbd:bd.one=true) {st:St} {f:A} {lh uh:Nat}
 (hf:eval E st.tm f = .fn (.func 215) [] [.ptr lh uh 0]) (oh:st.ob lh=some ⟨uh,.cells (histC h)⟩) (hl1:lh≠2 * st.nx+1) (hl3:lh≠2 * st.nx+3) (hro:st.ro=0)
 (J:Nat→Nat→(Nat→Option Obj')→(Nat→Bool)→Nat→Prop) {Q:Ex→St→Prop}
 (hJf:∀ i k ob ob' tk ub ub',J i k ob tk ub→ub≤ub'→Fr1 st.nx ob ob'→J i k ob' tk ub')
 (hnext:∀ i (hi:i<h.ts.length) ob tk ub,J i (h.ts[i]).ops.length ob tk ub→J (i+1) 0 ob tk ub)
 (hbody:∀ i (hi:i<h.ts.length) k (hk:k<(h.ts[i]).ops.length) ob tk ub,J i k ob tk ub→ob (2 * st.nx+1)=some ⟨st.nx,.loop .ready none⟩→ob (2 * st.nx+3)=some ⟨st.nx+1,.dfr⟩→st.nx+64≤ub →
  wpC E noYF asg { tm:=setPs st.tm ps [.agg [.int .i64 i,.int .i64 k],.agg (opC (h.ts[i]).ops[k])],ob:=ob,tk:=tk,ro:=0,nx:=ub,fb:=st.fb,df:=[] } fun e s1=>e = .nrm∧s1.ob (2 * st.nx+1)=some ⟨st.nx,.loop .ready none⟩ ∧
   wpC E noYF bd { s1 with ob:=upd s1.ob (2 * st.nx+1) (some ⟨st.nx,.loop .busy none⟩) } fun e s2=>s2.ob (2 * st.nx+1)=some ⟨st.nx,.loop .busy none⟩∧s2.ob (2 * st.nx+3)=some ⟨st.nx+1,.dfr⟩∧st.nx+64≤s2.nx∧e = .nrm∧J i (k+1) s2.ob s2.tk s2.nx)
 (h0:J 0 0 st.ob st.tk (st.nx+64))
 (hQ:∀ ob tk ub,J h.ts.length 0 ob tk ub→ob (2 * st.nx+3)=some ⟨st.nx+1,.dfr⟩→st.nx+64≤ub→Q .nrm { st with ob:=ob,tk:=tk,nx:=ub,df:=(2 * st.nx+3,st.nx+1)::st.df }) :
 wpC E noYF (.rangeFunc f ps asg bd) st Q:=by
 refine wpC_rangeFunc (g:=215) (first:=[]) (captured:=[.ptr lh uh 0]) hf ?_
 have n13:¬ 2 * st.nx+3=2 * st.nx+1:=by omega
 have n31:¬ 2 * st.nx+1=2 * st.nx+3:=by omega
 have:=run146 (Yf:=roundF E noYF asg bd st ps (2 * st.nx+1) st.nx) h hn hm (l:=2 * st.nx+1) (u:=st.nx) (lh:=lh) (uh:=uh)
  (ob0:=upd (upd st.ob (2 * st.nx+3) (some ⟨st.nx+1,.dfr⟩)) (2 * st.nx+1) (some ⟨st.nx,.loop .ready none⟩)) (tk0:=st.tk) (ro:=st.ro) (base:=(st.fb+1023) * 1024) (ub0:=st.nx+64)
  (by simp only [upd_apply,hl1,hl3,if_false,oh]) (by omega)
  (fun i k ob tk ub=>J i k ob tk ub∧ob (2 * st.nx+1)=some ⟨st.nx,.loop .ready none⟩∧ob (2 * st.nx+3)=some ⟨st.nx+1,.dfr⟩∧st.nx+64≤ub)
  (fun r=>∃ s pend,r.2.1 (2 * st.nx+1)=some ⟨st.nx,.loop s pend⟩∧s≠.busy∧st.ro≤st.nx∧Q (pend.getD .nrm) { st with ob:=fun k=>if Nat.beq (2 * st.nx+1) k then none else r.2.1 k,tk:=r.2.2.1,nx:=r.2.2.2,df:=(2 * st.nx+3,st.nx+1)::st.df })
  ?_ ?_ ?_ ?_ ?_
 ·obtain ⟨r,hr,hP⟩:=this
  exact ⟨r,hr,hP⟩
 ·rintro i k ob ob' tk ub ub' ⟨g1,g2,g3,g4⟩ hub hfr
  have f:∀ key,(∀ m,ub≤m→key≠2 * m+1)→ob' key=ob key:=hfr
  exact ⟨hJf _ _ _ _ _ _ _ g1 hub (fun key hk=>f key (fun m hm=>hk m (by omega))),by rw [f _ (fun m hm=>by omega)];exact g2,by rw [f _ (fun m hm=>by omega)];exact g3,by omega⟩
 ·rintro i hi ob tk ub ⟨g1,g⟩
  exact ⟨hnext i hi ob tk ub g1,g⟩
 ·rintro i hi k hk ob tk ub ⟨g1,g2,g3,g4⟩ hru
  have hb:=hbody i hi k hk ob tk ub g1 g2 g3 g4
  have:=EvY_round (E:=E) (Yf:=noYF) (asg:=asg) (bd:=bd) (st:=st) (ps:=ps) (l:=2 * st.nx+1) (u:=st.nx) (xs:=[.agg [.int .i64 i,.int .i64 k],.agg (opC (h.ts[i]).ops[k])]) (ob:=ob) (tk:=tk) (ro:=st.ro) (ub:=ub)
   (P:=fun r=>st.ro≤r.2.2.2∧r.1 = .bool true∧J i (k+1) r.2.1 r.2.2.1 r.2.2.2∧r.2.1 (2 * st.nx+1)=some ⟨st.nx,.loop .ready none⟩∧r.2.1 (2 * st.nx+3)=some ⟨st.nx+1,.dfr⟩∧st.nx+64≤r.2.2.2)
   (by simp [hps]) (by omega) g2 has hbd (by
    rw [hro]
    refine wpC_mono (fun e s1 h1=>?_) hb
    obtain ⟨e1,e2,e3⟩:=h1
    refine ⟨e1,e2,wpC_mono (fun e s2 h2=>?_) e3⟩
    obtain ⟨k1,k2,k3,k4,k5⟩:=h2
    subst k4
    refine ⟨k1,by omega,rfl,?_,?_,?_,k3⟩
    ·exact hJf _ _ _ _ _ _ _ k5 (Nat.le_refl _) (fun key hk=>upd_ne _ _ (hk st.nx (Nat.le_refl _)))
    ·exact upd_same _ _ _
    ·show upd s2.ob _ _ _=_
     rw [upd_ne _ _ n13];exact k2)
  obtain ⟨r,hr,p1,p2,p3,p4,p5,p6⟩:=this
  exact ⟨r,hr,p1,.inl ⟨p2,p3,p4,p5,p6⟩⟩
 ·rintro ob tk ub ⟨g1,g2,g3,g4⟩
  refine ⟨.ready,none,g2,by simp,by omega,?_⟩
  have hob:Fr1 st.nx ob (fun k=>if Nat.beq (2 * st.nx+1) k then none else ob k):=fun key hk=>away ob (hk st.nx (Nat.le_refl _))
  exact hQ _ _ _ (hJf _ _ _ _ _ _ _ g1 (Nat.le_refl _) hob) ((away ob n13).trans g3) g4
 ·refine ⟨hJf _ _ _ _ _ _ _ h0 (Nat.le_refl _) (fun key hk=>?_),upd_same _ _ _,?_,by omega⟩
  ·have h3:=hk (st.nx+1) (by omega)
   rw [upd_ne _ _ (hk st.nx (Nat.le_refl _)),upd_ne _ _ (by omega)]
  ·rw [upd_ne _ _ n13,upd_same]
@[simp] theorem cells_map (l u:Nat):(V.map l u).cells=[.map l u]:=rfl
@[simp] theorem leaf_map (l u:Nat):(V.map l u).leaf=true:=rfl
@[simp] theorem cells_nilmap:V.nilmap.cells=[.nilmap]:=rfl
@[simp] theorem leaf_nilmap:V.nilmap.leaf=true:=rfl
def headsB (h:Hist'):Bool:=tabB h.ss && (tabB h.ks && (decide (h.ss.length≤20) && (decide (h.ks.length≤40) && decide (h.ts.length≤40))))
structure Small (h:Hist'):Prop where
 ss:h.ss.length≤1000
 sl:∀ s∈h.ss,s.length≤1000
 ks:h.ks.length≤1000
 kl:∀ s∈h.ks,s.length≤1000
 ts:h.ts.length≤1000
 os:∀ t∈h.ts,t.ops.length≤1000
theorem ev152 {h:Hist'} (hs:Small h):Ev E 152 [.agg (histC h)] (.bool (headsB h)):=by
 refine Ev_wpK (af:=F152) rfl ?_
 have e1:=ev212 h.sn h.ss (by have:=hs.ss;omega) (fun s h=>by have:=hs.sl s h;omega)
 have e2:=ev212 h.kn h.ks (by have:=hs.ks;omega) (fun s h=>by have:=hs.kl s h;omega)
 simp [F152,histC,objCells]
 refine kS_ev e1 (by simp) rfl rfl ?_
 unfold headsB
 cases b1:tabB h.ss
 ·simp
  exact endV_1 rfl (by simp) rfl
 simp [objCells]
 refine kS_ev e2 (by simp) rfl rfl ?_
 cases b2:tabB h.ks
 ·simp
  exact endV_1 rfl (by simp) rfl
 by_cases b3:(h.ss.length:Int)≤20
 ·by_cases b4:(h.ks.length:Int)≤40
  ·simp [objCells,b3,b4]
   exact endV_1 rfl (by simp [show h.ss.length≤20 by omega,show h.ks.length≤40 by omega];omega) rfl
  ·simp [objCells,b3,b4]
   exact endV_1 rfl (by simp;omega) rfl
 ·simp [objCells,b3]
  exact endV_1 rfl (by simp;omega) rfl
def usesS (h:Hist'):List Int:=h.ts.map (·.s)
def usesK (h:Hist'):List Int:=(opsOf h).map (·.key)
def usedB (h:Hist'):Bool:=decide ((dd (usesS h)).length=h.ss.length) && decide ((dd (usesK h)).length=h.ks.length)
def opsTo (h:Hist') (i k:Nat):List Op':=(h.ts.take i).flatMap (·.ops)++(h.ts.getD i ⟨0,0,true,[]⟩).ops.take k
theorem opsTo_step {h:Hist'} {i k:Nat} (hi:i<h.ts.length) (hk:k<(h.ts[i]).ops.length):opsTo h i (k+1)=opsTo h i k++[(h.ts[i]).ops[k]]:=by
 unfold opsTo
 rw [getD_lt hi,List.take_succ_eq_append_getElem hk,List.append_assoc]
theorem opsTo_next {h:Hist'} {i:Nat} (hi:i<h.ts.length):opsTo h i (h.ts[i]).ops.length=opsTo h (i+1) 0:=by
 unfold opsTo
 rw [getD_lt hi,List.take_length,List.take_zero,List.append_nil,List.take_succ_eq_append_getElem hi,List.flatMap_append]
 simp
theorem opsTo_end (h:Hist'):opsTo h h.ts.length 0=opsOf h:=by simp [opsTo,opsOf]
theorem opsTo_zero (h:Hist'):opsTo h 0 0=[]:=by simp [opsTo]
theorem endV_df {res:List ARes} {st:St} {l u:Nat} {v:V} (hd:st.df=[(l,u)]) (ho:st.ob l=some ⟨u,.dfr⟩) (hr:st.ro≤u)
 (h:endV res (.ret,{ st with ob:=fun k=>if Nat.beq l k then none else st.ob k,df:=[] })=some v):endV res (.ret,st)=some v:=by
 have h1:dfOk st=true:=by
  unfold dfOk
  rw [hd]
  simp only [List.all_cons,List.all_nil,ho,Bool.and_true,List.map_cons,List.map_nil,nodup,List.any_nil,Bool.not_false,Bool.and_eq_true,Nat.beq_refl,true_and]
  exact Nat.ble_eq ▸ hr
 have h2:st.noDf = { st with ob:=fun k=>if Nat.beq l k then none else st.ob k,df:=[] }:=by
  unfold St.noDf
  rw [hd]
  simp
 simp only [endV,h1,h2,if_true]
 simp only [endV] at h
 rw [dfOk_of rfl,noDf_of rfl] at h
 exact h
theorem ev158 {h:Hist'} (hs:Small h):Ev E 158 [.agg (histC h)] (.bool (usedB h)):=by
 refine Ev_wpK (af:=F158) rfl ?_
 have hts:=hs.ts
 simp [F158,histC,objCells,splice]
 refine wp_loopUp [(6,6),(15,23),(14,14)] h.ts.length (fun i s=>s.tm 14 = .int .i64 i∧s.ob 2=some ⟨0,.cells (histC h)⟩∧s.ob 8=some ⟨256,.cells [.map 20 192]⟩∧s.ob 20=some ⟨192,.mp 0 []⟩ ∧
  ∃ ver m,s.ob 18=some ⟨128,.mp ver (MP intV m)⟩∧m.map (·.1)=dd ((h.ts.take i).map (·.s))) rfl rfl ⟨by simp,by simp [histC],by simp,by simp,0,[],by simp [MP],by simp [dd]⟩ ?_
 rintro i s hi ⟨h14,o2,o8,o20,ver,m,o18,hm⟩ f
 have f12:s.tm 12=slOf h.tn txnC h.ts:=by rw [f.t 12 (by simp)];simp
 have f13:s.tm 13 = .int .i64 h.ts.length:=by rw [f.t 13 (by simp)];simp
 have f1:s.tm 1 = .ptr 2 0 0:=by rw [f.t 1 (by simp)];simp
 have f3:s.tm 3 = .map 18 128:=by rw [f.t 3 (by simp)];simp
 have f4:s.tm 4 = .ptr 8 256 0:=by rw [f.t 4 (by simp)];simp
 have fd:s.df=[]:=by rw [f.d];simp
 have fb:s.fb=0:=by rw [f.b];simp
 have fr:s.ro=0:=by rw [f.r];simp
 clear f
 by_cases hlt:i<h.ts.length
 ·have hw:=wrapU hlt (by omega)
  simp [h14,f12,f13,hlt,idx_slOf txnC_len,load_slOf txnC_len,txnC,objCells,fb,fr,splice,f3,lookupV_MI m,objMap,o18]
  refine kS_mapSet (f:=intV) (a:=IntKind.i64.wrap (mcnt m h.ts[i].s+1)) (ver:=ver) (l:=18) (u:=128) (k:=h.ts[i].s) m (by simp) (by simp) (by simp [intV]) (by simp [o18]) (by simp [fr]) ?_
  simp [h14,hw,o2,o8,o20,histC]
  refine ⟨hlt,ver+1,mset m h.ts[i].s (IntKind.i64.wrap (mcnt m h.ts[i].s+1)),by simp,?_⟩
  rw [mset_keys,hm,← List.map_take,List.take_succ_eq_append_getElem hlt,List.map_append]
  exact (dd_snoc _ _).symm
 ·have:i=h.ts.length:=by omega
  subst this
  rw [List.take_length] at hm
  simp [h14,f13]
  simp [f1,o2,objCells,histC]
  refine kS_callS (vs:=[.agg (histC h)]) (by simp [histC]) rfl ?_
  obtain ⟨r,hr,e1,e2,e3,e4⟩:=ev156 (Yf:=noYF) h s.ob s.tk 0 (26 * 1024) (s.nx+64+64)
  refine ⟨r,by simpa [fr,fb] using hr,?_⟩
  simp
  refine wpC_gen fun st hst=>?_
  have n2:¬ (2:Nat)=2 * (s.nx+64+64)+1:=by omega
  have n8:¬ (8:Nat)=2 * (s.nx+64+64)+1:=by omega
  have n18:¬ (18:Nat)=2 * (s.nx+64+64)+1:=by omega
  have n20:¬ (20:Nat)=2 * (s.nx+64+64)+1:=by omega
  have g25:st.tm 25 = .fn (.func 215) [] [.ptr (2 * (s.nx+64+64)+1) (s.nx+64+64) 0]:=by rw [hst];simp [put,e1]
  have g1:st.tm 1 = .ptr 2 0 0:=by rw [hst];simp [put,upd_apply,f1]
  have g3:st.tm 3 = .map 18 128:=by rw [hst];simp [put,upd_apply,f3]
  have g4:st.tm 4 = .ptr 8 256 0:=by rw [hst];simp [put,upd_apply,f4]
  have gd:st.df=[]:=by rw [hst];simp [fd]
  have gb:st.fb=0:=by rw [hst];simp [fb]
  have gr:st.ro=0:=by rw [hst];simp [fr]
  have gn:st.nx=s.nx+64+64+256:=by rw [hst];simp [e4]
  have p2:st.ob 2=some ⟨0,.cells (histC h)⟩:=by rw [hst];simp only [setN_ob];rw [e2,if_neg n2];exact o2
  have p8:st.ob 8=some ⟨256,.cells [.map 20 192]⟩:=by rw [hst];simp only [setN_ob];rw [e2,if_neg n8];exact o8
  have p18:st.ob 18=some ⟨128,.mp ver (MP intV m)⟩:=by rw [hst];simp only [setN_ob];rw [e2,if_neg n18];exact o18
  have p20:st.ob 20=some ⟨192,.mp 0 []⟩:=by rw [hst];simp only [setN_ob];rw [e2,if_neg n20];exact o20
  have pl:st.ob (2 * (s.nx+64+64)+1)=some ⟨s.nx+64+64,.cells (histC h)⟩:=by rw [hst];simp only [setN_ob];rw [e2,if_pos rfl]
  clear hst e1 e2 e3 e4 hr
  refine range_opsN h hts (fun t ht=>by have:=hs.os t ht;omega) rfl rfl rfl (by simpa using g25) pl (by omega) (by omega) gr
   (fun i k ob tk ub=>ob 2=some ⟨0,.cells (histC h)⟩∧ob 8=some ⟨256,.cells [.map 20 192]⟩∧ob 18=some ⟨128,.mp ver (MP intV m)⟩∧∃ ver' m',ob 20=some ⟨192,.mp ver' (MP intV m')⟩∧m'.map (·.1)=dd ((opsTo h i k).map (·.key)))
   ?_ ?_ ?_ ?_ ?_
  ·rintro i k ob ob' tk ub ub' ⟨q2,q8,q18,v',m',q20,hk⟩ hub hfr
   exact ⟨(hfr 2 (fun m _=>by omega)).trans q2,(hfr 8 (fun m _=>by omega)).trans q8,(hfr 18 (fun m _=>by omega)).trans q18,v',m',(hfr 20 (fun m _=>by omega)).trans q20,hk⟩
  ·rintro i hi ob tk ub ⟨q2,q8,q18,v',m',q20,hk⟩
   exact ⟨q2,q8,q18,v',m',q20,by rw [hk,opsTo_next hi]⟩
  ·rintro i hi k hk ob tk ub ⟨q2,q8,q18,v',m',q20,hkeys⟩ w1 w3 hub
   have r1:¬ 2 * st.nx+1=16:=by omega
   have r3:¬ 2 * st.nx+3=16:=by omega
   have r31:¬ 2 * st.nx+3=2 * st.nx+1:=by omega
   have r120:¬ 2 * st.nx+1=20:=by omega
   have r320:¬ 2 * st.nx+3=20:=by omega
   have b16:¬ 16=2 * st.nx+1:=by omega
   have b8:¬ 8=2 * st.nx+1:=by omega
   have b20:¬ 20=2 * st.nx+1:=by omega
   have b2:¬ 2=2 * st.nx+1:=by omega
   have b18:¬ 18=2 * st.nx+1:=by omega
   simp [setPs,upd_apply,opC,objCells,gb,splice,g4,r1,w1,b16,b8,q8,lookupV_MI m',objMap,b20,q20]
   obtain ⟨o,ho⟩:∃ o,(h.ts[i]).ops[k]=o:=⟨_,rfl⟩
   rw [ho]
   refine kS_mapSet (f:=intV) (a:=IntKind.i64.wrap (mcnt m' o.key+1)) (ver:=v') (l:=20) (u:=192) (k:=o.key) m' (by simp) (by simp) (by simp [intV]) (by simp [upd_apply,b20,q20]) (by simp) ?_
   simp [upd_apply,r120,r320,r3,b2,b8,b18,q2,q8,q18,w3]
   refine ⟨by omega,v'+1,mset m' o.key (IntKind.i64.wrap (mcnt m' o.key+1)),by simp,?_⟩
   rw [mset_keys,hkeys,opsTo_step hi hk,List.map_append,ho]
   exact (dd_snoc _ _).symm
  ·exact ⟨p2,p8,p18,0,[],p20,by rw [opsTo_zero];rfl⟩
  ·rintro ob tk ub ⟨q2,q8,q18,v',m',q20,hkeys⟩ w3 hub
   rw [opsTo_end] at hkeys
   have l1:m.length=(dd (usesS h)).length:=by rw [← List.length_map (f:=(·.1)),hm];rfl
   have l2:m'.length=(dd (usesK h)).length:=by rw [← List.length_map (f:=(·.1)),hkeys];rfl
   simp [g3,g1,objMap,q18,q2,objCells,histC,l1]
   unfold usedB
   by_cases c1:(dd (usesS h)).length=h.ss.length
   ·simp [c1,g4,g1,q8,q2,objMap,q20,objCells,histC,l2]
    refine endV_df (l:=2 * st.nx+3) (u:=st.nx+1) (by simp [gd]) (by simp [w3]) (by simp [gr]) (endV_1 rfl ?_ rfl)
    simp
    rw [Bool.eq_iff_iff];simp;omega
   ·have c1':(((dd (usesS h)).length:Int) == (h.ss.length:Int))=false:=by simp;omega
    simp [c1']
    refine endV_df (l:=2 * st.nx+3) (u:=st.nx+1) (by simp [gd]) (by simp [w3]) (by simp [gr]) (endV_1 rfl ?_ rfl)
    simp [c1]
def mayH (h:Hist'):Bool:=headsB h && (h.ts.all (txnB h) && ((opsOf h).all (opB h) && usedB h))
def errH (h:Hist'):Int:=if mayH h then 0 else 4
theorem any_not {α:Type} (p:α→Bool) (l:List α):(l.any fun t=>!p t) = !(l.all p):=by
 induction l with
 | nil=>rfl
 | cons a l ih=>simp [ih]
theorem ev103 {h:Hist'} (hs:Small h):Ev E 103 [.agg (histC h)] (.int .i64 (errH h)):=by
 refine Ev_wpK (af:=F103) rfl ?_
 have hts:=hs.ts
 have hos:∀ t∈h.ts,t.ops.length≤1000000:=fun t ht=>by have:=hs.os t ht;omega
 have e107:=ev152 hs
 have e112:=ev158 hs
 obtain ⟨R,hR⟩:∃ R,errH h=R:=⟨_,rfl⟩
 have hR':R=if headsB h && (h.ts.all (txnB h) && ((opsOf h).all (opB h) && usedB h)) then 0 else 4:=hR.symm
 rw [hR]
 clear hR
 simp [F103,histC,objCells]
 refine kS_ev e107 (by simp [histC]) rfl (by simp [histC]) ?_
 cases b1:headsB h
 ·rw [b1] at hR'
  simp at hR'
  subst hR'
  simp [objCells,splice]
  exact kEnd_of rfl (l:=[.int .i64 4]) (by simp [resOf,objCells]) rfl rfl
 rw [b1] at hR'
 simp [objCells]
 refine kS_callO (vs:=[slOf h.tn txnC h.ts,.fn (.func 154) [] [.ptr 2 0 0]]) (by simp) rfl rfl (ev153 (p:=fun t=>!txnB h t) rfl (fun t tk base ub=>ev154 (h:=h) ⟨rfl,by simp [histC]⟩ t tk base ub) h.tn h.ts (by omega) _ _ _) ?_
 rw [any_not]
 cases b2:h.ts.all (txnB h)
 ·rw [b2] at hR'
  replace hR':R=4:=hR'
  subst hR'
  simp [objCells,splice]
  exact kEnd_of rfl (l:=[.int .i64 4]) (by simp [resOf,objCells]) rfl rfl
 rw [b2] at hR'
 simp [objCells]
 refine kS_callS (vs:=[.agg (histC h)]) (by simp [histC]) rfl ?_
 obtain ⟨r,hr,e1,e2,e3,e4⟩:=ev156 (Yf:=noYF) h _ _ 0 _ _
 refine ⟨r,hr,?_⟩
 simp
 refine wpC_gen fun st hst=>?_
 obtain ⟨U,hU⟩:∃ U,st.nx=U:=⟨_,rfl⟩
 obtain ⟨m,hm,hmU,g15,p2,p4,pl⟩:∃ m,m % 64=0∧m<U∧st.tm 15 = .fn (.func 215) [] [.ptr (2 * m+1) m 0]∧st.ob 2=some ⟨0,.cells (histC h)⟩∧st.ob 4=some ⟨64,.cells [.int .i64 0]⟩∧st.ob (2 * m+1)=some ⟨m,.cells (histC h)⟩:=by
  refine ⟨_,?_,?_,by rw [hst];simp only [setN_tm,put,upd_same];exact e1,?_,?_,?_⟩
  ·decide
  ·rw [← hU,hst,setN_nx,e4];omega
  ·rw [hst];simp only [setN_ob];rw [e2];simp [histC]
  ·rw [hst];simp only [setN_ob];rw [e2];simp
  ·rw [hst];simp only [setN_ob];rw [e2];simp
 have g1:st.tm 1 = .ptr 2 0 0:=by rw [hst];simp [put,upd_apply]
 have g2:st.tm 2 = .ptr 4 64 0:=by rw [hst];simp [put,upd_apply]
 have gd:st.df=[]:=by rw [hst];simp
 have gb:st.fb=0:=by rw [hst];simp
 have gr:st.ro=0:=by rw [hst];simp
 have hU64:64≤U:=by rw [← hU,hst,setN_nx,e4];omega
 clear hst e1 e2 e3 e4 hr
 refine range70 h hts hos U hU hU64 g15 ⟨m,rfl,hmU⟩ g1 g2 gr gb p2 p4 pl ?_
 intro e ob tk ub c q2 q4 q3 hub hcase
 rcases hcase with ⟨b3,rfl,rfl⟩ | ⟨b3,rfl,rfl⟩
 ·rw [b3] at hR'
  simp [g1,objCells,q2,histC]
  refine kS_ev e112 (by simp [histC]) rfl (by simp [histC]) ?_
  have n3:¬ 2 * U+3=4:=by omega
  have n4:¬ 4=2 * U+3:=by omega
  cases b4:usedB h
  ·rw [b4] at hR'
   replace hR':R=4:=hR'
   subst hR'
   simp [objCells,g2,q4,gr,splice]
   refine endV_df (l:=2 * U+3) (u:=U+1) (by simp [gd]) (by simp [q3,n3]) (by simp) (endV_plain rfl (l:=[.int .i64 4]) ?_ rfl)
   simp [resOf,objCells,g2,n3]
  ·rw [b4] at hR'
   replace hR':R=0:=hR'
   subst hR'
   simp [objCells,g2,q4,gr,splice]
   refine endV_df (l:=2 * U+3) (u:=U+1) (by simp [gd]) (by simp [q3,n3]) (by simp) (endV_plain rfl (l:=[.int .i64 0]) ?_ rfl)
   simp [resOf,objCells,g2,n3]
 ·rw [b3] at hR'
  replace hR':R=4:=hR'
  subst hR'
  have n3:¬ 2 * U+3=4:=by omega
  have n4:¬ 4=2 * U+3:=by omega
  simp
  refine endV_df (l:=2 * U+3) (u:=U+1) (by simp [gd]) (by simp [q3]) (by simp [gr]) (endV_plain rfl (l:=[.int .i64 4]) ?_ rfl)
  simp [resOf,objCells,g2,n3,q4]
end Go.Pv.T
namespace Go.Pv.T
open Go Go.Pv
end Go.Pv.T
namespace Go.Pv.T
open Go Go.Pv
theorem repl_false (n:Nat):repl n [.bool false]=(List.replicate n false).map V.bool:=by
 unfold repl
 apply List.ext_getElem
 ·simp
 ·intro i h1 h2
  simp [List.getD,Nat.mod_one]
end Go.Pv.T
namespace Go.Pv.T
open Go Go.Pv
end Go.Pv.T
namespace Go.Pv.T
open Go Go.Pv
section
variable {E:Env} {Yf:YF} {st:St} {ub:Nat} {K:St→Nat→Prop} {d:Option Nat} {nm:Bool}
theorem kS_buildSlO {sz n:Nat} {zero:List V} {parts:List (Nat × Nat × A)} {cs:List V} (hf:fill zero (evalParts (eval E st.tm) parts)=some cs) (hl:cs.length=n * sz) (hp:cs.all V.leaf=true)
 (h:kApp K st d ub { v:=.osl (objName d nm st.fb ub) ub 0 n sz,obs:=[(objName d nm st.fb ub,⟨ub,.cells cs⟩)] }):wpStep E Yf ⟨d,.buildSl true sz zero parts n,none,nm⟩ st ub K:=by
 rw [wpStep_of _ rfl rfl]
 simp only [aop,hf,Option.bind_some,if_true,name_eq]
 rw [if_pos ⟨hl,hp⟩,mkObj,wpD_some]
 exact h
theorem kS_appendO_nil {sz bytes n:Nat} {cs ys:List V} {s x:A} (hs:eval E st.tm s = .sl none true n cs) (hx:slCells st.ob sz (eval E st.tm x)=some ys) (hne:ys≠[]) (h0:0<sz) (hp:ys.all V.leaf=true)
 (hb:(ys.length / sz) * bytes≤140737488355328) (hb2:ys.length / sz≤140737488355328) (h:kApp K st d ub { v:=.osl (objName d nm st.fb ub) ub 0 (ys.length / sz) sz,obs:=[(objName d nm st.fb ub,⟨ub,.cells ys⟩)] }) :
 wpStep E Yf ⟨d,.append true sz bytes s x,none,nm⟩ st ub K:=by
 rw [wpStep_of _ rfl rfl]
 simp only [aop,hs,hx,Option.bind_some,if_neg hne,Bool.and_self,if_true,name_eq]
 rw [if_pos ⟨h0,hp,hb,hb2⟩,mkObj,wpD_some]
 exact h
theorem kS_appendO {sz bytes l u n:Nat} {cs ys:List V} {s x:A} (hs:eval E st.tm s = .osl l u 0 n sz) (hx:slCells st.ob sz (eval E st.tm x)=some ys) (ho:st.ob l=some ⟨u,.cells cs⟩) (hne:ys≠[]) (hro:st.ro≤u) (hn:n * sz≤cs.length) (h0:0<sz) (hp:ys.all V.leaf=true)
 (hb:(n+ys.length / sz) * bytes≤140737488355328) (hb2:n+ys.length / sz≤140737488355328)
 (h:kApp K st d ub { v:=.osl (objName d nm st.fb ub) ub 0 (n+ys.length / sz) sz,obs:=[(objName d nm st.fb ub,⟨ub,.cells (cs.take (n * sz)++ys)⟩)],kill:=[l] }) :
 wpStep E Yf ⟨d,.append true sz bytes s x,none,nm⟩ st ub K:=by
 rw [wpStep_of _ rfl rfl]
 have hoc:objCells st.ob l u=some cs:=by simp [objCells,ho]
 simp only [aop,hs,hx,Option.bind_some,hoc,if_neg hne,name_eq]
 rw [if_pos ⟨Nat.ble_eq ▸ hro,trivial,trivial,hn,h0,hp,hb,hb2⟩,wpD_some]
 exact h
end
@[simp] theorem app_obk (st:St) (d:Option Nat) (v:V) (l k l':Nat) (o':Obj'):(st.app d { v:=v,obs:=[(l,o')],kill:=[l'] }).ob k=if k=l then some o' else if k=l' then none else st.ob k:=by
 have e:(Nat.beq k l')=decide (k=l'):=by rw [Bool.eq_iff_iff];simp
 simp only [St.app,setObs,upd_apply,List.any_cons,List.any_nil,Bool.or_false,e,decide_eq_true_eq]
theorem app_tkk (st:St) (d:Option Nat) (v:V) (obs:List (Nat × Obj')) (kl:List Nat):(st.app d { v:=v,obs:=obs,kill:=kl }).tk=st.tk:=by
 funext u
 simp [app_tk]
theorem mfind_set {α:Type} {m:List (Int × α)} {k:Int} {a b:α} {i:Nat} (h:mfind m k=some (i,b)) (k':Int):(mfind (m.set i (k,a)) k').map (·.2)=if k'=k then some a else (mfind m k').map (·.2):=by
 induction m generalizing i with
 | nil=>cases h
 | cons p m ih =>
  obtain ⟨q,c⟩:=p
  by_cases hk:k=q
  ·simp only [mfind,hk,if_true,Option.some.injEq,Prod.mk.injEq] at h
   obtain ⟨rfl,rfl⟩:=h
   subst hk
   simp only [List.set_cons_zero,mfind]
   split <;> rfl
  ·simp only [mfind,hk,if_false,Option.map_eq_some_iff,Prod.mk.injEq] at h
   obtain ⟨⟨j,b'⟩,hj,rfl,rfl⟩:=h
   simp only [List.set_cons_succ,mfind]
   by_cases hq:k'=q
   ·have:¬ q=k:=fun e=>hk e.symm
    simp [hq,this]
   ·simp only [hq,if_false,Option.map_map]
    have:=ih hj
    simpa [Function.comp_def] using this
theorem mfind_app {α:Type} {m:List (Int × α)} {k:Int} {a:α} (h:mfind m k=none) (k':Int):(mfind (m++[(k,a)]) k').map (·.2)=if k'=k then some a else (mfind m k').map (·.2):=by
 induction m with
 | nil=>simp [mfind];try (split <;> simp)
 | cons p m ih =>
  obtain ⟨q,c⟩:=p
  by_cases hk:k=q
  ·simp [mfind,hk] at h
  ·simp only [mfind,hk,if_false,Option.map_eq_none_iff] at h
   simp only [List.cons_append,mfind]
   by_cases hq:k'=q
   ·have:¬ q=k:=fun e=>hk e.symm
    simp [hq,this]
   ·simp only [hq,if_false,Option.map_map]
    have:=ih h
    simpa [Function.comp_def] using this
theorem mcnt_set (m:List (Int × Int)) (k a k':Int):mcnt (mset m k a) k'=if k'=k then a else mcnt m k':=by
 unfold mcnt mset
 cases h:mfind m k with
 | none=>simp only [];rw [mfind_app h];split <;> rfl
 | some p =>
  obtain ⟨i,b⟩:=p
  simp only []
  rw [mfind_set h]
  split <;> rfl
end Go.Pv.T
namespace Go.Pv.T
open Go Go.Pv
end Go.Pv.T
namespace Go.Pv.T
open Go Go.Pv
@[simp] theorem cells_osl (a b c d e:Nat):(V.osl a b c d e).cells=[.osl a b c d e]:=rfl
@[simp] theorem leaf_osl (a b c d e:Nat):(V.osl a b c d e).leaf=true:=rfl
def SlOut (st:St) (v:V) (nl:Bool) (n:Nat) (cs:List V):Prop:=∀ keep i,∃ a,outLeaf st keep i v=some (.sl a nl n cs)∧(a=none∨∃ z,a=some (i,z))
theorem slOut_sl (st:St) (t:Option (Nat × Nat)) (nl:Bool) (n:Nat) (cs:List V):SlOut st (.sl t nl n cs) nl n cs:=by
 intro keep i
 cases t with
 | none=>exact ⟨none,rfl,.inl rfl⟩
 | some p =>
  obtain ⟨u,z⟩:=p
  refine ⟨_,rfl,?_⟩
  split
  ·exact .inr ⟨z,rfl⟩
  ·exact .inl rfl
def HistR (r:V) (g:Hist'):Prop:=∃ a b c:Option (Nat × Nat),r = .agg [.sl a g.sn g.ss.length (g.ss.flatMap strC),.sl b g.kn g.ks.length (g.ks.flatMap strC),.sl c g.tn g.ts.length (g.ts.flatMap txnC)]∧(∀ p∈a.toList++b.toList++c.toList,p.1<64)
theorem toks_sl (a:Option (Nat × Nat)) (nl:Bool) (n:Nat) (cs:List V):(V.sl a nl n cs).tok=a.toList.map (·.1):=by
 cases a with
 | none=>rfl
 | some p=>rfl
theorem tokm {a:Option (Nat × Nat)} {nl:Bool} {n:Nat} {cs:List V} {i:Nat}:i∈(V.sl a nl n cs).tok ↔ ∃ p∈a.toList,p.1=i:=by rw [toks_sl,List.mem_map]
def Grow {α:Type} (tk:Nat→Bool) (lo nx:Nat) (f:α→List V) (sz:Nat) (l:List α) (v:V):Prop :=
 (l=[]∧v = .sl none true 0 [])∨(l≠[]∧∃ u,v = .sl (some (u,sz)) false l.length (l.flatMap f)∧tk u=true∧lo≤u∧u<nx)
theorem Grow.nil {α:Type} (tk:Nat→Bool) (lo nx:Nat) (f:α→List V) (sz:Nat):Grow tk lo nx f sz [] (.sl none true 0 []):=.inl ⟨rfl,rfl⟩
theorem Grow.form {α:Type} {tk:Nat→Bool} {lo nx:Nat} {f:α→List V} {sz:Nat} {l:List α} {v:V} (h:Grow tk lo nx f sz l v):∃ t,v = .sl t l.isEmpty l.length (l.flatMap f):=by
 rcases h with ⟨rfl,rfl⟩ | ⟨hne,u,rfl,_⟩
 ·exact ⟨none,rfl⟩
 ·cases l with
  | nil=>exact absurd rfl hne
  | cons a l=>exact ⟨_,rfl⟩
theorem Grow.mono {α:Type} {tk tk':Nat→Bool} {lo nx nx':Nat} {f:α→List V} {sz:Nat} {l:List α} {v:V} (h:Grow tk lo nx f sz l v) (ht:∀ u,lo≤u→u<nx→tk u=true→tk' u=true) (hn:nx≤nx'):Grow tk' lo nx' f sz l v:=by
 rcases h with h | ⟨hne,u,hv,h1,h2,h3⟩
 ·exact .inl h
 ·exact .inr ⟨hne,u,hv,ht u h2 h3 h1,h2,by omega⟩
section
variable {E:Env} {Yf:YF} {st:St} {ub:Nat} {K:St→Nat→Prop} {d:Option Nat} {nm:Bool}
theorem kS_appendG {α:Type} {f:α→List V} {sz bytes lo hi:Nat} {l:List α} {a:α} {v:V} {s x:A} (hg:Grow st.tk lo hi f sz l v) (hs:eval E st.tm s=v) (hx:slCells st.ob sz (eval E st.tm x)=some (f a)) (hf:∀ a,(f a).length=sz) (h0:0<sz)
 (hp:(f a).all V.pureLeaf=true) (hb:(l.length+1) * bytes≤140737488355328) (hb2:l.length+1≤140737488355328)
 (h:∀ del:Option Nat,(∀ u,del=some u→lo≤u∧u<hi)→kApp K st d ub { v:=.sl (some (ub,sz)) false (l.length+1) ((l++[a]).flatMap f),del:=del,add:=[ub] }):wpStep E Yf ⟨d,.append false sz bytes s x,none,nm⟩ st ub K:=by
 have hne:f a≠[]:=fun e=>by have:=hf a;rw [e] at this;simp at this;omega
 have h1:(f a).length / sz=1:=by rw [hf];exact Nat.div_self h0
 rcases hg with ⟨rfl,rfl⟩ | ⟨hl,u,rfl,ht,h2,h3⟩
 ·refine kS_append_nil hs hx hne h0 hp (by rw [h1];simpa using hb) (by rw [h1];simp) ?_
  rw [h1]
  have:=h none (fun u e=>by cases e)
  simpa using this
 ·refine kS_append_tok hs ht hx hne (by rw [flatMap_len hf]) h0 hp (by rw [h1];exact hb) (by rw [h1];exact hb2) ?_
  rw [h1]
  have:=h (some u) (fun u' e=>by cases e;exact ⟨h2,h3⟩)
  simpa using this
end
theorem slCells_slOf {α:Type} {f:α→List V} {k:Nat} (hf:∀ a,(f a).length=k) (ob:Nat→Option Obj') (nl:Bool) (l:List α):slCells ob k (slOf nl f l)=some (l.flatMap f):=by
 simp only [slOf,slCells,flatMap_len hf,if_true]
def kEndE (res:List ARes) (P:V→Prop):Ex→St→Prop:=fun e s=>∃ r,endV res (e,s)=some r∧P r
theorem Ev_wpE {f:FuncId} {af:AF} {args:List V} {P:V→Prop} (hf:E.fc f=some af) (h1:af.body.one=true) (h:wpC E noYF af.body (start args) (kEndE af.res P)):∃ r,Ev E f args r∧P r:=by
 obtain ⟨n,x,hx,r,hr,hP⟩:=one_of h1 h fun _=>rfl
 refine ⟨r,⟨n+1,?_⟩,hP⟩
 simp only [callers,hf,Option.bind_some]
 rw [show codeL E (callers E n) noY n af.body (start args)=some [x] from hx]
 exact one1_of (List.cons_ne_nil _ _) (fun y hy=>by rw [List.mem_singleton] at hy;subst hy;exact hr)
end Go.Pv.T
namespace Go.Pv.T
open Go Go.Pv
end Go.Pv.T
namespace Go.Pv.T
open Go Go.Pv
section
variable {E:Env} {st:St} {ub:Nat} {K:List FP→St→Prop} {d:Option Nat} {nm:Bool} {r:List AOpr}
theorem kS_append_allT {E:Env} {Yf:YF} {st:St} {ub:Nat} {K:St→Nat→Prop} {d:Option Nat} {nm:Bool} {α:Type} {f:α→List V} {sz bytes u:Nat} {l:List α} {s x:A} (hs:eval E st.tm s = .sl (some (u,sz)) false 0 []) (hu:st.tk u=true) (hx:slCells st.ob sz (eval E st.tm x)=some (l.flatMap f)) (hf:∀ a,(f a).length=sz) (h0:0<sz)
 (hp:(l.flatMap f).all V.pureLeaf=true) (hb:l.length * bytes≤140737488355328) (hb2:l.length≤140737488355328)
 (h:∀ (t:Option (Nat × Nat)) (del:Option Nat) (add:List Nat),(∀ u'∈add,u'=ub)→(∀ u',del=some u'→u'=u)→kApp K st d ub { v:=.sl t false l.length (l.flatMap f),del:=del,add:=add }):wpStep E Yf ⟨d,.append false sz bytes s x,none,nm⟩ st ub K:=by
 cases l with
 | nil =>
  rw [wpStep_of _ rfl rfl]
  simp only [aop,hs,hx,Option.bind_some,List.flatMap_nil,if_true,List.length_nil,Nat.zero_mul,wpD_one]
  exact h _ none [] (fun u hu=>by cases hu) (fun u e=>by cases e)
 | cons a l =>
  have h1:((a::l).flatMap f).length / sz=(a::l).length:=by rw [flatMap_len hf];exact Nat.mul_div_cancel _ h0
  have hne:(a::l).flatMap f≠[]:=fun e=>by have:=congrArg List.length e;rw [flatMap_len hf] at this;have:=Nat.mul_pos (show 0<(a::l).length by simp) h0;simp_all
  refine kS_append_tok hs hu hx hne (by simp) h0 hp (by rw [h1,Nat.zero_add];exact hb) (by rw [h1,Nat.zero_add];exact hb2) ?_
  rw [h1,Nat.zero_add,List.nil_append]
  exact h _ (some u) [ub] (fun u hu=>by simpa using hu) (fun u' e=>by cases e;rfl)
end
@[simp] theorem str_strip1 (s:List UInt8):(V.str s).strip1 = .str s:=rfl
theorem endH1 {st:St} {p l u:Nat} {x y z:V} {g:Hist'} (hd:st.df=[]) (hp:st.tm p = .ptr l u 0) (ho:st.ob l=some ⟨u,.cells [x,y,z]⟩)
 (hx:SlOut st x g.sn g.ss.length (g.ss.flatMap strC)) (hy:SlOut st y g.kn g.ks.length (g.ks.flatMap strC)) (hz:SlOut st z g.tn g.ts.length (g.ts.flatMap txnC)):∃ r,endV [.cell p (some 3)] (.ret,st)=some r∧HistR r g:=by
 have h1:(objCells st.ob l u)=some [x,y,z]:=by simp [objCells,ho]
 have hres:[ARes.cell p (some 3)].mapM (resOf st)=some [.agg [x,y,z]]:=by
  simp [resOf,hp,h1]
 obtain ⟨a,ha,ha'⟩:=hx (nodup (List.flatMap V.toks [.agg [x,y,z]])) 0
 obtain ⟨b,hb,hb'⟩:=hy (nodup (List.flatMap V.toks [.agg [x,y,z]])) 1
 obtain ⟨c,hc,hc'⟩:=hz (nodup (List.flatMap V.toks [.agg [x,y,z]])) 2
 refine ⟨.agg [.sl a g.sn g.ss.length (g.ss.flatMap strC),.sl b g.kn g.ks.length (g.ks.flatMap strC),.sl c g.tn g.ts.length (g.ts.flatMap txnC)],?_,a,b,c,rfl,?_⟩
 ·simp only [endV,dfOk_of hd,noDf_of hd,if_true,hres,Option.bind_some,outRes]
  generalize nodup (List.flatMap V.toks [.agg [x,y,z]])=keep at *
  simp only [outTops,outTop,outList,ha,hb,hc,Nat.zero_add,Option.bind_some,Option.map_some]
  have hnd:nodup (List.flatMap V.toks [.agg [.sl a g.sn g.ss.length (g.ss.flatMap strC),.sl b g.kn g.ks.length (g.ks.flatMap strC),.sl c g.tn g.ts.length (g.ts.flatMap txnC)]])=true:=by
   have e:∀ x y z:V,List.flatMap V.toks [.agg [x,y,z]]=x.tok++(y.tok++z.tok):=fun x y z=>by simp [V.toks]
   rw [e,toks_sl,toks_sl,toks_sl]
   rcases ha' with rfl | ⟨_,rfl⟩ <;> rcases hb' with rfl | ⟨_,rfl⟩ <;> rcases hc' with rfl | ⟨_,rfl⟩ <;> rfl
  show (if nodup (List.flatMap V.toks [.agg [.sl a g.sn g.ss.length (g.ss.flatMap strC),.sl b g.kn g.ks.length (g.ks.flatMap strC),.sl c g.tn g.ts.length (g.ts.flatMap txnC)]])=true then some (V.agg [.sl a g.sn g.ss.length (g.ss.flatMap strC),.sl b g.kn g.ks.length (g.ks.flatMap strC),.sl c g.tn g.ts.length (g.ts.flatMap txnC)]) else none)=_
  rw [if_pos hnd]
 ·intro p hp
  simp only [List.mem_append] at hp
  rcases hp with (hp | hp) | hp
  ·rcases ha' with rfl | ⟨_,rfl⟩
   ·simp at hp
   ·simp at hp;subst hp;simp
  ·rcases hb' with rfl | ⟨_,rfl⟩
   ·simp at hp
   ·simp at hp;subst hp;simp
  ·rcases hc' with rfl | ⟨_,rfl⟩
   ·simp at hp
   ·simp at hp;subst hp;simp
theorem retA_hist1 {ub:Nat} {r:V} {g:Hist'} (h:HistR r g):∃ a b c add,retA ub r=some { v:=.agg [.sl a g.sn g.ss.length (g.ss.flatMap strC),.sl b g.kn g.ks.length (g.ks.flatMap strC),.sl c g.tn g.ts.length (g.ts.flatMap txnC)],add:=add }:=by
 obtain ⟨a,b,c,rfl,hlt⟩:=h
 have e:∀ x y z:V,toksRes (.agg [x,y,z])=x.tok++(y.tok++z.tok):=fun x y z=>by simp [toksRes,V.toks]
 have hall:(toksRes (.agg [.sl a g.sn g.ss.length (g.ss.flatMap strC),.sl b g.kn g.ks.length (g.ks.flatMap strC),.sl c g.tn g.ts.length (g.ts.flatMap txnC)])).all (fun i=>Nat.blt i 64)=true:=by
  rw [e,List.all_eq_true]
  intro i hi
  have:∃ p∈a.toList++b.toList++c.toList,p.1=i:=by
   rw [List.mem_append,List.mem_append,tokm,tokm,tokm] at hi
   rcases hi with ⟨p,hp,h⟩ | ⟨p,hp,h⟩ | ⟨p,hp,h⟩
   ·exact ⟨p,by simp [hp],h⟩
   ·exact ⟨p,by simp [hp],h⟩
   ·exact ⟨p,by simp [hp],h⟩
  obtain ⟨p,hp,rfl⟩:=this
  rw [Nat.blt_eq]
  exact hlt p hp
 have hin:∀ (t:Option (Nat × Nat)) (nl:Bool) (n:Nat) (cs:List V),∃ t',inLeaf ub (.sl t nl n cs) = .sl t' nl n cs:=fun t nl n cs=>by
  cases t with
  | none=>exact ⟨none,rfl⟩
  | some p=>exact ⟨_,rfl⟩
 obtain ⟨a',ha⟩:=hin a g.sn g.ss.length (g.ss.flatMap strC)
 obtain ⟨b',hb⟩:=hin b g.kn g.ks.length (g.ks.flatMap strC)
 obtain ⟨c',hc⟩:=hin c g.tn g.ts.length (g.ts.flatMap txnC)
 refine ⟨a',b',c',(toksRes (.agg [.sl a g.sn g.ss.length (g.ss.flatMap strC),.sl b g.kn g.ks.length (g.ks.flatMap strC),.sl c g.tn g.ts.length (g.ts.flatMap txnC)])).map (ub + ·),?_⟩
 rw [retA,if_pos hall]
 have hin2:inRes ub (.agg [.sl a g.sn g.ss.length (g.ss.flatMap strC),.sl b g.kn g.ks.length (g.ks.flatMap strC),.sl c g.tn g.ts.length (g.ts.flatMap txnC)]) =
  .agg [inLeaf ub (.sl a g.sn g.ss.length (g.ss.flatMap strC)),inLeaf ub (.sl b g.kn g.ks.length (g.ks.flatMap strC)),inLeaf ub (.sl c g.tn g.ts.length (g.ts.flatMap txnC))]:=rfl
 rw [hin2,ha,hb,hc]
theorem kS_evV {E:Env} {Yf:YF} {st:St} {ub:Nat} {K:St→Nat→Prop} {d:Option Nat} {nm:Bool} {q:A} {xs:List A} {f:FuncId} {first captured args:List V} {v:V} (hev:Ev E f args v) (hq:eval E st.tm q = .fn (.func f) first captured)
 (hx:(first++xs.map (eval E st.tm)++captured).map V.strip=args) (hs:E.sh nm f=false) (hp:args.all V.pureTop=true) (h:wpD (retA ub v) (kApp K st d ub)):wpStep E Yf ⟨d,.callV q xs,none,nm⟩ st ub K:=by
 refine wpS_callV hq ⟨⟨hs,?_⟩,v,by rw [hx];exact hev,h⟩
 rw [← hx,List.all_map] at hp
 exact hp
@[simp] theorem fn_strip0 (f:Fn):(V.fn f [] []).strip = .fn f [] []:=rfl
@[simp] theorem fn_pureTop0 (f:Fn):(V.fn f [] []).pureTop=true:=rfl
def IntsAt (ob:Nat→Option Obj') (nx:Nat) (l:List Int) (v:V):Prop :=
 (l=[]∧v = .sl none true 0 [])∨(l≠[]∧∃ L u,v = .osl L u 0 l.length 1∧ob L=some ⟨u,.cells (l.flatMap intC)⟩∧u<nx∧L=2 * u+1)
def SlR (v:V) (nl:Bool) (n:Nat) (cs:List V):Prop:=∃ t:Option (Nat × Nat),v = .sl t nl n cs∧∀ p∈t.toList,p.1<64
theorem sl_end {st:St} {n k:Nat} {t:Option (Nat × Nat)} {nl:Bool} {cs:List V} (hd:st.df=[]) (h:st.tm n = .sl t nl k cs):∃ r,endV [.t n] (.ret,st)=some r∧SlR r nl k cs:=by
 have hres:[ARes.t n].mapM (resOf st)=some [.sl t nl k cs]:=by simp [resOf,h]
 obtain ⟨a,ha,ha'⟩:=slOut_sl st t nl k cs (nodup (List.flatMap V.toks [.sl t nl k cs])) 0
 refine ⟨.sl a nl k cs,?_,a,rfl,?_⟩
 ·simp only [endV,dfOk_of hd,noDf_of hd,if_true,hres,Option.bind_some,outRes]
  generalize nodup (List.flatMap V.toks [.sl t nl k cs])=keep at *
  have e:outTop st keep 0 (.sl t nl k cs)=some (.sl a nl k cs):=ha
  simp only [outTops,e,Option.bind_some,Option.map_some]
  have hnd:nodup (List.flatMap V.toks [.sl a nl k cs])=true:=by
   rcases ha' with rfl | ⟨_,rfl⟩ <;> rfl
  show (if nodup (List.flatMap V.toks [.sl a nl k cs])=true then some (V.sl a nl k cs) else none)=_
  rw [if_pos hnd]
 ·intro p hp
  rcases ha' with rfl | ⟨_,rfl⟩
  ·simp at hp
  ·simp at hp;subst hp;simp
theorem retA_sl {ub:Nat} {v:V} {nl:Bool} {n:Nat} {cs:List V} (h:SlR v nl n cs):∃ t add,retA ub v=some { v:=.sl t nl n cs,add:=add }:=by
 obtain ⟨t,rfl,hlt⟩:=h
 cases t with
 | none=>exact ⟨none,[],rfl⟩
 | some p =>
  have:=hlt p (by simp)
  refine ⟨some (ub+p.1,p.2),[ub+p.1],?_⟩
  rw [retA,if_pos (by simp [toksRes,V.toks,V.tok,Nat.blt_eq,this])]
  rfl
theorem slE {st:St} {n k:Nat} {t:Option (Nat × Nat)} {nl:Bool} {cs:List V} {P:V→Prop} (hP:∀ r,SlR r nl k cs→P r) (hd:st.df=[]) (h:st.tm n = .sl t nl k cs):kEndE [.t n] P .ret st:=by
 obtain ⟨r,h1,h2⟩:=sl_end hd h
 exact ⟨r,h1,hP r h2⟩
def NumR (l:List Int) (v:V):Prop:=∃ nl,SlR v nl l.length (l.flatMap intC)
theorem ev160 (t:Txn'):Ev E 160 [.agg (txnC t)] (.bool (isInfo t)):=by
 refine Ev_wpK (af:=F160) rfl ?_
 simp [F160,txnC,objCells]
 exact endV_1 rfl (by simp [isInfo]) rfl
theorem may_err {g:Hist'} (hm:mayH g=true):errH g=0:=by unfold errH;rw [hm];rfl
theorem ev159 {g:Hist'} (hs:Small g) (hm:mayH g=true):∃ v,Ev E 159 [.agg (histC g),.fn (.func 160) [] []] v∧NumR (infosH g) v:=by
 have e70:=ev103 hs
 rw [may_err hm] at e70
 have hts:=hs.ts
 refine Ev_wpE (af:=F159) rfl (by decide) ?_
 simp [F159,histC,objCells]
 refine kS_ev e70 (by simp [histC]) rfl (by simp [histC]) ?_
 simp [objCells]
 refine wp_loopUp [(4,7),(14,26)] g.ts.length (fun i s=>s.tm 14 = .int .i64 i∧Grow s.tk 0 s.nx intC 1 (numsTo isInfo g.ts i) (s.tm 5)) rfl rfl ⟨by simp,by simp [numsTo];exact Grow.nil _ _ _ _ _⟩ ?_
 rintro i s hi ⟨h14,hG⟩ f
 have f1:s.tm 1 = .fn (.func 160) [] []:=by rw [f.t 1 (by simp)];simp
 have f12:s.tm 12=slOf g.tn txnC g.ts:=by rw [f.t 12 (by simp)];simp
 have f13:s.tm 13 = .int .i64 g.ts.length:=by rw [f.t 13 (by simp)];simp
 have fd:s.df=[]:=by rw [f.d];simp
 have fb:s.fb=0:=by rw [f.b];simp
 have fr:s.ro=0:=by rw [f.r];simp
 clear f
 by_cases hlt:i<g.ts.length
 ·have hw:=wrapU hlt (by omega)
  have hsn:=numsTo_succ (p:=isInfo) hlt
  obtain ⟨t,ht⟩:∃ t,g.ts[i]=t:=⟨_,rfl⟩
  rw [ht] at hsn
  have hll:=numsTo_len isInfo g.ts i
  simp [h14,f12,f13,hlt,idx_slOf txnC_len,load_slOf txnC_len,ht,txnC,objCells,fb,fr,splice,f1]
  refine kS_evV (f:=160) (first:=[]) (captured:=[]) (ev160 t) (by simp) (by simp [txnC]) rfl (by simp [txnC]) ?_
  cases hi:isInfo t
  ·rw [hi] at hsn
   simp only [Bool.false_eq_true,if_false,List.append_nil] at hsn
   simp [h14,hw]
   exact ⟨hlt,by rw [hsn];exact hG.mono (fun u _ _ h=>by simpa [app_tk0] using h) (by omega)⟩
  ·rw [hi] at hsn
   simp only [if_true] at hsn
   simp
   refine kS_buildSl (cs:=[.int .i64 i]) (by simp [splice]) rfl rfl ?_
   simp
   refine kS_appendG (f:=intC) (lo:=0) (hi:=s.nx) (l:=numsTo isInfo g.ts i) (a:=(i:Int)) (v:=s.tm 5) (hG.mono (fun u _ _ h=>by simp [app_tk,h]) (Nat.le_refl _)) (by simp) (by simp [slCells,intC]) intC_len (by decide) rfl (by omega) (by omega) (fun del hdel=>?_)
   have hne:numsTo isInfo g.ts (i+1)≠[]:=by rw [hsn];simp
   have hlen:(numsTo isInfo g.ts i).length+1=(numsTo isInfo g.ts (i+1)).length:=by rw [hsn];simp
   rw [← hsn,hlen]
   simp [h14,hw]
   exact ⟨hlt,.inr ⟨hne,_,rfl,by simp [app_tk],Nat.zero_le _,by omega⟩⟩
 ·have:i=g.ts.length:=by omega
  subst this
  obtain ⟨t,ht⟩:=hG.form
  simp [h14,f13]
  exact slE (t:=t) (nl:=(numsTo isInfo g.ts g.ts.length).isEmpty) (k:=(infosH g).length) (cs:=(infosH g).flatMap intC) (fun r h=>⟨_,h⟩) (by simp [fd]) (by simp [ht,infosH])
theorem ev104 {g:Hist'} (hs:Small g) (hm:mayH g=true):∃ v,Ev E 104 [.agg (histC g)] v∧NumR (infosH g) v:=by
 obtain ⟨v,ev,nl,hv⟩:=ev159 hs hm
 refine Ev_wpE (af:=F104) rfl (by decide) ?_
 simp [F104,histC,objCells]
 refine kS_ev ev (by simp [histC]) rfl (by simp [histC]) ?_
 obtain ⟨t,add,hr⟩:=retA_sl (ub:=192) hv
 rw [hr]
 simp
 exact slE (t:=t) (nl:=nl) (k:=(infosH g).length) (cs:=(infosH g).flatMap intC) (fun r h=>⟨_,h⟩) rfl (by simp)
theorem slE_df {st:St} {n k l u:Nat} {t:Option (Nat × Nat)} {nl:Bool} {cs:List V} {P:V→Prop} (hP:∀ r,SlR r nl k cs→P r) (hd:st.df=[(l,u)]) (ho:st.ob l=some ⟨u,.dfr⟩) (hr:st.ro≤u) (h:st.tm n = .sl t nl k cs):kEndE [.t n] P .ret st:=by
 obtain ⟨r,h1,h2⟩:=sl_end (st:={ st with ob:=fun k=>if Nat.beq l k then none else st.ob k,df:=[] }) rfl h
 exact ⟨r,endV_df hd ho hr h1,hP r h2⟩
def placeC (p:Int × Int):List V:=[.int .i64 p.1,.int .i64 p.2]
@[simp] theorem placeC_len (p:Int × Int):(placeC p).length=2:=rfl
def lostIn (i:Nat) (ops:List Op'):Nat→List (Int × Int)
 | 0=>[]
 | k+1=>lostIn i ops k++(match ops[k]? with | some o=>if o.v.kind == 2 then [((i:Int),(k:Int))] else [] | none=>[])
def lostTo (ts:List Txn'):Nat→List (Int × Int)
 | 0=>[]
 | i+1=>lostTo ts i++(match ts[i]? with | some t=>lostIn i t.ops t.ops.length | none=>[])
def lostAt (h:Hist') (i k:Nat):List (Int × Int):=lostTo h.ts i++(match h.ts[i]? with | some t=>lostIn i t.ops k | none=>[])
def lostH (h:Hist'):List (Int × Int):=lostTo h.ts h.ts.length
theorem lostIn_len (i:Nat) (ops:List Op'):∀ k,(lostIn i ops k).length≤k
 | 0=>Nat.le_refl _
 | k+1=>by
  have:=lostIn_len i ops k
  simp only [lostIn,List.length_append]
  split
  ·split <;> simp <;> omega
  ·simp;omega
theorem lostTo_len {ts:List Txn'} (h:∀ t∈ts,t.ops.length≤1000):∀ i,(lostTo ts i).length≤i * 1000
 | 0=>Nat.zero_le _
 | i+1=>by
  have:=lostTo_len h i
  simp only [lostTo,List.length_append]
  rw [show (i+1) * 1000=i * 1000+1000 by omega]
  split
  ·rename_i t ht
   have h1:=lostIn_len i t.ops t.ops.length
   have h2:=h t (List.mem_of_getElem? ht)
   omega
  ·simp only [List.length_nil];omega
theorem lostAt_step {h:Hist'} {i k:Nat} (hi:i<h.ts.length) (hk:k<(h.ts[i]).ops.length):lostAt h i (k+1)=lostAt h i k++(if (h.ts[i]).ops[k].v.kind == 2 then [((i:Int),(k:Int))] else []):=by
 simp only [lostAt,List.getElem?_eq_getElem hi,lostIn,List.getElem?_eq_getElem hk,List.append_assoc]
theorem lostAt_next {h:Hist'} {i:Nat} (hi:i<h.ts.length):lostAt h i (h.ts[i]).ops.length=lostAt h (i+1) 0:=by
 simp only [lostAt,List.getElem?_eq_getElem hi,lostTo]
 cases h.ts[i+1]? <;> simp [lostIn]
theorem lostAt_end (h:Hist'):lostAt h h.ts.length 0=lostH h:=by simp [lostAt,lostH]
theorem lostAt_zero (h:Hist'):lostAt h 0 0=[]:=by unfold lostAt;cases h.ts[0]? <;> rfl
theorem lostAt_len {h:Hist'} (hs:Small h) {i k:Nat} (hi:i<h.ts.length) (hk:k≤(h.ts[i]).ops.length):(lostAt h i k).length≤1001000:=by
 have h1:=lostTo_len hs.os i
 have h2:=hs.ts
 have h3:=lostIn_len i (h.ts[i]).ops k
 have h4:=hs.os _ (List.getElem_mem hi)
 simp only [lostAt,List.getElem?_eq_getElem hi,List.length_append]
 have:i * 1000≤1000 * 1000:=Nat.mul_le_mul_right _ (by omega)
 omega
def PlR (l:List (Int × Int)) (v:V):Prop:=∃ nl,SlR v nl l.length (l.flatMap placeC)
theorem ev105 {g:Hist'} (hs:Small g) (hm:mayH g=true):∃ v,Ev E 105 [.agg (histC g)] v∧PlR (lostH g) v:=by
 have e70:=ev103 hs
 rw [may_err hm] at e70
 have hts:=hs.ts
 refine Ev_wpE (af:=F105) rfl (by decide) ?_
 simp [F105,histC,objCells]
 refine kS_ev e70 (by simp [histC]) rfl (by simp [histC]) ?_
 simp [objCells]
 refine kS_callS (vs:=[.agg (histC g)]) (by simp [histC]) rfl ?_
 obtain ⟨r,hr,e1,e2,e3,e4⟩:=ev156 (Yf:=noYF) g _ _ 0 _ _
 refine ⟨r,hr,?_⟩
 simp
 refine wpC_gen fun st hst=>?_
 obtain ⟨m,hmm,hmU,g10,p2,p6,pl⟩:∃ m,m % 64=0∧m<st.nx∧st.tm 10 = .fn (.func 215) [] [.ptr (2 * m+1) m 0]∧st.ob 2=some ⟨0,.cells (histC g)⟩∧(∃ u,st.tm 3 = .ptr 6 u 0∧st.ob 6=some ⟨u,.cells [.sl none true 0 []]⟩)∧st.ob (2 * m+1)=some ⟨m,.cells (histC g)⟩:=by
  refine ⟨_,?_,?_,by rw [hst];simp only [setN_tm,put,upd_same];exact e1,?_,⟨320,?_,?_⟩,?_⟩
  ·decide
  ·rw [hst,setN_nx,e4];omega
  ·rw [hst];simp only [setN_ob];rw [e2];simp [histC]
  ·rw [hst];simp [put,upd_apply]
  ·rw [hst];simp only [setN_ob];rw [e2];simp
  ·rw [hst];simp only [setN_ob];rw [e2];simp
 obtain ⟨u6,g3,p6⟩:=p6
 have gd:st.df=[]:=by rw [hst];simp
 have gb:st.fb=0:=by rw [hst];simp
 have gr:st.ro=0:=by rw [hst];simp
 clear hst e1 e2 e3 e4 hr
 refine range_opsN g hts (fun t ht=>by have:=hs.os t ht;omega) rfl rfl rfl (by simpa using g10) pl (by omega) (by omega) gr
  (fun i k ob tk ub=>∃ Lv,ob 6=some ⟨u6,.cells [Lv]⟩∧Grow tk 0 ub placeC 2 (lostAt g i k) Lv) ?_ ?_ ?_ ?_ ?_
 ·rintro i k ob ob' tk ub ub' ⟨Lv,h1,h2⟩ hub hfr
  exact ⟨Lv,(hfr 6 (fun m _=>by omega)).trans h1,h2.mono (fun _ _ _ h=>h) hub⟩
 ·rintro i hi ob tk ub ⟨Lv,h1,h2⟩
  exact ⟨Lv,h1,by rw [← lostAt_next hi];exact h2⟩
 ·rintro i hi k hk ob tk ub ⟨Lv,h1,h2⟩ w1 w3 hub
  have r1:¬ 2 * st.nx+1=8:=by omega
  have r3:¬ 2 * st.nx+1=10:=by omega
  have r5:¬ 2 * st.nx+1=6:=by omega
  have q1:¬ 2 * st.nx+3=8:=by omega
  have q3:¬ 2 * st.nx+3=10:=by omega
  have q5:¬ 2 * st.nx+3=6:=by omega
  have q7:¬ 2 * st.nx+3=2 * st.nx+1:=by omega
  have b8:¬ 8=2 * st.nx+1:=by omega
  have b10:¬ 10=2 * st.nx+1:=by omega
  have b6:¬ 6=2 * st.nx+1:=by omega
  have hstep:=lostAt_step hi hk
  have hll:=lostAt_len hs hi (Nat.le_of_lt hk)
  obtain ⟨o,ho⟩:∃ o,(g.ts[i]).ops[k]=o:=⟨_,rfl⟩
  rw [ho] at hstep ⊢
  obtain ⟨tL,hLv⟩:=h2.form
  simp [setPs,upd_apply,opC,objCells,gb,splice,r1,r3,w1,b10]
  cases hl:(o.v.kind == 2)
  ·rw [hl] at hstep
   simp only [Bool.false_eq_true,if_false,List.append_nil] at hstep
   simp [upd_apply,q1,q3,w3,b6,h1]
   exact ⟨by omega,by rw [hstep];exact h2.mono (fun u _ _ h=>by simpa [app_tk0] using h) (by omega)⟩
  ·rw [hl] at hstep
   simp only [if_true] at hstep
   simp [g3,upd_apply,b6,h1,objCells,b8]
   refine kS_buildSl (cs:=placeC (i,k)) (by simp [splice,placeC]) rfl rfl ?_
   simp
   refine kS_appendG (f:=placeC) (lo:=0) (hi:=ub) (l:=lostAt g i k) (a:=((i:Int),(k:Int))) (v:=Lv) (h2.mono (fun u _ _ h=>by simp [app_tk0,app_tk,h]) (Nat.le_refl _)) (by simp) (by simp [slCells,placeC]) placeC_len (by decide) rfl (by omega) (by omega) (fun del hdel=>?_)
   have hne:lostAt g i (k+1)≠[]:=by rw [hstep];simp
   have hlen:(lostAt g i k).length+1=(lostAt g i (k+1)).length:=by rw [hstep];simp
   rw [← hstep,hlen]
   simp [g3,upd_apply,b6,h1,objCells,splice,r5,q5,q1,q3,w3]
   exact ⟨by omega,.inr ⟨hne,_,rfl,by simp [app_tk0,app_tk],Nat.zero_le _,by omega⟩⟩
 ·exact ⟨_,p6,by rw [lostAt_zero];exact Grow.nil _ _ _ _ _⟩
 ·rintro ob tk ub ⟨Lv,h1,h2⟩ w3 hub
  rw [lostAt_end] at h2
  obtain ⟨tL,hLv⟩:=h2.form
  simp [g3,objCells,h1,hLv]
  exact slE_df (l:=2 * st.nx+3) (u:=st.nx+1) (t:=tL) (nl:=(lostH g).isEmpty) (k:=(lostH g).length) (cs:=(lostH g).flatMap placeC) (fun r h=>⟨_,h⟩) (by simp [gd]) (by simp [w3]) (by simp [gr]) (by simp)
def GrowT {α:Type} (tk:Nat→Bool) (nx:Nat) (f:α→List V) (sz:Nat) (l:List α) (v:V):Prop:=∃ u,v = .sl (some (u,sz)) false l.length (l.flatMap f)∧tk u=true∧u<nx
theorem GrowT.mono {α:Type} {tk tk':Nat→Bool} {nx nx':Nat} {f:α→List V} {sz:Nat} {l:List α} {v:V} (h:GrowT tk nx f sz l v) (ht:∀ u,u<nx→tk u=true→tk' u=true) (hn:nx≤nx'):GrowT tk' nx' f sz l v:=by
 obtain ⟨u,hv,h1,h2⟩:=h
 exact ⟨u,hv,ht u h2 h1,by omega⟩
def wkB (k:Int) (o:Op'):Bool:=o.w && o.key == k
def wrB (k:Int) (t:Txn'):Bool:=t.f != 2 && t.ops.any (wkB k)
def KeyAt (k:Int) (ob:Nat→Option Obj') (l u:Nat):Prop:=l % 2=0∧ob l=some ⟨u,.cells [.int .i64 k]⟩
theorem evo296 {k:Int} {ob:Nat→Option Obj'} {l u:Nat} (hk:KeyAt k ob l u) (o:Op') (tk:Nat→Bool) (base ub:Nat):EvO E 296 [.agg (opC o),.ptr l u 0] ob tk base ub (.bool (wkB k o)):=by
 obtain ⟨h2,ho⟩:=hk
 refine EvO_wpK (af:=S296) rfl ?_
 have hne:¬ l=2 * ub+1:=by omega
 unfold wkB
 cases hw:o.w
 ·simp [S296,opC,objCells,hw]
  exact endV_1 rfl (by simp) rfl
 ·simp [S296,opC,objCells,hw,hne,ho]
  exact endV_1 rfl (by simp) rfl
theorem evo305 {p:Op'→Bool} {g:FuncId} {cap:V} {ob:Nat→Option Obj'} (hs:E.sh true g=false) (hcap:cap.strip.pureTop=false) (hp:∀ (t:Op') (tk:Nat→Bool) (base ub:Nat),EvO E g [.agg (opC t),cap] ob tk base ub (.bool (p t)))
 (nl:Bool) (l:List Op') (hl:l.length≤1000000000) (tk:Nat→Bool) (base ub:Nat):EvO E 305 [slOf nl opC l,.fn (.func g) [] [cap]] ob tk base ub (.int .i64 (firstI p l)):=by
 refine EvO_wpK (af:=S305) rfl ?_
 simp [S305]
 refine wp_loopUp [(4,5),(8,18)] l.length (fun i s=>s.tm 8 = .int .i64 i∧s.ob=ob∧∀ j (hj:j<l.length),j<i→p l[j]=false) rfl rfl ⟨by simp,by simp,fun _ _ h=>by omega⟩ ?_
 rintro i s hi ⟨h8,ho,hb⟩ f
 have h0:s.tm 0=slOf nl opC l:=by rw [f.t 0 (by simp)];simp
 have h1:s.tm 1 = .fn (.func g) [] [cap]:=by rw [f.t 1 (by simp)];simp
 have h7:s.tm 7 = .int .i64 l.length:=by rw [f.t 7 (by simp)];simp
 have hd:s.df=[]:=by rw [f.d];simp
 clear f
 by_cases hlt:i<l.length
 ·have hw:=wrapU hlt hl
  simp [h0,h1,h7,h8,hlt,idx_slOf opC_len,load_slOf opC_len]
  refine kS_callVO (f:=g) (first:=[]) (captured:=[cap]) (by simp) hs (by simp [hcap]) (v:=.bool (p l[i])) (by simpa [ho] using hp l[i] _ _ _) ?_
  cases hpi:p l[i]
  ·simp [h8,hw]
   refine ⟨hlt,ho,?_⟩
   intro j hj hji
   rcases Nat.lt_succ_iff_lt_or_eq.1 hji with h | rfl
   ·exact hb j hj h
   ·exact hpi
  ·simp
   refine endV_1 (by simpa using hd) ?_ rfl
   simp
   rw [firstI_found hlt hpi hb]
 ·have:i=l.length:=by omega
  subst this
  simp [h7,h8]
  refine endV_1 (by simpa using hd) ?_ rfl
  simp [firstI_none (fun j hj=>hb j hj hj)]
theorem evo295 {p:Op'→Bool} {g:FuncId} {ob:Nat→Option Obj'} {a b c:Nat} (hs:E.sh true g=false) (hp:∀ (t:Op') (tk:Nat→Bool) (base ub:Nat),EvO E g [.agg (opC t),.ptr a b c] ob tk base ub (.bool (p t)))
 (nl:Bool) (l:List Op') (hl:l.length≤1000000000) (tk:Nat→Bool) (base ub:Nat):EvO E 295 [slOf nl opC l,.fn (.func g) [] [.ptr a b c]] ob tk base ub (.bool (l.any p)):=by
 refine EvO_wpK (af:=S295) rfl ?_
 simp [S295]
 refine kS_callO (vs:=[slOf nl opC l,.fn (.func g) [] [.ptr a b c]]) (by simp) rfl rfl (evo305 hs rfl hp nl l hl _ _ _) ?_
 simp
 exact endV_1 rfl (by simp [firstI_any]) rfl
theorem evo294 {k:Int} {ob:Nat→Option Obj'} {l u:Nat} (hk:KeyAt k ob l u) (t:Txn') (ht:t.ops.length≤1000000) (tk:Nat→Bool) (base ub:Nat):EvO E 294 [.agg (txnC t),.ptr l u 0] ob tk base ub (.bool (wrB k t)):=by
 have hne:¬ l=2 * ub+1:=by have:=hk.1;omega
 refine EvO_wpK (af:=S294) rfl ?_
 unfold wrB
 cases hf:(t.f != 2)
 ·simp [S294,txnC,objCells,hf]
  exact endV_1 rfl (by simp) rfl
 ·simp [S294,txnC,objCells,hf]
  refine kS_callO (vs:=[slOf t.nl opC t.ops,.fn (.func 296) [] [.ptr l u 0]]) (by simp) rfl rfl (evo295 (p:=wkB k) rfl (fun t' tk base ub'=>evo296 ?_ t' tk base ub') t.nl t.ops (by omega) _ _ _) ?_
  ·obtain ⟨h2,ho⟩:=hk
   exact ⟨h2,by simp [hne,ho]⟩
  ·simp
   exact endV_1 rfl (by simp) rfl
def writersH (g:Hist') (k:Int):List Int:=numsTo (wrB k) g.ts g.ts.length
theorem ev281 {g:Hist'} (hs:Small g) (hm:mayH g=true) (k:Int):∃ v,Ev E 281 [.agg (histC g),.int .i64 k] v∧NumR (writersH g k) v:=by
 have e70:=ev103 hs
 rw [may_err hm] at e70
 have hts:=hs.ts
 refine Ev_wpE (af:=F281) rfl (by decide) ?_
 simp [F281,histC,objCells]
 refine kS_ev e70 (by simp [histC]) rfl (by simp [histC]) ?_
 simp [objCells]
 refine wp_loopUp [(4,4),(6,8),(16,28)] g.ts.length (fun i s=>s.tm 16 = .int .i64 i∧s.ob 6=some ⟨64,.cells [.int .i64 k]⟩∧Grow s.tk 0 s.nx intC 1 (numsTo (wrB k) g.ts i) (s.tm 6)) rfl rfl ⟨by simp,by simp,by simp [numsTo];exact Grow.nil _ _ _ _ _⟩ ?_
 rintro i s hi ⟨h16,o6,hG⟩ f
 have f5:s.tm 5 = .fn (.func 294) [] [.ptr 6 64 0]:=by rw [f.t 5 (by simp)];simp
 have f14:s.tm 14=slOf g.tn txnC g.ts:=by rw [f.t 14 (by simp)];simp
 have f15:s.tm 15 = .int .i64 g.ts.length:=by rw [f.t 15 (by simp)];simp
 have fd:s.df=[]:=by rw [f.d];simp
 have fb:s.fb=0:=by rw [f.b];simp
 have fr:s.ro=0:=by rw [f.r];simp
 clear f
 by_cases hlt:i<g.ts.length
 ·have hw:=wrapU hlt (by omega)
  have hsn:=numsTo_succ (p:=wrB k) hlt
  obtain ⟨t,ht⟩:∃ t,g.ts[i]=t:=⟨_,rfl⟩
  rw [ht] at hsn
  have hos:=hs.os t (ht ▸ List.getElem_mem hlt)
  have hll:=numsTo_len (wrB k) g.ts i
  simp [h16,f14,f15,hlt,idx_slOf txnC_len,load_slOf txnC_len,ht,txnC,objCells,fb,fr,splice,f5]
  refine kS_callVO (f:=294) (first:=[]) (captured:=[.ptr 6 64 0]) (by simp) rfl (by simp;rfl) (evo294 (k:=k) (l:=6) (u:=64) ⟨rfl,by simp [o6]⟩ t (by omega) _ _ _) ?_
  cases hi:wrB k t
  ·rw [hi] at hsn
   simp only [Bool.false_eq_true,if_false,List.append_nil] at hsn
   simp [h16,hw,o6]
   exact ⟨hlt,by rw [hsn];exact hG.mono (fun u _ _ h=>by simpa [app_tk0] using h) (by omega)⟩
  ·rw [hi] at hsn
   simp only [if_true] at hsn
   simp
   refine kS_buildSl (cs:=[.int .i64 i]) (by simp [splice]) rfl rfl ?_
   simp
   refine kS_appendG (f:=intC) (lo:=0) (hi:=s.nx) (l:=numsTo (wrB k) g.ts i) (a:=(i:Int)) (v:=s.tm 6) (hG.mono (fun u _ _ h=>by simp [app_tk,h]) (Nat.le_refl _)) (by simp) (by simp [slCells,intC]) intC_len (by decide) rfl (by omega) (by omega) (fun del hdel=>?_)
   have hne:numsTo (wrB k) g.ts (i+1)≠[]:=by rw [hsn];simp
   have hlen:(numsTo (wrB k) g.ts i).length+1=(numsTo (wrB k) g.ts (i+1)).length:=by rw [hsn];simp
   rw [← hsn,hlen]
   simp [h16,hw,o6]
   exact ⟨hlt,.inr ⟨hne,_,rfl,by simp [app_tk],Nat.zero_le _,by omega⟩⟩
 ·have:i=g.ts.length:=by omega
  subst this
  obtain ⟨t,ht⟩:=hG.form
  simp [h16,f15]
  exact slE (t:=t) (nl:=(numsTo (wrB k) g.ts g.ts.length).isEmpty) (k:=(writersH g k).length) (cs:=(writersH g k).flatMap intC) (fun r h=>⟨_,h⟩) (by simp [fd]) (by simp [ht,writersH])
def mostTo (g:Hist'):Nat→Nat
 | 0=>0
 | i+1=>max (mostTo g i) (writersH g i).length
def mostH (g:Hist'):Nat:=mostTo g g.ks.length
def rawTo (k:Int) (ops:List Op'):Nat→Val' × Bool
 | 0=>(⟨0,0⟩,false)
 | i+1=>match ops[i]? with
  | some o=>if wkB k o then (o.v,true) else rawTo k ops i
  | none=>rawTo k ops i
theorem rawTo_succ {k:Int} {ops:List Op'} {i:Nat} (h:i<ops.length):rawTo k ops (i+1)=if wkB k ops[i] then (ops[i].v,true) else rawTo k ops i:=by simp [rawTo,List.getElem?_eq_getElem h]
theorem rawTo_any (k:Int) (ops:List Op'):∀ i,i≤ops.length→(rawTo k ops i).2=(ops.take i).any (wkB k)
 | 0,_=>by simp [rawTo]
 | i+1,h=>by
  rw [rawTo_succ (by omega),List.take_succ_eq_append_getElem (by omega),List.any_append,← rawTo_any k ops i (by omega)]
  cases hw:wkB k ops[i] <;> simp [hw]
section
variable {E:Env} {Yf:YF} {st:St} {ub:Nat} {K:St→Nat→Prop} {d:Option Nat} {nm:Bool}
end
theorem solid_osl {st:St} {L u n:Nat} {cs:List V} (ho:st.ob L=some ⟨u,.cells cs⟩) (hl:cs.length=n) (hro:st.ro≤u) (hp:cs.all V.pureLeaf=true):solid st 6 (.osl L u 0 n 1)=some (.sl none false n cs):=by
 have hoc:objCells st.ob L u=some cs:=by simp [objCells,ho]
 have hm:∀ (k:Nat) (l:List V),l.all V.pureLeaf=true→l.mapM (solid st (k+1))=some l:=by
  intro k l
  induction l with
  | nil=>intro _;rfl
  | cons a l ih =>
   intro h
   simp only [List.all_cons,Bool.and_eq_true] at h
   rw [List.mapM_cons,ih h.2]
   have:solid st (k+1) a=some a:=by
    have:=outLeaf_pure (st:=st) (keep:=false) (i:=0) h.1
    cases a with
    | sl t nl n cs=>cases t with
     | none=>rfl
     | some t=>cases h.1
    | osl=>cases h.1
    | _=>simp only [solid,h.1,if_true]
   rw [this]
   rfl
 show ((objCells st.ob L u).bind fun cs=>if Nat.ble st.ro u=true∧0+n * 1≤cs.length then (((cs.drop 0).take (n * 1)).mapM (solid st 5)).map fun cs'=>V.sl none false n cs' else none)=_
 rw [hoc,Option.bind_some,if_pos ⟨Nat.ble_eq ▸ hro,by omega⟩,List.drop_zero,Nat.mul_one,List.take_of_length_le (by omega),hm 4 cs hp]
 rfl
theorem slOut_osl {st:St} {L u n:Nat} {cs:List V} (ho:st.ob L=some ⟨u,.cells cs⟩) (hl:cs.length=n) (hro:st.ro≤u) (hp:cs.all V.pureLeaf=true):SlOut st (.osl L u 0 n 1) false n cs:=by
 intro keep i
 have hoc:objCells st.ob L u=some cs:=by simp [objCells,ho]
 have hs:=solid_osl ho hl hro hp
 refine ⟨_,by simp only [outLeaf,hs,Option.bind_some,hoc,Option.map_some];rfl,?_⟩
 split
 ·exact .inr ⟨_,rfl⟩
 ·exact .inl rfl
end Go.Pv.T
namespace Go.Pv.T
open Go Go.Pv
end Go.Pv.T
namespace Go.Pv.T
open Go Go.Pv
end Go.Pv.T
namespace Go.Pv.T
open Go Go.Pv
structure Bnd (g:Hist'):Prop where
 i:(infosH g).length≤1000
 l:(lostH g).length≤1000000
 r:rcT g.ts≤1000000
 m:mostH g≤1000
 t:g.ts.length≤1000
theorem IntsAt.mono {ob:Nat→Option Obj'} {nx nx':Nat} {l:List Int} {v:V} (h:IntsAt ob nx l v) (hn:nx≤nx'):IntsAt ob nx' l v:=by
 rcases h with h | ⟨hne,L,u,h1,h2,h3,h4⟩
 ·exact .inl h
 ·exact .inr ⟨hne,L,u,h1,h2,by omega,h4⟩
theorem IntsAt.frame {ob ob':Nat→Option Obj'} {nx:Nat} {l:List Int} {v:V} (h:IntsAt ob nx l v) (hf:∀ k,(∀ m,nx≤m→k≠2 * m+1)→ob' k=ob k):IntsAt ob' nx l v:=by
 rcases h with h | ⟨hne,L,u,h1,h2,h3,h4⟩
 ·exact .inl h
 ·exact .inr ⟨hne,L,u,h1,by rw [hf L (fun m hm=>by omega)];exact h2,h3,h4⟩
end Go.Pv.T
namespace Go.Pv.T
open Go Go.Pv
end Go.Pv.T
namespace Go.Pv.T
open Go Go.Pv
def fewS (n:Nat) (l:List (List UInt8)):List (List UInt8):=(l.take n).map (·.take 100)
def fewT (t:Txn'):Txn':={ t with nl:=false,ops:=t.ops.take 25 }
def fewH (h:Hist'):Hist':={ sn:=(fewS 25 h.ss).isEmpty,ss:=fewS 25 h.ss,kn:=(fewS 45 h.ks).isEmpty,ks:=fewS 45 h.ks,tn:=((h.ts.take 45).map fewT).isEmpty,ts:=(h.ts.take 45).map fewT }
theorem small_few (h:Hist'):Small (fewH h):=by
 refine ⟨?_,?_,?_,?_,?_,?_⟩
 ·show (fewS 25 h.ss).length≤1000
  simp [fewS];omega
 ·intro s hs
  obtain ⟨a,_,rfl⟩:=List.mem_map.1 (show s∈fewS 25 h.ss from hs)
  simp;omega
 ·show (fewS 45 h.ks).length≤1000
  simp [fewS];omega
 ·intro s hs
  obtain ⟨a,_,rfl⟩:=List.mem_map.1 (show s∈fewS 45 h.ks from hs)
  simp;omega
 ·show ((h.ts.take 45).map fewT).length≤1000
  simp;omega
 ·intro t ht
  obtain ⟨a,_,rfl⟩:=List.mem_map.1 (show t∈(h.ts.take 45).map fewT from ht)
  simp [fewT];omega
theorem fewS_succ {n i:Nat} {l:List (List UInt8)} (hi:i<l.length) (_:i<n):fewS (i+1) l=fewS i l++[(l[i]).take 100]:=by
 rw [fewS,List.take_succ_eq_append_getElem hi,List.map_append];rfl
theorem fewS_end {n:Nat} {l:List (List UInt8)} {i:Nat} (hi:i≤l.length) (hn:i≤n) (h:¬ (i<l.length∧i<n)):fewS i l=fewS n l:=by
 unfold fewS
 congr 1
 by_cases h1:i<l.length
 ·have:i=n:=by omega
  rw [this]
 ·rw [List.take_of_length_le (by omega),List.take_of_length_le (by omega)]
def tlC:C→C
 | .seq _ b=>b
 | c=>c
def hdC:C→C
 | .seq a _=>a
 | c=>c
theorem min_len (n m:Nat):minmaxV false [.int .i64 (n:Int),.int .i64 (m:Int)]=some (.int .i64 ((min n m:Nat):Int)):=by
 simp only [minmaxV,minmaxL]
 by_cases h:n≤m
 ·rw [Nat.min_eq_left h];simp [minmax2];omega
 ·rw [Nat.min_eq_right (Nat.le_of_not_le h)];simp [minmax2];omega
theorem take_min100 (c:List UInt8):c.take (min c.length 100)=c.take 100:=by
 rcases Nat.le_total c.length 100 with h' | h'
 ·rw [Nat.min_eq_left h',List.take_of_length_le (Nat.le_refl _),List.take_of_length_le h']
 ·rw [Nat.min_eq_right h']
theorem fewS_len (n:Nat) (l:List (List UInt8)):(fewS n l).length≤n:=by simp [fewS];omega
theorem slStr_to {l:List UInt8} {kk:IntKind} {k:Nat} (h:k≤l.length):slStrV none (some (.int kk (k:Int))) (.str l)=some (.str (l.take k)):=by
 simp [slStrV,bounds,h]
theorem slSl_to {cs:List V} {kk:IntKind} {t:Option (Nat × Nat)} {nl:Bool} {sz n k:Nat} (h:k≤n) (hc:cs.length=n * sz):slSlV sz none (some (.int kk (k:Int))) (.sl t nl n cs)=some (.sl none nl k (cs.take (k * sz))):=by
 simp [slSlV,bounds,h,hc]
structure FewS (h:Hist') (s:St) (a b c N1 N2:Nat) (Sv Kv Tv:V):Prop where
 t1:s.tm 1 = .ptr 2 0 0
 t2:s.tm 2 = .ptr 4 64 0
 t3:s.tm 3 = .ptr 6 192 0
 d:s.df=[]
 ro:s.ro=0
 fb:s.fb=0
 o2:s.ob 2=some ⟨0,.cells (histC h)⟩
 o4:s.ob 4=some ⟨64,.cells [.sl none true 0 [],.sl none true 0 [],.sl none true 0 []]⟩
 o6:s.ob 6=some ⟨192,.cells [Sv,Kv,Tv]⟩
 gS:Grow s.tk 0 N1 strC 1 (fewS a h.ss) Sv
 gK:Grow s.tk N1 N2 strC 1 (fewS b h.ks) Kv
 gT:Grow s.tk N2 s.nx txnC 3 ((h.ts.take c).map fewT) Tv
 n1:N1≤N2
 n2:N2≤s.nx
end Go.Pv.T
namespace Go.Pv.T
open Go Go.Pv
end Go.Pv.T
namespace Go.Pv.T
open Go Go.Pv
theorem few_end {h:Hist'} {i:Nat} (hi:i≤h.ts.length) (hn:i≤45) (hx:¬ (i<h.ts.length∧i<45)):(h.ts.take i).map fewT=(h.ts.take 45).map fewT:=by
 congr 1
 by_cases h1:i<h.ts.length
 ·have:i=45:=by omega
  rw [this]
 ·rw [List.take_of_length_le (by omega),List.take_of_length_le (by omega)]
theorem take_ops (l:List Op') (k:Nat):(l.flatMap opC).take (k * 4)=(l.take k).flatMap opC:=by
 induction l generalizing k with
 | nil=>simp
 | cons a l ih =>
  cases k with
  | zero=>simp
  | succ k =>
   rw [List.flatMap_cons,List.take_succ_cons,List.flatMap_cons,Nat.succ_mul,← ih k]
   show (V.bool a.w::V.int .i64 a.key::V.int .i64 a.v.kind::V.int .i64 a.v.n::l.flatMap opC).take (k * 4+4)=_
   simp [opC]
theorem kE1 {st:St} {p l u:Nat} {x y z:V} {g:Hist'} (hd:st.df=[]) (hp:st.tm p = .ptr l u 0) (ho:st.ob l=some ⟨u,.cells [x,y,z]⟩)
 (hx:SlOut st x g.sn g.ss.length (g.ss.flatMap strC)) (hy:SlOut st y g.kn g.ks.length (g.ks.flatMap strC)) (hz:SlOut st z g.tn g.ts.length (g.ts.flatMap txnC)):kEndE [.cell p (some 3)] (fun r=>HistR r g) .ret st:=endH1 hd hp ho hx hy hz
theorem run217 {Yf:YF} (nl:Bool) (ops:List Op') (hm:ops.length≤1000000) {l u lh uh:Nat} {ob0:Nat→Option Obj'} {tk0:Nat→Bool} {ro base ub0:Nat} (J:Nat→(Nat→Option Obj')→(Nat→Bool)→Nat→Prop) (P:V × (Nat→Option Obj') × (Nat→Bool) × Nat→Prop)
 (hfr:∀ k ob ob' tk ub ub',J k ob tk ub→ub≤ub'→Fr ub ob ob'→J k ob' tk ub') (hcap:∀ k ob tk ub,J k ob tk ub→ob lh=some ⟨uh,.cells [slOf nl opC ops]⟩) (hru0:ro≤ub0)
 (hstep:∀ k (_:k<ops.length) ob tk ub,J k ob tk ub→ro≤ub→∃ r,EvY Yf l u [.int .i64 (ops.length - 1 - k:Nat),.agg (opC (ops.getD (ops.length - 1 - k) ⟨false,0,0,0⟩))] ob tk ro ub r∧ro≤r.2.2.2 ∧
  ((r.1 = .bool true∧J (k+1) r.2.1 r.2.2.1 r.2.2.2)∨(r.1 = .bool false∧∀ ob' ub',r.2.2.2≤ub'→Fr r.2.2.2 r.2.1 ob'→P (.tup [],ob',r.2.2.1,ub'))))
 (hend:∀ ob tk ub,J ops.length ob tk ub→P (.tup [],ob,tk,ub)) (h0:J 0 ob0 tk0 ub0):∃ r,EvS E Yf.y 274 [.yld l u,.ptr lh uh 0] ob0 tk0 ro base ub0 r∧P r:=by
 refine EvS_wp (af:=S274) rfl (by decide) ?_
 show wpC E Yf S274.body _ (kEndS S274.res P)
 have hh:=hcap 0 ob0 tk0 ub0 h0
 have w1:IntKind.i64.wrap ((ops.length:Int) - 1)=(ops.length:Int) - 1:=wrap64' (by omega) (by omega)
 simp [S274,objCells,hh,w1]
 refine wp_loopUp [(3,3),(7,18)] ops.length (fun k s=>s.tm 3 = .int .i64 ((ops.length:Int) - 1 - k)∧ro≤s.nx∧J k s.ob s.tk s.nx) rfl rfl ⟨by simp,by simp;omega,hfr _ _ _ _ _ _ h0 (by simp;omega) (Fr.refl _ _)⟩ ?_
 rintro k s hk ⟨h3,hnx,hJ⟩ f
 have f0:s.tm 0 = .yld l u:=by rw [f.t 0 (by simp)];simp
 have f1:s.tm 1 = .ptr lh uh 0:=by rw [f.t 1 (by simp)];simp
 have fd:s.df=[]:=by rw [f.d];simp
 have fr:s.ro=ro:=by rw [f.r];simp
 clear f
 have hc:=hcap _ _ _ _ hJ
 by_cases hlt:k<ops.length
 ·obtain ⟨j,hj⟩:∃ j,j=ops.length - 1 - k:=⟨_,rfl⟩
  have hjl:j<ops.length:=by omega
  have e:(ops.length:Int) - 1 - k=(j:Int):=by omega
  rw [e] at h3
  have w2:IntKind.i64.wrap ((j:Int) - 1)=(ops.length:Int) - 1 - (k+1):=by rw [wrap64' (by omega) (by omega)];omega
  have hgd:ops.getD j ⟨false,0,0,0⟩=ops[j]:=by rw [List.getD_eq_getElem?_getD,List.getElem?_eq_getElem hjl];rfl
  simp [h3,f0,f1,objCells,hc,hjl,idx_slOf opC_len,load_slOf opC_len]
  refine step_gen fun s' hs'=>?_
  have e11:s'.tm 11 = .yld l u:=by rw [hs'];simp
  have e12:s'.tm 12 = .int .i64 j:=by rw [hs'];simp
  have e16:s'.tm 16 = .agg (opC ops[j]):=by rw [hs'];simp
  have e3:s'.tm 3 = .int .i64 j:=by rw [hs'];simp [h3]
  have ed:s'.df=[]:=by rw [hs'];simp [fd]
  have er:s'.ro=ro:=by rw [hs'];simp [fr]
  have et:s'.tk=s.tk:=by rw [hs'];simp
  have eo:s'.ob=s.ob:=by rw [hs'];simp
  clear hs'
  obtain ⟨r,hr,hru,hcase⟩:=hstep k hlt s'.ob s.tk (s.nx+64+64+64+64+64+64+64+64) (hfr _ _ _ _ _ _ hJ (by omega) (by rw [eo];exact Fr.refl _ _)) (by omega)
  rw [← hj,hgd] at hr
  refine wpS_yield (l:=l) (u:=u) (by simpa using e11) ⟨r,by simpa [e12,e16,et,er] using hr,?_⟩
  rcases hcase with ⟨hr1,hJ2⟩ | ⟨hr1,hP⟩
  ·simp [hr1,put,upd_apply,e3,w2]
   exact ⟨hlt,by omega,hfr _ _ _ _ _ _ hJ2 (by omega) (Fr.refl _ _)⟩
  ·simp [hr1,put]
   refine ⟨(.tup [],r.2.1,r.2.2.1,r.2.2.2+64),?_,hP _ _ (by omega) (Fr.refl _ _)⟩
   simp [endS,ed]
 ·have:k=ops.length:=by omega
  subst this
  obtain ⟨X,hX⟩:∃ x:Int,x=(ops.length:Int) - 1 - ops.length:=⟨_,rfl⟩
  rw [← hX] at h3
  have c1:¬ 0≤X:=by omega
  simp [h3,c1]
  refine ⟨(.tup [],s.ob,s.tk,s.nx+64+64),?_,hend _ _ _ (hfr _ _ _ _ _ _ hJ (by omega) (Fr.refl _ _))⟩
  simp [endS,fd]
def AS130:C:=.region [⟨some 7,.alloc [(.bool false),(.int .i64 0),(.int .i64 0),(.int .i64 0)],none,false⟩,⟨none,.store 4 (.t 7) (.t 11),none,false⟩]
def BD130:C:=.block 1 (.seq (.region [⟨some 12,.fieldAddr 0 (.t 7),none,false⟩,⟨some 13,.load none (.t 12),none,false⟩,⟨some 14,.mov (.t 13),none,false⟩,⟨some 15,.fieldAddr 1 (.t 7),(some (14,true)),false⟩,⟨some 16,.load none (.t 15),(some (14,true)),false⟩,⟨some 17,.load none (.t 3),(some (14,true)),false⟩,⟨some 18,.bin .eql (.t 16) (.t 17),(some (14,true)),false⟩,⟨some 19,.pick (.t 14) (.t 18) (.c (.bool false)),none,false⟩])
 (.cond (.t 19) (.seq (.region [⟨some 20,.fieldAddr 2 (.t 7),none,false⟩,⟨some 21,.load (some 2) (.t 20),none,false⟩,⟨none,.store 2 (.t 4) (.t 21),none,false⟩,⟨none,.store 1 (.t 5) (.c (.bool true)),none,false⟩]) (.ret)) (.skip)))
theorem range130 (nl:Bool) (ops:List Op') (hm:ops.length≤1000000) (kv:Int) {st:St} {lh uh:Nat} (U:Nat) (hU:st.nx=U) (hU0:64≤U) (h9:st.tm 9 = .fn (.func 274) [] [.ptr lh uh 0]) (hl:∃ m,lh=2 * m+1∧m<U)
 (h3:st.tm 3 = .ptr 6 0 0) (h4:st.tm 4 = .ptr 8 64 0) (h5:st.tm 5 = .ptr 10 128 0) (hro:st.ro=0) (hfb:st.fb=0) (o6:st.ob 6=some ⟨0,.cells [.int .i64 kv]⟩) (o8:st.ob 8=some ⟨64,.cells [.int .i64 0,.int .i64 0]⟩) (o10:st.ob 10=some ⟨128,.cells [.bool false]⟩)
 (oh:st.ob lh=some ⟨uh,.cells [slOf nl opC ops]⟩) {Q:Ex→St→Prop}
 (hQ:∀ (e:Ex) (ob:Nat→Option Obj') (tk:Nat→Bool) (ub:Nat) (v:Val') (b:Bool),ob 8=some ⟨64,.cells (valC v)⟩→ob 10=some ⟨128,.cells [.bool b]⟩→ob (2 * U+3)=some ⟨U+1,.dfr⟩→U+64≤ub →
  rawTo kv ops ops.length=(v,b)→(e = .nrm∧v=⟨0,0⟩∧b=false∨e = .ret)→Q e { st with ob:=ob,tk:=tk,nx:=ub,df:=(2 * U+3,U+1)::st.df }) :
 wpC E noYF (.rangeFunc (.t 9) [10,11] AS130 BD130) st Q:=by
 obtain ⟨m,rfl,hmU⟩:=hl
 subst hU
 refine wpC_rangeFunc (g:=274) (first:=[]) (captured:=[.ptr (2 * m+1) uh 0]) (by simpa using h9) ?_
 have e1:¬ 2 * m+1=2 * st.nx+1:=by omega
 have e2:¬ 2 * m+1=2 * st.nx+3:=by omega
 have e1':¬ 2 * m=2 * st.nx:=by omega
 have e2':¬ 2 * m=2 * st.nx+2:=by omega
 have:=run217 (Yf:=roundF E noYF AS130 BD130 st [10,11] (2 * st.nx+1) st.nx) nl ops hm (l:=2 * st.nx+1) (u:=st.nx) (lh:=2 * m+1) (uh:=uh)
  (ob0:=upd (upd st.ob (2 * st.nx+3) (some ⟨st.nx+1,.dfr⟩)) (2 * st.nx+1) (some ⟨st.nx,.loop .ready none⟩)) (tk0:=st.tk) (ro:=st.ro) (base:=(st.fb+1023) * 1024) (ub0:=st.nx+64)
  (fun k ob tk ub=>rawTo kv ops ops.length=rawTo kv ops (ops.length - k)∧ob (2 * st.nx+1)=some ⟨st.nx,.loop .ready none⟩∧ob (2 * st.nx+3)=some ⟨st.nx+1,.dfr⟩∧ob 6=some ⟨0,.cells [.int .i64 kv]⟩∧ob 8=some ⟨64,.cells [.int .i64 0,.int .i64 0]⟩∧ob 10=some ⟨128,.cells [.bool false]⟩∧ob (2 * m+1)=some ⟨uh,.cells [slOf nl opC ops]⟩∧st.nx+64≤ub)
  (fun r=>∃ s pend,r.2.1 (2 * st.nx+1)=some ⟨st.nx,.loop s pend⟩∧s≠.busy∧st.ro≤st.nx∧Q (pend.getD .nrm) { st with ob:=fun k=>if Nat.beq (2 * st.nx+1) k then none else r.2.1 k,tk:=r.2.2.1,nx:=r.2.2.2,df:=(2 * st.nx+3,st.nx+1)::st.df })
  ?_ ?_ (by omega) ?_ ?_ ?_
 ·obtain ⟨r,hr,hP⟩:=this
  exact ⟨r,hr,hP⟩
 ·rintro k ob ob' tk ub ub' ⟨g1,g2,g3,g4,g5,g6,g7,g8⟩ hub hfr
  have f:∀ key,(∀ m,ub≤m→key≠2 * m+1)→ob' key=ob key:=hfr
  exact ⟨g1,by rw [f _ (fun m hm=>by omega)];exact g2,by rw [f _ (fun m hm=>by omega)];exact g3,by rw [f _ (fun m hm=>by omega)];exact g4,by rw [f _ (fun m hm=>by omega)];exact g5,by rw [f _ (fun m hm=>by omega)];exact g6,by rw [f _ (fun m hm=>by omega)];exact g7,by omega⟩
 ·rintro k ob tk ub ⟨g1,g2,g3,g4,g5,g6,g7,g8⟩
  exact g7
 ·rintro k hk ob tk ub ⟨g1,g2,g3,g4,g5,g6,g7,g8⟩ hru
  obtain ⟨j,hj⟩:∃ j,j=ops.length - 1 - k:=⟨_,rfl⟩
  have hjl:j<ops.length:=by omega
  have hgd:ops.getD j ⟨false,0,0,0⟩=ops[j]:=by rw [List.getD_eq_getElem?_getD,List.getElem?_eq_getElem hjl];rfl
  have hraw:=rawTo_succ (k:=kv) hjl
  rw [← hj,hgd]
  obtain ⟨o,ho⟩:∃ o,ops[j]=o:=⟨_,rfl⟩
  rw [ho] at hraw ⊢
  rw [show ops.length - k=j+1 by omega] at g1
  rw [hraw] at g1
  refine EvY_round (asg:=AS130) (bd:=BD130) (xs:=[.int .i64 (j:Nat),.agg (opC o)]) rfl (by omega) g2 (by decide) (by decide) ?_
  simp [AS130,setPs,objCells,hfb,opC,hro,splice]
  refine ⟨by rw [if_neg (by omega),if_neg (by omega)];exact g2,wpC_gen fun s' hs'=>?_⟩
  have f3:s'.tm 3 = .ptr 6 0 0:=by rw [hs'];simp [upd_apply,h3]
  have f4:s'.tm 4 = .ptr 8 64 0:=by rw [hs'];simp [upd_apply,h4]
  have f5:s'.tm 5 = .ptr 10 128 0:=by rw [hs'];simp [upd_apply,h5]
  have f7:s'.tm 7 = .ptr 14 ub 0:=by rw [hs'];simp
  have n6:¬ 6=2 * st.nx+1:=by omega
  have n8:¬ 8=2 * st.nx+1:=by omega
  have n10:¬ 10=2 * st.nx+1:=by omega
  have n14:¬ 14=2 * st.nx+1:=by omega
  have n3:¬ 2 * st.nx+3=2 * st.nx+1:=by omega
  have n314:¬ 2 * st.nx+3=14:=by omega
  have n114:¬ 2 * m+1=14:=by omega
  have p6:s'.ob 6=some ⟨0,.cells [.int .i64 kv]⟩:=by rw [hs'];simp [upd_apply,n6,g4]
  have p8:s'.ob 8=some ⟨64,.cells [.int .i64 0,.int .i64 0]⟩:=by rw [hs'];simp [upd_apply,n8,g5]
  have p10:s'.ob 10=some ⟨128,.cells [.bool false]⟩:=by rw [hs'];simp [upd_apply,n10,g6]
  have p14:s'.ob 14=some ⟨ub,.cells (opC o)⟩:=by rw [hs'];simp [upd_apply,n14,opC]
  have p3:s'.ob (2 * st.nx+3)=some ⟨st.nx+1,.dfr⟩:=by rw [hs'];simp [upd_apply,n314,g3]
  have p1:s'.ob (2 * st.nx+1)=some ⟨st.nx,.loop .busy none⟩:=by rw [hs'];simp
  have ph:s'.ob (2 * m+1)=some ⟨uh,.cells [slOf nl opC ops]⟩:=by rw [hs'];simp [upd_apply,e1',n114,g7]
  have fr:s'.ro=0:=by rw [hs']
  have fn:ub≤s'.nx:=by rw [hs'];simp;omega
  clear hs'
  have m18:¬ 2 * st.nx+1=8:=by omega
  have m110:¬ 2 * st.nx+1=10:=by omega
  have m38:¬ 2 * st.nx+3=8:=by omega
  have m310:¬ 2 * st.nx+3=10:=by omega
  have skip:wkB kv o=false→rawTo kv ops ops.length=rawTo kv ops (ops.length - (k+1)):=fun hw=>by
   rw [hw] at g1
   rw [g1,show ops.length - (k+1)=j by omega]
   rfl
  have done:wkB kv o=false→(skip':True)→rawTo kv ops ops.length=rawTo kv ops (ops.length - (k+1))∧upd s'.ob (2 * st.nx+1) (some ⟨st.nx,.loop .ready none⟩) (2 * st.nx+3)=some ⟨st.nx+1,.dfr⟩:=fun hw _=>⟨skip hw,by rw [upd_apply,if_neg n3];exact p3⟩
  cases hw1:o.w
  ·have hw:=skip (by unfold wkB;rw [hw1];rfl)
   simp [BD130,f7,p14,objCells,opC,hw1,p1,roundAns]
   exact ⟨hw,by rw [upd_apply,if_neg n3];exact p3,by rw [upd_apply,if_neg n6];exact p6,by rw [upd_apply,if_neg n8];exact p8,by rw [upd_apply,if_neg n10];exact p10,by rw [upd_apply,if_neg e1];exact ph,by omega⟩
  cases hk1:(o.key == kv)
  ·have hw:=skip (by unfold wkB;rw [hw1,hk1];rfl)
   simp [BD130,f7,p14,objCells,opC,hw1,f3,p6,hk1,p1,roundAns]
   exact ⟨hw,by rw [upd_apply,if_neg n3];exact p3,by rw [upd_apply,if_neg n6];exact p6,by rw [upd_apply,if_neg n8];exact p8,by rw [upd_apply,if_neg n10];exact p10,by rw [upd_apply,if_neg e1];exact ph,by omega⟩
  ·have hwt:wkB kv o=true:=by unfold wkB;rw [hw1,hk1];rfl
   rw [hwt] at g1
   simp only [if_true] at g1
   simp [BD130,f7,p14,objCells,opC,hw1,f3,p6,hk1,f4,f5,p8,p10,fr,splice,m18,m110,p1,roundAns]
   intro ob' ub' hle hfr
   have fk:∀ key,(∀ m,s'.nx+64+64+64+64+64+64+64+64+64+64+64+64≤m→key≠2 * m+1)→ob' key=_:=hfr
   have n1':∀ {k:Nat},k≠2 * st.nx+1→(if 2 * st.nx+1=k then none else ob' k)=ob' k:=fun hk=>if_neg fun e=>hk e.symm
   refine ⟨.done,some .ret,?_,by simp,?_⟩
   ·rw [fk _ (fun m hm=>by omega)]
    simp
   ·have:=hQ .ret (fun k=>if 2 * st.nx+1=k then none else ob' k) s'.tk ub' o.v true (by rw [n1' n8,fk _ (fun m hm=>by omega)];simp [upd_apply,n8,valC]) (by rw [n1' n10,fk _ (fun m hm=>by omega)];simp [upd_apply,n10])
     (by rw [n1' n3,fk _ (fun m hm=>by omega)];simp [upd_apply,m38,m310,p3]) (by omega) g1 (Or.inr rfl)
    rw [hro,hfb] at this
    simpa [app_tk0] using this
 ·rintro ob tk ub ⟨g1,g2,g3,g4,g5,g6,g7,g8⟩
  refine ⟨.ready,none,g2,by simp,by omega,?_⟩
  rw [Nat.sub_self] at g1
  exact hQ .nrm _ _ _ ⟨0,0⟩ false ((away ob (by omega)).trans g5) ((away ob (by omega)).trans g6) ((away ob (by omega)).trans g3) g8 g1 (Or.inl ⟨rfl,rfl,rfl⟩)
 ·have n13:¬ 2 * st.nx+3=2 * st.nx+1:=by omega
  have a6:¬ 6=2 * st.nx+1:=by omega
  have b6:¬ 6=2 * st.nx+3:=by omega
  have a8:¬ 8=2 * st.nx+1:=by omega
  have b8:¬ 8=2 * st.nx+3:=by omega
  have a10:¬ 10=2 * st.nx+1:=by omega
  have b10:¬ 10=2 * st.nx+3:=by omega
  exact ⟨by rw [Nat.sub_zero],by simp,by simp [upd_apply],by simp [upd_apply,a6,b6,o6],by simp [upd_apply,a8,b8,o8],by simp [upd_apply,a10,b10,o10],by simp [upd_apply,e1',e2',oh],by omega⟩
end Go.Pv.T
namespace Go.Pv.T
open Go Go.Pv
end Go.Pv.T
namespace Go.Pv.T
open Go Go.Pv
theorem may_bad {g:Hist'} (hm:mayH g=false):errH g=4:=by unfold errH;rw [hm];rfl
end Go.Pv.T
namespace Go.Pv.T
open Go Go.Pv Go.Sort
def arr {α:Type} (f:α→List V) (d:Array α):List V:=d.toList.flatMap f
theorem arr_len {α:Type} {f:α→List V} {sz:Nat} (hf:∀ a,(f a).length=sz) (d:Array α):(arr f d).length=d.size * sz:=by
 unfold arr;rw [flatMap_len hf,Array.length_toList]
section
variable {α:Type} [Inhabited α] {f:α→List V} {sz:Nat} {d:Array α}
theorem idxA {l u n:Nat} {kk:IntKind} {x:Int} (h0:0≤x) (h1:x<n):idxSlV sz (.osl l u 0 n sz) (.int kk x)=some (.ptr l u (x.toNat * sz)):=by
 simp [idxSlV,h0,h1]
end
@[simp] theorem arrI_len (d:Array Int):(arr intC d).length=d.size:=by rw [arr_len (sz:=1) intC_len,Nat.mul_one]
def At (l u:Nat) (cs:List V) (ob:Nat→Option Obj') (tk:Nat→Bool) (ub:Nat) (ob':Nat→Option Obj') (tk':Nat→Bool) (ub':Nat):Prop :=
 ob' l=some ⟨u,.cells cs⟩∧(∀ key,key≠l→(∀ m,ub≤m→key≠2 * m+1)→ob' key=ob key)∧tk'=tk∧ub≤ub'
theorem endS_nil {st:St} {P:V × (Nat→Option Obj') × (Nat→Bool) × Nat→Prop} {e:Ex} (he:e = .nrm∨e = .ret) (hd:st.df=[]) (h:P (.tup [],st.ob,st.tk,st.nx)):kEndS [] P e st:=by
 refine ⟨_,?_,h⟩
 rcases he with rfl | rfl <;> simp [endS,hd]
theorem idxN {l u n x:Nat} {kk:IntKind} {X:Int} (hX:X=(x:Nat)) (hx:x<n):idxSlV 1 (.osl l u 0 n 1) (.int kk X)=some (.ptr l u x):=by
 subst hX
 have:=idxA (sz:=1) (l:=l) (u:=u) (n:=n) (kk:=kk) (x:=(x:Int)) (by omega) (by omega)
 simpa using this
theorem At.swap {l u:Nat} {d2:Array Int} {cs:List V} {ob:Nat→Option Obj'} {tk:Nat→Bool} {ub:Nat} {ob1:Nat→Option Obj'} {tk1:Nat→Bool} {ub1:Nat} {ob2:Nat→Option Obj'} {tk2:Nat→Bool} {ub2:Nat} (h:At l u (arr intC d2) ob tk ub ob1 tk1 ub1)
 (h1:ob2 l=some ⟨u,.cells cs⟩) (h2:∀ key,key≠l→ob2 key=ob1 key) (h3:tk2=tk1) (h4:ub1≤ub2):At l u cs ob tk ub ob2 tk2 ub2 :=
 ⟨h1,fun key a b=>(h2 key a).trans (h.2.1 key a b),h3.trans h.2.2.1,Nat.le_trans h.2.2.2 h4⟩
def retS (st:St) (d:Option Nat) (v:V) (ob:Nat→Option Obj') (tk:Nat→Bool):St:={ st with tm:=put st.tm d v,ob:=ob,tk:=tk }
section
variable {st:St} {d:Option Nat} {v:V} {ob:Nat→Option Obj'} {tk:Nat→Bool}
@[simp] theorem retS_tm (e n:Nat):(retS st (some e) v ob tk).tm n=if n=e then v else st.tm n:=by simp [retS,put,upd_apply]
@[simp] theorem retS_tm0 (n:Nat):(retS st none v ob tk).tm n=st.tm n:=rfl
@[simp] theorem retS_ob:(retS st d v ob tk).ob=ob:=rfl
@[simp] theorem retS_tk:(retS st d v ob tk).tk=tk:=rfl
@[simp] theorem retS_ro:(retS st d v ob tk).ro=st.ro:=rfl
@[simp] theorem retS_nx:(retS st d v ob tk).nx=st.nx:=rfl
@[simp] theorem retS_fb:(retS st d v ob tk).fb=st.fb:=rfl
@[simp] theorem retS_df:(retS st d v ob tk).df=st.df:=rfl
end
@[simp] theorem nilCheckV_ptr (l u o:Nat):nilCheckV (.ptr l u o)=some (.ptr l u o):=rfl
theorem kS_callP {Yf:YF} {f:FuncId} {xs:List A} {st:St} {ub:Nat} {K:St→Nat→Prop} {d:Option Nat} {nm:Bool} {vs:List V} {P:V × (Nat→Option Obj') × (Nat→Bool) × Nat→Prop} (hx:xs.map (eval E st.tm)=vs) (hs:E.sh nm f=true)
 (he:∃ r,EvS E Yf.y f vs st.ob st.tk st.ro ((st.fb+d.getD 0+1) * 1024) ub r∧P r) (h:∀ v ob' tk' ub',P (v,ob',tk',ub')→K (retS st d v ob' tk') ub'):wpStep E Yf ⟨d,.call f xs,none,nm⟩ st ub K:=by
 obtain ⟨r,hr,hP⟩:=he
 exact kS_callS hx hs ⟨r,hr,h r.1 r.2.1 r.2.2.1 r.2.2.2 hP⟩
theorem endS_1 {st:St} {x:Nat} {P:V × (Nat→Option Obj') × (Nat→Bool) × Nat→Prop} (hd:st.df=[]) (h:P (st.tm x,st.ob,st.tk,st.nx)):kEndS [.t x] P .ret st:=⟨_,by simp [endS,hd,resOf],h⟩
theorem At.refl {l u:Nat} {cs:List V} {ob:Nat→Option Obj'} {tk:Nat→Bool} {ub:Nat} (h:ob l=some ⟨u,.cells cs⟩):At l u cs ob tk ub ob tk ub:=⟨h,fun _ _ _=>rfl,rfl,Nat.le_refl _⟩
theorem At.trans {l u:Nat} {cs cs':List V} {ob ob1 ob2:Nat→Option Obj'} {tk tk1 tk2:Nat→Bool} {ub ub1 ub1' ub2:Nat} (h:At l u cs ob tk ub ob1 tk1 ub1) (h':At l u cs' ob1 tk1 ub1' ob2 tk2 ub2) (hu:ub1≤ub1'):At l u cs' ob tk ub ob2 tk2 ub2 :=
 ⟨h'.1,fun key a b=>(h'.2.1 key a (fun m hm=>b m (by have:=h.2.2.2;omega))).trans (h.2.1 key a b),h'.2.2.1.trans h.2.2.1,by have:=h.2.2.2;have:=h'.2.2.2;omega⟩
def Cn (w uw:Nat) (ob:Nat→Option Obj') (tk:Nat→Bool) (ub:Nat) (ob':Nat→Option Obj') (tk':Nat→Bool) (ub':Nat):Prop :=
 (∃ c,ob' w=some ⟨uw,.cells [.int .i64 c]⟩)∧(∀ key,key≠w→ob' key=ob key)∧tk'=tk∧ub≤ub'
theorem Cn.trans {w uw:Nat} {ob ob1 ob2:Nat→Option Obj'} {tk tk1 tk2:Nat→Bool} {ub ub1 ub1' ub2:Nat} (h:Cn w uw ob tk ub ob1 tk1 ub1) (h':Cn w uw ob1 tk1 ub1' ob2 tk2 ub2) (hu:ub1≤ub1'):Cn w uw ob tk ub ob2 tk2 ub2 :=
 ⟨h'.1,fun key a=>(h'.2.1 key a).trans (h.2.1 key a),h'.2.2.1.trans h.2.2.1,by have:=h.2.2.2;have:=h'.2.2.2;omega⟩
theorem kIf_gen {Yf:YF} {a b:C} {st:St} {Q:Ex→St→Prop} {c:Bool} (h:∀ s,s=st→kIf E Yf a b s Q c):kIf E Yf a b st Q c:=h st rfl
def Calm (s s':St):Prop:=s'.ob=s.ob∧s'.tk=s.tk∧s.nx≤s'.nx
theorem Calm.refl (s:St):Calm s s:=⟨rfl,rfl,Nat.le_refl _⟩
theorem Calm.trans {a b c:St} (h:Calm a b) (h':Calm b c):Calm a c:=⟨h'.1.trans h.1,h'.2.1.trans h.2.1,Nat.le_trans h.2.2 h'.2.2⟩
end Go.Pv.T
namespace Go.Pv.T
open Go Go.Pv Go.Sort
end Go.Pv.T
namespace Go.Pv.T
open Go Go.Pv Go.Sort
end Go.Pv.T
namespace Go.Pv.T
open Go Go.Pv Go.Sort
@[simp] theorem convV_int (k k':IntKind) (n:Int):convV k (.int k' n)=some (.int k (k.wrap n)):=rfl
end Go.Pv.T
namespace Go.Pv.T
open Go Go.Pv Go.Sort
end Go.Pv.T
namespace Go.Pv.T
open Go Go.Pv Go.Sort
structure PQ (l u ro a b:Nat) (d:Array Int) (ob:Nat→Option Obj') (tk:Nat→Bool) (ub a1 b1:Nat) (d1:Array Int) (s:St):Prop where
 t0:s.tm 0 = .osl l u 0 d.size 1
 t1:s.tm 1 = .int .i64 a1
 t2:s.tm 2 = .int .i64 b1
 t10:s.tm 10 = .int .i64 ((b1:Int) - a1)
 df:s.df=[]
 ro:s.ro=ro
 mem:At l u (arr intC d1) ob tk ub s.ob s.tk s.nx
 sz:d1.size=d.size
 bl:Below ltInt a1 b1 d1
 go:∀ R,PermIn a1 b1 d1 R→SortedIn ltInt a1 b1 R→PermIn a b d R∧SortedIn ltInt a b R
theorem PQ.turn {l u ro a b:Nat} {d:Array Int} {ob:Nat→Option Obj'} {tk:Nat→Bool} {ub a1 b1:Nat} {d2 d3:Array Int} {s s':St} (hp:PQ l u ro a b d ob tk ub a1 b1 d2 s) (hb1:b1≤d.size) (h0:s'.tm 0=s.tm 0) (h1:s'.tm 1=s.tm 1) (h2:s'.tm 2=s.tm 2) (h10:s'.tm 10=s.tm 10) (hd:s'.df=s.df) (hr:s'.ro=s.ro)
 (hm:At l u (arr intC d3) ob tk ub s'.ob s'.tk s'.nx) (hpm:PermIn a1 b1 d2 d3):PQ l u ro a b d ob tk ub a1 b1 d3 s' :=
 ⟨h0.trans hp.t0,h1.trans hp.t1,h2.trans hp.t2,h10.trans hp.t10,hd.trans hp.df,hr.trans hp.ro,hm,hpm.1.trans hp.sz,hp.bl.perm (by rw [hp.sz];exact hb1) hpm,fun R hR hs=>hp.go R (permIn_trans _ _ _ a1 b1 hpm hR) hs⟩
theorem sv69n {Yf:YF} {ob:Nat→Option Obj'} {tk:Nat→Bool} {ro base ub:Nat}:∃ r,EvS E Yf.y 69 [.sl none true 0 []] ob tk ro base ub r∧r.2.1=ob∧r.2.2.1=tk∧ub≤r.2.2.2 :=
 ⟨(.tup [],ob,tk,ub),EvS_srt rfl rfl rfl,rfl,rfl,Nat.le_refl _⟩
theorem ints_mapM:∀ L:List Int,(L.flatMap intC).mapM int64? = some L
 | []=>rfl
 | x::L=>by
  rw [List.flatMap_cons]
  show (V.int .i64 x::L.flatMap intC).mapM int64? = _
  simp only [List.mapM_cons,ints_mapM L]
  rfl
theorem sv69 {Yf:YF} {l u:Nat} {L T:List Int} (hp:L.Perm T) (hs:T.Pairwise (·≤·)) (hL:L.length≤1000000000) {ob:Nat→Option Obj'} {tk:Nat→Bool} {ro base ub:Nat} (ho:ob l=some ⟨u,.cells (L.flatMap intC)⟩) (hro:ro≤u) (_:∀ m,ub≤m→l≠2 * m+1) (_:ro≤ub) :
 ∃ r,EvS E Yf.y 69 [.osl l u 0 L.length 1] ob tk ro base ub r∧At l u (T.flatMap intC) ob tk ub r.2.1 r.2.2.1 r.2.2.2:=by
 have hT:sortI L=T:=perm_one ((sortI_perm L).trans hp) (sortI_pw L) hs
 have hlen:(L.flatMap intC).length=L.length:=by rw [flatMap_len intC_len,Nat.mul_one]
 have hmap:∀ T:List Int,T.map (V.int .i64)=T.flatMap intC:=fun T=>by induction T <;> simp_all [intC]
 refine ⟨(.tup [],upd ob l (some ⟨u,.cells (T.flatMap intC)⟩),tk,ub),EvS_srt rfl ?_ rfl,by simp,fun key h1 _=>by simp [upd_ne _ _ h1],rfl,Nat.le_refl _⟩
 have hc:objCells ob l u=some (L.flatMap intC):=by simp [objCells,ho]
 simp only [sortA,hc,Option.bind_some]
 rw [if_pos ⟨Nat.ble_eq ▸ hro,trivial,by omega,hL⟩,List.drop_zero,List.take_of_length_le (by omega),ints_mapM,Option.map_some,hT,hmap]
 have:(T.flatMap intC).length=(L.flatMap intC).length:=by rw [flatMap_len intC_len,flatMap_len intC_len,hp.length_eq]
 rw [splice,List.take_zero,List.nil_append,List.drop_of_length_le (by omega),List.append_nil]
end Go.Pv.T
namespace Go.Pv.T
open Go Go.Pv
theorem sv237 {Yf:YF} {sl:V} (hs:sl.cells=[sl]) (hl:sl.leaf=true) {ob:Nat→Option Obj'} {tk:Nat→Bool} {ro base ub:Nat}:∃ r,EvS E Yf.y 237 [sl] ob tk ro base ub r ∧
 r.1 = .fn (.func 274) [] [.ptr (2 * ub+1) ub 0]∧(∀ key,r.2.1 key=if key=2 * ub+1 then some ⟨ub,.cells [sl]⟩ else ob key)∧r.2.2.1=tk∧r.2.2.2=ub+256:=by
 refine EvS_wp (af:=S237) rfl (by decide) ?_
 show wpC E Yf S237.body _ (kEndS S237.res _)
 simp [S237,hs,hl]
 exact endS_1 (by simp) ⟨by simp,fun key=>by simp,by simp [app_tk0],by simp⟩
def lastW (ops:List Op') (key:Int):Val' × Bool:=rawTo key ops ops.length
theorem ev177 (nl:Bool) (ops:List Op') (hm:ops.length≤1000000) (key:Int):Ev E 177 [slOf nl opC ops,.int .i64 key] (.tup [.agg (valC (lastW ops key).1),.bool (lastW ops key).2]):=by
 refine Ev_wpK (af:=F177) rfl ?_
 simp [F177]
 refine kS_callP (vs:=[slOf nl opC ops]) (by simp) rfl (sv237 (by simp) (by simp)) ?_
 rintro v ob1 tk1 ub1 ⟨e1,e2,e3,e4⟩
 simp only at e1 e2 e3 e4
 subst e1 e4
 simp
 refine wpC_gen fun st hst=>?_
 have g3:st.tm 3 = .ptr 6 0 0:=by rw [hst];simp
 have g4:st.tm 4 = .ptr 8 64 0:=by rw [hst];simp
 have g5:st.tm 5 = .ptr 10 128 0:=by rw [hst];simp
 have g9:st.tm 9 = .fn (.func 274) [] [.ptr 513 256 0]:=by rw [hst];simp
 have gd:st.df=[]:=by rw [hst];simp
 have gb:st.fb=0:=by rw [hst];simp
 have gr:st.ro=0:=by rw [hst];simp
 have gn:st.nx=512:=by rw [hst];simp
 have p6:st.ob 6=some ⟨0,.cells [.int .i64 key]⟩:=by rw [hst];simp only [setN_ob,retS_ob];rw [e2];simp
 have p8:st.ob 8=some ⟨64,.cells [.int .i64 0,.int .i64 0]⟩:=by rw [hst];simp only [setN_ob,retS_ob];rw [e2];simp
 have p10:st.ob 10=some ⟨128,.cells [.bool false]⟩:=by rw [hst];simp only [setN_ob,retS_ob];rw [e2];simp
 have ph:st.ob 513=some ⟨256,.cells [slOf nl opC ops]⟩:=by rw [hst];simp only [setN_ob,retS_ob];rw [e2];simp
 clear hst e2
 refine range130 nl ops hm key 512 gn (by omega) g9 ⟨256,rfl,by omega⟩ g3 g4 g5 gr gb p6 p8 p10 ph ?_
 intro e ob tk ub v b q8 q10 qd hub hraw hcase
 have hl:lastW ops key=(v,b):=hraw
 rw [hl]
 rcases hcase with ⟨rfl,rfl,rfl⟩ | rfl
 ·simp [g4,g5,objCells,q8,q10,gr,splice,valC]
  refine endV_df (l:=1027) (u:=513) (by simp [gd]) (by simp [qd]) (by simp) (kEnd_of rfl (l:=[.agg (valC ⟨0,0⟩),.bool false]) (by simp [resOf,objCells,g4,g5,valC]) rfl rfl)
 ·simp
  refine endV_df (l:=1027) (u:=513) (by simp [gd]) (by simp [qd]) (by simp [gr]) (kEnd_of rfl (l:=[.agg (valC v),.bool b]) (by simp [resOf,objCells,g4,g5,q8,q10,valC]) rfl rfl)
def opsAt (h:Hist') (i:Int):Bool × List Op':=if mayH h && (decide (0≤i) && decide (i<h.ts.length)) then ((h.ts.getD i.toNat ⟨0,0,true,[]⟩).nl,(h.ts.getD i.toNat ⟨0,0,true,[]⟩).ops) else (true,[])
theorem ev176 {h:Hist'} (hs:Small h) (i:Int):Ev E 176 [.agg (histC h),.int .i64 i] (slOf (opsAt h i).1 opC (opsAt h i).2):=by
 have e70:=ev103 hs
 have hts:=hs.ts
 refine Ev_wpK (af:=F176) rfl ?_
 obtain ⟨R,hR⟩:∃ R,opsAt h i=R:=⟨_,rfl⟩
 rw [hR]
 unfold opsAt at hR
 simp [F176,histC,objCells]
 refine kS_ev e70 (by simp [histC]) rfl (by simp [histC]) ?_
 cases hm:mayH h
 ·rw [may_bad hm]
  rw [hm] at hR
  subst hR
  simp
  exact endV_1 rfl (by simp [slOf]) rfl
 rw [hm] at hR
 rw [may_err hm]
 by_cases k1:i<0
 ·rw [if_neg (by simp;omega)] at hR
  subst hR
  simp [k1]
  exact endV_1 rfl (by simp [slOf]) rfl
 by_cases k2:(h.ts.length:Int)≤i
 ·rw [if_neg (by simp;omega)] at hR
  subst hR
  simp [k1,k2,objCells]
  exact endV_1 rfl (by simp [slOf]) rfl
 rw [if_pos (by simp;omega)] at hR
 obtain ⟨j,rfl⟩:∃ j:Nat,i=j:=⟨i.toNat,by omega⟩
 have hj:j<h.ts.length:=by omega
 have hl3:(h.ts.flatMap txnC)[j * 3+2]? = some (slOf (h.ts[j]).nl opC (h.ts[j]).ops):=by
  rw [fld_at txnC_len h.ts hj (by decide:2<3)];rfl
 rw [Int.toNat_natCast,getD_lt hj] at hR
 subst hR
 simp [k1,k2,objCells,hj,idx_slOf txnC_len,hl3]
 exact endV_1 rfl (by simp) rfl
theorem opsAt_len {h:Hist'} (hs:Small h) (i:Int):(opsAt h i).2.length≤1000:=by
 unfold opsAt
 split
 ·rename_i hc
  simp only [Bool.and_eq_true,decide_eq_true_eq] at hc
  have hj:i.toNat<h.ts.length:=by omega
  rw [getD_lt hj]
  exact hs.os _ (List.getElem_mem hj)
 ·simp
theorem ev116 {h:Hist'} (hs:Small h) (i key:Int):Ev E 116 [.agg (histC h),.int .i64 i,.int .i64 key] (.tup [.agg (valC (lastW (opsAt h i).2 key).1),.bool (lastW (opsAt h i).2 key).2]):=by
 have e129:=ev176 hs i
 have e130:=ev177 (opsAt h i).1 (opsAt h i).2 (by have:=opsAt_len hs i;omega) key
 refine Ev_wpK (af:=F116) rfl ?_
 generalize (opsAt h i).1=nl at *
 generalize (opsAt h i).2=ops at *
 obtain ⟨R,hR⟩:∃ R,lastW ops key=R:=⟨_,rfl⟩
 rw [hR] at e130 ⊢
 simp [F116,histC,objCells]
 refine kS_ev e129 (by simp [histC]) rfl (by simp [histC]) ?_
 rw [retA_plain (show (slOf nl opC ops).plain=true from rfl)]
 simp
 refine kS_ev e130 (by simp) rfl (by simp) ?_
 rw [retA_tupl (by simp [V.plain,valC])]
 simp [objCells,splice,valC]
 exact kEnd_of (by simp) (l:=[.agg (valC R.1),.bool R.2]) (by simp [resOf,objCells,valC]) rfl rfl
def opAt (h:Hist') (a b:Int):Option Op' :=
 if mayH h && (decide (0≤a) && (decide (a<h.ts.length) && (decide (0≤b) && decide (b<((h.ts.getD a.toNat ⟨0,0,true,[]⟩).ops.length:Nat))))) then (h.ts.getD a.toNat ⟨0,0,true,[]⟩).ops[b.toNat]? else none
def op0:Op':=⟨false,0,0,0⟩
theorem ev254 {h:Hist'} (hs:Small h) (a b:Int):Ev E 254 [.agg (histC h),.agg (placeC (a,b))] (.tup [.agg (opC ((opAt h a b).getD op0)),.bool ((opAt h a b).any fun o=>!o.w)]):=by
 have e70:=ev103 hs
 have hts:=hs.ts
 refine Ev_wpK (af:=F254) rfl ?_
 obtain ⟨R,hR⟩:∃ R,opAt h a b=R:=⟨_,rfl⟩
 rw [hR]
 unfold opAt at hR
 simp [F254,histC,objCells,placeC]
 generalize hK:kSeq E noYF (C.seq (C.draw _ _) _) (kEnd _ _)=K
 have hret:∀ s:St,kEnd [.cell 4 (some 4),.t 5] (.tup [.agg (opC (R.getD op0)),.bool (R.any fun o=>!o.w)]) .ret s→K .ret s:=fun s h=>by
  rw [← hK,kSeq_ret]
  exact h
 refine kD_ev e70 (by simp [histC]) rfl (by simp [histC]) ?_
 cases hm:mayH h
 ·rw [may_bad hm]
  rw [hm] at hR
  subst hR
  simp [objCells,splice]
  exact hret _ (kEnd_of (by simp) (l:=[.agg (opC op0),.bool false]) (by simp [resOf,objCells,opC,op0]) rfl rfl)
 rw [hm] at hR
 rw [may_err hm]
 by_cases k1:a<0
 ·rw [if_neg (by simp;omega)] at hR
  subst hR
  simp [k1,objCells,splice]
  exact hret _ (kEnd_of (by simp) (l:=[.agg (opC op0),.bool false]) (by simp [resOf,objCells,opC,op0]) rfl rfl)
 by_cases k2:(h.ts.length:Int)≤a
 ·rw [if_neg (by simp;omega)] at hR
  subst hR
  simp [k1,k2,objCells,splice]
  exact hret _ (kEnd_of (by simp) (l:=[.agg (opC op0),.bool false]) (by simp [resOf,objCells,opC,op0]) rfl rfl)
 obtain ⟨i,rfl⟩:∃ i:Nat,a=i:=⟨a.toNat,by omega⟩
 have hi:i<h.ts.length:=by omega
 rw [Int.toNat_natCast,getD_lt hi] at hR
 obtain ⟨t,ht⟩:∃ t,h.ts[i]=t:=⟨_,rfl⟩
 rw [ht] at hR
 have hos:=hs.os t (ht ▸ List.getElem_mem hi)
 have hl3:(h.ts.flatMap txnC)[i * 3+2]? = some (slOf t.nl opC t.ops):=by
  rw [fld_at txnC_len h.ts hi (by decide:2<3),ht];rfl
 by_cases k3:b<0
 ·rw [if_neg (by simp;omega)] at hR
  subst hR
  simp [k1,k2,k3,objCells,splice]
  exact hret _ (kEnd_of (by simp) (l:=[.agg (opC op0),.bool false]) (by simp [resOf,objCells,opC,op0]) rfl rfl)
 by_cases k4:(t.ops.length:Int)≤b
 ·rw [if_neg (by simp;omega)] at hR
  subst hR
  simp [k1,k2,k3,k4,objCells,splice,hi,idx_slOf txnC_len,hl3]
  exact hret _ (kEnd_of (by simp) (l:=[.agg (opC op0),.bool false]) (by simp [resOf,objCells,opC,op0]) rfl rfl)
 obtain ⟨j,rfl⟩:∃ j:Nat,b=j:=⟨b.toNat,by omega⟩
 have hj:j<t.ops.length:=by omega
 rw [if_pos (by simp;omega),Int.toNat_natCast,List.getElem?_eq_getElem hj] at hR
 obtain ⟨o,ho⟩:∃ o,t.ops[j]=o:=⟨_,rfl⟩
 rw [ho] at hR
 subst hR
 have k4':¬ t.ops.length≤j:=by omega
 have k2':¬ h.ts.length≤i:=by omega
 have rest:∀ s:St,s.tm 2 = .ptr 4 0 0→s.tm 3 = .ptr 6 64 0→s.tm 4 = .ptr 8 128 0→s.ob 4=some ⟨0,.cells (histC h)⟩→s.ob 6=some ⟨64,.cells [.int .i64 i,.int .i64 j]⟩→s.ob 8=some ⟨128,.cells [.bool false,.int .i64 0,.int .i64 0,.int .i64 0]⟩→s.df=[]→s.ro=0→s.fb=0→K .nrm s:=by
  intro s h2 h3 h4 o4 o6 o8 hd hr hf
  rw [← hK,kSeq_nrm]
  simp [h2,h3,o4,o6,objCells,histC,hi,idx_slOf txnC_len,hl3,hj,idx_slOf opC_len,load_slOf opC_len,ho,opC,splice,hf,hr]
  refine ⟨by simp [drawOk,indep,disj,fpOf,rdOb,rdTk,lOf,Delta.wo,Delta.wt];try decide,?_⟩
  simp [h4,o8,objCells,hr,splice]
  refine ⟨by simp [drawOk,indep,disj,fpOf,rdOb,rdTk,lOf,Delta.wo,Delta.wt,h4];try decide,?_⟩
  exact kEnd_of (by simp [hd]) (l:=[.agg (opC o),.bool !o.w]) (by simp [resOf,objCells,opC,h4]) rfl (by simp [tupOf,opC])
 clear hK
 simp [k1,k2,k3,k4,objCells,hi,idx_slOf txnC_len,hl3]
 exact rest _ (by simp) (by simp) (by simp) (by simp [histC]) (by simp) (by simp) (by simp) (by simp) (by simp)
def valV (v:Val'):V:=.agg (valC v)
def leaveOf (g:Hist') (key i:Int):Val':=(lastW (opsAt g i).2 key).1
def othersOf (g:Hist') (a key:Int) (W:List Int):List (Int × Val'):=(W.filter fun i=>!(i == a)).map fun i=>(i,leaveOf g key i)
theorem numsTo_lt {p:Txn'→Bool} {ts:List Txn'}:∀ n,n≤ts.length→(∀ x∈numsTo p ts n,0≤x∧x<n)∧(numsTo p ts n).Pairwise (· < ·)
 | 0,_=>by simp [numsTo]
 | n+1,h=>by
  have ih:=numsTo_lt (p:=p) (ts:=ts) n (by omega)
  have e:=numsTo_succ (p:=p) (show n<ts.length by omega)
  rw [e]
  cases hp:p ts[n]
  ·simp only [Bool.false_eq_true,if_false,List.append_nil]
   exact ⟨fun x hx=>by have:=ih.1 x hx;omega,ih.2⟩
  ·simp only [if_true]
   refine ⟨fun x hx=>?_,?_⟩
   ·rcases List.mem_append.1 hx with h | h
    ·have:=ih.1 x h;omega
    ·rw [List.mem_singleton] at h;omega
   ·rw [List.pairwise_append]
    refine ⟨ih.2,List.pairwise_singleton _ _,fun x hx y hy=>?_⟩
    rw [List.mem_singleton] at hy
    have:=ih.1 x hx
    omega
theorem mset_new {α:Type} {m:List (Int × α)} {k:Int} {a:α} (h:k ∉ m.map (·.1)):mset m k a=m++[(k,a)]:=by
 unfold mset
 rw [mfind_none.2 h]
theorem othersOf_snoc {g:Hist'} {a key:Int} {W:List Int} {i:Nat} (hi:i<W.length):othersOf g a key (W.take (i+1))=othersOf g a key (W.take i)++(if W[i]=a then [] else [(W[i],leaveOf g key W[i])]):=by
 unfold othersOf
 rw [List.take_succ_eq_append_getElem hi,List.filter_append,List.map_append]
 by_cases h:W[i]=a <;> simp [h]
theorem othersOf_new {g:Hist'} {a key:Int} {W:List Int} (hW:W.Pairwise (· < ·)) {i:Nat} (hi:i<W.length):W[i] ∉ (othersOf g a key (W.take i)).map (·.1):=by
 intro h
 unfold othersOf at h
 rw [List.map_map] at h
 obtain ⟨x,hx,he⟩:=List.mem_map.1 h
 have hx':=(List.mem_filter.1 hx).1
 simp only [Function.comp] at he
 obtain ⟨j,hj,rfl⟩:=List.getElem_of_mem hx'
 rw [List.length_take] at hj
 rw [List.getElem_take] at he
 have:=List.pairwise_iff_getElem.1 hW j i (by omega) hi (by omega)
 omega
def OthR (g:Hist') (a key:Int) (W:List Int) (ob:Nat→Option Obj') (ub:Nat) (r:V × (Nat→Option Obj') × (Nat→Bool) × Nat):Prop :=
 ∃ M U ver:Nat,r.1 = .map (2 * M+1) U∧ub≤M∧M<r.2.2.2∧ub≤U∧r.2.1 (2 * M+1)=some ⟨U,.mp ver (MP valV (othersOf g a key W))⟩∧(∀ k,(∀ m,ub≤m→k≠2 * m+1)→r.2.1 k=ob k)∧ub≤r.2.2.2
theorem sv255 {Yf:YF} {g:Hist'} (hs:Small g) (hm:mayH g=true) (a key:Int) {ob:Nat→Option Obj'} {tk:Nat→Bool} {ro base ub:Nat} (hru:ro≤ub) :
 ∃ r,EvS E Yf.y 255 [.agg (histC g),.int .i64 a,.int .i64 key] ob tk ro base ub r∧OthR g a key (writersH g key) ob ub r:=by
 refine EvS_wp (af:=S255) rfl (by decide) ?_
 show wpC E Yf S255.body _ (kEndS S255.res _)
 obtain ⟨vw,e72,hv⟩:=ev281 hs hm key
 obtain ⟨W,hW⟩:∃ W,writersH g key=W:=⟨_,rfl⟩
 have hWl:W.length≤1000:=by have h1:=numsTo_len (wrB key) g.ts g.ts.length;have h2:=hs.ts;rw [← hW];unfold writersH;omega
 have hWp:W.Pairwise (· < ·):=by rw [← hW];exact (numsTo_lt _ (Nat.le_refl _)).2
 rw [hW] at hv ⊢
 have n1:¬ 2 * ub=2 * (ub+64+64):=by omega
 have n2:¬ 2 * (ub+64+64)=2 * ub:=by omega
 simp [S255,histC,objCells,n1]
 refine kS_ev e72 (by simp [histC]) rfl (by simp [histC]) ?_
 obtain ⟨nl,hv⟩:=hv
 obtain ⟨t,add,hret⟩:=retA_sl (ub:=ub+64+64+64+64+64+64) hv
 rw [hret]
 simp
 refine wpC_gen fun st hst=>?_
 obtain ⟨M,hM⟩:∃ M,M=ub+64+64:=⟨_,rfl⟩
 have g1:st.tm 1 = .int .i64 a:=by rw [hst];simp
 have g2:st.tm 2 = .int .i64 key:=by rw [hst];simp
 have g3:st.tm 3 = .ptr (2 * ub+1) ub 0:=by rw [hst];simp
 have g7:st.tm 7 = .map (2 * M+1) M:=by rw [hst,hM];simp
 have g13:st.tm 13 = .sl t nl W.length (W.flatMap intC):=by rw [hst];simp
 have g14:st.tm 14 = .int .i64 W.length:=by rw [hst];simp
 have g15:st.tm 15 = .int .i64 0:=by rw [hst];simp
 have gd:st.df=[]:=by rw [hst];simp
 have gr:st.ro=ro:=by rw [hst];simp
 have gn:M<st.nx:=by rw [hst,hM];simp
 have ph:st.ob (2 * ub+1)=some ⟨ub,.cells (histC g)⟩:=by rw [hst];simp [n1,histC]
 have pm:st.ob (2 * M+1)=some ⟨M,.mp 0 []⟩:=by rw [hst,hM];simp
 have pf:∀ k,(∀ m,ub≤m→k≠2 * m+1)→st.ob k=ob k:=by
  intro k hk
  have h1:=hk ub (by omega)
  have h2:=hk (ub+64+64) (by omega)
  rw [hst];simp [h1,h2]
 clear hst hret
 have hMu:ub<M:=by omega
 clear hM n1 n2
 refine wp_loopUp [(9,9),(15,31)] W.length (fun i s=>s.tm 15 = .int .i64 i∧M<s.nx∧s.ob (2 * ub+1)=some ⟨ub,.cells (histC g)⟩∧(∀ k,(∀ m,ub≤m→k≠2 * m+1)→s.ob k=ob k)∧∃ ver,s.ob (2 * M+1)=some ⟨M,.mp ver (MP valV (othersOf g a key (W.take i)))⟩) rfl rfl
  ⟨by simp [g15],gn,ph,pf,0,by simp [pm,othersOf,MP]⟩ ?_
 rintro i s hi ⟨h15,hn,oh,of,ver,om⟩ f
 have f1:s.tm 1 = .int .i64 a:=by rw [f.t 1 (by simp),g1]
 have f2:s.tm 2 = .int .i64 key:=by rw [f.t 2 (by simp),g2]
 have f3:s.tm 3 = .ptr (2 * ub+1) ub 0:=by rw [f.t 3 (by simp),g3]
 have f7:s.tm 7 = .map (2 * M+1) M:=by rw [f.t 7 (by simp),g7]
 have f13:s.tm 13 = .sl t nl W.length (W.flatMap intC):=by rw [f.t 13 (by simp),g13]
 have f14:s.tm 14 = .int .i64 W.length:=by rw [f.t 14 (by simp),g14]
 have fd:s.df=[]:=by rw [f.d,gd]
 have fr:s.ro=ro:=by rw [f.r,gr]
 clear f
 by_cases hlt:i<W.length
 ·have hw:=wrapU hlt (by omega)
  obtain ⟨x,hx⟩:∃ x,W[i]=x:=⟨_,rfl⟩
  have hI:idxSlV 1 (.sl t nl W.length (W.flatMap intC)) (.int .i64 (i:Int))=some (.eptr (W.flatMap intC) i):=by
   simp [idxSlV,hlt,flatMap_len intC_len]
  have hLd:∀ ob,loadV ob none (.eptr (W.flatMap intC) i)=some (.int .i64 x):=fun ob=>by
   have h:=fld_at intC_len W hlt (by decide:0<1)
   rw [hx,Nat.mul_one,Nat.add_zero] at h
   rw [loadV_e]
   simpa [pick1,intC] using h
  have hsn:=othersOf_snoc (g:=g) (a:=a) (key:=key) hlt
  have hnw:=othersOf_new (g:=g) (a:=a) (key:=key) hWp hlt
  rw [hx] at hsn hnw
  by_cases hxa:x=a
  ·rw [if_pos hxa,List.append_nil] at hsn
   subst hxa
   simp [h15,f13,f14,hlt,hI,hLd,f1,hw]
   exact ⟨by omega,oh,of,ver,by rw [hsn];exact om⟩
  ·rw [if_neg hxa] at hsn
   have hxa':(x != a)=true:=by simpa using hxa
   have e116:=ev116 hs x key
   simp [h15,f13,f14,hlt,hI,hLd,f1,hxa',f2,f3,oh,objCells,f7,histC]
   refine kS_ev e116 (by simp [histC]) rfl (by simp [histC]) ?_
   rw [retA_tupl (by simp [V.plain,valC])]
   have hlv:valV (lastW (opsAt g x).2 key).1=valV (leaveOf g key x):=rfl
   simp
   refine kS_mapSet (f:=valV) (a:=leaveOf g key x) (ver:=ver) (l:=2 * M+1) (u:=M) (k:=x) (othersOf g a key (W.take i)) (by simp) (by simp) (by simp [valV,leaveOf,valC]) (by simpa using om) (by simp [fr];omega) ?_
   rw [mset_new hnw,← hsn]
   have nM:¬ 2 * ub+1=2 * M+1:=by omega
   have nM':¬ 2 * ub=2 * M:=by omega
   simp [h15,hw,nM',oh,histC]
   refine ⟨hlt,by omega,fun k hk=>?_⟩
   have:=hk M (by omega)
   rw [if_neg this]
   exact of k hk
 ·have:i=W.length:=by omega
  subst this
  rw [List.take_length] at om
  simp [h15,f14,f7]
  exact endS_1 (by simp [fd]) ⟨M,M,ver,by simp,by omega,by simp;omega,by omega,by simpa using om,by simpa using of,by simp;omega⟩
section
variable {E:Env} {Yf:YF} {st:St} {ub:Nat} {K:St→Nat→Prop} {d:Option Nat} {nm:Bool}
theorem kS_rangeMap {x:A} {l u ver:Nat} {es:List (V × V)} (hx:eval E st.tm x = .map l u) (ho:st.ob l=some ⟨u,.mp ver es⟩)
 (h:kApp K st d ub { v:=.iter (objName d nm st.fb ub) ub,obs:=[(objName d nm st.fb ub,⟨ub,.miter l u ver es none⟩)] }):wpStep E Yf ⟨d,.range false x,none,nm⟩ st ub K:=by
 rw [wpStep_of _ rfl rfl]
 have h1:objMap st.ob l u=some es:=by simp [objMap,ho]
 have h2:objVer st.ob l=ver:=by simp [objVer,ho]
 simp only [aop,hx,h1,h2,Option.bind_some,mkObj,wpD_some,name_eq]
 exact h
theorem picks_mem {l u l' u' ver:Nat} {δ:Delta}:∀ {es pre:List (V × V)},δ∈picks l u l' u' ver pre es→∃ a k v b,es=a++(k,v)::b∧δ = { v:=.tup [.bool true,k,v],obs:=[(l,⟨u,.miter l' u' ver (pre++a++b) (some (k,v))⟩)] }
 | [],_,h=>by simp [picks] at h
 | (k,v)::r,pre,h=>by
  rw [picks,List.mem_cons] at h
  rcases h with h | h
  ·exact ⟨[],k,v,r,rfl,by rw [h];simp⟩
  ·obtain ⟨a,k',v',b,e,hd⟩:=picks_mem h
   exact ⟨(k,v)::a,k',v',b,by rw [e];rfl,by rw [hd];simp⟩
theorem kS_nextMap {x:A} {l u l' u' ver:Nat} {left es:List (V × V)} {last:Option (V × V)} (hx:eval E st.tm x = .iter l u) (ho:st.ob l=some ⟨u,.miter l' u' ver left last⟩) (hm:st.ob l'=some ⟨u',.mp ver es⟩) (hro:st.ro≤u)
 (h0:left=[]→kSet K st d ub (.tup [.bool false]))
 (h1:∀ a k v b,left=a++(k,v)::b→kApp K st d ub { v:=.tup [.bool true,k,v],obs:=[(l,⟨u,.miter l' u' ver (a++b) (some (k,v))⟩)] }):wpStep E Yf ⟨d,.nextMap x,none,nm⟩ st ub K:=by
 have e1:(objMap st.ob l' u').isSome=true:=by simp [objMap,hm]
 have e2:objVer st.ob l'=ver:=by simp [objVer,hm]
 simp only [wpStep,wanted,yieldCall,sharedCall]
 cases left with
 | nil =>
  refine ⟨[{ v:=.tup [.bool false] }],?_,?_⟩
  ·simp only [nextL,hx,ho]
   rw [if_pos ⟨Nat.ble_eq ▸ hro,trivial,e1,e2⟩]
  ·intro δ hδ
   rw [List.mem_singleton] at hδ
   subst hδ
   have:=h0 rfl
   rw [app_v]
   exact this
 | cons p r =>
  refine ⟨picks l u l' u' ver [] (p::r),?_,?_⟩
  ·simp only [nextL,hx,ho]
   rw [if_pos ⟨Nat.ble_eq ▸ hro,trivial,e1,e2⟩]
  ·intro δ hδ
   obtain ⟨a,k,v,b,e,hd⟩:=picks_mem hδ
   subst hd
   exact h1 a k v b e
theorem kS_entry {x:A} {l u l' u' ver:Nat} {left es:List (V × V)} {k v:V} (hx:eval E st.tm x = .iter l u) (ho:st.ob l=some ⟨u,.miter l' u' ver left (some (k,v))⟩) (hm:st.ob l'=some ⟨u',.mp ver es⟩)
 (h:kSet K st d ub (.tup [k,v])):wpStep E Yf ⟨d,.entry x,none,nm⟩ st ub K:=by
 have e1:(objMap st.ob l' u').isSome=true:=by simp [objMap,hm]
 have e2:objVer st.ob l'=ver:=by simp [objVer,hm]
 rw [wpStep_of _ rfl rfl]
 simp only [aop,hx,ho]
 rw [if_pos ⟨trivial,e1,e2⟩,wpD_one,app_v]
 exact h
end
def IntsO (ob:Nat→Option Obj') (p:Nat→Prop) (l:List Int) (v:V):Prop :=
 (l=[]∧v = .sl none true 0 [])∨(l≠[]∧∃ u,v = .osl (2 * u+1) u 0 l.length 1∧ob (2 * u+1)=some ⟨u,.cells (l.flatMap intC)⟩∧p u)
theorem IntsO.frame {ob ob':Nat→Option Obj'} {p p':Nat→Prop} {l:List Int} {v:V} (h:IntsO ob p l v) (hf:∀ u,p u→ob' (2 * u+1)=ob (2 * u+1)) (hh:∀ u,p u→p' u):IntsO ob' p' l v:=by
 rcases h with h | ⟨h1,u,h2,h3,h4⟩
 ·exact Or.inl h
 ·exact Or.inr ⟨h1,u,h2,(hf u h4).trans h3,hh u h4⟩
theorem app_obl (st:St) (d:Option Nat) (v:V) (l:Nat) (o:Obj') (kl:List Nat) (k:Nat):(st.app d { v:=v,obs:=[(l,o)],kill:=kl }).ob k=if k=l then some o else if kl.any (Nat.beq k) then none else st.ob k:=by
 simp [St.app,setObs,upd_apply]
theorem app_obl' (st:St) (d:Option Nat) (v:V) (l:Nat) (o:Obj') (kl:List Nat) (k:Nat) (h:k ∉ kl):(st.app d { v:=v,obs:=[(l,o)],kill:=kl }).ob k=if k=l then some o else st.ob k:=by
 rw [app_obl]
 have:(kl.any (Nat.beq k))=false:=by
  rw [List.any_eq_false]
  intro x hx hb
  exact h (Nat.eq_of_beq_eq_true hb ▸ hx)
 rw [this]
 rfl
theorem solid_ints (st:St) (k:Nat):∀ l:List Int,(l.flatMap intC).mapM (solid st (k+1))=some (l.flatMap intC)
 | []=>rfl
 | a::l=>by
  show ((V.int .i64 a)::l.flatMap intC).mapM _=_
  rw [List.mapM_cons,solid_ints st k l]
  rfl
def intsV (T:List Int):V:=if T.isEmpty then .sl none true 0 [] else .sl (some (0,1)) false T.length (T.flatMap intC)
theorem kEnd_ints {st:St} {p:Nat→Prop} {n:Nat} {T:List Int} {v:V} (hd:st.df=[]) (hv:st.tm n=v) (h:IntsO st.ob p T v) (hro:∀ u,p u→st.ro≤u):kEnd [.t n] (intsV T) .ret st:=by
 show endV [.t n] (.ret,st)=some (intsV T)
 rcases h with ⟨rfl,rfl⟩ | ⟨hne,u,rfl,hob,hp⟩
 ·exact endV_1 hd (by rw [hv];rfl) rfl
 ·have hoc:objCells st.ob (2 * u+1) u=some (T.flatMap intC):=by simp [objCells,hob]
  have hlen:(T.flatMap intC).length=T.length:=by rw [flatMap_len intC_len];omega
  have hemp:T.isEmpty=false:=by cases T with | nil=>exact absurd rfl hne | cons=>rfl
  have hpos:0<T.length:=List.length_pos_iff.2 hne
  have hs:solid st 6 (.osl (2 * u+1) u 0 T.length 1)=some (.sl none false T.length (T.flatMap intC)):=by
   show ((objCells st.ob (2 * u+1) u).bind fun cs=>if Nat.ble st.ro u=true∧0+T.length * 1≤cs.length then (((cs.drop 0).take (T.length * 1)).mapM (solid st 5)).map fun cs'=>V.sl none false T.length cs' else none)=_
   rw [hoc,Option.bind_some]
   rw [if_pos ⟨Nat.ble_eq ▸ hro u hp,by omega⟩]
   rw [List.drop_zero,Nat.mul_one,List.take_of_length_le (by omega),solid_ints]
   rfl
  have ho:outLeaf st true 0 (.osl (2 * u+1) u 0 T.length 1)=some (.sl (some (0,1)) false T.length (T.flatMap intC)):=by
   simp only [outLeaf,hs,Option.bind_some,hoc,Option.map_some]
   have hb:(true && Nat.beq 0 0 && Nat.blt 0 T.length && Nat.beq (T.length * 1) (T.flatMap intC).length)=true:=by
    rw [hlen,Nat.mul_one,Nat.beq_refl,Nat.beq_refl]
    simp
    exact hpos
   rw [hb]
   rfl
  have hto:outTop st true 0 (.osl (2 * u+1) u 0 T.length 1)=some (.sl (some (0,1)) false T.length (T.flatMap intC)):=ho
  have hr:[ARes.t n].mapM (resOf st)=some [.osl (2 * u+1) u 0 T.length 1]:=by simp [resOf,hv]
  simp only [endV,dfOk_of hd,noDf_of hd,if_true,hr,Option.bind_some,outRes]
  have hn:nodup ([V.osl (2 * u+1) u 0 T.length 1].flatMap V.toks)=true:=rfl
  rw [hn]
  simp only [outTops,hto,Option.bind_some,Option.map_some]
  rw [intsV,hemp]
  rfl
theorem kS_appendM {E:Env} {Yf:YF} {st:St} {ub:Nat} {K:St→Nat→Prop} {d:Option Nat} {p:Nat→Prop} {l:List Int} {z:Int} {v:V} {s x:A} {X uX:Nat} (hs:eval E st.tm s=v) (hv:IntsO st.ob p l v) (hx:eval E st.tm x = .osl X uX 0 1 1) (hX:st.ob X=some ⟨uX,.cells [.int .i64 z]⟩) (hro:∀ u,p u→st.ro≤u) (hl:l.length≤1000)
 (h:∀ kl:List Nat,(∀ k∈kl,∃ u,p u∧k=2 * u+1)→kApp K st d ub { v:=.osl (2 * ub+1) ub 0 (l++[z]).length 1,obs:=[(2 * ub+1,⟨ub,.cells ((l++[z]).flatMap intC)⟩)],kill:=kl }) :
 wpStep E Yf ⟨d,.append true 1 8 s x,none,true⟩ st ub K:=by
 have hsc:slCells st.ob 1 (eval E st.tm x)=some [.int .i64 z]:=by
  rw [hx]
  simp [slCells,objCells,hX]
 rcases hv with ⟨rfl,rfl⟩ | ⟨hne,u,rfl,hob,hp⟩
 ·refine kS_appendO_nil hs hsc (by simp) (by decide) rfl (by simp) (by simp) ?_
  simpa [intC,objName] using h [] (by simp)
 ·have hlen:(l.flatMap intC).length=l.length:=by rw [flatMap_len intC_len];omega
  refine kS_appendO (cs:=l.flatMap intC) hs hsc hob (by simp) (hro u hp) (by omega) (by decide) rfl (by simp;omega) (by simp;omega) ?_
  have:=h [2 * u+1] (by simp;exact ⟨u,hp,rfl⟩)
  rw [Nat.mul_one,List.take_of_length_le (by omega)]
  simpa [intC,objName] using this
def fitsR (o:Op') (v:Val'):Bool:=o.v.kind == 2 || (v.kind == o.v.kind && v.n == o.v.n)
def ofStart (o:Op'):List Int:=if o.v.kind=1 then [] else [-1]
def ofL (g:Hist') (a:Int) (o:Op'):List Int:=ofStart o++(writersH g o.key).filter fun i=>!(i == a) && fitsR o (leaveOf g o.key i)
def ofH (g:Hist') (a b:Int):List Int:=match opAt g a b with
 | some o=>if o.w then [] else ofL g a o
 | none=>[]
theorem writers_pw (g:Hist') (k:Int):(writersH g k).Pairwise (· < ·)∧∀ x∈writersH g k,0≤x:=by
 have:=numsTo_lt (p:=wrB k) (ts:=g.ts) g.ts.length (Nat.le_refl _)
 exact ⟨this.2,fun x hx=>(this.1 x hx).1⟩
theorem ofL_sorted (g:Hist') (a:Int) (o:Op'):(ofL g a o).Pairwise (·≤·):=by
 have h:=writers_pw g o.key
 unfold ofL ofStart
 rw [List.pairwise_append]
 refine ⟨?_,?_,?_⟩
 ·split <;> simp
 ·exact ((h.1.imp (fun h=>Int.le_of_lt h)).filter _)
 ·intro x hx y hy
  have hy':=h.2 y (List.mem_filter.1 hy).1
  split at hx
  ·cases hx
  ·rw [List.mem_singleton] at hx;omega
theorem writers_len (g:Hist') (k:Int):(writersH g k).length≤g.ts.length:=by
 unfold writersH
 exact numsTo_len (wrB k) g.ts g.ts.length
theorem ofL_len {g:Hist'} (hm:g.ts.length≤40) (a:Int) (o:Op'):(ofL g a o).length≤41:=by
 unfold ofL ofStart
 rw [List.length_append]
 have h1:=List.length_filter_le (fun i=>!(i == a) && fitsR o (leaveOf g o.key i)) (writersH g o.key)
 have h2:=writers_len g o.key
 split <;> simp <;> omega
theorem may_ts {g:Hist'} (hm:mayH g=true):g.ts.length≤40:=by
 unfold mayH headsB at hm
 simp only [Bool.and_eq_true,decide_eq_true_eq] at hm
 exact hm.1.2.2.2.2
def picked (o:Op') (P:List (Int × Val')):List Int:=(P.filter fun p=>fitsR o p.2).map (·.1)
theorem picked_perm {g:Hist'} {a:Int} {o:Op'} {P:List (Int × Val')} (h:P.Perm (othersOf g a o.key (writersH g o.key))):(ofStart o++picked o P).Perm (ofL g a o):=by
 unfold ofL
 refine List.Perm.append_left _ ?_
 have h2:(picked o P).Perm (picked o (othersOf g a o.key (writersH g o.key))):=(h.filter _).map _
 refine h2.trans ?_
 have e:picked o (othersOf g a o.key (writersH g o.key))=(writersH g o.key).filter fun i=>!(i == a) && fitsR o (leaveOf g o.key i):=by
  unfold picked othersOf
  rw [List.filter_map,List.map_map,List.filter_filter]
  have:((fun x:Int × Val'=>x.1) ∘ fun i=>(i,leaveOf g o.key i))=id:=rfl
  rw [this,List.map_id]
  congr 1
  funext i
  simp only [Function.comp,Bool.and_comm]
 rw [e]
theorem MP_split {m:List (Int × Val')} {A B:List (V × V)} {k v:V} (h:MP valV m=A++(k,v)::B):∃ A' p B',m=A'++p::B'∧A=MP valV A'∧B=MP valV B'∧k = .int .i64 p.1∧v=valV p.2:=by
 unfold MP at h
 obtain ⟨A',C,e1,e2,e3⟩:=List.map_eq_append_iff.1 h
 obtain ⟨p,B',e4,e5,e6⟩:=List.map_eq_cons_iff.1 e3
 subst e4
 have:=Prod.mk.inj e5
 exact ⟨A',p,B',e1,e2.symm,e6.symm,this.1.symm,this.2.symm⟩
theorem MP_app (a b:List (Int × Val')):MP valV a++MP valV b=MP valV (a++b):=by simp [MP]
theorem ne1152 {x:Nat} (h:640≤x):¬ 2 * x=1152:=by omega
theorem ev217 {g:Hist'} (hs:Small g) (a b:Int):Ev E 217 [.agg (histC g),.agg (placeC (a,b))] (intsV (ofH g a b)):=by
 have e74:=ev254 hs a b
 refine Ev_wpK (af:=F217) rfl ?_
 unfold ofH
 cases hop:opAt g a b with
 | none =>
  rw [hop] at e74
  simp [F217,histC,objCells,placeC]
  refine kS_ev e74 (by simp [histC,placeC]) rfl (by simp [histC,placeC]) ?_
  rw [retA_tupl (by simp [V.plain,opC])]
  simp [splice,opC,op0,objCells]
  exact kEnd_ints (p:=fun _=>True) (by simp) rfl (Or.inl ⟨rfl,by simp⟩) (by simp)
 | some o =>
  rw [hop] at e74
  simp only [Option.getD_some,Option.any_some] at e74
  have hmay:mayH g=true:=by
   unfold opAt at hop
   cases hm:mayH g
   ·rw [hm] at hop;cases hop
   ·rfl
  have hts:=may_ts hmay
  simp [F217,histC,objCells,placeC]
  refine kS_ev e74 (by simp [histC,placeC]) rfl (by simp [histC,placeC]) ?_
  rw [retA_tupl (by simp [V.plain,opC])]
  cases hw:o.w
  ·simp [splice,opC,objCells]
   generalize hK:kSeq E noYF _ (kEnd _ _)=K
   have rest:∀ (s:St) (v:V),s.tm 2 = .ptr 1 0 0→s.tm 3 = .ptr 129 64 0→s.tm 5 = .ptr 1153 576 0→s.ob 1=some ⟨0,.cells (histC g)⟩→s.ob 129=some ⟨64,.cells [.int .i64 a,.int .i64 b]⟩→s.ob 1153=some ⟨576,.cells (opC o)⟩ →
    s.tm 7=v→IntsO s.ob (fun u=>640≤u∧u<s.nx) (ofStart o) v→s.df=[]→s.ro=0→640≤s.nx→K .nrm s:=by
    intro s v h2 h3 h5 o1 o3 o5 h7 hv hd hr hn
    rw [← hK]
    clear hK
    simp [h2,h3,h5,o1,o3,o5,objCells,opC,histC]
    refine kS_callP (vs:=[.agg (histC g),.int .i64 a,.int .i64 o.key]) (by simp [histC]) rfl (sv255 hs hmay a o.key (by simp [hr])) ?_
    rintro w ob1 tk1 ub1 ⟨M,U,ver,e1,e2,e3,e4,e5,e6,e7⟩
    simp only at e1 e3 e5 e6 e7
    subst e1
    simp
    refine kS_rangeMap (l:=2 * M+1) (u:=U) (ver:=ver) (by simp) (by simpa using e5) ?_
    simp
    refine wpC_gen fun st hst=>?_
    have hub0:640≤ub1:=by first | omega | (simp at e7;omega)
    have hM0:640≤M:=by first | omega | (simp at e2;omega)
    obtain ⟨OTH,hOTH⟩:∃ l,othersOf g a o.key (writersH g o.key)=l:=⟨_,rfl⟩
    rw [hOTH] at e5 hst
    have hfr:∀ k,(∀ m,s.nx≤m→k≠2 * m+1)→ob1 k=s.ob k:=fun k hk=>(e6 k (fun m hm=>hk m (by first | omega | (simp at hm;omega)))).trans (by simp)
    have hMs:s.nx≤M:=by first | omega | (simp at e2;omega)
    have g5:st.tm 5 = .ptr 1153 576 0:=by rw [hst];simp [h5]
    have g7:st.tm 7=v:=by rw [hst];simp [h7]
    have g31:st.tm 31 = .iter (2 * ub1+1) ub1:=by rw [hst];simp
    have gd:st.df=[]:=by rw [hst];simp [hd]
    have gr:st.ro=0:=by rw [hst];simp [hr]
    have gn:ub1<st.nx:=by rw [hst];simp
    have gf:∀ k,k≠2 * ub1+1→st.ob k=ob1 k:=by
     intro k hk
     rw [hst];simp [hk]
    have pi:st.ob (2 * ub1+1)=some ⟨ub1,.miter (2 * M+1) U ver (MP valV OTH) none⟩:=by rw [hst];simp
    have pm:st.ob (2 * M+1)=some ⟨U,.mp ver (MP valV OTH)⟩:=(gf _ (by omega)).trans e5
    have p5:st.ob 1153=some ⟨576,.cells (opC o)⟩:=(gf _ (by omega)).trans ((hfr _ (fun m hm=>by omega)).trans o5)
    have pv:IntsO st.ob (fun u=>640≤u∧u≠M∧u≠ub1∧u<st.nx) (ofStart o++picked o []) v:=by
     rw [show picked o []=[] from rfl,List.append_nil]
     refine hv.frame (fun u hu=>?_) (fun u hu=>⟨hu.1,by omega,by first | omega | (simp at e7;omega),by first | omega | (simp at e7;omega)⟩)
     exact (gf _ (by first | omega | (simp at e7;omega))).trans (hfr _ (fun m hm=>by omega))
    clear hst e6 e5 hfr
    obtain ⟨J,hJ⟩:∃ J:Nat→St→Prop,J=fun n s=>∃ (P m':List (Int × Val')) (v:V) (last:Option (V × V)),n=m'.length∧(P++m').Perm OTH∧s.tm 7=v∧IntsO s.ob (fun u=>640≤u∧u≠M∧u≠ub1∧u<s.nx) (ofStart o++picked o P) v ∧
     s.ob (2 * ub1+1)=some ⟨ub1,.miter (2 * M+1) U ver (MP valV m') last⟩∧s.ob (2 * M+1)=some ⟨U,.mp ver (MP valV OTH)⟩∧s.ob 1153=some ⟨576,.cells (opC o)⟩∧ub1<s.nx:=⟨_,rfl⟩
    refine wp_loopF (n:=OTH.length) [(7,9),(32,50)] J rfl rfl (by rw [hJ];exact ⟨[],OTH,v,none,rfl,by simp,g7,pv,pi,pm,p5,gn⟩) ?_
    clear h7 hv g7 pv pi pm p5 gn v
    intro n s hJs f
    rw [hJ] at hJs
    obtain ⟨P,m',v,last,rfl,hperm,h7,hv,oi,om,o5',hn1⟩:=hJs
    have f5:s.tm 5 = .ptr 1153 576 0:=by rw [f.t 5 (by simp)];exact g5
    have f31:s.tm 31 = .iter (2 * ub1+1) ub1:=by rw [f.t 31 (by simp)];exact g31
    have fd:s.df=[]:=by rw [f.d];exact gd
    have fr:s.ro=0:=by rw [f.r];exact gr
    clear f
    have hPl:(P++m').length≤40:=by
     rw [hperm.length_eq,← hOTH]
     unfold othersOf
     rw [List.length_map]
     have:=List.length_filter_le (fun i=>!(i == a)) (writersH g o.key)
     have:=writers_len g o.key
     omega
    rw [List.length_append] at hPl
    have hpl:(picked o P).length≤P.length:=by
     unfold picked
     rw [List.length_map]
     exact List.length_filter_le _ _
    have hsl:(ofStart o).length≤1:=by unfold ofStart;split <;> simp
    simp
    refine kS_nextMap (l:=2 * ub1+1) (u:=ub1) (l':=2 * M+1) (u':=U) (ver:=ver) (es:=MP valV OTH) (left:=MP valV m') (by simp [f31]) oi om (by simp [fr]) ?_ ?_
    ·intro hemp
     have hm0:m'=[]:=by
      unfold MP at hemp
      exact List.map_eq_nil_iff.1 hemp
     subst hm0
     rw [List.append_nil] at hperm
     have hpp:=picked_perm (g:=g) (a:=a) (o:=o) (P:=P) (by rw [hOTH];exact hperm)
     have hlen:=hpp.length_eq
     simp [h7]
     rcases hv with ⟨hnil,rfl⟩ | ⟨hne,u,rfl,hob,hu⟩
     ·rw [hnil] at hpp
      have hT:ofL g a o=[]:=List.perm_nil.1 hpp.symm
      refine kS_callP (vs:=[.sl none true 0 []]) (by simp) rfl sv69n ?_
      rintro w ob2 tk2 ub2 ⟨q1,q2,q3⟩
      simp [h7]
      exact kEnd_ints (p:=fun _=>True) (by simp [fd]) rfl (Or.inl ⟨hT,by simp⟩) (by simp [fr])
     ·refine kS_callP (vs:=[.osl (2 * u+1) u 0 (ofStart o++picked o P).length 1]) (by simp) rfl (sv69 hpp (ofL_sorted g a o) (by rw [List.length_append];omega) (by simpa using hob) (by simp [fr]) (fun m hm=>by have:=hu.2.2.2;first | omega | (simp at hm;omega)) (by simp [fr])) ?_
      rintro w ob2 tk2 ub2 hat
      simp only at hat
      simp [h7]
      refine kEnd_ints (p:=fun _=>True) (by simp [fd]) rfl (Or.inr ⟨?_,u,?_,by simpa using hat.1,trivial⟩) (by simp [fr])
      ·intro hT
       rw [hT] at hpp
       exact hne (List.perm_nil.1 hpp)
      ·rw [← hlen];simp
    ·intro A k w B hsp
     obtain ⟨A',q,B',rfl,rfl,rfl,rfl,rfl⟩:=MP_split hsp
     have hperm':((P++[q])++(A'++B')).Perm OTH:=by
      refine List.Perm.trans ?_ hperm
      rw [List.append_assoc]
      exact List.Perm.append_left _ (by simpa using List.perm_middle.symm)
     have nM:¬ 2 * M+1=2 * ub1+1:=by omega
     simp
     refine kS_entry (l:=2 * ub1+1) (u:=ub1) (l':=2 * M+1) (u':=U) (ver:=ver) (es:=MP valV OTH) (left:=MP valV A'++MP valV B') (k:=.int .i64 q.1) (v:=valV q.2) (by simp [f31]) (by simp) (by simp [show ¬ 2 * M=2 * ub1 by omega,om]) ?_
     have n5:¬ 1153=2 * ub1+1:=by omega
     simp [valV,valC,splice,fr,objCells]
     generalize hK2:kSeq E noYF (C.cond _ _ _) _=K2
     have restF:∀ (s1:St) (fit:Bool),fit=fitsR o q.2→s1.tm 46 = .bool fit→s1.tm 7=v→s1.tm 8 = .int .i64 q.1→IntsO s1.ob (fun u=>640≤u∧u≠M∧u≠ub1∧u<s1.nx) (ofStart o++picked o P) v →
      s1.ob (2 * ub1+1)=some ⟨ub1,.miter (2 * M+1) U ver (MP valV (A'++B')) (some (.int .i64 q.1,valV q.2))⟩→s1.ob (2 * M+1)=some ⟨U,.mp ver (MP valV OTH)⟩→s1.ob 1153=some ⟨576,.cells (opC o)⟩→ub1<s1.nx→s1.df=[]→s1.ro=0→K2 .nrm s1:=by
      intro s1 fit hfit h46 h7 h8 hv oi om o5 hn hd hr
      rw [← hK2]
      have hpk:picked o (P++[q])=picked o P++(if fit then [q.1] else []):=by
       unfold picked
       rw [List.filter_append,List.map_append,hfit]
       cases hf:fitsR o q.2 <;> simp [hf]
      have hml:(A'++B').length<(A'++q::B').length:=by simp
      cases fit
      ·simp only [Bool.false_eq_true,if_false,List.append_nil] at hpk
       simp [h46]
       exact ⟨(A'++B').length,by first | omega | (simp;done) | (simp;omega),by rw [hJ];exact ⟨P++[q],A'++B',v,some (.int .i64 q.1,valV q.2),rfl,hperm',by simp [h7],by rw [hpk];exact hv.frame (fun u _=>by simp) (fun u hu=>⟨hu.1,hu.2.1,hu.2.2.1,by have:=hu.2.2.2;first | omega | (simp;omega)⟩),by simp [oi],by simp [om],by simp [o5],by first | omega | (simp;omega)⟩⟩
      ·simp only [if_true] at hpk
       simp [h46,h7,h8]
       refine kS_buildSlO (cs:=[.int .i64 q.1]) (by simp [splice]) rfl rfl ?_
       simp
       refine kS_appendM (p:=fun u=>640≤u∧u≠M∧u≠ub1∧u<s1.nx) (l:=ofStart o++picked o P) (z:=q.1) (v:=v) (X:=2 * (s1.nx+64+64)+1) (uX:=s1.nx+64+64) (by simp) (hv.frame (fun u hu=>?_) (fun _ h=>h)) (by simp) (by simp) (by simp [hr]) (by rw [List.length_append];simp at hPl;omega) (fun kl hkl=>?_)
       ·have:¬ 2 * u=2 * (s1.nx+64+64):=by have:=hu.2.2.2;omega
        simp [this]
       have nk:∀ z:Nat,(∀ u,640≤u→u≠M→u≠ub1→z≠2 * u+1)→z ∉ kl:=fun z hz hm=>by
        obtain ⟨u,hu,e⟩:=hkl z hm
        exact hz u hu.1 hu.2.1 hu.2.2.1 e
       have k1:=nk (2 * ub1+1) (fun u _ _ h e=>h (by omega))
       have k2:=nk (2 * M+1) (fun u _ h _ e=>h (by omega))
       have k3:=nk 1153 (fun u h _ _ e=>by omega)
       obtain ⟨Z,hZ⟩:∃ Z,s1.nx+64+64+64=Z:=⟨_,rfl⟩
       have d1:¬ 2 * ub1+1=2 * Z+1:=by omega
       have d2:¬ 2 * M+1=2 * Z+1:=by omega
       have d3:¬ 1153=2 * Z+1:=by omega
       have b1:¬ 2 * ub1+1=2 * (s1.nx+64+64)+1:=by omega
       have b2:¬ 2 * M+1=2 * (s1.nx+64+64)+1:=by omega
       have b3:¬ 1153=2 * (s1.nx+64+64)+1:=by omega
       have hnx:∀ X:Prop,X→X:=fun _ h=>h
       simp only [hZ]
       simp
       refine ⟨(A'++B').length,by first | omega | (simp;done) | (simp;omega),?_⟩
       rw [hJ]
       refine ⟨P++[q],A'++B',.osl (2 * Z+1) Z 0 (ofStart o++picked o (P++[q])).length 1,some (.int .i64 q.1,valV q.2),rfl,hperm',by simp [hpk],Or.inr ⟨by rw [hpk];simp,Z,rfl,?_,by omega,by omega,by omega,?_⟩,?_,?_,?_,?_⟩
       ·simp only [setN_ob,setT_ob]
        rw [app_obl,if_pos rfl,hpk]
        simp
       ·first | omega | (simp;done) | (simp;omega)
       ·simp only [setN_ob,setT_ob]
        rw [app_obl' _ _ _ _ _ _ _ k1,if_neg d1]
        simp only [app_ob1,setT_ob,if_neg b1]
        exact oi
       ·simp only [setN_ob,setT_ob]
        rw [app_obl' _ _ _ _ _ _ _ k2,if_neg d2]
        simp only [app_ob1,setT_ob,if_neg b2]
        exact om
       ·simp only [setN_ob,setT_ob]
        rw [app_obl' _ _ _ _ _ _ _ k3,if_neg d3]
        simp only [app_ob1,setT_ob,if_neg b3]
        exact o5
       ·first | omega | (simp;done) | (simp;omega)
     clear hK2
     have c1:¬ 2 * ub1=2 * (s.nx+64+64+64+64+64):=by omega
     have c2:¬ 2 * M=2 * (s.nx+64+64+64+64+64):=by omega
     have c3:¬ 2 * M=2 * ub1:=by omega
     have hsn:640≤s.nx+64+64+64+64+64:=Nat.le_trans (Nat.le_trans hub0 (Nat.le_of_lt hn1)) (by simp [Nat.add_assoc])
     have nq:=ne1152 hsn
     have n5':=ne1152 hub0
     cases hk2:(o.v.kind == 2)
     ·simp [f5,o5',objCells,opC,n5,nq,hk2]
      refine restF _ (q.2.kind == o.v.kind && q.2.n == o.v.n) (by unfold fitsR;rw [hk2];rfl) (by simp) (by simp [h7]) (by simp) (hv.frame (fun u hu=>?_) (fun u hu=>⟨hu.1,hu.2.1,hu.2.2.1,by have:=hu.2.2.2;first | omega | (simp;omega)⟩)) (by simp [c1,MP_app,valV,valC]) (by simp [c2,c3,om]) (by simp [nq,n5',o5',opC]) (by first | omega | (simp;omega)) (by simp [fd]) (by simp [fr])
      have a1:¬ 2 * u=2 * (s.nx+64+64+64+64+64):=by have:=hu.2.2.2;omega
      have a2:¬ 2 * u=2 * ub1:=by have:=hu.2.2.1;omega
      simp [a1,a2]
     ·simp [f5,o5',objCells,opC,n5,nq,hk2]
      refine restF _ true (by unfold fitsR;rw [hk2];rfl) (by simp) (by simp [h7]) (by simp) (hv.frame (fun u hu=>?_) (fun u hu=>⟨hu.1,hu.2.1,hu.2.2.1,by have:=hu.2.2.2;first | omega | (simp;omega)⟩)) (by simp [c1,MP_app,valV,valC]) (by simp [c2,c3,om]) (by simp [nq,n5',o5',opC]) (by first | omega | (simp;omega)) (by simp [fd]) (by simp [fr])
      have a1:¬ 2 * u=2 * (s.nx+64+64+64+64+64):=by have:=hu.2.2.2;omega
      have a2:¬ 2 * u=2 * ub1:=by have:=hu.2.2.1;omega
      simp [a1,a2]
   clear hK
   refine kIf_gen fun st hst=>?_
   have g2:st.tm 2 = .ptr 1 0 0:=by rw [hst];simp
   have g3:st.tm 3 = .ptr 129 64 0:=by rw [hst];simp
   have g5:st.tm 5 = .ptr 1153 576 0:=by rw [hst];simp
   have g7:st.tm 7 = .sl none true 0 []:=by rw [hst];simp
   have p1:st.ob 1=some ⟨0,.cells (histC g)⟩:=by rw [hst];simp [histC]
   have p3:st.ob 129=some ⟨64,.cells [.int .i64 a,.int .i64 b]⟩:=by rw [hst];simp
   have p5:st.ob 1153=some ⟨576,.cells (opC o)⟩:=by rw [hst];simp [opC,hw]
   have gd:st.df=[]:=by rw [hst];simp
   have gr:st.ro=0:=by rw [hst];simp
   have gn:640≤st.nx:=by rw [hst];simp
   clear hst
   cases hk1:(o.v.kind != 1)
   ·have hk:o.v.kind=1:=by simpa using hk1
    simp
    exact rest _ _ g2 g3 g5 p1 p3 p5 g7 (Or.inl ⟨by simp [ofStart,hk],rfl⟩) gd gr gn
   ·have hk:¬ o.v.kind=1:=by simpa using hk1
    simp [g7]
    refine kS_buildSlO (cs:=[.int .i64 (-1)]) (by simp [splice]) rfl rfl ?_
    simp
    refine kS_appendM (p:=fun _=>False) (l:=[]) (z:=-1) (v:=.sl none true 0 []) (X:=2 * (st.nx+64)+1) (uX:=st.nx+64) (by simp) (Or.inl ⟨rfl,rfl⟩) (by simp) (by simp) (fun _ h=>h.elim) (by simp) (fun kl hkl=>?_)
    have hkl0:kl=[]:=by
     cases kl with
     | nil=>rfl
     | cons k _=>obtain ⟨_,h,_⟩:=hkl k (by simp);exact h.elim
    subst hkl0
    have n1:¬ 1=2 * (st.nx+64+64)+1:=by omega
    have n1':¬ 1=2 * (st.nx+64)+1:=by omega
    have n3:¬ 129=2 * (st.nx+64+64)+1:=by omega
    have n3':¬ 129=2 * (st.nx+64)+1:=by omega
    have n5:¬ 1153=2 * (st.nx+64+64)+1:=by omega
    have n5':¬ 1153=2 * (st.nx+64)+1:=by omega
    simp
    refine rest _ (.osl (2 * (st.nx+64+64)+1) (st.nx+64+64) 0 1 1) (by simp [g2]) (by simp [g3]) (by simp [g5]) ?_ ?_ ?_ (by simp) (Or.inr ⟨by simp [ofStart,hk],st.nx+64+64,by simp [ofStart,hk],by simp [ofStart,hk,intC],by omega,by simp⟩) (by simp [gd]) (by simp [gr]) (by simp;omega)
    ·simp only [setN_ob,setT_ob,app_ob1,if_neg n1,if_neg n1'];exact p1
    ·simp only [setN_ob,setT_ob,app_ob1,if_neg n3,if_neg n3'];exact p3
    ·simp only [setN_ob,setT_ob,app_ob1,if_neg n5,if_neg n5'];exact p5
  ·simp [splice,opC,objCells]
   exact kEnd_ints (p:=fun _=>True) (by simp) rfl (Or.inl ⟨rfl,by simp⟩) (by simp)
end Go.Pv.T
namespace Go.Pv.T
open Go Go.Pv
end Go.Pv.T
namespace Go.Pv.T
open Go Go.Pv
theorem leaveOf_at {g:Hist'} (hm:mayH g=true) (key:Int) {i:Nat} (h:i<g.ts.length):leaveOf g key i=(rawTo key g.ts[i].ops g.ts[i].ops.length).1:=by
 unfold leaveOf lastW opsAt
 rw [hm,if_pos (by simp;omega)]
 simp only [Int.toNat_natCast]
 rw [getD_lt h]
theorem opAt_some {g:Hist'} {a b:Int} {o:Op'} (h:opAt g a b=some o):∃ i j:Nat,a=i∧b=j∧∃ (hi:i<g.ts.length) (hj:j<(g.ts[i]).ops.length),(g.ts[i]).ops[j]=o:=by
 unfold opAt at h
 by_cases hc:(mayH g && (decide (0≤a) && (decide (a<g.ts.length) && (decide (0≤b) && decide (b<((g.ts.getD a.toNat ⟨0,0,true,[]⟩).ops.length:Nat))))))=true
 ·rw [if_pos hc] at h
  simp only [Bool.and_eq_true,decide_eq_true_eq] at hc
  obtain ⟨_,h1,h2,h3,h4⟩:=hc
  obtain ⟨i,rfl⟩:∃ i:Nat,a=i:=⟨a.toNat,by omega⟩
  obtain ⟨j,rfl⟩:∃ j:Nat,b=j:=⟨b.toNat,by omega⟩
  have hi:i<g.ts.length:=by omega
  rw [Int.toNat_natCast,getD_lt hi] at h h4
  have hj:j<(g.ts[i]).ops.length:=by omega
  rw [Int.toNat_natCast,List.getElem?_eq_getElem hj] at h
  exact ⟨i,j,rfl,rfl,hi,hj,Option.some.inj h⟩
 ·rw [if_neg hc] at h
  cases h
theorem retSl {ub:Nat} {v:V} {nl:Bool} {n:Nat} {cs:List V} {K:Delta→Prop} (hv:SlR v nl n cs) (h:∀ t add,K { v:=.sl t nl n cs,add:=add }):wpD (retA ub v) K:=by
 obtain ⟨t,add,hr⟩:=retA_sl (ub:=ub) hv
 rw [hr,wpD_some]
 exact h t add
theorem len0 {α:Type} (l:List α):((l.length:Int) == 0)=l.isEmpty:=by cases l <;> simp <;> omega
def wholeH (g:Hist'):Bool:=mayH g && ((infosH g).isEmpty && (lostH g).isEmpty)
theorem ev52 {g:Hist'} (hs:Small g):Ev E 52 [.agg (histC g)] (.bool (wholeH g)):=by
 have e70:=ev103 hs
 refine Ev_wpK (af:=F52) rfl ?_
 unfold wholeH
 cases hm:mayH g
 ·simp [F52,histC,objCells]
  refine kS_ev e70 (by simp [histC]) rfl (by simp [histC]) ?_
  have hb:(errH g == 0)=false:=by simp [may_bad hm]
  simp [hb]
  exact endV_1 (by simp) (by simp) rfl
 ·rw [may_err hm] at e70
  obtain ⟨vi,evi,nli,hvi⟩:=ev104 hs hm
  obtain ⟨vl,evl,nll,hvl⟩:=ev105 hs hm
  simp [F52,histC,objCells]
  refine kS_ev e70 (by simp [histC]) rfl (by simp [histC]) ?_
  simp [objCells]
  refine kS_ev evi (by simp [histC]) rfl (by simp [histC]) ?_
  refine retSl hvi fun t add=>?_
  have hz:=len0 (infosH g)
  cases hb:(infosH g).isEmpty
  ·rw [hb] at hz
   simp [hz]
   exact endV_1 (by simp) (by simp) rfl
  ·rw [hb] at hz
   simp [hz,objCells]
   refine kS_ev evl (by simp [histC]) rfl (by simp [histC]) ?_
   refine retSl hvl fun t add=>?_
   simp
   exact endV_1 (by simp) (by simp [len0]) rfl
def idxI:List Int→Int→Nat→Int
 | [],_,_=>-1
 | x::r,k,n=>if k == x then n else idxI r k (n+1)
theorem idxI_neg (k:Int):∀ (l:List Int) (n:Nat),decide (idxI l k n<0) = !l.contains k
 | [],n=>rfl
 | x::r,n=>by
  rw [idxI,List.contains_cons]
  cases h:(k == x)
  ·simpa using idxI_neg k r (n+1)
  ·simp
theorem ev127 {a:Bool} (l:List Int) (hl:l.length≤1000000000) (k:Int):Ev E 127 [slOf a intC l,.int .i64 k] (.int .i64 (idxI l k 0)):=by
 refine Ev_wpK (af:=F127) rfl ?_
 simp [F127]
 refine wp_loopUp [(4,5),(8,30)] l.length (fun i s=>s.tm 8 = .int .i64 i∧idxI (l.drop i) k i=idxI l k 0) rfl rfl ⟨by simp,by simp⟩ ?_
 rintro i s hi ⟨h5,hT⟩ f
 have f0:s.tm 0=slOf a intC l:=by rw [f.t 0 (by simp)];simp
 have f1:s.tm 1 = .int .i64 k:=by rw [f.t 1 (by simp)];simp
 have f7:s.tm 7 = .int .i64 l.length:=by rw [f.t 7 (by simp)];simp
 have fd:s.df=[]:=by rw [f.d];simp
 clear f
 by_cases hlt:i<l.length
 ·have hw:=wrapU hlt (by omega)
  have h1:=int_at l hlt
  rw [List.drop_eq_getElem_cons hlt,idxI] at hT
  cases he:(k == l[i])
  ·rw [he] at hT
   simp [h5,f0,f1,f7,hlt,idx_slOf intC_len,h1,he,hw]
   simpa using hT
  ·rw [he] at hT
   simp [h5,f0,f1,f7,hlt,idx_slOf intC_len,h1,he]
   exact endV_1 (by simp [fd]) (by rw [← hT];simp) rfl
 ·have:i=l.length:=by omega
  subst this
  rw [List.drop_length,idxI] at hT
  simp [h5,f7]
  exact endV_1 (by simp [fd]) (by rw [← hT];simp) rfl
theorem place_at (l:List (Int × Int)) (ob:Nat→Option Obj') {i:Nat} (h:i<l.length):loadV ob (some 2) (.eptr (l.flatMap placeC) (i * 2))=some (.agg [.int .i64 (l[i]).1,.int .i64 (l[i]).2]):=load_slOf placeC_len ob l h
def isCom (t:Txn'):Bool:=t.f == 1
def comH (g:Hist'):List Int:=if wholeH g then numsTo isCom g.ts g.ts.length else []
theorem ev71 {g:Hist'} (hs:Small g):∃ v,Ev E 71 [.agg (histC g)] v∧SlR v (comH g).isEmpty (comH g).length ((comH g).flatMap intC):=by
 have e83:=ev52 hs
 have hts:=hs.ts
 refine Ev_wpE (af:=F71) rfl (by decide) ?_
 unfold comH
 cases hw:wholeH g
 ·rw [hw] at e83
  simp [F71,histC,objCells]
  refine kS_ev e83 (by simp [histC]) rfl (by simp [histC]) ?_
  simp
  exact slE (t:=none) (nl:=true) (k:=0) (cs:=[]) (fun r h=>h) (by simp) (by simp)
 rw [hw] at e83
 simp [F71,histC,objCells]
 refine kS_ev e83 (by simp [histC]) rfl (by simp [histC]) ?_
 simp [objCells]
 refine wp_loopUp [(3,5),(12,24)] g.ts.length (fun i s=>s.tm 12 = .int .i64 i∧Grow s.tk 0 s.nx intC 1 (numsTo isCom g.ts i) (s.tm 3)) rfl rfl ⟨by simp,by simp [numsTo];exact Grow.nil _ _ _ _ _⟩ ?_
 rintro i s hi ⟨h12,hG⟩ f
 have f10:s.tm 10=slOf g.tn txnC g.ts:=by rw [f.t 10 (by simp)];simp
 have f11:s.tm 11 = .int .i64 g.ts.length:=by rw [f.t 11 (by simp)];simp
 have fd:s.df=[]:=by rw [f.d];simp
 have fb:s.fb=0:=by rw [f.b];simp
 have fr:s.ro=0:=by rw [f.r];simp
 clear f
 by_cases hlt:i<g.ts.length
 ·have hw:=wrapU hlt (by omega)
  have hsn:=numsTo_succ (p:=isCom) hlt
  obtain ⟨t,ht⟩:∃ t,g.ts[i]=t:=⟨_,rfl⟩
  rw [ht] at hsn
  have hll:=numsTo_len isCom g.ts i
  cases hi:isCom t
  ·have hi':(t.f == 1)=false:=hi
   rw [hi] at hsn
   simp only [Bool.false_eq_true,if_false,List.append_nil] at hsn
   simp [h12,f10,f11,hlt,idx_slOf txnC_len,load_slOf txnC_len,ht,txnC,objCells,fb,fr,splice,hi',hw]
   rw [hsn];exact hG.mono (fun u _ _ h=>by simpa [app_tk0] using h) (by omega)
  ·have hi':(t.f == 1)=true:=hi
   rw [hi] at hsn
   simp only [if_true] at hsn
   simp [h12,f10,f11,hlt,idx_slOf txnC_len,load_slOf txnC_len,ht,txnC,objCells,fb,fr,splice,hi']
   refine kS_buildSl (cs:=[.int .i64 i]) (by simp [splice]) rfl rfl ?_
   simp
   refine kS_appendG (f:=intC) (lo:=0) (hi:=s.nx) (l:=numsTo isCom g.ts i) (a:=(i:Int)) (v:=s.tm 3) (hG.mono (fun u _ _ h=>by simp [app_tk,h]) (Nat.le_refl _)) (by simp) (by simp [slCells,intC]) intC_len (by decide) rfl (by omega) (by omega) (fun del hdel=>?_)
   have hne:numsTo isCom g.ts (i+1)≠[]:=by rw [hsn];simp
   have hlen:(numsTo isCom g.ts i).length+1=(numsTo isCom g.ts (i+1)).length:=by rw [hsn];simp
   rw [← hsn,hlen]
   simp [h12,hw]
   exact ⟨hlt,.inr ⟨hne,_,rfl,by simp [app_tk],Nat.zero_le _,by omega⟩⟩
 ·have:i=g.ts.length:=by omega
  subst this
  obtain ⟨t,ht⟩:=hG.form
  simp [h12,f11]
  exact slE (t:=t) (nl:=(numsTo isCom g.ts g.ts.length).isEmpty) (k:=(numsTo isCom g.ts g.ts.length).length) (cs:=(numsTo isCom g.ts g.ts.length).flatMap intC) (fun r h=>h) (by simp [fd]) (by simp [ht])
end Go.Pv.T
namespace Go.Pv.T
open Go Go.Pv
end Go.Pv.T
namespace Go.Pv.T
open Go Go.Pv
def ownAt (g:Hist') (a b:Int):Val' × Bool:=match opAt g a b with
 | some o=>rawTo o.key (g.ts.getD a.toNat ⟨0,0,true,[]⟩).ops b.toNat
 | none=>(⟨0,0⟩,false)
def outerB (g:Hist') (a b:Int):Bool:=match opAt g a b with
 | some o=>!o.w && !(ownAt g a b).2
 | none=>false
theorem ev136 {g:Hist'} (hs:Small g) (a b:Int):Ev E 136 [.agg (histC g),.agg (placeC (a,b))] (.bool (outerB g a b)):=by
 have e129:=ev176 hs a
 refine Ev_wpK (af:=F136) rfl ?_
 unfold outerB
 cases hop:opAt g a b with
 | none =>
  simp [F136,histC,placeC,objCells]
  refine kS_ev e129 (by simp [histC]) rfl (by simp [histC]) ?_
  rw [retA_plain rfl,wpD_some]
  have hout:b<0∨((opsAt g a).2.length:Int)≤b:=by
   unfold opAt at hop
   unfold opsAt
   by_cases h1:(mayH g && (decide (0≤a) && decide (a<g.ts.length)))=true
   ·rw [if_pos h1]
    simp only [Bool.and_eq_true,decide_eq_true_eq] at h1
    by_cases h2:b<0
    ·exact .inl h2
    ·by_cases h3:b<((g.ts.getD a.toNat ⟨0,0,true,[]⟩).ops.length:Int)
     ·rw [if_pos (by simp only [Bool.and_eq_true,decide_eq_true_eq];exact ⟨h1.1,h1.2.1,h1.2.2,by omega,h3⟩)] at hop
      rw [List.getElem?_eq_none_iff] at hop
      exact absurd hop (by omega)
     ·exact .inr (Int.not_lt.1 h3)
   ·rw [if_neg h1]
    by_cases h2:b<0
    ·exact .inl h2
    ·exact .inr (by simp;omega)
  generalize opsAt g a=oo at *
  by_cases h1:b<0
  ·simp [objCells,h1]
   exact endV_1 (by simp) (by simp) rfl
  ·have h2:(oo.2.length:Int)≤b:=by rcases hout with h | h;exact absurd h h1;exact h
   simp [objCells,h1,h2]
   exact endV_1 (by simp) (by simp) rfl
 | some o =>
  have hmay:mayH g=true:=by
   unfold opAt at hop
   cases hm:mayH g
   ·rw [hm] at hop;cases hop
   ·rfl
  unfold ownAt
  rw [hop]
  obtain ⟨i,j,rfl,rfl,hi,hj,ho⟩:=opAt_some hop
  simp only [Int.toNat_natCast]
  rw [getD_lt hi]
  have hoo:opsAt g (i:Int)=((g.ts[i]).nl,(g.ts[i]).ops):=by
   unfold opsAt
   rw [hmay,if_pos (by simp;omega)]
   simp only [Int.toNat_natCast]
   rw [getD_lt hi]
  rw [hoo] at e129
  have hos:=hs.os _ (List.getElem_mem hi)
  have hlw:((g.ts[i]).ops.flatMap opC)[j * 4]? = some (.bool o.w):=by
   have:=fld_at opC_len (g.ts[i]).ops hj (by decide:0<4)
   rw [Nat.add_zero,ho] at this
   rw [this];rfl
  have hlk:((g.ts[i]).ops.flatMap opC)[j * 4+1]? = some (.int .i64 o.key):=by
   rw [fld_at opC_len (g.ts[i]).ops hj (by decide:1<4),ho];rfl
  have n1:decide ((j:Int)<0)=false:=by simp
  have n2:decide (((g.ts[i]).ops.length:Int)≤j)=false:=by simp;omega
  have n3:((g.ts[i]).ops.length≤j)=False:=by simp;omega
  have n4:(((g.ts[i]).ops.length:Int)≤j)=False:=by simp;omega
  have hle:j≤(g.ts[i]).ops.length:=by omega
  have hsl:slSlV 4 none (some (.int .i64 (j:Int))) (slOf (g.ts[i]).nl opC (g.ts[i]).ops)=some (slOf (g.ts[i]).nl opC ((g.ts[i]).ops.take j)):=by
   have h1:=slSl_to (kk:=.i64) (t:=none) (nl:=(g.ts[i]).nl) (sz:=4) (cs:=(g.ts[i]).ops.flatMap opC) (n:=(g.ts[i]).ops.length) (k:=j) hle (flatMap_len opC_len _)
   refine Eq.trans h1 ?_
   have h2:((g.ts[i]).ops.flatMap opC).take (j * 4)=((g.ts[i]).ops.take j).flatMap opC:=by
    conv=>lhs;rw [← List.take_append_drop j (g.ts[i]).ops,List.flatMap_append]
    rw [List.take_left']
    rw [flatMap_len opC_len,List.length_take,Nat.min_eq_left hle]
   rw [h2,slOf,List.length_take,Nat.min_eq_left hle]
  have e130:=ev177 (g.ts[i]).nl ((g.ts[i]).ops.take j) (by rw [List.length_take];omega) o.key
  have hlast:(lastW ((g.ts[i]).ops.take j) o.key).2=(rawTo o.key (g.ts[i]).ops j).2:=by
   unfold lastW
   rw [rawTo_any _ _ _ (Nat.le_refl _),rawTo_any _ _ _ hle,List.take_length]
  simp [F136,histC,placeC,objCells]
  refine kS_ev e129 (by simp [histC]) rfl (by simp [histC]) ?_
  rw [retA_plain rfl,wpD_some]
  cases hw:o.w
  ·simp [objCells,n1,n4,hj,idx_slOf opC_len,hlw,hw]
   simp [hsl,hlk,hj,idx_slOf opC_len,objCells]
   refine kD_ev e130 (by simp) rfl (by simp) ?_
   rw [retA_tupl (by simp [V.plain,valC])]
   rw [← hlast]
   generalize lastW ((g.ts[i]).ops.take j) o.key=lw at *
   simp [valC,objCells,splice]
   refine ⟨by simp [drawOk,indep,disj,fpOf,rdOb,rdTk,lOf,Delta.wo,Delta.wt];try decide,?_⟩
   exact endV_1 (by simp) (by simp) rfl
  ·simp [objCells,n1,n4,hj,idx_slOf opC_len,hlw,hw]
   exact endV_1 (by simp) (by simp) rfl
def readIn (g:Hist') (i:Nat):Nat→List (Int × Int)
 | 0=>[]
 | k+1=>readIn g i k++(if outerB g i k then [((i:Int),(k:Int))] else [])
def readAt (g:Hist'):Nat→List (Int × Int)
 | 0=>[]
 | i+1=>readAt g i++(match g.ts[i]? with | some t=>if isCom t then readIn g i t.ops.length else [] | none=>[])
def readH (g:Hist'):List (Int × Int):=readAt g g.ts.length
theorem readIn_len (g:Hist') (i:Nat):∀ k,(readIn g i k).length≤k
 | 0=>Nat.le_refl _
 | k+1=>by
  have:=readIn_len g i k
  simp only [readIn,List.length_append]
  split <;> simp <;> omega
theorem readAt_len {g:Hist'} (hs:Small g):∀ i,(readAt g i).length≤i * 1000
 | 0=>Nat.zero_le _
 | i+1=>by
  have:=readAt_len hs i
  simp only [readAt,List.length_append]
  rw [show (i+1) * 1000=i * 1000+1000 by omega]
  split
  ·rename_i t ht
   have h1:=readIn_len g i t.ops.length
   have h2:=hs.os t (List.mem_of_getElem? ht)
   split
   ·omega
   ·simp only [List.length_nil];omega
  ·simp only [List.length_nil];omega
theorem readAt_succ {g:Hist'} {i:Nat} (h:i<g.ts.length):readAt g (i+1)=readAt g i++(if isCom g.ts[i] then readIn g i (g.ts[i]).ops.length else []):=by
 simp only [readAt,List.getElem?_eq_getElem h]
def rdOf (g:Hist') (x:Int):List (Int × Int):=readIn g x.toNat (g.ts.getD x.toNat ⟨0,0,true,[]⟩).ops.length
theorem rdOf_at {g:Hist'} {i:Nat} (h:i<g.ts.length):rdOf g i=readIn g i (g.ts[i]).ops.length:=by
 unfold rdOf
 rw [Int.toNat_natCast,getD_lt h]
theorem readAt_flat {g:Hist'}:∀ n,n≤g.ts.length→(numsTo isCom g.ts n).flatMap (rdOf g)=readAt g n
 | 0,_=>rfl
 | n+1,h=>by
  rw [numsTo_succ (by omega),readAt_succ (by omega),List.flatMap_append,readAt_flat n (by omega)]
  cases isCom g.ts[n]
  ·rfl
  ·simp [rdOf_at (show n<g.ts.length by omega)]
def readW (g:Hist'):List (Int × Int):=if wholeH g then readH g else []
theorem readW_flat (g:Hist'):(comH g).flatMap (rdOf g)=readW g:=by
 unfold comH readW
 split
 ·exact readAt_flat _ (Nat.le_refl _)
 ·rfl
theorem comH_lt {g:Hist'}:∀ x∈comH g,0≤x∧x<g.ts.length:=by
 unfold comH
 split
 ·exact (numsTo_lt (p:=isCom) (ts:=g.ts) _ (Nat.le_refl _)).1
 ·simp
theorem comH_len (g:Hist'):(comH g).length≤g.ts.length:=by
 unfold comH
 split
 ·exact numsTo_len _ _ _
 ·simp
theorem take_rd_len {g:Hist'} (hs:Small g):∀ (l:List Int),(∀ x∈l,0≤x∧x<g.ts.length)→(l.flatMap (rdOf g)).length≤l.length * 1000
 | [],_=>Nat.zero_le _
 | x::l,h=>by
  obtain ⟨h1,h2⟩:=h x (List.mem_cons_self ..)
  obtain ⟨i,rfl⟩:∃ i:Nat,x=i:=⟨x.toNat,by omega⟩
  have hi:i<g.ts.length:=by omega
  have:=take_rd_len hs l fun y hy=>h y (List.mem_cons_of_mem _ hy)
  have h3:=readIn_len g i (g.ts[i]).ops.length
  have h4:=hs.os _ (List.getElem_mem hi)
  rw [List.flatMap_cons,List.length_append,rdOf_at hi,List.length_cons,Nat.succ_mul]
  omega
theorem ev86 {g:Hist'} (hs:Small g):∃ v,Ev E 86 [.agg (histC g)] v∧SlR v (readW g).isEmpty (readW g).length ((readW g).flatMap placeC):=by
 have hts:=hs.ts
 obtain ⟨vc,evc,hvc⟩:=ev71 hs
 have hCl:=comH_len g
 have hClt:=comH_lt (g:=g)
 rw [← readW_flat]
 generalize comH g=C at *
 obtain ⟨L,hL⟩:∃ L,C.flatMap (rdOf g)=L:=⟨_,rfl⟩
 rw [hL]
 refine Ev_wpE (af:=F86) rfl (by decide) ?_
 simp [F86,histC,objCells]
 refine kS_ev evc (by simp [histC]) rfl (by simp [histC]) ?_
 refine retSl hvc fun tc addc=>?_
 simp
 refine wp_loopUp [(3,7),(11,36)] C.length (fun i s=>s.tm 11 = .int .i64 i∧s.ob 2=some ⟨0,.cells (histC g)⟩∧Grow s.tk 0 s.nx placeC 2 ((C.take i).flatMap (rdOf g)) (s.tm 3)) rfl rfl ⟨by simp,by simp [histC],by simp;exact Grow.nil _ _ _ _ _⟩ ?_
 rintro i s hi ⟨h11,o2,hG⟩ f
 have f1:s.tm 1 = .ptr 2 0 0:=by rw [f.t 1 (by simp)];simp
 have f9:s.tm 9 = .sl tc C.isEmpty C.length (C.flatMap intC):=by rw [f.t 9 (by simp)];simp
 have f10:s.tm 10 = .int .i64 C.length:=by rw [f.t 10 (by simp)];simp
 have fd:s.df=[]:=by rw [f.d];simp
 have fb:s.fb=0:=by rw [f.b];simp
 have fr:s.ro=0:=by rw [f.r];simp
 clear f
 by_cases hlt:i<C.length
 ·have hw:=wrapU hlt (by omega)
  obtain ⟨x,hx⟩:∃ x,C[i]=x:=⟨_,rfl⟩
  obtain ⟨x1,x2⟩:=hClt x (hx ▸ List.getElem_mem hlt)
  obtain ⟨j,rfl⟩:∃ j:Nat,x=j:=⟨x.toNat,by omega⟩
  have hj:j<g.ts.length:=by omega
  have hci:=int_at C hlt
  rw [hx] at hci
  have hfo:(g.ts.flatMap txnC)[j * 3+2]? = some (slOf (g.ts[j]).nl opC (g.ts[j]).ops):=by
   rw [fld_at txnC_len g.ts hj (by decide:2<3)];rfl
  have hix:idxSlV 1 (.sl tc C.isEmpty C.length (C.flatMap intC)) (.int .i64 (i:Int))=some (.eptr (C.flatMap intC) (i * 1)):=by
   simp only [idxSlV_sl,flatMap_len intC_len]
   rw [if_pos (by simp;omega)]
   rfl
  rw [Nat.mul_one] at hix
  simp [h11,f1,f9,f10,o2,objCells,histC,hlt,hix,hci,hj,idx_slOf txnC_len,hfo]
  obtain ⟨P,hP⟩:∃ P,(C.take i).flatMap (rdOf g)=P:=⟨_,rfl⟩
  have hPl:P.length≤1000000:=by
   have h1:=take_rd_len hs (C.take i) (fun x hx=>hClt x (List.mem_of_mem_take hx))
   rw [hP,List.length_take] at h1
   have:min i C.length * 1000≤1000 * 1000:=Nat.mul_le_mul_right _ (by omega)
   omega
  have hnext:(C.take (i+1)).flatMap (rdOf g)=P++readIn g j (g.ts[j]).ops.length:=by
   rw [List.take_succ_eq_append_getElem hlt,List.flatMap_append,hP,hx]
   simp [rdOf_at hj]
  rw [hP] at hG
  refine wp_loopUp [(3,3),(6,7),(22,35)] (g.ts[j]).ops.length (fun k s'=>s'.tm 22 = .int .i64 k∧s'.ob 2=some ⟨0,.cells (histC g)⟩∧Grow s'.tk 0 s'.nx placeC 2 (P++readIn g j k) (s'.tm 3)) rfl rfl ⟨by simp,by simp [o2],by simp [readIn];exact hG.mono (fun _ _ _ h=>h) (by omega)⟩ ?_
  rintro k s' hk ⟨h22,o2',hG'⟩ f
  have e1:s'.tm 1 = .ptr 2 0 0:=by rw [f.t 1 (by simp)];simp [f1]
  have e5:s'.tm 5 = .int .i64 j:=by rw [f.t 5 (by simp)];simp
  have e11:s'.tm 11 = .int .i64 i:=by rw [f.t 11 (by simp)];simp [h11]
  have e21:s'.tm 21 = .int .i64 (g.ts[j]).ops.length:=by rw [f.t 21 (by simp)];simp
  have ed:s'.df=[]:=by rw [f.d];simp [fd]
  have eb:s'.fb=0:=by rw [f.b];simp [fb]
  have er:s'.ro=0:=by rw [f.r];simp [fr]
  clear f
  have e89:=ev136 hs (j:Int) (k:Int)
  have hos:=hs.os _ (List.getElem_mem hj)
  have hrl:=readIn_len g j k
  by_cases hkt:k<(g.ts[j]).ops.length
  ·have hw':=wrapU hkt (by omega)
   simp [h22,e1,e5,e21,o2',objCells,histC,hkt,splice,eb,er]
   refine kS_ev e89 (by simp [histC,placeC]) rfl (by simp [histC,placeC]) ?_
   cases ho:outerB g j k
   ·have hstep:readIn g j (k+1)=readIn g j k:=by rw [readIn,ho];simp
    simp [h22,hw',o2',histC]
    rw [hstep]
    exact ⟨hkt,hG'.mono (fun u _ _ h=>by simpa [app_tk0] using h) (by omega)⟩
   ·have hstep:P++readIn g j (k+1)=(P++readIn g j k)++[((j:Int),(k:Int))]:=by rw [readIn,ho,List.append_assoc];simp
    simp [objCells]
    refine kS_buildSl (cs:=placeC (j,k)) (by simp [splice,placeC]) rfl rfl ?_
    simp
    refine kS_appendG (f:=placeC) (lo:=0) (hi:=s'.nx) (l:=P++readIn g j k) (a:=((j:Int),(k:Int))) (v:=s'.tm 3) (hG'.mono (fun u _ _ h=>by simp [app_tk,h]) (Nat.le_refl _)) (by simp) (by simp [slCells,placeC]) placeC_len (by decide) rfl (by rw [List.length_append];omega) (by rw [List.length_append];omega) (fun del hdel=>?_)
    have hlen:(P++readIn g j k).length+1=(P++readIn g j (k+1)).length:=by rw [hstep,List.length_append (bs:=[_])];rfl
    have hne:P++readIn g j (k+1)≠[]:=by rw [hstep];simp
    rw [← hstep,hlen]
    obtain ⟨M,hM⟩:∃ M,P++readIn g j (k+1)=M:=⟨_,rfl⟩
    rw [hM] at hne ⊢
    simp [h22,hw',o2',histC,hM]
    exact ⟨hkt,.inr ⟨hne,_,rfl,by simp [app_tk],Nat.zero_le _,by omega⟩⟩
  ·have:k=(g.ts[j]).ops.length:=by omega
   subst this
   simp [h22,e11,e21,o2',histC,hw]
   rw [hnext]
   exact ⟨hlt,hG'.mono (fun _ _ _ h=>h) (by omega)⟩
 ·have:i=C.length:=by omega
  subst this
  rw [List.take_length,hL] at hG
  obtain ⟨t,ht⟩:=hG.form
  simp [h11,f10]
  exact slE (t:=t) (nl:=L.isEmpty) (k:=L.length) (cs:=L.flatMap placeC) (fun r h=>h) (by simp [fd]) (by simp [ht])
section
variable {E:Env} {st:St} {ub:Nat} {K:List FP→St→Prop} {d:Option Nat} {nm:Bool} {r:List AOpr}
end
def lstC (x:Bool × List Int):List V:=[.sl none x.1 x.2.length (x.2.flatMap intC)]
@[simp] theorem lstC_len (x:Bool × List Int):(lstC x).length=1:=rfl
end Go.Pv.T
