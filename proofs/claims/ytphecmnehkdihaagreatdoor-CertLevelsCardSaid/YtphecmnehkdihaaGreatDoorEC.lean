/- Code does what the interpreter says. -/
import Derived.Test.YtphecmnehkdihaaGreatDoorEB
import Derived.RangeFuncLeaves
import Derived.KernelRfl
import Derived.Test.YtphecmnehkdihaaGreatDoorRows
set_option maxRecDepth 100000
namespace Go.Pv
open Go
def exOf:Ex→Exit
 | .nrm=>.normal
 | .exit id=>.exit id
 | .ret=>.ret
section
variable {P:Program} {E:Env} {nt:Nat} {call:Y→Callers}
def CodeOk (P:Program) (E:Env) (nt:Nat) (call:Y→Callers) (y:Y) (N:Nat) (γ0:Nat→Option Place) (Iy:IMap) (c:Code) (ac:C) (rn:Option Nat):Prop :=
 ∀ (w0:World) (I0:IMap) (Q:Exit→Act→World→Prop) (st:St) (l:List (Ex × St)) (γ:Nat→Option Place) (I:IMap) (a:Act) (w:World),SubG γ0 γ→SubI Iy I →
  codeL E call y N ac st=some l→R E w0 I0 nt γ I st a w→(∀ u,st.nx≤u→γ u=none)→(∀ x∈l,Nice E w0 I0 nt γ I x.2 x.2.nx (fun a w=>Q (exOf x.1) a w))→c.wpIn (FW rn) 0 P Q a w
theorem roundY_ok {y:Y} {N:Nat} {γ0 γ1:Nat→Option Place} {Iy I1:IMap} {asg bd:C} {ca cb:Code} {st:St} {L lb ub:Nat} {rec:Loop} {ps:Array Nat}
 (ha:CodeOk P E nt call y N γ0 Iy ca asg (some L)) (hb:CodeOk P E nt call y N γ0 Iy cb bd (some L)) (hg:SubG γ0 γ1) (hI:SubI Iy I1) (hu:γ1 ub=some (.obj L (.lp rec)))
 (htm:∀ t,Rep γ1 I1 (rec.tmps.getD t undef) (st.tm t)) (hsz:rec.tmps.size=nt) (hps:rec.params=ps) (hpl:∀ p∈ps.toList,p<nt) (hca:rec.assign=ca) (hcb:rec.body=cb) :
 YOk P E γ1 I1 (roundY (codeL E call y N asg) (codeL E call y N bd) st ps.toList lb ub):=by
 intro l' u' args obx tkx rox ubx r ob' tk' ub' hy
 unfold roundY at hy
 simp only [Option.ite_none_right_eq_some] at hy
 obtain ⟨⟨hl1,hu1,hlen,hro⟩,hy⟩:=hy
 subst l'
 subst u'
 split at hy
 case h_2=>cases hy
 rename_i u1 hob1
 simp only [Option.ite_none_right_eq_some] at hy
 obtain ⟨hu1,hy⟩:=hy
 subst u1
 split at hy
 case h_2=>cases hy
 rename_i s1 hs1
 split at hy
 case h_2=>cases hy
 rename_i u2 hob2
 simp only [Option.ite_none_right_eq_some] at hy
 obtain ⟨hu2,hy⟩:=hy
 subst u2
 split at hy
 case h_2=>cases hy
 rename_i e s2 hs2
 split at hy
 case h_2=>cases hy
 rename_i u3 hob3
 simp only [Option.ite_none_right_eq_some] at hy
 obtain ⟨hu3,hy⟩:=hy
 subst u3
 intro w0 w I0 I γ xs sx b k hg1 hI1 hobx htkx hrox hSh hfr hxs hargs hbk
 rw [hg1 _ _ hu] at hbk
 cases hbk
 subst hobx
 subst htkx
 subst hrox
 have hγu:=hg1 _ _ hu
 obtain ⟨r0,hr0,hheap⟩:=ob_get hSh hob1 hγu
 cases hr0
 have hyl:=run_yield (P:=P) (args:=xs) hheap (by show xs.size=rec.params.size;rw [hps,hxs,hlen];simp)
 refine ⟨_,_,_,_,hyl,?_⟩
 simp only [hca,hcb]
 have hpl':∀ p∈ps.toList,p<rec.tmps.size:=by rw [hsz];exact hpl
 have hset:=setPs_rep (γ:=γ) (I:=I) ps.toList args xs.toList rec.tmps st.tm (by simpa using hxs) hlen hpl' (fun t=>(htm t).mono hg1 hI1) (fun j x v hx hv=>hargs j x v (by simpa using hx) hv)
 have hfold:(rec.params.zip xs).foldl (fun tmps (t,a)=>tmps.setIfInBounds t a) rec.tmps=(ps.toList.zip xs.toList).foldl (fun tmps (t,a)=>tmps.setIfInBounds t a) rec.tmps:=by
  rw [hps,← Array.foldl_toList,Array.toList_zip]
 refine roundIn_of_wpIn trivial ?_
 show Code.wpIn (FW (some L)) 0 P _ _ _ _
 have hR0:R E w0 I0 nt γ I { tm:=setPs st.tm ps.toList args,ob:=sx.ob,tk:=sx.tk,ro:=sx.ro,nx:=ubx,fb:=st.fb,df:=[] } { tmps:=(rec.params.zip xs).foldl (fun tmps (t,a)=>tmps.setIfInBounds t a) rec.tmps,defers:=[] } w:=by
  rw [hfold]
  exact ⟨hset.1.trans hsz,trivial,hset.2,hSh.congr rfl rfl rfl⟩
 refine ha w0 I0 _ _ _ γ I _ w (hg.trans hg1) (hI.trans hI1) hs1 hR0 hfr (fun x hx=>?_)
 rw [List.mem_singleton] at hx
 subst hx
 intro γ2 I2 a2 w2 hR2 hf2 hg2 hI2
 -- the round begins
 have hγu2:=hg2 _ _ hγu
 obtain ⟨r0,hr0,hheap2⟩:=ob_get hR2.sh hob2 hγu2
 cases hr0
 have hbr:=run_beginRound (P:=P) hheap2 rfl
 refine ⟨_,hbr,?_⟩
 show Code.wpIn (FW (some L)) 0 P _ _ _ _
 have hro2:s1.ro=sx.ro:=codeL_ro _ hs1 _ (List.mem_singleton.2 rfl)
 have hSh3:=hR2.sh.turn (ob':=upd s1.ob lb (some ⟨ub,.loop .busy none⟩)) (o':=.loop { rec with state:=.busy,pending:=none }) hob2 hγu2 (by rw [hro2];exact hro) (fun l2 x hx=>by
  rw [upd_apply] at hx
  split at hx
  ·rename_i h2;subst h2;cases hx;exact .inr ⟨rfl,rfl,⟨rec,rfl,rfl⟩,fun _ _ h=>by cases h⟩
  ·rename_i h2;exact .inl ⟨h2,hx⟩)
 have hR3:R E w0 I0 nt γ2 I2 { s1 with ob:=upd s1.ob lb (some ⟨ub,.loop .busy none⟩) } a2 (w2.putObj L (.loop { rec with state:=.busy,pending:=none })):=⟨hR2.sz,hR2.df,hR2.tm,hSh3⟩
 refine hb w0 I0 _ _ _ γ2 I2 _ _ ((hg.trans hg1).trans hg2) ((hI.trans hI1).trans hI2) hs2 hR3 hf2 (fun x hx=>?_)
 rw [List.mem_singleton] at hx
 subst hx
 intro γ3 I3 a3 w3 hR4 hf4 hg4 hI4
 have hγu3:=hg4 _ _ hγu2
 obtain ⟨r0,hr0,hheap3⟩:=ob_get hR4.sh hob3 hγu3
 cases hr0
 have hro3:s2.ro=sx.ro:=(codeL_ro _ hs2 _ (List.mem_singleton.2 rfl)).trans hro2
 -- the round ends
 have fin:∀ (jump:Option Ex) (s:LS),lsOf s=(if (jump.map exCode).isNone then .ready else .done)→some (V.bool (jump.map exCode).isNone,upd s2.ob lb (some ⟨ub,.loop s jump⟩),s2.tk,s2.nx)=some (r,ob',tk',ub') →
  ∃ v w',(Instr.endRound L (jump.map exCode)).run P w3 = .ok v w'∧SharedPost E w0 I0 γ I sx.ro r ob' tk' ub' (.returned v) w':=by
  intro jump s hs he
  cases he
  have her:=run_endRound (P:=P) (jump.map exCode) hheap3
  refine ⟨_,_,her,.bool (jump.map exCode).isNone,γ3,I3,rfl,fun st' e1 e2 e3=>?_,.pure _ _ (.bool _),SubG.trans hg2 hg4,SubI.trans hI2 hI4,hf4⟩
  have hSh5:=hR4.sh.turn (ob':=upd s2.ob lb (some ⟨ub,.loop s jump⟩)) (o':=.loop { rec with state:=lsOf s,pending:=jump.map exCode }) hob3 hγu3 (by rw [hro3];exact hro) (fun l2 x hx=>by
   rw [upd_apply] at hx
   split at hx
   ·rename_i h2;subst h2;cases hx;exact .inr ⟨rfl,rfl,⟨rec,rfl,rfl⟩,fun _ _ h=>by cases h⟩
   ·rename_i h2;exact .inl ⟨h2,hx⟩)
  rw [hs] at hSh5
  exact hSh5.congr e1 e2 (e3.trans hro3.symm)
 cases e with
 | nrm=>exact fin none .ready rfl hy
 | ret=>exact fin (some .ret) .done rfl hy
 | exit id=>exact fin (some (.exit id)) .done rfl hy
theorem dst_lt {l:List AOpr} {n:Nat} (h:(l.all fun o=>match o.dst with | some d=>Nat.blt d n | none=>true)=true):∀ ao∈l,∀ d,ao.dst=some d→d<n:=by
 intro ao hao d hdd
 have:=List.all_eq_true.1 h ao hao
 simp only [hdd] at this
 simpa [Nat.blt_eq] using this
theorem serialFrom_aux (ops:Array Oper):∀ n,serialFrom ops n≤n∧∀ j,serialFrom ops n≤j→j<n→∀ i,i<j→((aheads ops.toList []).getD j 0).testBit i=true
 | 0=>⟨Nat.le_refl _,fun j _ h=>by omega⟩
 | n+1=>by
  obtain ⟨h1,h2⟩:=serialFrom_aux ops n
  have e:serialFrom ops (n+1)=if (List.range n).all fun i=>((aheads ops.toList []).getD n 0).testBit i then serialFrom ops n else n+1:=by
   unfold serialFrom
   rw [List.range_succ,List.foldl_append]
   rfl
  rw [e]
  split
  ·rename_i hall
   refine ⟨by omega,fun j hj hjn i hi=>?_⟩
   rcases Nat.lt_succ_iff_lt_or_eq.1 hjn with h | rfl
   ·exact h2 j hj h i hi
   ·exact List.all_eq_true.1 hall i (List.mem_range.2 hi)
  ·exact ⟨Nat.le_refl _,fun j hj hjn=>by omega⟩
theorem serialFrom_le (ops:Array Oper) (n:Nat):serialFrom ops n≤n:=(serialFrom_aux ops n).1
theorem serialFrom_spec (ops:Array Oper) (n:Nat):∀ j,serialFrom ops n≤j→j<n→∀ i,i<j→((aheads ops.toList []).getD j 0).testBit i=true:=(serialFrom_aux ops n).2
theorem only_some {α:Type} {x:Option (List α)} {a:α} (h:only x=some a):x=some [a]:=by
 unfold only at h
 split at h
 ·cases h;rfl
 ·cases h
theorem code_ok (hm:P.follows .mixedOrders=true) (hco:CallersOk P E call) (N:Nat) {y:Y} {γ0:Nat→Option Place} {Iy:IMap} (hy:YOk P E γ0 Iy y) :
 ∀ (c:Code) (ac:C) (m r:Bool) (rn:Option Nat),(r=true∨rn=none)→comp P m r c=some ac→ac.dstOk nt=true→CodeOk P E nt call y N γ0 Iy c ac rn:=by
 intro c
 induction c with
 | skip =>
  intro ac m r rn hrn hc hd w0 I0 Q st l γ I a w hg0 hI0 hl hR hf hK
  cases hc
  cases hl
  exact wpIn_skip (hK _ (List.mem_singleton.2 rfl) γ I a w hR hf (fun _ _ h=>h) (fun _ _ _ h=>h))
 | ret =>
  intro ac m r rn hrn hc hd w0 I0 Q st l γ I a w hg0 hI0 hl hR hf hK
  cases hc
  cases hl
  exact wpIn_ret (hK _ (List.mem_singleton.2 rfl) γ I a w hR hf (fun _ _ h=>h) (fun _ _ _ h=>h))
 | exit id =>
  intro ac m r rn hrn hc hd w0 I0 Q st l γ I a w hg0 hI0 hl hR hf hK
  cases hc
  cases hl
  exact wpIn_exit (hK _ (List.mem_singleton.2 rfl) γ I a w hR hf (fun _ _ h=>h) (fun _ _ _ h=>h))
 | region id ops drawn =>
  intro ac m r rn hrn hc hd w0 I0 Q st l γ I a w hg0 hI0 hl hR hf hK
  cases drawn with
  | false =>
   simp only [comp] at hc
   obtain ⟨als,hals,rfl⟩:=map_some hc
   simp only [codeL] at hl
   obtain ⟨sts,hst,rfl⟩:=map_some hl
   exact wpIn_region_list (opsR_ok (hco _ _ _ hy) _ als hals (dst_lt hd) γ I st a w st.nx sts hg0 hI0 hR hf hst (fun st' hst'=>hK _ (List.mem_map.2 ⟨st',hst',rfl⟩)))
  | true =>
   simp only [comp] at hc
   obtain ⟨als,hals,hc⟩:=map_some hc
   split at hc
   case h_2=>subst hc;cases hl
   rename_i free hfree
   obtain ⟨hlen,_⟩:=mapM_some hals
   have hlen:als.length=ops.size:=by rw [hlen,Array.length_toList]
   have hrep:∀ i d,(Array.replicate ops.size false).getD i d=if i<ops.size then false else d:=by
    intro i d
    by_cases hi:i<ops.size <;> simp [hi]
   split at hc
   ·generalize hk:serialFrom ops als.length=k at hc
    have hkl:k≤als.length:=hk ▸ serialFrom_le ops als.length
    have hsuf:∀ j,k≤j→j<ops.size→∀ i,i<j→((aheads ops.toList []).getD j 0).testBit i=true:=fun j h1 h2=>serialFrom_spec ops als.length j (by rw [hk];exact h1) (by omega)
    split at hc
    ·rename_i c hpin
     obtain ⟨_,hpin⟩:=Option.filter_eq_some_iff.1 hpin
     have hck:c+1<k:=by
      unfold pinOk at hpin
      simp only [Bool.and_eq_true,Nat.blt_eq] at hpin
      exact hpin.1.1.1
     have hac:=List.getElem?_eq_getElem (show c<als.length by omega)
     have hgd:als.getD c noOp=als[c]'(by omega):=by rw [List.getD_eq_getElem?_getD,hac];rfl
     subst hc
     rw [hgd] at hl hd
     generalize als[c]'(by omega)=ac0 at *
     simp only [codeL] at hl
     obtain ⟨l1,h1,h2⟩:=bindL_spec hl
     obtain ⟨⟨fps,S⟩,hst,h1⟩:=bind_some h1
     simp only [Option.ite_none_right_eq_some,Option.some.injEq] at h1
     obtain ⟨hok,rfl⟩:=h1
     rw [Bool.and_eq_true] at hok
     obtain ⟨rx,h3,h4⟩:=h2 _ (List.mem_singleton.2 rfl)
     simp only at h3
     obtain ⟨l2,h5,h6⟩:=bindL_spec h3
     obtain ⟨l3,h7,h8⟩:=bindL_spec h5
     have hd':∀ ao∈als,∀ d,ao.dst=some d→d<nt:=by
      simp only [C.dstOk,Bool.and_eq_true] at hd
      obtain ⟨d1,d2,d3⟩:=hd
      intro ao hao
      obtain ⟨i,hi,rfl⟩:=List.getElem_of_mem hao
      by_cases hik:i<k
      ·by_cases hic:i=c
       ·subst hic
        have:als[i]=ac0:=by rw [List.getElem?_eq_getElem hi] at hac;simpa using hac
        rw [this]
        exact dst_lt d2 ac0 (List.mem_cons_self ..)
       ·refine dst_lt d1 _ (List.mem_of_getElem? (i:=i) ?_)
        rw [List.getElem?_set_ne (Ne.symm hic),List.getElem?_take,if_pos hik,List.getElem?_eq_getElem hi]
      ·refine dst_lt d3 _ (List.mem_of_getElem? (i:=i - k) ?_)
       rw [List.getElem?_drop,show k+(i - k)=i by omega,List.getElem?_eq_getElem hi]
     refine wpIn_region_any hm (pin_ok (w0:=w0) (I0:=I0) hkl hsuf hpin hac (hco _ _ _ hy) hg0 hI0 hals hfree hd' hst hok.1 hok.2 h7 (fun x hx=>?_) (hR.drawn _) hf)
     obtain ⟨rx',h9,h10⟩:=h8 x hx
     obtain ⟨p,hp,h11⟩:=bind_some h9
     simp only [Option.ite_none_right_eq_some,Option.some.injEq] at h11
     obtain ⟨hsame,rfl⟩:=h11
     obtain ⟨rx2,h12,h13⟩:=h6 _ (h10 _ (List.mem_singleton.2 rfl))
     simp only at h12
     obtain ⟨sts,hsts,rfl⟩:=map_some h12
     exact ⟨p,sts,hp,hsame,hsts,fun st' hst'=>hK _ (h4 _ (h13 _ (List.mem_map.2 ⟨st',hst',rfl⟩)))⟩
    subst hc
    simp only [codeL] at hl
    obtain ⟨l1,h1,h2⟩:=bindL_spec hl
    obtain ⟨⟨fps,st'⟩,hst,h1⟩:=bind_some h1
    simp only [Option.ite_none_right_eq_some,Option.some.injEq] at h1
    obtain ⟨hok,rfl⟩:=h1
    rw [Bool.and_eq_true] at hok
    obtain ⟨hok,hnw⟩:=hok
    obtain ⟨rx,h3,h4⟩:=h2 _ (List.mem_singleton.2 rfl)
    simp only at h3
    obtain ⟨sts,hsts,rfl⟩:=map_some h3
    obtain ⟨effs,htr,rfl⟩:=drawR_trace (als.take k) st st.nx fps st' hst
    have hd':∀ ao∈als,∀ d,ao.dst=some d→d<nt:=by
     simp only [C.dstOk,Bool.and_eq_true] at hd
     intro ao hao
     rw [← List.take_append_drop k als] at hao
     rcases List.mem_append.1 hao with h | h
     ·exact dst_lt hd.1 ao h
     ·exact dst_lt hd.2 ao h
    have hnil:foldD (fun i=>(Array.replicate ops.size false).getD i false) effs st=st:=by
     have:(fun i=>(Array.replicate ops.size false).getD i false)=fun _=>false:=funext fun i=>by rw [hrep];split <;> rfl
     rw [this]
     exact nil_fold _ _
    have htl:(als.take k).length=k:=by rw [List.length_take];omega
    refine wpIn_region_any hm (any_okK (w0:=w0) (I0:=I0) (kk:=k) (al':=als.take k) (sp:=fun _=>false) hkl htl (fun i ao hi _ h=>by rw [List.getElem?_take,if_pos hi];exact h) (fun _ _ h=>by cases h) hsuf (hco _ _ _ hy) hals hfree htr hok hnw hd' (γ:=γ) (I:=I) (fun _ _ _ _ _ _ _ h=>by cases h) (fun γ' I' a' w' fuel listed hsz hmask _ hcnt hR' hf' hg hI=>?_) ops.size (Array.replicate ops.size false) γ I a _ (by simp) ?_ ?_ (fun _ h=>by cases h) ?_ ?_ ?_ ?_ (fun _ _ h=>h) (fun _ _ _ h=>h))
    ·exact serial_ok hsuf (hco _ _ _ hy) hals hfree hd' (ops.size - k) k (Nat.le_refl _) (by omega) fuel listed γ' I' { foldD (fun _=>true) effs st with nx:=st.nx+64 * (als.take k).length } a' w' (st.nx+64 * (als.take k).length) sts hsz hmask hcnt (hg0.trans hg) (hI0.trans hI) (hR'.congr rfl rfl rfl rfl rfl) (fun u hu=>hf' u (by rw [htl] at hu;exact hu)) hsts
      (fun st' hst'=>(hK _ (h4 _ (List.mem_map.2 ⟨st',hst',rfl⟩))).weaken hg hI)
    ·intro j o ho hj
     simp only [hrep] at hj
     split at hj <;> cases hj
    ·intro j hj
     rw [hrep];split <;> rfl
    ·simp
    ·rw [hnil]
     exact hR.drawn _
    ·intro u hu
     exact hf u (by omega)
    ·intro j hj u h1 h2
     exact hf u (by omega)
   subst hc
   simp only [codeL] at hl
   obtain ⟨⟨fps,st'⟩,hst,hl⟩:=bind_some hl
   simp only [Option.ite_none_right_eq_some,Option.some.injEq] at hl
   obtain ⟨hok,rfl⟩:=hl
   rw [Bool.and_eq_true] at hok
   obtain ⟨hok,hnw⟩:=hok
   obtain ⟨effs,htr,rfl⟩:=drawR_trace als st st.nx fps st' hst
   have hnil:foldD (fun i=>(Array.replicate ops.size false).getD i false) effs st=st:=by
    have:(fun i=>(Array.replicate ops.size false).getD i false)=fun _=>false:=funext fun i=>by rw [hrep];split <;> rfl
    rw [this]
    exact nil_fold _ _
   refine wpIn_region_any hm (any_ok (w0:=w0) (I0:=I0) (hco _ _ _ hy) hals hfree htr hok hnw (dst_lt hd) (γ:=γ) (I:=I) (fun γ' I' a' w' hR' hf' hg hI=>?_) ops.size (Array.replicate ops.size false) γ I a _ (by simp) ?_ ?_ ?_ ?_ ?_ (fun _ _ h=>h) (fun _ _ _ h=>h))
   ·exact hK _ (List.mem_singleton.2 rfl) γ' I' a' w' (hR'.congr rfl rfl rfl rfl rfl) hf' hg hI
   ·intro j o ho hj
    simp only [hrep] at hj
    split at hj <;> cases hj
   ·simp
   ·rw [hnil]
    exact hR.drawn _
   ·intro u hu
    exact hf u (by omega)
   ·intro j hj u h1 h2
    exact hf u (by omega)
 | seq x z ihx ihz =>
  intro ac m r rn hrn hc hd w0 I0 Q st l γ I a w hg0 hI0 hl hR hf hK
  simp only [comp] at hc
  obtain ⟨ax,hx,hc⟩:=bind_some hc
  obtain ⟨az,hz,rfl⟩:=map_some hc
  simp only [C.dstOk,Bool.and_eq_true] at hd
  simp only [codeL] at hl
  obtain ⟨l1,h1,h2⟩:=bindL_spec hl
  refine wpIn_seq (ihx ax m r rn hrn hx hd.1 w0 I0 _ st l1 γ I a w hg0 hI0 h1 hR hf (fun p hp=>?_))
  obtain ⟨e,s⟩:=p
  obtain ⟨rx,h3,h4⟩:=h2 _ hp
  cases e with
  | nrm =>
   intro γ' I' a' w' hR' hf' hg hI
   exact ihz az m r rn hrn hz hd.2 w0 I0 Q s rx γ' I' a' w' (hg0.trans hg) (hI0.trans hI) h3 hR' hf' (fun p hp=>(hK p (h4 p hp)).weaken hg hI)
  | exit i =>
   simp only [Option.some.injEq] at h3
   subst h3
   exact hK _ (h4 _ (List.mem_singleton.2 rfl))
  | ret =>
   simp only [Option.some.injEq] at h3
   subst h3
   exact hK _ (h4 _ (List.mem_singleton.2 rfl))
 | cond q x z ihx ihz =>
  intro ac m r rn hrn hc hd w0 I0 Q st l γ I a w hg0 hI0 hl hR hf hK
  simp only [comp] at hc
  obtain ⟨aq,hq,hc⟩:=bind_some hc
  obtain ⟨ax,hx,hc⟩:=bind_some hc
  obtain ⟨az,hz,rfl⟩:=map_some hc
  simp only [C.dstOk,Bool.and_eq_true] at hd
  have hrep:=eval_rep hR hq
  have hv:∀ t,eval E st.tm aq = .bool t→a.eval q = .bool t:=by
   intro t ht
   rw [ht] at hrep
   exact inv_bool hrep
  simp only [codeL] at hl
  split at hl
  ·rename_i hb
   exact wpIn_cond_true (hv _ hb) (ihx ax m r rn hrn hx hd.1 w0 I0 Q st l γ I a w hg0 hI0 hl hR hf hK)
  ·rename_i hb
   exact wpIn_cond_false (hv _ hb) (ihz az m r rn hrn hz hd.2 w0 I0 Q st l γ I a w hg0 hI0 hl hR hf hK)
  ·cases hl
 | block id x ih =>
  intro ac m r rn hrn hc hd w0 I0 Q st l γ I a w hg0 hI0 hl hR hf hK
  simp only [comp] at hc
  obtain ⟨ax,hx,rfl⟩:=map_some hc
  simp only [codeL] at hl
  obtain ⟨l1,h1,rfl⟩:=map_some hl
  refine wpIn_block (ih ax m r rn hrn hx hd w0 I0 _ st l1 γ I a w hg0 hI0 h1 hR hf (fun p hp=>?_))
  have:=hK _ (List.mem_map.2 ⟨p,hp,rfl⟩)
  obtain ⟨e,s⟩:=p
  cases e with
  | nrm=>exact this
  | ret=>exact this
  | exit i =>
   simp only [exOf,Exit.inBlock]
   by_cases hi:i=id
   ·simp only [hi,if_true] at this ⊢
    exact this
   ·simp only [hi,if_false] at this ⊢
    exact this
 | loop x ih =>
  intro ac m r rn hrn hc hd w0 I0 Q st l γ I a w hg0 hI0 hl hR hf hK
  simp only [comp] at hc
  obtain ⟨ax,hx,rfl⟩:=map_some hc
  simp only [codeL] at hl
  have key:∀ (n:Nat) (st:St) (l:List (Ex × St)) (γ:Nat→Option Place) (I:IMap) (a:Act) (w:World),SubG γ0 γ→SubI Iy I→loopL (codeL E call y N ax) n st=some l→R E w0 I0 nt γ I st a w→(∀ u,st.nx≤u→γ u=none) →
   (∀ x∈l,Nice E w0 I0 nt γ I x.2 x.2.nx (fun a w=>Q (exOf x.1) a w))→Code.roundsIn (FW rn) 0 P x Q n a w:=by
   intro n
   induction n with
   | zero=>intro st l γ I a w _ _ hl;cases hl
   | succ n ihn =>
    intro st l γ I a w hg0 hI0 hl hR hf hK
    simp only [loopL] at hl
    obtain ⟨l1,h1,h2⟩:=bindL_spec hl
    rw [roundsIn_succ]
    refine ih ax m r rn hrn hx hd w0 I0 _ st l1 γ I a w hg0 hI0 h1 hR hf (fun p hp=>?_)
    obtain ⟨e,s⟩:=p
    obtain ⟨rx,h3,h4⟩:=h2 _ hp
    cases e with
    | nrm =>
     intro γ' I' a' w' hR' hf' hg hI
     exact ihn s rx γ' I' a' w' (hg0.trans hg) (hI0.trans hI) h3 hR' hf' (fun p hp=>(hK p (h4 p hp)).weaken hg hI)
    | exit i =>
     simp only [Option.some.injEq] at h3
     subst h3
     exact hK _ (h4 _ (List.mem_singleton.2 rfl))
    | ret =>
     simp only [Option.some.injEq] at h3
     subst h3
     exact hK _ (h4 _ (List.mem_singleton.2 rfl))
  exact wpIn_loop_rounds N (key N st l γ I a w hg0 hI0 hl hR hf hK)
 | rangeFunc f ps ca cb iha ihb =>
  intro ac m r rn hrn hc hd w0 I0 Q st l γ I a w hg0 hI0 hl hR hf hK
  cases r with
  | true=>cases hc;cases hl
  | false =>
  have hrn:rn=none:=hrn.resolve_left (by simp)
  subst hrn
  simp only [comp,cond_false] at hc
  obtain ⟨af,hfo,hc⟩:=bind_some hc
  obtain ⟨asg,has,hc⟩:=bind_some hc
  obtain ⟨bd,hbd,rfl⟩:=map_some hc
  simp only [C.dstOk,Bool.and_eq_true] at hd
  obtain ⟨⟨hdp,hda⟩,hdb⟩:=hd
  simp only [codeL] at hl
  split at hl
  case h_2=>cases hl
  rename_i g first captured hev
  obtain ⟨⟨rv,ob,tk,ub⟩,hcall,hl⟩:=bind_some hl
  have hcall:=only_some hcall
  have hrf:=eval_rep hR hfo
  rw [hev] at hrf
  obtain ⟨fx,cx,hfv,s1,s2,s3,s4⟩:=inv_fn hrf
  -- the two blocks
  refine wpIn_rangeFunc (fun fn _=>?_)
  have hγ1:γ (st.nx+1)=none:=hf _ (by omega)
  have hSh1:=hR.sh.alloc (d:=2 * st.nx+3) hγ1 (obj:=.deferred (some [])) (body:=.dfr) (k:=.n 0) rfl
  have hγ0':(upd γ (st.nx+1) (some (.obj w.heap.size (.n 0)))) st.nx=none:=by
   rw [upd_ne _ _ (by omega)]
   exact hf _ (Nat.le_refl _)
  generalize hrec:({ state:=.ready,pending:=none,fn,tmps:=a.tmps,params:=ps,assign:=ca,body:=cb,defers:=w.heap.size }:Loop)=rec
  have hSh2:=hSh1.alloc (d:=2 * st.nx+1) hγ0' (obj:=.loop rec) (body:=.loop .ready none) (k:=.lp rec) ⟨rec,rfl,by rw [← hrec];rfl⟩
  generalize hγe:upd (upd γ (st.nx+1) (some (.obj w.heap.size (.n 0)))) st.nx (some (.obj (w.alloc (.deferred (some []))).heap.size (.lp rec)))=γ1 at hSh2
  have hsub:SubG γ γ1:=by
   rw [← hγe]
   exact SubG.trans (upd_mono hγ1) (upd_mono hγ0')
  have hγl:γ1 st.nx=some (.obj (w.heap.size+1) (.lp rec)):=by rw [← hγe];simp
  have hγd:γ1 (st.nx+1)=some (.obj w.heap.size (.n 0)):=by rw [← hγe,upd_ne _ _ (by omega)];simp
  have hps:∀ p∈ps.toList,p<nt:=fun p hp=>by
   have:=List.all_eq_true.1 hdp p hp
   simpa [Nat.blt_eq] using this
  have hyo:YOk P E γ1 I (roundY (codeL E call y N asg) (codeL E call y N bd) st ps.toList (2 * st.nx+1) st.nx) :=
   roundY_ok (L:=w.heap.size+1) (rec:=rec) (ca:=ca) (cb:=cb) (ps:=ps) (iha asg m true (some (w.heap.size+1)) (.inl rfl) has hda) (ihb bd m true (some (w.heap.size+1)) (.inl rfl) hbd hdb) (hg0.trans hsub) hI0 hγl
    (fun t=>by rw [← hrec];exact (hR.tm t).mono hsub (fun _ _ _ h=>h)) (by rw [← hrec];exact hR.sz) (by rw [← hrec]) hps (by rw [← hrec]) (by rw [← hrec])
  obtain ⟨hfn,hsok⟩:=(hco γ1 I _ hyo).s _ _ _ _ _ _ _ _ hcall
  obtain ⟨fnn,cc,e1,e2,e3⟩:=hfn
  have hcf:=run_callFunc (P:=P) (w:=(w.alloc (.deferred (some []))).alloc (.loop rec)) e1 e2 e3
  have hyrep:Rep γ1 I (.func (.yield (w.heap.size+1)) #[] #[]) (.yld (2 * st.nx+1) st.nx):=.yld _ _ _ _ hγl
  obtain ⟨t1,t2⟩:=append_rep (γ:=γ1) (I:=I) (xs:=fx) (ys:=#[.func (.yield (w.heap.size+1)) #[] #[]]) (us:=first) (vs:=[.yld (2 * st.nx+1) st.nx]) s1 rfl (fun j x v hx hv=>(s3 j x v hx hv).mono hsub (fun _ _ _ h=>h)) (fun j x v hx hv=>by
   match j with
   | 0=>simp at hx hv;subst hx;subst hv;exact hyrep
   | j+1=>simp at hv)
  obtain ⟨u1,u2⟩:=append_rep (γ:=γ1) (I:=I) t1 s2 t2 (fun j x v hx hv=>(s4 j x v hx hv).mono hsub (fun _ _ _ h=>h))
  have hfr2:∀ u,st.nx+64≤u→γ1 u=none:=by
   intro u hu
   rw [← hγe,upd_ne _ _ (by omega),upd_ne _ _ (by omega)]
   exact hf _ (by omega)
  have hcalls:=hsok w0 _ I0 I γ1 _ { st with ob:=upd (upd st.ob (2 * st.nx+3) (some ⟨st.nx+1,.dfr⟩)) (2 * st.nx+1) (some ⟨st.nx,.loop .ready none⟩) } (SubG.refl _) (SubI.refl _) rfl rfl rfl hSh2 hfr2 u1 u2
  have hent:=run_enterLoop_outer (P:=P) (w:=w) fn a.tmps ps ca cb
  rw [hrec] at hent
  refine ⟨_,_,_,{ target:=.fn (.func g) cx,args:=fx++#[.func (.yield (w.heap.size+1)) #[] #[]] },(w.alloc (.deferred (some []))).alloc (.loop rec),g,fx++#[.func (.yield (w.heap.size+1)) #[] #[]]++cx,(w.alloc (.deferred (some []))).alloc (.loop rec),hent,?_,fun _ _=>trivial,?_,(fun h=>by cases h),?_⟩
  ·have hm1:Array.map a.eval #[Operand.const (.func (.yield (w.heap.size+1)) #[] #[])] = #[.func (.yield (w.heap.size+1)) #[] #[]]:=by simp [Act.eval]
   simp only [resolve,hfv,Deferred.ofValue,Sem.run_pure,hm1]
  ·simp only [invoke]
   exact hcf _
  ·refine callsFW (Calls.mono hcalls fun e w3 he=>?_)
   obtain ⟨_,hm1,he⟩:=he
   rw [List.mem_singleton] at hm1
   subst hm1
   obtain ⟨x,γ',I',rfl,hsh,hrep,hsg,hsi,hfr'⟩:=he
   simp only at hl
   split at hl
   case h_2=>cases hl
   rename_i u s pend hobl
   simp only [Option.ite_none_right_eq_some,Option.some.injEq] at hl
   obtain ⟨⟨rfl,hnb,hro⟩,rfl⟩:=hl
   have hγl':=hsg _ _ hγl
   have hSh3:=hsh { st with ob:=ob,tk:=tk } rfl rfl rfl
   obtain ⟨r0,hr0,hheap⟩:=ob_get hSh3 hobl hγl'
   cases hr0
   have hns:lsOf s≠.busy:=by cases s <;> simp_all [lsOf]
   have hend:=run_endLoop (P:=P) hheap hns
   have hSh4:=hSh3.turn (ob':=fun k=>if Nat.beq (2 * st.nx+1) k then none else ob k) (o':=.loop { rec with state:=.exhausted,pending:=pend.map exCode }) hobl hγl' hro (fun l2 x hx=>by
    split at hx
    ·cases hx
    ·rename_i h2;exact .inl ⟨fun e=>h2 (by rw [e];exact Nat.beq_refl _),hx⟩)
   refine ⟨pend.map exCode,_,hend,?_⟩
   have hnice:=hK _ (List.mem_singleton.2 rfl) γ' I' { tmps:=a.tmps,defers:=[{ target:=.collected w.heap.size,args:=#[] }]++a.defers } (w3.putObj (w.heap.size+1) (.loop { rec with state:=.exhausted,pending:=pend.map exCode }))
    ⟨hR.sz,⟨⟨w.heap.size,.n 0,rfl,hsg _ _ hγd⟩,(hR.df.mono hsub).mono hsg⟩,fun t=>(hR.tm t).mono (hsub.trans hsg) hsi,hSh4.congr rfl rfl rfl⟩ hfr' (hsub.trans hsg) hsi
   cases pend with
   | none=>exact hnice
   | some e =>
    cases e with
    | nrm=>exact wpIn_skip hnice
    | ret=>exact wpIn_ret hnice
    | exit i=>exact wpIn_exit hnice
 | _ =>
  intro ac m r rn hrn hc hd w0 I0 Q st l γ I a w hg0 hI0 hl
  cases hc
  cases hl
end
def wantP (γ:Nat→Option Place) (x:Value):V→Option Place
 | .sl (some (u,_)) _ _ _=>γ u
 | .osl _ u _ n sz=>match γ u,x with
  | some (.obj b _),.slice _ _ cap=>some (.tok b n cap sz)
  | _,_=>none
 | _=>none
def keepsO (st:St) (keep:Bool) (l u off n sz:Nat):Bool :=
 match objCells st.ob l u with
 | some cs0=>keep && Nat.beq off 0 && Nat.blt 0 n && Nat.beq (n * sz) cs0.length
 | none=>false
def plLeaf (γ:Nat→Option Place) (st:St) (keep:Bool) (i:Nat) (x:Value):V→List (Nat × Nat × Option Place)
 | .sl (some (u,z)) nl n cs=>if keep && st.tk u then [(i,u,wantP γ x (.sl (some (u,z)) nl n cs))] else []
 | .osl l u off n sz=>if keepsO st keep l u off n sz then [(i,u,wantP γ x (.osl l u off n sz))] else []
 | _=>[]
def plList (γ:Nat→Option Place) (st:St) (keep:Bool):Nat→List Value→List V→List (Nat × Nat × Option Place)
 | i,x::xs,v::vs=>plLeaf γ st keep i x v++plList γ st keep (i+1) xs vs
 | _,_,_=>[]
def aggL:Value→List Value
 | .agg xs=>xs.toList
 | _=>[]
def plTop (γ:Nat→Option Place) (st:St) (keep:Bool) (i:Nat) (x:Value):V→List (Nat × Nat × Option Place)
 | .agg cs=>plList γ st keep i (aggL x) cs
 | v=>plLeaf γ st keep i x v
def plTops (γ:Nat→Option Place) (st:St) (keep:Bool):Nat→List Value→List V→List (Nat × Nat × Option Place)
 | i,x::xs,v::vs=>plTop γ st keep i x v++plTops γ st keep (i+16) xs vs
 | _,_,_=>[]
theorem nodup_spec:∀ {l:List Nat},nodup l=true→l.Nodup
 | [],_=>List.nodup_nil
 | a::l,h=>by
  simp only [nodup,Bool.and_eq_true,Bool.not_eq_true'] at h
  refine List.nodup_cons.2 ⟨fun hm=>?_,nodup_spec h.2⟩
  have:(l.any fun b=>Nat.beq a b)=true:=List.any_eq_true.2 ⟨a,hm,Nat.beq_refl a⟩
  rw [h.1] at this
  cases this
section
variable {P:Program} {E:Env} {w0 w:World} {I0:IMap} {nt:Nat} {γ τ:Nat→Option Place} {I I':IMap} {st:St} {a:Act} {B:Nat} {Ω:Nat→Option Owner} {keep:Bool}
def PlOk (γ:Nat→Option Place) (_:IMap) (st:St) (keep:Bool) (p:Nat × Nat × Option Place):Prop :=
 keep=true∧((st.tk p.2.1=true∧p.2.2=γ p.2.1) ∨
  ∃ l cs b k n cap sz,st.ob l=some ⟨p.2.1,.cells cs⟩∧γ p.2.1=some (.obj b k)∧p.2.2=some (.tok b n cap sz)∧0<n∧n * sz=cs.length∧n≤cap∧cap≤maxLen∧cap * sz≤k.size∧Nat.ble st.ro p.2.1=true)
theorem pl_leaf_sub (i:Nat) {x:Value} {v v':V} (hx:Rep γ I x v) (hv:outLeaf st keep i v=some v'):((plLeaf γ st keep i x v).map (·.2.1)).Sublist v.tok∧∀ p∈plLeaf γ st keep i x v,PlOk γ I st keep p:=by
 unfold plLeaf
 split
 ·split
  ·rename_i h
   simp only [Bool.and_eq_true] at h
   exact ⟨List.Sublist.refl _,fun p hp=>by rw [List.mem_singleton.1 hp];exact ⟨h.1,.inl ⟨h.2,rfl⟩⟩⟩
  ·exact ⟨List.nil_sublist _,fun p hp=>by cases hp⟩
 ·rename_i l u off n sz
  split
  ·rename_i h
   refine ⟨List.Sublist.refl _,fun p hp=>?_⟩
   rw [List.mem_singleton.1 hp]
   unfold keepsO at h
   split at h
   case h_2=>cases h
   rename_i cs0 hcs
   simp only [Bool.and_eq_true] at h
   obtain ⟨⟨⟨h1,h2⟩,h3⟩,h4⟩:=h
   have h2:=Nat.eq_of_beq_eq_true h2
   have h3:0<n:=by simpa [Nat.blt_eq] using h3
   have h4:=Nat.eq_of_beq_eq_true h4
   subst h2
   obtain ⟨b,k,ad,cap,hu,rfl,ha,hc,hm⟩:=inv_osl hx
   have hro:Nat.ble st.ro u=true:=by
    simp only [outLeaf] at hv
    obtain ⟨q,hq,_⟩:=bind_some hv
    simp only [solid,hcs,Option.bind_some,Option.ite_none_right_eq_some] at hq
    exact hq.1.1
   refine ⟨h1,.inr ⟨l,cs0,b,k,n,cap,sz,objCells_inv hcs,hu,by simp only [wantP,hu],h3,h4,hc,hm,?_,hro⟩⟩
   have:=(ha (by omega)).2
   omega
  ·exact ⟨List.nil_sublist _,fun p hp=>by cases hp⟩
 ·exact ⟨List.nil_sublist _,fun p hp=>by cases hp⟩
theorem pl_list_sub:∀ (i:Nat) (xs:List Value) (vs vs':List V),xs.length=vs.length→(∀ (j:Nat) (x:Value) (v:V),xs[j]? = some x→vs[j]? = some v→Rep γ I x v)→outList st keep i vs=some vs' →
 ((plList γ st keep i xs vs).map (·.2.1)).Sublist (vs.flatMap V.tok)∧∀ p∈plList γ st keep i xs vs,PlOk γ I st keep p
 | _,[],[],_,_,_,_=>⟨List.Sublist.refl _,fun p hp=>by cases hp⟩
 | i,x::xs,v::vs,vs',hl,hr,ho=>by
  simp only [outList] at ho
  obtain ⟨q,hq,ho⟩:=bind_some ho
  obtain ⟨r,hr',rfl⟩:=map_some ho
  obtain ⟨h1,h2⟩:=pl_leaf_sub i (hr 0 x v rfl rfl) hq
  obtain ⟨h3,h4⟩:=pl_list_sub (i+1) xs vs r (by simpa using hl) (fun j x v hx hv=>hr (j+1) x v (by simpa using hx) (by simpa using hv)) hr'
  simp only [plList,List.map_append,List.flatMap_cons]
  exact ⟨h1.append h3,fun p hp=>(List.mem_append.1 hp).elim (h2 p) (h4 p)⟩
 | _,[],_::_,_,h,_,_=>by simp at h
 | _,_::_,[],_,h,_,_=>by simp at h
theorem pl_top_sub (i:Nat) {x:Value} {v v':V} (hx:Rep γ I x v) (hv:outTop st keep i v=some v'):((plTop γ st keep i x v).map (·.2.1)).Sublist v.toks∧∀ p∈plTop γ st keep i x v,PlOk γ I st keep p:=by
 cases v with
 | agg cs =>
  obtain ⟨xs,rfl,h1,h2,h3⟩:=inv_agg hx
  simp only [outTop] at hv
  obtain ⟨r,hr,rfl⟩:=map_some hv
  exact pl_list_sub i xs.toList cs r (by simpa using h1) (fun j x v hx hv=>h3 j x v (by simpa using hx) hv) hr
 | fn f asg bs=>exact ⟨List.nil_sublist _,fun p hp=>by cases hp⟩
 | _=>exact pl_leaf_sub i hx hv
theorem pl_tops_sub:∀ (i:Nat) (xs:List Value) (vs vs':List V),xs.length=vs.length→(∀ (j:Nat) (x:Value) (v:V),xs[j]? = some x→vs[j]? = some v→Rep γ I x v)→outTops st keep i vs=some vs' →
 ((plTops γ st keep i xs vs).map (·.2.1)).Sublist (vs.flatMap V.toks)∧∀ p∈plTops γ st keep i xs vs,PlOk γ I st keep p
 | _,[],[],_,_,_,_=>⟨List.Sublist.refl _,fun p hp=>by cases hp⟩
 | i,x::xs,v::vs,vs',hl,hr,ho=>by
  simp only [outTops] at ho
  obtain ⟨q,hq,ho⟩:=bind_some ho
  obtain ⟨r,hr',rfl⟩:=map_some ho
  obtain ⟨h1,h2⟩:=pl_top_sub i (hr 0 x v rfl rfl) hq
  obtain ⟨h3,h4⟩:=pl_tops_sub (i+16) xs vs r (by simpa using hl) (fun j x v hx hv=>hr (j+1) x v (by simpa using hx) (by simpa using hv)) hr'
  simp only [plTops,List.map_append,List.flatMap_cons]
  exact ⟨h1.append h3,fun p hp=>(List.mem_append.1 hp).elim (h2 p) (h4 p)⟩
 | _,[],_::_,_,h,_,_=>by simp at h
 | _,_::_,[],_,h,_,_=>by simp at h
theorem outLeaf_pos {i:Nat} {x:Value} {v v':V} (hv:outLeaf st keep i v=some v'):v'.leaf=true∧v'.tok=(plLeaf γ st keep i x v).map (·.1):=by
 have other:∀ k,solid st (k+1) v=(if v.pureLeaf then some v else none)→outLeaf st keep i v=solid st (k+1) v→v.tok=[]→plLeaf γ st keep i x v=[]→v'.leaf=true∧v'.tok=(plLeaf γ st keep i x v).map (·.1):=by
  intro k h1 h2 h3 h4
  rw [h2,h1] at hv
  simp only [Option.ite_none_right_eq_some,Option.some.injEq] at hv
  obtain ⟨hp,rfl⟩:=hv
  exact ⟨pure_leaf hp,by rw [h4,h3];rfl⟩
 cases v with
 | sl t nl n cs =>
  cases t with
  | none=>exact other 5 rfl rfl rfl rfl
  | some q =>
   obtain ⟨u,z⟩:=q
   simp only [outLeaf,Option.some.injEq] at hv
   subst hv
   refine ⟨rfl,?_⟩
   cases hk:(keep && st.tk u) <;> simp [V.tok,plLeaf,hk]
 | osl l u off n sz =>
  simp only [outLeaf] at hv
  obtain ⟨q,hq,hv⟩:=bind_some hv
  split at hv
  case h_2=>cases hv
  rename_i t nl n' cs
  obtain ⟨cs0,hcs,rfl⟩:=map_some hv
  refine ⟨rfl,?_⟩
  have hk:keepsO st keep l u off n sz=(keep && Nat.beq off 0 && Nat.blt 0 n && Nat.beq (n * sz) cs0.length):=by simp only [keepsO,hcs]
  rw [← hk]
  cases hkk:keepsO st keep l u off n sz <;> simp [V.tok,plLeaf,hkk]
 | agg | tup | undef =>
  simp only [outLeaf,solid,V.pureLeaf,Bool.false_eq_true,if_false,reduceCtorEq] at hv
 | _=>exact other 5 rfl rfl rfl rfl
theorem outLeaf_ok (ho:Own γ I B st w Ω) (hz:Frozen γ B st w I I') {x:Value} {v v':V} {i:Nat} (hx:Rep γ I x v) (hv:outLeaf st keep i v=some v') (hτ:∀ p∈plLeaf γ st keep i x v,τ p.1=p.2.2) :
 LRep τ I' x v':=by
 have other:outLeaf st keep i v=solid st 6 v→LRep τ I' x v':=by
  intro h
  rw [h] at hv
  obtain ⟨h1,h2⟩:=solid_ok ho hz 6 x v v' hx hv
  cases v' with
  | sl t nl n cs =>
   cases t with
   | none=>exact h1
   | some q=>simp [V.pureLeaf] at h2
  | _=>exact h1
 cases v with
 | sl t nl n cs =>
  cases t with
  | none=>exact other rfl
  | some q =>
   obtain ⟨u,z⟩:=q
   simp only [outLeaf,Option.some.injEq] at hv
   subst hv
   cases hk:(keep && st.tk u) with
   | true =>
    have hm:(i,u,γ u)∈plLeaf γ st keep i x (.sl (some (u,z)) nl n cs):=by simp [plLeaf,hk,wantP]
    have ht:=hτ _ hm
    simp only [if_true]
    have:=hx.mono (γ':=γ) (fun _ _ h=>h) hz.1
    cases this with
    | tsl _ b _ cap _ _ xs hu hlen hc hm' hi hl hr=>exact Rep.tsl i b n cap z cs xs (ht.trans hu) hlen hc hm' hi hl hr
    | pure _ _ h=>cases h
   | false =>
    simp only [Bool.false_eq_true,if_false]
    exact (pureRep hx (by simp [V.strip1,V.pureLeaf])).mono hz.1
 | osl l u off n sz =>
  simp only [outLeaf] at hv
  obtain ⟨q,hq,hv⟩:=bind_some hv
  obtain ⟨hrep,hpl⟩:=solid_ok ho hz 6 x _ q hx hq
  split at hv
  case h_2=>cases hv
  rename_i t nl n' cs
  have htn:t=none:=by cases t <;> simp_all [V.pureLeaf]
  subst htn
  obtain ⟨cs0,hcs,rfl⟩:=map_some hv
  have hk:keepsO st keep l u off n sz=(keep && Nat.beq off 0 && Nat.blt 0 n && Nat.beq (n * sz) cs0.length):=by simp only [keepsO,hcs]
  rw [← hk]
  cases hkk:keepsO st keep l u off n sz with
  | false=>exact hrep
  | true =>
   simp only [if_true]
   rw [hkk] at hk
   have hk:=hk.symm
   simp only [Bool.and_eq_true] at hk
   obtain ⟨⟨⟨h1,h2⟩,h3⟩,h4⟩:=hk
   have h2:=Nat.eq_of_beq_eq_true h2
   have h3:0<n:=by simpa [Nat.blt_eq] using h3
   have h4:=Nat.eq_of_beq_eq_true h4
   subst h2
   obtain ⟨b,kb,ad,cap,hu,rfl,ha,hc,hm⟩:=inv_osl hx
   have hmem:(i,u,some (Place.tok b n cap sz))∈plLeaf γ st keep i (.slice (some ad) n cap) (.osl l u 0 n sz):=by simp [plLeaf,hkk,wantP,hu]
   have ht:=hτ _ hmem
   have hada:=(ha (by omega)).1
   subst hada
   -- the form of what is solid
   simp only [solid,hcs,Option.bind_some,Option.ite_none_right_eq_some] at hq
   obtain ⟨_,hq⟩:=hq
   obtain ⟨cs',hcs',he⟩:=map_some hq
   simp only [V.sl.injEq,true_and] at he
   obtain ⟨rfl,rfl,rfl⟩:=he
   have hlen:cs'.length=n * sz:=by
    have:=(mapM_some hcs').1
    rw [this]
    simp only [List.length_take,List.length_drop];omega
   cases hrep with
   | sl _ _ _ _ xs hs hc' hm' hi hl hr=>exact Rep.tsl i b n cap sz cs' xs ht hlen hc hm (by simpa using hi) hl hr
 | agg | tup | undef =>
  simp only [outLeaf,solid,V.pureLeaf,Bool.false_eq_true,if_false,reduceCtorEq] at hv
 | _=>exact other rfl
theorem outList_ok (ho:Own γ I B st w Ω) (hz:Frozen γ B st w I I'):∀ (xs:List Value) (vs vs':List V) (i:Nat),xs.length=vs.length→(∀ (j:Nat) (x:Value) (v:V),xs[j]? = some x→vs[j]? = some v→Rep γ I x v) →
 outList st keep i vs=some vs'→(∀ p∈plList γ st keep i xs vs,τ p.1=p.2.2) →
 vs'.length=vs.length∧(∀ (j:Nat) (x:Value) (v':V),xs[j]? = some x→vs'[j]? = some v'→v'.leaf=true∧LRep τ I' x v')
 | [],[],vs',i,_,_,h,_=>by
  simp only [outList,Option.some.injEq] at h
  subst h
  exact ⟨rfl,fun j x v' h=>by simp at h⟩
 | x::xs,v::vs,vs',i,hl,hr,h,hτ=>by
  simp only [outList] at h
  obtain ⟨q,hq,h⟩:=bind_some h
  obtain ⟨r,hr',rfl⟩:=map_some h
  simp only [plList] at hτ
  obtain ⟨h1,h2⟩:=outList_ok ho hz xs vs r (i+1) (by simpa using hl) (fun j x v hx hv=>hr (j+1) x v (by simpa using hx) (by simpa using hv)) hr' (fun p hp=>hτ p (List.mem_append_right _ hp))
  have hleaf:=outLeaf_ok ho hz (hr 0 x v rfl rfl) hq (fun p hp=>hτ p (List.mem_append_left _ hp))
  have hpos:=outLeaf_pos (γ:=γ) (x:=x) hq
  refine ⟨by simp [h1],fun j y u' hy hu'=>?_⟩
  cases j with
  | zero =>
   simp only [List.getElem?_cons_zero,Option.some.injEq] at hy hu'
   subst hy;subst hu'
   exact ⟨hpos.1,hleaf⟩
  | succ j=>exact h2 j y u' (by simpa using hy) (by simpa using hu')
 | [],_::_,_,_,h,_,_,_=>by simp at h
 | _::_,[],_,_,h,_,_,_=>by simp at h
theorem lrep_trep {x:Value} {v:V} (h:LRep τ I x v) (hl:v.leaf=true):TRep τ I x v∧(∀ vs,v≠.tup vs):=by
 cases v with
 | agg | tup | undef=>cases hl
 | _=>exact ⟨h,fun _ h=>by cases h⟩
theorem outTop_ok (ho:Own γ I B st w Ω) (hz:Frozen γ B st w I I') {x:Value} {v v':V} {i:Nat} (hx:Rep γ I x v) (hv:outTop st keep i v=some v') (hτ:∀ p∈plTop γ st keep i x v,τ p.1=p.2.2) :
 TRep τ I' x v'∧(∀ vs,v'≠.tup vs):=by
 have leafCase:outLeaf st keep i v=some v'→plTop γ st keep i x v=plLeaf γ st keep i x v→TRep τ I' x v'∧(∀ vs,v'≠.tup vs):=by
  intro h1 h2
  rw [h2] at hτ
  exact lrep_trep (outLeaf_ok ho hz hx h1 hτ) (outLeaf_pos (γ:=γ) (x:=x) h1).1
 cases v with
 | agg cs =>
  simp only [outTop] at hv
  obtain ⟨r,hr,rfl⟩:=map_some hv
  obtain ⟨xs,rfl,h1,h2,h3⟩:=inv_agg hx
  obtain ⟨k1,k2⟩:=outList_ok ho hz xs.toList cs r i (by simpa using h1) (fun j x v hx hv=>h3 j x v (by simpa using hx) hv) hr hτ
  refine ⟨⟨xs,rfl,h1.trans k1.symm,fun j u hu=>?_,fun j y u hy hu=>(k2 j y u (by simpa using hy) hu).2⟩,(fun vs h=>by cases h)⟩
  have hj:j<xs.size:=by have:=(List.getElem?_eq_some_iff.1 hu).1;omega
  exact (k2 j xs[j] u (by rw [Array.getElem?_toList];exact Array.getElem?_eq_getElem hj) hu).1
 | fn f asg bs =>
  simp only [outTop,Option.ite_none_right_eq_some,Option.some.injEq] at hv
  obtain ⟨hp,rfl⟩:=hv
  exact ⟨(strip_pure hx hp).mono hz.1,(fun vs h=>by simp [V.strip] at h)⟩
 | _=>exact leafCase hv rfl
theorem outTops_ok (ho:Own γ I B st w Ω) (hz:Frozen γ B st w I I'):∀ (xs:List Value) (vs vs':List V) (i:Nat),xs.length=vs.length→(∀ (j:Nat) (x:Value) (v:V),xs[j]? = some x→vs[j]? = some v→Rep γ I x v) →
 outTops st keep i vs=some vs'→(∀ p∈plTops γ st keep i xs vs,τ p.1=p.2.2) →
 vs'.length=vs.length∧(∀ (j:Nat) (x:Value) (v':V),xs[j]? = some x→vs'[j]? = some v'→TRep τ I' x v'∧∀ vs,v'≠.tup vs)
 | [],[],vs',i,_,_,h,_=>by
  simp only [outTops,Option.some.injEq] at h
  subst h
  exact ⟨rfl,fun j x v' h=>by simp at h⟩
 | x::xs,v::vs,vs',i,hl,hr,h,hτ=>by
  simp only [outTops] at h
  obtain ⟨q,hq,h⟩:=bind_some h
  obtain ⟨r,hr',rfl⟩:=map_some h
  simp only [plTops] at hτ
  obtain ⟨h1,h2⟩:=outTops_ok ho hz xs vs r (i+16) (by simpa using hl) (fun j x v hx hv=>hr (j+1) x v (by simpa using hx) (by simpa using hv)) hr' (fun p hp=>hτ p (List.mem_append_right _ hp))
  have htop:=outTop_ok ho hz (hr 0 x v rfl rfl) hq (fun p hp=>hτ p (List.mem_append_left _ hp))
  refine ⟨by simp [h1],fun j y u' hy hu'=>?_⟩
  cases j with
  | zero =>
   simp only [List.getElem?_cons_zero,Option.some.injEq] at hy hu'
   subst hy;subst hu'
   exact htop
  | succ j=>exact h2 j y u' (by simpa using hy) (by simpa using hu')
 | [],_::_,_,_,h,_,_,_=>by simp at h
 | _::_,[],_,_,h,_,_,_=>by simp at h
theorem leaf_toks {v:V} (h:v.leaf=true):v.toks=v.tok:=by
 cases v with
 | agg | tup | undef=>cases h
 | _=>rfl
theorem outList_pos:∀ (xs:List Value) (vs vs':List V) (i:Nat),xs.length=vs.length→outList st keep i vs=some vs'→vs'.flatMap V.tok=(plList γ st keep i xs vs).map (·.1)
 | [],[],vs',i,_,h=>by
  simp only [outList,Option.some.injEq] at h
  subst h
  rfl
 | x::xs,v::vs,vs',i,hl,h=>by
  simp only [outList] at h
  obtain ⟨q,hq,h⟩:=bind_some h
  obtain ⟨r,hr,rfl⟩:=map_some h
  simp only [plList,List.map_append,List.flatMap_cons,(outLeaf_pos (γ:=γ) (x:=x) hq).2,outList_pos xs vs r (i+1) (by simpa using hl) hr]
 | [],_::_,_,_,h,_=>by simp at h
 | _::_,[],_,_,h,_=>by simp at h
theorem outTop_pos {x:Value} {v v':V} {i:Nat} (hx:Rep γ I x v) (hv:outTop st keep i v=some v'):v'.toks=(plTop γ st keep i x v).map (·.1):=by
 have leafCase:outLeaf st keep i v=some v'→plTop γ st keep i x v=plLeaf γ st keep i x v→v'.toks=(plTop γ st keep i x v).map (·.1):=fun h1 h2=>by
  obtain ⟨h3,h4⟩:=outLeaf_pos (γ:=γ) (x:=x) h1
  rw [h2,leaf_toks h3,h4]
 cases v with
 | agg cs =>
  simp only [outTop] at hv
  obtain ⟨r,hr,rfl⟩:=map_some hv
  obtain ⟨xs,rfl,h1,h2,h3⟩:=inv_agg hx
  exact outList_pos xs.toList cs r i (by simpa using h1) hr
 | fn f asg bs =>
  simp only [outTop,Option.ite_none_right_eq_some,Option.some.injEq] at hv
  obtain ⟨hp,rfl⟩:=hv
  rfl
 | _=>exact leafCase hv rfl
theorem outTops_pos:∀ (xs:List Value) (vs vs':List V) (i:Nat),xs.length=vs.length→(∀ (j:Nat) (x:Value) (v:V),xs[j]? = some x→vs[j]? = some v→Rep γ I x v)→outTops st keep i vs=some vs' →
 vs'.flatMap V.toks=(plTops γ st keep i xs vs).map (·.1)
 | [],[],vs',i,_,_,h=>by
  simp only [outTops,Option.some.injEq] at h
  subst h
  rfl
 | x::xs,v::vs,vs',i,hl,hr,h=>by
  simp only [outTops] at h
  obtain ⟨q,hq,h⟩:=bind_some h
  obtain ⟨r,hr',rfl⟩:=map_some h
  simp only [plTops,List.map_append,List.flatMap_cons,outTop_pos (hr 0 x v rfl rfl) hq,outTops_pos xs vs r (i+16) (by simpa using hl) (fun j x v hx hv=>hr (j+1) x v (by simpa using hx) (by simpa using hv)) hr']
 | [],_::_,_,_,h,_,_=>by simp at h
 | _::_,[],_,_,h,_,_=>by simp at h
def resVal (xs:List Value):Value :=
 match xs with
 | [x]=>x
 | xs=>.tuple xs.toArray
end
section
variable {P:Program} {E:Env} {w0 w:World} {I0:IMap} {nt:Nat} {γ τ:Nat→Option Place} {I I':IMap} {st:St} {a:Act} {B:Nat} {Ω:Nat→Option Owner}
def resOne (tmps:Array Value):ResultVar→Sem Value
 | .tmp t=>pure (tmps.getD t undef)
 | .cell a t=>do loadVar t (← asAddr (tmps.getD a undef))
theorem resOne_ok (hR:R E w0 I0 nt γ I st a w) {rv:ResultVar} {r:ARes} {v:V} (hc:compRes P rv=some r) (hv:resOf st r=some v):∃ x,(resOne a.tmps rv).run P w = .ok x w∧Rep γ I x v:=by
 cases rv with
 | tmp t =>
  simp only [compRes,Option.some.injEq] at hc
  subst hc
  simp only [resOf,Option.some.injEq] at hv
  subst hv
  exact ⟨_,rfl,hR.tm t⟩
 | cell n t =>
  simp only [compRes] at hc
  obtain ⟨g,hg,rfl⟩:=map_some hc
  simp only [resOf] at hv
  split at hv
  ·rename_i l u off he
   have hr:=hR.tm n
   rw [he] at hr
   obtain ⟨b,kb,hu,hx'⟩:=inv_ptr hr
   obtain ⟨cs,hcs,hpk⟩:=bind_some hv
   obtain ⟨arr,e,m1,m2,m4,m3⟩:=obj_row hR (objCells_inv hcs) hu
   have hget:∀ j,off+j<cs.length→arr[off+j]? = some (arr.getD (off+j) undef):=by
    intro j hj
    have:off+j<arr.size:=by omega
    simp [this]
   obtain ⟨h4,h5⟩:=load_rep (γ:=γ) (I:=I) hpk (fun j=>arr.getD (off+j) undef) (fun j u hj hu=>m3 _ _ _ (hget j (List.getElem?_eq_some_iff.1 hu).1) hu)
   refine ⟨_,?_,h5⟩
   simp only [resOne,hx',asAddr,Sem.run_bind,Sem.run_pure,Result.andThen_ok]
   exact run_loadRow hg (fun j=>arr.getD (off+j) undef) _ rfl (fun j hj=>by
    simp only [World.cell?,m1,Option.isSome_none,Bool.false_eq_true,if_false]
    exact hget j (h4 j hj))
  ·cases hv
theorem resList_ok (hR:R E w0 I0 nt γ I st a w):∀ (rvs:List ResultVar) (rs:List ARes) (vs:List V),rvs.mapM (compRes P)=some rs→rs.mapM (resOf st)=some vs →
 ∃ xs:List Value,xs.length=vs.length∧(rvs.mapM (resOne a.tmps)).run P w = .ok xs w∧∀ (j:Nat) (x:Value) (v:V),xs[j]? = some x→vs[j]? = some v→Rep γ I x v
 | [],rs,vs,h1,h2=>by
  simp at h1
  subst h1
  simp at h2
  subst h2
  exact ⟨[],rfl,rfl,fun j x v h=>by simp at h⟩
 | rv::rvs,rs,vs,h1,h2=>by
  simp only [List.mapM_cons] at h1
  cases ha:compRes P rv with
  | none=>simp [ha] at h1
  | some r =>
   cases hl:rvs.mapM (compRes P) with
   | none=>simp [ha,hl] at h1
   | some rs' =>
    simp [ha,hl] at h1
    subst h1
    simp only [List.mapM_cons] at h2
    cases hv:resOf st r with
    | none=>simp [hv] at h2
    | some v =>
     cases hvl:rs'.mapM (resOf st) with
     | none=>simp [hv,hvl] at h2
     | some vs' =>
      simp [hv,hvl] at h2
      subst h2
      obtain ⟨x,k1,k2⟩:=resOne_ok hR ha hv
      obtain ⟨xs,k3,k4,k5⟩:=resList_ok hR rvs rs' vs' hl hvl
      refine ⟨x::xs,by simp [k3],?_,fun j y u hy hu=>?_⟩
      ·simp only [List.mapM_cons,Sem.run_bind,k1,Result.andThen_ok,k4,Sem.run_pure]
      ·cases j with
       | zero =>
        simp only [List.getElem?_cons_zero,Option.some.injEq] at hy hu
        subst hy;subst hu
        exact k2
       | succ j=>exact k5 j y u (by simpa using hy) (by simpa using hu)
theorem results_ok (hR:R E w0 I0 nt γ I st a w) {fn:Func} {rs:List ARes} {vs:List V} (h1:fn.results.toList.mapM (compRes P)=some rs) (h2:rs.mapM (resOf st)=some vs) :
 ∃ xs:List Value,xs.length=vs.length∧(results fn a.tmps).run P w = .ok (resVal xs) w∧∀ (j:Nat) (x:Value) (v:V),xs[j]? = some x→vs[j]? = some v→Rep γ I x v:=by
 obtain ⟨xs,k1,k2,k3⟩:=resList_ok hR _ _ _ h1 h2
 refine ⟨xs,k1,?_,k3⟩
 have he:(results fn a.tmps)=(fn.results.mapM (resOne a.tmps) >>= fun vs=>pure (if h:vs.size=1 then vs[0] else .tuple vs)):=by
  unfold results
  congr 1
 rw [he,Array.mapM_eq_mapM_toList]
 simp only [map_eq_pure_bind,Sem.run_bind,k2,Result.andThen_ok,Sem.run_pure]
 congr 1
 match xs with
 | []=>rfl
 | [x]=>rfl
 | x::y::r=>simp [resVal]
theorem assoc_find {β:Type} {l:List (Nat × β)} (hn:(l.map (·.1)).Nodup) {i:Nat} {u:β} (hm:(i,u)∈l):(l.find? fun p=>Nat.beq p.1 i)=some (i,u):=by
 induction l with
 | nil=>cases hm
 | cons p l ih =>
  obtain ⟨j,v⟩:=p
  simp only [List.map_cons,List.nodup_cons] at hn
  rcases List.mem_cons.1 hm with he | hm
  ·cases he
   simp [List.find?,Nat.beq_refl]
  ·have hne:¬ j=i:=fun e=>hn.1 (List.mem_map.2 ⟨_,hm,e.symm⟩)
   have:Nat.beq j i=false:=by
    cases h:Nat.beq j i with
    | false=>rfl
    | true=>exact absurd (Nat.eq_of_beq_eq_true h) hne
   simp only [List.find?,this]
   exact ih hn.2 hm
theorem out_ok (hR:R E w0 I0 nt γ I st a w) {xs:List Value} {vs:List V} {r:V} (hlen:xs.length=vs.length) (hr:∀ (j:Nat) (x:Value) (v:V),xs[j]? = some x→vs[j]? = some v→Rep γ I x v)
 (ho:outRes st vs=some r) :
 ∃ τ I',(∀ b o x,I b o=some x→I' b o=some x)∧ImmOk I' w∧(∀ b o,b<w0.heap.size→I' b o=I b o)∧RRep τ I' (resVal xs) r∧TokNew w0.heap.size τ I' w r:=by
 classical
 obtain ⟨Ω,hown⟩:=hR.own
 let C:Nat→Nat→Prop:=fun b o=>w0.heap.size≤b∧∃ l u cs k,st.ob l=some ⟨u,.cells cs⟩∧γ u=some (.obj b k)∧o<cs.length
 let I':IMap:=fun b o=>match I b o with
  | some x=>some x
  | none=>if C b o then w.cell? ⟨b,o,none⟩ else none
 have hmono:∀ b o x,I b o=some x→I' b o=some x:=by
  intro b o x h
  simp only [I',h]
 have hz:Frozen γ w0.heap.size st w I I':=⟨hmono,fun b k o x l u cs hb hl hu hlt hc=>by
  obtain ⟨b',k',k1,_,_,_,k5⟩:=hown.ob l _ hl
  rw [hu] at k1
  cases k1
  simp only [I',k5]
  rw [if_pos ⟨hb,l,u,cs,k,hl,hu,hlt⟩]
  exact hc⟩
 have himm:ImmOk I' w:=by
  intro b o x h
  simp only [I'] at h
  split at h
  ·rename_i y hy
   cases h
   exact hR.imm _ _ _ hy
  ·split at h
   ·exact h
   ·cases h
 have hold:∀ b o,b<w0.heap.size→I' b o=I b o:=by
  intro b o hb
  simp only [I']
  split
  ·rename_i y hy;exact hy.symm
  ·rename_i hy
   rw [if_neg (fun h=>Nat.not_lt_of_le h.1 hb)]
   exact hy.symm
 unfold outRes at ho
 obtain ⟨l,hl,ho⟩:=bind_some ho
 simp only [Option.ite_none_right_eq_some] at ho
 obtain ⟨hnd,hre⟩:=ho
 generalize hkeep:nodup (vs.flatMap V.toks)=keep at hl
 let pl:=plTops γ st keep 0 xs vs
 let τ:Nat→Option Place:=fun i=>(pl.find? fun p=>Nat.beq p.1 i).bind fun p=>p.2.2
 obtain ⟨hsub,hpk⟩:=pl_tops_sub (γ:=γ) (I:=I) 0 xs vs l hlen hr hl
 have hpos:=outTops_pos (γ:=γ) (I:=I) xs vs l 0 hlen hr hl
 have hfst:(pl.map (·.1)).Nodup:=by
  rw [← hpos]
  exact nodup_spec hnd
 have hτ:∀ p∈pl,τ p.1=p.2.2:=by
  intro p hp
  obtain ⟨i,u⟩:=p
  simp only [τ,assoc_find hfst hp,Option.bind_some]
 obtain ⟨h1,h2⟩:=outTops_ok (τ:=τ) hown hz xs vs l 0 hlen hr hl hτ
 have htoks:toksRes r=pl.map (·.1):=by
  rw [← hpos]
  match l,h2,hre with
  | [],_,rfl=>rfl
  | [v],h2,rfl =>
   match xs,hlen,h1 with
   | [x],_,_ =>
    have:=(h2 0 x v rfl rfl).2
    simp only [List.flatMap_cons,List.flatMap_nil,List.append_nil]
    cases v <;> first | rfl | exact absurd rfl (this _)
   | [],e1,e2=>simp at e1 e2;omega
   | _::_::_,e1,e2=>simp at e1 e2;omega
  | v::v'::l',_,rfl=>rfl
 have hrep:RRep τ I' (resVal xs) r:=by
  have hll:xs.length=l.length:=hlen.trans h1.symm
  match l,xs,hll,h2,hre with
  | [],[],_,_,rfl=>exact ⟨#[],rfl,rfl,fun j y u hy=>by simp at hy⟩
  | [v],[x],_,h2,rfl =>
   obtain ⟨k1,k2⟩:=h2 0 x v rfl rfl
   cases v <;> first | exact k1 | exact absurd rfl (k2 _)
  | v::v'::l',x::x'::xs',e,h2,rfl=>exact ⟨(x::x'::xs').toArray,rfl,by simpa using e,fun j y u hy hu=>(h2 j y u (by simpa using hy) hu).1⟩
 refine ⟨τ,I',hmono,himm,hold,hrep,?_⟩
 have hsnd:keep=true→(pl.map (·.2.1)).Nodup:=fun hk=>hsub.nodup (nodup_spec (by rw [hkeep,hk]))
 -- whose block it is
 have hwho:∀ p∈pl,∃ b n cap sz,p.2.2=some (.tok b n cap sz)∧w0.heap.size≤b∧b<w.heap.size∧TokOk w.heap[b]? n cap sz∧(∀ j,n * sz≤j→I' b j=none) ∧
  (Ω b=some (.tk p.2.1)∨∃ l cs k,Ω b=some (.ob l)∧st.ob l=some ⟨p.2.1,.cells cs⟩∧γ p.2.1=some (.obj b k)):=by
  intro p hp
  obtain ⟨hk,hu | ⟨l,cs,b,k,n,cap,sz,q1,q2,q3,q4,q5,q6,q7,q8,q9⟩⟩:=hpk p hp
  ·obtain ⟨b,n,cap,sz,q1,q2,q3,q4,q5⟩:=hown.tk p.2.1 hu.1
   refine ⟨b,n,cap,sz,hu.2.trans q1,q3,hown.lt _ _ q2,q4,fun j hj=>?_,.inl q2⟩
   have hn:=q5 j hj
   simp only [I',hn]
   rw [if_neg]
   rintro ⟨_,l',u',cs',k',r1,r2,_⟩
   obtain ⟨b',k'',t1,t2,_⟩:=hown.ob l' _ r1
   rw [r2] at t1
   cases t1
   rw [q2] at t2
   cases t2
  ·obtain ⟨b',k',t1,t2,t3,⟨arr,e,g1,g2,g3,g4⟩,t5⟩:=hown.ob l _ q1
   rw [q2] at t1
   cases t1
   refine ⟨b,n,cap,sz,q3,t3 (by simpa [Nat.ble_eq] using q9),hown.lt _ _ t2,⟨arr,e,g1,by rw [g2];exact q8,q6,q7⟩,fun j hj=>?_,.inr ⟨l,cs,k,t2,q1,q2⟩⟩
   simp only [I',t5]
   rw [if_neg]
   rintro ⟨_,l',u',cs',k',r1,r2,r3⟩
   obtain ⟨b',k'',s1,s2,_⟩:=hown.ob l' _ r1
   rw [r2] at s1
   cases s1
   rw [t2] at s2
   cases s2
   rw [q1] at r1
   cases r1
   omega
 intro i hi
 rw [htoks] at hi
 obtain ⟨⟨i',u,pp⟩,hp,rfl⟩:=List.mem_map.1 hi
 obtain ⟨b,n,cap,sz,q1,q2,q3,q4,q5,q6⟩:=hwho _ hp
 refine ⟨b,n,cap,sz,(hτ _ hp).trans q1,q2,q3,q4,q5,fun i2 hi2 n' c' s' he=>?_⟩
 rw [htoks] at hi2
 obtain ⟨⟨i3,u3,pp3⟩,hp3,rfl⟩:=List.mem_map.1 hi2
 obtain ⟨b3,n3,cap3,sz3,r1,r2,r3,r4,r5,r6⟩:=hwho _ hp3
 have e3:=(hτ _ hp3).symm.trans he
 simp only at e3
 simp only at r1
 rw [r1] at e3
 cases e3
 have hk:=(hpk _ hp).1
 have huu:u3=u:=by
  simp only at q6 r6
  rcases q6 with q6 | ⟨l,cs,k,q6,q7,q8⟩ <;> rcases r6 with r6 | ⟨l',cs',k',r6,r7,r8⟩
  ·rw [q6] at r6;cases r6;rfl
  ·rw [q6] at r6;cases r6
  ·rw [q6] at r6;cases r6
  ·rw [q6] at r6;cases r6
   rw [q7] at r7;cases r7;rfl
 subst huu
 have:=hsnd hk
 obtain ⟨k,hk1,hk2⟩:=List.getElem_of_mem hp
 obtain ⟨k',hk3,hk4⟩:=List.getElem_of_mem hp3
 have hkk:k'=k:=by
  refine (List.getElem_inj (xs:=pl.map (·.2.1)) (h₀:=by simpa using hk3) (h₁:=by simpa using hk1) this).1 ?_
  simp [hk2,hk4]
 subst hkk
 rw [hk2] at hk4
 cases hk4
 rfl
end
section
variable {P:Program} {E:Env} {τ:Nat→Option Place} {I I' I1:IMap} {B:Nat}
theorem free_leaf (hII:∀ b o,B≤b→I' b o=I1 b o) {x:Value} {v:V} (h:LRep τ I1 x v) (hf:v.freeL=true) (ht:∀ i∈v.tok,∃ b n cap sz,τ i=some (.tok b n cap sz)∧B≤b):LRep τ I' x v:=by
 cases v with
 | sl t nl n cs =>
  cases t with
  | none=>exact scal_rep (show RepP I1 x _ from h) hf
  | some q =>
   obtain ⟨u,z⟩:=q
   have h':Rep τ I1 x (.sl (some (u,z)) nl n cs):=h
   cases h' with
   | pure _ _ h=>cases h
   | tsl _ b _ cap _ _ xs hu hlen hc hm hi hl hr =>
    obtain ⟨b',n',cap',sz',k1,k2⟩:=ht u (by simp [V.tok])
    rw [hu] at k1
    cases k1
    refine Rep.tsl u b n cap z cs xs hu hlen hc hm (fun j hj=>(hII _ _ k2).trans (hi j hj)) hl (fun j v hv=>scal_rep (hr j v hv) ?_)
    exact List.all_eq_true.1 (show cs.all V.scal=true from hf) v (List.mem_of_getElem? hv)
 | osl l u off n sz=>cases hf
 | _=>first | (cases hf;done) | exact scal_rep (show RepP I1 x _ from h) hf
theorem trepL_eq {x:Value} {v:V} (h:∀ cs,v≠.agg cs):TRep τ I x v=LRep τ I x v:=by
 cases v <;> first | rfl | exact absurd rfl (h _)
theorem rrepT_eq {x:Value} {v:V} (h:∀ cs,v≠.tup cs):RRep τ I x v=TRep τ I x v:=by
 cases v <;> first | rfl | exact absurd rfl (h _)
theorem free_top (hII:∀ b o,B≤b→I' b o=I1 b o) {x:Value} {v:V} (h:TRep τ I1 x v) (hf:v.freeT=true) (ht:∀ i∈v.toks,∃ b n cap sz,τ i=some (.tok b n cap sz)∧B≤b):TRep τ I' x v:=by
 cases v with
 | agg cs =>
  obtain ⟨xs,rfl,h1,h2,h3⟩:=h
  refine ⟨xs,rfl,h1,h2,fun j y u hy hu=>?_⟩
  have hm:=List.mem_of_getElem? hu
  exact free_leaf hII (h3 j y u hy hu) (List.all_eq_true.1 (show cs.all V.freeL=true from hf) u hm) (fun i hi=>ht i (List.mem_flatMap.2 ⟨u,hm,hi⟩))
 | _=>rw [trepL_eq (fun _ h=>by cases h)] at h ⊢;exact free_leaf hII h hf ht
theorem free_res (hII:∀ b o,B≤b→I' b o=I1 b o) {x:Value} {v:V} (h:RRep τ I1 x v) (hf:v.freeR=true) (ht:∀ i∈toksRes v,∃ b n cap sz,τ i=some (.tok b n cap sz)∧B≤b):RRep τ I' x v:=by
 cases v with
 | tup vs =>
  obtain ⟨xs,rfl,h1,h2⟩:=h
  refine ⟨xs,rfl,h1,fun j y u hy hu=>?_⟩
  have hm:=List.mem_of_getElem? hu
  exact free_top hII (h2 j y u hy hu) (List.all_eq_true.1 (show vs.all V.freeT=true from hf) u hm) (fun i hi=>ht i (List.mem_flatMap.2 ⟨u,hm,hi⟩))
 | _=>rw [rrepT_eq (fun _ h=>by cases h)] at h ⊢;exact free_top hII h hf ht
theorem frz_ok {f:FuncId} {args args':List V} {ob:Nat→Option Obj'} {ub:Nat} {r:V} (hp:PureOk P E f args' r) (ha:args.mapM (frzTop ob)=some args') (hr:r.freeR=true):ObsOk P E f args ob ub r:=by
 intro w0 w I0 I γ xs st hob hSh hfr hsz hrep
 obtain ⟨hlen,hget⟩:=frz_args hob hSh ha hrep
 have hlt:∀ b o x,I b o=some x→b<w.heap.size:=by
  intro b o x hx
  have:=hSh.imm b o x hx
  apply Classical.byContradiction
  intro hn
  have hb:w.heap[b]? = none:=Array.getElem?_eq_none (by omega)
  simp [World.cell?,hb] at this
 refine (hp w (fun b o=>w.cell? ⟨b,o,none⟩) xs (fun _ _ _ h=>h) (fun g cs hg=>(hSh.gl g cs hg).mono hSh.imm) (hsz.trans hlen.symm) hget).mono fun e w' he=>?_
 ·obtain ⟨x,τ,I1,rfl,hg,hI,him,hold,hx,ht⟩:=he
  have hge:∀ b o,w.heap.size≤b→(fun b o=>if b<w.heap.size then I b o else I1 b o) b o=I1 b o:=fun b o h=>if_neg (by omega)
  refine ⟨x,τ,fun b o=>if b<w.heap.size then I b o else I1 b o,rfl,hg,fun b o y hy=>?_,fun b o y hy=>?_,fun b o hb=>if_pos hb,free_res hge hx hr (fun i hi=>?_),fun i hi=>?_⟩
  ·simp only [hlt b o y hy,if_true];exact hy
  ·simp only at hy
   split at hy
   ·exact him b o y (hI b o y (hSh.imm b o y hy))
   ·exact him b o y hy
  ·obtain ⟨b,n,cap,sz,k1,k2,_⟩:=ht i hi
   exact ⟨b,n,cap,sz,k1,k2⟩
  ·obtain ⟨b,n,cap,sz,k1,k2,k3,k4,k5,k6⟩:=ht i hi
   exact ⟨b,n,cap,sz,k1,k2,k3,k4,fun j hj=>(hge b j k2).trans (k5 j hj),k6⟩
end
end Go.Pv
namespace Go.Pv
open Go Go.Sort
theorem insI_perm (x:Int):∀ l:List Int,(insI x l).Perm (x::l)
 | []=>List.Perm.refl _
 | y::r=>by
  unfold insI
  split
  ·exact List.Perm.refl _
  ·exact ((insI_perm x r).cons y).trans (List.Perm.swap x y r)
theorem sortI_perm:∀ l:List Int,(sortI l).Perm l
 | []=>List.Perm.refl _
 | x::r=>(insI_perm x (sortI r)).trans ((sortI_perm r).cons x)
theorem insI_pw (x:Int):∀ {l:List Int},l.Pairwise (·≤·)→(insI x l).Pairwise (·≤·)
 | [],_=>by simp [insI]
 | y::r,h=>by
  unfold insI
  rw [List.pairwise_cons] at h
  split
  ·rename_i hxy
   exact List.pairwise_cons.2 ⟨fun z hz=>by
    rcases List.mem_cons.1 hz with rfl | hz
    ·exact hxy
    ·exact Int.le_trans hxy (h.1 z hz),List.pairwise_cons.2 h⟩
  ·refine List.pairwise_cons.2 ⟨fun z hz=>?_,insI_pw x h.2⟩
   rcases List.mem_cons.1 ((insI_perm x r).mem_iff.1 hz) with rfl | hz
   ·omega
   ·exact h.1 z hz
theorem sortI_pw:∀ l:List Int,(sortI l).Pairwise (·≤·)
 | []=>List.Pairwise.nil
 | x::r=>insI_pw x (sortI_pw r)
theorem perm_one:∀ {S C:List Int},S.Perm C→S.Pairwise (·≤·)→C.Pairwise (·≤·)→S=C
 | [],C,h,_,_=>(List.nil_perm.1 h).symm
 | x::r,C,h,hs,hc=>by
  cases C with
  | nil=>exact absurd h.length_eq (by simp)
  | cons y q =>
   rw [List.pairwise_cons] at hs hc
   have e:x=y:=by
    rcases List.mem_cons.1 (h.mem_iff.1 (List.mem_cons_self ..)) with h1 | h1
    ·exact h1
    ·rcases List.mem_cons.1 (h.mem_iff.2 (List.mem_cons_self (l:=q))) with h2 | h2
     ·exact h2.symm
     ·have:=hs.1 y h2
      have:=hc.1 x h1
      omega
   subst e
   rw [perm_one ((List.perm_cons x).1 h) hs.2 hc.2]
theorem sortI_merge (l:List Int):l.mergeSort (fun x y=>decide (x≤y))=sortI l:=by
 refine perm_one ((List.mergeSort_perm l _).trans (sortI_perm l).symm) ?_ (sortI_pw l)
 have:=List.pairwise_mergeSort (le:=fun x y:Int=>decide (x≤y)) (fun a b c h1 h2=>by simp at *;omega) (fun a b=>by simp;omega) l
 exact this.imp fun h=>by simpa using h
section
variable {P:Program} {E:Env} {w0 w:World} {I0:IMap} {γ:Nat→Option Place} {I:IMap} {st:St}
theorem Sh.turnG (h:Sh E w0 I0 γ I st w) {l u b:Nat} {k:Kd} {body:OBody} (hl:st.ob l=some ⟨u,body⟩) (hu:γ u=some (.obj b k)) (hro:Nat.ble st.ro u=true) {o':Obj} {w':World} {body':OBody}
 (hos:w'.os=w.os∧w'.tape=w.tape∧w'.output=w.output) (hsz:w.heap.size≤w'.heap.size) (hk:∀ j,j<w.heap.size→j≠b→w'.heap[j]? = w.heap[j]?) (hb:w'.heap[b]? = some o')
 (hbody:ObjOk γ I st.ob w.heap k (some o') body') (hnm:∀ v es,body'≠.mp v es) :
 Sh E w0 I0 γ I { st with ob:=upd st.ob l (some ⟨u,body'⟩) } w':=by
 obtain ⟨Ω,ho⟩:=h.own
 obtain ⟨b',k',h1,h2,h3,_,h5⟩:=ho.ob l _ hl
 rw [hu] at h1
 cases h1
 have hkeep:MapsKeep γ st.ob (upd st.ob l (some ⟨u,body'⟩)) w.heap w'.heap:=by
  intro l2 u2 ver' es' mb mk hu2 hl2
  rw [upd_apply] at hl2
  split at hl2
  ·simp only [Option.some.injEq,Obj'.mk.injEq] at hl2
   exact absurd hl2.2 (hnm _ _)
  ·rename_i hne
   refine .inl ⟨hl2,fun m c hm=>?_⟩
   obtain ⟨b2,k2,q1,q2,_⟩:=ho.ob l2 _ hl2
   rw [hu2] at q1
   cases q1
   rw [hk _ (ho.lt _ _ q2) (fun e=>by
    subst e
    rw [h2] at q2
    cases q2
    exact hne rfl)]
   exact hm
 refine ⟨fun b2 o2 x hx=>?_,h.gl,⟨Ω,⟨fun l2 x hl2=>?_,fun u2 hu2=>?_,fun b2 ow hb2=>?_⟩⟩,?_,h.old⟩
 ·have hne:b2≠b:=fun e=>by rw [e,h5] at hx;cases hx
  have hc:=h.imm _ _ _ hx
  rw [World.cell?_of_block (w:=w) (w':=w') (a:=⟨b2,o2,none⟩) (hk b2 (World.block_lt_of_cell? _ _ hc) hne)]
  exact hc
 ·simp only at hl2
  rw [upd_apply] at hl2
  split at hl2
  ·rename_i e
   subst e
   cases hl2
   refine ⟨b,k,hu,h2,h3,?_,h5⟩
   rw [hb]
   exact hbody.keep hkeep
  ·rename_i hne
   obtain ⟨b2,k2,q1,q2,q3,q4,q5⟩:=ho.ob l2 x hl2
   have hbb:b2≠b:=fun e=>by
    subst e
    rw [h2] at q2
    cases q2
    exact hne rfl
   exact ⟨b2,k2,q1,q2,q3,by rw [hk _ (ho.lt _ _ q2) hbb];exact q4.keep hkeep,q5⟩
 ·obtain ⟨b2,n,cap,sz,q1,q2,q3,q4,q5⟩:=ho.tk u2 hu2
  have hbb:b2≠b:=fun e=>by subst e;rw [h2] at q2;cases q2
  exact ⟨b2,n,cap,sz,q1,q2,q3,by rw [hk _ (ho.lt _ _ q2) hbb];exact q4,q5⟩
 ·exact Nat.lt_of_lt_of_le (ho.lt _ _ hb2) hsz
 ·exact Grow.frame h.fr (T:=fun k=>k=b) ⟨hos.1,hos.2.1,hos.2.2,hsz,fun k hk' hne=>hk k hk' hne,fun k hk'=>hk' ▸ h3 (by simpa [Nat.ble_eq] using hro)⟩
theorem ints_map {l:List V} {zs:List Int} (h:l.mapM int64? = some zs):l=zs.map (.int .i64):=by
 obtain ⟨h1,h2⟩:=mapM_some h
 apply List.ext_getElem?
 intro j
 rcases Nat.lt_or_ge j l.length with hj | hj
 ·have hj':j<zs.length:=by omega
  have:=h2 j _ _ (List.getElem?_eq_getElem hj) (List.getElem?_eq_getElem hj')
  rw [List.getElem?_map,List.getElem?_eq_getElem hj',List.getElem?_eq_getElem hj]
  unfold int64? at this
  split at this
  ·rename_i n e;cases this;rw [e];rfl
  ·cases this
 ·rw [List.getElem?_eq_none hj,List.getElem?_eq_none (by simp;omega)]
theorem sort_ok {γ0:Nat→Option Place} {Iy:IMap} {f:FuncId} {args:List V} {ob ob':Nat→Option Obj'} {tk tk':Nat→Bool} {ro ub ub':Nat} {r:V} (hl:SortLaw P f) (h:sortA ob tk ro ub args=some (r,ob',tk',ub')) :
 SharedOk P E γ0 Iy f args ob tk ro ub [(r,ob',tk',ub')]:=by
 intro w0 w I0 I γ xs st hg0 hI0 hob htk hro hSh hfr hsz hrep
 subst hob htk hro
 have nothing:∀ {p cap},xs = #[.slice p 0 cap]→Calls P f xs w fun e w'=>∃ r∈[(V.tup [],st.ob,st.tk,ub)],SharedPost E w0 I0 γ I st.ro r.1 r.2.1 r.2.2.1 r.2.2.2 e w':=by
  rintro p cap rfl
  refine (hl.2.1 p cap w).mono ?_
  rintro e w' ⟨rfl,rfl⟩
  exact ⟨_,List.mem_singleton.2 rfl,_,γ,I,rfl,fun st' h1 h2 h3=>hSh.congr h1 h2 h3,.tup _ _ rfl (fun j x v hx=>by simp at hx),SubG.refl _,SubI.refl _,hfr⟩
 unfold sortA at h
 split at h
 ·rename_i l u off n sz
  obtain ⟨cs,hcs,hq⟩:=bind_some h
  simp only [Option.ite_none_right_eq_some] at hq
  obtain ⟨⟨hr,hz1,hle,hbig⟩,hq⟩:=hq
  obtain ⟨zs,hzs,he⟩:=map_some hq
  simp only [Prod.mk.injEq] at he
  clear h hq
  obtain ⟨rfl,rfl,rfl,rfl⟩:=he
  subst hz1
  have hob:=objCells_inv hcs
  have hx1:xs.size=1:=hsz
  obtain ⟨x,rfl⟩:∃ x,xs = #[x]:=⟨xs[0],by
   apply Array.ext
   ·simp [hx1]
   ·intro i h1 h2
    have:i=0:=by simp at h2;omega
    subst this
    rfl⟩
  have hcell:=ints_map hzs
  have hlen:zs.length=n:=by
   have:=congrArg List.length hcell
   simp at this
   omega
  rcases Nat.eq_zero_or_pos n with h0 | h0
  ·subst h0
   have hz0:zs=[]:=List.length_eq_zero_iff.1 hlen
   subst hz0
   have hsame:upd st.ob l (some ⟨u,.cells (splice cs off ((sortI []).map (.int .i64)))⟩)=st.ob:=by
    funext k
    rw [upd_apply]
    split
    ·rename_i e;subst e;rw [hob];simp [splice,sortI]
    ·rfl
   rw [hsame]
   cases hrep 0 x _ rfl rfl with
   | pure _ _ h=>cases h
   | osl l u off n sz cap b k a hu ha hc hm=>exact nothing rfl
  ·cases hrep 0 x _ rfl rfl with
   | pure _ _ h=>cases h
   | osl l u off n sz cap b k a hu ha hc hm =>
    obtain ⟨rfl,hak⟩:=ha (by omega)
    obtain ⟨arr,e,hw,hsize,hcl,hels⟩:=ob_get hSh hob hu
    have hblt:b<w.heap.size:=(Array.getElem?_eq_some_iff.1 hw).1
    have hint:∀ j (hj:j<zs.length),arr[off+j]? = some (.int .i64 zs[j]):=fun j hj=>by
     have h1:off+j<arr.size:=by omega
     have h2:cs[off+j]? = some (.int .i64 zs[j]):=by
      have:=congrArg (fun l=>l[j]?) hcell
      simp only [List.getElem?_map,List.getElem?_eq_getElem hj,Option.map_some] at this
      rw [List.getElem?_take_of_lt (by omega),List.getElem?_drop] at this
      exact this
     have h3:=(hels (off+j) _ _ (Array.getElem?_eq_getElem h1) h2).2
     rw [Array.getElem?_eq_getElem h1]
     generalize arr[off+j]=y at h3
     cases h3 with
     | pure _ _ h=>cases h;rfl
    have hH:Holds (Value.int .i64) w b off zs.toArray:=fun j hj=>by
     have hj':j<zs.length:=by simpa using hj
     refine ⟨?_,by simp [World.frozen?,hw]⟩
     simp only [World.cell?,hw]
     simp only [Option.isSome_none,Bool.false_eq_true,if_false]
     rw [hint j hj']
     simp [hj']
    have hmax:zs.length<4611686018427387904:=by omega
    have hcall:=hl.2.2 b off cap zs w hH hblt hmax
    rw [hlen] at hcall
    refine hcall.mono ?_
    rintro e' w' ⟨rfl,m,os,rfl⟩
    rw [sortI_merge]
    have hsl:(sortI zs).length=zs.length:=(sortI_perm zs).length_eq
    refine ⟨_,List.mem_singleton.2 rfl,_,γ,I,rfl,fun st' h1 h2 h3=>?_,.tup _ _ rfl (fun j x v hx=>by simp at hx),SubG.refl _,SubI.refl _,hfr⟩
    have hheap:∀ j,j<w.heap.size→(grow (putRow (Value.int .i64) (Go.Sort.ahead w m) b off (sortI zs).toArray) os).heap[j]? = if j=b then some (.cells (putCells (Value.int .i64) off (sortI zs).toArray arr) e (0,0)) else w.heap[j]?:=fun j hj=>by
     simp only [grow,putRow,mapBlock,Go.Sort.ahead]
     rw [Array.getElem?_append_left (by simpa using hj),Array.getElem?_modify]
     by_cases hjb:b=j
     ·subst hjb
      simp [hw,onCells]
     ·have:¬ j=b:=fun e=>hjb e.symm
      simp [hjb,this]
    refine Sh.congr (st:={ st with ob:=upd st.ob l (some ⟨u,.cells (splice cs off ((sortI zs).map (.int .i64)))⟩) }) (hSh.turnG hob hu hr (o':=.cells (putCells (Value.int .i64) off (sortI zs).toArray arr) e (0,0)) ⟨rfl,rfl,rfl⟩ (by simp [Go.Sort.ahead]) (fun j hj hne=>by rw [hheap j hj,if_neg hne]) (by rw [hheap b hblt,if_pos rfl]) ?_ (fun v es h=>by cases h)) h1 h2 h3
    have hspl:(splice cs off ((sortI zs).map (.int .i64))).length=cs.length:=by
     simp [splice]
     omega
    refine ⟨_,e,rfl,by simpa [putCells] using hsize,by omega,fun j y v hy hv=>?_⟩
    simp only [putCells,Array.getElem?_mapIdx] at hy
    have hszz:(sortI zs).toArray.size=zs.length:=by simpa using hsl
    obtain ⟨y0,hy0,hy1⟩:=map_some hy
    by_cases hin:off≤j∧j<off+zs.length
    ·rw [if_pos (by rw [hszz];exact hin)] at hy1
     have hjz:j - off<(sortI zs).length:=by omega
     have hv':v = .int .i64 (sortI zs)[j - off]:=by
      rw [splice,List.append_assoc,List.getElem?_append_right (by simp;omega),List.getElem?_append_left (by simp;omega)] at hv
      simp only [List.length_take,List.getElem?_map] at hv
      rw [show j - min off cs.length=j - off by omega,List.getElem?_eq_getElem hjz] at hv
      simpa using hv.symm
     subst hv' hy1
     refine ⟨rfl,?_⟩
     have:(sortI zs).toArray[j - off]! = (sortI zs)[j - off]:=by simp [hjz]
     rw [this]
     exact .pure _ _ (.int _ _)
    ·rw [if_neg (by rw [hszz];exact hin)] at hy1
     subst hy1
     refine hels j y0 v hy0 ?_
     rw [← hv,splice]
     rcases Nat.lt_or_ge j off with hj | hj
     ·rw [List.append_assoc,List.getElem?_append_left (by simp;omega),List.getElem?_take_of_lt hj]
     ·rw [List.getElem?_append_right (by simp;omega),List.getElem?_drop]
      congr 1
      simp
      omega
 ·rename_i tk2 nl
  cases h
  have hx1:xs.size=1:=hsz
  obtain ⟨x,rfl⟩:∃ x,xs = #[x]:=⟨xs[0],by
   apply Array.ext
   ·simp [hx1]
   ·intro i h1 h2
    have:i=0:=by simp at h2;omega
    subst this
    rfl⟩
  cases hrep 0 x _ rfl rfl with
  | pure _ _ h=>cases h <;> exact nothing rfl
  | tsl u b n cap sz cs xs hu hlen hc hm hi hl hr=>exact nothing rfl
 ·cases h
end
end Go.Pv
namespace Go.Pv
open Go
theorem dstOk_mono {n m:Nat} (h:n≤m):∀ c:C,c.dstOk n=true→c.dstOk m=true:=by
 have one:∀ ops:List AOpr,(ops.all fun o=>match o.dst with | some d=>Nat.blt d n | none=>true)=true→(ops.all fun o=>match o.dst with | some d=>Nat.blt d m | none=>true)=true:=by
  intro ops hd
  refine List.all_eq_true.2 fun o ho=>?_
  have:=List.all_eq_true.1 hd o ho
  split
  ·rename_i d hdd
   simp only [hdd,Nat.blt_eq] at this
   simp only [Nat.blt_eq]
   omega
  ·rfl
 intro c
 induction c with
 | region ops=>exact one ops
 | draw ops f=>exact one ops
 | pin o fs=>exact one (o::fs)
 | seq a b iha ihb=>simp only [C.dstOk,Bool.and_eq_true];exact fun ⟨h1,h2⟩=>⟨iha h1,ihb h2⟩
 | cond q a b iha ihb=>simp only [C.dstOk,Bool.and_eq_true];exact fun ⟨h1,h2⟩=>⟨iha h1,ihb h2⟩
 | block i a ih=>exact ih
 | loop a ih=>exact ih
 | rangeFunc f ps a b iha ihb =>
  simp only [C.dstOk,Bool.and_eq_true]
  rintro ⟨⟨h1,h2⟩,h3⟩
  refine ⟨⟨List.all_eq_true.2 fun p hp=>?_,iha h2⟩,ihb h3⟩
  have:=List.all_eq_true.1 h1 p hp
  simp only [Nat.blt_eq] at this ⊢
  omega
 | _=>exact fun _=>rfl
section
variable {P:Program} {E:Env}
theorem init_tm {γ:Nat→Option Place} {I:IMap} {xs:Array Value} {args:List V} {k:Nat} (hs:xs.size=args.length) (h:∀ (j:Nat) (x:Value) (v:V),xs[j]? = some x→args[j]? = some v→Rep γ I x v) (t:Nat) :
 Rep γ I ((xs++Array.replicate k undef).getD t undef) (args.getD t none'):=by
 by_cases ht:t<xs.size
 ·have h1:(xs++Array.replicate k undef).getD t undef=xs[t]:=by
   simp [ht,Array.getElem?_append_left]
  have h2:args.getD t none'=args[t]'(by omega):=by
   have:t<args.length:=by omega
   simp [this]
  rw [h1,h2]
  exact h t _ _ (Array.getElem?_eq_getElem ht) (List.getElem?_eq_getElem (by omega))
 ·have h1:(xs++Array.replicate k undef).getD t undef=undef:=by
   simp only [Array.getD_eq_getD_getElem?]
   rw [Array.getElem?_append_right (by omega)]
   by_cases hk:t - xs.size<k <;> simp [hk]
  have h2:args.getD t none'=none':=by
   have:args.length≤t:=by omega
   simp [this]
  rw [h1,h2]
  exact rep_undef
theorem leaves_ok {w0:World} {I0 I:IMap} {γ:Nat→Option Place} {fn:Func} {tmps:Array Value} {Rp:Ending→World→Prop} {st:St}:∀ (df:List (Nat × Nat)) (ds:List Deferred) (ob:Nat→Option Obj') (w:World),
 Sh E w0 I0 γ I { st with ob:=ob } w→DfOk γ df ds→(∀ x∈df,ob x.1=some ⟨x.2,.dfr⟩∧Nat.ble st.ro x.2=true)→(df.map (·.1)).Nodup →
 (∀ w',Sh E w0 I0 γ I { st with ob:=fun k=>if df.any (fun x=>Nat.beq x.1 k) then none else ob k } w'→LeavesIn (FW none) 0 P fn tmps Rp [] .returning w')→LeavesInM (FW none) 0 P fn tmps Rp ds .returning w
 | [],[],ob,w,hSh,_,_,_,hK=>hK w (hSh.congr (funext fun k=>by simp) rfl rfl)
 | x::df,d::ds,ob,w,hSh,hdf,hob,hnd,hK=>by
  obtain ⟨⟨b,k,rfl,hu⟩,hdf'⟩:=hdf
  obtain ⟨h1,h2⟩:=hob x (List.mem_cons_self ..)
  have hblk:w.heap[b]? = some (.deferred (some [])):=ob_get hSh h1 hu
  have htk:=run_takeDeferred (P:=P) hblk
  simp only [List.map_cons,List.nodup_cons] at hnd
  have hSh2:=hSh.turn (ob':=fun k=>if Nat.beq x.1 k then none else ob k) (o':=.deferred none) h1 hu h2 (fun l2 y hy=>by
   split at hy
   ·cases hy
   ·rename_i hne;exact .inl ⟨fun e=>hne (by rw [e];exact Nat.beq_refl _),hy⟩)
  refine ⟨(fun h=>by cases h),.inl ⟨b,_,rfl,htk,?_⟩⟩
  refine leaves_ok df ds (fun k=>if Nat.beq x.1 k then none else ob k) _ (hSh2.congr rfl rfl rfl) hdf' (fun y hy=>?_) hnd.2 (fun w' h=>?_)
  ·obtain ⟨q1,q2⟩:=hob y (List.mem_cons_of_mem _ hy)
   refine ⟨?_,q2⟩
   have hne:¬ Nat.beq x.1 y.1=true:=fun e=>hnd.1 (by rw [Nat.eq_of_beq_eq_true e];exact List.mem_map.2 ⟨y,hy,rfl⟩)
   simp only [hne,Bool.false_eq_true,if_false]
   exact q1
  ·refine hK w' (h.congr (funext fun k=>?_) rfl rfl)
   simp only [List.any_cons,Bool.or_eq_true]
   have key:∀ p q:Bool,(if p=true∨q=true then none else ob k)=if q=true then none else if p=true then none else ob k:=by
    intro p q
    cases p <;> cases q <;> rfl
   exact key _ _
 | [],_::_,_,_,_,h,_,_,_=>h.elim
 | _::_,[],_,_,_,h,_,_,_=>h.elim
theorem leave_ok {w0 w:World} {I0 I:IMap} {γ:Nat→Option Place} {nt:Nat} {fn:Func} {st:St} {a:Act} {Rp:Ending→World→Prop} (hR:R E w0 I0 nt γ I st a w) (hd:dfOk st=true)
 (hK:∀ w',R E w0 I0 nt γ I st.noDf { tmps:=a.tmps,defers:=[] } w'→∃ v,(results fn a.tmps).run P w' = .ok v w'∧Rp (.returned v) w'):LeavesInM (FW none) 0 P fn a.tmps Rp a.defers .returning w:=by
 unfold dfOk at hd
 simp only [Bool.and_eq_true] at hd
 refine leaves_ok (st:=st) st.df a.defers st.ob w (hR.sh.congr rfl rfl rfl) hR.df (fun x hx=>?_) (nodup_spec hd.2) (fun w' h=>?_)
 ·have:=List.all_eq_true.1 hd.1 x hx
  split at this
  ·rename_i u hu
   simp only [Bool.and_eq_true] at this
   have e:=Nat.eq_of_beq_eq_true this.1
   subst e
   exact ⟨hu,this.2⟩
  ·cases this
 ·have hn:st.noDf.tm=st.tm∧st.noDf.tk=st.tk∧st.noDf.ro=st.ro∧st.noDf.df=[]∧st.noDf.ob=fun k=>if st.df.any (fun x=>Nat.beq x.1 k) then none else st.ob k:=by
   unfold St.noDf
   split
   ·rename_i e;exact ⟨rfl,rfl,rfl,e,by rw [e];funext k;simp⟩
   ·exact ⟨rfl,rfl,rfl,rfl,rfl⟩
  exact hK w' ⟨hR.sz,by rw [hn.2.2.2.1];trivial,by rw [hn.1];exact hR.tm,h.congr hn.2.2.2.2 hn.2.1 hn.2.2.1⟩
theorem bodyPostM_of {fn:Func} {Rp:Ending→World→Prop} {e:Ex} {a:Act} {w:World} (h:e = .nrm∨e = .ret) (hl:LeavesInM (FW none) 0 P fn a.tmps Rp a.defers .returning w):bodyPostM (FW none) 0 P fn Rp (exOf e) a w:=by
 rcases h with rfl | rfl <;> exact hl
theorem mapM_mem {α β:Type} {f:α→Option β} {l:List α} {L:List β} (h:l.mapM f=some L) {z:α} (hz:z∈l):∃ r∈L,f z=some r:=by
 obtain ⟨h1,h2⟩:=mapM_some h
 obtain ⟨i,hi,rfl⟩:=List.getElem_of_mem hz
 have hi':i<L.length:=by omega
 exact ⟨L[i],List.getElem_mem hi',h2 i _ _ (List.getElem?_eq_getElem hi) (List.getElem?_eq_getElem hi')⟩
theorem callers_ok (hm:P.follows .mixedOrders=true) (hE:EnvOk P E):∀ n,CallersOk P E (callers E n)
 | 0=>fun γ0 Iy y hy=>⟨fun f args r h=>(by cases h),fun f args ob tk b u r h=>(by cases h),fun f args ob tk ro base ub l h=>(by cases h),hy⟩
 | n+1=>by
  have ih:=callers_ok hm hE n
  intro γ0 Iy y hy
  -- the results of a function that shares nothing,and of one that only looks
  have alone:∀ {fn:Func} {af:AF} {r:V} {w0 w:World} {I0 I:IMap} {γ:Nat→Option Place} {nt:Nat} {st:St} {a:Act} {e:Ex} {Rp:Ending→World→Prop},fn.results.toList.mapM (compRes P)=some af.res→R E w0 I0 nt γ I st a w→endV af.res (e,st)=some r →
   (∀ x τ I' w',w0.grownBy w' none→(∀ b o x,I b o=some x→I' b o=some x)→ImmOk I' w'→(∀ b o,b<w0.heap.size→I' b o=I0 b o)→RRep τ I' x r→TokNew w0.heap.size τ I' w' r→Rp (.returned x) w') →
   bodyPostM (FW none) 0 P fn Rp (exOf e) a w:=by
   intro fn af r w0 w I0 I γ nt st a e Rp hres hR he hK
   have hne:e = .nrm∨e = .ret:=by cases e <;> first | exact .inl rfl | exact .inr rfl | cases he
   have he':(if dfOk st then (af.res.mapM (resOf st.noDf)).bind (outRes st.noDf) else none)=some r:=by rcases hne with rfl | rfl <;> exact he
   simp only [Option.ite_none_right_eq_some] at he'
   obtain ⟨hd,he'⟩:=he'
   refine bodyPostM_of hne (leave_ok hR hd fun w' hR'=>?_)
   obtain ⟨vs,hvs,hout⟩:=bind_some he'
   obtain ⟨ys,k1,k2,k3⟩:=results_ok hR' hres hvs
   obtain ⟨τ,I2,q1,q2,q3,q4,q5⟩:=out_ok hR' k1 k3 hout
   exact ⟨_,k2,hK _ τ I2 _ hR'.fr q1 q2 (fun b o hb=>(q3 b o hb).trans (hR'.old b o hb)) q4 q5⟩
  refine ⟨fun f args r h=>?_,fun f args ob tk base ub r h=>?_,fun f args ob tk ro base ub L h=>?_,hy⟩
  ·simp only [callers] at h
   obtain ⟨af,haf,h⟩:=bind_some h
   obtain ⟨m,fn,c,hfn,hb,hcomp,hres,hname,hdst⟩:=hE.fc f af haf
   refine ⟨⟨fn,c,hfn,hb,hname⟩,fun w I xs himm hgl hsz hrep=>?_⟩
   obtain ⟨l,hx,hall⟩:=one1_spec h
   refine callsWide (callsIn_of_wp_marks (F:=FW none) (n:=0) hfn hb trivial ?_)
   have hnt:fn.ntmps≤(xs++Array.replicate (fn.ntmps - xs.size) undef).size:=by simp;omega
   have hR:R E w I (xs++Array.replicate (fn.ntmps - xs.size) undef).size (fun _=>none) I (start args) { tmps:=xs++Array.replicate (fn.ntmps - xs.size) undef,defers:=[] } w :=
    ⟨rfl,trivial,fun t=>init_tm hsz (fun j x v hx hv=>.pure _ _ (hrep j x v hx hv)) t,⟨himm,hgl,⟨fun _=>none,⟨fun l o h=>(by cases h),fun u h=>(by cases h),fun b o h=>(by cases h)⟩⟩,⟨rfl,rfl,rfl,Nat.le_refl _,fun _ _ _=>rfl⟩,fun _ _ _=>rfl⟩⟩
   refine code_ok hm ih n (y:=noY) (γ0:=fun _=>none) (Iy:=I) noY_ok c af.body m false none (.inr rfl) hcomp (dstOk_mono hnt _ hdst) w I _ _ l _ _ _ _ (SubG.refl _) (SubI.refl _) hx hR (fun _ _=>rfl) (fun y hy=>?_)
   obtain ⟨e,s⟩:=y
   intro γ' I' a' w' hR' hf' hg hI
   refine alone hres hR' (hall _ hy) (fun x τ I2 w2 h2 h3 h4 h5 h6 h7=>?_)
   exact ⟨x,τ,I2,rfl,h2,fun b o x h=>h3 b o x (hI b o x h),h4,h5,h6,h7⟩
  ·simp only [callers] at h
   by_cases hfz:E.fz f
   ·simp only [hfz,if_true] at h
    obtain ⟨args',ha,h⟩:=bind_some h
    obtain ⟨r',h1,h2⟩:=bind_some h
    simp only [Option.ite_none_right_eq_some,Option.some.injEq] at h2
    obtain ⟨h2,rfl⟩:=h2
    have hd:=(ih γ0 Iy noY noY_ok).d f args' r' h1
    exact ⟨hd.1,frz_ok hd.2 ha h2⟩
   simp only [hfz,Bool.false_eq_true,if_false] at h
   obtain ⟨af,haf,h⟩:=bind_some h
   obtain ⟨m,fn,c,hfn,hb,hcomp,hres,hname,hdst⟩:=hE.fs f af haf
   refine ⟨⟨fn,c,hfn,hb,hname⟩,fun w0 w I0 I γ xs st hob hSh hfr hsz hrep=>?_⟩
   obtain ⟨l,hx,hall⟩:=one1_spec h
   refine callsWide (callsIn_of_wp_marks (F:=FW none) (n:=0) hfn hb trivial ?_)
   have hnt:fn.ntmps≤(xs++Array.replicate (fn.ntmps - xs.size) undef).size:=by simp;omega
   have hR:R E w I (xs++Array.replicate (fn.ntmps - xs.size) undef).size γ I (startS args ob (fun _=>false) ub base ub) { tmps:=xs++Array.replicate (fn.ntmps - xs.size) undef,defers:=[] } w:=by
    obtain ⟨Ω,ho⟩:=hSh.own
    refine ⟨rfl,trivial,fun t=>init_tm hsz hrep t,⟨hSh.imm,hSh.gl,⟨Ω,⟨fun l o hl=>?_,fun u h=>(by cases h),ho.lt⟩⟩,⟨rfl,rfl,rfl,Nat.le_refl _,fun _ _ _=>rfl⟩,fun _ _ _=>rfl⟩⟩
    have hl':st.ob l=some o:=hob l o hl
    obtain ⟨b,k,h1,h2,h3,h4,h5⟩:=ho.ob l o hl'
    refine ⟨b,k,h1,h2,fun hro=>?_,h4.keep (fun l2 u2 ver' es' mb mk _ hl2=>.inl ⟨hob _ _ hl2,fun m c hm=>hm⟩),h5⟩
    rw [hfr _ hro] at h1
    cases h1
   refine code_ok hm ih n (y:=noY) (γ0:=γ) (Iy:=I) noY_ok c af.body m true none (.inr rfl) hcomp (dstOk_mono hnt _ hdst) w I _ _ l _ _ _ _ (SubG.refl _) (SubI.refl _) hx hR hfr (fun y hy=>?_)
   obtain ⟨e,s⟩:=y
   intro γ' I' a' w' hR' hf' hg hI
   refine alone hres hR' (hall _ hy) (fun x τ I2 w2 h2 h3 h4 h5 h6 h7=>?_)
   exact ⟨x,τ,I2,rfl,h2,fun b o x h=>h3 b o x (hI b o x h),h4,h5,h6,h7⟩
  ·simp only [callers] at h
   by_cases htw:E.tw f
   ·simp only [htw,if_true] at h
    obtain ⟨args',ha,h⟩:=bind_some h
    obtain ⟨r',h1,h2⟩:=bind_some h
    have hd:=(ih γ0 Iy noY noY_ok).d f args' r' h1
    obtain ⟨⟨_,_,_,_⟩,h3,rfl⟩:=map_some h2
    exact ⟨hd.1,thaw_ok hd.2 ha h3⟩
   simp only [htw,Bool.false_eq_true,if_false] at h
   by_cases hst:E.srt f
   ·simp only [hst,if_true] at h
    obtain ⟨⟨_,_,_,_⟩,h3,rfl⟩:=map_some h
    exact ⟨(hE.srt f hst).1,sort_ok (hE.srt f hst) h3⟩
   simp only [hst,Bool.false_eq_true,if_false] at h
   obtain ⟨af,haf,h⟩:=bind_some h
   obtain ⟨m,fn,c,hfn,hb,hcomp,hres,hname,hdst⟩:=hE.fs f af haf
   refine ⟨⟨fn,c,hfn,hb,hname⟩,fun w0 w I0 I γ xs st hg0 hI0 hob htk hro hSh hfr hsz hrep=>?_⟩
   obtain ⟨l0,hx,h⟩:=bind_some h
   have h:l0.mapM (endS af.res)=some L:=by
    split at h
    ·exact h
    ·split at h
     ·obtain ⟨r,h1,rfl⟩:=map_some h
      simp only [List.mapM_cons,h1,List.mapM_nil]
      rfl
     ·cases h
   refine callsWide (callsIn_of_wp_marks (F:=FW none) (n:=0) hfn hb trivial ?_)
   have hnt:fn.ntmps≤(xs++Array.replicate (fn.ntmps - xs.size) undef).size:=by simp;omega
   have hR:R E w0 I0 (xs++Array.replicate (fn.ntmps - xs.size) undef).size γ I (startS args ob tk ro base ub) { tmps:=xs++Array.replicate (fn.ntmps - xs.size) undef,defers:=[] } w :=
    ⟨rfl,trivial,fun t=>init_tm hsz hrep t,hSh.congr hob.symm htk.symm hro.symm⟩
   refine code_ok hm ih n (y:=y) hy c af.body m true none (.inr rfl) hcomp (dstOk_mono hnt _ hdst) w0 I0 _ _ l0 _ _ _ _ hg0 hI0 hx hR hfr (fun z hz=>?_)
   have hro':=codeL_ro _ hx _ hz
   obtain ⟨⟨r,ob',tk',ub'⟩,hrL,h⟩:=mapM_mem h hz
   obtain ⟨e,s⟩:=z
   intro γ' I' a' w' hR' hf' hg hI
   have hne:e = .nrm∨e = .ret:=by cases e <;> first | exact .inl rfl | exact .inr rfl | cases h
   have h':(if s.df.isEmpty then (af.res.mapM (resOf s)).map fun l=>(match l with | [v]=>v | l=>.tup l,s.ob,s.tk,s.nx) else none)=some (r,ob',tk',ub'):=by rcases hne with rfl | rfl <;> exact h
   simp only [Option.ite_none_right_eq_some] at h'
   obtain ⟨hde,h'⟩:=h'
   have hde:s.df=[]:=List.isEmpty_iff.1 hde
   have hdn:a'.defers=[]:=by
    have:=hR'.df
    simp only [hde] at this
    cases hds:a'.defers with
    | nil=>rfl
    | cons d ds=>rw [hds] at this;exact this.elim
   refine bodyPostM_of hne ?_
   rw [hdn]
   obtain ⟨vs,hvs,he⟩:=map_some h'
   obtain ⟨ys,k1,k2,k3⟩:=results_ok hR' hres hvs
   simp only [Prod.mk.injEq] at he
   obtain ⟨he,rfl,rfl,rfl⟩:=he
   refine ⟨_,k2,_,hrL,_,γ',I',rfl,fun st' h1 h2 h3=>hR'.sh.congr h1 h2 (h3.trans hro'.symm),?_,hg,hI,hf'⟩
   match ys,vs,k1,k3,he with
   | [],[],_,_,rfl=>exact .tup _ _ rfl (fun j y u hy=>by simp at hy)
   | [y],[v],_,k3,rfl=>exact k3 0 y v rfl rfl
   | y::y'::ys,v::v'::vs,e,k3,rfl=>exact .tup _ _ (by simpa using e) (fun j z u hz hu=>k3 j z u (by simpa using hz) hu)
theorem Ev.sound (hm:P.follows .mixedOrders=true) (hE:EnvOk P E) {f:FuncId} {args:List V} {r:V} (h:Ev E f args r):PureOk P E f args r:=by
 obtain ⟨n,h⟩:=h
 exact ((callers_ok hm hE n (fun _=>none) (fun _ _=>none) noY noY_ok).d f args r h).2
end
def EvO (E:Env) (f:FuncId) (args:List V) (ob:Nat→Option Obj') (tk:Nat→Bool) (base ub:Nat) (r:V):Prop:=∃ n,(callers E n noY).o f args ob tk base ub=some r
def EvS (E:Env) (y:Nat→Y) (f:FuncId) (args:List V) (ob:Nat→Option Obj') (tk:Nat→Bool) (ro base ub:Nat) (r:V × (Nat→Option Obj') × (Nat→Bool) × Nat):Prop:=∃ n,(callers E n (y n)).s f args ob tk ro base ub=some [r]
def EvSL (E:Env) (y:Nat→Y) (f:FuncId) (args:List V) (ob:Nat→Option Obj') (tk:Nat→Bool) (ro base ub:Nat) (Q:V × (Nat→Option Obj') × (Nat→Bool) × Nat→Prop):Prop:=∃ n l,(callers E n (y n)).s f args ob tk ro base ub=some l∧l≠[]∧∀ r∈l,Q r
theorem EvS.list {E:Env} {y:Nat→Y} {f:FuncId} {args:List V} {ob:Nat→Option Obj'} {tk:Nat→Bool} {ro base ub:Nat} {Q:V × (Nat→Option Obj') × (Nat→Bool) × Nat→Prop} (h:∃ r,EvS E y f args ob tk ro base ub r∧Q r):EvSL E y f args ob tk ro base ub Q:=by
 obtain ⟨r,⟨n,h1⟩,h2⟩:=h
 exact ⟨n,[r],h1,by simp,fun x hx=>by rw [List.mem_singleton] at hx;exact hx ▸ h2⟩
structure YF where
 y:Nat→Y
 mono:∀ {n m:Nat},n≤m→YLe (y n) (y m)
def noYF:YF:=⟨fun _=>noY,fun _=>YLe.refl _⟩
def EvY (Yf:YF) (l u:Nat) (xs:List V) (ob:Nat→Option Obj') (tk:Nat→Bool) (ro ub:Nat) (r:V × (Nat→Option Obj') × (Nat→Bool) × Nat):Prop:=∃ n,Yf.y n l u xs ob tk ro ub=some r
def WY (E:Env) (Yf:YF) (c:C) (st:St) (Q:Ex→St→Prop):Prop:=∃ n l,codeL E (callers E n) (Yf.y n) n c st=some l∧l≠[]∧∀ x∈l,Q x.1 x.2
def wpCall (E:Env) (f:FuncId) (xs:List V) (st:St) (dst:Option Nat) (ub:Nat) (K:St→Nat→Prop):Prop :=
 xs.all V.pureTop=true∧∃ v,Ev E f xs v∧∃ δ,retA ub v=some δ∧K (st.app dst δ) (ub+64)
def wpStep (E:Env) (Yf:YF) (o:AOpr) (st:St) (ub:Nat) (K:St→Nat→Prop):Prop :=
 match wanted o st.tm with
 | none=>False
 | some false=>K { st with tm:=put st.tm o.dst none' } ub
 | some true=>match yieldCall (eval E st.tm) o.op with
  | some (l,u,xs)=>∃ r,EvY Yf l u xs st.ob st.tk st.ro ub r∧K { st with tm:=put st.tm o.dst r.1,ob:=r.2.1,tk:=r.2.2.1 } r.2.2.2
  | none=>match sharedCall E o.nm (eval E st.tm) o.op with
   | some (f,xs)=>(E.sh o.nm f=true∧EvSL E Yf.y f xs st.ob st.tk st.ro ((st.fb+o.dst.getD 0+1) * 1024) ub fun r=>K { st with tm:=put st.tm o.dst r.1,ob:=r.2.1,tk:=r.2.2.1 } r.2.2.2) ∨
    (E.sh o.nm f=false∧∃ v,EvO E f xs st.ob st.tk ((st.fb+o.dst.getD 0+1) * 1024) ub v∧∃ δ,retA ub v=some δ∧K (st.app o.dst δ) (ub+64))
   | none=>match o.op with
    | .call f xs=>wpCall E f (xs.map fun x=>(eval E st.tm x).strip) st o.dst ub K
    | .callV q xs=>∃ f first captured,eval E st.tm q = .fn (.func f) first captured∧wpCall E f ((first++xs.map (eval E st.tm)++captured).map V.strip) st o.dst ub K
    | .nextMap x=>∃ l,nextL st.ob st.ro (eval E st.tm x)=some l∧∀ δ∈l,K (st.app o.dst δ) (ub+64)
    | op=>∃ δ,aop (fun _ _=>none) (eval E st.tm) st.ob st.tk st.ro (o.name st.fb ub) ub op=some δ∧K (st.app o.dst δ) (ub+64)
def wpOps' (E:Env) (Yf:YF):List AOpr→St→Nat→(St→Prop)→Prop
 | [],st,ub,K=>K { st with nx:=ub }
 | o::r,st,ub,K=>wpStep E Yf o st ub fun st ub=>wpOps' E Yf r st ub K
def wpDraw (E:Env):List AOpr→St→Nat→(List FP→St→Prop)→Prop
 | [],st,ub,K=>K [] { st with nx:=ub }
 | o::r,st,ub,K =>
  match wanted o st.tm with
  | none=>False
  | some false=>wpDraw E r (st.app o.dst { v:=none' }) (ub+64) fun fs s=>K ({}::fs) s
  | some true=>match sharedCall E o.nm (eval E st.tm) o.op with
   | some (f,xs)=>(E.sh o.nm f=false∧∃ v,EvO E f xs st.ob st.tk ((st.fb+o.dst.getD 0+1) * 1024) (ub+64 * (r.length+1)) v∧∃ δ,retA ub v=some δ ∧
    wpDraw E r (st.app o.dst δ) (ub+64) fun fs s=>K ({ wt:=δ.wt,all:=true,seen:=fun l=>(st.ob l).isSome }::fs) s) ∨
    (E.sh o.nm f=true∧E.tw f=true∧∃ a' v,xs.mapM (frzTop st.ob)=some a'∧Ev E f a' v∧∃ δ,thawD (o.name st.fb ub) ub v=some δ ∧
    wpDraw E r (st.app o.dst δ) (ub+64) fun fs s=>K ({ wo:=δ.wo,all:=true,seen:=fun l=>(st.ob l).isSome,nw:=true }::fs) s)
   | none=>o.op.far=false∧match o.op with
    | .call f xs=>(xs.all fun x=>(eval E st.tm x).strip.pureTop)=true∧∃ v,Ev E f (xs.map fun x=>(eval E st.tm x).strip) v∧∃ δ,retA ub v=some δ∧wpDraw E r (st.app o.dst δ) (ub+64) fun fs s=>K (fpOf (eval E st.tm) o.op δ::fs) s
    | .callV q xs=>∃ f first captured,eval E st.tm q = .fn (.func f) first captured∧((first++xs.map (eval E st.tm)++captured).map V.strip).all V.pureTop=true∧∃ v,Ev E f ((first++xs.map (eval E st.tm)++captured).map V.strip) v∧∃ δ,retA ub v=some δ ∧
     wpDraw E r (st.app o.dst δ) (ub+64) fun fs s=>K (fpOf (eval E st.tm) o.op δ::fs) s
    | op=>∃ δ,aop (fun _ _=>none) (eval E st.tm) st.ob st.tk st.ro (o.name st.fb ub) ub op=some δ∧wpDraw E r (st.app o.dst δ) (ub+64) fun fs s=>K (fpOf (eval E st.tm) o.op δ::fs) s
def wpLoop (W:St→(Ex→St→Prop)→Prop):Nat→St→(Ex→St→Prop)→Prop
 | 0,_,_=>False
 | n+1,st,Q=>W st fun e s=>match e with
  | .nrm=>wpLoop W n s Q
  | e=>Q e s
def wpC (E:Env) (Yf:YF):C→St→(Ex→St→Prop)→Prop
 | .skip,st,Q=>Q .nrm st
 | .region ops,st,Q=>wpOps' E Yf ops st st.nx fun s=>Q .nrm s
 | .draw ops free,st,Q=>wpDraw E ops st st.nx fun fs s=>drawOk free fs=true∧newOk fs=true∧Q .nrm s
 | .pin o fs,st,Q=>wpStep E Yf o st st.nx fun s ub=>wpDraw E fs s ub fun _ s'=>sameF fs st s'=true∧Q .nrm s'
 | .seq a b,st,Q=>wpC E Yf a st fun e s=>match e with
  | .nrm=>wpC E Yf b s Q
  | e=>Q e s
 | .cond c a b,st,Q=>∃ t,eval E st.tm c = .bool t∧(t=true→wpC E Yf a st Q)∧(t=false→wpC E Yf b st Q)
 | .block id a,st,Q=>wpC E Yf a st fun e s=>match e with
  | .exit i=>if i=id then Q .nrm s else Q (.exit i) s
  | e=>Q e s
 | .loop a,st,Q=>∃ N,wpLoop (wpC E Yf a) N st Q
 | .exit id,st,Q=>Q (.exit id) st
 | .ret,st,Q=>Q .ret st
 | .rangeFunc f ps asg bd,st,Q=>WY E Yf (.rangeFunc f ps asg bd) st Q
 | .stuck,_,_=>False
theorem callers_d (E:Env) (n:Nat) (y:Y):(callers E n y).d=(callers E n noY).d:=by cases n <;> rfl
theorem callers_o (E:Env) (n:Nat) (y:Y):(callers E n y).o=(callers E n noY).o:=by cases n <;> rfl
theorem callers_y (E:Env) (n:Nat) (y:Y):(callers E n y).y=y:=by cases n <;> rfl
section
variable {E:Env} {Yf:YF}
theorem mem_append_all {α:Type} {p:α→Prop} {l m:List α} (h1:∀ x∈l,p x) (h2:∀ x∈m,p x):∀ x∈l++m,p x:=fun x hx=>(List.mem_append.1 hx).elim (h1 x) (h2 x)
theorem bindLs_of {α β:Type} {f:Nat→α→Option (List β)} (hmono:∀ n m,n≤m→∀ a,le (f n a) (f m a)) {Q:β→Prop}:∀ (l:List α),l≠[]→(∀ a∈l,∃ n r,f n a=some r∧r≠[]∧∀ x∈r,Q x) →
 ∃ n r,(∀ m,n≤m→bindLs (f m) l=some r)∧r≠[]∧∀ x∈r,Q x
 | [],h,_=>absurd rfl h
 | [x],_,h=>by
  obtain ⟨n,r,h1,h2,h3⟩:=h x (List.mem_singleton.2 rfl)
  exact ⟨n,r,fun m hm=>hmono n m hm x r h1,h2,h3⟩
 | x::y::l,_,h=>by
  obtain ⟨n,r,h1,h2,h3⟩:=h x (List.mem_cons_self ..)
  obtain ⟨n',r',h1',h2',h3'⟩:=bindLs_of hmono (y::l) (by simp) (fun a ha=>h a (List.mem_cons_of_mem _ ha))
  refine ⟨max n n',r++r',fun m hm=>?_,by simp [h2],mem_append_all h3 h3'⟩
  simp only [bindLs]
  rw [hmono n m (by omega) x r h1,h1' m (by omega)]
  rfl
abbrev cs (E:Env) (n:Nat):Y→Callers:=callers E n
theorem cs_mono (n m:Nat) (h:n≤m):FLe (cs E n) (cs E m):=callers_mono n m h
theorem step_of {o:AOpr} {st:St} {ub:Nat} {K:St→Nat→Prop} (h:wpStep E Yf o st ub K):∃ n l,step E (cs E n (Yf.y n)) o st ub=some l∧l≠[]∧∀ x∈l,K x.1 x.2:=by
 have one:∀ {s:St} {u:Nat},K s u→∀ x∈[(s,u)],K x.1 x.2:=fun h x hx=>by rw [List.mem_singleton] at hx;subst hx;exact h
 unfold wpStep at h
 unfold step
 cases hw:wanted o st.tm with
 | none=>simp only [hw] at h
 | some b =>
  cases b with
  | false =>
   simp only [hw] at h
   exact ⟨0,_,rfl,List.cons_ne_nil _ _,one h⟩
  | true =>
   simp only [hw] at h
   cases hy:yieldCall (eval E st.tm) o.op with
   | some x =>
    obtain ⟨l,u,xs⟩:=x
    simp only [hy] at h
    obtain ⟨r,⟨n,hr⟩,hK⟩:=h
    exact ⟨n,[({ st with tm:=put st.tm o.dst r.1,ob:=r.2.1,tk:=r.2.2.1 },r.2.2.2)],by simp only [cs,callers_y,hr,Option.map_some],List.cons_ne_nil _ _,one hK⟩
   | none =>
   simp only [hy] at h ⊢
   cases hsh:sharedCall E o.nm (eval E st.tm) o.op with
   | some fx =>
    obtain ⟨f,xs⟩:=fx
    simp only [hsh] at h
    rcases h with ⟨h1,n,l,hr,hne,hK⟩ | ⟨h1,v,⟨n,hv⟩,δ,hδ,hK⟩
    ·refine ⟨n,l.map fun x=>({ st with tm:=put st.tm o.dst x.1,ob:=x.2.1,tk:=x.2.2.1 },x.2.2.2),?_,by simpa using hne,fun x hx=>?_⟩
     ·simp only [h1,if_true,cs,hr,Option.map_some]
     ·obtain ⟨r,hr2,rfl⟩:=List.mem_map.1 hx
      exact hK r hr2
    ·refine ⟨n,[(st.app o.dst δ,ub+64)],?_,List.cons_ne_nil _ _,one hK⟩
     simp only [h1,Bool.false_eq_true,if_false,cs,callers_o,hv,Option.bind_some,hδ,Option.map_some]
   | none =>
    simp only [hsh] at h
    have call:∀ {f:FuncId} {xs:List V},wpCall E f xs st o.dst ub K→∃ n δ,callA (cs E n (Yf.y n)).d ub f xs=some δ∧K (st.app o.dst δ) (ub+64):=by
     rintro f xs ⟨hp,v,⟨n,hv⟩,δ,hδ,hK⟩
     exact ⟨n,δ,by simp only [callA,hp,if_true,cs,callers_d,hv,Option.bind_some,hδ],hK⟩
    split at h
    ·rename_i f xs ho
     obtain ⟨n,δ,hc,hK⟩:=call h
     refine ⟨n,[(st.app o.dst δ,ub+64)],?_,List.cons_ne_nil _ _,one hK⟩
     simp only [ho,AOp.next?,aop,hc,Option.map_some]
    ·rename_i q xs ho
     obtain ⟨f,first,captured,hev,h⟩:=h
     obtain ⟨n,δ,hc,hK⟩:=call h
     refine ⟨n,[(st.app o.dst δ,ub+64)],?_,List.cons_ne_nil _ _,one hK⟩
     simp only [ho,AOp.next?,aop,hev,hc,Option.map_some]
    ·rename_i x ho
     obtain ⟨l,hl,hK⟩:=h
     refine ⟨0,l.map fun δ=>(st.app o.dst δ,ub+64),?_,?_,fun y hy=>?_⟩
     ·simp only [ho,AOp.next?,hl,Option.map_some]
     ·intro e
      have hl0:l=[]:=List.map_eq_nil_iff.1 e
      subst hl0
      unfold nextL at hl
      split at hl
      ·split at hl
       ·split at hl
        ·split at hl
         ·cases hl
         ·rename_i es hne
          simp only [Option.some.injEq] at hl
          unfold picks at hl
          split at hl
          ·exact hne rfl
          ·cases hl
        ·cases hl
       ·split at hl
        ·cases hl
        ·cases hl
       ·cases hl
      ·cases hl
     ·obtain ⟨δ,hδ,rfl⟩:=List.mem_map.1 hy
      exact hK δ hδ
    ·rename_i op h1 h2 h3
     obtain ⟨δ,hδ,hK⟩:=h
     refine ⟨0,[(st.app o.dst δ,ub+64)],?_,List.cons_ne_nil _ _,one hK⟩
     have hn:o.op.next? = none:=by
      cases ho:o.op with
      | nextMap x=>exact absurd ho (h3 x)
      | _=>rfl
     have hδ':aop (cs E 0 (Yf.y 0)).d (eval E st.tm) st.ob st.tk st.ro (o.name st.fb ub) ub o.op=some δ:=aop_mono (fun _ _ _ h=>by cases h) _ _ _ _ _ _ _ _ hδ
     simp only [hn,hδ',Option.map_some]
theorem ops_of:∀ {ops:List AOpr} {st:St} {ub:Nat} {K:St→Prop},wpOps' E Yf ops st ub K→∃ n l,opsR E (cs E n (Yf.y n)) ops st ub=some l∧l≠[]∧∀ x∈l,K x
 | [],st,ub,K,h=>⟨0,_,rfl,List.cons_ne_nil _ _,fun x hx=>by rw [List.mem_singleton] at hx;subst hx;exact h⟩
 | o::r,st,ub,K,h=>by
  obtain ⟨n,l,h1,h2,h3⟩:=step_of h
  obtain ⟨n',l',h1',h2',h3'⟩:=bindLs_of (f:=fun n (x:St × Nat)=>opsR E (cs E n (Yf.y n)) r x.1 x.2) (fun n m hm x=>opsR_mono (cs_mono n m hm _ _ (Yf.mono hm)) r x.1 x.2) l h2 (fun x hx=>ops_of (h3 x hx))
  refine ⟨max n n',l',?_,h2',h3'⟩
  simp only [opsR,bindL]
  rw [step_mono (cs_mono n (max n n') (by omega) _ _ (Yf.mono (by omega))) o st ub l h1]
  exact h1' _ (by omega)
theorem draw_of:∀ {ops:List AOpr} {st:St} {ub:Nat} {K:List FP→St→Prop},wpDraw E ops st ub K→∃ n p,drawR E (cs E n (Yf.y n)) ops st ub=some p∧K p.1 p.2
 | [],st,ub,K,h=>⟨0,_,rfl,h⟩
 | o::r,st,ub,K,h=>by
  unfold wpDraw at h
  unfold drawR
  cases hw:wanted o st.tm with
  | none=>simp only [hw] at h
  | some b =>
   cases b with
   | false =>
    simp only [hw] at h
    obtain ⟨n,p,h1,h2⟩:=draw_of h
    exact ⟨n,({}::p.1,p.2),by simp only [h1,Option.map_some],h2⟩
   | true =>
    simp only [hw] at h
    simp only
    cases hsh:sharedCall E o.nm (eval E st.tm) o.op with
    | some fx =>
     obtain ⟨f,xs⟩:=fx
     simp only [hsh] at h
     rcases h with h | ⟨h0,htw,a',v,ha',⟨n,hv⟩,δ,hδ,h⟩
     case inr =>
      obtain ⟨n',p,h1,h2⟩:=draw_of h
      refine ⟨max n n',({ wo:=δ.wo,all:=true,seen:=fun l=>(st.ob l).isSome,nw:=true }::p.1,p.2),?_,h2⟩
      have hv':(cs E n (Yf.y n)).d f a'=some v:=by rw [cs,callers_d];exact hv
      simp only [h0,htw,if_true,ha',Option.bind_some]
      rw [(cs_mono n (max n n') (by omega) _ _ (Yf.mono (by omega))).d _ _ _ hv']
      simp only [Option.bind_some,hδ]
      rw [drawR_mono (cs_mono n' (max n n') (by omega) _ _ (Yf.mono (by omega))) _ _ _ _ h1]
      rfl
     obtain ⟨h0,v,⟨n,hv⟩,δ,hδ,h⟩:=h
     obtain ⟨n',p,h1,h2⟩:=draw_of h
     refine ⟨max n n',({ wt:=δ.wt,all:=true,seen:=fun l=>(st.ob l).isSome }::p.1,p.2),?_,h2⟩
     simp only [h0,Bool.false_eq_true,if_false]
     have hv':(cs E n (Yf.y n)).o f xs st.ob st.tk ((st.fb+o.dst.getD 0+1) * 1024) (ub+64 * (r.length+1))=some v:=by rw [cs,callers_o];exact hv
     rw [(cs_mono n (max n n') (by omega) _ _ (Yf.mono (by omega))).o _ _ _ _ _ _ _ hv']
     simp only [Option.bind_some,hδ]
     rw [drawR_mono (cs_mono n' (max n n') (by omega) _ _ (Yf.mono (by omega))) _ _ _ _ h1]
     rfl
    | none =>
     simp only [hsh] at h
     obtain ⟨hfar,h⟩:=h
     simp only [hfar,Bool.false_eq_true,if_false]
     have fin:∀ {n:Nat} {δ:Delta},aop (cs E n (Yf.y n)).d (eval E st.tm) st.ob st.tk st.ro (o.name st.fb ub) ub o.op=some δ→wpDraw E r (st.app o.dst δ) (ub+64) (fun fs s=>K (fpOf (eval E st.tm) o.op δ::fs) s) →
      ∃ n p,((aop (cs E n (Yf.y n)).d (eval E st.tm) st.ob st.tk st.ro (o.name st.fb ub) ub o.op).bind fun δ=>(drawR E (cs E n (Yf.y n)) r (st.app o.dst δ) (ub+64)).map fun x=>(fpOf (eval E st.tm) o.op δ::x.1,x.2))=some p∧K p.1 p.2:=by
      intro n δ hδ h
      obtain ⟨n',p,h1,h2⟩:=draw_of h
      refine ⟨max n n',(fpOf (eval E st.tm) o.op δ::p.1,p.2),?_,h2⟩
      rw [aop_mono (cs_mono n (max n n') (by omega) _ _ (Yf.mono (by omega))).d _ _ _ _ _ _ _ _ hδ,Option.bind_some,drawR_mono (cs_mono n' (max n n') (by omega) _ _ (Yf.mono (by omega))) _ _ _ _ h1]
      rfl
     split at h
     ·rename_i f xs ho
      obtain ⟨hp,v,⟨n,hv⟩,δ,hδ,h⟩:=h
      refine fin (n:=n) (δ:=δ) ?_ h
      have hp':(xs.map fun x=>(eval E st.tm x).strip).all V.pureTop=true:=by rw [List.all_map];exact hp
      simp only [ho,aop,callA,hp',if_true,cs,callers_d,hv,Option.bind_some,hδ]
     ·rename_i q xs ho
      obtain ⟨f,first,captured,hev,hp,v,⟨n,hv⟩,δ,hδ,h⟩:=h
      refine fin (n:=n) (δ:=δ) ?_ h
      simp only [ho,aop,hev,callA,hp,if_true,cs,callers_d,hv,Option.bind_some,hδ]
     ·obtain ⟨δ,hδ,h⟩:=h
      exact fin (n:=0) (aop_mono (fun _ _ _ h=>by cases h) _ _ _ _ _ _ _ _ hδ) h
theorem wp_of:∀ {c:C} {st:St} {Q:Ex→St→Prop},wpC E Yf c st Q→WY E Yf c st Q:=by
 intro c
 induction c with
 | skip=>intro st Q h;exact ⟨0,_,rfl,by simp,fun x hx=>by rw [List.mem_singleton] at hx;subst hx;exact h⟩
 | ret=>intro st Q h;exact ⟨0,_,rfl,by simp,fun x hx=>by rw [List.mem_singleton] at hx;subst hx;exact h⟩
 | exit id=>intro st Q h;exact ⟨0,_,rfl,by simp,fun x hx=>by rw [List.mem_singleton] at hx;subst hx;exact h⟩
 | stuck=>intro st Q h;exact h.elim
 | rangeFunc f ps a b=>intro st Q h;exact h
 | region ops =>
  intro st Q h
  obtain ⟨n,l,h1,h2,h3⟩:=ops_of h
  refine ⟨n,l.map fun s=>(.nrm,s),by simp only [codeL];rw [h1];rfl,by simpa using h2,fun x hx=>?_⟩
  obtain ⟨s,hs,rfl⟩:=List.mem_map.1 hx
  exact h3 s hs
 | pin o fs =>
  intro st Q h
  obtain ⟨n,l,h1,h2,h3⟩:=step_of h
  obtain ⟨n',l',h1',h2',h3'⟩:=bindLs_of (f:=fun n (x:St × Nat)=>(drawR E (cs E n (Yf.y n)) fs x.1 x.2).bind fun p=>if sameF fs st p.2 then some [(Ex.nrm,p.2)] else none) (Q:=fun x=>Q x.1 x.2) (fun n m hm x=>(drawR_mono (cs_mono n m hm _ _ (Yf.mono hm)) fs x.1 x.2).bind fun _=>le.rfl' _) l h2 (fun x hx=>by
   obtain ⟨k,p,hp,hs,hQ⟩:=draw_of (h3 x hx)
   exact ⟨k,[(.nrm,p.2)],by rw [hp,Option.bind_some,if_pos hs],List.cons_ne_nil _ _,fun y hy=>by rw [List.mem_singleton] at hy;subst hy;exact hQ⟩)
  refine ⟨max n n',l',?_,h2',h3'⟩
  simp only [codeL,bindL]
  rw [step_mono (cs_mono n (max n n') (by omega) _ _ (Yf.mono (by omega))) o st st.nx l h1]
  exact h1' _ (by omega)
 | draw ops free =>
  intro st Q h
  obtain ⟨n,p,h1,h2,h2',h3⟩:=draw_of h
  refine ⟨n,[(.nrm,p.2)],?_,by simp,fun x hx=>by rw [List.mem_singleton] at hx;subst hx;exact h3⟩
  simp only [codeL]
  rw [h1]
  simp only [Option.bind_some,h2,h2',Bool.and_self,if_true]
 | seq a b iha ihb =>
  intro st Q h
  obtain ⟨n,l,h1,h2,h3⟩:=iha h
  obtain ⟨n',l',h1',h2',h3'⟩:=bindLs_of (f:=fun n (x:Ex × St)=>match x with
   | (.nrm,st')=>codeL E (cs E n) (Yf.y n) n b st'
   | (e,st')=>some [(e,st')]) (Q:=fun x=>Q x.1 x.2) (fun n m hm x=>by
    obtain ⟨e,s⟩:=x
    cases e
    ·exact codeL_mono (cs_mono n m hm) hm b _ _ (Yf.mono hm) s
    ·exact le.rfl' _
    ·exact le.rfl' _) l h2 (fun x hx=>by
    obtain ⟨e,s⟩:=x
    have:=h3 _ hx
    cases e with
    | nrm=>exact ihb this
    | exit i=>exact ⟨0,_,rfl,by simp,fun x hx=>by rw [List.mem_singleton] at hx;subst hx;exact this⟩
    | ret=>exact ⟨0,_,rfl,by simp,fun x hx=>by rw [List.mem_singleton] at hx;subst hx;exact this⟩)
  refine ⟨max n n',l',?_,h2',h3'⟩
  simp only [codeL,bindL]
  rw [codeL_mono (cs_mono n (max n n') (by omega)) (by omega) a _ _ (Yf.mono (by omega)) st l h1]
  exact h1' _ (by omega)
 | cond q a b iha ihb =>
  intro st Q h
  obtain ⟨t,ht,h1,h2⟩:=h
  cases t with
  | true =>
   obtain ⟨n,l,k1,k2,k3⟩:=iha (h1 rfl)
   exact ⟨n,l,by simp only [codeL,ht];exact k1,k2,k3⟩
  | false =>
   obtain ⟨n,l,k1,k2,k3⟩:=ihb (h2 rfl)
   exact ⟨n,l,by simp only [codeL,ht];exact k1,k2,k3⟩
 | block id a ih =>
  intro st Q h
  obtain ⟨n,l,h1,h2,h3⟩:=ih h
  refine ⟨n,_,by simp only [codeL];rw [h1];rfl,by simpa using h2,fun x hx=>?_⟩
  obtain ⟨p,hp,rfl⟩:=List.mem_map.1 hx
  have:=h3 p hp
  obtain ⟨e,s⟩:=p
  cases e with
  | nrm=>exact this
  | ret=>exact this
  | exit i =>
   simp only at this ⊢
   split at this
   ·rename_i hi;simp only [hi,if_true];exact this
   ·rename_i hi;simp only [hi,if_false];exact this
 | loop a ih =>
  intro st Q h
  obtain ⟨N,h⟩:=h
  have key:∀ (N:Nat) (st:St),wpLoop (wpC E Yf a) N st Q→∃ n l,(∀ m k,n≤m→n≤k→loopL (codeL E (cs E m) (Yf.y m) m a) k st=some l)∧l≠[]∧∀ x∈l,Q x.1 x.2:=by
   intro N
   induction N with
   | zero=>intro st h;exact h.elim
   | succ N ihN =>
    intro st h
    obtain ⟨n,l,h1,h2,h3⟩:=ih h
    obtain ⟨n',l',h1',h2',h3'⟩:=bindLs_of (f:=fun n (x:Ex × St)=>match x with
     | (.nrm,st')=>loopL (codeL E (cs E n) (Yf.y n) n a) n st'
     | (e,st')=>some [(e,st')]) (Q:=fun x=>Q x.1 x.2) (fun n m hm x=>by
      obtain ⟨e,s⟩:=x
      cases e
      ·exact loopL_mono (fun s=>codeL_mono (cs_mono n m hm) hm a _ _ (Yf.mono hm) s) n m hm s
      ·exact le.rfl' _
      ·exact le.rfl' _) l h2 (fun x hx=>by
      obtain ⟨e,s⟩:=x
      have:=h3 _ hx
      cases e with
      | nrm =>
       obtain ⟨k,r,q1,q2,q3⟩:=ihN s this
       exact ⟨k,r,q1 k k (Nat.le_refl _) (Nat.le_refl _),q2,q3⟩
      | exit i=>exact ⟨0,_,rfl,by simp,fun x hx=>by rw [List.mem_singleton] at hx;subst hx;exact this⟩
      | ret=>exact ⟨0,_,rfl,by simp,fun x hx=>by rw [List.mem_singleton] at hx;subst hx;exact this⟩)
    refine ⟨max n n'+1,l',fun m k hm hk=>?_,h2',h3'⟩
    obtain ⟨k,rfl⟩:∃ k',k=k'+1:=⟨k - 1,by omega⟩
    simp only [loopL,bindL]
    rw [codeL_mono (cs_mono n m (by omega)) (by omega) a _ _ (Yf.mono (by omega)) st l h1]
    have e1:=h1' (max n n') (by omega)
    refine bindLs_mono (fun x=>?_) l l' e1
    obtain ⟨e,s⟩:=x
    cases e
    ·exact loopL_mono (fun s=>codeL_mono (cs_mono _ m (by omega)) (by omega) a _ _ (Yf.mono (by omega)) s) _ k (by omega) s
    ·exact le.rfl' _
    ·exact le.rfl' _
  obtain ⟨n,l,h1,h2,h3⟩:=key N st h
  exact ⟨n,l,h1 n n (Nat.le_refl _) (Nat.le_refl _),h2,h3⟩
theorem Ev_wp {f:FuncId} {af:AF} {args:List V} {r:V} (hf:E.fc f=some af) (h:wpC E noYF af.body (start args) fun e s=>endV af.res (e,s)=some r):Ev E f args r:=Ev_of hf (wp_of h)
theorem wpStep_mono {o:AOpr} {st:St} {ub:Nat} {K K':St→Nat→Prop} (h:∀ s u,K s u→K' s u) (hk:wpStep E Yf o st ub K):wpStep E Yf o st ub K':=by
 have call:∀ {f:FuncId} {xs:List V},wpCall E f xs st o.dst ub K→wpCall E f xs st o.dst ub K':=by
  rintro f xs ⟨hp,v,hv,δ,hδ,hK⟩
  exact ⟨hp,v,hv,δ,hδ,h _ _ hK⟩
 unfold wpStep at hk ⊢
 cases hw:wanted o st.tm with
 | none=>simp only [hw] at hk
 | some b =>
  cases b with
  | false=>simp only [hw] at hk ⊢;exact h _ _ hk
  | true =>
   simp only [hw] at hk ⊢
   cases hy:yieldCall (eval E st.tm) o.op with
   | some x =>
    obtain ⟨l,u,xs⟩:=x
    simp only [hy] at hk ⊢
    obtain ⟨r,hr,hK⟩:=hk
    exact ⟨r,hr,h _ _ hK⟩
   | none =>
   simp only [hy] at hk ⊢
   cases hsh:sharedCall E o.nm (eval E st.tm) o.op with
   | some fx =>
    simp only [hsh] at hk ⊢
    rcases hk with ⟨h1,n,l,hr,hne,hK⟩ | ⟨h1,v,hv,δ,hδ,hK⟩
    ·exact .inl ⟨h1,n,l,hr,hne,fun r hm=>h _ _ (hK r hm)⟩
    ·exact .inr ⟨h1,v,hv,δ,hδ,h _ _ hK⟩
   | none =>
    simp only [hsh] at hk ⊢
    cases ho:o.op <;> simp only [ho] at hk ⊢
    case call f xs=>exact call hk
    case callV q xs =>
     obtain ⟨f,first,captured,hev,hk⟩:=hk
     exact ⟨f,first,captured,hev,call hk⟩
    case nextMap x =>
     obtain ⟨l,hl,hK⟩:=hk
     exact ⟨l,hl,fun δ hδ=>h _ _ (hK δ hδ)⟩
    all_goals
     obtain ⟨δ,hδ,hK⟩:=hk
     exact ⟨δ,hδ,h _ _ hK⟩
theorem wpOps_mono:∀ {ops:List AOpr} {st:St} {ub:Nat} {K K':St→Prop},(∀ s,K s→K' s)→wpOps' E Yf ops st ub K→wpOps' E Yf ops st ub K'
 | [],_,_,_,_,h,hk=>h _ hk
 | _::_,_,_,_,_,h,hk=>wpStep_mono (fun _ _=>wpOps_mono h) hk
theorem wpDraw_mono:∀ {ops:List AOpr} {st:St} {ub:Nat} {K K':List FP→St→Prop},(∀ f s,K f s→K' f s)→wpDraw E ops st ub K→wpDraw E ops st ub K'
 | [],_,_,_,_,h,hk=>h _ _ hk
 | o::r,st,ub,K,K',h,hk=>by
  unfold wpDraw at hk ⊢
  cases hw:wanted o st.tm with
  | none=>simp only [hw] at hk
  | some b =>
   cases b with
   | false=>simp only [hw] at hk ⊢;exact wpDraw_mono (fun _ _=>h _ _) hk
   | true =>
    simp only [hw] at hk ⊢
    cases hsh:sharedCall E o.nm (eval E st.tm) o.op with
    | some fx =>
     simp only [hsh] at hk ⊢
     rcases hk with ⟨h1,v,hv,δ,hδ,hK⟩ | ⟨h1,h2,a',v,ha,hv,δ,hδ,hK⟩
     ·exact .inl ⟨h1,v,hv,δ,hδ,wpDraw_mono (fun _ _=>h _ _) hK⟩
     ·exact .inr ⟨h1,h2,a',v,ha,hv,δ,hδ,wpDraw_mono (fun _ _=>h _ _) hK⟩
    | none =>
     simp only [hsh] at hk ⊢
     refine ⟨hk.1,?_⟩
     have hk:=hk.2
     cases ho:o.op <;> simp only [ho] at hk ⊢
     case call f xs =>
      obtain ⟨h1,v,hv,δ,hδ,hK⟩:=hk
      exact ⟨h1,v,hv,δ,hδ,wpDraw_mono (fun _ _=>h _ _) hK⟩
     case callV q xs =>
      obtain ⟨f,first,captured,hev,h1,v,hv,δ,hδ,hK⟩:=hk
      exact ⟨f,first,captured,hev,h1,v,hv,δ,hδ,wpDraw_mono (fun _ _=>h _ _) hK⟩
     all_goals
      obtain ⟨δ,hδ,hK⟩:=hk
      exact ⟨δ,hδ,wpDraw_mono (fun _ _=>h _ _) hK⟩
theorem wpLoop_mono {W:St→(Ex→St→Prop)→Prop} (hW:∀ (st:St) (Q Q':Ex→St→Prop),(∀ e s,Q e s→Q' e s)→W st Q→W st Q'):∀ {n:Nat} {st:St} {Q Q':Ex→St→Prop},(∀ e s,Q e s→Q' e s)→wpLoop W n st Q→wpLoop W n st Q'
 | 0,_,_,_,_,h=>h
 | n+1,st,Q,Q',h,hk=>hW st _ _ (fun e s he=>by
  cases e
  ·exact wpLoop_mono (W:=W) hW h he
  ·exact h _ _ he
  ·exact h _ _ he) hk
theorem wpC_mono:∀ {c:C} {st:St} {Q Q':Ex→St→Prop},(∀ e s,Q e s→Q' e s)→wpC E Yf c st Q→wpC E Yf c st Q':=by
 intro c
 induction c with
 | skip=>intro st Q Q' h hk;exact h _ _ hk
 | ret=>intro st Q Q' h hk;exact h _ _ hk
 | exit id=>intro st Q Q' h hk;exact h _ _ hk
 | stuck=>intro st Q Q' h hk;exact hk
 | rangeFunc f ps a b=>intro st Q Q' h hk;obtain ⟨n,l,h1,h2,h3⟩:=hk;exact ⟨n,l,h1,h2,fun x hx=>h _ _ (h3 x hx)⟩
 | region ops=>intro st Q Q' h hk;exact wpOps_mono (fun s=>h _ s) hk
 | draw ops free=>intro st Q Q' h hk;exact wpDraw_mono (fun f s hs=>⟨hs.1,hs.2.1,h _ _ hs.2.2⟩) hk
 | pin o fs=>intro st Q Q' h hk;exact wpStep_mono (fun s u hs=>wpDraw_mono (fun f s hs=>⟨hs.1,h _ _ hs.2⟩) hs) hk
 | seq a b iha ihb =>
  intro st Q Q' h hk
  refine iha (fun e s he=>?_) hk
  cases e
  ·exact ihb h he
  ·exact h _ _ he
  ·exact h _ _ he
 | cond q a b iha ihb =>
  intro st Q Q' h hk
  obtain ⟨t,ht,h1,h2⟩:=hk
  exact ⟨t,ht,fun e=>iha h (h1 e),fun e=>ihb h (h2 e)⟩
 | block id a ih =>
  intro st Q Q' h hk
  refine ih (fun e s he=>?_) hk
  cases e
  ·exact h _ _ he
  ·simp only at he ⊢
   split at he
   ·rename_i hi;simp only [hi,if_true];exact h _ _ he
   ·rename_i hi;simp only [hi,if_false];exact h _ _ he
  ·exact h _ _ he
 | loop a ih =>
  intro st Q Q' h hk
  obtain ⟨N,hk⟩:=hk
  exact ⟨N,wpLoop_mono (W:=wpC E Yf a) (fun _ _ _ h hk=>ih h hk) h hk⟩
theorem wp_loop {a:C} {Q:Ex→St→Prop} (I:Nat→St→Prop) {n:Nat} {st:St} (h0:I n st)
 (hs:∀ k s,I k s→wpC E Yf a s fun e s'=>match e with | .nrm=>∃ j,j<k∧I j s' | e=>Q e s'):wpC E Yf (.loop a) st Q:=by
 refine ⟨n+1,?_⟩
 have key:∀ n st j,j≤n→I j st→wpLoop (wpC E Yf a) (n+1) st Q:=by
  intro n
  induction n with
  | zero =>
   intro st j hj hI
   refine wpC_mono (fun e s he=>?_) (hs j st hI)
   cases e
   ·obtain ⟨i,hi,_⟩:=he;omega
   ·exact he
   ·exact he
  | succ n ih =>
   intro st j hj hI
   refine wpC_mono (fun e s he=>?_) (hs j st hI)
   cases e
   ·obtain ⟨i,hi,hI'⟩:=he
    exact ih s i (by omega) hI'
   ·exact he
   ·exact he
 exact key n st n (Nat.le_refl _) h0
end
def wpGuard:V→Bool→Prop→Prop→Prop
 | .bool c,b,p,q=>(c=b→p)∧(c = !b→q)
 | .tup [],_,_,q=>q
 | _,_,_,_=>False
def wpIf:V→Prop→Prop→Prop
 | .bool c,p,q=>(c=true→p)∧(c=false→q)
 | _,_,_=>False
def wpV (o:Option V) (k:V→Prop):Prop:=∃ v,o=some v∧k v
def wpD (o:Option Delta) (k:Delta→Prop):Prop:=∃ v,o=some v∧k v
theorem wpV_some (v:V) (k:V→Prop):wpV (some v) k=k v:=by simp [wpV]
theorem wpV_none (k:V→Prop):wpV none k=False:=by simp [wpV]
theorem wpV_ite (c:Prop) [Decidable c] (o:Option V) (k:V→Prop):wpV (if c then o else none) k=(c∧wpV o k):=by by_cases h:c <;> simp [h,wpV]
theorem wpV_ite' (c:Prop) [Decidable c] (o:Option V) (k:V→Prop):wpV (if c then none else o) k=(¬ c∧wpV o k):=by by_cases h:c <;> simp [h,wpV]
theorem wpD_some (v:Delta) (k:Delta→Prop):wpD (some v) k=k v:=by simp [wpD]
theorem wpD_none (k:Delta→Prop):wpD none k=False:=by simp [wpD]
theorem wpD_ite (c:Prop) [Decidable c] (o:Option Delta) (k:Delta→Prop):wpD (if c then o else none) k=(c∧wpD o k):=by by_cases h:c <;> simp [h,wpD]
theorem wpD_ite' (c:Prop) [Decidable c] (o:Option Delta) (k:Delta→Prop):wpD (if c then none else o) k=(¬ c∧wpD o k):=by by_cases h:c <;> simp [h,wpD]
def St.setT (st:St) (d:Option Nat) (v:V):St:={ st with tm:=put st.tm d v }
theorem app_v (st:St) (d:Option Nat) (v:V):st.app d { v:=v } = st.setT d v:=by simp [St.app,setObs,setToks,St.setT]
theorem setT_tm (st:St) (d n:Nat) (v:V):(st.setT (some d) v).tm n=if n=d then v else st.tm n:=by simp [St.setT,put,upd_apply]
theorem setT_tm0 (st:St) (n:Nat) (v:V):(st.setT none v).tm n=st.tm n:=rfl
theorem setT_ob (st:St) (d:Option Nat) (v:V):(st.setT d v).ob=st.ob:=rfl
theorem setT_tk (st:St) (d:Option Nat) (v:V):(st.setT d v).tk=st.tk:=rfl
theorem setT_ro (st:St) (d:Option Nat) (v:V):(st.setT d v).ro=st.ro:=rfl
theorem setT_nx (st:St) (d:Option Nat) (v:V):(st.setT d v).nx=st.nx:=rfl
theorem setT_fb (st:St) (d:Option Nat) (v:V):(st.setT d v).fb=st.fb:=rfl
theorem setT_df (st:St) (d:Option Nat) (v:V):(st.setT d v).df=st.df:=rfl
def St.setN (st:St) (n:Nat):St:={ st with nx:=n }
theorem setN_tm (st:St) (n:Nat):(st.setN n).tm=st.tm:=rfl
theorem setN_ob (st:St) (n:Nat):(st.setN n).ob=st.ob:=rfl
theorem setN_tk (st:St) (n:Nat):(st.setN n).tk=st.tk:=rfl
theorem setN_ro (st:St) (n:Nat):(st.setN n).ro=st.ro:=rfl
theorem setN_nx (st:St) (n:Nat):(st.setN n).nx=n:=rfl
theorem setN_fb (st:St) (n:Nat):(st.setN n).fb=st.fb:=rfl
theorem setN_df (st:St) (n:Nat):(st.setN n).df=st.df:=rfl
theorem app_tm (st:St) (d n:Nat) (δ:Delta):(st.app (some d) δ).tm n=if n=d then δ.v else st.tm n:=by simp [St.app,put,upd_apply]
theorem app_tm0 (st:St) (n:Nat) (δ:Delta):(st.app none δ).tm n=st.tm n:=rfl
theorem app_ro (st:St) (d:Option Nat) (δ:Delta):(st.app d δ).ro=st.ro:=rfl
theorem app_nx (st:St) (d:Option Nat) (δ:Delta):(st.app d δ).nx=st.nx:=rfl
theorem app_fb (st:St) (d:Option Nat) (δ:Delta):(st.app d δ).fb=st.fb:=rfl
theorem app_df (st:St) (d:Option Nat) (δ:Delta):(st.app d δ).df=st.df:=rfl
theorem app_ob (st:St) (d:Option Nat) (v:V) (del:Option Nat) (add:List Nat):(st.app d { v:=v,del:=del,add:=add }).ob=st.ob:=by simp [St.app,setObs]
theorem app_tk (st:St) (d:Option Nat) (δ:Delta) (u:Nat):(st.app d δ).tk u=if u∈δ.add then true else if u∈δ.del.toList then false else st.tk u:=by simp only [St.app,setToks_one]
theorem app_ob1 (st:St) (d:Option Nat) (v:V) (l k:Nat) (o:Obj') (add:List Nat):(st.app d { v:=v,obs:=[(l,o)],add:=add }).ob k=if k=l then some o else st.ob k:=by simp [St.app,setObs,upd_apply]
theorem start_tm (args:List V) (n:Nat):(start args).tm n=args.getD n none':=rfl
theorem start_ob (args:List V) (n:Nat):(start args).ob n=none:=rfl
theorem start_tk (args:List V) (n:Nat):(start args).tk n=false:=rfl
theorem start_ro (args:List V):(start args).ro=0:=rfl
theorem start_nx (args:List V):(start args).nx=0:=rfl
theorem start_fb (args:List V):(start args).fb=0:=rfl
theorem start_df (args:List V):(start args).df=[]:=rfl
theorem eval_t (E:Env) (tm:Nat→V) (n:Nat):eval E tm (.t n)=tm n:=rfl
theorem eval_c (E:Env) (tm:Nat→V) (v:V):eval E tm (.c v)=v:=rfl
def pickV:V→V→V→Option V
 | .bool t,a,b=>some (cond t a b)
 | _,_,_=>none
theorem pickV_bool (t:Bool) (a b:V):pickV (.bool t) a b=some (cond t a b):=rfl
def loadV (ob:Nat→Option Obj') (g:Option Nat):V→Option V
 | .eptr cs off=>pick1 g cs off
 | .ptr l u off=>(objCells ob l u).bind fun cs=>pick1 g cs off
 | _=>none
theorem loadV_e (ob:Nat→Option Obj') (g:Option Nat) (cs:List V) (off:Nat):loadV ob g (.eptr cs off)=pick1 g cs off:=rfl
theorem loadV_p (ob:Nat→Option Obj') (g:Option Nat) (l u off:Nat):loadV ob g (.ptr l u off)=(objCells ob l u).bind fun cs=>pick1 g cs off:=rfl
def nilCheckV:V→Option V
 | .ptr l u o=>some (.ptr l u o)
 | .eptr cs o=>some (.eptr cs o)
 | .fn (.func f) a b=>some (.fn (.func f) a b)
 | _=>none
def fieldAddrV (off:Nat):V→Option V
 | .ptr l u o=>some (.ptr l u (o+off))
 | .eptr cs o=>some (.eptr cs (o+off))
 | _=>none
def idxSlV (sz:Nat):V→V→Option V
 | .sl _ _ n cs,.int _ i=>if 0≤i∧i<n∧cs.length=n * sz then some (.eptr cs (i.toNat * sz)) else none
 | .osl l u off n sz',.int _ i=>if 0≤i∧i<n∧sz'=sz then some (.ptr l u (off+i.toNat * sz)) else none
 | _,_=>none
def idxArrV (len sz:Nat):V→V→Option V
 | .ptr l u off,.int _ i=>if 0≤i∧i<len then some (.ptr l u (off+i.toNat * sz)) else none
 | .eptr cs off,.int _ i=>if 0≤i∧i<len then some (.eptr cs (off+i.toNat * sz)) else none
 | _,_=>none
def partV (g:Option Nat) (off:Nat):V→Option V
 | .agg cs=>pick1 g cs off
 | _=>none
def idxStrV:V→V→Option V
 | .str s,.int _ i=>if 0≤i then (s[i.toNat]?).map fun b=>.int .u8 b.toNat else none
 | _,_=>none
def idxValV (g:Option Nat) (len sz:Nat):V→V→Option V
 | .agg cs,.int _ i=>if 0≤i∧i<len then pick1 g cs (i.toNat * sz) else none
 | _,_=>none
def slStrV (lo hi:Option V):V→Option V
 | .str s=>(bounds s.length s.length lo hi).map fun (l,h)=>.str ((s.take h).drop l)
 | _=>none
def slSlV (sz:Nat) (lo hi:Option V):V→Option V
 | .sl _ nl n cs=>if cs.length=n * sz then (bounds n n lo hi).map fun (l,h)=>.sl none nl (h - l) ((cs.take (h * sz)).drop (l * sz)) else none
 | .osl a u off n sz'=>if sz'=sz then (bounds n n lo hi).map fun (l,h)=>.osl a u (off+l * sz) (h - l) sz else none
 | _=>none
def lenStrV:V→Option V
 | .str s=>some (.int .i64 s.length)
 | _=>none
def lenSlV:V→Option V
 | .sl _ _ n _=>some (.int .i64 n)
 | .osl _ _ _ n _=>some (.int .i64 n)
 | _=>none
def lenMapV (ob:Nat→Option Obj'):V→Option V
 | .nilmap=>some (.int .i64 0)
 | .map l u=>(objMap ob l u).map fun es=>.int .i64 es.length
 | _=>none
def extractV (i:Nat):V→Option V
 | .tup vs=>vs[i]?
 | _=>none
def convV (k:IntKind):V→Option V
 | .int _ n=>some (.int k (k.wrap n))
 | _=>none
def minmaxV (isMax:Bool):List V→Option V
 | []=>none
 | x::r=>minmaxL isMax x r
def eqVV (ob:Nat→Option Obj') (neg:Bool) (k:EqK) (x y:V):Option V :=
 match k,x,y with
 | .ptr,.ptr l u off,.ptr l' u' off'=>if (objCells ob l u).isSome && (objCells ob l' u').isSome then some (.bool (xor neg (Nat.beq l l' && Nat.beq off off'))) else none
 | k,a,b=>(eqV k a b).map fun b=>.bool (xor neg b)
def lookupV (ob:Nat→Option Obj') (q:LK) (zero:V) (ok:Bool) (m k:V):Option V :=
 if isKey q k then match m with
  | .nilmap=>some (if ok then .tup [zero,.bool false] else zero)
  | .map l u=>(objMap ob l u).bind fun es=>(findKey q k es).map fun r=>match r with
   | some (_,v)=>if ok then .tup [v,.bool true] else v
   | none=>if ok then .tup [zero,.bool false] else zero
  | _=>none else none
section
variable {E:Env} {Yf:YF} {st:St} {ub:Nat} {K:St→Nat→Prop} {d:Option Nat} {nm:Bool}
theorem wpC_cond {c:A} {a b:C} {Q:Ex→St→Prop}:wpC E Yf (.cond c a b) st Q=wpIf (eval E st.tm c) (wpC E Yf a st Q) (wpC E Yf b st Q):=by
 simp only [wpC]
 cases h:eval E st.tm c <;> simp [wpIf]
theorem wpStep_guard {op:AOp} {t:Nat} {b:Bool}:wpStep E Yf ⟨d,op,some (t,b),nm⟩ st ub K=wpGuard (st.tm t) b (wpStep E Yf ⟨d,op,none,nm⟩ st ub K) (K (st.setT d none') ub):=by
 have hn:AOpr.name ⟨d,op,some (t,b),nm⟩=AOpr.name ⟨d,op,none,nm⟩:=rfl
 unfold wpStep
 simp only [wanted,hn]
 cases h:st.tm t with
 | bool c =>
  simp only [wpGuard]
  cases c <;> cases b <;> simp [St.setT]
 | tup l=>cases l <;> simp [wpGuard,St.setT]
 | _=>simp [wpGuard]
theorem wpStep_of (op:AOp) (h:op.isCall=false) (h2:op.isNext=false):wpStep E Yf ⟨d,op,none,nm⟩ st ub K=wpD (aop (fun _ _=>none) (eval E st.tm) st.ob st.tk st.ro (AOpr.name ⟨d,op,none,nm⟩ st.fb ub) ub op) fun δ=>K (st.app d δ) (ub+64):=by
 cases op <;> first | cases h;done | cases h2;done | simp only [wpStep,wanted,yieldCall,sharedCall,wpD]
theorem wpD_one (v:V) (k:Delta→Prop):wpD (one v) k=k { v:=v }:=by simp [one,wpD]
theorem wpD_bind (o:Option V) (k:Delta→Prop):wpD (o.bind one) k=wpV o fun v=>k { v:=v }:=by cases o <;> simp [wpD,wpV,one]
theorem wpS_mov {x:A}:wpStep E Yf ⟨d,.mov x,none,nm⟩ st ub K=K (st.setT d (eval E st.tm x)) (ub+64):=by rw [wpStep_of _ rfl rfl];simp only [aop,wpD_one,app_v]
theorem wpS_pick {c a b:A}:wpStep E Yf ⟨d,.pick c a b,none,nm⟩ st ub K=wpV (pickV (eval E st.tm c) (eval E st.tm a) (eval E st.tm b)) fun v=>K (st.setT d v) (ub+64):=by
 rw [wpStep_of _ rfl rfl];simp only [aop];cases eval E st.tm c <;> simp only [pickV,wpD_one,wpV_some,wpV_none,wpD_none,app_v]
theorem wpS_bin {op:BinOp} {x y:A}:wpStep E Yf ⟨d,.bin op x y,none,nm⟩ st ub K=wpV (binV op (eval E st.tm x) (eval E st.tm y)) fun v=>K (st.setT d v) (ub+64):=by
 rw [wpStep_of _ rfl rfl];simp only [aop,wpD_bind,app_v]
theorem wpS_un {op:UnOp} {x:A}:wpStep E Yf ⟨d,.un op x,none,nm⟩ st ub K=wpV (unV op (eval E st.tm x)) fun v=>K (st.setT d v) (ub+64):=by
 rw [wpStep_of _ rfl rfl];simp only [aop,wpD_bind,app_v]
theorem bind_map_one {α:Type} (o:Option α) (f:α→V):(o.bind fun x=>one (f x))=(o.map f).bind one:=by cases o <;> rfl
theorem ite_bind_one (c:Prop) [Decidable c] (v:Option V):(if c then v.bind one else none)=(if c then v else none).bind one:=by split <;> rfl
theorem ite_one (c:Prop) [Decidable c] (v:V):(if c then one v else none)=(if c then some v else none).bind one:=by split <;> rfl
theorem ite_bind_map {α:Type} (c:Prop) [Decidable c] (o:Option α) (f:α→V):(if c then o.bind fun x=>one (f x) else none)=(if c then o.map f else none).bind one:=by split;exact bind_map_one _ _;rfl
theorem wpS_val {op:AOp} {o:Option V} (h:op.isCall=false) (h2:op.isNext=false) (ha:∀ du,aop (fun _ _=>none) (eval E st.tm) st.ob st.tk st.ro du ub op=o.bind one):wpStep E Yf ⟨d,op,none,nm⟩ st ub K=wpV o fun v=>K (st.setT d v) (ub+64):=by
 rw [wpStep_of _ h h2,ha,wpD_bind]
 simp only [app_v]
theorem wpS_eq {neg:Bool} {k:EqK} {x y:A}:wpStep E Yf ⟨d,.eq neg k x y,none,nm⟩ st ub K=wpV (eqVV st.ob neg k (eval E st.tm x) (eval E st.tm y)) fun v=>K (st.setT d v) (ub+64):=by
 refine wpS_val rfl rfl fun du=>?_
 simp only [aop,eqVV]
 generalize eval E st.tm x=vx
 generalize eval E st.tm y=vy
 cases k <;> first | rfl | exact bind_map_one _ _ | (cases vx <;> first | rfl | exact bind_map_one _ _ | (cases vy <;> (first | rfl | exact ite_one _ _ | exact ite_bind_one _ _ | exact bind_map_one _ _ | exact (Option.bind_assoc ..).symm)))
theorem wpS_load {g:Option Nat} {x:A}:wpStep E Yf ⟨d,.load g x,none,nm⟩ st ub K=wpV (loadV st.ob g (eval E st.tm x)) fun v=>K (st.setT d v) (ub+64):=by
 refine wpS_val rfl rfl fun du=>?_
 simp only [aop,loadV]
 generalize eval E st.tm x=vx
 cases vx <;> (first | rfl | exact ite_one _ _ | exact ite_bind_one _ _ | exact bind_map_one _ _ | exact (Option.bind_assoc ..).symm)
theorem wpS_nilCheck {x:A}:wpStep E Yf ⟨d,.nilCheck x,none,nm⟩ st ub K=wpV (nilCheckV (eval E st.tm x)) fun v=>K (st.setT d v) (ub+64):=by
 refine wpS_val rfl rfl fun du=>?_
 simp only [aop,nilCheckV]
 generalize eval E st.tm x=vx
 cases vx <;> (first | rfl | exact ite_one _ _ | exact ite_bind_one _ _ | exact bind_map_one _ _ | exact (Option.bind_assoc ..).symm | (rename_i f _ _;cases f <;> rfl) | exact ite_bind_map _ _ _)
theorem wpS_fieldAddr {off:Nat} {x:A}:wpStep E Yf ⟨d,.fieldAddr off x,none,nm⟩ st ub K=wpV (fieldAddrV off (eval E st.tm x)) fun v=>K (st.setT d v) (ub+64):=by
 refine wpS_val rfl rfl fun du=>?_
 simp only [aop,fieldAddrV]
 generalize eval E st.tm x=vx
 cases vx <;> (first | rfl | exact ite_one _ _ | exact ite_bind_one _ _ | exact bind_map_one _ _ | exact (Option.bind_assoc ..).symm)
theorem wpS_idxSl {sz:Nat} {x i:A}:wpStep E Yf ⟨d,.idxSl sz x i,none,nm⟩ st ub K=wpV (idxSlV sz (eval E st.tm x) (eval E st.tm i)) fun v=>K (st.setT d v) (ub+64):=by
 refine wpS_val rfl rfl fun du=>?_
 simp only [aop,idxSlV]
 generalize eval E st.tm x=vx
 generalize eval E st.tm i=vi
 cases vx <;> first | rfl | (cases vi <;> (first | rfl | exact ite_one _ _ | exact ite_bind_one _ _ | exact bind_map_one _ _ | exact (Option.bind_assoc ..).symm))
theorem wpS_idxArr {len sz:Nat} {x i:A}:wpStep E Yf ⟨d,.idxArr len sz x i,none,nm⟩ st ub K=wpV (idxArrV len sz (eval E st.tm x) (eval E st.tm i)) fun v=>K (st.setT d v) (ub+64):=by
 refine wpS_val rfl rfl fun du=>?_
 simp only [aop,idxArrV]
 generalize eval E st.tm x=vx
 generalize eval E st.tm i=vi
 cases vx <;> first | rfl | (cases vi <;> (first | rfl | exact ite_one _ _ | exact ite_bind_one _ _ | exact bind_map_one _ _ | exact (Option.bind_assoc ..).symm))
theorem wpS_part {g:Option Nat} {off:Nat} {x:A}:wpStep E Yf ⟨d,.part g off x,none,nm⟩ st ub K=wpV (partV g off (eval E st.tm x)) fun v=>K (st.setT d v) (ub+64):=by
 refine wpS_val rfl rfl fun du=>?_
 simp only [aop,partV]
 generalize eval E st.tm x=vx
 cases vx <;> (first | rfl | exact ite_one _ _ | exact ite_bind_one _ _ | exact bind_map_one _ _ | exact (Option.bind_assoc ..).symm)
theorem wpS_idxStr {x i:A}:wpStep E Yf ⟨d,.idxStr x i,none,nm⟩ st ub K=wpV (idxStrV (eval E st.tm x) (eval E st.tm i)) fun v=>K (st.setT d v) (ub+64):=by
 refine wpS_val rfl rfl fun du=>?_
 simp only [aop,idxStrV]
 generalize eval E st.tm x=vx
 generalize eval E st.tm i=vi
 cases vx <;> first | rfl | (cases vi <;> (first | rfl | exact ite_one _ _ | exact ite_bind_one _ _ | exact bind_map_one _ _ | exact (Option.bind_assoc ..).symm | (rename_i f _ _;cases f <;> rfl) | exact ite_bind_map _ _ _))
theorem wpS_idxVal {g:Option Nat} {len sz:Nat} {x i:A}:wpStep E Yf ⟨d,.idxVal g len sz x i,none,nm⟩ st ub K=wpV (idxValV g len sz (eval E st.tm x) (eval E st.tm i)) fun v=>K (st.setT d v) (ub+64):=by
 refine wpS_val rfl rfl fun du=>?_
 simp only [aop,idxValV]
 generalize eval E st.tm x=vx
 generalize eval E st.tm i=vi
 cases vx <;> first | rfl | (cases vi <;> (first | rfl | exact ite_one _ _ | exact ite_bind_one _ _ | exact bind_map_one _ _ | exact (Option.bind_assoc ..).symm))
theorem wpS_slStr {x:A} {lo hi:Option A}:wpStep E Yf ⟨d,.slStr x lo hi,none,nm⟩ st ub K=wpV (slStrV (lo.map (eval E st.tm)) (hi.map (eval E st.tm)) (eval E st.tm x)) fun v=>K (st.setT d v) (ub+64):=by
 refine wpS_val rfl rfl fun du=>?_
 simp only [aop,slStrV]
 generalize eval E st.tm x=vx
 cases vx <;> (first | rfl | exact ite_one _ _ | exact ite_bind_one _ _ | exact bind_map_one _ _ | exact (Option.bind_assoc ..).symm)
theorem wpS_slSl {sz:Nat} {x:A} {lo hi:Option A}:wpStep E Yf ⟨d,.slSl sz x lo hi,none,nm⟩ st ub K=wpV (slSlV sz (lo.map (eval E st.tm)) (hi.map (eval E st.tm)) (eval E st.tm x)) fun v=>K (st.setT d v) (ub+64):=by
 refine wpS_val rfl rfl fun du=>?_
 simp only [aop,slSlV]
 generalize eval E st.tm x=vx
 cases vx <;> (first | rfl | exact ite_one _ _ | exact ite_bind_one _ _ | exact bind_map_one _ _ | exact (Option.bind_assoc ..).symm | (rename_i f _ _;cases f <;> rfl) | exact ite_bind_map _ _ _)
theorem wpS_lenStr {x:A}:wpStep E Yf ⟨d,.lenStr x,none,nm⟩ st ub K=wpV (lenStrV (eval E st.tm x)) fun v=>K (st.setT d v) (ub+64):=by
 refine wpS_val rfl rfl fun du=>?_
 simp only [aop,lenStrV]
 generalize eval E st.tm x=vx
 cases vx <;> (first | rfl | exact ite_one _ _ | exact ite_bind_one _ _ | exact bind_map_one _ _ | exact (Option.bind_assoc ..).symm)
theorem wpS_lenSl {x:A}:wpStep E Yf ⟨d,.lenSl x,none,nm⟩ st ub K=wpV (lenSlV (eval E st.tm x)) fun v=>K (st.setT d v) (ub+64):=by
 refine wpS_val rfl rfl fun du=>?_
 simp only [aop,lenSlV]
 generalize eval E st.tm x=vx
 cases vx <;> (first | rfl | exact ite_one _ _ | exact ite_bind_one _ _ | exact bind_map_one _ _ | exact (Option.bind_assoc ..).symm)
theorem wpS_lenMap {x:A}:wpStep E Yf ⟨d,.lenMap x,none,nm⟩ st ub K=wpV (lenMapV st.ob (eval E st.tm x)) fun v=>K (st.setT d v) (ub+64):=by
 refine wpS_val rfl rfl fun du=>?_
 simp only [aop,lenMapV]
 generalize eval E st.tm x=vx
 cases vx <;> (first | rfl | exact ite_one _ _ | exact ite_bind_one _ _ | exact bind_map_one _ _ | exact (Option.bind_assoc ..).symm)
theorem wpS_extract {x:A} {i:Nat}:wpStep E Yf ⟨d,.extract x i,none,nm⟩ st ub K=wpV (extractV i (eval E st.tm x)) fun v=>K (st.setT d v) (ub+64):=by
 refine wpS_val rfl rfl fun du=>?_
 simp only [aop,extractV]
 generalize eval E st.tm x=vx
 cases vx <;> (first | rfl | exact ite_one _ _ | exact ite_bind_one _ _ | exact bind_map_one _ _ | exact (Option.bind_assoc ..).symm)
theorem wpS_conv {k:IntKind} {x:A}:wpStep E Yf ⟨d,.conv k x,none,nm⟩ st ub K=wpV (convV k (eval E st.tm x)) fun v=>K (st.setT d v) (ub+64):=by
 refine wpS_val rfl rfl fun du=>?_
 simp only [aop,convV]
 generalize eval E st.tm x=vx
 cases vx <;> (first | rfl | exact ite_one _ _ | exact ite_bind_one _ _ | exact bind_map_one _ _ | exact (Option.bind_assoc ..).symm)
theorem wpS_minmax {b:Bool} {xs:List A}:wpStep E Yf ⟨d,.minmax b xs,none,nm⟩ st ub K=wpV (minmaxV b (xs.map (eval E st.tm))) fun v=>K (st.setT d v) (ub+64):=by
 refine wpS_val rfl rfl fun du=>?_
 simp only [aop,minmaxV]
 generalize xs.map (eval E st.tm)=vxs
 cases vxs <;> (first | rfl | exact ite_one _ _ | exact ite_bind_one _ _ | exact bind_map_one _ _ | exact (Option.bind_assoc ..).symm)
theorem wpS_mkFn {f:Fn} {a b:List A}:wpStep E Yf ⟨d,.mkFn f a b,none,nm⟩ st ub K=K (st.setT d (.fn f (a.map (eval E st.tm)) (b.map (eval E st.tm)))) (ub+64):=by rw [wpStep_of _ rfl rfl];simp only [aop,wpD_one,app_v]
theorem wpS_build {z:List V} {ps:List (Nat × Nat × A)}:wpStep E Yf ⟨d,.build z ps,none,nm⟩ st ub K=wpV ((fill z (evalParts (eval E st.tm) ps)).map .agg) fun v=>K (st.setT d v) (ub+64):=by
 rw [wpStep_of _ rfl rfl];simp only [aop,bind_map_one,wpD_bind,app_v]
theorem wpS_lookup {q:LK} {z:V} {ok:Bool} {m k:A}:wpStep E Yf ⟨d,.lookup q z ok m k,none,nm⟩ st ub K=wpV (lookupV st.ob q z ok (eval E st.tm m) (eval E st.tm k)) fun v=>K (st.setT d v) (ub+64):=by
 refine wpS_val rfl rfl fun du=>?_
 simp only [aop,lookupV]
 generalize eval E st.tm m=vm
 generalize eval E st.tm k=vk
 cases isKey q vk with
 | false=>rfl
 | true =>
  simp only [if_true]
  cases vm <;> first | rfl | skip
  rename_i l u
  simp only
  cases objMap st.ob l u with
  | none=>rfl
  | some es =>
   simp only [Option.bind_some]
   cases findKey q vk es with
   | none=>rfl
   | some r=>cases r <;> rfl
def pureArgs (E:Env) (nm:Bool) (f:FuncId) (vs:List V):Prop:=E.sh nm f=false∧(vs.all fun v=>v.strip.pureTop)=true
theorem all_map_strip (vs:List V):(vs.map V.strip).all V.pureTop=vs.all fun v=>v.strip.pureTop:=by rw [List.all_map];rfl
theorem wpS_call {f:FuncId} {xs:List A} (h:pureArgs E nm f (xs.map (eval E st.tm))∧∃ v,Ev E f ((xs.map (eval E st.tm)).map V.strip) v∧wpD (retA ub v) fun δ=>K (st.app d δ) (ub+64)):wpStep E Yf ⟨d,.call f xs,none,nm⟩ st ub K:=by
 obtain ⟨⟨h1,h2⟩,v,hv,δ,hδ,hK⟩:=h
 have hp:(xs.all fun x=>(eval E st.tm x).strip.pureTop)=true:=by rw [List.all_map] at h2;exact h2
 have hs:sharedCall E nm (eval E st.tm) (.call f xs)=none:=by simp only [sharedCall,h1,hp,Bool.not_false,Bool.and_self,if_true]
 simp only [wpStep,wanted,yieldCall,hs,wpCall]
 refine ⟨by rw [List.all_map];exact hp,v,?_,δ,hδ,hK⟩
 rw [List.map_map] at hv
 exact hv
theorem wpS_callV {q:A} {xs:List A} {f:FuncId} {first captured:List V} (hq:eval E st.tm q = .fn (.func f) first captured)
 (h:pureArgs E nm f (first++xs.map (eval E st.tm)++captured)∧∃ v,Ev E f ((first++xs.map (eval E st.tm)++captured).map V.strip) v∧wpD (retA ub v) fun δ=>K (st.app d δ) (ub+64)):wpStep E Yf ⟨d,.callV q xs,none,nm⟩ st ub K:=by
 obtain ⟨⟨h1,h2⟩,v,hv,δ,hδ,hK⟩:=h
 have hs:sharedCall E nm (eval E st.tm) (.callV q xs)=none:=by simp only [sharedCall,hq,h1,h2,Bool.not_false,Bool.and_self,if_true]
 simp only [wpStep,wanted,yieldCall,hq,hs,wpCall]
 exact ⟨f,first,captured,rfl,by rw [all_map_strip];exact h2,v,hv,δ,hδ,hK⟩
end
attribute [simp] setT_tm setT_tm0 setT_ob setT_tk setT_ro setT_nx setT_fb setT_df
 setN_tm setN_ob setN_tk setN_ro setN_nx setN_fb setN_df start_tm start_ob start_tk start_ro start_nx start_fb start_df eval_t eval_c pickV_bool loadV_e loadV_p wpV_some wpV_none wpD_some wpD_none app_v
@[simp] theorem binV_add (k:IntKind) (a b:Int):binV .add (.int k a) (.int k b)=some (.int k (k.wrap (a+b))):=by simp [binV,intBin]
@[simp] theorem binV_sub (k:IntKind) (a b:Int):binV .sub (.int k a) (.int k b)=some (.int k (k.wrap (a - b))):=by simp [binV,intBin]
@[simp] theorem binV_mul (k:IntKind) (a b:Int):binV .mul (.int k a) (.int k b)=some (.int k (k.wrap (a * b))):=by simp [binV,intBin]
@[simp] theorem binV_quo (k:IntKind) (a b:Int):binV .quo (.int k a) (.int k b)=if b=0 then none else some (.int k (k.wrap (a.tdiv b))):=by simp [binV,intBin]
@[simp] theorem binV_rem (k:IntKind) (a b:Int):binV .rem (.int k a) (.int k b)=if b=0 then none else some (.int k (a.tmod b)):=by simp [binV,intBin]
@[simp] theorem binV_lss (k:IntKind) (a b:Int):binV .lss (.int k a) (.int k b)=some (.bool (decide (a<b))):=by simp [binV,intBin]
@[simp] theorem binV_leq (k:IntKind) (a b:Int):binV .leq (.int k a) (.int k b)=some (.bool (decide (a≤b))):=by simp [binV,intBin]
@[simp] theorem binV_gtr (k:IntKind) (a b:Int):binV .gtr (.int k a) (.int k b)=some (.bool (decide (b<a))):=by simp [binV,intBin]
@[simp] theorem binV_geq (k:IntKind) (a b:Int):binV .geq (.int k a) (.int k b)=some (.bool (decide (b≤a))):=by simp [binV,intBin]
@[simp] theorem binV_eql (k:IntKind) (a b:Int):binV .eql (.int k a) (.int k b)=some (.bool (a == b)):=by simp [binV,intBin]
@[simp] theorem binV_neq (k:IntKind) (a b:Int):binV .neq (.int k a) (.int k b)=some (.bool (a != b)):=by simp [binV,intBin]
@[simp] theorem binV_seql (a b:List UInt8):binV .eql (.str a) (.str b)=some (.bool (a == b)):=by simp [binV,strBin]
@[simp] theorem binV_sneq (a b:List UInt8):binV .neq (.str a) (.str b)=some (.bool (!(a == b))):=by simp [binV,strBin]
@[simp] theorem unV_not (b:Bool):unV .not (.bool b)=some (.bool (!b)):=rfl
@[simp] theorem lenSlV_sl (t:Option (Nat × Nat)) (b:Bool) (n:Nat) (cs:List V):lenSlV (.sl t b n cs)=some (.int .i64 n):=rfl
@[simp] theorem lenSlV_osl (a b c n d:Nat):lenSlV (.osl a b c n d)=some (.int .i64 n):=rfl
@[simp] theorem lenStrV_str (s:List UInt8):lenStrV (.str s)=some (.int .i64 s.length):=rfl
@[simp] theorem idxSlV_sl (sz:Nat) (t:Option (Nat × Nat)) (b:Bool) (n:Nat) (cs:List V) (k:IntKind) (i:Int):idxSlV sz (.sl t b n cs) (.int k i)=if 0≤i∧i<n∧cs.length=n * sz then some (.eptr cs (i.toNat * sz)) else none:=rfl
@[simp] theorem pick1_none (cs:List V) (off:Nat):pick1 none cs off=cs[off]?:=rfl
@[simp] theorem extractV_tup (i:Nat) (vs:List V):extractV i (.tup vs)=vs[i]?:=rfl
def V.flat:V→Bool
 | .bool _ | .int .. | .str _ | .nilptr | .nilmap | .nilfn | .nilif=>true
 | .sl t _ _ _=>t.isNone
 | _=>false
theorem outTop_flat {st:St} {keep:Bool} {i:Nat} {v:V} (h:v.flat=true):outTop st keep i v=some v:=by
 cases v with
 | sl t nl n cs=>cases t with
  | none=>rfl
  | some t=>cases h
 | _=>first | rfl | cases h
theorem flat_toks {v:V} (h:v.flat=true):v.toks=[]:=by
 cases v with
 | sl t nl n cs=>cases t with
  | none=>rfl
  | some t=>cases h
 | _=>first | rfl | cases h
theorem noDf_of {st:St} (h:st.df=[]):st.noDf=st:=by unfold St.noDf;simp only [h]
theorem dfOk_of {st:St} (h:st.df=[]):dfOk st=true:=by unfold dfOk;simp only [h];rfl
theorem endV_1 {n:Nat} {st:St} {v:V} (hd:st.df=[]) (h:st.tm n=v) (hf:v.flat=true):endV [.t n] (.ret,st)=some v:=by
 simp only [endV,dfOk_of hd,noDf_of hd,if_true,List.mapM_cons,List.mapM_nil,resOf,h]
 simp [outRes,outTops,outTop_flat hf,flat_toks hf,nodup]
@[simp] theorem retA_bool (ub:Nat) (b:Bool):retA ub (.bool b)=some { v:=.bool b }:=rfl
@[simp] theorem retA_int (ub:Nat) (k:IntKind) (b:Int):retA ub (.int k b)=some { v:=.int k b }:=rfl
@[simp] theorem retA_str (ub:Nat) (s:List UInt8):retA ub (.str s)=some { v:=.str s }:=rfl
@[simp] theorem retA_int2 (ub:Nat) (k k':IntKind) (b b':Int):retA ub (.tup [.int k b,.int k' b'])=some { v:=.tup [.int k b,.int k' b'] }:=rfl
@[simp] theorem retA_slnone (ub:Nat) (nl:Bool) (n:Nat) (cs:List V):retA ub (.sl none nl n cs)=some { v:=.sl none nl n cs }:=rfl
theorem wpS_callE {E:Env} {Yf:YF} {st:St} {ub:Nat} {K:St→Nat→Prop} {d:Option Nat} {nm:Bool} {f:FuncId} {xs:List A} {vs:List V} {v:V} (hx:xs.map (eval E st.tm)=vs) (hs:E.sh nm f=false) (hp:(vs.all fun v=>v.strip.pureTop)=true)
 (hv:Ev E f (vs.map V.strip) v) (h:wpD (retA ub v) fun δ=>K (st.app d δ) (ub+64)):wpStep E Yf ⟨d,.call f xs,none,nm⟩ st ub K :=
 wpS_call ⟨by rw [hx];exact ⟨hs,hp⟩,v,by rw [hx];exact hv,h⟩
def C.one:C→Bool
 | .region ops=>ops.all fun o=>o.op.next?.isNone
 | .pin o _=>o.op.next?.isNone
 | .seq a b | .cond _ a b=>a.one && b.one
 | .block _ a | .loop a=>a.one
 | _=>true
def Single {α:Type} (o:Option (List α)):Prop:=∀ l,o=some l→∃ x,l=[x]
theorem Single.bindL {α β:Type} {m:Option (List α)} {f:α→Option (List β)} (hm:Single m) (hf:∀ a,Single (f a)):Single (bindL m f):=by
 intro l h
 cases hm':m with
 | none=>rw [hm'] at h;cases h
 | some asg =>
  obtain ⟨a,rfl⟩:=hm asg hm'
  rw [hm'] at h
  exact hf a l h
theorem Single.map {α β:Type} {m:Option (List α)} {f:α→β} (hm:Single m):Single (m.map fun l=>l.map f):=by
 intro l h
 cases hm':m with
 | none=>rw [hm'] at h;cases h
 | some asg =>
  obtain ⟨a,rfl⟩:=hm asg hm'
  rw [hm'] at h
  cases h
  exact ⟨f a,rfl⟩
theorem Single.none {α:Type}:Single (none:Option (List α)):=fun _ h=>by cases h
theorem Single.some {α:Type} (x:α):Single (some [x]):=fun _ h=>⟨x,by cases h;rfl⟩
theorem Single.opt {α β:Type} {m:Option α} {f:α→β}:Single (m.map fun a=>[f a]):=by
 intro l h
 cases m with
 | none=>cases h
 | some a=>cases h;exact ⟨f a,rfl⟩
section
variable {E:Env} {Yf:YF}
theorem step_one {call:Callers} (hc:∀ f a ob tk ro b u,Single (call.s f a ob tk ro b u)) {o:AOpr} {st:St} {ub:Nat} (h:o.op.next?.isNone=true):Single (step E call o st ub):=by
 have hn:o.op.next? = .none:=by simpa using h
 unfold step
 split
 ·split
  ·exact Single.opt
  ·split
   ·split
    ·exact Single.map (hc _ _ _ _ _ _ _)
    ·exact Single.opt
   ·rw [hn]
    exact Single.opt
 ·exact Single.some _
 ·exact Single.none
theorem opsR_one {call:Callers} (hc:∀ f a ob tk ro b u,Single (call.s f a ob tk ro b u)):∀ {ops:List AOpr} {st:St} {ub:Nat},(ops.all fun o=>o.op.next?.isNone)=true→Single (opsR E call ops st ub)
 | [],_,_,_=>Single.some _
 | o::r,st,ub,h=>by
  simp only [List.all_cons,Bool.and_eq_true] at h
  exact Single.bindL (step_one hc h.1) fun x=>opsR_one hc h.2
theorem loopL_one {body:St→Outs} (hb:∀ st,Single (body st)):∀ (n:Nat) (st:St),Single (loopL body n st)
 | 0,_=>Single.none
 | n+1,st=>Single.bindL (hb st) fun x=>by
  obtain ⟨e,s⟩:=x
  cases e
  ·exact loopL_one hb n s
  ·exact Single.some _
  ·exact Single.some _
theorem codeL_one {call:Y→Callers} (hc:∀ y f a ob tk ro b u,Single ((call y).s f a ob tk ro b u)) {y:Y} {N:Nat}:∀ {c:C} {st:St},c.one=true→Single (codeL E call y N c st):=by
 intro c
 induction c with
 | skip=>intro st _;exact Single.some _
 | ret=>intro st _;exact Single.some _
 | exit i=>intro st _;exact Single.some _
 | stuck=>intro st _;exact Single.none
 | region ops=>intro st h;simp only [codeL];exact Single.map (opsR_one (hc y) h)
 | pin o fs =>
  intro st h
  simp only [codeL]
  refine Single.bindL (step_one (hc y) h) fun x=>?_
  intro l h
  obtain ⟨p,_,h⟩:=bind_some h
  split at h
  ·cases h;exact ⟨_,rfl⟩
  ·cases h
 | draw ops free =>
  intro st _ l h
  simp only [codeL] at h
  cases hd:drawR E (call y) ops st st.nx with
  | none=>rw [hd] at h;cases h
  | some p =>
   rw [hd,Option.bind_some] at h
   split at h
   ·cases h;exact ⟨_,rfl⟩
   ·cases h
 | seq a b iha ihb =>
  intro st h
  simp only [C.one,Bool.and_eq_true] at h
  simp only [codeL]
  refine Single.bindL (iha h.1) fun x=>?_
  obtain ⟨e,s⟩:=x
  cases e
  ·exact ihb h.2
  ·exact Single.some _
  ·exact Single.some _
 | cond q a b iha ihb =>
  intro st h
  simp only [C.one,Bool.and_eq_true] at h
  simp only [codeL]
  split
  ·exact iha h.1
  ·exact ihb h.2
  ·exact Single.none
 | block i a ih=>intro st h;simp only [codeL];exact Single.map (ih h)
 | loop a ih=>intro st h;simp only [codeL];exact loopL_one (fun s=>ih h) N st
 | rangeFunc f ps a b =>
  intro st _ l h
  simp only [codeL] at h
  split at h
  ·simp only [Option.bind_eq_some_iff] at h
   obtain ⟨r,_,h⟩:=h
   split at h
   ·split at h
    ·cases h;exact ⟨_,rfl⟩
    ·cases h
   ·cases h
  ·cases h
theorem callers_one (hE:∀ f,E.mn f=false):∀ (n:Nat) (y:Y) (f a ob tk ro b u),Single ((callers E n y).s f a ob tk ro b u)
 | 0,_,_,_,_,_,_,_,_=>Single.none
 | n+1,y,f,a,ob,tk,ro,b,u=>by
  intro l h
  simp only [callers,hE,Bool.false_eq_true,if_false] at h
  split at h
  ·obtain ⟨_,_,h⟩:=bind_some h
   obtain ⟨_,_,h⟩:=bind_some h
   obtain ⟨x,_,rfl⟩:=map_some h
   exact ⟨x,rfl⟩
  ·split at h
   ·obtain ⟨x,_,rfl⟩:=map_some h
    exact ⟨x,rfl⟩
   ·obtain ⟨_,_,h⟩:=bind_some h
    obtain ⟨_,_,h⟩:=bind_some h
    split at h
    ·obtain ⟨x,_,rfl⟩:=map_some h
     exact ⟨x,rfl⟩
    ·cases h
theorem one_of {c:C} {st:St} {Q:Ex→St→Prop} (h1:c.one=true) (h:wpC E Yf c st Q) (hE:∀ f,E.mn f=false):∃ n x,codeL E (callers E n) (Yf.y n) n c st=some [x]∧Q x.1 x.2:=by
 obtain ⟨n,l,hl,_,hq⟩:=wp_of h
 obtain ⟨x,rfl⟩:=codeL_one (callers_one hE n) h1 l hl
 exact ⟨n,x,hl,hq x (List.mem_singleton.2 rfl)⟩
theorem EvO_wp {f:FuncId} {af:AF} {args:List V} {ob:Nat→Option Obj'} {tk:Nat→Bool} {base ub:Nat} {r:V} (hf:E.fs f=some af)
 (h:wpC E noYF af.body (startS args ob (fun _=>false) ub base ub) fun e s=>endV af.res (e,s)=some r) (hz:E.fz f=false:=by rfl):EvO E f args ob tk base ub r:=by
 obtain ⟨n,l,h1,h2,h3⟩:=wp_of h
 refine ⟨n+1,?_⟩
 simp only [callers,hf,Option.bind_some,hz,Bool.false_eq_true,if_false]
 rw [show codeL E (callers E n) noY n af.body (startS args ob (fun _=>false) ub base ub)=some l from h1]
 exact one1_of h2 h3
theorem EvS_srt {y:Nat→Y} {f:FuncId} {args:List V} {ob:Nat→Option Obj'} {tk:Nat→Bool} {ro base ub:Nat} {r:V × (Nat→Option Obj') × (Nat→Bool) × Nat} (hs:E.srt f=true) (hr:sortA ob tk ro ub args=some r) (hz:E.tw f=false:=by rfl):EvS E y f args ob tk ro base ub r:=by
 refine ⟨1,?_⟩
 simp only [callers,hz,hs,Bool.false_eq_true,if_false,if_true,hr,Option.map_some]
theorem EvS_wp {f:FuncId} {af:AF} {args:List V} {ob:Nat→Option Obj'} {tk:Nat→Bool} {ro base ub:Nat} {P:V × (Nat→Option Obj') × (Nat→Bool) × Nat→Prop} (hf:E.fs f=some af) (h1:af.body.one=true)
 (h:wpC E Yf af.body (startS args ob tk ro base ub) fun e s=>∃ r,endS af.res (e,s)=some r∧P r) (hz:E.tw f=false:=by rfl) (hs:E.srt f=false:=by rfl) (hE:∀ f,E.mn f=false:=by intro _;rfl):∃ r,EvS E Yf.y f args ob tk ro base ub r∧P r:=by
 obtain ⟨n,x,hx,r,hr,hP⟩:=one_of h1 h hE
 refine ⟨r,⟨n+1,?_⟩,hP⟩
 simp only [callers,hf,Option.bind_some,hz,hs,Bool.false_eq_true,if_false]
 rw [codeL_mono (cs_mono n n (Nat.le_refl _)) (Nat.le_refl _) af.body _ _ (Yf.mono (Nat.le_succ n)) _ _ hx]
 simp only [Option.bind_some,hE,Bool.false_eq_true,if_false,hr,Option.map_some]
theorem mapM_of {α β:Type} {f:α→Option β} {P:β→Prop}:∀ {l:List α},(∀ x∈l,∃ r,f x=some r∧P r)→∃ L,l.mapM f=some L∧L.length=l.length∧∀ r∈L,P r
 | [],_=>⟨[],rfl,rfl,fun _ h=>by cases h⟩
 | x::l,h=>by
  obtain ⟨r,h1,h2⟩:=h x (List.mem_cons_self ..)
  obtain ⟨L,h3,h4,h5⟩:=mapM_of (l:=l) fun y hy=>h y (List.mem_cons_of_mem _ hy)
  refine ⟨r::L,by simp only [List.mapM_cons,h1,h3];rfl,by simp [h4],fun z hz=>?_⟩
  rcases List.mem_cons.1 hz with rfl | hz
  ·exact h2
  ·exact h5 z hz
theorem EvSL_wp {f:FuncId} {af:AF} {args:List V} {ob:Nat→Option Obj'} {tk:Nat→Bool} {ro base ub:Nat} {P:V × (Nat→Option Obj') × (Nat→Bool) × Nat→Prop} (hf:E.fs f=some af)
 (h:wpC E Yf af.body (startS args ob tk ro base ub) fun e s=>∃ r,endS af.res (e,s)=some r∧P r) (hz:E.tw f=false:=by rfl) (hs:E.srt f=false:=by rfl) (hm:E.mn f=true:=by rfl):EvSL E Yf.y f args ob tk ro base ub P:=by
 obtain ⟨n,l,h1,h2,h3⟩:=wp_of h
 obtain ⟨L,h4,h5,h6⟩:=mapM_of (f:=endS af.res) (P:=P) fun x hx=>h3 x hx
 refine ⟨n+1,L,?_,fun e=>?_,h6⟩
 ·simp only [callers,hf,Option.bind_some,hz,hs,Bool.false_eq_true,if_false]
  rw [codeL_mono (cs_mono n n (Nat.le_refl _)) (Nat.le_refl _) af.body _ _ (Yf.mono (Nat.le_succ n)) _ _ h1]
  simp only [Option.bind_some,hm,if_true]
  exact h4
 ·subst e
  exact h2 (List.length_eq_zero_iff.1 h5.symm)
def roundF (E:Env) (Yf:YF) (asg bd:C) (st:St) (ps:List Nat) (l u:Nat):YF where
 y n:=roundY (codeL E (callers E n) (Yf.y n) n asg) (codeL E (callers E n) (Yf.y n) n bd) st ps l u
 mono h:=roundY_mono (fun s=>codeL_mono (callers_mono _ _ h) h asg _ _ (Yf.mono h) s) (fun s=>codeL_mono (callers_mono _ _ h) h bd _ _ (Yf.mono h) s) st ps l u
def roundAns (l u:Nat) (e:Ex) (s:St):V × (Nat→Option Obj') × (Nat→Bool) × Nat:=match e with
 | .nrm=>(.bool true,upd s.ob l (some ⟨u,.loop .ready none⟩),s.tk,s.nx)
 | e=>(.bool false,upd s.ob l (some ⟨u,.loop .done (some e)⟩),s.tk,s.nx)
theorem EvY_round {asg bd:C} {st:St} {ps:List Nat} {l u:Nat} {xs:List V} {ob:Nat→Option Obj'} {tk:Nat→Bool} {ro ub:Nat} {P:V × (Nat→Option Obj') × (Nat→Bool) × Nat→Prop} (hl:xs.length=ps.length) (hro:ro≤u) (hob:ob l=some ⟨u,.loop .ready none⟩)
 (ha:asg.one=true) (hb:bd.one=true)
 (h:wpC E Yf asg { tm:=setPs st.tm ps xs,ob,tk,ro,nx:=ub,fb:=st.fb,df:=[] } fun e s1=>e = .nrm∧s1.ob l=some ⟨u,.loop .ready none⟩ ∧
  wpC E Yf bd { s1 with ob:=upd s1.ob l (some ⟨u,.loop .busy none⟩) } fun e s2=>s2.ob l=some ⟨u,.loop .busy none⟩∧P (roundAns l u e s2)) (hE:∀ f,E.mn f=false:=by intro _;rfl):∃ r,EvY (roundF E Yf asg bd st ps l u) l u xs ob tk ro ub r∧P r:=by
 obtain ⟨n,⟨e,s1⟩,h1,he,ho1,h2⟩:=one_of ha h hE
 simp only at he ho1 h2
 subst he
 obtain ⟨m,⟨e,s2⟩,h3,ho2,hP⟩:=one_of hb h2 hE
 simp only at ho2 hP
 refine ⟨roundAns l u e s2,⟨max n m,?_⟩,hP⟩
 have k1:=codeL_mono (callers_mono (E:=E) n (max n m) (by omega)) (show n≤max n m by omega) asg _ _ (Yf.mono (show n≤max n m by omega)) _ _ h1
 have k2:=codeL_mono (callers_mono (E:=E) m (max n m) (by omega)) (show m≤max n m by omega) bd _ _ (Yf.mono (show m≤max n m by omega)) _ _ h3
 have hble:Nat.ble ro u=true:=Nat.ble_eq ▸ hro
 simp only [roundF,roundY,hl,hble,and_self,if_true,hob,k1,ho1,k2,ho2]
 cases e <;> rfl
theorem wpC_rangeFunc {f:A} {ps:List Nat} {asg bd:C} {st:St} {Q:Ex→St→Prop} {g:FuncId} {first captured:List V} (hf:eval E st.tm f = .fn (.func g) first captured)
 (h:∃ r,EvS E (roundF E Yf asg bd st ps (2 * st.nx+1) st.nx).y g (first++[.yld (2 * st.nx+1) st.nx]++captured)
  (upd (upd st.ob (2 * st.nx+3) (some ⟨st.nx+1,.dfr⟩)) (2 * st.nx+1) (some ⟨st.nx,.loop .ready none⟩)) st.tk st.ro ((st.fb+1023) * 1024) (st.nx+64) r ∧
  ∃ s pend,r.2.1 (2 * st.nx+1)=some ⟨st.nx,.loop s pend⟩∧s≠.busy∧st.ro≤st.nx ∧
   Q (pend.getD .nrm) { st with ob:=fun k=>if Nat.beq (2 * st.nx+1) k then none else r.2.1 k,tk:=r.2.2.1,nx:=r.2.2.2,df:=(2 * st.nx+3,st.nx+1)::st.df }):wpC E Yf (.rangeFunc f ps asg bd) st Q:=by
 obtain ⟨⟨v,ob,tk,ub⟩,⟨n,hr⟩,s,pend,h1,h2,h3,h4⟩:=h
 have hble:Nat.ble st.ro st.nx=true:=Nat.ble_eq ▸ h3
 refine ⟨n,[(pend.getD .nrm,_)],?_,List.cons_ne_nil _ _,fun x hx=>by rw [List.mem_singleton] at hx;subst hx;exact h4⟩
 simp only [codeL,hf]
 have hr':(callers E n (roundY (codeL E (callers E n) (Yf.y n) n asg) (codeL E (callers E n) (Yf.y n) n bd) st ps (2 * st.nx+1) st.nx)).s g (first++[.yld (2 * st.nx+1) st.nx]++captured)
  (upd (upd st.ob (2 * st.nx+3) (some ⟨st.nx+1,.dfr⟩)) (2 * st.nx+1) (some ⟨st.nx,.loop .ready none⟩)) st.tk st.ro ((st.fb+1023) * 1024) (st.nx+64)=some [(v,ob,tk,ub)]:=hr
 simp only at h1
 simp only [hr',only,Option.bind_some,h1,h2,ne_eq,not_false_eq_true,hble,and_self,if_true]
theorem wpS_yield {q:A} {xs:List A} {st:St} {ub:Nat} {K:St→Nat→Prop} {d:Option Nat} {nm:Bool} {l u:Nat} (hq:eval E st.tm q = .yld l u)
 (h:∃ r,EvY Yf l u (xs.map (eval E st.tm)) st.ob st.tk st.ro ub r∧K { st with tm:=put st.tm d r.1,ob:=r.2.1,tk:=r.2.2.1 } r.2.2.2):wpStep E Yf ⟨d,.callV q xs,none,nm⟩ st ub K:=by
 simp only [wpStep,wanted,yieldCall,hq]
 exact h
theorem wpS_callO {f:FuncId} {xs:List A} {st:St} {ub:Nat} {K:St→Nat→Prop} {d:Option Nat} {nm:Bool} (hs:E.sh nm f=false) (hp:((xs.map (eval E st.tm)).all fun v=>v.strip.pureTop)=false)
 (h:∃ v,EvO E f (xs.map (eval E st.tm)) st.ob st.tk ((st.fb+d.getD 0+1) * 1024) ub v∧wpD (retA ub v) fun δ=>K (st.app d δ) (ub+64)):wpStep E Yf ⟨d,.call f xs,none,nm⟩ st ub K:=by
 have hp':(xs.all fun x=>(eval E st.tm x).strip.pureTop)=false:=by rw [List.all_map] at hp;exact hp
 have hsh:sharedCall E nm (eval E st.tm) (.call f xs)=some (f,xs.map (eval E st.tm)):=by simp only [sharedCall,hs,hp',Bool.not_false,Bool.true_and,Bool.false_eq_true,if_false]
 simp only [wpStep,wanted,yieldCall,hsh]
 obtain ⟨v,hv,δ,hδ,hK⟩:=h
 exact .inr ⟨hs,v,hv,δ,hδ,hK⟩
end
def objName (d:Option Nat) (nm:Bool) (fb ub:Nat):Nat:=cond nm (2 * ub+1) (2 * (fb+d.getD 0))
theorem objName_f (d fb ub:Nat):objName (some d) false fb ub=2 * (fb+d):=rfl
theorem objName_t (d:Option Nat) (fb ub:Nat):objName d true fb ub=2 * ub+1:=rfl
theorem name_eq (d:Option Nat) (op:AOp) (nm:Bool) (fb ub:Nat):AOpr.name ⟨d,op,none,nm⟩ fb ub=objName d nm fb ub:=by cases nm <;> rfl
def wpStore (st:St) (sz:Nat) (x:V) (K:Delta→Prop):V→Prop
 | .ptr l u off=>∃ cs,objCells st.ob l u=some cs∧st.ro≤u∧x.cells.length=sz∧off+sz≤cs.length∧x.cells.all V.leaf=true∧K { v:=none',obs:=[(l,⟨u,.cells (splice cs off x.cells)⟩)] }
 | _=>False
theorem wpStore_ptr (st:St) (sz:Nat) (x:V) (K:Delta→Prop) (l u off:Nat):wpStore st sz x K (.ptr l u off) = ∃ cs,objCells st.ob l u=some cs∧st.ro≤u∧x.cells.length=sz∧off+sz≤cs.length∧x.cells.all V.leaf=true∧K { v:=none',obs:=[(l,⟨u,.cells (splice cs off x.cells)⟩)] }:=rfl
section
variable {E:Env} {Yf:YF} {st:St} {ub:Nat} {K:St→Nat→Prop} {d:Option Nat} {nm:Bool}
theorem wpS_alloc {z:List V}:wpStep E Yf ⟨d,.alloc z,none,nm⟩ st ub K=K (st.app d { v:=.ptr (objName d nm st.fb ub) ub 0,obs:=[(objName d nm st.fb ub,⟨ub,.cells z⟩)] }) (ub+64):=by
 rw [wpStep_of _ rfl rfl];simp only [aop,mkObj,wpD_some,name_eq]
theorem wpS_box {sz:Nat} {x:A}:wpStep E Yf ⟨d,.box sz x,none,nm⟩ st ub K=(((eval E st.tm x).cells.length=sz∧(eval E st.tm x).cells.all V.leaf=true)∧K (st.app d { v:=.ptr (objName d nm st.fb ub) ub 0,obs:=[(objName d nm st.fb ub,⟨ub,.cells (eval E st.tm x).cells⟩)] }) (ub+64)):=by
 rw [wpStep_of _ rfl rfl];simp only [aop,mkObj,wpD_ite,wpD_some,name_eq]
theorem wpS_store {sz:Nat} {p x:A}:wpStep E Yf ⟨d,.store sz p x,none,nm⟩ st ub K=wpStore st sz (eval E st.tm x) (fun δ=>K (st.app d δ) (ub+64)) (eval E st.tm p):=by
 rw [wpStep_of _ rfl rfl]
 simp only [aop]
 generalize eval E st.tm p=vp
 cases vp <;> simp only [wpD_none,wpStore]
 rename_i l u off
 cases objCells st.ob l u with
 | none=>simp [wpD]
 | some cs=>simp only [Option.bind_some,wpD_ite,wpD_some,Option.some.injEq,exists_eq_left',Nat.ble_eq,and_assoc]
end
attribute [simp] objName_f objName_t app_tm app_tm0 app_ro app_nx app_fb app_df app_ob app_tk app_ob1
@[simp] theorem cells_agg (cs:List V):(V.agg cs).cells=cs:=rfl
@[simp] theorem cells_bool (b:Bool):(V.bool b).cells=[.bool b]:=rfl
@[simp] theorem cells_int (k:IntKind) (n:Int):(V.int k n).cells=[.int k n]:=rfl
@[simp] theorem cells_str (s:List UInt8):(V.str s).cells=[.str s]:=rfl
@[simp] theorem cells_sl (t:Option (Nat × Nat)) (b:Bool) (n:Nat) (cs:List V):(V.sl t b n cs).cells=[.sl t b n cs]:=rfl
@[simp] theorem cells_iface (t:TypeId) (v:V):(V.iface t v).cells=[.iface t v]:=rfl
@[simp] theorem leaf_bool (b:Bool):(V.bool b).leaf=true:=rfl
@[simp] theorem leaf_int (k:IntKind) (n:Int):(V.int k n).leaf=true:=rfl
@[simp] theorem leaf_str (s:List UInt8):(V.str s).leaf=true:=rfl
@[simp] theorem leaf_sl (t:Option (Nat × Nat)) (b:Bool) (n:Nat) (cs:List V):(V.sl t b n cs).leaf=true:=rfl
@[simp] theorem leaf_iface (t:TypeId) (v:V):(V.iface t v).leaf=true:=rfl
@[simp] theorem leaf_nilif:V.nilif.leaf=true:=rfl
@[simp] theorem cells_nilif:V.nilif.cells=[.nilif]:=rfl
@[simp] theorem fieldAddrV_ptr (off l u o:Nat):fieldAddrV off (.ptr l u o)=some (.ptr l u (o+off)):=rfl
@[simp] theorem fieldAddrV_eptr (off:Nat) (cs:List V) (o:Nat):fieldAddrV off (.eptr cs o)=some (.eptr cs (o+off)):=rfl
@[simp] theorem pick1_some (k:Nat) (cs:List V) (off:Nat):pick1 (some k) cs off=if off+k≤cs.length then some (.agg ((cs.drop off).take k)) else none:=rfl
@[simp] theorem splice_all (cs vs:List V) (h:vs.length=cs.length):splice cs 0 vs=vs:=by simp [splice,← h]
def kOps (E:Env) (Yf:YF) (r:List AOpr) (K:St→Prop):St→Nat→Prop:=fun st ub=>wpOps' E Yf r st ub K
def kNrm (Q:Ex→St→Prop):St→Prop:=fun s=>Q .nrm s
def kSeq (E:Env) (Yf:YF) (b:C) (Q:Ex→St→Prop):Ex→St→Prop:=fun e s=>match e with
 | .nrm=>wpC E Yf b s Q
 | e=>Q e s
def kBlk (i:Nat) (Q:Ex→St→Prop):Ex→St→Prop:=fun e s=>match e with
 | .exit j=>if j=i then Q .nrm s else Q (.exit j) s
 | e=>Q e s
def kSet (K:St→Nat→Prop) (st:St) (d:Option Nat) (ub:Nat):V→Prop:=fun v=>K (st.setT d v) (ub+64)
def kApp (K:St→Nat→Prop) (st:St) (d:Option Nat) (ub:Nat):Delta→Prop:=fun δ=>K (st.app d δ) (ub+64)
def kIf (E:Env) (Yf:YF) (a b:C) (st:St) (Q:Ex→St→Prop):Bool→Prop
 | true=>wpC E Yf a st Q
 | false=>wpC E Yf b st Q
def kGd (E:Env) (Yf:YF) (o:AOpr) (st:St) (ub:Nat) (K:St→Nat→Prop):Bool→Prop
 | true=>wpStep E Yf o st ub K
 | false=>K (st.setT o.dst none') ub
def kLoop (I:Nat→St→Prop) (k:Nat) (Q:Ex→St→Prop):Ex→St→Prop:=fun e s=>match e with
 | .nrm=>∃ j,j<k∧I j s
 | e=>Q e s
def kEnd (res:List ARes) (r:V):Ex→St→Prop:=fun e s=>endV res (e,s)=some r
def ifK:V→(Bool→Prop)→Prop
 | .bool c,k=>k c
 | _,_=>False
def gdK:V→Bool→(Bool→Prop)→Prop
 | .bool c,b,k=>k (c == b)
 | .tup [],_,k=>k false
 | _,_,_=>False
section
variable {E:Env} {Yf:YF} {st:St} {ub:Nat} {K:St→Nat→Prop} {d:Option Nat} {nm:Bool} {Q:Ex→St→Prop}
theorem kOps_app {r:List AOpr} {K:St→Prop}:kOps E Yf r K st ub=wpOps' E Yf r st ub K:=propext Iff.rfl
theorem kNrm_app:kNrm Q st=Q .nrm st:=propext Iff.rfl
theorem kSeq_nrm {b:C}:kSeq E Yf b Q .nrm st=wpC E Yf b st Q:=propext Iff.rfl
theorem kSeq_exit {b:C} {i:Nat}:kSeq E Yf b Q (.exit i) st=Q (.exit i) st:=propext Iff.rfl
theorem kSeq_ret {b:C}:kSeq E Yf b Q .ret st=Q .ret st:=propext Iff.rfl
theorem kBlk_nrm {i:Nat}:kBlk i Q .nrm st=Q .nrm st:=propext Iff.rfl
theorem kBlk_exit {i j:Nat}:kBlk i Q (.exit j) st=if j=i then Q .nrm st else Q (.exit j) st:=propext Iff.rfl
theorem kBlk_ret {i:Nat}:kBlk i Q .ret st=Q .ret st:=propext Iff.rfl
theorem kSet_app {v:V}:kSet K st d ub v=K (st.setT d v) (ub+64):=propext Iff.rfl
theorem kApp_app {δ:Delta}:kApp K st d ub δ=K (st.app d δ) (ub+64):=propext Iff.rfl
theorem kIf_true {a b:C}:kIf E Yf a b st Q true=wpC E Yf a st Q:=propext Iff.rfl
theorem kIf_false {a b:C}:kIf E Yf a b st Q false=wpC E Yf b st Q:=propext Iff.rfl
theorem kGd_true {o:AOpr}:kGd E Yf o st ub K true=wpStep E Yf o st ub K:=propext Iff.rfl
theorem kGd_false {o:AOpr}:kGd E Yf o st ub K false=K (st.setT o.dst none') ub:=propext Iff.rfl
theorem kLoop_nrm {I:Nat→St→Prop} {k:Nat}:kLoop I k Q .nrm st = ∃ j,j<k∧I j st:=propext Iff.rfl
theorem kLoop_exit {I:Nat→St→Prop} {k i:Nat}:kLoop I k Q (.exit i) st=Q (.exit i) st:=propext Iff.rfl
theorem kLoop_ret {I:Nat→St→Prop} {k:Nat}:kLoop I k Q .ret st=Q .ret st:=propext Iff.rfl
theorem ifK_bool {c:Bool} {k:Bool→Prop}:ifK (.bool c) k=k c:=propext Iff.rfl
theorem gdK_bool {c b:Bool} {k:Bool→Prop}:gdK (.bool c) b k=k (c == b):=propext Iff.rfl
theorem gdK_none {b:Bool} {k:Bool→Prop}:gdK none' b k=k false:=propext Iff.rfl
theorem gdK_tup {b:Bool} {k:Bool→Prop}:gdK (.tup []) b k=k false:=propext Iff.rfl
theorem kC_skip:wpC E Yf .skip st Q=Q .nrm st:=propext Iff.rfl
theorem kC_ret:wpC E Yf .ret st Q=Q .ret st:=propext Iff.rfl
theorem kC_exit {i:Nat}:wpC E Yf (.exit i) st Q=Q (.exit i) st:=propext Iff.rfl
theorem kOps_nil {K:St→Prop}:wpOps' E Yf [] st ub K=K (st.setN ub):=propext Iff.rfl
theorem kC_region {ops:List AOpr}:wpC E Yf (.region ops) st Q=wpOps' E Yf ops st st.nx (kNrm Q):=propext Iff.rfl
theorem kC_seq {a b:C}:wpC E Yf (.seq a b) st Q=wpC E Yf a st (kSeq E Yf b Q):=propext Iff.rfl
theorem kC_block {i:Nat} {a:C}:wpC E Yf (.block i a) st Q=wpC E Yf a st (kBlk i Q):=propext Iff.rfl
theorem kC_cond {c:A} {a b:C}:wpC E Yf (.cond c a b) st Q=ifK (eval E st.tm c) (kIf E Yf a b st Q):=by
 rw [wpC_cond]
 cases h:eval E st.tm c <;> simp [wpIf,ifK]
 rename_i t
 cases t <;> simp [kIf]
theorem kOps_cons {o:AOpr} {r:List AOpr} {K:St→Prop}:wpOps' E Yf (o::r) st ub K=wpStep E Yf o st ub (kOps E Yf r K):=propext Iff.rfl
theorem kStep_guard {op:AOp} {t:Nat} {b:Bool}:wpStep E Yf ⟨d,op,some (t,b),nm⟩ st ub K=gdK (st.tm t) b (kGd E Yf ⟨d,op,none,nm⟩ st ub K):=by
 rw [wpStep_guard]
 cases h:st.tm t with
 | bool c=>cases c <;> cases b <;> simp [wpGuard,gdK,kGd]
 | tup l=>cases l <;> simp [wpGuard,gdK,kGd]
 | _=>simp [wpGuard,gdK]
theorem kS_mov {x:A}:wpStep E Yf ⟨d,.mov x,none,nm⟩ st ub K=kSet K st d ub (eval E st.tm x):=wpS_mov
theorem kS_alloc {z:List V}:wpStep E Yf ⟨d,.alloc z,none,nm⟩ st ub K=kApp K st d ub { v:=.ptr (objName d nm st.fb ub) ub 0,obs:=[(objName d nm st.fb ub,⟨ub,.cells z⟩)] }:=wpS_alloc
theorem kS_box {sz:Nat} {x:A}:wpStep E Yf ⟨d,.box sz x,none,nm⟩ st ub K=(((eval E st.tm x).cells.length=sz∧(eval E st.tm x).cells.all V.leaf=true)∧kApp K st d ub { v:=.ptr (objName d nm st.fb ub) ub 0,obs:=[(objName d nm st.fb ub,⟨ub,.cells (eval E st.tm x).cells⟩)] }):=wpS_box
theorem kS_store {sz:Nat} {p x:A}:wpStep E Yf ⟨d,.store sz p x,none,nm⟩ st ub K=wpStore st sz (eval E st.tm x) (kApp K st d ub) (eval E st.tm p):=wpS_store
theorem kS_iface {t:TypeId} {x:A}:wpStep E Yf ⟨d,.iface t x,none,nm⟩ st ub K=kSet K st d ub (.iface t (eval E st.tm x)):=by rw [wpStep_of _ rfl rfl];simp only [aop,wpD_one,app_v];rfl
def assertV (t:TypeId) (zero:V) (ok:Bool):V→Option V
 | .iface t' v=>if t'=t then some (if ok then .tup [v,.bool true] else v) else if ok then some (.tup [zero,.bool false]) else none
 | .nilif=>if ok then some (.tup [zero,.bool false]) else none
 | _=>none
theorem kS_assert {t:TypeId} {zero:V} {ok:Bool} {x:A}:wpStep E Yf ⟨d,.assert t zero ok x,none,nm⟩ st ub K=wpV (assertV t zero ok (eval E st.tm x)) (kSet K st d ub):=by
 refine wpS_val rfl rfl fun du=>?_
 simp only [aop,assertV]
 generalize eval E st.tm x=vx
 cases vx with
 | iface t' v=>by_cases h:t'=t <;> cases ok <;> simp [h,one]
 | nilif=>cases ok <;> rfl
 | _=>rfl
theorem kS_mkFn {f:Fn} {a b:List A}:wpStep E Yf ⟨d,.mkFn f a b,none,nm⟩ st ub K=kSet K st d ub (.fn f (a.map (eval E st.tm)) (b.map (eval E st.tm))):=wpS_mkFn
theorem kS_pick {c a b:A}:wpStep E Yf ⟨d,.pick c a b,none,nm⟩ st ub K=wpV (pickV (eval E st.tm c) (eval E st.tm a) (eval E st.tm b)) (kSet K st d ub):=wpS_pick
theorem kS_bin {op:BinOp} {x y:A}:wpStep E Yf ⟨d,.bin op x y,none,nm⟩ st ub K=wpV (binV op (eval E st.tm x) (eval E st.tm y)) (kSet K st d ub):=wpS_bin
theorem kS_un {op:UnOp} {x:A}:wpStep E Yf ⟨d,.un op x,none,nm⟩ st ub K=wpV (unV op (eval E st.tm x)) (kSet K st d ub):=wpS_un
theorem kS_eq {neg:Bool} {k:EqK} {x y:A}:wpStep E Yf ⟨d,.eq neg k x y,none,nm⟩ st ub K=wpV (eqVV st.ob neg k (eval E st.tm x) (eval E st.tm y)) (kSet K st d ub):=wpS_eq
theorem kS_load {g:Option Nat} {x:A}:wpStep E Yf ⟨d,.load g x,none,nm⟩ st ub K=wpV (loadV st.ob g (eval E st.tm x)) (kSet K st d ub):=wpS_load
theorem kS_nilCheck {x:A}:wpStep E Yf ⟨d,.nilCheck x,none,nm⟩ st ub K=wpV (nilCheckV (eval E st.tm x)) (kSet K st d ub):=wpS_nilCheck
theorem kS_fieldAddr {off:Nat} {x:A}:wpStep E Yf ⟨d,.fieldAddr off x,none,nm⟩ st ub K=wpV (fieldAddrV off (eval E st.tm x)) (kSet K st d ub):=wpS_fieldAddr
theorem kS_idxSl {sz:Nat} {x i:A}:wpStep E Yf ⟨d,.idxSl sz x i,none,nm⟩ st ub K=wpV (idxSlV sz (eval E st.tm x) (eval E st.tm i)) (kSet K st d ub):=wpS_idxSl
theorem kS_idxArr {len sz:Nat} {x i:A}:wpStep E Yf ⟨d,.idxArr len sz x i,none,nm⟩ st ub K=wpV (idxArrV len sz (eval E st.tm x) (eval E st.tm i)) (kSet K st d ub):=wpS_idxArr
theorem kS_part {g:Option Nat} {off:Nat} {x:A}:wpStep E Yf ⟨d,.part g off x,none,nm⟩ st ub K=wpV (partV g off (eval E st.tm x)) (kSet K st d ub):=wpS_part
theorem kS_idxStr {x i:A}:wpStep E Yf ⟨d,.idxStr x i,none,nm⟩ st ub K=wpV (idxStrV (eval E st.tm x) (eval E st.tm i)) (kSet K st d ub):=wpS_idxStr
theorem kS_idxVal {g:Option Nat} {len sz:Nat} {x i:A}:wpStep E Yf ⟨d,.idxVal g len sz x i,none,nm⟩ st ub K=wpV (idxValV g len sz (eval E st.tm x) (eval E st.tm i)) (kSet K st d ub):=wpS_idxVal
theorem kS_slStr {x:A} {lo hi:Option A}:wpStep E Yf ⟨d,.slStr x lo hi,none,nm⟩ st ub K=wpV (slStrV (lo.map (eval E st.tm)) (hi.map (eval E st.tm)) (eval E st.tm x)) (kSet K st d ub):=wpS_slStr
theorem kS_slSl {sz:Nat} {x:A} {lo hi:Option A}:wpStep E Yf ⟨d,.slSl sz x lo hi,none,nm⟩ st ub K=wpV (slSlV sz (lo.map (eval E st.tm)) (hi.map (eval E st.tm)) (eval E st.tm x)) (kSet K st d ub):=wpS_slSl
theorem kS_lenStr {x:A}:wpStep E Yf ⟨d,.lenStr x,none,nm⟩ st ub K=wpV (lenStrV (eval E st.tm x)) (kSet K st d ub):=wpS_lenStr
theorem kS_lenSl {x:A}:wpStep E Yf ⟨d,.lenSl x,none,nm⟩ st ub K=wpV (lenSlV (eval E st.tm x)) (kSet K st d ub):=wpS_lenSl
theorem kS_lenMap {x:A}:wpStep E Yf ⟨d,.lenMap x,none,nm⟩ st ub K=wpV (lenMapV st.ob (eval E st.tm x)) (kSet K st d ub):=wpS_lenMap
theorem kS_extract {x:A} {i:Nat}:wpStep E Yf ⟨d,.extract x i,none,nm⟩ st ub K=wpV (extractV i (eval E st.tm x)) (kSet K st d ub):=wpS_extract
theorem kS_conv {k:IntKind} {x:A}:wpStep E Yf ⟨d,.conv k x,none,nm⟩ st ub K=wpV (convV k (eval E st.tm x)) (kSet K st d ub):=wpS_conv
theorem kS_minmax {b:Bool} {xs:List A}:wpStep E Yf ⟨d,.minmax b xs,none,nm⟩ st ub K=wpV (minmaxV b (xs.map (eval E st.tm))) (kSet K st d ub):=wpS_minmax
theorem kS_build {z:List V} {ps:List (Nat × Nat × A)}:wpStep E Yf ⟨d,.build z ps,none,nm⟩ st ub K=wpV ((fill z (evalParts (eval E st.tm) ps)).map .agg) (kSet K st d ub):=wpS_build
theorem kS_lookup {q:LK} {z:V} {ok:Bool} {m k:A}:wpStep E Yf ⟨d,.lookup q z ok m k,none,nm⟩ st ub K=wpV (lookupV st.ob q z ok (eval E st.tm m) (eval E st.tm k)) (kSet K st d ub):=wpS_lookup
end
attribute [simp ↓] kC_skip kC_ret kC_exit kC_region kC_seq kC_block kC_cond kOps_nil kOps_cons kStep_guard kS_mov kS_alloc kS_box kS_store kS_iface kS_assert kS_mkFn kS_pick kS_bin kS_un kS_eq kS_load kS_nilCheck kS_fieldAddr kS_idxSl kS_idxArr kS_part kS_idxStr kS_idxVal kS_slStr kS_slSl kS_lenStr kS_lenSl kS_lenMap kS_extract kS_conv kS_minmax kS_build kS_lookup
attribute [simp ↓] kOps_app kNrm_app kSeq_nrm kSeq_exit kSeq_ret kBlk_nrm kBlk_exit kBlk_ret kSet_app kApp_app kIf_true kIf_false kGd_true kGd_false kLoop_nrm kLoop_exit kLoop_ret
attribute [simp] ifK_bool gdK_bool gdK_none gdK_tup wpV_ite wpV_ite' wpD_ite wpD_ite' wpStore_ptr
def V.plain:V→Bool
 | .agg cs=>cs.all V.pureLeaf
 | .fn ..=>false
 | v=>v.pureLeaf
theorem outLeaf_pure {st:St} {keep:Bool} {i:Nat} {v:V} (h:v.pureLeaf=true):outLeaf st keep i v=some v:=by
 cases v with
 | sl t nl n cs=>cases t with
  | none=>rfl
  | some t=>cases h
 | _=>first | rfl | (simp [V.pureLeaf] at h;done) | (simp only [outLeaf,solid,h,if_true])
theorem tok_pure {v:V} (h:v.pureLeaf=true):v.tok=[]:=by
 cases v with
 | sl t nl n cs=>cases t with
  | none=>rfl
  | some t=>cases h
 | _=>first | rfl | (simp [V.pureLeaf] at h;done)
theorem outList_pure {st:St} {keep:Bool}:∀ {i:Nat} {cs:List V},cs.all V.pureLeaf=true→outList st keep i cs=some cs
 | _,[],_=>rfl
 | i,c::cs,h=>by
  simp only [List.all_cons,Bool.and_eq_true] at h
  simp [outList,outLeaf_pure h.1,outList_pure h.2]
theorem plain_top {st:St} {keep:Bool} {i:Nat} {v:V} (h:v.plain=true):outTop st keep i v=some v:=by
 cases v with
 | agg cs=>simp [outTop,outList_pure (show cs.all V.pureLeaf=true from h)]
 | fn=>cases h
 | _=>refine Eq.trans (b:=outLeaf st keep i _) rfl (outLeaf_pure ?_);exact h
theorem plain_toks {v:V} (h:v.plain=true):v.toks=[]:=by
 cases v with
 | agg cs =>
  simp only [V.toks,List.flatMap_eq_nil_iff]
  intro x hx
  exact tok_pure (List.all_eq_true.1 h x hx)
 | fn=>cases h
 | sl t nl n cs=>cases t with
  | none=>rfl
  | some t=>cases h
 | _=>first | rfl | cases h
theorem outTops_plain {st:St} {keep:Bool}:∀ {i:Nat} {l:List V},l.all V.plain=true→outTops st keep i l=some l
 | _,[],_=>rfl
 | i,c::cs,h=>by
  simp only [List.all_cons,Bool.and_eq_true] at h
  simp [outTops,plain_top h.1,outTops_plain h.2]
def tupOf:List V→V
 | [v]=>v
 | l=>.tup l
theorem endV_plain {res:List ARes} {st:St} {l:List V} (hd:st.df=[]) (hr:res.mapM (resOf st)=some l) (hl:l.all V.plain=true):endV res (.ret,st)=some (tupOf l):=by
 have ht:l.flatMap V.toks=[]:=by
  rw [List.flatMap_eq_nil_iff]
  intro x hx
  exact plain_toks (List.all_eq_true.1 hl x hx)
 simp only [endV,dfOk_of hd,noDf_of hd,if_true,hr,Option.bind_some,outRes,ht,nodup,outTops_plain hl,if_true]
 match l with
 | []=>rfl
 | [v]=>rfl
 | v::u::l=>rfl
theorem kEnd_of {res:List ARes} {st:St} {r:V} {l:List V} (hd:st.df=[]) (hr:res.mapM (resOf st)=some l) (hl:l.all V.plain=true) (h:tupOf l=r):kEnd res r .ret st:=by
 subst h
 exact endV_plain hd hr hl
attribute [simp] fill evalParts
theorem inLeaf_pure {ub:Nat} {v:V} (h:v.pureLeaf=true):inLeaf ub v=v:=by
 cases v with
 | sl t nl n cs=>cases t with
  | none=>rfl
  | some t=>cases h
 | _=>rfl
theorem inTop_plain {ub:Nat} {v:V} (h:v.plain=true):inTop ub v=v:=by
 cases v with
 | agg cs =>
  have:cs.map (inLeaf ub)=cs:=by
   conv=>rhs;rw [← List.map_id cs]
   exact List.map_congr_left fun x hx=>inLeaf_pure (List.all_eq_true.1 h x hx)
  simp only [inTop,this]
 | sl t nl n cs=>exact inLeaf_pure h
 | _=>rfl
theorem retA_plain {ub:Nat} {v:V} (h:v.plain=true):retA ub v=some { v:=v }:=by
 have h1:toksRes v=[]:=by
  cases v with
  | tup vs=>cases h
  | _=>exact plain_toks h
 have h2:inRes ub v=v:=by
  cases v with
  | tup vs=>cases h
  | undef=>cases h
  | _=>exact inTop_plain (ub:=ub) h
 simp [retA,h1,h2]
theorem retA_tupl {ub:Nat} {l:List V} (h:l.all V.plain=true):retA ub (.tup l)=some { v:=.tup l }:=by
 have h1:toksRes (.tup l)=[]:=by
  simp only [toksRes,List.flatMap_eq_nil_iff]
  intro x hx
  exact plain_toks (List.all_eq_true.1 h x hx)
 have h2:inRes ub (.tup l) = .tup l:=by
  have:l.map (inTop ub)=l:=by
   conv=>rhs;rw [← List.map_id l]
   exact List.map_congr_left fun x hx=>inTop_plain (List.all_eq_true.1 h x hx)
  simp only [inRes,this]
 simp [retA,h1,h2]
@[simp] theorem eqVV_struct (ob:Nat→Option Obj') (neg:Bool) (l:List LK) (a b:List V):eqVV ob neg (.struct l) (.agg a) (.agg b)=(eqCells l a b).map fun b=>.bool (xor neg b):=rfl
attribute [simp] eqCells eqLeaf
theorem Ev_wpK {E:Env} {f:FuncId} {af:AF} {args:List V} {r:V} (hf:E.fc f=some af) (h:wpC E noYF af.body (start args) (kEnd af.res r)):Ev E f args r:=Ev_wp hf h
theorem wp_loopK {E:Env} {Yf:YF} {a:C} {Q:Ex→St→Prop} (I:Nat→St→Prop) {n:Nat} {st:St} (h0:I n st) (hs:∀ k s,I k s→wpC E Yf a s (kLoop I k Q)):wpC E Yf (.loop a) st Q :=
 wp_loop I h0 hs
theorem kS_call {E:Env} {Yf:YF} {st:St} {ub:Nat} {K:St→Nat→Prop} {d:Option Nat} {nm:Bool} {f:FuncId} {xs:List A} {vs:List V} {v:V} (hx:xs.map (eval E st.tm)=vs) (hs:E.sh nm f=false) (hp:(vs.all fun v=>v.strip.pureTop)=true)
 (hv:Ev E f (vs.map V.strip) v) (h:wpD (retA ub v) (kApp K st d ub)):wpStep E Yf ⟨d,.call f xs,none,nm⟩ st ub K:=wpS_callE hx hs hp hv h
end Go.Pv
namespace Go.Pv.T
open Go Go.Pv Go.Proofs
noncomputable section
noncomputable def cf (m r:Bool) (f:Func):AF:=(compF Tryz.prog m r f).getD ⟨.stuck,[]⟩
abbrev oo (d:Nat) (p:AOp):AOpr:=⟨some d,p,none,false⟩
abbrev qq (d:Nat) (p:AOp):AOpr:=⟨some d,p,none,true⟩
abbrev ou (p:AOp):AOpr:=⟨none,p,none,false⟩
abbrev qu (p:AOp):AOpr:=⟨none,p,none,true⟩
abbrev og (d:Nat) (p:AOp) (t:Nat) (b:Bool):AOpr:=⟨some d,p,some (t,b),false⟩
abbrev qg (d:Nat) (p:AOp) (t:Nat) (b:Bool):AOpr:=⟨some d,p,some (t,b),true⟩
abbrev oh (p:AOp) (t:Nat) (b:Bool):AOpr:=⟨none,p,some (t,b),false⟩
abbrev qh (p:AOp) (t:Nat) (b:Bool):AOpr:=⟨none,p,some (t,b),true⟩
abbrev ov (d k:Nat):AOpr:=⟨some d,.mov (.t k),none,false⟩
abbrev qv (d k:Nat):AOpr:=⟨some d,.mov (.t k),none,true⟩
abbrev nn (k:Int):A:=.c (.int .i64 k)
abbrev ol (d k:Nat):AOpr:=⟨some d,.load none (.t k),none,false⟩
abbrev os (d n k:Nat):AOpr:=⟨some d,.load (some n) (.t k),none,false⟩
abbrev ox (d s a b:Nat):AOpr:=⟨some d,.idxSl s (.t a) (.t b),none,false⟩
abbrev om (d:Nat) (k:Int):AOpr:=⟨some d,.mov (nn k),none,false⟩
abbrev oe (d k i:Nat):AOpr:=⟨some d,.extract (.t k) i,none,false⟩
abbrev of (d n k:Nat):AOpr:=⟨some d,.fieldAddr n (.t k),none,false⟩
abbrev on (d:Nat) (p:BinOp) (a:Nat) (k:Int):AOpr:=⟨some d,.bin p (.t a) (nn k),none,false⟩
abbrev ob (d:Nat) (p:BinOp) (a b:Nat):AOpr:=⟨some d,.bin p (.t a) (.t b),none,false⟩
abbrev ql (d k:Nat):AOpr:=⟨some d,.load none (.t k),none,true⟩
abbrev qs (d n k:Nat):AOpr:=⟨some d,.load (some n) (.t k),none,true⟩
abbrev qx (d s a b:Nat):AOpr:=⟨some d,.idxSl s (.t a) (.t b),none,true⟩
abbrev qm (d:Nat) (k:Int):AOpr:=⟨some d,.mov (nn k),none,true⟩
abbrev qe (d k i:Nat):AOpr:=⟨some d,.extract (.t k) i,none,true⟩
abbrev qf (d n k:Nat):AOpr:=⟨some d,.fieldAddr n (.t k),none,true⟩
abbrev qn (d:Nat) (p:BinOp) (a:Nat) (k:Int):AOpr:=⟨some d,.bin p (.t a) (nn k),none,true⟩
abbrev qb (d:Nat) (p:BinOp) (a b:Nat):AOpr:=⟨some d,.bin p (.t a) (.t b),none,true⟩
abbrev sr (l:List AOpr) (b:C):C:=.seq (.region l) b
def F5:AF:=⟨sr [oo 2 (.box 3 (.t 0)),oo 3 (.box 2 (.t 1)),oo 4 (.mov (.c (.bool false)))] (.seq (sr [oo 8 (.call 20 []),oo 9 (.un .not (.t 8))] (.cond (.t 9) (sr [oo 4 (.mov (.c (.bool false)))] (.ret)) (.skip))) (.seq (.draw [os 10 3 2,oo 11 (.call 15 [.t 10]),os 12 2 3,oo 13 (.call 16 [.t 12]),ou (.store 3 (.t 2) (.t 11)),ou (.store 2 (.t 3) (.t 13))] []) (.seq (.draw [os 14 3 2,os 15 2 3,oo 16 (.call 19 [(nn 3),(.t 14),(.t 15)]),os 17 3 2,os 18 2 3,oo 19 (.call 19 [(nn 2),(.t 17),(.t 18)]),os 20 3 2,os 21 2 3,oo 22 (.call 19 [(nn 1),(.t 20),(.t 21)]),ov 5 16,ov 6 19,ov 7 22] []) (sr [ov 23 5,oo 24 (.un .not (.t 23)),ov 25 24,og 26 (.mov (.t 6)) 25 false,oo 27 (.pick (.t 25) (.c (.bool true)) (.t 26)),ov 28 27,og 29 (.mov (.t 6)) 28 true,og 30 (.un .not (.t 29)) 28 true,og 31 (.mov (.t 30)) 28 true,og 32 (.mov (.t 7)) 31 false,og 33 (.pick (.t 31) (.c (.bool true)) (.t 32)) 28 true,oo 34 (.pick (.t 28) (.t 33) (.c (.bool false))),ov 4 34] (.ret))))),[.t 4]⟩
def F15:AF:=⟨sr [qq 1 (.box 3 (.t 0)),qq 2 (.alloc [(.sl none true 0 []),(.sl none true 0 []),(.sl none true 0 [])])] (sr [qs 4 3 1,qq 5 (.call 51 [.t 4]),qu (.store 3 (.t 1) (.t 5))] (.seq (sr [qf 6 2 1,ql 7 6,qq 8 (.lenSl (.t 7)),qn 9 .gtr 8 8] (.cond (.t 9) (.region [qf 10 2 1,qu (.store 1 (.t 10) (.c (.sl none true 0 [])))]) (.skip))) (.seq (sr [qm 3 0] (.block 0 (.loop (.seq (sr [qv 11 3,qf 12 2 1,ql 13 12,qq 14 (.lenSl (.t 13)),qb 15 .lss 11 14] (.cond (.t 15) (.skip) (.exit 0))) (.seq (.block 1 (.draw [qf 18 2 1,ql 19 18,qv 20 3,qf 21 2 1,ql 22 21,qv 23 3,qx 24 3 22 23,qf 25 2 24,ql 26 25,qf 27 2 1,ql 28 27,qv 29 3,qx 30 3 28 29,qf 31 2 30,ql 32 31,qq 33 (.lenSl (.t 32)),qq 34 (.minmax false [(.t 33),(nn 6)]),qq 35 (.slSl 4 (.t 26) none (some (.t 34))),qx 36 3 19 20,qf 37 2 36,qu (.store 1 (.t 37) (.t 35))] [])) (.region [qv 16 3,qn 17 .add 16 1,qv 3 17])))))) (sr [qs 38 3 1,qu (.store 3 (.t 2) (.t 38))] (.ret))))),[.cell 2 (some 3)]⟩
def F16:AF:=⟨sr [oo 1 (.box 2 (.t 0)),oo 2 (.alloc [(.sl none true 0 []),(.sl none true 0 [])])] (.seq (.draw [of 3 0 1,ol 4 3,of 5 0 1,ol 6 5,oo 7 (.lenSl (.t 6)),oo 8 (.minmax false [(.t 7),(nn 60)]),oo 9 (.slSl 1 (.t 4) none (some (.t 8))),oo 10 (.call 25 [.t 9]),of 11 1 1,ol 12 11,of 13 1 1,ol 14 13,oo 15 (.lenSl (.t 14)),oo 16 (.minmax false [(.t 15),(nn 60)]),oo 17 (.slSl 1 (.t 12) none (some (.t 16))),oo 18 (.call 25 [.t 17]),oo 19 (.build [(.sl none true 0 []),(.sl none true 0 [])] [(0,1,(.t 10)),(1,1,(.t 18))]),ou (.store 2 (.t 2) (.t 19))] []) (.ret)),[.cell 2 (some 2)]⟩
def F18:AF:=⟨sr [qq 4 (.box 3 (.t 1)),qq 5 (.box 2 (.t 2)),qm 6 0] (.seq (.block 0 (sr [qs 8 3 4,qq 9 (.call 52 [.t 8]),qq 10 (.un .not (.t 9)),qv 7 10] (.cond (.t 7) (sr [qm 6 4] (.ret)) (sr [qv 12 0,qn 13 .lss 12 1,qv 14 13,qg 15 (.mov (.t 0)) 14 false,qg 16 (.bin .gtr (.t 15) (nn 3)) 14 false,qq 17 (.pick (.t 14) (.c (.bool true)) (.t 16)),qv 11 17] (.cond (.t 11) (sr [qm 6 2] (.ret)) (.seq (.seq (.draw [qs 19 3 4,qf 20 0 5,ql 21 20,qq 22 (.call 53 [.t 19,.t 21]),qq 23 (.un .not (.t 22)),qv 24 23,qg 25 (.load (some 3) (.t 4)) 24 false,qg 26 (.fieldAddr 1 (.t 5)) 24 false,qg 27 (.load none (.t 26)) 24 false,qg 28 (.call 54 [.t 25,.t 27]) 24 false,qg 29 (.un .not (.t 28)) 24 false,qq 30 (.pick (.t 24) (.c (.bool true)) (.t 29)),qv 31 30,qg 32 (.mov (.t 0)) 31 false,qg 33 (.load (some 3) (.t 4)) 31 false,qg 34 (.fieldAddr 0 (.t 5)) 31 false,qg 35 (.load none (.t 34)) 31 false,qu (.mov (.c (.tup []))),qg 37 (.fieldAddr 1 (.t 5)) 31 false,qg 38 (.load none (.t 37)) 31 false] []) (.seq (.pin (qg 36 (.call 55 [.t 32,.t 33,.t 35]) 31 false) [qg 37 (.fieldAddr 1 (.t 5)) 31 false,qg 38 (.load none (.t 37)) 31 false]) (.region [qg 39 (.call 56 [.t 36,.t 38]) 31 false,qg 40 (.un .not (.t 39)) 31 false,qq 41 (.pick (.t 31) (.c (.bool true)) (.t 40)),qv 18 41]))) (.cond (.t 18) (sr [qm 6 14] (.ret)) (.skip)))))))) (sr [qm 6 0] (.ret))),[.t 6]⟩
def F19:AF:=⟨sr [oo 4 (.box 3 (.t 1)),oo 5 (.box 2 (.t 2)),oo 6 (.mov (.c (.bool false)))] (sr [ov 7 0,os 8 3 4,os 9 2 5,oo 10 (.call 18 [.t 7,.t 8,.t 9]),on 11 .eql 10 0,ov 6 11] (.ret)),[.t 6]⟩
def F20:AF:=⟨sr [oo 0 (.mov (.c (.bool false)))] (sr [oo 5 (.call 57 [(.c (.str [98,101,103,105,110,32,115,10,114,101,97,100,32,115,32,120,32,110,105,108,10,111,107,32,115]))]),ov 4 5,oe 6 4 0,oe 7 4 1,oe 8 4 2,oo 1 (.alloc [(.sl none true 0 []),(.sl none true 0 []),(.sl none true 0 [])]),ou (.store 3 (.t 1) (.t 6)),ov 2 7,ov 3 8] (sr [ov 9 3,on 10 .eql 9 0,ov 11 10,og 12 (.load (some 3) (.t 1)) 11 true,og 13 (.buildSl false 1 [(.int .i64 0)] [(0,1,(nn (-1)))] 1) 11 true,og 14 (.buildSl false 1 [(.int .i64 0)] [(0,1,(nn 0))] 1) 11 true,og 15 (.build [(.sl none true 0 []),(.sl none true 0 [])] [(0,1,(.t 13)),(1,1,(.t 14))]) 11 true,og 16 (.call 18 [(nn 3),(.t 12),(.t 15)]) 11 true,og 17 (.bin .eql (.t 16) (nn 0)) 11 true,oo 18 (.pick (.t 11) (.t 17) (.c (.bool false))),ov 19 18,og 20 (.load (some 3) (.t 1)) 19 true,og 21 (.buildSl false 1 [(.int .i64 0)] [(0,1,(nn (-1)))] 1) 19 true,og 22 (.build [(.sl none true 0 []),(.sl none true 0 [])] [(0,1,(.t 21))]) 19 true,og 23 (.call 18 [(nn 3),(.t 20),(.t 22)]) 19 true,og 24 (.bin .eql (.t 23) (nn 14)) 19 true,oo 25 (.pick (.t 19) (.t 24) (.c (.bool false))),ov 26 25,og 27 (.load (some 3) (.t 1)) 26 true,og 28 (.buildSl false 1 [(.int .i64 0)] [(0,1,(nn (-1)))] 1) 26 true,og 29 (.buildSl false 1 [(.int .i64 0)] [(0,1,(nn 0))] 1) 26 true,og 30 (.build [(.sl none true 0 []),(.sl none true 0 [])] [(0,1,(.t 28)),(1,1,(.t 29))]) 26 true,og 31 (.call 19 [(nn 1),(.t 27),(.t 30)]) 26 true,oo 32 (.pick (.t 26) (.t 31) (.c (.bool false))),ov 0 32] (.ret))),[.t 0]⟩
def F25:AF:=⟨sr [oo 2 (.mov (.c (.sl none true 0 [])))] (sr [oo 3 (.buildSl false 1 [] [] 0),ov 4 0,oo 5 (.append false 1 8 (.t 3) (.t 4)),ov 2 5] (.ret)),[.t 2]⟩
def F52:AF:=⟨sr [oo 1 (.box 3 (.t 0)),oo 2 (.mov (.c (.bool false)))] (sr [os 3 3 1,oo 4 (.call 103 [.t 3]),on 5 .eql 4 0,ov 6 5,og 7 (.load (some 3) (.t 1)) 6 true,og 8 (.call 104 [.t 7]) 6 true,og 9 (.lenSl (.t 8)) 6 true,og 10 (.bin .eql (.t 9) (nn 0)) 6 true,oo 11 (.pick (.t 6) (.t 10) (.c (.bool false))),ov 12 11,og 13 (.load (some 3) (.t 1)) 12 true,og 14 (.call 105 [.t 13]) 12 true,og 15 (.lenSl (.t 14)) 12 true,og 16 (.bin .eql (.t 15) (nn 0)) 12 true,oo 17 (.pick (.t 12) (.t 16) (.c (.bool false))),ov 2 17] (.ret)),[.t 2]⟩
def F53:AF:=⟨sr [oo 2 (.box 3 (.t 0)),oo 4 (.mov (.c (.bool false)))] (sr [os 9 3 2,ov 10 1,oo 11 (.call 106 [.t 9,.t 10]),ov 8 11,oe 12 8 0,oe 13 8 1,oe 14 8 2,ov 5 12,ov 6 13,ov 7 14] (sr [ov 15 7,ov 4 15] (.ret))),[.t 4]⟩
def F54:AF:=⟨sr [oo 2 (.box 3 (.t 0)),oo 4 (.mov (.c (.bool false)))] (sr [ov 6 1,oo 7 (.call 68 [.t 6]),ov 5 7] (sr [ov 8 5,oo 9 (.call 69 [.t 8])] (sr [ov 10 5,os 11 3 2,oo 12 (.call 71 [.t 11]),oo 13 (.call 70 [.t 10,.t 12]),ov 4 13] (.ret)))),[.t 4]⟩
def F57:AF:=cf false false Tryz.f57
def F70:AF:=⟨sr [oo 4 (.mov (.c (.bool false)))] (.seq (sr [ov 6 0,oo 7 (.lenSl (.t 6)),ov 8 1,oo 9 (.lenSl (.t 8)),ob 10 .neq 7 9] (.cond (.t 10) (sr [oo 4 (.mov (.c (.bool false)))] (.ret)) (.skip))) (.seq (sr [ov 11 0,oo 12 (.lenSl (.t 11)),om 13 0] (.block 0 (.loop (sr [ob 14 .lss 13 12] (.seq (.cond (.t 14) (.skip) (.exit 0)) (.seq (.block 1 (sr [ov 15 13,ov 5 15] (.seq (.draw [ov 16 0,ov 17 5,ox 18 1 16 17,ol 19 18,ov 20 1,ov 21 5,ox 22 1 20 21,ol 23 22,ob 24 .neq 19 23] []) (.cond (.t 24) (sr [oo 4 (.mov (.c (.bool false)))] (.ret)) (.skip))))) (.region [on 25 .add 13 1,ov 13 25]))))))) (sr [oo 4 (.mov (.c (.bool true)))] (.ret)))),[.t 4]⟩
def F71:AF:=⟨sr [oo 1 (.box 3 (.t 0)),oo 2 (.mov (.c (.sl none true 0 [])))] (.seq (sr [os 6 3 1,oo 7 (.call 52 [.t 6]),oo 8 (.un .not (.t 7))] (.cond (.t 8) (sr [oo 2 (.mov (.c (.sl none true 0 [])))] (.ret)) (.skip))) (sr [oo 3 (.mov (.c (.sl none true 0 [])))] (.seq (sr [of 9 2 1,ol 10 9,oo 11 (.lenSl (.t 10)),om 12 0] (.block 0 (.loop (sr [ob 13 .lss 12 11] (.seq (.cond (.t 13) (.skip) (.exit 0)) (.seq (.block 1 (sr [ov 14 12,ox 15 3 10 12,os 16 3 15,oo 5 (.alloc [(.int .i64 0),(.int .i64 0),(.sl none true 0 [])]),ov 4 14,ou (.store 3 (.t 5) (.t 16))] (sr [of 17 1 5,ol 18 17,on 19 .eql 18 1] (.cond (.t 19) (.region [ov 20 3,ov 21 4,oo 22 (.buildSl false 1 [(.int .i64 0)] [(0,1,(.t 21))] 1),oo 23 (.append false 1 8 (.t 20) (.t 22)),ov 3 23]) (.skip))))) (.region [on 24 .add 12 1,ov 12 24]))))))) (sr [ov 25 3,ov 2 25] (.ret))))),[.t 2]⟩
def F86:AF:=⟨sr [oo 1 (.box 3 (.t 0)),oo 2 (.mov (.c (.sl none true 0 [])))] (sr [oo 3 (.mov (.c (.sl none true 0 [])))] (.seq (sr [os 8 3 1,oo 9 (.call 71 [.t 8]),oo 10 (.lenSl (.t 9)),om 11 0] (.block 0 (.loop (sr [ob 12 .lss 11 10] (.seq (.cond (.t 12) (.skip) (.exit 0)) (.seq (.block 1 (sr [ox 13 1 9 11,ol 14 13,ov 5 14] (sr [of 15 2 1,ol 16 15,ov 17 5,ox 18 3 16 17,of 19 2 18,ol 20 19,oo 21 (.lenSl (.t 20)),om 22 0] (.block 2 (.loop (sr [ob 23 .lss 22 21] (.seq (.cond (.t 23) (.skip) (.exit 2)) (.seq (.block 3 (sr [ov 24 22,ov 6 24] (sr [ov 25 5,ov 26 6,oo 27 (.build [(.int .i64 0),(.int .i64 0)] [(0,1,(.t 25)),(1,1,(.t 26))]),oo 7 (.alloc [(.int .i64 0),(.int .i64 0)]),ou (.store 2 (.t 7) (.t 27))] (sr [os 28 3 1,os 29 2 7,oo 30 (.call 136 [.t 28,.t 29])] (.cond (.t 30) (.region [ov 31 3,os 32 2 7,oo 33 (.buildSl false 2 [(.int .i64 0),(.int .i64 0)] [(0,2,(.t 32))] 1),oo 34 (.append false 2 16 (.t 31) (.t 33)),ov 3 34]) (.skip)))))) (.region [on 35 .add 22 1,ov 22 35]))))))))) (.region [on 36 .add 11 1,ov 11 36]))))))) (sr [ov 37 3,ov 2 37] (.ret)))),[.t 2]⟩
def F103:AF:=⟨sr [oo 1 (.box 3 (.t 0)),oo 2 (.alloc [(.int .i64 0)])] (.seq (sr [os 5 3 1,oo 6 (.call 152 [.t 5]),oo 7 (.un .not (.t 6)),ov 8 7,og 9 (.fieldAddr 2 (.t 1)) 8 false,og 10 (.load none (.t 9)) 8 false,og 11 (.mkFn (.func 154) [] [.t 1]) 8 false,og 12 (.call 153 [.t 10,.t 11]) 8 false,oo 13 (.pick (.t 8) (.c (.bool true)) (.t 12))] (.cond (.t 13) (sr [ou (.store 1 (.t 2) (nn 4))] (.ret)) (.skip))) (.seq (sr [os 14 3 1,oo 15 (.call 156 [.t 14])] (.block 0 (.rangeFunc (.t 15) [16,17] (.region [oo 4 (.alloc [(.bool false),(.int .i64 0),(.int .i64 0),(.int .i64 0)]),ou (.store 4 (.t 4) (.t 17))]) (.block 1 (sr [os 18 3 1,os 19 4 4,oo 20 (.call 157 [.t 18,.t 19]),oo 21 (.un .not (.t 20))] (.cond (.t 21) (sr [ou (.store 1 (.t 2) (nn 4))] (.ret)) (.skip))))))) (.seq (sr [os 22 3 1,oo 23 (.call 158 [.t 22]),oo 24 (.un .not (.t 23))] (.cond (.t 24) (sr [ou (.store 1 (.t 2) (nn 4))] (.ret)) (.skip))) (sr [ou (.store 1 (.t 2) (nn 0))] (.ret))))),[.cell 2 none]⟩
def F104:AF:=⟨sr [oo 1 (.box 3 (.t 0)),oo 2 (.mov (.c (.sl none true 0 [])))] (sr [os 3 3 1,oo 4 (.call 159 [(.t 3),(.c (.fn (.func 160) [] []))]),ov 2 4] (.ret)),[.t 2]⟩
def F105:AF:=⟨sr [oo 1 (.box 3 (.t 0)),oo 2 (.mov (.c (.sl none true 0 [])))] (.seq (sr [os 6 3 1,oo 7 (.call 103 [.t 6]),on 8 .neq 7 0] (.cond (.t 8) (sr [oo 2 (.mov (.c (.sl none true 0 [])))] (.ret)) (.skip))) (sr [oo 3 (.alloc [(.sl none true 0 [])])] (.seq (sr [os 9 3 1,oo 10 (.call 156 [.t 9])] (.block 0 (.rangeFunc (.t 10) [11,12] (sr [oo 4 (.alloc [(.int .i64 0),(.int .i64 0)]),ou (.store 2 (.t 4) (.t 11))] (.region [oo 5 (.alloc [(.bool false),(.int .i64 0),(.int .i64 0),(.int .i64 0)]),ou (.store 4 (.t 5) (.t 12))])) (.block 1 (sr [of 13 2 5,of 14 0 13,ol 15 14,on 16 .eql 15 2] (.cond (.t 16) (.region [ol 17 3,os 18 2 4,oo 19 (.buildSl false 2 [(.int .i64 0),(.int .i64 0)] [(0,2,(.t 18))] 1),oo 20 (.append false 2 16 (.t 17) (.t 19)),ou (.store 1 (.t 3) (.t 20))]) (.skip))))))) (sr [ol 21 3,ov 2 21] (.ret))))),[.t 2]⟩
def F106:AF:=⟨sr [qq 2 (.box 3 (.t 0)),qq 4 (.mov (.c (.sl none true 0 []))),qq 5 (.mov (.c (.sl none true 0 []))),qq 6 (.mov (.c (.bool false)))] (sr [qs 11 3 2,qq 12 (.call 161 [.t 11]),qv 7 12] (.seq (sr [qs 13 3 2,qq 14 (.call 52 [.t 13]),qq 15 (.un .not (.t 14)),qv 16 15,qg 17 (.mov (.t 7)) 16 false,qg 18 (.lenSl (.t 17)) 16 false,qg 19 (.mov (.t 1)) 16 false,qg 20 (.lenSl (.t 19)) 16 false,qg 21 (.bin .neq (.t 18) (.t 20)) 16 false,qq 22 (.pick (.t 16) (.c (.bool true)) (.t 21))] (.cond (.t 22) (sr [qq 4 (.mov (.c (.sl none true 0 []))),qq 5 (.mov (.c (.sl none true 0 []))),qq 6 (.mov (.c (.bool false)))] (.ret)) (.skip))) (sr [qv 23 1,qq 24 (.lenSl (.t 23)),qq 25 (.mkSl true 1 8 [(.int .i64 0)] (.t 24) (.t 24)),qv 8 25] (.seq (sr [qv 26 7,qq 27 (.lenSl (.t 26)),qm 28 0] (.block 0 (.loop (sr [qb 29 .lss 28 27] (.seq (.cond (.t 29) (.skip) (.exit 0)) (.seq (.block 1 (sr [qv 30 28,qx 31 1 26 28,ql 32 31,qv 9 30,qv 10 32] (sr [qv 33 8,qv 34 9,qv 35 10,qv 36 1,qv 37 9,qx 38 1 36 37,ql 39 38,qq 40 (.call 127 [.t 35,.t 39]),qx 41 1 33 34,qu (.store 1 (.t 41) (.t 40))] (sr [qv 42 8,qv 43 9,qx 44 1 42 43,ql 45 44,qn 46 .lss 45 0] (.cond (.t 46) (sr [qq 4 (.mov (.c (.sl none true 0 []))),qq 5 (.mov (.c (.sl none true 0 []))),qq 6 (.mov (.c (.bool false)))] (.ret)) (.skip)))))) (.region [qn 47 .add 28 1,qv 28 47]))))))) (sr [qv 48 7,qv 49 8,qv 4 48,qv 5 49,qq 6 (.mov (.c (.bool true)))] (.ret)))))),[.t 4,.t 5,.t 6]⟩
def F108:AF:=cf false false Tryz.f108
def F109:AF:=cf true false Tryz.f109
def F114:AF:=⟨sr [oo 2 (.box 3 (.t 0)),oo 4 (.mov (.c (.sl none true 0 [])))] (sr [oo 5 (.mov (.c (.sl none true 0 [])))] (sr [os 11 3 2,ov 12 1,oo 13 (.call 176 [.t 11,.t 12]),ov 6 13] (.seq (sr [ov 14 6,oo 15 (.lenSl (.t 14)),om 16 0] (.block 0 (.loop (sr [ob 17 .lss 16 15] (.seq (.cond (.t 17) (.skip) (.exit 0)) (.seq (.block 1 (sr [ov 18 16,ox 19 4 14 16,os 20 4 19,oo 8 (.alloc [(.bool false),(.int .i64 0),(.int .i64 0),(.int .i64 0)]),ov 7 18,ou (.store 4 (.t 8) (.t 20))] (.seq (sr [of 21 0 8,ol 22 21,ov 23 22,og 24 (.fieldAddr 2 (.t 8)) 23 false,og 25 (.fieldAddr 0 (.t 24)) 23 false,og 26 (.load none (.t 25)) 23 false,og 27 (.bin .eql (.t 26) (nn 2)) 23 false,oo 28 (.pick (.t 23) (.c (.bool true)) (.t 27))] (.cond (.t 28) (.exit 1) (.skip))) (.seq (.draw [ov 30 6,ov 31 7,oo 32 (.slSl 4 (.t 30) none (some (.t 31))),of 33 1 8,ol 34 33,oo 35 (.call 177 [.t 32,.t 34]),ov 29 35,oe 36 29 0,oe 37 29 1,oo 9 (.alloc [(.int .i64 0),(.int .i64 0)]),ou (.store 2 (.t 9) (.t 36)),ov 10 37] [(4,9),(5,9)]) (sr [ov 38 10,ov 39 38,og 40 (.load (some 2) (.t 9)) 39 true,og 41 (.fieldAddr 2 (.t 8)) 39 true,og 42 (.load (some 2) (.t 41)) 39 true,og 43 (.eq true (.struct [.int,.int]) (.t 40) (.t 42)) 39 true,oo 44 (.pick (.t 39) (.t 43) (.c (.bool false)))] (.cond (.t 44) (.region [ov 45 5,ov 46 7,oo 47 (.buildSl false 1 [(.int .i64 0)] [(0,1,(.t 46))] 1),oo 48 (.append false 1 8 (.t 45) (.t 47)),ov 5 48]) (.skip))))))) (.region [on 49 .add 16 1,ov 16 49]))))))) (sr [ov 50 5,ov 4 50] (.ret))))),[.t 4]⟩
def F116:AF:=⟨sr [oo 3 (.box 3 (.t 0)),oo 6 (.alloc [(.int .i64 0),(.int .i64 0)]),oo 7 (.mov (.c (.bool false)))] (sr [os 8 3 3,ov 9 1,oo 10 (.call 176 [.t 8,.t 9]),ov 11 2,oo 12 (.call 177 [.t 10,.t 11]),oe 13 12 0,oe 14 12 1,ou (.store 2 (.t 6) (.t 13)),ov 7 14] (.ret)),[.cell 6 (some 2),.t 7]⟩
def F118:AF:=cf false false Tryz.f118
def F127:AF:=⟨sr [om 4 0] (.seq (sr [ov 6 0,oo 7 (.lenSl (.t 6)),om 8 0] (.block 0 (.loop (sr [ob 9 .lss 8 7] (.seq (.cond (.t 9) (.skip) (.exit 0)) (.seq (.block 1 (sr [ov 10 8,ov 5 10] (sr [ov 11 1,ov 12 0,ov 13 5,ox 14 1 12 13,ol 15 14,ob 16 .eql 11 15] (.cond (.t 16) (sr [ov 17 5,ov 4 17] (.ret)) (.skip))))) (.region [on 18 .add 8 1,ov 8 18]))))))) (sr [oo 4 (.mov (nn (-1)))] (.ret))),[.t 4]⟩
def F136:AF:=⟨sr [oo 2 (.box 3 (.t 0)),oo 3 (.box 2 (.t 1)),oo 4 (.mov (.c (.bool false)))] (sr [os 8 3 2,of 9 0 3,ol 10 9,oo 11 (.call 176 [.t 8,.t 10]),ov 5 11] (.seq (sr [of 12 1 3,ol 13 12,on 14 .lss 13 0,ov 15 14,og 16 (.fieldAddr 1 (.t 3)) 15 false,og 17 (.load none (.t 16)) 15 false,og 18 (.mov (.t 5)) 15 false,og 19 (.lenSl (.t 18)) 15 false,og 20 (.bin .geq (.t 17) (.t 19)) 15 false,oo 21 (.pick (.t 15) (.c (.bool true)) (.t 20)),ov 22 21,og 23 (.mov (.t 5)) 22 false,og 24 (.fieldAddr 1 (.t 3)) 22 false,og 25 (.load none (.t 24)) 22 false,og 26 (.idxSl 4 (.t 23) (.t 25)) 22 false,og 27 (.fieldAddr 0 (.t 26)) 22 false,og 28 (.load none (.t 27)) 22 false,oo 29 (.pick (.t 22) (.c (.bool true)) (.t 28))] (.cond (.t 29) (sr [oo 4 (.mov (.c (.bool false)))] (.ret)) (.skip))) (.seq (.draw [ov 31 5,of 32 1 3,ol 33 32,oo 34 (.slSl 4 (.t 31) none (some (.t 33))),ov 35 5,of 36 1 3,ol 37 36,ox 38 4 35 37,of 39 1 38,ol 40 39,oo 41 (.call 177 [.t 34,.t 40]),ov 30 41,oe 42 30 0,oe 43 30 1,oo 6 (.alloc [(.int .i64 0),(.int .i64 0)]),ou (.store 2 (.t 6) (.t 42)),ov 7 43] [(2,14),(6,14),(9,14),(10,14)]) (sr [ov 44 7,oo 45 (.un .not (.t 44)),ov 4 45] (.ret))))),[.t 4]⟩
def F152:AF:=⟨sr [oo 1 (.box 3 (.t 0)),oo 2 (.mov (.c (.bool false)))] (sr [of 3 0 1,ol 4 3,oo 5 (.call 212 [.t 4]),ov 6 5,og 7 (.fieldAddr 1 (.t 1)) 6 true,og 8 (.load none (.t 7)) 6 true,og 9 (.call 212 [.t 8]) 6 true,oo 10 (.pick (.t 6) (.t 9) (.c (.bool false))),ov 11 10,og 12 (.fieldAddr 0 (.t 1)) 11 true,og 13 (.load none (.t 12)) 11 true,og 14 (.lenSl (.t 13)) 11 true,og 15 (.bin .leq (.t 14) (nn 20)) 11 true,oo 16 (.pick (.t 11) (.t 15) (.c (.bool false))),ov 17 16,og 18 (.fieldAddr 1 (.t 1)) 17 true,og 19 (.load none (.t 18)) 17 true,og 20 (.lenSl (.t 19)) 17 true,og 21 (.bin .leq (.t 20) (nn 40)) 17 true,oo 22 (.pick (.t 17) (.t 21) (.c (.bool false))),ov 23 22,og 24 (.fieldAddr 2 (.t 1)) 23 true,og 25 (.load none (.t 24)) 23 true,og 26 (.lenSl (.t 25)) 23 true,og 27 (.bin .leq (.t 26) (nn 40)) 23 true,oo 28 (.pick (.t 23) (.t 27) (.c (.bool false))),ov 2 28] (.ret)),[.t 2]⟩
def F155:AF:=⟨sr [oo 2 (.box 3 (.t 0)),oo 3 (.box 3 (.t 1)),oo 4 (.mov (.c (.bool false)))] (sr [of 5 0 3,ol 6 5,of 7 0 2,ol 8 7,oo 9 (.call 214 [.t 6,.t 8]),ov 10 9,og 11 (.fieldAddr 1 (.t 3)) 10 true,og 12 (.load none (.t 11)) 10 true,og 13 (.bin .geq (.t 12) (nn 1)) 10 true,oo 14 (.pick (.t 10) (.t 13) (.c (.bool false))),ov 15 14,og 16 (.fieldAddr 1 (.t 3)) 15 true,og 17 (.load none (.t 16)) 15 true,og 18 (.bin .leq (.t 17) (nn 3)) 15 true,oo 19 (.pick (.t 15) (.t 18) (.c (.bool false))),ov 20 19,og 21 (.fieldAddr 2 (.t 3)) 20 true,og 22 (.load none (.t 21)) 20 true,og 23 (.lenSl (.t 22)) 20 true,og 24 (.bin .leq (.t 23) (nn 20)) 20 true,oo 25 (.pick (.t 20) (.t 24) (.c (.bool false))),ov 4 25] (.ret)),[.t 4]⟩
def F157:AF:=⟨sr [oo 2 (.box 3 (.t 0)),oo 3 (.box 4 (.t 1)),oo 4 (.mov (.c (.bool false)))] (sr [of 5 1 3,ol 6 5,of 7 1 2,ol 8 7,oo 9 (.call 214 [.t 6,.t 8]),ov 10 9,og 11 (.fieldAddr 2 (.t 3)) 10 true,og 12 (.load (some 2) (.t 11)) 10 true,og 13 (.call 216 [.t 12]) 10 true,oo 14 (.pick (.t 10) (.t 13) (.c (.bool false))),ov 15 14,og 16 (.fieldAddr 0 (.t 3)) 15 true,og 17 (.load none (.t 16)) 15 true,og 18 (.un .not (.t 17)) 15 true,og 19 (.mov (.t 18)) 15 true,og 20 (.fieldAddr 2 (.t 3)) 19 false,og 21 (.fieldAddr 0 (.t 20)) 19 false,og 22 (.load none (.t 21)) 19 false,og 23 (.bin .eql (.t 22) (nn 1)) 19 false,og 24 (.pick (.t 19) (.c (.bool true)) (.t 23)) 15 true,oo 25 (.pick (.t 15) (.t 24) (.c (.bool false))),ov 4 25] (.ret)),[.t 4]⟩
def F158:AF:=⟨sr [oo 1 (.box 3 (.t 0)),oo 2 (.mov (.c (.bool false)))] (sr [oo 9 (.mkMap),oo 10 (.mkMap),oo 4 (.alloc [.nilmap]),ov 3 9,ou (.store 1 (.t 4) (.t 10))] (.seq (sr [of 11 2 1,ol 12 11,oo 13 (.lenSl (.t 12)),om 14 0] (.block 0 (.loop (sr [ob 15 .lss 14 13] (.seq (.cond (.t 15) (.skip) (.exit 0)) (.seq (.block 1 (sr [ox 16 3 12 14,os 17 3 16,oo 6 (.alloc [(.int .i64 0),(.int .i64 0),(.sl none true 0 [])]),ou (.store 3 (.t 6) (.t 17))] (.region [ov 18 3,of 19 0 6,ol 20 19,oo 21 (.lookup .int (.int .i64 0) false (.t 18) (.t 20)),on 22 .add 21 1,ou (.mapSet .int (.t 18) (.t 20) (.t 22))]))) (.region [on 23 .add 14 1,ov 14 23]))))))) (.seq (sr [os 24 3 1,oo 25 (.call 156 [.t 24])] (.block 2 (.rangeFunc (.t 25) [26,27] (.region [oo 8 (.alloc [(.bool false),(.int .i64 0),(.int .i64 0),(.int .i64 0)]),ou (.store 4 (.t 8) (.t 27))]) (.block 3 (.region [ol 28 4,of 29 1 8,ol 30 29,oo 31 (.lookup .int (.int .i64 0) false (.t 28) (.t 30)),on 32 .add 31 1,ou (.mapSet .int (.t 28) (.t 30) (.t 32))]))))) (sr [ov 33 3,oo 34 (.lenMap (.t 33)),of 35 0 1,ol 36 35,oo 37 (.lenSl (.t 36)),ob 38 .eql 34 37,ov 39 38,og 40 (.load none (.t 4)) 39 true,og 41 (.lenMap (.t 40)) 39 true,og 42 (.fieldAddr 1 (.t 1)) 39 true,og 43 (.load none (.t 42)) 39 true,og 44 (.lenSl (.t 43)) 39 true,og 45 (.bin .eql (.t 41) (.t 44)) 39 true,oo 46 (.pick (.t 39) (.t 45) (.c (.bool false))),ov 2 46] (.ret))))),[.t 2]⟩
def F159:AF:=⟨sr [oo 2 (.box 3 (.t 0)),oo 4 (.mov (.c (.sl none true 0 [])))] (.seq (sr [os 8 3 2,oo 9 (.call 103 [.t 8]),on 10 .neq 9 0] (.cond (.t 10) (sr [oo 4 (.mov (.c (.sl none true 0 [])))] (.ret)) (.skip))) (sr [oo 5 (.mov (.c (.sl none true 0 [])))] (.seq (sr [of 11 2 2,ol 12 11,oo 13 (.lenSl (.t 12)),om 14 0] (.block 0 (.loop (sr [ob 15 .lss 14 13] (.seq (.cond (.t 15) (.skip) (.exit 0)) (.seq (.block 1 (sr [ov 16 14,ox 17 3 12 14,os 18 3 17,oo 7 (.alloc [(.int .i64 0),(.int .i64 0),(.sl none true 0 [])]),ov 6 16,ou (.store 3 (.t 7) (.t 18))] (sr [ov 19 1,os 20 3 7,oo 21 (.callV (.t 19) [.t 20])] (.cond (.t 21) (.region [ov 22 5,ov 23 6,oo 24 (.buildSl false 1 [(.int .i64 0)] [(0,1,(.t 23))] 1),oo 25 (.append false 1 8 (.t 22) (.t 24)),ov 5 25]) (.skip))))) (.region [on 26 .add 14 1,ov 14 26]))))))) (sr [ov 27 5,ov 4 27] (.ret))))),[.t 4]⟩
def F160:AF:=⟨sr [oo 1 (.box 3 (.t 0)),oo 2 (.mov (.c (.bool false)))] (sr [of 3 1 1,ol 4 3,on 5 .eql 4 3,ov 2 5] (.ret)),[.t 2]⟩
def F161:AF:=⟨sr [oo 1 (.box 3 (.t 0)),oo 2 (.mov (.c (.sl none true 0 [])))] (sr [oo 3 (.mov (.c (.sl none true 0 [])))] (.seq (sr [os 6 3 1,oo 7 (.call 86 [.t 6]),oo 8 (.lenSl (.t 7)),om 9 0] (.block 0 (.loop (sr [ob 10 .lss 9 8] (.seq (.cond (.t 10) (.skip) (.exit 0)) (.seq (.block 1 (sr [ox 11 2 7 9,os 12 2 11,oo 5 (.alloc [(.int .i64 0),(.int .i64 0)]),ou (.store 2 (.t 5) (.t 12))] (.region [ov 13 3,os 14 3 1,os 15 2 5,oo 16 (.call 217 [.t 14,.t 15]),oo 17 (.buildSl false 1 [(.sl none true 0 [])] [(0,1,(.t 16))] 1),oo 18 (.append false 1 24 (.t 13) (.t 17)),ov 3 18]))) (.region [on 19 .add 9 1,ov 9 19]))))))) (sr [ov 20 3,ov 2 20] (.ret)))),[.t 2]⟩
def F166:AF:=cf false false Tryz.f166
def F167:AF:=cf false false Tryz.f167
def F170:AF:=cf false false Tryz.f170
def F176:AF:=⟨sr [oo 2 (.box 3 (.t 0)),oo 4 (.mov (.c (.sl none true 0 [])))] (.seq (sr [os 5 3 2,oo 6 (.call 103 [.t 5]),on 7 .neq 6 0,ov 8 7,og 9 (.mov (.t 1)) 8 false,og 10 (.bin .lss (.t 9) (nn 0)) 8 false,oo 11 (.pick (.t 8) (.c (.bool true)) (.t 10)),ov 12 11,og 13 (.mov (.t 1)) 12 false,og 14 (.fieldAddr 2 (.t 2)) 12 false,og 15 (.load none (.t 14)) 12 false,og 16 (.lenSl (.t 15)) 12 false,og 17 (.bin .geq (.t 13) (.t 16)) 12 false,oo 18 (.pick (.t 12) (.c (.bool true)) (.t 17))] (.cond (.t 18) (sr [oo 4 (.mov (.c (.sl none true 0 [])))] (.ret)) (.skip))) (sr [of 19 2 2,ol 20 19,ov 21 1,ox 22 3 20 21,of 23 2 22,ol 24 23,ov 4 24] (.ret))),[.t 4]⟩
def F177:AF:=⟨sr [oo 3 (.box 1 (.t 1)),oo 4 (.alloc [(.int .i64 0),(.int .i64 0)]),oo 5 (.alloc [(.bool false)])] (.seq (sr [ov 8 0,oo 9 (.call 237 [.t 8])] (.block 0 (.rangeFunc (.t 9) [10,11] (.region [oo 7 (.alloc [(.bool false),(.int .i64 0),(.int .i64 0),(.int .i64 0)]),ou (.store 4 (.t 7) (.t 11))]) (.block 1 (sr [of 12 0 7,ol 13 12,ov 14 13,og 15 (.fieldAddr 1 (.t 7)) 14 true,og 16 (.load none (.t 15)) 14 true,og 17 (.load none (.t 3)) 14 true,og 18 (.bin .eql (.t 16) (.t 17)) 14 true,oo 19 (.pick (.t 14) (.t 18) (.c (.bool false)))] (.cond (.t 19) (sr [of 20 2 7,os 21 2 20,ou (.store 2 (.t 4) (.t 21)),ou (.store 1 (.t 5) (.c (.bool true)))] (.ret)) (.skip))))))) (sr [oo 22 (.build [(.int .i64 0),(.int .i64 0)] []),ou (.store 2 (.t 4) (.t 22)),ou (.store 1 (.t 5) (.c (.bool false)))] (.ret))),[.cell 4 (some 2),.cell 5 none]⟩
def F188:AF:=cf false false Tryz.f188
def F212:AF:=⟨sr [oo 2 (.mov (.c (.bool false)))] (.seq (sr [ov 5 0,oo 6 (.lenSl (.t 5)),om 7 0] (.block 0 (.loop (sr [ob 8 .lss 7 6] (.seq (.cond (.t 8) (.skip) (.exit 0)) (.seq (.block 1 (sr [ov 9 7,ox 10 1 5 7,ol 11 10,ov 3 9,ov 4 11] (sr [ov 12 4,oo 13 (.call 229 [.t 12]),oo 14 (.un .not (.t 13)),ov 15 14,og 16 (.mov (.t 3)) 15 false,og 17 (.bin .gtr (.t 16) (nn 0)) 15 false,og 18 (.mov (.t 17)) 15 false,og 19 (.mov (.t 0)) 18 true,og 20 (.mov (.t 3)) 18 true,og 21 (.bin .sub (.t 20) (nn 1)) 18 true,og 22 (.idxSl 1 (.t 19) (.t 21)) 18 true,og 23 (.load none (.t 22)) 18 true,og 24 (.mov (.t 4)) 18 true,og 25 (.call 251 [.t 23,.t 24]) 18 true,og 26 (.un .not (.t 25)) 18 true,og 27 (.pick (.t 18) (.t 26) (.c (.bool false))) 15 false,oo 28 (.pick (.t 15) (.c (.bool true)) (.t 27))] (.cond (.t 28) (sr [oo 2 (.mov (.c (.bool false)))] (.ret)) (.skip))))) (.region [on 29 .add 7 1,ov 7 29]))))))) (sr [oo 2 (.mov (.c (.bool true)))] (.ret))),[.t 2]⟩
def F214:AF:=⟨sr [oo 4 (.mov (.c (.bool false)))] (sr [ov 5 0,on 6 .geq 5 0,ov 7 6,og 8 (.mov (.t 0)) 7 true,og 9 (.mov (.t 1)) 7 true,og 10 (.lenSl (.t 9)) 7 true,og 11 (.bin .lss (.t 8) (.t 10)) 7 true,oo 12 (.pick (.t 7) (.t 11) (.c (.bool false))),ov 4 12] (.ret)),[.t 4]⟩
def F216:AF:=⟨sr [oo 1 (.box 2 (.t 0)),oo 2 (.mov (.c (.bool false)))] (sr [os 6 2 1,oo 7 (.call 253 [.t 6]),oo 8 (.call 252 [.t 7]),ov 5 8,oe 9 5 0,oe 10 5 1,oo 3 (.alloc [(.int .i64 0),(.int .i64 0)]),ou (.store 2 (.t 3) (.t 9)),ov 4 10] (sr [ov 11 4,on 12 .eql 11 0,ov 13 12,og 14 (.load (some 2) (.t 3)) 13 true,og 15 (.load (some 2) (.t 1)) 13 true,og 16 (.eq false (.struct [.int,.int]) (.t 14) (.t 15)) 13 true,oo 17 (.pick (.t 13) (.t 16) (.c (.bool false))),ov 2 17] (.ret))),[.t 2]⟩
def F217:AF:=⟨sr [qq 2 (.box 3 (.t 0)),qq 3 (.box 2 (.t 1)),qq 4 (.mov (.c (.sl none true 0 [])))] (sr [qs 11 3 2,qs 12 2 3,qq 13 (.call 254 [.t 11,.t 12]),qv 10 13,qe 14 10 0,qe 15 10 1,qq 5 (.alloc [(.bool false),(.int .i64 0),(.int .i64 0),(.int .i64 0)]),qu (.store 4 (.t 5) (.t 14)),qv 6 15] (.seq (sr [qv 16 6,qq 17 (.un .not (.t 16))] (.cond (.t 17) (sr [qq 4 (.mov (.c (.sl none true 0 [])))] (.ret)) (.skip))) (sr [qq 7 (.mov (.c (.sl none true 0 [])))] (.seq (sr [qf 18 2 5,qf 19 0 18,ql 20 19,qn 21 .neq 20 1] (.cond (.t 21) (.region [qv 22 7,qq 23 (.buildSl true 1 [(.int .i64 0)] [(0,1,(nn (-1)))] 1),qq 24 (.append true 1 8 (.t 22) (.t 23)),qv 7 24]) (.skip))) (.seq (sr [qs 25 3 2,qf 26 0 3,ql 27 26,qf 28 1 5,ql 29 28,qq 30 (.call 255 [.t 25,.t 27,.t 29]),qq 31 (.range false (.t 30))] (.block 0 (.loop (sr [qq 32 (.nextMap (.t 31)),qe 33 32 0] (.seq (.cond (.t 33) (.skip) (.exit 0)) (.block 1 (sr [qq 34 (.entry (.t 31)),qe 35 34 0,qe 36 34 1,qq 9 (.alloc [(.int .i64 0),(.int .i64 0)]),qv 8 35,qu (.store 2 (.t 9) (.t 36))] (sr [qf 37 2 5,qf 38 0 37,ql 39 38,qn 40 .eql 39 2,qv 41 40,qg 42 (.load (some 2) (.t 9)) 41 false,qg 43 (.fieldAddr 2 (.t 5)) 41 false,qg 44 (.load (some 2) (.t 43)) 41 false,qg 45 (.eq false (.struct [.int,.int]) (.t 42) (.t 44)) 41 false,qq 46 (.pick (.t 41) (.c (.bool true)) (.t 45))] (.cond (.t 46) (.region [qv 47 7,qv 48 8,qq 49 (.buildSl true 1 [(.int .i64 0)] [(0,1,(.t 48))] 1),qq 50 (.append true 1 8 (.t 47) (.t 49)),qv 7 50]) (.skip)))))))))) (sr [qv 51 7,qq 52 (.call 69 [.t 51])] (sr [qv 53 7,qv 4 53] (.ret)))))))),[.t 4]⟩
def F223:AF:=cf false false Tryz.f223
def F224:AF:=cf false false Tryz.f224
def F225:AF:=cf false false Tryz.f225
def F226:AF:=cf false false Tryz.f226
def F227:AF:=cf false false Tryz.f227
def F228:AF:=cf false false Tryz.f228
def F229:AF:=⟨sr [oo 2 (.mov (.c (.bool false)))] (.seq (sr [ov 6 0,oo 7 (.call 264 [.t 6]),ov 8 7,og 9 (.mov (.t 0)) 8 false,og 10 (.call 265 [.t 9]) 8 false,og 11 (.un .not (.t 10)) 8 false,oo 12 (.pick (.t 8) (.c (.bool true)) (.t 11))] (.cond (.t 12) (sr [oo 2 (.mov (.c (.bool false)))] (.ret)) (.skip))) (sr [om 3 0] (.seq (sr [ov 13 0,oo 14 (.range true (.t 13))] (.block 0 (.loop (sr [oo 15 (.nextStr (.t 14)),oe 16 15 0] (.seq (.cond (.t 16) (.skip) (.exit 0)) (.block 1 (sr [oe 17 15 2,ov 5 17] (.seq (sr [ov 18 5,oo 19 (.call 266 [.t 18]),oo 20 (.un .not (.t 19)),ov 21 20,og 22 (.mov (.t 3)) 21 false,og 23 (.bin .eql (.t 22) (nn 0)) 21 false,og 24 (.mov (.t 23)) 21 false,og 25 (.mov (.t 5)) 24 true,og 26 (.call 267 [.t 25]) 24 true,og 27 (.pick (.t 24) (.t 26) (.c (.bool false))) 21 false,oo 28 (.pick (.t 21) (.c (.bool true)) (.t 27))] (.cond (.t 28) (sr [oo 2 (.mov (.c (.bool false)))] (.ret)) (.skip))) (.region [ov 29 3,on 30 .add 29 1,ov 3 30]))))))))) (sr [ov 31 3,on 32 .gtr 31 0,ov 33 32,og 34 (.mov (.t 3)) 33 true,og 35 (.bin .leq (.t 34) (nn 20)) 33 true,oo 36 (.pick (.t 33) (.t 35) (.c (.bool false))),ov 2 36] (.ret))))),[.t 2]⟩
def F230:AF:=cf false false Tryz.f230
def F233:AF:=cf false false Tryz.f233
def F251:AF:=⟨sr [oo 4 (.mov (.c (.bool false)))] (sr [ov 5 0,ov 6 1,oo 7 (.call 280 [.t 5,.t 6]),on 8 .lss 7 0,ov 4 8] (.ret)),[.t 4]⟩
def F252:AF:=⟨sr [oo 1 (.box 1 (.t 0)),oo 2 (.alloc [(.int .i64 0),(.int .i64 0)]),om 3 0] (.seq (sr [of 7 0 1,ol 8 7] (.block 0 (sr [oo 9 (.eq false .iface (.t 8) (.c .nilif))] (.cond (.t 9) (sr [ov 4 8] (sr [oo 10 (.build [(.int .i64 0),(.int .i64 0)] []),ou (.store 2 (.t 2) (.t 10)),om 3 0] (.ret))) (sr [oo 11 (.assert 2 (.int .i64 0) true (.t 8)),oe 12 11 1,oe 13 11 0] (.cond (.t 12) (sr [ov 5 13] (sr [ov 14 5,oo 15 (.build [(.int .i64 0),(.int .i64 0)] [(0,1,(nn 1)),(1,1,(.t 14))]),ou (.store 2 (.t 2) (.t 15)),om 3 0] (.ret))) (sr [oo 16 (.assert 316 (.agg []) true (.t 8)),oe 17 16 1,oe 18 16 0] (.cond (.t 17) (sr [oo 6 (.alloc []),ou (.store 0 (.t 6) (.t 18))] (sr [oo 19 (.build [(.int .i64 0),(.int .i64 0)] [(0,1,(nn 2))]),ou (.store 2 (.t 2) (.t 19)),om 3 0] (.ret))) (.skip))))))))) (sr [oo 20 (.build [(.int .i64 0),(.int .i64 0)] []),ou (.store 2 (.t 2) (.t 20)),om 3 15] (.ret))),[.cell 2 (some 2),.t 3]⟩
def F253:AF:=⟨sr [oo 1 (.box 2 (.t 0)),oo 2 (.alloc [.nilif])] (.seq (sr [of 3 0 1,ol 4 3] (.block 0 (sr [on 6 .eql 4 1,ov 5 6] (.cond (.t 5) (sr [of 7 1 1,ol 8 7,oo 9 (.iface 2 (.t 8)),oo 10 (.build [.nilif] [(0,1,(.t 9))]),ou (.store 1 (.t 2) (.t 10))] (.ret)) (sr [on 12 .eql 4 2,ov 11 12] (.cond (.t 11) (sr [oo 13 (.build [] []),oo 14 (.iface 316 (.t 13)),oo 15 (.build [.nilif] [(0,1,(.t 14))]),ou (.store 1 (.t 2) (.t 15))] (.ret)) (.skip))))))) (sr [oo 16 (.build [.nilif] []),ou (.store 1 (.t 2) (.t 16))] (.ret))),[.cell 2 (some 1)]⟩
def F254:AF:=⟨sr [oo 2 (.box 3 (.t 0)),oo 3 (.box 2 (.t 1)),oo 4 (.alloc [(.bool false),(.int .i64 0),(.int .i64 0),(.int .i64 0)]),oo 5 (.mov (.c (.bool false)))] (.seq (.seq (.draw [os 7 3 2,oo 8 (.call 103 [.t 7]),on 9 .neq 8 0,ov 10 9,og 11 (.fieldAddr 0 (.t 3)) 10 false,og 12 (.load none (.t 11)) 10 false,og 13 (.bin .lss (.t 12) (nn 0)) 10 false,oo 14 (.pick (.t 10) (.c (.bool true)) (.t 13)),ov 15 14,og 16 (.fieldAddr 0 (.t 3)) 15 false,og 17 (.load none (.t 16)) 15 false,og 18 (.fieldAddr 2 (.t 2)) 15 false,og 19 (.load none (.t 18)) 15 false,og 20 (.lenSl (.t 19)) 15 false,og 21 (.bin .geq (.t 17) (.t 20)) 15 false,oo 22 (.pick (.t 15) (.c (.bool true)) (.t 21)),ov 23 22,og 24 (.fieldAddr 1 (.t 3)) 23 false,og 25 (.load none (.t 24)) 23 false,og 26 (.bin .lss (.t 25) (nn 0)) 23 false,oo 27 (.pick (.t 23) (.c (.bool true)) (.t 26)),ov 28 27,og 29 (.fieldAddr 1 (.t 3)) 28 false,og 30 (.load none (.t 29)) 28 false,og 31 (.fieldAddr 2 (.t 2)) 28 false,og 32 (.load none (.t 31)) 28 false,og 33 (.fieldAddr 0 (.t 3)) 28 false,og 34 (.load none (.t 33)) 28 false,og 35 (.idxSl 3 (.t 32) (.t 34)) 28 false,og 36 (.fieldAddr 2 (.t 35)) 28 false,og 37 (.load none (.t 36)) 28 false,og 38 (.lenSl (.t 37)) 28 false,og 39 (.bin .geq (.t 30) (.t 38)) 28 false,oo 40 (.pick (.t 28) (.c (.bool true)) (.t 39))] []) (.cond (.t 40) (sr [oo 41 (.build [(.bool false),(.int .i64 0),(.int .i64 0),(.int .i64 0)] []),ou (.store 4 (.t 4) (.t 41)),oo 5 (.mov (.c (.bool false)))] (.ret)) (.skip))) (.seq (.draw [of 42 2 2,ol 43 42,of 44 0 3,ol 45 44,ox 46 3 43 45,of 47 2 46,ol 48 47,of 49 1 3,ol 50 49,ox 51 4 48 50,os 52 4 51,oo 6 (.alloc [(.bool false),(.int .i64 0),(.int .i64 0),(.int .i64 0)]),ou (.store 4 (.t 6) (.t 52))] [(1,11),(3,11),(6,11),(8,11),(10,11)]) (.seq (.draw [os 53 4 6,of 54 0 6,ol 55 54,oo 56 (.un .not (.t 55)),ou (.store 4 (.t 4) (.t 53)),ov 5 56] [(2,4)]) (.ret)))),[.cell 4 (some 4),.t 5]⟩
def F258:AF:=cf false false Tryz.f258
def F259:AF:=cf false false Tryz.f259
def F261:AF:=cf false false Tryz.f261
def F262:AF:=cf false false Tryz.f262
def F263:AF:=cf false false Tryz.f263
def F264:AF:=⟨sr [oo 2 (.mov (.c (.bool false)))] (.seq (sr [ov 3 0] (.block 0 (.seq (sr [oo 5 (.bin .eql (.t 3) (.c (.str [98,101,103,105,110]))),ov 4 5] (.cond (.t 4) (.skip) (sr [oo 6 (.bin .eql (.t 3) (.c (.str [114,101,97,100]))),ov 4 6] (.cond (.t 4) (.skip) (sr [oo 7 (.bin .eql (.t 3) (.c (.str [119,114,105,116,101]))),ov 4 7] (.cond (.t 4) (.skip) (sr [oo 8 (.bin .eql (.t 3) (.c (.str [111,107]))),ov 4 8] (.cond (.t 4) (.skip) (sr [oo 9 (.bin .eql (.t 3) (.c (.str [102,97,105,108]))),ov 4 9] (.cond (.t 4) (.skip) (sr [oo 10 (.bin .eql (.t 3) (.c (.str [105,110,102,111]))),ov 4 10] (.cond (.t 4) (.skip) (.region [oo 11 (.bin .eql (.t 3) (.c (.str [110,105,108]))),ov 4 11]))))))))))))) (.cond (.t 4) (sr [oo 2 (.mov (.c (.bool true)))] (.ret)) (.skip))))) (sr [oo 2 (.mov (.c (.bool false)))] (.ret))),[.t 2]⟩
def F265:AF:=⟨sr [oo 2 (.mov (.c (.bool false)))] (.seq (.block 0 (.loop (.seq (sr [ov 7 0,oo 8 (.lenStr (.t 7)),on 9 .gtr 8 0] (.cond (.t 9) (.skip) (.exit 0))) (.block 1 (sr [ov 10 0,oo 11 (.idxStr (.t 10) (nn 0)),ov 3 11] (.seq (sr [ov 12 3,oo 13 (.bin .lss (.t 12) (.c (.int .u8 128)))] (.cond (.t 13) (sr [ov 14 0,oo 15 (.slStr (.t 14) (some (nn 1)) none),ov 0 15] (.seq (sr [ov 16 0,oo 17 (.lenStr (.t 16)),on 18 .gtr 17 8,ov 19 18,og 20 (.mov (.t 0)) 19 true,og 21 (.call 289 [.t 20]) 19 true,og 22 (.bin .and (.t 21) (.c (.int .u64 9259542123273814144))) 19 true,og 23 (.bin .eql (.t 22) (.c (.int .u64 0))) 19 true,oo 24 (.pick (.t 19) (.t 23) (.c (.bool false)))] (.cond (.t 24) (sr [ov 25 0,oo 26 (.slStr (.t 25) (some (nn 8)) none),ov 0 26] (.seq (.draw [ov 27 0,oo 28 (.lenStr (.t 27)),on 29 .gtr 28 16,ov 30 29,og 31 (.mov (.t 0)) 30 true,og 32 (.call 289 [.t 31]) 30 true,og 33 (.mov (.t 0)) 30 true,og 34 (.slStr (.t 33) (some (nn 8)) none) 30 true,og 35 (.call 289 [.t 34]) 30 true,og 36 (.bin .or (.t 32) (.t 35)) 30 true,og 37 (.bin .and (.t 36) (.c (.int .u64 9259542123273814144))) 30 true,og 38 (.bin .eql (.t 37) (.c (.int .u64 0))) 30 true,oo 39 (.pick (.t 30) (.t 38) (.c (.bool false)))] []) (.cond (.t 39) (sr [ov 40 0,oo 41 (.slStr (.t 40) (some (nn 16)) none),ov 0 41] (.block 2 (.loop (.seq (.seq (.draw [ov 42 0,oo 43 (.lenStr (.t 42)),on 44 .gtr 43 32,ov 45 44,og 46 (.mov (.t 0)) 45 true,og 47 (.call 289 [.t 46]) 45 true,og 48 (.mov (.t 0)) 45 true,og 49 (.slStr (.t 48) (some (nn 8)) none) 45 true,og 50 (.call 289 [.t 49]) 45 true,og 51 (.bin .or (.t 47) (.t 50)) 45 true,og 52 (.mov (.t 0)) 45 true,og 53 (.slStr (.t 52) (some (nn 16)) none) 45 true,og 54 (.call 289 [.t 53]) 45 true,og 55 (.mov (.t 0)) 45 true,og 56 (.slStr (.t 55) (some (nn 24)) none) 45 true,og 57 (.call 289 [.t 56]) 45 true,og 58 (.bin .or (.t 54) (.t 57)) 45 true,og 59 (.bin .or (.t 51) (.t 58)) 45 true,og 60 (.bin .and (.t 59) (.c (.int .u64 9259542123273814144))) 45 true,og 61 (.bin .eql (.t 60) (.c (.int .u64 0))) 45 true,oo 62 (.pick (.t 45) (.t 61) (.c (.bool false)))] []) (.cond (.t 62) (.skip) (.exit 2))) (.block 3 (.region [ov 63 0,oo 64 (.slStr (.t 63) (some (nn 32)) none),ov 0 64])))))) (.skip)))) (.skip))) (.exit 1))) (.skip))) (sr [ov 65 3,oo 66 (.idxArr 256 1 (.g 2) (.t 65)),ol 67 66,ov 4 67] (sr [ov 68 4,oo 69 (.bin .and (.t 68) (.c (.int .u8 7))),oo 70 (.conv .i64 (.t 69)),ov 5 70] (sr [ov 71 4,oo 72 (.bin .shr (.t 71) (.c (.int .u64 4))),oo 73 (.idxArr 16 2 (.g 3) (.t 72)),os 74 2 73,oo 6 (.alloc [(.int .u8 0),(.int .u8 0)]),ou (.store 2 (.t 6) (.t 74))] (sr [ov 75 5] (.block 4 (sr [on 77 .eql 75 2,ov 76 77] (.cond (.t 76) (.seq (.seq (.draw [ov 78 0,oo 79 (.lenStr (.t 78)),on 80 .lss 79 2,ov 81 80,og 82 (.mov (.t 0)) 81 false,og 83 (.idxStr (.t 82) (nn 1)) 81 false,og 84 (.fieldAddr 0 (.t 6)) 81 false,og 85 (.load none (.t 84)) 81 false,og 86 (.bin .lss (.t 83) (.t 85)) 81 false,oo 87 (.pick (.t 81) (.c (.bool true)) (.t 86)),ov 88 87,og 89 (.fieldAddr 1 (.t 6)) 88 false,og 90 (.load none (.t 89)) 88 false,og 91 (.mov (.t 0)) 88 false,og 92 (.idxStr (.t 91) (nn 1)) 88 false,og 93 (.bin .lss (.t 90) (.t 92)) 88 false,oo 94 (.pick (.t 88) (.c (.bool true)) (.t 93))] []) (.cond (.t 94) (sr [oo 2 (.mov (.c (.bool false)))] (.ret)) (.skip))) (.region [ov 95 0,oo 96 (.slStr (.t 95) (some (nn 2)) none),ov 0 96])) (sr [on 98 .eql 75 3,ov 97 98] (.cond (.t 97) (.seq (.seq (.draw [ov 99 0,oo 100 (.lenStr (.t 99)),on 101 .lss 100 3,ov 102 101,og 103 (.mov (.t 0)) 102 false,og 104 (.idxStr (.t 103) (nn 1)) 102 false,og 105 (.fieldAddr 0 (.t 6)) 102 false,og 106 (.load none (.t 105)) 102 false,og 107 (.bin .lss (.t 104) (.t 106)) 102 false,oo 108 (.pick (.t 102) (.c (.bool true)) (.t 107)),ov 109 108,og 110 (.fieldAddr 1 (.t 6)) 109 false,og 111 (.load none (.t 110)) 109 false,og 112 (.mov (.t 0)) 109 false,og 113 (.idxStr (.t 112) (nn 1)) 109 false,og 114 (.bin .lss (.t 111) (.t 113)) 109 false,oo 115 (.pick (.t 109) (.c (.bool true)) (.t 114)),ov 116 115,og 117 (.mov (.t 0)) 116 false,og 118 (.idxStr (.t 117) (nn 2)) 116 false,og 119 (.bin .lss (.t 118) (.c (.int .u8 128))) 116 false,oo 120 (.pick (.t 116) (.c (.bool true)) (.t 119)),ov 121 120,og 122 (.mov (.t 0)) 121 false,og 123 (.idxStr (.t 122) (nn 2)) 121 false,og 124 (.bin .lss (.c (.int .u8 191)) (.t 123)) 121 false,oo 125 (.pick (.t 121) (.c (.bool true)) (.t 124))] []) (.cond (.t 125) (sr [oo 2 (.mov (.c (.bool false)))] (.ret)) (.skip))) (.region [ov 126 0,oo 127 (.slStr (.t 126) (some (nn 3)) none),ov 0 127])) (sr [on 129 .eql 75 4,ov 128 129] (.cond (.t 128) (.seq (.seq (.draw [ov 130 0,oo 131 (.lenStr (.t 130)),on 132 .lss 131 4,ov 133 132,og 134 (.mov (.t 0)) 133 false,og 135 (.idxStr (.t 134) (nn 1)) 133 false,og 136 (.fieldAddr 0 (.t 6)) 133 false,og 137 (.load none (.t 136)) 133 false,og 138 (.bin .lss (.t 135) (.t 137)) 133 false,oo 139 (.pick (.t 133) (.c (.bool true)) (.t 138)),ov 140 139,og 141 (.fieldAddr 1 (.t 6)) 140 false,og 142 (.load none (.t 141)) 140 false,og 143 (.mov (.t 0)) 140 false,og 144 (.idxStr (.t 143) (nn 1)) 140 false,og 145 (.bin .lss (.t 142) (.t 144)) 140 false,oo 146 (.pick (.t 140) (.c (.bool true)) (.t 145)),ov 147 146,og 148 (.mov (.t 0)) 147 false,og 149 (.idxStr (.t 148) (nn 2)) 147 false,og 150 (.bin .lss (.t 149) (.c (.int .u8 128))) 147 false,oo 151 (.pick (.t 147) (.c (.bool true)) (.t 150)),ov 152 151,og 153 (.mov (.t 0)) 152 false,og 154 (.idxStr (.t 153) (nn 2)) 152 false,og 155 (.bin .lss (.c (.int .u8 191)) (.t 154)) 152 false,oo 156 (.pick (.t 152) (.c (.bool true)) (.t 155)),ov 157 156,og 158 (.mov (.t 0)) 157 false,og 159 (.idxStr (.t 158) (nn 3)) 157 false,og 160 (.bin .lss (.t 159) (.c (.int .u8 128))) 157 false,oo 161 (.pick (.t 157) (.c (.bool true)) (.t 160)),ov 162 161,og 163 (.mov (.t 0)) 162 false,og 164 (.idxStr (.t 163) (nn 3)) 162 false,og 165 (.bin .lss (.c (.int .u8 191)) (.t 164)) 162 false,oo 166 (.pick (.t 162) (.c (.bool true)) (.t 165))] []) (.cond (.t 166) (sr [oo 2 (.mov (.c (.bool false)))] (.ret)) (.skip))) (.region [ov 167 0,oo 168 (.slStr (.t 167) (some (nn 4)) none),ov 0 168])) (sr [oo 2 (.mov (.c (.bool false)))] (.ret))))))))))))))))))) (sr [oo 2 (.mov (.c (.bool true)))] (.ret))),[.t 2]⟩
def F266:AF:=⟨sr [oo 2 (.mov (.c (.bool false)))] (sr [ov 3 0,oo 4 (.bin .gtr (.t 3) (.c (.int .i32 127))),ov 5 4,og 6 (.mov (.t 0)) 5 false,og 7 (.bin .eql (.t 6) (.c (.int .i32 95))) 5 false,oo 8 (.pick (.t 5) (.c (.bool true)) (.t 7)),ov 9 8,og 10 (.mov (.t 0)) 9 false,og 11 (.call 267 [.t 10]) 9 false,oo 12 (.pick (.t 9) (.c (.bool true)) (.t 11)),ov 13 12,og 14 (.mov (.t 0)) 13 false,og 15 (.bin .geq (.t 14) (.c (.int .i32 97))) 13 false,og 16 (.mov (.t 15)) 13 false,og 17 (.mov (.t 0)) 16 true,og 18 (.bin .leq (.t 17) (.c (.int .i32 122))) 16 true,og 19 (.pick (.t 16) (.t 18) (.c (.bool false))) 13 false,oo 20 (.pick (.t 13) (.c (.bool true)) (.t 19)),ov 21 20,og 22 (.mov (.t 0)) 21 false,og 23 (.bin .geq (.t 22) (.c (.int .i32 65))) 21 false,og 24 (.mov (.t 23)) 21 false,og 25 (.mov (.t 0)) 24 true,og 26 (.bin .leq (.t 25) (.c (.int .i32 90))) 24 true,og 27 (.pick (.t 24) (.t 26) (.c (.bool false))) 21 false,oo 28 (.pick (.t 21) (.c (.bool true)) (.t 27)),ov 2 28] (.ret)),[.t 2]⟩
def F267:AF:=⟨sr [oo 2 (.mov (.c (.bool false)))] (sr [ov 3 0,oo 4 (.bin .geq (.t 3) (.c (.int .i32 48))),ov 5 4,og 6 (.mov (.t 0)) 5 true,og 7 (.bin .leq (.t 6) (.c (.int .i32 57))) 5 true,oo 8 (.pick (.t 5) (.t 7) (.c (.bool false))),ov 2 8] (.ret)),[.t 2]⟩
def F268:AF:=cf false false Tryz.f268
def F269:AF:=cf false false Tryz.f269
def F280:AF:=⟨sr [om 4 0] (sr [ov 5 0,oo 6 (.runesOfStr (.t 5)),ov 7 1,oo 8 (.runesOfStr (.t 7)),oo 9 (.call 293 [.t 6,.t 8]),ov 4 9] (.ret)),[.t 4]⟩
def F281:AF:=⟨sr [oo 2 (.box 3 (.t 0)),oo 3 (.box 1 (.t 1)),oo 4 (.mov (.c (.sl none true 0 [])))] (.seq (sr [os 9 3 2,oo 10 (.call 103 [.t 9]),on 11 .neq 10 0] (.cond (.t 11) (sr [oo 4 (.mov (.c (.sl none true 0 [])))] (.ret)) (.skip))) (sr [oo 12 (.mkFn (.func 294) [] [.t 3]),ov 5 12] (sr [oo 6 (.mov (.c (.sl none true 0 [])))] (.seq (sr [of 13 2 2,ol 14 13,oo 15 (.lenSl (.t 14)),om 16 0] (.block 0 (.loop (sr [ob 17 .lss 16 15] (.seq (.cond (.t 17) (.skip) (.exit 0)) (.seq (.block 1 (sr [ov 18 16,ox 19 3 14 16,os 20 3 19,oo 8 (.alloc [(.int .i64 0),(.int .i64 0),(.sl none true 0 [])]),ov 7 18,ou (.store 3 (.t 8) (.t 20))] (sr [ov 21 5,os 22 3 8,oo 23 (.callV (.t 21) [.t 22])] (.cond (.t 23) (.region [ov 24 6,ov 25 7,oo 26 (.buildSl false 1 [(.int .i64 0)] [(0,1,(.t 25))] 1),oo 27 (.append false 1 8 (.t 24) (.t 26)),ov 6 27]) (.skip))))) (.region [on 28 .add 16 1,ov 16 28]))))))) (sr [ov 29 6,ov 4 29] (.ret)))))),[.t 4]⟩
def F284:AF:=cf false false Tryz.f284
def F285:AF:=cf false false Tryz.f285
def F286:AF:=cf false false Tryz.f286
def F288:AF:=cf false false Tryz.f288
def F289:AF:=⟨sr [oo 2 (.mov (.c (.int .u64 0)))] (.seq (.cond (.c (.bool false)) (.seq (.draw [ov 3 0,oo 4 (.idxStr (.t 3) (nn 0)),oo 5 (.conv .u64 (.t 4)),ov 6 0,oo 7 (.idxStr (.t 6) (nn 1)),oo 8 (.conv .u64 (.t 7)),oo 9 (.bin .shl (.t 8) (.c (.int .u64 8))),ob 10 .or 5 9,ov 11 0,oo 12 (.idxStr (.t 11) (nn 2)),oo 13 (.conv .u64 (.t 12)),oo 14 (.bin .shl (.t 13) (.c (.int .u64 16))),ob 15 .or 10 14,ov 16 0,oo 17 (.idxStr (.t 16) (nn 3)),oo 18 (.conv .u64 (.t 17)),oo 19 (.bin .shl (.t 18) (.c (.int .u64 24))),ob 20 .or 15 19,ov 2 20] []) (.ret)) (.skip)) (.seq (.draw [ov 21 0,oo 22 (.idxStr (.t 21) (nn 0)),oo 23 (.conv .u64 (.t 22)),ov 24 0,oo 25 (.idxStr (.t 24) (nn 1)),oo 26 (.conv .u64 (.t 25)),oo 27 (.bin .shl (.t 26) (.c (.int .u64 8))),ob 28 .or 23 27,ov 29 0,oo 30 (.idxStr (.t 29) (nn 2)),oo 31 (.conv .u64 (.t 30)),oo 32 (.bin .shl (.t 31) (.c (.int .u64 16))),ob 33 .or 28 32,ov 34 0,oo 35 (.idxStr (.t 34) (nn 3)),oo 36 (.conv .u64 (.t 35)),oo 37 (.bin .shl (.t 36) (.c (.int .u64 24))),ob 38 .or 33 37,ov 39 0,oo 40 (.idxStr (.t 39) (nn 4)),oo 41 (.conv .u64 (.t 40)),oo 42 (.bin .shl (.t 41) (.c (.int .u64 32))),ob 43 .or 38 42,ov 44 0,oo 45 (.idxStr (.t 44) (nn 5)),oo 46 (.conv .u64 (.t 45)),oo 47 (.bin .shl (.t 46) (.c (.int .u64 40))),ob 48 .or 43 47,ov 49 0,oo 50 (.idxStr (.t 49) (nn 6)),oo 51 (.conv .u64 (.t 50)),oo 52 (.bin .shl (.t 51) (.c (.int .u64 48))),ob 53 .or 48 52,ov 54 0,oo 55 (.idxStr (.t 54) (nn 7)),oo 56 (.conv .u64 (.t 55)),oo 57 (.bin .shl (.t 56) (.c (.int .u64 56))),ob 58 .or 53 57,ov 2 58] []) (.ret))),[.t 2]⟩
def F293:AF:=⟨sr [om 4 0] (.seq (sr [ov 9 0,oo 10 (.lenSl (.t 9)),om 11 0] (.block 0 (.loop (sr [ob 12 .lss 11 10] (.seq (.cond (.t 12) (.skip) (.exit 0)) (.seq (.block 1 (sr [ov 13 11,ox 14 1 9 11,ol 15 14,ov 5 13,ov 6 15] (.seq (sr [ov 16 5,ov 17 1,oo 18 (.lenSl (.t 17)),ob 19 .geq 16 18] (.cond (.t 19) (sr [om 4 1] (.ret)) (.skip))) (sr [ov 20 1,ov 21 5,ox 22 1 20 21,ol 23 22,ov 7 23] (sr [ov 24 6,ov 25 7,oo 26 (.call 304 [.t 24,.t 25]),ov 8 26] (sr [ov 27 8,on 28 .neq 27 0] (.cond (.t 28) (sr [ov 29 8,ov 4 29] (.ret)) (.skip)))))))) (.region [on 30 .add 11 1,ov 11 30]))))))) (.seq (sr [ov 31 0,oo 32 (.lenSl (.t 31)),ov 33 1,oo 34 (.lenSl (.t 33)),ob 35 .lss 32 34] (.cond (.t 35) (sr [oo 4 (.mov (nn (-1)))] (.ret)) (.skip))) (sr [om 4 0] (.ret)))),[.t 4]⟩
def F300:AF:=cf false false Tryz.f300
def F304:AF:=⟨sr [om 4 0] (sr [ov 7 0,oo 8 (.call 320 [.t 7]),ov 5 8] (sr [ov 9 1,oo 10 (.call 320 [.t 9]),ov 6 10] (.seq (sr [ov 11 5] (.cond (.t 11) (.seq (sr [ov 12 6] (.cond (.t 12) (sr [om 4 0] (.ret)) (.skip))) (sr [oo 4 (.mov (nn (-1)))] (.ret))) (.skip))) (.seq (sr [ov 13 6] (.cond (.t 13) (sr [om 4 1] (.ret)) (.skip))) (.seq (sr [ov 14 0,ov 15 1,ob 16 .lss 14 15] (.cond (.t 16) (sr [oo 4 (.mov (nn (-1)))] (.ret)) (.skip))) (.seq (sr [ov 17 0,ov 18 1,ob 19 .gtr 17 18] (.cond (.t 19) (sr [om 4 1] (.ret)) (.skip))) (sr [om 4 0] (.ret)))))))),[.t 4]⟩
def F307:AF:=cf false false Tryz.f307
def F320:AF:=⟨sr [oo 2 (.mov (.c (.bool false)))] (sr [ov 3 0,ov 4 0,ob 5 .neq 3 4,ov 2 5] (.ret)),[.t 2]⟩
def S51:AF:=⟨sr [qq 1 (.box 3 (.t 0)),qq 2 (.alloc [(.sl none true 0 []),(.sl none true 0 []),(.sl none true 0 [])])] (sr [qq 8 (.build [(.sl none true 0 []),(.sl none true 0 []),(.sl none true 0 [])] []),qq 3 (.alloc [(.sl none true 0 []),(.sl none true 0 []),(.sl none true 0 [])]),qu (.store 3 (.t 3) (.t 8))] (.seq (sr [qm 4 0] (.block 0 (.loop (.seq (sr [qv 9 4,qf 10 0 1,ql 11 10,qq 12 (.lenSl (.t 11)),qb 13 .lss 9 12,qv 14 13,qg 15 (.mov (.t 4)) 14 true,qg 16 (.bin .lss (.t 15) (nn 25)) 14 true,qq 17 (.pick (.t 14) (.t 16) (.c (.bool false)))] (.cond (.t 17) (.skip) (.exit 0))) (.seq (.block 1 (.draw [qf 20 0 3,ql 21 20,qf 22 0 1,ql 23 22,qv 24 4,qx 25 1 23 24,ql 26 25,qf 27 0 1,ql 28 27,qv 29 4,qx 30 1 28 29,ql 31 30,qq 32 (.lenStr (.t 31)),qq 33 (.minmax false [(.t 32),(nn 100)]),qq 34 (.slStr (.t 26) none (some (.t 33))),qq 35 (.buildSl true 1 [(.str [])] [(0,1,(.t 34))] 1),qq 36 (.append true 1 16 (.t 21) (.t 35)),qf 37 0 3,qu (.store 1 (.t 37) (.t 36))] [(1,15)])) (.region [qv 18 4,qn 19 .add 18 1,qv 4 19])))))) (.seq (sr [qm 5 0] (.block 2 (.loop (.seq (sr [qv 38 5,qf 39 1 1,ql 40 39,qq 41 (.lenSl (.t 40)),qb 42 .lss 38 41,qv 43 42,qg 44 (.mov (.t 5)) 43 true,qg 45 (.bin .lss (.t 44) (nn 45)) 43 true,qq 46 (.pick (.t 43) (.t 45) (.c (.bool false)))] (.cond (.t 46) (.skip) (.exit 2))) (.seq (.block 3 (.draw [qf 49 1 3,ql 50 49,qf 51 1 1,ql 52 51,qv 53 5,qx 54 1 52 53,ql 55 54,qf 56 1 1,ql 57 56,qv 58 5,qx 59 1 57 58,ql 60 59,qq 61 (.lenStr (.t 60)),qq 62 (.minmax false [(.t 61),(nn 100)]),qq 63 (.slStr (.t 55) none (some (.t 62))),qq 64 (.buildSl true 1 [(.str [])] [(0,1,(.t 63))] 1),qq 65 (.append true 1 16 (.t 50) (.t 64)),qf 66 1 3,qu (.store 1 (.t 66) (.t 65))] [(1,15)])) (.region [qv 47 5,qn 48 .add 47 1,qv 5 48])))))) (.seq (sr [qm 6 0] (.block 4 (.loop (.seq (sr [qv 67 6,qf 68 2 1,ql 69 68,qq 70 (.lenSl (.t 69)),qb 71 .lss 67 70,qv 72 71,qg 73 (.mov (.t 6)) 72 true,qg 74 (.bin .lss (.t 73) (nn 45)) 72 true,qq 75 (.pick (.t 72) (.t 74) (.c (.bool false)))] (.cond (.t 75) (.skip) (.exit 4))) (.seq (.block 5 (sr [qf 78 2 1,ql 79 78,qv 80 6,qx 81 3 79 80,qs 82 3 81,qq 7 (.alloc [(.int .i64 0),(.int .i64 0),(.sl none true 0 [])]),qu (.store 3 (.t 7) (.t 82))] (sr [qq 83 (.buildSl true 4 [] [] 0),qf 84 2 7,ql 85 84,qf 86 2 7,ql 87 86,qq 88 (.lenSl (.t 87)),qq 89 (.minmax false [(.t 88),(nn 25)]),qq 90 (.slSl 4 (.t 85) none (some (.t 89))),qq 91 (.append true 4 32 (.t 83) (.t 90)),qf 92 2 7,qu (.store 1 (.t 92) (.t 91))] (.region [qf 93 2 3,ql 94 93,qs 95 3 7,qq 96 (.buildSl true 3 [(.int .i64 0),(.int .i64 0),(.sl none true 0 [])] [(0,3,(.t 95))] 1),qq 97 (.append true 3 40 (.t 94) (.t 96)),qf 98 2 3,qu (.store 1 (.t 98) (.t 97))])))) (.region [qv 76 6,qn 77 .add 76 1,qv 6 77])))))) (sr [qs 99 3 3,qu (.store 3 (.t 2) (.t 99))] (.ret)))))),[.cell 2 (some 3)]⟩
def S55:AF:=⟨sr [qq 4 (.box 3 (.t 1)),qq 6 (.mov (.c .nilptr))] (sr [qv 10 0,qs 11 3 4,qq 12 (.mkMap),qq 13 (.mkMap),qu (.mapSet .int (.t 13) (nn (-1)) (nn (-1))),qv 14 13,qq 15 (.mkMap),qq 16 (.mkMap),qq 17 (.mkMap),qq 18 (.build [(.int .i64 0),(.sl none true 0 []),(.sl none true 0 []),(.sl none true 0 []),.nilmap,.nilmap,.nilmap,.nilmap,.nilmap] [(0,1,(.t 10)),(1,3,(.t 11)),(4,1,(.t 12)),(5,1,(.t 14)),(6,1,(.t 15)),(7,1,(.t 16)),(8,1,(.t 17))]),qq 19 (.box 9 (.t 18)),qv 7 19] (.seq (sr [qs 20 3 4,qq 21 (.call 86 [.t 20]),qq 22 (.lenSl (.t 21)),qm 23 0] (.block 0 (.loop (sr [qb 24 .lss 23 22] (.seq (.cond (.t 24) (.skip) (.exit 0)) (.seq (.block 1 (sr [qv 25 23,qx 26 2 21 23,qs 27 2 26,qq 9 (.alloc [(.int .i64 0),(.int .i64 0)]),qv 8 25,qu (.store 2 (.t 9) (.t 27))] (.draw [qv 28 7,qq 29 (.nilCheck (.t 28)),qf 30 4 29,ql 31 30,qf 32 0 9,ql 33 32,qv 34 7,qq 35 (.nilCheck (.t 34)),qf 36 4 35,ql 37 36,qf 38 0 9,ql 39 38,qq 40 (.lookup .int (.sl none true 0 []) false (.t 37) (.t 39)),qf 41 1 9,ql 42 41,qf 43 2 4,ql 44 43,qf 45 0 9,ql 46 45,qx 47 3 44 46,qf 48 2 47,ql 49 48,qf 50 1 9,ql 51 50,qx 52 4 49 51,qf 53 1 52,ql 54 53,qv 55 2,qv 56 8,qx 57 1 55 56,ql 58 57,qq 59 (.build [(.int .i64 0),(.int .i64 0),(.int .i64 0)] [(0,1,(.t 42)),(1,1,(.t 54)),(2,1,(.t 58))]),qq 60 (.buildSl true 3 [(.int .i64 0),(.int .i64 0),(.int .i64 0)] [(0,3,(.t 59))] 1),qq 61 (.append true 3 24 (.t 40) (.t 60)),qu (.mapSet .int (.t 31) (.t 33) (.t 61))] [(3,32),(5,32),(9,32),(11,32),(12,32),(3,33),(5,33)]))) (.region [qn 62 .add 23 1,qv 23 62]))))))) (sr [qv 63 7,qv 6 63] (.ret)))),[.t 6]⟩
def S56:AF:=⟨sr [qq 4 (.mov (.c (.bool false)))] (.seq (sr [qv 7 1,qq 8 (.lenSl (.t 7)),qm 9 0] (.block 0 (.loop (sr [qb 10 .lss 9 8] (.seq (.cond (.t 10) (.skip) (.exit 0)) (.seq (.block 1 (sr [qv 11 9,qx 12 1 7 9,ql 13 12,qv 5 11,qv 6 13] (sr [qv 14 0,qv 15 6,qv 16 5,qq 17 (.call 107 [.t 14,.t 15,.t 16]),qq 18 (.un .not (.t 17))] (.cond (.t 18) (sr [qq 4 (.mov (.c (.bool false)))] (.ret)) (.skip))))) (.region [qn 19 .add 9 1,qv 9 19]))))))) (sr [qq 4 (.mov (.c (.bool true)))] (.ret))),[.t 4]⟩
def S68:AF:=⟨sr [qq 2 (.mov (.c (.sl none true 0 [])))] (.seq (sr [qv 3 0,qq 4 (.eq false .sl (.t 3) (.c (.sl none true 0 [])))] (.cond (.t 4) (sr [qq 2 (.mov (.c (.sl none true 0 [])))] (.ret)) (.skip))) (sr [qq 5 (.buildSl true 1 [] [] 0),qv 6 0,qq 7 (.append true 1 8 (.t 5) (.t 6)),qv 2 7] (.ret))),[.t 2]⟩
def S70:AF:=⟨sr [qq 4 (.mov (.c (.bool false)))] (.seq (sr [qv 6 0,qq 7 (.lenSl (.t 6)),qv 8 1,qq 9 (.lenSl (.t 8)),qb 10 .neq 7 9] (.cond (.t 10) (sr [qq 4 (.mov (.c (.bool false)))] (.ret)) (.skip))) (.seq (sr [qv 11 0,qq 12 (.lenSl (.t 11)),qm 13 0] (.block 0 (.loop (sr [qb 14 .lss 13 12] (.seq (.cond (.t 14) (.skip) (.exit 0)) (.seq (.block 1 (sr [qv 15 13,qv 5 15] (.seq (.draw [qv 16 0,qv 17 5,qx 18 1 16 17,ql 19 18,qv 20 1,qv 21 5,qx 22 1 20 21,ql 23 22,qb 24 .neq 19 23] []) (.cond (.t 24) (sr [qq 4 (.mov (.c (.bool false)))] (.ret)) (.skip))))) (.region [qn 25 .add 13 1,qv 13 25]))))))) (sr [qq 4 (.mov (.c (.bool true)))] (.ret)))),[.t 4]⟩
def S107:AF:=⟨sr [qq 3 (.box 1 (.t 0)),qq 4 (.box 1 (.t 1)),qq 6 (.mov (.c (.bool false)))] (.seq (.draw [ql 12 3,qq 13 (.nilCheck (.t 12)),qf 14 1 13,qf 15 2 14,ql 16 15,ql 17 4,qx 18 3 16 17,qf 19 0 18,ql 20 19,qv 7 20] []) (.seq (sr [ql 22 3,qq 23 (.nilCheck (.t 22)),qf 24 7 23,ql 25 24,qv 26 7,qq 27 (.lookup .int (.int .i64 0) true (.t 25) (.t 26)),qv 21 27,qe 28 21 0,qe 29 21 1,qv 8 28,qv 9 29] (.seq (.seq (.draw [qv 30 9,qv 31 30,qg 32 (.mov (.t 8)) 31 true,qg 33 (.load none (.t 4)) 31 true,qg 34 (.bin .gtr (.t 32) (.t 33)) 31 true,qq 35 (.pick (.t 31) (.t 34) (.c (.bool false))),qv 36 35,qg 37 (.load none (.t 3)) 36 false,qg 38 (.nilCheck (.t 37)) 36 false,qg 39 (.fieldAddr 1 (.t 38)) 36 false,qg 40 (.load (some 3) (.t 39)) 36 false,qg 41 (.load none (.t 4)) 36 false] []) (.region [qg 42 (.call 114 [.t 40,.t 41]) 36 false,qg 43 (.lenSl (.t 42)) 36 false,qg 44 (.bin .gtr (.t 43) (nn 0)) 36 false,qq 45 (.pick (.t 36) (.c (.bool true)) (.t 44))])) (.cond (.t 45) (sr [qq 6 (.mov (.c (.bool false)))] (.ret)) (.skip)))) (sr [ql 46 3,ql 47 4,qq 48 (.call 162 [.t 46,.t 47])] (.seq (.seq (.seq (.draw [ql 49 3,qq 50 (.nilCheck (.t 49)),qf 51 4 50,ql 52 51,ql 53 4,qq 54 (.lookup .int (.sl none true 0 []) false (.t 52) (.t 53)),qq 55 (.mkFn (.func 164) [] [.t 3,.t 4])] []) (.region [qq 56 (.call 163 [.t 54,.t 55])])) (.cond (.t 56) (sr [qq 6 (.mov (.c (.bool false)))] (.ret)) (.skip))) (.seq (.draw [ql 57 3,qq 58 (.nilCheck (.t 57)),qf 59 5 58,ql 60 59,ql 61 4,qv 62 2,qu (.mapSet .int (.t 60) (.t 61) (.t 62))] []) (.seq (.draw [ql 63 3,qq 64 (.nilCheck (.t 63)),qf 65 7 64,ql 66 65,qv 67 7,ql 68 4,qu (.mapSet .int (.t 66) (.t 67) (.t 68))] []) (.seq (.seq (.draw [ql 69 3,qq 70 (.nilCheck (.t 69)),qf 71 1 70,qf 72 2 71,ql 73 72,ql 74 4,qx 75 3 73 74,qf 76 2 75,ql 77 76,qq 78 (.lenSl (.t 77)),qm 79 0] []) (.block 0 (.loop (sr [qb 80 .lss 79 78] (.seq (.cond (.t 80) (.skip) (.exit 0)) (.seq (.block 1 (sr [qx 81 4 77 79,qs 82 4 81,qq 11 (.alloc [(.bool false),(.int .i64 0),(.int .i64 0),(.int .i64 0)]),qu (.store 4 (.t 11) (.t 82))] (sr [qf 83 0 11,ql 84 83] (.cond (.t 84) (.draw [ql 85 3,qq 86 (.nilCheck (.t 85)),qf 87 6 86,ql 88 87,qf 89 1 11,ql 90 89,ql 91 4,qu (.mapSet .int (.t 88) (.t 90) (.t 91))] []) (.skip))))) (.region [qn 92 .add 79 1,qv 79 92]))))))) (sr [qq 6 (.mov (.c (.bool true)))] (.ret))))))))),[.t 6]⟩
def S153:AF:=⟨sr [qq 4 (.mov (.c (.bool false)))] (sr [qv 5 0,qv 6 1,qq 7 (.call 213 [.t 5,.t 6]),qn 8 .geq 7 0,qv 4 8] (.ret)),[.t 4]⟩
def S154:AF:=⟨sr [qq 2 (.box 3 (.t 0)),qq 3 (.mov (.c (.bool false)))] (sr [qs 4 3 1,qs 5 3 2,qq 6 (.call 155 [.t 4,.t 5]),qq 7 (.un .not (.t 6)),qv 3 7] (.ret)),[.t 3]⟩
def S156:AF:=⟨sr [qq 1 (.box 3 (.t 0)),qq 2 (.mov (.c .nilfn))] (sr [qq 3 (.mkFn (.func 215) [] [.t 1]),qv 2 3] (.ret)),[.t 2]⟩
def S162:AF:=⟨sr [qq 2 (.box 1 (.t 0))] (sr [qq 10 (.mkMap),qq 4 (.alloc [.nilmap]),qu (.store 1 (.t 4) (.t 10))] (sr [qq 11 (.mkFn (.func 218) [] [.t 4,.t 2]),qv 5 11] (.seq (sr [ql 12 2,qq 13 (.nilCheck (.t 12)),qf 14 4 13,ql 15 14,qv 16 1,qq 17 (.lookup .int (.sl none true 0 []) false (.t 15) (.t 16)),qq 18 (.lenSl (.t 17)),qm 19 0] (.block 0 (.loop (sr [qb 20 .lss 19 18] (.seq (.cond (.t 20) (.skip) (.exit 0)) (.seq (.block 1 (sr [qx 21 3 17 19,qs 22 3 21,qq 7 (.alloc [(.int .i64 0),(.int .i64 0),(.int .i64 0)]),qu (.store 3 (.t 7) (.t 22))] (sr [qf 23 2 7,ql 24 23,qn 25 .geq 24 0] (.cond (.t 25) (.region [qv 26 5,qf 27 2 7,ql 28 27,qq 29 (.callV (.t 26) [.t 28])]) (.skip))))) (.region [qn 30 .add 19 1,qv 19 30]))))))) (.seq (.seq (.draw [ql 32 2,qq 33 (.nilCheck (.t 32)),qf 34 7 33,ql 35 34,ql 36 2,qq 37 (.nilCheck (.t 36)),qf 38 1 37,qf 39 2 38,ql 40 39,qv 41 1,qx 42 3 40 41,qf 43 0 42,ql 44 43,qq 45 (.lookup .int (.int .i64 0) true (.t 35) (.t 44)),qv 31 45,qe 46 31 0,qe 47 31 1,qv 8 46,qv 9 47] []) (sr [qv 48 9] (.cond (.t 48) (.region [qv 49 5,qv 50 8,qq 51 (.callV (.t 49) [.t 50])]) (.skip)))) (.draw [ql 52 2,qq 53 (.nilCheck (.t 52)),qf 54 8 53,ql 55 54,qv 56 1,ql 57 4,qu (.mapSet .int (.t 55) (.t 56) (.t 57))] []))))),[]⟩
def S163:AF:=⟨sr [qq 4 (.mov (.c (.bool false)))] (sr [qv 5 0,qv 6 1,qq 7 (.call 219 [.t 5,.t 6]),qn 8 .geq 7 0,qv 4 8] (.ret)),[.t 4]⟩
def S164:AF:=⟨sr [qq 3 (.box 3 (.t 0)),qq 4 (.mov (.c (.bool false)))] (sr [ql 5 1,ql 6 2,qs 7 3 3,qq 8 (.call 165 [.t 5,.t 6,.t 7]),qq 9 (.un .not (.t 8)),qv 4 9] (.ret)),[.t 4]⟩
def S165:AF:=⟨sr [qq 5 (.box 3 (.t 2)),qq 6 (.mov (.c (.bool false)))] (.seq (.seq (.draw [qv 10 0,qq 11 (.nilCheck (.t 10)),qf 12 5 11,ql 13 12,qf 14 2 5,ql 15 14,qq 16 (.lookup .int (.int .i64 0) true (.t 13) (.t 15)),qv 9 16,qe 17 9 0,qe 18 9 1,qv 7 17,qv 8 18] []) (sr [qv 19 8,qq 20 (.un .not (.t 19))] (.cond (.t 20) (sr [qq 6 (.mov (.c (.bool false)))] (.ret)) (.skip)))) (.seq (sr [qv 21 0,qq 22 (.nilCheck (.t 21)),qf 23 0 22,ql 24 23] (.block 0 (sr [qn 26 .eql 24 1,qv 25 26] (.cond (.t 25) (sr [qv 27 0,qv 28 1,qs 29 3 5,qq 30 (.call 220 [.t 27,.t 28,.t 29]),qv 6 30] (.ret)) (sr [qn 32 .eql 24 2,qv 31 32] (.cond (.t 31) (sr [qv 33 0,qv 34 1,qs 35 3 5,qq 36 (.call 221 [.t 33,.t 34,.t 35]),qv 6 36] (.ret)) (.skip))))))) (sr [qv 37 0,qs 38 3 5,qq 39 (.call 222 [.t 37,.t 38]),qv 6 39] (.ret)))),[.t 6]⟩
def S168:AF:=cf true true Tryz.f168
def S169:AF:=cf true true Tryz.f169
def S171:AF:=cf true true Tryz.f171
def S213:AF:=⟨sr [qm 4 0] (.seq (sr [qv 6 0,qq 7 (.lenSl (.t 6)),qm 8 0] (.block 0 (.loop (sr [qb 9 .lss 8 7] (.seq (.cond (.t 9) (.skip) (.exit 0)) (.seq (.block 1 (sr [qv 10 8,qv 5 10] (sr [qv 11 1,qv 12 0,qv 13 5,qx 14 3 12 13,qs 15 3 14,qq 16 (.callV (.t 11) [.t 15])] (.cond (.t 16) (sr [qv 17 5,qv 4 17] (.ret)) (.skip))))) (.region [qn 18 .add 8 1,qv 8 18]))))))) (sr [qq 4 (.mov (nn (-1)))] (.ret))),[.t 4]⟩
def S215:AF:=⟨sr [qf 7 2 1,ql 8 7,qq 9 (.lenSl (.t 8)),qm 10 0] (.block 0 (.loop (sr [qb 11 .lss 10 9] (.seq (.cond (.t 11) (.skip) (.exit 0)) (.seq (.block 1 (sr [qv 12 10,qx 13 3 8 10,qs 14 3 13,qq 4 (.alloc [(.int .i64 0),(.int .i64 0),(.sl none true 0 [])]),qv 3 12,qu (.store 3 (.t 4) (.t 14))] (sr [qf 15 2 4,ql 16 15,qq 17 (.lenSl (.t 16)),qm 18 0] (.block 2 (.loop (sr [qb 19 .lss 18 17] (.seq (.cond (.t 19) (.skip) (.exit 2)) (.seq (.block 3 (sr [qv 20 18,qx 21 4 16 18,qs 22 4 21,qq 6 (.alloc [(.bool false),(.int .i64 0),(.int .i64 0),(.int .i64 0)]),qv 5 20,qu (.store 4 (.t 6) (.t 22))] (sr [qv 23 0,qv 24 3,qv 25 5,qq 26 (.build [(.int .i64 0),(.int .i64 0)] [(0,1,(.t 24)),(1,1,(.t 25))]),qs 27 4 6,qq 28 (.callV (.t 23) [.t 26,.t 27]),qq 29 (.un .not (.t 28))] (.cond (.t 29) (.ret) (.skip))))) (.region [qn 30 .add 18 1,qv 18 30]))))))))) (.region [qn 31 .add 10 1,qv 10 31])))))),[]⟩
def S218:AF:=⟨sr [ql 5 1,qv 6 0,qq 7 (.lookup .int (.int .i64 0) false (.t 5) (.t 6)),qn 8 .add 7 1,qu (.mapSet .int (.t 5) (.t 6) (.t 8))] (sr [ql 9 2,qq 10 (.nilCheck (.t 9)),qf 11 8 10,ql 12 11,qv 13 0,qq 14 (.lookup .int .nilmap false (.t 12) (.t 13)),qq 15 (.range false (.t 14))] (.block 0 (.loop (sr [qq 16 (.nextMap (.t 15)),qe 17 16 0] (.seq (.cond (.t 17) (.skip) (.exit 0)) (.block 1 (sr [qq 18 (.entry (.t 15)),qe 19 18 0,qv 4 19] (.region [ql 20 1,qv 21 4,qq 22 (.lookup .int (.int .i64 0) false (.t 20) (.t 21)),qn 23 .add 22 1,qu (.mapSet .int (.t 20) (.t 21) (.t 23))])))))))),[]⟩
def S219:AF:=⟨sr [qm 4 0] (.seq (sr [qv 6 0,qq 7 (.lenSl (.t 6)),qm 8 0] (.block 0 (.loop (sr [qb 9 .lss 8 7] (.seq (.cond (.t 9) (.skip) (.exit 0)) (.seq (.block 1 (sr [qv 10 8,qv 5 10] (sr [qv 11 1,qv 12 0,qv 13 5,qx 14 3 12 13,qs 15 3 14,qq 16 (.callV (.t 11) [.t 15])] (.cond (.t 16) (sr [qv 17 5,qv 4 17] (.ret)) (.skip))))) (.region [qn 18 .add 8 1,qv 8 18]))))))) (sr [qq 4 (.mov (nn (-1)))] (.ret))),[.t 4]⟩
def S220:AF:=⟨sr [qq 3 (.box 1 (.t 0)),qq 5 (.box 3 (.t 2)),qq 6 (.mov (.c (.bool false)))] (sr [ql 7 3,qq 8 (.nilCheck (.t 7)),qf 9 4 8,ql 10 9,qv 11 1,qq 12 (.lookup .int (.sl none true 0 []) false (.t 10) (.t 11)),qq 13 (.mkFn (.func 256) [] [.t 5,.t 3]),qq 14 (.call 163 [.t 12,.t 13]),qq 15 (.un .not (.t 14)),qv 6 15] (.ret)),[.t 6]⟩
def S221:AF:=⟨sr [qq 5 (.box 3 (.t 2)),qq 6 (.mov (.c (.bool false)))] (.seq (sr [qv 8 0,qq 9 (.nilCheck (.t 8)),qf 10 8 9,ql 11 10,qv 12 1,qq 13 (.lookup .int .nilmap false (.t 11) (.t 12)),qq 14 (.range false (.t 13))] (.block 0 (.loop (sr [qq 15 (.nextMap (.t 14)),qe 16 15 0] (.seq (.cond (.t 16) (.skip) (.exit 0)) (.block 1 (sr [qq 17 (.entry (.t 14)),qe 18 17 0,qv 7 18] (sr [qv 19 0,qv 20 7,qs 21 3 5,qq 22 (.call 257 [.t 19,.t 20,.t 21])] (.cond (.t 22) (sr [qq 6 (.mov (.c (.bool false)))] (.ret)) (.skip)))))))))) (sr [qq 6 (.mov (.c (.bool true)))] (.ret))),[.t 6]⟩
def S222:AF:=⟨sr [qq 3 (.box 3 (.t 1)),qq 4 (.mov (.c (.bool false)))] (.seq (.draw [qv 8 0,qq 9 (.nilCheck (.t 8)),qf 10 6 9,ql 11 10,qf 12 1 3,ql 13 12,qq 14 (.lookup .int (.int .i64 0) true (.t 11) (.t 13)),qv 7 14,qe 15 7 0,qe 16 7 1,qv 5 15,qv 6 16] []) (.seq (sr [qv 17 6,qq 18 (.un .not (.t 17))] (.cond (.t 18) (.region [qq 5 (.mov (nn (-1)))]) (.skip))) (sr [qv 19 5,qf 20 2 3,ql 21 20,qb 22 .eql 19 21,qv 4 22] (.ret)))),[.t 4]⟩
def S231:AF:=cf true true Tryz.f231
def S232:AF:=cf true true Tryz.f232
def S237:AF:=⟨sr [qq 1 (.box 1 (.t 0)),qq 2 (.mov (.c .nilfn))] (sr [qq 3 (.mkFn (.func 274) [] [.t 1]),qv 2 3] (.ret)),[.t 2]⟩
def S255:AF:=⟨sr [qq 3 (.box 3 (.t 0)),qq 6 (.mov (.c .nilmap))] (sr [qq 10 (.mkMap),qv 7 10] (.seq (sr [qs 11 3 3,qv 12 2,qq 13 (.call 281 [.t 11,.t 12]),qq 14 (.lenSl (.t 13)),qm 15 0] (.block 0 (.loop (sr [qb 16 .lss 15 14] (.seq (.cond (.t 16) (.skip) (.exit 0)) (.seq (.block 1 (sr [qx 17 1 13 15,ql 18 17,qv 9 18] (sr [qv 19 9,qv 20 1,qb 21 .neq 19 20] (.cond (.t 21) (.region [qv 23 7,qv 24 9,qs 25 3 3,qv 26 9,qv 27 2,qq 28 (.call 116 [.t 25,.t 26,.t 27]),qv 22 28,qe 29 22 0,qe 30 22 1,qu (.mapSet .int (.t 23) (.t 24) (.t 29))]) (.skip))))) (.region [qn 31 .add 15 1,qv 15 31]))))))) (sr [qv 32 7,qv 6 32] (.ret)))),[.t 6]⟩
def S256:AF:=⟨sr [qq 3 (.box 3 (.t 0)),qq 4 (.mov (.c (.bool false)))] (sr [qf 5 0 3,ql 6 5,qf 7 0 1,ql 8 7,qb 9 .lss 6 8,qv 10 9,qg 11 (.load none (.t 2)) 10 true,qg 12 (.fieldAddr 2 (.t 3)) 10 true,qg 13 (.load none (.t 12)) 10 true,qg 14 (.load (some 3) (.t 1)) 10 true,qg 15 (.call 257 [.t 11,.t 13,.t 14]) 10 true,qq 16 (.pick (.t 10) (.t 15) (.c (.bool false))),qv 4 16] (.ret)),[.t 4]⟩
def S257:AF:=⟨sr [qq 5 (.box 3 (.t 2)),qq 6 (.mov (.c (.bool false)))] (.seq (.draw [qv 7 1,qn 8 .geq 7 0,qv 9 8,qg 10 (.mov (.t 1)) 9 true,qg 11 (.fieldAddr 2 (.t 5)) 9 true,qg 12 (.load none (.t 11)) 9 true,qg 13 (.bin .neq (.t 10) (.t 12)) 9 true,qq 14 (.pick (.t 9) (.t 13) (.c (.bool false))),qv 15 14,qg 16 (.mov (.t 0)) 15 true,qg 17 (.mov (.t 1)) 15 true,qg 18 (.fieldAddr 1 (.t 5)) 15 true,qg 19 (.load none (.t 18)) 15 true,qg 20 (.call 282 [.t 16,.t 17,.t 19]) 15 true,qq 21 (.pick (.t 15) (.t 20) (.c (.bool false))),qv 22 21,qg 23 (.mov (.t 0)) 22 true,qg 24 (.nilCheck (.t 23)) 22 true,qg 25 (.fieldAddr 5 (.t 24)) 22 true,qg 26 (.load none (.t 25)) 22 true,qg 27 (.mov (.t 1)) 22 true,qg 28 (.lookup .int (.int .i64 0) false (.t 26) (.t 27)) 22 true,qg 29 (.mov (.t 0)) 22 true,qg 30 (.nilCheck (.t 29)) 22 true,qg 31 (.fieldAddr 5 (.t 30)) 22 true,qg 32 (.load none (.t 31)) 22 true,qg 33 (.fieldAddr 2 (.t 5)) 22 true,qg 34 (.load none (.t 33)) 22 true,qg 35 (.lookup .int (.int .i64 0) false (.t 32) (.t 34)) 22 true,qg 36 (.bin .geq (.t 28) (.t 35)) 22 true,qq 37 (.pick (.t 22) (.t 36) (.c (.bool false))),qv 6 37] []) (.ret)),[.t 6]⟩
def S270:AF:=cf true true Tryz.f270
def S271:AF:=cf true true Tryz.f271
def S272:AF:=cf true true Tryz.f272
def S274:AF:=⟨sr [ql 4 1,qq 5 (.lenSl (.t 4)),qn 6 .sub 5 1,qv 3 6] (.block 0 (.loop (.seq (sr [qv 7 3,qn 8 .geq 7 0] (.cond (.t 8) (.skip) (.exit 0))) (.seq (.block 1 (sr [qv 11 0,qv 12 3,ql 13 1,qv 14 3,qx 15 4 13 14,qs 16 4 15,qq 17 (.callV (.t 11) [.t 12,.t 16]),qq 18 (.un .not (.t 17))] (.cond (.t 18) (.ret) (.skip)))) (.region [qv 9 3,qn 10 .sub 9 1,qv 3 10]))))),[]⟩
def S282:AF:=⟨sr [qq 6 (.mov (.c (.bool false)))] (sr [qv 10 0,qq 11 (.nilCheck (.t 10)),qf 12 1 11,qs 13 3 12,qv 14 1,qv 15 2,qq 16 (.call 116 [.t 13,.t 14,.t 15]),qv 9 16,qe 17 9 0,qe 18 9 1,qq 7 (.alloc [(.int .i64 0),(.int .i64 0)]),qu (.store 2 (.t 7) (.t 17)),qv 8 18] (sr [qv 19 8,qv 6 19] (.ret))),[.t 6]⟩
def S291:AF:=cf true true Tryz.f291
def S292:AF:=cf true true Tryz.f292
def S294:AF:=⟨sr [qq 2 (.box 3 (.t 0)),qq 3 (.mov (.c (.bool false)))] (sr [qf 4 1 2,ql 5 4,qn 6 .neq 5 2,qv 7 6,qg 8 (.fieldAddr 2 (.t 2)) 7 true,qg 9 (.load none (.t 8)) 7 true,qg 10 (.mkFn (.func 296) [] [.t 1]) 7 true,qg 11 (.call 295 [.t 9,.t 10]) 7 true,qq 12 (.pick (.t 7) (.t 11) (.c (.bool false))),qv 3 12] (.ret)),[.t 3]⟩
def S295:AF:=⟨sr [qq 4 (.mov (.c (.bool false)))] (sr [qv 5 0,qv 6 1,qq 7 (.call 305 [.t 5,.t 6]),qn 8 .geq 7 0,qv 4 8] (.ret)),[.t 4]⟩
def S296:AF:=⟨sr [qq 2 (.box 4 (.t 0)),qq 3 (.mov (.c (.bool false)))] (sr [qf 4 0 2,ql 5 4,qv 6 5,qg 7 (.fieldAddr 1 (.t 2)) 6 true,qg 8 (.load none (.t 7)) 6 true,qg 9 (.load none (.t 1)) 6 true,qg 10 (.bin .eql (.t 8) (.t 9)) 6 true,qq 11 (.pick (.t 6) (.t 10) (.c (.bool false))),qv 3 11] (.ret)),[.t 3]⟩
def S303:AF:=cf true true Tryz.f303
def S305:AF:=⟨sr [qm 4 0] (.seq (sr [qv 6 0,qq 7 (.lenSl (.t 6)),qm 8 0] (.block 0 (.loop (sr [qb 9 .lss 8 7] (.seq (.cond (.t 9) (.skip) (.exit 0)) (.seq (.block 1 (sr [qv 10 8,qv 5 10] (sr [qv 11 1,qv 12 0,qv 13 5,qx 14 4 12 13,qs 15 4 14,qq 16 (.callV (.t 11) [.t 15])] (.cond (.t 16) (sr [qv 17 5,qv 4 17] (.ret)) (.skip))))) (.region [qn 18 .add 8 1,qv 8 18]))))))) (sr [qq 4 (.mov (nn (-1)))] (.ret))),[.t 4]⟩
def S312:AF:=cf true true Tryz.f312
end
end Go.Pv.T
namespace Go.Pv.T
open Go Go.Pv
noncomputable section
def utf8first:List V:=(List.range 256).map fun i=>V.int .u8 (if i<128 then 240 else if i<194 then 241 else if i<224 then 2 else if i=224 then 19 else if i<237 then 3 else if i=237 then 35 else if i<240 then 3 else if i=240 then 52 else if i<244 then 4 else if i=244 then 68 else 241:Nat)
def words:List V:=[.str [],.str [98,101,103,105,110],.str [114,101,97,100],.str [119,114,105,116,101],.str [111,107],.str [102,97,105,108],.str [105,110,102,111]]
def accR:List V:=[.int .u8 128,.int .u8 191,.int .u8 160,.int .u8 191,.int .u8 128,.int .u8 159,.int .u8 144,.int .u8 191,.int .u8 128,.int .u8 143,.int .u8 0,.int .u8 0,.int .u8 0,.int .u8 0,.int .u8 0,.int .u8 0,.int .u8 0,.int .u8 0,.int .u8 0,.int .u8 0,.int .u8 0,.int .u8 0,.int .u8 0,.int .u8 0,.int .u8 0,.int .u8 0,.int .u8 0,.int .u8 0,.int .u8 0,.int .u8 0,.int .u8 0,.int .u8 0]
def fc_1:FuncId→Option AF
 | 233=>some F233
 | 251=>some F251
 | 252=>some F252
 | 253=>some F253
 | 254=>some F254
 | 258=>some F258
 | 259=>some F259
 | 261=>some F261
 | 262=>some F262
 | 263=>some F263
 | 264=>some F264
 | 265=>some F265
 | 266=>some F266
 | 267=>some F267
 | 268=>some F268
 | 269=>some F269
 | 280=>some F280
 | 281=>some F281
 | 284=>some F284
 | 285=>some F285
 | 286=>some F286
 | 288=>some F288
 | 289=>some F289
 | 293=>some F293
 | 300=>some F300
 | 304=>some F304
 | 307=>some F307
 | 320=>some F320
 | _=>none
def fc:FuncId→Option AF
 | 5=>some F5
 | 15=>some F15
 | 16=>some F16
 | 18=>some F18
 | 19=>some F19
 | 20=>some F20
 | 25=>some F25
 | 52=>some F52
 | 53=>some F53
 | 54=>some F54
 | 57=>some F57
 | 70=>some F70
 | 71=>some F71
 | 86=>some F86
 | 103=>some F103
 | 104=>some F104
 | 105=>some F105
 | 106=>some F106
 | 108=>some F108
 | 109=>some F109
 | 114=>some F114
 | 116=>some F116
 | 118=>some F118
 | 127=>some F127
 | 136=>some F136
 | 152=>some F152
 | 155=>some F155
 | 157=>some F157
 | 158=>some F158
 | 159=>some F159
 | 160=>some F160
 | 161=>some F161
 | 166=>some F166
 | 167=>some F167
 | 170=>some F170
 | 176=>some F176
 | 177=>some F177
 | 188=>some F188
 | 212=>some F212
 | 214=>some F214
 | 216=>some F216
 | 217=>some F217
 | 223=>some F223
 | 224=>some F224
 | 225=>some F225
 | 226=>some F226
 | 227=>some F227
 | 228=>some F228
 | 229=>some F229
 | 230=>some F230
 | f=>fc_1 f
def fs:FuncId→Option AF
 | 51=>some S51
 | 55=>some S55
 | 68=>some S68
 | 70=>some S70
 | 153=>some S153
 | 154=>some S154
 | 156=>some S156
 | 163=>some S163
 | 164=>some S164
 | 165=>some S165
 | 168=>some S168
 | 169=>some S169
 | 171=>some S171
 | 213=>some S213
 | 215=>some S215
 | 219=>some S219
 | 220=>some S220
 | 221=>some S221
 | 222=>some S222
 | 231=>some S231
 | 232=>some S232
 | 237=>some S237
 | 255=>some S255
 | 256=>some S256
 | 257=>some S257
 | 270=>some S270
 | 271=>some S271
 | 272=>some S272
 | 274=>some S274
 | 282=>some S282
 | 291=>some S291
 | 292=>some S292
 | 294=>some S294
 | 295=>some S295
 | 296=>some S296
 | 303=>some S303
 | 305=>some S305
 | 312=>some S312
 | _=>none
def shl:List Nat:=[55,56,65,68,69,72,73,76,77,78,81,91,93,98,107,111,113,125,141,156,162,168,195,196,197,198,199,200,201,202,218,231,237,240,245,246,247,255,270,271,274,276,277,291,292,303,312,313,314,315,316,317,318,319,323,324,325,326]
def shm:List Nat:=[25,51,217]
def fzl:List Nat:=[217]
def twl:List Nat:=[217]
def srl:List Nat:=[69]
def E:Env:={ sh:=fun nm f=>shl.any (Nat.beq f) || (nm && shm.any (Nat.beq f)),fz:=fun f=>fzl.any (Nat.beq f),tw:=fun f=>twl.any (Nat.beq f),srt:=fun f=>srl.any (Nat.beq f),fc:=fc,fs:=fs,gl:=fun g=>match g with | 1=>some words | 2=>some utf8first | 3=>some accR | _=>none }
def fs1:FuncId→Option AF
 | 56=>some S56
 | 107=>some S107
 | 162=>some S162
 | 218=>some S218
 | f=>fs f
def mnl:List Nat:=[56,107,162,218]
def E1:Env:={ sh:=E.sh,fz:=E.fz,tw:=E.tw,srt:=E.srt,fc:=E.fc,fs:=fs1,gl:=E.gl,mn:=fun f=>mnl.any (Nat.beq f) }
end
structure Val' where
 kind:Int
 n:Int
 deriving DecidableEq
structure Op' where
 w:Bool
 key:Int
 v:Val'
 deriving DecidableEq
structure Txn' where
 s:Int
 f:Int
 nl:Bool
 ops:List Op'
structure Hist' where
 sn:Bool
 ss:List (List UInt8)
 kn:Bool
 ks:List (List UInt8)
 tn:Bool
 ts:List Txn'
def valC (v:Val'):List V:=[.int .i64 v.kind,.int .i64 v.n]
def opC (o:Op'):List V:=[.bool o.w,.int .i64 o.key,.int .i64 o.v.kind,.int .i64 o.v.n]
def slOf {α:Type} (nl:Bool) (f:α→List V) (l:List α):V:=.sl none nl l.length (l.flatMap f)
def txnC (t:Txn'):List V:=[.int .i64 t.s,.int .i64 t.f,slOf t.nl opC t.ops]
def strC (s:List UInt8):List V:=[.str s]
def histC (h:Hist'):List V:=[slOf h.sn strC h.ss,slOf h.kn strC h.ks,slOf h.tn txnC h.ts]
@[simp] theorem lenSlV_slOf {α:Type} (nl:Bool) (f:α→List V) (l:List α):lenSlV (slOf nl f l)=some (.int .i64 l.length):=rfl
@[simp] theorem slOf_leaf {α:Type} (nl:Bool) (f:α→List V) (l:List α):(slOf nl f l).leaf=true:=rfl
@[simp] theorem slOf_cells {α:Type} (nl:Bool) (f:α→List V) (l:List α):(slOf nl f l).cells=[slOf nl f l]:=rfl
@[simp] theorem slOf_strip {α:Type} (nl:Bool) (f:α→List V) (l:List α):(slOf nl f l).strip=slOf nl f l:=rfl
@[simp] theorem slOf_strip1 {α:Type} (nl:Bool) (f:α→List V) (l:List α):(slOf nl f l).strip1=slOf nl f l:=rfl
@[simp] theorem slOf_pureTop {α:Type} (nl:Bool) (f:α→List V) (l:List α):(slOf nl f l).pureTop=true:=rfl
@[simp] theorem slOf_pureLeaf {α:Type} (nl:Bool) (f:α→List V) (l:List α):(slOf nl f l).pureLeaf=true:=rfl
@[simp] theorem int_strip (k:IntKind) (n:Int):(V.int k n).strip = .int k n:=rfl
@[simp] theorem bool_strip (n:Bool):(V.bool n).strip = .bool n:=rfl
@[simp] theorem int_strip1 (k:IntKind) (n:Int):(V.int k n).strip1 = .int k n:=rfl
@[simp] theorem bool_strip1 (n:Bool):(V.bool n).strip1 = .bool n:=rfl
@[simp] theorem int_pureTop (k:IntKind) (n:Int):(V.int k n).pureTop=true:=rfl
@[simp] theorem bool_pureTop (n:Bool):(V.bool n).pureTop=true:=rfl
@[simp] theorem int_pureLeaf (k:IntKind) (n:Int):(V.int k n).pureLeaf=true:=rfl
@[simp] theorem bool_pureLeaf (n:Bool):(V.bool n).pureLeaf=true:=rfl
@[simp] theorem agg_strip (cs:List V):(V.agg cs).strip = .agg (cs.map V.strip1):=rfl
@[simp] theorem agg_pureTop (cs:List V):(V.agg cs).pureTop=cs.all V.pureLeaf:=rfl
def within (n:Int) (l:Nat):Bool:=decide (0≤n) && decide (n<l)
theorem ev214 (n:Int) (nl:Bool) (l:List (List UInt8)):Ev E 214 [.int .i64 n,slOf nl strC l] (.bool (within n l.length)):=by
 refine Ev_wpK (af:=F214) rfl ?_
 by_cases h:0≤n
 ·simp [F214,h]
  exact endV_1 rfl (by simp [within,h]) rfl
 ·simp [F214,h]
  exact endV_1 rfl (by simp [within,h]) rfl
def txnB (h:Hist') (t:Txn'):Bool:=within t.s h.ss.length && (decide (1≤t.f) && (decide (t.f≤3) && decide (t.ops.length≤20)))
theorem ev155 (h:Hist') (t:Txn'):Ev E 155 [.agg (histC h),.agg (txnC t)] (.bool (txnB h t)):=by
 refine Ev_wpK (af:=F155) rfl ?_
 simp [F155,histC,txnC,objCells]
 refine kS_call (vs:=[.int .i64 t.s,slOf h.sn strC h.ss]) (by simp) rfl (by simp) (by simpa using ev214 t.s h.sn h.ss) ?_
 unfold txnB
 cases h1:within t.s h.ss.length
 ·simp
  exact endV_1 rfl (by simp) rfl
 by_cases h2:1≤t.f
 ·by_cases h3:t.f≤3
  ·simp [objCells,h2,h3]
   exact endV_1 rfl (by simp;omega) rfl
  ·simp [objCells,h2,h3]
   exact endV_1 rfl (by simp) rfl
 ·simp [objCells,h2]
  exact endV_1 rfl (by simp) rfl
def valB (v:Val'):Bool:=v.kind == 1 || ((v.kind == 0 || v.kind == 2) && v.n == 0)
def cellV (v:Val'):V:=if v.kind=1 then .iface 2 (.int .i64 v.n) else if v.kind=2 then .iface 316 (.agg []) else .nilif
theorem ev253 (v:Val'):Ev E 253 [.agg (valC v)] (.agg [cellV v]):=by
 refine Ev_wpK (af:=F253) rfl ?_
 unfold cellV
 by_cases h1:v.kind=1
 ·simp [F253,valC,objCells,h1]
  exact kEnd_of rfl (l:=[.agg [.iface 2 (.int .i64 v.n)]]) (by simp [resOf,objCells]) rfl rfl
 ·have b1:(v.kind == 1)=false:=by simpa using h1
  by_cases h2:v.kind=2
  ·simp [F253,valC,objCells,h2]
   exact kEnd_of rfl (l:=[.agg [.iface 316 (.agg [])]]) (by simp [resOf,objCells]) rfl rfl
  ·have b2:(v.kind == 2)=false:=by simpa using h2
   simp [F253,valC,objCells,h1,h2,b1,b2]
   exact kEnd_of rfl (l:=[.agg [.nilif]]) (by simp [resOf,objCells]) rfl rfl
def backV (v:Val'):Val':=if v.kind=1 then ⟨1,v.n⟩ else if v.kind=2 then ⟨2,0⟩ else ⟨0,0⟩
theorem ev252 (v:Val'):Ev E 252 [.agg [cellV v]] (.tup [.agg (valC (backV v)),.int .i64 0]):=by
 refine Ev_wpK (af:=F252) rfl ?_
 unfold cellV backV
 by_cases h1:v.kind=1
 ·simp [F252,valC,objCells,h1,eqVV,eqV,assertV,splice]
  exact kEnd_of rfl (l:=[.agg [.int .i64 1,.int .i64 v.n],.int .i64 0]) (by simp [resOf,objCells]) rfl rfl
 ·by_cases h2:v.kind=2
  ·simp [F252,valC,objCells,h2,eqVV,eqV,assertV,splice]
   exact kEnd_of rfl (l:=[.agg [.int .i64 2,.int .i64 0],.int .i64 0]) (by simp [resOf,objCells]) rfl rfl
  ·simp [F252,valC,objCells,h1,h2,eqVV,eqV]
   exact kEnd_of rfl (l:=[.agg [.int .i64 0,.int .i64 0],.int .i64 0]) (by simp [resOf,objCells]) rfl rfl
theorem valB_back (v:Val'):valB v=((backV v).kind == v.kind && (backV v).n == v.n):=by
 obtain ⟨k,n⟩:=v
 unfold valB backV
 by_cases h1:k=1
 ·simp [h1]
 ·by_cases h2:k=2
  ·rw [if_neg h1,if_pos h2,Bool.eq_iff_iff]
   simp only [Bool.or_eq_true,Bool.and_eq_true,beq_iff_eq]
   omega
  ·rw [if_neg h1,if_neg h2,Bool.eq_iff_iff]
   simp only [Bool.or_eq_true,Bool.and_eq_true,beq_iff_eq]
   omega
theorem cellV_leaf (v:Val'):(cellV v).pureLeaf=true:=by unfold cellV;split;rfl;split <;> rfl
theorem cellV_strip1 (v:Val'):(cellV v).strip1=cellV v:=by unfold cellV;split;rfl;split <;> rfl
theorem ev216 (v:Val'):Ev E 216 [.agg (valC v)] (.bool (valB v)):=by
 refine Ev_wpK (af:=F216) rfl ?_
 simp [F216,valC,objCells]
 refine kS_call (vs:=[.agg (valC v)]) (by simp [valC]) rfl (by simp [valC]) (by simpa [valC] using ev253 v) ?_
 simp [retA_plain (v:=.agg [cellV v]) (by simp [V.plain,cellV_leaf])]
 refine kS_call (vs:=[.agg [cellV v]]) (by simp) rfl (by simp [cellV_leaf,cellV_strip1]) (by simpa [cellV_strip1] using ev252 v) ?_
 rw [valB_back]
 generalize backV v=b
 rw [retA_tupl (by simp [V.plain,valC])]
 simp [valC,objCells]
 exact endV_1 rfl (by simp) rfl
def opB (h:Hist') (o:Op'):Bool:=within o.key h.ks.length && (valB o.v && (!o.w || o.v.kind == 1))
theorem ev157 (h:Hist') (o:Op'):Ev E 157 [.agg (histC h),.agg (opC o)] (.bool (opB h o)):=by
 refine Ev_wpK (af:=F157) rfl ?_
 simp [F157,histC,opC,objCells]
 refine kS_call (vs:=[.int .i64 o.key,slOf h.kn strC h.ks]) (by simp) rfl (by simp) (by simpa using ev214 o.key h.kn h.ks) ?_
 unfold opB
 cases h1:within o.key h.ks.length
 ·simp
  exact endV_1 rfl (by simp) rfl
 simp [objCells]
 refine kS_call (vs:=[.agg (valC o.v)]) (by simp [valC]) rfl (by simp [valC]) (by simpa [valC] using ev216 o.v) ?_
 cases h2:valB o.v
 ·simp
  exact endV_1 rfl (by simp) rfl
 cases h3:o.w
 ·simp [objCells]
  exact endV_1 rfl (by simp) rfl
 ·simp [objCells]
  exact endV_1 rfl (by simp) rfl
end Go.Pv.T
