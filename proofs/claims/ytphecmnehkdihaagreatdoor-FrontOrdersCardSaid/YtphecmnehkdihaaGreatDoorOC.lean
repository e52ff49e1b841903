/- Code does what the interpreter says. -/
import Derived.Test.YtphecmnehkdihaaGreatDoorOB
import Derived.RangeFuncLeaves
set_option maxRecDepth 100000
namespace Go.Pv
open Go
def exOf:Ex→Exit
 | .nrm=>.normal
 | .exit id=>.exit id
 | .ret=>.ret
section
variable {P:Program}{E:Env}{nt:Nat}{call:Y→Callers}
def jve (P:Program) (E:Env) (nt:Nat) (call:Y→Callers) (y:Y) (N:Nat) (γ0:Nat→Option Place) (Iy:IMap) (c:Code) (ac:C) (rn:Option Nat):Prop :=
 ∀ (w0:World) (I0:IMap) (Q:Exit→Act→World→Prop) (st:St) (l:List (Ex × St)) (γ:Nat→Option Place) (I:IMap) (a:Act) (w:World),SubG γ0 γ→SubI Iy I →
  ja E call y N ac st=some l→R E w0 I0 nt γ I st a w→(∀u,st.nx≤u→γ u=none)→(∀x∈l,Nice E w0 I0 nt γ I x.2 x.2.nx (fun a w=>Q (exOf x.1) a w))→c.wpIn (FW rn) 0 P Q a w
theorem jrx {y:Y}{N:Nat}{γ0 γ1:Nat→Option Place}{Iy I1:IMap}{asg bd:C}{ca cb:Code}{st:St}{L lb ub:Nat}{rec:Loop}{ps:Array Nat}
 (ha:jve P E nt call y N γ0 Iy ca asg (some L)) (hb:jve P E nt call y N γ0 Iy cb bd (some L)) (hg:SubG γ0 γ1) (hI:SubI Iy I1) (hu:γ1 ub=some (.obj L (.lp rec)))
 (htm:∀t,Rep γ1 I1 (rec.tmps.getD t undef) (st.tm t)) (hsz:rec.tmps.size=nt) (hps:rec.params=ps) (hpl:∀p∈ps.toList,p<nt) (hca:rec.assign=ca) (hcb:rec.body=cb) :
 YOk P E γ1 I1 (Ql (ja E call y N asg) (ja E call y N bd) st ps.toList lb ub):=by
 intro l' u' args obx tkx rox ubx r ob' tk' ub' hy
 unfold Ql at hy
 simp only[Option.ite_none_right_eq_some]at hy
 obtain⟨⟨hl1,hu1,hlen,hro⟩,hy⟩:=hy
 subst l'
 subst u'
 split at hy
 case h_2=>cases hy
 rename_i u1 hob1
 simp only[Option.ite_none_right_eq_some]at hy
 obtain⟨hu1,hy⟩:=hy
 subst u1
 split at hy
 case h_2=>cases hy
 rename_i s1 hs1
 split at hy
 case h_2=>cases hy
 rename_i u2 hob2
 simp only[Option.ite_none_right_eq_some]at hy
 obtain⟨hu2,hy⟩:=hy
 subst u2
 split at hy
 case h_2=>cases hy
 rename_i e s2 hs2
 split at hy
 case h_2=>cases hy
 rename_i u3 hob3
 simp only[Option.ite_none_right_eq_some]at hy
 obtain⟨hu3,hy⟩:=hy
 subst u3
 intro w0 w I0 I γ xs sx b k hg1 hI1 hobx htkx hrox hSh hfr hxs hargs hbk
 rw[hg1 _ _ hu]at hbk
 cases hbk
 subst hobx
 subst htkx
 subst hrox
 have hγu:=hg1 _ _ hu
 obtain⟨r0,hr0,hheap⟩:=jgg hSh hob1 hγu
 cases hr0
 have hyl:=run_yield (P:=P) (args:=xs) hheap (by show xs.size=rec.params.size;rw[hps,hxs,hlen];simp)
 refine⟨_,_,_,_,hyl,?_⟩
 simp only[hca,hcb]
 have hpl':∀p∈ps.toList,p<rec.tmps.size:=by rw[hsz];exact hpl
 have hset:=jit (γ:=γ) (I:=I) ps.toList args xs.toList rec.tmps st.tm (by simpa using hxs) hlen hpl' (fun t=>(htm t).mono hg1 hI1) (fun j x v hx hv=>hargs j x v (by simpa using hx) hv)
 have hfold:(rec.params.zip xs).foldl (fun tmps (t,a)=>tmps.setIfInBounds t a) rec.tmps=(ps.toList.zip xs.toList).foldl (fun tmps (t,a)=>tmps.setIfInBounds t a) rec.tmps:=by
  rw[hps,← Array.foldl_toList,Array.toList_zip]
 refine roundIn_of_wpIn trivial ?_
 show Code.wpIn (FW (some L)) 0 P _ _ _ _
 have hR0:R E w0 I0 nt γ I { tm:=jdx st.tm ps.toList args,ob:=sx.ob,tk:=sx.tk,ro:=sx.ro,nx:=ubx,fb:=st.fb,df:=[] } { tmps:=(rec.params.zip xs).foldl (fun tmps (t,a)=>tmps.setIfInBounds t a) rec.tmps,defers:=[] } w:=by
  rw[hfold]
  exact⟨hset.1.trans hsz,trivial,hset.2,hSh.congr rfl rfl rfl⟩
 refine ha w0 I0 _ _ _ γ I _ w (hg.trans hg1) (hI.trans hI1) hs1 hR0 hfr (fun x hx=>?_)
 rw[List.mem_singleton]at hx
 subst hx
 intro γ2 I2 a2 w2 hR2 hf2 hg2 hI2
 -- the round begins
 have hγu2:=hg2 _ _ hγu
 obtain⟨r0,hr0,hheap2⟩:=jgg hR2.sh hob2 hγu2
 cases hr0
 have hbr:=run_beginRound (P:=P) hheap2 rfl
 refine⟨_,hbr,?_⟩
 show Code.wpIn (FW (some L)) 0 P _ _ _ _
 have hro2:s1.ro=sx.ro:=jh5 _ hs1 _ (List.mem_singleton.2 rfl)
 have hSh3:=hR2.sh.turn (ob':=upd s1.ob lb (some ⟨ub,.loop .busy none⟩)) (o':=.loop { rec with state:=.busy,pending:=none }) hob2 hγu2 (by rw[hro2];exact hro) (fun l2 x hx=>by
  rw[j5]at hx
  split at hx
  ·rename_i h2;subst h2;cases hx;exact .inr ⟨rfl,rfl,⟨rec,rfl,rfl⟩,fun _ _ h=>by cases h⟩
  ·rename_i h2;exact .inl ⟨h2,hx⟩)
 have hR3:R E w0 I0 nt γ2 I2 { s1 with ob:=upd s1.ob lb (some ⟨ub,.loop .busy none⟩) } a2 (w2.putObj L (.loop { rec with state:=.busy,pending:=none })):=⟨hR2.sz,hR2.df,hR2.tm,hSh3⟩
 refine hb w0 I0 _ _ _ γ2 I2 _ _ ((hg.trans hg1).trans hg2) ((hI.trans hI1).trans hI2) hs2 hR3 hf2 (fun x hx=>?_)
 rw[List.mem_singleton]at hx
 subst hx
 intro γ3 I3 a3 w3 hR4 hf4 hg4 hI4
 have hγu3:=hg4 _ _ hγu2
 obtain⟨r0,hr0,hheap3⟩:=jgg hR4.sh hob3 hγu3
 cases hr0
 have hro3:s2.ro=sx.ro:=(jh5 _ hs2 _ (List.mem_singleton.2 rfl)).trans hro2
 -- the round ends
 have fin:∀ (jump:Option Ex) (s:LS),j9o s=(if (jump.map Qp).isNone then .ready else .done)→some (V.bool (jump.map Qp).isNone,upd s2.ob lb (some ⟨ub,.loop s jump⟩),s2.tk,s2.nx)=some (r,ob',tk',ub') →
  ∃v w',(Instr.endRound L (jump.map Qp)).run P w3=.ok v w'∧WI E w0 I0 γ I sx.ro r ob' tk' ub' (.returned v) w':=by
  intro jump s hs he
  cases he
  have her:=run_endRound (P:=P) (jump.map Qp) hheap3
  refine⟨_,_,her,.bool (jump.map Qp).isNone,γ3,I3,rfl,fun st' e1 e2 e3=>?_,.pure _ _ (.bool _),SubG.trans hg2 hg4,SubI.trans hI2 hI4,hf4⟩
  have hSh5:=hR4.sh.turn (ob':=upd s2.ob lb (some ⟨ub,.loop s jump⟩)) (o':=.loop { rec with state:=j9o s,pending:=jump.map Qp }) hob3 hγu3 (by rw[hro3];exact hro) (fun l2 x hx=>by
   rw[j5]at hx
   split at hx
   ·rename_i h2;subst h2;cases hx;exact .inr ⟨rfl,rfl,⟨rec,rfl,rfl⟩,fun _ _ h=>by cases h⟩
   ·rename_i h2;exact .inl ⟨h2,hx⟩)
  rw[hs]at hSh5
  exact hSh5.congr e1 e2 (e3.trans hro3.symm)
 cases e with
 | nrm=>exact fin none .ready rfl hy
 | ret=>exact fin (some .ret) .done rfl hy
 | exit id=>exact fin (some (.exit id)) .done rfl hy
theorem Qr {l:List AOpr}{n:Nat}(h:(l.all fun o=>match o.dst with|some d=>Nat.blt d n|none=>true)=true):∀ao∈l,∀d,ao.dst=some d→d<n:=by
 intro ao hao d hdd
 have:=List.all_eq_true.1 h ao hao
 simp only[hdd]at this
 simpa[Nat.blt_eq] using this
theorem Yp (ops:Array Oper):∀n,jn ops n≤n∧∀j,jn ops n≤j→j<n→∀i,i<j→((JB ops.toList []).getD j 0).testBit i=true
 | 0=>⟨Nat.le_refl _,fun j _ h=>by omega⟩
 | n+1=>by
  obtain⟨h1,h2⟩:=Yp ops n
  have e:jn ops (n+1)=if (List.range n).all fun i=>((JB ops.toList []).getD n 0).testBit i then jn ops n else n+1:=by
   unfold jn
   rw[List.range_succ,List.foldl_append]
   rfl
  rw[e]
  split
  ·rename_i hall
   refine⟨by omega,fun j hj hjn i hi=>?_⟩
   rcases Nat.lt_succ_iff_lt_or_eq.1 hjn with h|rfl
   ·exact h2 j hj h i hi
   ·exact List.all_eq_true.1 hall i (List.mem_range.2 hi)
  ·exact⟨Nat.le_refl _,fun j hj hjn=>by omega⟩
theorem jg8 (ops:Array Oper) (n:Nat):jn ops n≤n:=(Yp ops n).1
theorem jdy (ops:Array Oper) (n:Nat):∀j,jn ops n≤j→j<n→∀i,i<j→((JB ops.toList []).getD j 0).testBit i=true:=(Yp ops n).2
theorem jsj {α:Type}{x:Option (List α)}{a:α}(h:only x=some a):x=some [a]:=by
 unfold only at h
 split at h
 ·cases h;rfl
 ·cases h
theorem jl8 (hm:P.follows .mixedOrders=true) (hco:jkl P E call) (N:Nat) {y:Y}{γ0:Nat→Option Place}{Iy:IMap}(hy:YOk P E γ0 Iy y) :
 ∀ (c:Code) (ac:C) (m r:Bool) (rn:Option Nat),(r=true∨rn=none)→comp P m r c=some ac→ac.dstOk nt=true→jve P E nt call y N γ0 Iy c ac rn:=by
 intro c
 induction c with
 | skip=>
  intro ac m r rn hrn hc hd w0 I0 Q st l γ I a w hg0 hI0 hl hR hf hK
  cases hc
  cases hl
  exact wpIn_skip (hK _ (List.mem_singleton.2 rfl) γ I a w hR hf (fun _ _ h=>h) (fun _ _ _ h=>h))
 | ret=>
  intro ac m r rn hrn hc hd w0 I0 Q st l γ I a w hg0 hI0 hl hR hf hK
  cases hc
  cases hl
  exact wpIn_ret (hK _ (List.mem_singleton.2 rfl) γ I a w hR hf (fun _ _ h=>h) (fun _ _ _ h=>h))
 | exit id=>
  intro ac m r rn hrn hc hd w0 I0 Q st l γ I a w hg0 hI0 hl hR hf hK
  cases hc
  cases hl
  exact wpIn_exit (hK _ (List.mem_singleton.2 rfl) γ I a w hR hf (fun _ _ h=>h) (fun _ _ _ h=>h))
 | region id ops drawn=>
  intro ac m r rn hrn hc hd w0 I0 Q st l γ I a w hg0 hI0 hl hR hf hK
  cases drawn with
  | false=>
   simp only[comp]at hc
   obtain⟨als,hals,rfl⟩:=map_some hc
   simp only[ja]at hl
   obtain⟨sts,hst,rfl⟩:=map_some hl
   exact wpIn_region_list (jsh (hco _ _ _ hy) _ als hals (Qr hd) γ I st a w st.nx sts hg0 hI0 hR hf hst (fun st' hst'=>hK _ (List.mem_map.2 ⟨st',hst',rfl⟩)))
  | true=>
   simp only[comp]at hc
   obtain⟨als,hals,hc⟩:=map_some hc
   split at hc
   case h_2=>subst hc;cases hl
   rename_i free hfree
   obtain⟨hlen,_⟩:=jp hals
   have hlen:als.length=ops.size:=by rw[hlen,Array.length_toList]
   have hrep:∀i d,(Array.replicate ops.size false).getD i d=if i<ops.size then false else d:=by
    intro i d
    by_cases hi:i<ops.size <;> simp[hi]
   split at hc
   ·generalize hk:jn ops als.length=k at hc
    have hkl:k≤als.length:=hk▸jg8 ops als.length
    have hsuf:∀j,k≤j→j<ops.size→∀i,i<j→((JB ops.toList []).getD j 0).testBit i=true:=fun j h1 h2=>jdy ops als.length j (by rw[hk];exact h1) (by omega)
    split at hc
    ·rename_i c hpin
     obtain⟨_,hpin⟩:=Option.filter_eq_some_iff.1 hpin
     have hck:c+1<k:=by
      unfold jwr at hpin
      simp only[Bool.and_eq_true,Nat.blt_eq]at hpin
      exact hpin.1.1.1
     have hac:=List.getElem?_eq_getElem (show c<als.length by omega)
     have hgd:als.getD c jhk=als[c]'(by omega):=by rw[List.getD_eq_getElem?_getD,hac];rfl
     subst hc
     rw[hgd]at hl hd
     generalize als[c]'(by omega)=ac0 at *
     simp only[ja]at hl
     obtain⟨l1,h1,h2⟩:=JY hl
     obtain⟨⟨fps,S⟩,hst,h1⟩:=bind_some h1
     simp only[Option.ite_none_right_eq_some,Option.some.injEq]at h1
     obtain⟨hok,rfl⟩:=h1
     rw[Bool.and_eq_true]at hok
     obtain⟨rx,h3,h4⟩:=h2 _ (List.mem_singleton.2 rfl)
     simp only at h3
     obtain⟨l2,h5,h6⟩:=JY h3
     obtain⟨l3,h7,h8⟩:=JY h5
     have hd':∀ao∈als,∀d,ao.dst=some d→d<nt:=by
      simp only[C.dstOk,Bool.and_eq_true]at hd
      obtain⟨d1,d2,d3⟩:=hd
      intro ao hao
      obtain⟨i,hi,rfl⟩:=List.getElem_of_mem hao
      by_cases hik:i<k
      ·by_cases hic:i=c
       ·subst hic
        have:als[i]=ac0:=by rw[List.getElem?_eq_getElem hi]at hac;simpa using hac
        rw[this]
        exact Qr d2 ac0 (List.mem_cons_self ..)
       ·refine Qr d1 _ (List.mem_of_getElem? (i:=i) ?_)
        rw[List.getElem?_set_ne (Ne.symm hic),List.getElem?_take,if_pos hik,List.getElem?_eq_getElem hi]
      ·refine Qr d3 _ (List.mem_of_getElem? (i:=i - k) ?_)
       rw[List.getElem?_drop,show k+(i - k)=i by omega,List.getElem?_eq_getElem hi]
     refine wpIn_region_any hm (j55 (w0:=w0) (I0:=I0) hkl hsuf hpin hac (hco _ _ _ hy) hg0 hI0 hals hfree hd' hst hok.1 hok.2 h7 (fun x hx=>?_) (hR.drawn _) hf)
     obtain⟨rx',h9,h10⟩:=h8 x hx
     obtain⟨p,hp,h11⟩:=bind_some h9
     simp only[Option.ite_none_right_eq_some,Option.some.injEq]at h11
     obtain⟨hsame,rfl⟩:=h11
     obtain⟨rx2,h12,h13⟩:=h6 _ (h10 _ (List.mem_singleton.2 rfl))
     simp only at h12
     obtain⟨sts,hsts,rfl⟩:=map_some h12
     exact⟨p,sts,hp,hsame,hsts,fun st' hst'=>hK _ (h4 _ (h13 _ (List.mem_map.2 ⟨st',hst',rfl⟩)))⟩
    subst hc
    simp only[ja]at hl
    obtain⟨l1,h1,h2⟩:=JY hl
    obtain⟨⟨fps,st'⟩,hst,h1⟩:=bind_some h1
    simp only[Option.ite_none_right_eq_some,Option.some.injEq]at h1
    obtain⟨hok,rfl⟩:=h1
    rw[Bool.and_eq_true]at hok
    obtain⟨hok,hnw⟩:=hok
    obtain⟨rx,h3,h4⟩:=h2 _ (List.mem_singleton.2 rfl)
    simp only at h3
    obtain⟨sts,hsts,rfl⟩:=map_some h3
    obtain⟨effs,htr,rfl⟩:=XI (als.take k) st st.nx fps st' hst
    have hd':∀ao∈als,∀d,ao.dst=some d→d<nt:=by
     simp only[C.dstOk,Bool.and_eq_true]at hd
     intro ao hao
     rw[← List.take_append_drop k als]at hao
     rcases List.mem_append.1 hao with h|h
     ·exact Qr hd.1 ao h
     ·exact Qr hd.2 ao h
    have hnil:jO (fun i=>(Array.replicate ops.size false).getD i false) effs st=st:=by
     have:(fun i=>(Array.replicate ops.size false).getD i false)=fun _=>false:=funext fun i=>by rw[hrep];split <;> rfl
     rw[this]
     exact Xo _ _
    have htl:(als.take k).length=k:=by rw[List.length_take];omega
    refine wpIn_region_any hm (jfe (bb:=false) (w0:=w0) (I0:=I0) (kk:=k) (al':=als.take k) (sp:=fun _=>false) hkl htl (fun i ao hi _ h=>by rw[List.getElem?_take,if_pos hi];exact h) (fun _ _ h=>by cases h) (fun j h1 h2 i h3=>hsuf j h1 h2 i (by omega)) (hco _ _ _ hy) hals hfree htr hok hnw hd' (γ:=γ) (I:=I) (fun _ _ _ _ _ _ _ h=>by cases h) (fun γ' I' a' w' fuel listed hsz hmask _ hcnt hR' hf' hg hI=>?_) ops.size (Array.replicate ops.size false) γ I a _ (by simp) ?_ ?_ (fun _ h=>by cases h) ?_ ?_ ?_ ?_ (fun _ _ h=>h) (fun _ _ _ h=>h))
    ·exact jiv hsuf (hco _ _ _ hy) hals hfree hd' (ops.size - k) k (Nat.le_refl _) (by omega) fuel listed γ' I' { jO (fun _=>true) effs st with nx:=st.nx+64*(als.take k).length } a' w' (st.nx+64*(als.take k).length) sts hsz hmask hcnt (hg0.trans hg) (hI0.trans hI) (hR'.congr rfl rfl rfl rfl rfl) (fun u hu=>hf' u (by rw[htl]at hu;exact hu)) hsts
      (fun st' hst'=>(hK _ (h4 _ (List.mem_map.2 ⟨st',hst',rfl⟩))).weaken hg hI)
    ·intro j o ho hj
     simp only[hrep]at hj
     split at hj <;> cases hj
    ·intro j hj
     rw[hrep];split <;> rfl
    ·simp
    ·rw[hnil]
     exact hR.drawn _
    ·intro u hu
     exact hf u (by omega)
    ·intro j hj u h1 h2
     exact hf u (by omega)
   split at hc
   ·rename_i c hmid
    have hmid:jtd ops als c=true:=by
     cases m with
     | false=>cases hmid
     | true=>
      obtain⟨_,hmid⟩:=Option.filter_eq_some_iff.1 hmid
      exact hmid
    have hac0:∃ac,als[c]? = some ac:=by
     have h:=hmid
     unfold jtd at h
     cases h0:als[c]? with
     | none=>simp[h0]at h
     | some ac=>exact⟨ac,rfl⟩
    obtain⟨ac0,hac⟩:=hac0
    have hca:c<als.length:=(List.getElem?_eq_some_iff.1 hac).1
    have hgd:als.getD c jhk=ac0:=by rw[List.getD_eq_getElem?_getD,hac];rfl
    subst hc
    rw[hgd]at hl hd
    simp only[ja]at hl
    obtain⟨l1,h1,h2⟩:=JY hl
    obtain⟨⟨fps,S⟩,hst,h1⟩:=bind_some h1
    simp only[Option.ite_none_right_eq_some,Option.some.injEq]at h1
    obtain⟨hok,rfl⟩:=h1
    rw[Bool.and_eq_true]at hok
    obtain⟨rx,h3,h4⟩:=h2 _ (List.mem_singleton.2 rfl)
    simp only at h3
    obtain⟨l2,h5,h6⟩:=JY h3
    obtain⟨sts,hsts,rfl⟩:=map_some h5
    have hd':∀ao∈als,∀d,ao.dst=some d→d<nt:=by
     simp only[C.dstOk,Bool.and_eq_true]at hd
     obtain⟨d1,d2,d3⟩:=hd
     intro ao hao
     obtain⟨i,hi,rfl⟩:=List.getElem_of_mem hao
     rcases Nat.lt_trichotomy i c with hic|hic|hic
     ·refine Qr d1 _ (List.mem_of_getElem? (i:=i) ?_)
      rw[List.getElem?_take,if_pos hic,List.getElem?_eq_getElem hi]
     ·subst hic
      have:als[i]=ac0:=by rw[List.getElem?_eq_getElem hi]at hac;simpa using hac
      rw[this]
      exact Qr d2 ac0 (List.mem_cons_self ..)
     ·refine Qr d3 _ (List.mem_append_right _ (List.mem_of_getElem? (i:=i - (c+1)) ?_))
      rw[List.getElem?_drop,show c+1+(i - (c+1))=i by omega,List.getElem?_eq_getElem hi]
    refine wpIn_region_any hm (j9m (w0:=w0) (I0:=I0) hmid hac (hco _ _ _ hy) hg0 hI0 hals hfree hd' hst hok.1 hok.2 hsts (fun s1 hs1=>?_) (hR.drawn _) hf)
    obtain⟨rx2,h12,h13⟩:=h6 _ (List.mem_map.2 ⟨s1,hs1,rfl⟩)
    simp only at h12
    obtain⟨⟨fps2,S2⟩,hst2,h14⟩:=bind_some h12
    simp only[Option.ite_none_right_eq_some,Option.some.injEq]at h14
    obtain⟨hok2,rfl⟩:=h14
    rw[Bool.and_eq_true]at hok2
    exact⟨(fps2,S2),hst2,hok2.1,hok2.2,hK _ (h4 _ (h13 _ (List.mem_singleton.2 rfl)))⟩
   subst hc
   simp only[ja]at hl
   obtain⟨⟨fps,st'⟩,hst,hl⟩:=bind_some hl
   simp only[Option.ite_none_right_eq_some,Option.some.injEq]at hl
   obtain⟨hok,rfl⟩:=hl
   rw[Bool.and_eq_true]at hok
   obtain⟨hok,hnw⟩:=hok
   obtain⟨effs,htr,rfl⟩:=XI als st st.nx fps st' hst
   have hnil:jO (fun i=>(Array.replicate ops.size false).getD i false) effs st=st:=by
    have:(fun i=>(Array.replicate ops.size false).getD i false)=fun _=>false:=funext fun i=>by rw[hrep];split <;> rfl
    rw[this]
    exact Xo _ _
   refine wpIn_region_any hm (any_ok (w0:=w0) (I0:=I0) (hco _ _ _ hy) hals hfree htr hok hnw (Qr hd) (γ:=γ) (I:=I) (fun γ' I' a' w' hR' hf' hg hI=>?_) ops.size (Array.replicate ops.size false) γ I a _ (by simp) ?_ ?_ ?_ ?_ ?_ (fun _ _ h=>h) (fun _ _ _ h=>h))
   ·exact hK _ (List.mem_singleton.2 rfl) γ' I' a' w' (hR'.congr rfl rfl rfl rfl rfl) hf' hg hI
   ·intro j o ho hj
    simp only[hrep]at hj
    split at hj <;> cases hj
   ·simp
   ·rw[hnil]
    exact hR.drawn _
   ·intro u hu
    exact hf u (by omega)
   ·intro j hj u h1 h2
    exact hf u (by omega)
 | seq x z ihx ihz=>
  intro ac m r rn hrn hc hd w0 I0 Q st l γ I a w hg0 hI0 hl hR hf hK
  simp only[comp]at hc
  obtain⟨ax,hx,hc⟩:=bind_some hc
  obtain⟨az,hz,rfl⟩:=map_some hc
  simp only[C.dstOk,Bool.and_eq_true]at hd
  simp only[ja]at hl
  obtain⟨l1,h1,h2⟩:=JY hl
  refine wpIn_seq (ihx ax m r rn hrn hx hd.1 w0 I0 _ st l1 γ I a w hg0 hI0 h1 hR hf (fun p hp=>?_))
  obtain⟨e,s⟩:=p
  obtain⟨rx,h3,h4⟩:=h2 _ hp
  cases e with
  | nrm=>
   intro γ' I' a' w' hR' hf' hg hI
   exact ihz az m r rn hrn hz hd.2 w0 I0 Q s rx γ' I' a' w' (hg0.trans hg) (hI0.trans hI) h3 hR' hf' (fun p hp=>(hK p (h4 p hp)).weaken hg hI)
  | exit i=>
   simp only[Option.some.injEq]at h3
   subst h3
   exact hK _ (h4 _ (List.mem_singleton.2 rfl))
  | ret=>
   simp only[Option.some.injEq]at h3
   subst h3
   exact hK _ (h4 _ (List.mem_singleton.2 rfl))
 | cond q x z ihx ihz=>
  intro ac m r rn hrn hc hd w0 I0 Q st l γ I a w hg0 hI0 hl hR hf hK
  simp only[comp]at hc
  obtain⟨aq,hq,hc⟩:=bind_some hc
  obtain⟨ax,hx,hc⟩:=bind_some hc
  obtain⟨az,hz,rfl⟩:=map_some hc
  simp only[C.dstOk,Bool.and_eq_true]at hd
  have hrep:=jB hR hq
  have hv:∀t,eval E st.tm aq=.bool t→a.eval q=.bool t:=by
   intro t ht
   rw[ht]at hrep
   exact XF hrep
  simp only[ja]at hl
  split at hl
  ·rename_i hb
   exact wpIn_cond_true (hv _ hb) (ihx ax m r rn hrn hx hd.1 w0 I0 Q st l γ I a w hg0 hI0 hl hR hf hK)
  ·rename_i hb
   exact wpIn_cond_false (hv _ hb) (ihz az m r rn hrn hz hd.2 w0 I0 Q st l γ I a w hg0 hI0 hl hR hf hK)
  ·cases hl
 | block id x ih=>
  intro ac m r rn hrn hc hd w0 I0 Q st l γ I a w hg0 hI0 hl hR hf hK
  simp only[comp]at hc
  obtain⟨ax,hx,rfl⟩:=map_some hc
  simp only[ja]at hl
  obtain⟨l1,h1,rfl⟩:=map_some hl
  refine wpIn_block (ih ax m r rn hrn hx hd w0 I0 _ st l1 γ I a w hg0 hI0 h1 hR hf (fun p hp=>?_))
  have:=hK _ (List.mem_map.2 ⟨p,hp,rfl⟩)
  obtain⟨e,s⟩:=p
  cases e with
  | nrm=>exact this
  | ret=>exact this
  | exit i=>
   simp only[exOf,Exit.inBlock]
   by_cases hi:i=id
   ·simp only[hi,if_true]at this ⊢
    exact this
   ·simp only[hi,if_false]at this ⊢
    exact this
 | loop x ih=>
  intro ac m r rn hrn hc hd w0 I0 Q st l γ I a w hg0 hI0 hl hR hf hK
  simp only[comp]at hc
  obtain⟨ax,hx,rfl⟩:=map_some hc
  simp only[ja]at hl
  have key:∀ (n:Nat) (st:St) (l:List (Ex × St)) (γ:Nat→Option Place) (I:IMap) (a:Act) (w:World),SubG γ0 γ→SubI Iy I→ja5 (ja E call y N ax) n st=some l→R E w0 I0 nt γ I st a w→(∀u,st.nx≤u→γ u=none) →
   (∀x∈l,Nice E w0 I0 nt γ I x.2 x.2.nx (fun a w=>Q (exOf x.1) a w))→Code.roundsIn (FW rn) 0 P x Q n a w:=by
   intro n
   induction n with
   | zero=>intro st l γ I a w _ _ hl;cases hl
   | succ n ihn=>
    intro st l γ I a w hg0 hI0 hl hR hf hK
    simp only[ja5]at hl
    obtain⟨l1,h1,h2⟩:=JY hl
    rw[roundsIn_succ]
    refine ih ax m r rn hrn hx hd w0 I0 _ st l1 γ I a w hg0 hI0 h1 hR hf (fun p hp=>?_)
    obtain⟨e,s⟩:=p
    obtain⟨rx,h3,h4⟩:=h2 _ hp
    cases e with
    | nrm=>
     intro γ' I' a' w' hR' hf' hg hI
     exact ihn s rx γ' I' a' w' (hg0.trans hg) (hI0.trans hI) h3 hR' hf' (fun p hp=>(hK p (h4 p hp)).weaken hg hI)
    | exit i=>
     simp only[Option.some.injEq]at h3
     subst h3
     exact hK _ (h4 _ (List.mem_singleton.2 rfl))
    | ret=>
     simp only[Option.some.injEq]at h3
     subst h3
     exact hK _ (h4 _ (List.mem_singleton.2 rfl))
  exact wpIn_loop_rounds N (key N st l γ I a w hg0 hI0 hl hR hf hK)
 | rangeFunc f ps ca cb iha ihb=>
  intro ac m r rn hrn hc hd w0 I0 Q st l γ I a w hg0 hI0 hl hR hf hK
  cases r with
  | true=>cases hc;cases hl
  | false=>
  have hrn:rn=none:=hrn.resolve_left (by simp)
  subst hrn
  simp only[comp,cond_false]at hc
  obtain⟨af,hfo,hc⟩:=bind_some hc
  obtain⟨asg,has,hc⟩:=bind_some hc
  obtain⟨bd,hbd,rfl⟩:=map_some hc
  simp only[C.dstOk,Bool.and_eq_true]at hd
  obtain⟨⟨hdp,hda⟩,hdb⟩:=hd
  simp only[ja]at hl
  split at hl
  case h_2=>cases hl
  rename_i g first captured hev
  obtain⟨⟨rv,ob,tk,ub⟩,hcall,hl⟩:=bind_some hl
  have hcall:=jsj hcall
  have hrf:=jB hR hfo
  rw[hev]at hrf
  obtain⟨fx,cx,hfv,s1,s2,s3,s4⟩:=jeu hrf
  -- the two blocks
  refine wpIn_rangeFunc (fun fn _=>?_)
  have hγ1:γ (st.nx+1)=none:=hf _ (by omega)
  have hSh1:=hR.sh.alloc (d:=2*st.nx+3) hγ1 (obj:=.deferred (some [])) (body:=.dfr) (k:=.n 0) rfl
  have hγ0':(upd γ (st.nx+1) (some (.obj w.heap.size (.n 0)))) st.nx=none:=by
   rw[J9 _ _ (by omega)]
   exact hf _ (Nat.le_refl _)
  generalize hrec:({ state:=.ready,pending:=none,fn,tmps:=a.tmps,params:=ps,assign:=ca,body:=cb,defers:=w.heap.size }:Loop)=rec
  have hSh2:=hSh1.alloc (d:=2*st.nx+1) hγ0' (obj:=.loop rec) (body:=.loop .ready none) (k:=.lp rec) ⟨rec,rfl,by rw[← hrec];rfl⟩
  generalize hγe:upd (upd γ (st.nx+1) (some (.obj w.heap.size (.n 0)))) st.nx (some (.obj (w.alloc (.deferred (some []))).heap.size (.lp rec)))=γ1 at hSh2
  have hsub:SubG γ γ1:=by
   rw[← hγe]
   exact SubG.trans (WQ hγ1) (WQ hγ0')
  have hγl:γ1 st.nx=some (.obj (w.heap.size+1) (.lp rec)):=by rw[← hγe];simp
  have hγd:γ1 (st.nx+1)=some (.obj w.heap.size (.n 0)):=by rw[← hγe,J9 _ _ (by omega)];simp
  have hps:∀p∈ps.toList,p<nt:=fun p hp=>by
   have:=List.all_eq_true.1 hdp p hp
   simpa[Nat.blt_eq] using this
  have hyo:YOk P E γ1 I (Ql (ja E call y N asg) (ja E call y N bd) st ps.toList (2*st.nx+1) st.nx) :=
   jrx (L:=w.heap.size+1) (rec:=rec) (ca:=ca) (cb:=cb) (ps:=ps) (iha asg m true (some (w.heap.size+1)) (.inl rfl) has hda) (ihb bd m true (some (w.heap.size+1)) (.inl rfl) hbd hdb) (hg0.trans hsub) hI0 hγl
    (fun t=>by rw[← hrec];exact(hR.tm t).mono hsub (fun _ _ _ h=>h)) (by rw[← hrec];exact hR.sz) (by rw[← hrec]) hps (by rw[← hrec]) (by rw[← hrec])
  obtain⟨hfn,hsok⟩:=(hco γ1 I _ hyo).s _ _ _ _ _ _ _ _ hcall
  obtain⟨fnn,cc,e1,e2,e3⟩:=hfn
  have hcf:=jcn (P:=P) (w:=(w.alloc (.deferred (some []))).alloc (.loop rec)) e1 e2 e3
  have hyrep:Rep γ1 I (.func (.yield (w.heap.size+1)) #[] #[]) (.yld (2*st.nx+1) st.nx):=.yld _ _ _ _ hγl
  obtain⟨t1,t2⟩:=Qc (γ:=γ1) (I:=I) (xs:=fx) (ys:=#[.func (.yield (w.heap.size+1)) #[] #[]]) (us:=first) (vs:=[.yld (2*st.nx+1) st.nx]) s1 rfl (fun j x v hx hv=>(s3 j x v hx hv).mono hsub (fun _ _ _ h=>h)) (fun j x v hx hv=>by
   match j with
   | 0=>simp at hx hv;subst hx;subst hv;exact hyrep
   | j+1=>simp at hv)
  obtain⟨u1,u2⟩:=Qc (γ:=γ1) (I:=I) t1 s2 t2 (fun j x v hx hv=>(s4 j x v hx hv).mono hsub (fun _ _ _ h=>h))
  have hfr2:∀u,st.nx+64≤u→γ1 u=none:=by
   intro u hu
   rw[← hγe,J9 _ _ (by omega),J9 _ _ (by omega)]
   exact hf _ (by omega)
  have hcalls:=hsok w0 _ I0 I γ1 _ { st with ob:=upd (upd st.ob (2*st.nx+3) (some ⟨st.nx+1,.dfr⟩)) (2*st.nx+1) (some ⟨st.nx,.loop .ready none⟩) } (SubG.refl _) (SubI.refl _) rfl rfl rfl hSh2 hfr2 u1 u2
  have hent:=run_enterLoop_outer (P:=P) (w:=w) fn a.tmps ps ca cb
  rw[hrec]at hent
  refine⟨_,_,_,{ target:=.fn (.func g) cx,args:=fx++#[.func (.yield (w.heap.size+1)) #[] #[]] },(w.alloc (.deferred (some []))).alloc (.loop rec),g,fx++#[.func (.yield (w.heap.size+1)) #[] #[]]++cx,(w.alloc (.deferred (some []))).alloc (.loop rec),hent,?_,fun _ _=>trivial,?_,(fun h=>by cases h),?_⟩
  ·have hm1:Array.map a.eval #[Operand.const (.func (.yield (w.heap.size+1)) #[] #[])] = #[.func (.yield (w.heap.size+1)) #[] #[]]:=by simp[Act.eval]
   simp only[resolve,hfv,Deferred.ofValue,Sem.run_pure,hm1]
  ·simp only[invoke]
   exact hcf _
  ·refine ju1 (Calls.mono hcalls fun e w3 he=>?_)
   obtain⟨_,hm1,he⟩:=he
   rw[List.mem_singleton]at hm1
   subst hm1
   obtain⟨x,γ',I',rfl,hsh,hrep,hsg,hsi,hfr'⟩:=he
   simp only at hl
   split at hl
   case h_2=>cases hl
   rename_i u s pend hobl
   simp only[Option.ite_none_right_eq_some,Option.some.injEq]at hl
   obtain⟨⟨rfl,hnb,hro⟩,rfl⟩:=hl
   have hγl':=hsg _ _ hγl
   have hSh3:=hsh { st with ob:=ob,tk:=tk } rfl rfl rfl
   obtain⟨r0,hr0,hheap⟩:=jgg hSh3 hobl hγl'
   cases hr0
   have hns:j9o s≠.busy:=by cases s <;> simp_all [j9o]
   have hend:=run_endLoop (P:=P) hheap hns
   have hSh4:=hSh3.turn (ob':=fun k=>if Nat.beq (2*st.nx+1) k then none else ob k) (o':=.loop { rec with state:=.exhausted,pending:=pend.map Qp }) hobl hγl' hro (fun l2 x hx=>by
    split at hx
    ·cases hx
    ·rename_i h2;exact .inl ⟨fun e=>h2 (by rw[e];exact Nat.beq_refl _),hx⟩)
   refine⟨pend.map Qp,_,hend,?_⟩
   have hnice:=hK _ (List.mem_singleton.2 rfl) γ' I' { tmps:=a.tmps,defers:=[{ target:=.collected w.heap.size,args:=#[] }]++a.defers } (w3.putObj (w.heap.size+1) (.loop { rec with state:=.exhausted,pending:=pend.map Qp }))
    ⟨hR.sz,⟨⟨w.heap.size,.n 0,rfl,hsg _ _ hγd⟩,(hR.df.mono hsub).mono hsg⟩,fun t=>(hR.tm t).mono (hsub.trans hsg) hsi,hSh4.congr rfl rfl rfl⟩ hfr' (hsub.trans hsg) hsi
   cases pend with
   | none=>exact hnice
   | some e=>
    cases e with
    | nrm=>exact wpIn_skip hnice
    | ret=>exact wpIn_ret hnice
    | exit i=>exact wpIn_exit hnice
 | _=>
  intro ac m r rn hrn hc hd w0 I0 Q st l γ I a w hg0 hI0 hl
  cases hc
  cases hl
end
def jq9 (γ:Nat→Option Place) (x:Value):V→Option Place
 | .sl (some (u,_)) _ _ _=>γ u
 | .osl _ u _ n sz=>match γ u,x with
  | some (.obj b _),.slice _ _ cap=>some (.tok b n cap sz)
  | _,_=>none
 | _=>none
def jcs (st:St) (keep:Bool) (l u off n sz:Nat):Bool :=
 match j1 st.ob l u with
 | some cs0=>keep && Nat.beq off 0 && Nat.blt 0 n && Nat.beq (n*sz) cs0.length
 | none=>false
def plLeaf (γ:Nat→Option Place) (st:St) (keep:Bool) (i:Nat) (x:Value):V→List (Nat × Nat × Option Place)
 | .sl (some (u,z)) nl n cs=>if keep && st.tk u then [(i,u,jq9 γ x (.sl (some (u,z)) nl n cs))] else []
 | .osl l u off n sz=>if jcs st keep l u off n sz then [(i,u,jq9 γ x (.osl l u off n sz))] else []
 | _=>[]
def plList (γ:Nat→Option Place) (st:St) (keep:Bool):Nat→List Value→List V→List (Nat × Nat × Option Place)
 | i,x::xs,v::vs=>plLeaf γ st keep i x v++plList γ st keep (i+1) xs vs
 | _,_,_=>[]
def aggL:Value→List Value
 | .agg xs=>xs.toList
 | _=>[]
def plTop (γ:Nat→Option Place) (st:St) (keep:Bool) (i:Nat) (x:Value):V→List (Nat × Nat × Option Place)
 | .agg cs=>plList γ st keep i (aggL x) cs
 | v=>plLeaf γ st keep i x v
def plTops (γ:Nat→Option Place) (st:St) (keep:Bool):Nat→List Value→List V→List (Nat × Nat × Option Place)
 | i,x::xs,v::vs=>plTop γ st keep i x v++plTops γ st keep (i+16) xs vs
 | _,_,_=>[]
theorem QQ:∀ {l:List Nat},nodup l=true→l.Nodup
 | [],_=>List.nodup_nil
 | a::l,h=>by
  simp only[nodup,Bool.and_eq_true,Bool.not_eq_true']at h
  refine List.nodup_cons.2 ⟨fun hm=>?_,QQ h.2⟩
  have:(l.any fun b=>Nat.beq a b)=true:=List.any_eq_true.2 ⟨a,hm,Nat.beq_refl a⟩
  rw[h.1]at this
  cases this
section
variable {P:Program}{E:Env}{w0 w:World}{I0:IMap}{nt:Nat}{γ τ:Nat→Option Place}{I I':IMap}{st:St}{a:Act}{B:Nat}{Ω:Nat→Option Owner}{keep:Bool}
def PlOk (γ:Nat→Option Place) (_:IMap) (st:St) (keep:Bool) (p:Nat × Nat × Option Place):Prop :=
 keep=true∧((st.tk p.2.1=true∧p.2.2=γ p.2.1) ∨
  ∃l cs b k n cap sz,st.ob l=some ⟨p.2.1,.cells cs⟩∧γ p.2.1=some (.obj b k)∧p.2.2=some (.tok b n cap sz)∧0<n∧n*sz=cs.length∧n≤cap∧cap≤maxLen∧cap*sz≤k.size∧Nat.ble st.ro p.2.1=true)
theorem jeb (i:Nat) {x:Value}{v v':V}(hx:Rep γ I x v) (hv:jr st keep i v=some v'):((plLeaf γ st keep i x v).map (·.2.1)).Sublist v.tok∧∀p∈plLeaf γ st keep i x v,PlOk γ I st keep p:=by
 unfold plLeaf
 split
 ·split
  ·rename_i h
   simp only[Bool.and_eq_true]at h
   exact⟨List.Sublist.refl _,fun p hp=>by rw[List.mem_singleton.1 hp];exact⟨h.1,.inl ⟨h.2,rfl⟩⟩⟩
  ·exact⟨List.nil_sublist _,fun p hp=>by cases hp⟩
 ·rename_i l u off n sz
  split
  ·rename_i h
   refine⟨List.Sublist.refl _,fun p hp=>?_⟩
   rw[List.mem_singleton.1 hp]
   unfold jcs at h
   split at h
   case h_2=>cases h
   rename_i cs0 hcs
   simp only[Bool.and_eq_true]at h
   obtain⟨⟨⟨h1,h2⟩,h3⟩,h4⟩:=h
   have h2:=Nat.eq_of_beq_eq_true h2
   have h3:0<n:=by simpa[Nat.blt_eq] using h3
   have h4:=Nat.eq_of_beq_eq_true h4
   subst h2
   obtain⟨b,k,ad,cap,hu,rfl,ha,hc,hm⟩:=Xi hx
   have hro:Nat.ble st.ro u=true:=by
    simp only[jr]at hv
    obtain⟨q,hq,_⟩:=bind_some hv
    simp only[Jm,hcs,Option.bind_some,Option.ite_none_right_eq_some]at hq
    exact hq.1.1
   refine⟨h1,.inr ⟨l,cs0,b,k,n,cap,sz,jb hcs,hu,by simp only[jq9,hu],h3,h4,hc,hm,?_,hro⟩⟩
   have:=(ha (by omega)).2
   omega
  ·exact⟨List.nil_sublist _,fun p hp=>by cases hp⟩
 ·exact⟨List.nil_sublist _,fun p hp=>by cases hp⟩
theorem jea:∀ (i:Nat) (xs:List Value) (vs vs':List V),xs.length=vs.length→(∀ (j:Nat) (x:Value) (v:V),xs[j]? = some x→vs[j]? = some v→Rep γ I x v)→Xc st keep i vs=some vs' →
 ((plList γ st keep i xs vs).map (·.2.1)).Sublist (vs.flatMap V.tok)∧∀p∈plList γ st keep i xs vs,PlOk γ I st keep p
 | _,[],[],_,_,_,_=>⟨List.Sublist.refl _,fun p hp=>by cases hp⟩
 | i,x::xs,v::vs,vs',hl,hr,ho=>by
  simp only[Xc]at ho
  obtain⟨q,hq,ho⟩:=bind_some ho
  obtain⟨r,hr',rfl⟩:=map_some ho
  obtain⟨h1,h2⟩:=jeb i (hr 0 x v rfl rfl) hq
  obtain⟨h3,h4⟩:=jea (i+1) xs vs r (by simpa using hl) (fun j x v hx hv=>hr (j+1) x v (by simpa using hx) (by simpa using hv)) hr'
  simp only[plList,List.map_append,List.flatMap_cons]
  exact⟨h1.append h3,fun p hp=>(List.mem_append.1 hp).elim (h2 p) (h4 p)⟩
 | _,[],_::_,_,h,_,_=>by simp at h
 | _,_::_,[],_,h,_,_=>by simp at h
theorem jo9 (i:Nat) {x:Value}{v v':V}(hx:Rep γ I x v) (hv:Xv st keep i v=some v'):((plTop γ st keep i x v).map (·.2.1)).Sublist v.toks∧∀p∈plTop γ st keep i x v,PlOk γ I st keep p:=by
 cases v with
 | agg cs=>
  obtain⟨xs,rfl,h1,h2,h3⟩:=Y7 hx
  simp only[Xv]at hv
  obtain⟨r,hr,rfl⟩:=map_some hv
  exact jea i xs.toList cs r (by simpa using h1) (fun j x v hx hv=>h3 j x v (by simpa using hx) hv) hr
 | fn f asg bs=>exact⟨List.nil_sublist _,fun p hp=>by cases hp⟩
 | _=>exact jeb i hx hv
theorem jd9:∀ (i:Nat) (xs:List Value) (vs vs':List V),xs.length=vs.length→(∀ (j:Nat) (x:Value) (v:V),xs[j]? = some x→vs[j]? = some v→Rep γ I x v)→JU st keep i vs=some vs' →
 ((plTops γ st keep i xs vs).map (·.2.1)).Sublist (vs.flatMap V.toks)∧∀p∈plTops γ st keep i xs vs,PlOk γ I st keep p
 | _,[],[],_,_,_,_=>⟨List.Sublist.refl _,fun p hp=>by cases hp⟩
 | i,x::xs,v::vs,vs',hl,hr,ho=>by
  simp only[JU]at ho
  obtain⟨q,hq,ho⟩:=bind_some ho
  obtain⟨r,hr',rfl⟩:=map_some ho
  obtain⟨h1,h2⟩:=jo9 i (hr 0 x v rfl rfl) hq
  obtain⟨h3,h4⟩:=jd9 (i+16) xs vs r (by simpa using hl) (fun j x v hx hv=>hr (j+1) x v (by simpa using hx) (by simpa using hv)) hr'
  simp only[plTops,List.map_append,List.flatMap_cons]
  exact⟨h1.append h3,fun p hp=>(List.mem_append.1 hp).elim (h2 p) (h4 p)⟩
 | _,[],_::_,_,h,_,_=>by simp at h
 | _,_::_,[],_,h,_,_=>by simp at h
theorem WZ {i:Nat}{x:Value}{v v':V}(hv:jr st keep i v=some v'):v'.leaf=true∧v'.tok=(plLeaf γ st keep i x v).map (·.1):=by
 have other:∀k,Jm st (k+1) v=(if v.pureLeaf then some v else none)→jr st keep i v=Jm st (k+1) v→v.tok=[]→plLeaf γ st keep i x v=[]→v'.leaf=true∧v'.tok=(plLeaf γ st keep i x v).map (·.1):=by
  intro k h1 h2 h3 h4
  rw[h2,h1]at hv
  simp only[Option.ite_none_right_eq_some,Option.some.injEq]at hv
  obtain⟨hp,rfl⟩:=hv
  exact⟨jaw hp,by rw[h4,h3];rfl⟩
 cases v with
 | sl t nl n cs=>
  cases t with
  | none=>exact other 5 rfl rfl rfl rfl
  | some q=>
   obtain⟨u,z⟩:=q
   simp only[jr,Option.some.injEq]at hv
   subst hv
   refine⟨rfl,?_⟩
   cases hk:(keep && st.tk u) <;> simp[V.tok,plLeaf,hk]
 | osl l u off n sz=>
  simp only[jr]at hv
  obtain⟨q,hq,hv⟩:=bind_some hv
  split at hv
  case h_2=>cases hv
  rename_i t nl n' cs
  obtain⟨cs0,hcs,rfl⟩:=map_some hv
  refine⟨rfl,?_⟩
  have hk:jcs st keep l u off n sz=(keep && Nat.beq off 0 && Nat.blt 0 n && Nat.beq (n*sz) cs0.length):=by simp only[jcs,hcs]
  rw[← hk]
  cases hkk:jcs st keep l u off n sz <;> simp[V.tok,plLeaf,hkk]
 | agg|tup|undef=>
  simp only[jr,Jm,V.pureLeaf,Bool.false_eq_true,if_false,reduceCtorEq]at hv
 | _=>exact other 5 rfl rfl rfl rfl
theorem jge (ho:Own γ I B st w Ω) (hz:jc2 γ B st w I I') {x:Value}{v v':V}{i:Nat}(hx:Rep γ I x v) (hv:jr st keep i v=some v') (hτ:∀p∈plLeaf γ st keep i x v,τ p.1=p.2.2) :
 jvc τ I' x v':=by
 have other:jr st keep i v=Jm st 6 v→jvc τ I' x v':=by
  intro h
  rw[h]at hv
  obtain⟨h1,h2⟩:=jap ho hz 6 x v v' hx hv
  cases v' with
  | sl t nl n cs=>
   cases t with
   | none=>exact h1
   | some q=>simp[V.pureLeaf]at h2
  | _=>exact h1
 cases v with
 | sl t nl n cs=>
  cases t with
  | none=>exact other rfl
  | some q=>
   obtain⟨u,z⟩:=q
   simp only[jr,Option.some.injEq]at hv
   subst hv
   cases hk:(keep && st.tk u) with
   | true=>
    have hm:(i,u,γ u)∈plLeaf γ st keep i x (.sl (some (u,z)) nl n cs):=by simp[plLeaf,hk,jq9]
    have ht:=hτ _ hm
    simp only[if_true]
    have:=hx.mono (γ':=γ) (fun _ _ h=>h) hz.1
    cases this with
    | tsl _ b _ cap _ _ xs hu hlen hc hm' hi hl hr=>exact Rep.tsl i b n cap z cs xs (ht.trans hu) hlen hc hm' hi hl hr
    | pure _ _ h=>cases h
   | false=>
    simp only[Bool.false_eq_true,if_false]
    exact(Ys hx (by simp[V.strip1,V.pureLeaf])).mono hz.1
 | osl l u off n sz=>
  simp only[jr]at hv
  obtain⟨q,hq,hv⟩:=bind_some hv
  obtain⟨hrep,hpl⟩:=jap ho hz 6 x _ q hx hq
  split at hv
  case h_2=>cases hv
  rename_i t nl n' cs
  have htn:t=none:=by cases t <;> simp_all [V.pureLeaf]
  subst htn
  obtain⟨cs0,hcs,rfl⟩:=map_some hv
  have hk:jcs st keep l u off n sz=(keep && Nat.beq off 0 && Nat.blt 0 n && Nat.beq (n*sz) cs0.length):=by simp only[jcs,hcs]
  rw[← hk]
  cases hkk:jcs st keep l u off n sz with
  | false=>exact hrep
  | true=>
   simp only[if_true]
   rw[hkk]at hk
   have hk:=hk.symm
   simp only[Bool.and_eq_true]at hk
   obtain⟨⟨⟨h1,h2⟩,h3⟩,h4⟩:=hk
   have h2:=Nat.eq_of_beq_eq_true h2
   have h3:0<n:=by simpa[Nat.blt_eq] using h3
   have h4:=Nat.eq_of_beq_eq_true h4
   subst h2
   obtain⟨b,kb,ad,cap,hu,rfl,ha,hc,hm⟩:=Xi hx
   have hmem:(i,u,some (Place.tok b n cap sz))∈plLeaf γ st keep i (.slice (some ad) n cap) (.osl l u 0 n sz):=by simp[plLeaf,hkk,jq9,hu]
   have ht:=hτ _ hmem
   have hada:=(ha (by omega)).1
   subst hada
   -- the form of what is Jm
   simp only[Jm,hcs,Option.bind_some,Option.ite_none_right_eq_some]at hq
   obtain⟨_,hq⟩:=hq
   obtain⟨cs',hcs',he⟩:=map_some hq
   simp only[V.sl.injEq,true_and]at he
   obtain⟨rfl,rfl,rfl⟩:=he
   have hlen:cs'.length=n*sz:=by
    have:=(jp hcs').1
    rw[this]
    simp only[List.length_take,List.length_drop];omega
   cases hrep with
   | sl _ _ _ _ xs hs hc' hm' hi hl hr=>exact Rep.tsl i b n cap sz cs' xs ht hlen hc hm (by simpa using hi) hl hr
 | agg|tup|undef=>
  simp only[jr,Jm,V.pureLeaf,Bool.false_eq_true,if_false,reduceCtorEq]at hv
 | _=>exact other rfl
theorem jgd (ho:Own γ I B st w Ω) (hz:jc2 γ B st w I I'):∀ (xs:List Value) (vs vs':List V) (i:Nat),xs.length=vs.length→(∀ (j:Nat) (x:Value) (v:V),xs[j]? = some x→vs[j]? = some v→Rep γ I x v) →
 Xc st keep i vs=some vs'→(∀p∈plList γ st keep i xs vs,τ p.1=p.2.2) →
 vs'.length=vs.length∧(∀ (j:Nat) (x:Value) (v':V),xs[j]? = some x→vs'[j]? = some v'→v'.leaf=true∧jvc τ I' x v')
 | [],[],vs',i,_,_,h,_=>by
  simp only[Xc,Option.some.injEq]at h
  subst h
  exact⟨rfl,fun j x v' h=>by simp at h⟩
 | x::xs,v::vs,vs',i,hl,hr,h,hτ=>by
  simp only[Xc]at h
  obtain⟨q,hq,h⟩:=bind_some h
  obtain⟨r,hr',rfl⟩:=map_some h
  simp only[plList]at hτ
  obtain⟨h1,h2⟩:=jgd ho hz xs vs r (i+1) (by simpa using hl) (fun j x v hx hv=>hr (j+1) x v (by simpa using hx) (by simpa using hv)) hr' (fun p hp=>hτ p (List.mem_append_right _ hp))
  have hleaf:=jge ho hz (hr 0 x v rfl rfl) hq (fun p hp=>hτ p (List.mem_append_left _ hp))
  have hpos:=WZ (γ:=γ) (x:=x) hq
  refine⟨by simp[h1],fun j y u' hy hu'=>?_⟩
  cases j with
  | zero=>
   simp only[List.getElem?_cons_zero,Option.some.injEq]at hy hu'
   subst hy;subst hu'
   exact⟨hpos.1,hleaf⟩
  | succ j=>exact h2 j y u' (by simpa using hy) (by simpa using hu')
 | [],_::_,_,_,h,_,_,_=>by simp at h
 | _::_,[],_,_,h,_,_,_=>by simp at h
theorem jtj {x:Value}{v:V}(h:jvc τ I x v) (hl:v.leaf=true):jqt τ I x v∧(∀vs,v≠.tup vs):=by
 cases v with
 | agg|tup|undef=>cases hl
 | _=>exact⟨h,fun _ h=>by cases h⟩
theorem jsb (ho:Own γ I B st w Ω) (hz:jc2 γ B st w I I') {x:Value}{v v':V}{i:Nat}(hx:Rep γ I x v) (hv:Xv st keep i v=some v') (hτ:∀p∈plTop γ st keep i x v,τ p.1=p.2.2) :
 jqt τ I' x v'∧(∀vs,v'≠.tup vs):=by
 have leafCase:jr st keep i v=some v'→plTop γ st keep i x v=plLeaf γ st keep i x v→jqt τ I' x v'∧(∀vs,v'≠.tup vs):=by
  intro h1 h2
  rw[h2]at hτ
  exact jtj (jge ho hz hx h1 hτ) (WZ (γ:=γ) (x:=x) h1).1
 cases v with
 | agg cs=>
  simp only[Xv]at hv
  obtain⟨r,hr,rfl⟩:=map_some hv
  obtain⟨xs,rfl,h1,h2,h3⟩:=Y7 hx
  obtain⟨k1,k2⟩:=jgd ho hz xs.toList cs r i (by simpa using h1) (fun j x v hx hv=>h3 j x v (by simpa using hx) hv) hr hτ
  refine⟨⟨xs,rfl,h1.trans k1.symm,fun j u hu=>?_,fun j y u hy hu=>(k2 j y u (by simpa using hy) hu).2⟩,(fun vs h=>by cases h)⟩
  have hj:j<xs.size:=by have:=(List.getElem?_eq_some_iff.1 hu).1;omega
  exact(k2 j xs[j] u (by rw[Array.getElem?_toList];exact Array.getElem?_eq_getElem hj) hu).1
 | fn f asg bs=>
  simp only[Xv,Option.ite_none_right_eq_some,Option.some.injEq]at hv
  obtain⟨hp,rfl⟩:=hv
  exact⟨(jfy hx hp).mono hz.1,(fun vs h=>by simp[V.strip]at h)⟩
 | _=>exact leafCase hv rfl
theorem W6 (ho:Own γ I B st w Ω) (hz:jc2 γ B st w I I'):∀ (xs:List Value) (vs vs':List V) (i:Nat),xs.length=vs.length→(∀ (j:Nat) (x:Value) (v:V),xs[j]? = some x→vs[j]? = some v→Rep γ I x v) →
 JU st keep i vs=some vs'→(∀p∈plTops γ st keep i xs vs,τ p.1=p.2.2) →
 vs'.length=vs.length∧(∀ (j:Nat) (x:Value) (v':V),xs[j]? = some x→vs'[j]? = some v'→jqt τ I' x v'∧∀vs,v'≠.tup vs)
 | [],[],vs',i,_,_,h,_=>by
  simp only[JU,Option.some.injEq]at h
  subst h
  exact⟨rfl,fun j x v' h=>by simp at h⟩
 | x::xs,v::vs,vs',i,hl,hr,h,hτ=>by
  simp only[JU]at h
  obtain⟨q,hq,h⟩:=bind_some h
  obtain⟨r,hr',rfl⟩:=map_some h
  simp only[plTops]at hτ
  obtain⟨h1,h2⟩:=W6 ho hz xs vs r (i+16) (by simpa using hl) (fun j x v hx hv=>hr (j+1) x v (by simpa using hx) (by simpa using hv)) hr' (fun p hp=>hτ p (List.mem_append_right _ hp))
  have htop:=jsb ho hz (hr 0 x v rfl rfl) hq (fun p hp=>hτ p (List.mem_append_left _ hp))
  refine⟨by simp[h1],fun j y u' hy hu'=>?_⟩
  cases j with
  | zero=>
   simp only[List.getElem?_cons_zero,Option.some.injEq]at hy hu'
   subst hy;subst hu'
   exact htop
  | succ j=>exact h2 j y u' (by simpa using hy) (by simpa using hu')
 | [],_::_,_,_,h,_,_,_=>by simp at h
 | _::_,[],_,_,h,_,_,_=>by simp at h
theorem jtq {v:V}(h:v.leaf=true):v.toks=v.tok:=by
 cases v with
 | agg|tup|undef=>cases h
 | _=>rfl
theorem jed:∀ (xs:List Value) (vs vs':List V) (i:Nat),xs.length=vs.length→Xc st keep i vs=some vs'→vs'.flatMap V.tok=(plList γ st keep i xs vs).map (·.1)
 | [],[],vs',i,_,h=>by
  simp only[Xc,Option.some.injEq]at h
  subst h
  rfl
 | x::xs,v::vs,vs',i,hl,h=>by
  simp only[Xc]at h
  obtain⟨q,hq,h⟩:=bind_some h
  obtain⟨r,hr,rfl⟩:=map_some h
  simp only[plList,List.map_append,List.flatMap_cons,(WZ (γ:=γ) (x:=x) hq).2,jed xs vs r (i+1) (by simpa using hl) hr]
 | [],_::_,_,_,h,_=>by simp at h
 | _::_,[],_,_,h,_=>by simp at h
theorem jpd {x:Value}{v v':V}{i:Nat}(hx:Rep γ I x v) (hv:Xv st keep i v=some v'):v'.toks=(plTop γ st keep i x v).map (·.1):=by
 have leafCase:jr st keep i v=some v'→plTop γ st keep i x v=plLeaf γ st keep i x v→v'.toks=(plTop γ st keep i x v).map (·.1):=fun h1 h2=>by
  obtain⟨h3,h4⟩:=WZ (γ:=γ) (x:=x) h1
  rw[h2,jtq h3,h4]
 cases v with
 | agg cs=>
  simp only[Xv]at hv
  obtain⟨r,hr,rfl⟩:=map_some hv
  obtain⟨xs,rfl,h1,h2,h3⟩:=Y7 hx
  exact jed xs.toList cs r i (by simpa using h1) hr
 | fn f asg bs=>
  simp only[Xv,Option.ite_none_right_eq_some,Option.some.injEq]at hv
  obtain⟨hp,rfl⟩:=hv
  rfl
 | _=>exact leafCase hv rfl
theorem jec:∀ (xs:List Value) (vs vs':List V) (i:Nat),xs.length=vs.length→(∀ (j:Nat) (x:Value) (v:V),xs[j]? = some x→vs[j]? = some v→Rep γ I x v)→JU st keep i vs=some vs' →
 vs'.flatMap V.toks=(plTops γ st keep i xs vs).map (·.1)
 | [],[],vs',i,_,_,h=>by
  simp only[JU,Option.some.injEq]at h
  subst h
  rfl
 | x::xs,v::vs,vs',i,hl,hr,h=>by
  simp only[JU]at h
  obtain⟨q,hq,h⟩:=bind_some h
  obtain⟨r,hr',rfl⟩:=map_some h
  simp only[plTops,List.map_append,List.flatMap_cons,jpd (hr 0 x v rfl rfl) hq,jec xs vs r (i+16) (by simpa using hl) (fun j x v hx hv=>hr (j+1) x v (by simpa using hx) (by simpa using hv)) hr']
 | [],_::_,_,_,h,_,_=>by simp at h
 | _::_,[],_,_,h,_,_=>by simp at h
def jm4 (xs:List Value):Value :=
 match xs with
 | [x]=>x
 | xs=>.tuple xs.toArray
end
section
variable {P:Program}{E:Env}{w0 w:World}{I0:IMap}{nt:Nat}{γ τ:Nat→Option Place}{I I':IMap}{st:St}{a:Act}{B:Nat}{Ω:Nat→Option Owner}
def jm5 (tmps:Array Value):ResultVar→Sem Value
 | .tmp t=>pure (tmps.getD t undef)
 | .cell a t=>do loadVar t (← asAddr (tmps.getD a undef))
theorem jr0 (hR:R E w0 I0 nt γ I st a w) {rv:ResultVar}{r:ARes}{v:V}(hc:YY P rv=some r) (hv:jw st r=some v):∃x,(jm5 a.tmps rv).run P w=.ok x w∧Rep γ I x v:=by
 cases rv with
 | tmp t=>
  simp only[YY,Option.some.injEq]at hc
  subst hc
  simp only[jw,Option.some.injEq]at hv
  subst hv
  exact⟨_,rfl,hR.tm t⟩
 | cell n t=>
  simp only[YY]at hc
  obtain⟨g,hg,rfl⟩:=map_some hc
  simp only[jw]at hv
  split at hv
  ·rename_i l u off he
   have hr:=hR.tm n
   rw[he]at hr
   obtain⟨b,kb,hu,hx'⟩:=YT hr
   obtain⟨cs,hcs,hpk⟩:=bind_some hv
   obtain⟨arr,e,m1,m2,m4,m3⟩:=Q2 hR (jb hcs) hu
   have hget:∀j,off+j<cs.length→arr[off+j]? = some (arr.getD (off+j) undef):=by
    intro j hj
    have:off+j<arr.size:=by omega
    simp[this]
   obtain⟨h4,h5⟩:=jhr (γ:=γ) (I:=I) hpk (fun j=>arr.getD (off+j) undef) (fun j u hj hu=>m3 _ _ _ (hget j (List.getElem?_eq_some_iff.1 hu).1) hu)
   refine⟨_,?_,h5⟩
   simp only[jm5,hx',asAddr,Sem.run_bind,Sem.run_pure,Result.andThen_ok]
   exact Qy hg (fun j=>arr.getD (off+j) undef) _ rfl (fun j hj=>by
    simp only[World.cell?,m1,Option.isSome_none,Bool.false_eq_true,if_false]
    exact hget j (h4 j hj))
  ·cases hv
theorem jf6 (hR:R E w0 I0 nt γ I st a w):∀ (rvs:List ResultVar) (rs:List ARes) (vs:List V),rvs.mapM (YY P)=some rs→rs.mapM (jw st)=some vs →
 ∃xs:List Value,xs.length=vs.length∧(rvs.mapM (jm5 a.tmps)).run P w=.ok xs w∧∀ (j:Nat) (x:Value) (v:V),xs[j]? = some x→vs[j]? = some v→Rep γ I x v
 | [],rs,vs,h1,h2=>by
  simp at h1
  subst h1
  simp at h2
  subst h2
  exact⟨[],rfl,rfl,fun j x v h=>by simp at h⟩
 | rv::rvs,rs,vs,h1,h2=>by
  simp only[List.mapM_cons]at h1
  cases ha:YY P rv with
  | none=>simp[ha]at h1
  | some r=>
   cases hl:rvs.mapM (YY P) with
   | none=>simp[ha,hl]at h1
   | some rs'=>
    simp[ha,hl]at h1
    subst h1
    simp only[List.mapM_cons]at h2
    cases hv:jw st r with
    | none=>simp[hv]at h2
    | some v=>
     cases hvl:rs'.mapM (jw st) with
     | none=>simp[hv,hvl]at h2
     | some vs'=>
      simp[hv,hvl]at h2
      subst h2
      obtain⟨x,k1,k2⟩:=jr0 hR ha hv
      obtain⟨xs,k3,k4,k5⟩:=jf6 hR rvs rs' vs' hl hvl
      refine⟨x::xs,by simp[k3],?_,fun j y u hy hu=>?_⟩
      ·simp only[List.mapM_cons,Sem.run_bind,k1,Result.andThen_ok,k4,Sem.run_pure]
      ·cases j with
       | zero=>
        simp only[List.getElem?_cons_zero,Option.some.injEq]at hy hu
        subst hy;subst hu
        exact k2
       | succ j=>exact k5 j y u (by simpa using hy) (by simpa using hu)
theorem jf5 (hR:R E w0 I0 nt γ I st a w) {fn:Func}{rs:List ARes}{vs:List V}(h1:fn.results.toList.mapM (YY P)=some rs) (h2:rs.mapM (jw st)=some vs) :
 ∃xs:List Value,xs.length=vs.length∧(results fn a.tmps).run P w=.ok (jm4 xs) w∧∀ (j:Nat) (x:Value) (v:V),xs[j]? = some x→vs[j]? = some v→Rep γ I x v:=by
 obtain⟨xs,k1,k2,k3⟩:=jf6 hR _ _ _ h1 h2
 refine⟨xs,k1,?_,k3⟩
 have he:(results fn a.tmps)=(fn.results.mapM (jm5 a.tmps) >>= fun vs=>pure (if h:vs.size=1 then vs[0] else .tuple vs)):=by
  unfold results
  congr 1
 rw[he,Array.mapM_eq_mapM_toList]
 simp only[map_eq_pure_bind,Sem.run_bind,k2,Result.andThen_ok,Sem.run_pure]
 congr 1
 match xs with
 | []=>rfl
 | [x]=>rfl
 | x::y::r=>simp[jm4]
theorem jqq {β:Type}{l:List (Nat × β)}(hn:(l.map (·.1)).Nodup) {i:Nat}{u:β}(hm:(i,u)∈l):(l.find? fun p=>Nat.beq p.1 i)=some (i,u):=by
 induction l with
 | nil=>cases hm
 | cons p l ih=>
  obtain⟨j,v⟩:=p
  simp only[List.map_cons,List.nodup_cons]at hn
  rcases List.mem_cons.1 hm with he|hm
  ·cases he
   simp[List.find?,Nat.beq_refl]
  ·have hne:¬ j=i:=fun e=>hn.1 (List.mem_map.2 ⟨_,hm,e.symm⟩)
   have:Nat.beq j i=false:=by
    cases h:Nat.beq j i with
    | false=>rfl
    | true=>exact absurd (Nat.eq_of_beq_eq_true h) hne
   simp only[List.find?,this]
   exact ih hn.2 hm
theorem j57 (hR:R E w0 I0 nt γ I st a w) {xs:List Value}{vs:List V}{r:V}(hlen:xs.length=vs.length) (hr:∀ (j:Nat) (x:Value) (v:V),xs[j]? = some x→vs[j]? = some v→Rep γ I x v)
 (ho:Wp st vs=some r) :
 ∃τ I',(∀b o x,I b o=some x→I' b o=some x)∧jkk I' w∧(∀b o,b<w0.heap.size→I' b o=I b o)∧jva τ I' (jm4 xs) r∧jki w0.heap.size τ I' w r:=by
 classical
 obtain⟨Ω,hown⟩:=hR.own
 let C:Nat→Nat→Prop:=fun b o=>w0.heap.size≤b∧∃l u cs k,st.ob l=some ⟨u,.cells cs⟩∧γ u=some (.obj b k)∧o<cs.length
 let I':IMap:=fun b o=>match I b o with
  | some x=>some x
  | none=>if C b o then w.cell? ⟨b,o,none⟩ else none
 have hmono:∀b o x,I b o=some x→I' b o=some x:=by
  intro b o x h
  simp only[I',h]
 have hz:jc2 γ w0.heap.size st w I I':=⟨hmono,fun b k o x l u cs hb hl hu hlt hc=>by
  obtain⟨b',k',k1,_,_,_,k5⟩:=hown.ob l _ hl
  rw[hu]at k1
  cases k1
  simp only[I',k5]
  rw[if_pos ⟨hb,l,u,cs,k,hl,hu,hlt⟩]
  exact hc⟩
 have himm:jkk I' w:=by
  intro b o x h
  simp only[I']at h
  split at h
  ·rename_i y hy
   cases h
   exact hR.imm _ _ _ hy
  ·split at h
   ·exact h
   ·cases h
 have hold:∀b o,b<w0.heap.size→I' b o=I b o:=by
  intro b o hb
  simp only[I']
  split
  ·rename_i y hy;exact hy.symm
  ·rename_i hy
   rw[if_neg (fun h=>Nat.not_lt_of_le h.1 hb)]
   exact hy.symm
 unfold Wp at ho
 obtain⟨l,hl,ho⟩:=bind_some ho
 simp only[Option.ite_none_right_eq_some]at ho
 obtain⟨hnd,hre⟩:=ho
 generalize hkeep:nodup (vs.flatMap V.toks)=keep at hl
 let pl:=plTops γ st keep 0 xs vs
 let τ:Nat→Option Place:=fun i=>(pl.find? fun p=>Nat.beq p.1 i).bind fun p=>p.2.2
 obtain⟨hsub,hpk⟩:=jd9 (γ:=γ) (I:=I) 0 xs vs l hlen hr hl
 have hpos:=jec (γ:=γ) (I:=I) xs vs l 0 hlen hr hl
 have hfst:(pl.map (·.1)).Nodup:=by
  rw[← hpos]
  exact QQ hnd
 have hτ:∀p∈pl,τ p.1=p.2.2:=by
  intro p hp
  obtain⟨i,u⟩:=p
  simp only[τ,jqq hfst hp,Option.bind_some]
 obtain⟨h1,h2⟩:=W6 (τ:=τ) hown hz xs vs l 0 hlen hr hl hτ
 have htoks:toksRes r=pl.map (·.1):=by
  rw[← hpos]
  match l,h2,hre with
  | [],_,rfl=>rfl
  | [v],h2,rfl=>
   match xs,hlen,h1 with
   | [x],_,_=>
    have:=(h2 0 x v rfl rfl).2
    simp only[List.flatMap_cons,List.flatMap_nil,List.append_nil]
    cases v <;> first|rfl|exact absurd rfl (this _)
   | [],e1,e2=>simp at e1 e2;omega
   | _::_::_,e1,e2=>simp at e1 e2;omega
  | v::v'::l',_,rfl=>rfl
 have hrep:jva τ I' (jm4 xs) r:=by
  have hll:xs.length=l.length:=hlen.trans h1.symm
  match l,xs,hll,h2,hre with
  | [],[],_,_,rfl=>exact⟨#[],rfl,rfl,fun j y u hy=>by simp at hy⟩
  | [v],[x],_,h2,rfl=>
   obtain⟨k1,k2⟩:=h2 0 x v rfl rfl
   cases v <;> first|exact k1|exact absurd rfl (k2 _)
  | v::v'::l',x::x'::xs',e,h2,rfl=>exact⟨(x::x'::xs').toArray,rfl,by simpa using e,fun j y u hy hu=>(h2 j y u (by simpa using hy) hu).1⟩
 refine⟨τ,I',hmono,himm,hold,hrep,?_⟩
 have hsnd:keep=true→(pl.map (·.2.1)).Nodup:=fun hk=>hsub.nodup (QQ (by rw[hkeep,hk]))
 -- whose block it is
 have hwho:∀p∈pl,∃b n cap sz,p.2.2=some (.tok b n cap sz)∧w0.heap.size≤b∧b<w.heap.size∧j4l w.heap[b]? n cap sz∧(∀j,n*sz≤j→I' b j=none) ∧
  (Ω b=some (.tk p.2.1)∨∃l cs k,Ω b=some (.ob l)∧st.ob l=some ⟨p.2.1,.cells cs⟩∧γ p.2.1=some (.obj b k)):=by
  intro p hp
  obtain⟨hk,hu|⟨l,cs,b,k,n,cap,sz,q1,q2,q3,q4,q5,q6,q7,q8,q9⟩⟩:=hpk p hp
  ·obtain⟨b,n,cap,sz,q1,q2,q3,q4,q5⟩:=hown.tk p.2.1 hu.1
   refine⟨b,n,cap,sz,hu.2.trans q1,q3,hown.lt _ _ q2,q4,fun j hj=>?_,.inl q2⟩
   have hn:=q5 j hj
   simp only[I',hn]
   rw[if_neg]
   rintro⟨_,l',u',cs',k',r1,r2,_⟩
   obtain⟨b',k'',t1,t2,_⟩:=hown.ob l' _ r1
   rw[r2]at t1
   cases t1
   rw[q2]at t2
   cases t2
  ·obtain⟨b',k',t1,t2,t3,⟨arr,e,g1,g2,g3,g4⟩,t5⟩:=hown.ob l _ q1
   rw[q2]at t1
   cases t1
   refine⟨b,n,cap,sz,q3,t3 (by simpa[Nat.ble_eq] using q9),hown.lt _ _ t2,⟨arr,e,g1,by rw[g2];exact q8,q6,q7⟩,fun j hj=>?_,.inr ⟨l,cs,k,t2,q1,q2⟩⟩
   simp only[I',t5]
   rw[if_neg]
   rintro⟨_,l',u',cs',k',r1,r2,r3⟩
   obtain⟨b',k'',s1,s2,_⟩:=hown.ob l' _ r1
   rw[r2]at s1
   cases s1
   rw[t2]at s2
   cases s2
   rw[q1]at r1
   cases r1
   omega
 intro i hi
 rw[htoks]at hi
 obtain⟨⟨i',u,pp⟩,hp,rfl⟩:=List.mem_map.1 hi
 obtain⟨b,n,cap,sz,q1,q2,q3,q4,q5,q6⟩:=hwho _ hp
 refine⟨b,n,cap,sz,(hτ _ hp).trans q1,q2,q3,q4,q5,fun i2 hi2 n' c' s' he=>?_⟩
 rw[htoks]at hi2
 obtain⟨⟨i3,u3,pp3⟩,hp3,rfl⟩:=List.mem_map.1 hi2
 obtain⟨b3,n3,cap3,sz3,r1,r2,r3,r4,r5,r6⟩:=hwho _ hp3
 have e3:=(hτ _ hp3).symm.trans he
 simp only at e3
 simp only at r1
 rw[r1]at e3
 cases e3
 have hk:=(hpk _ hp).1
 have huu:u3=u:=by
  simp only at q6 r6
  rcases q6 with q6|⟨l,cs,k,q6,q7,q8⟩ <;> rcases r6 with r6|⟨l',cs',k',r6,r7,r8⟩
  ·rw[q6]at r6;cases r6;rfl
  ·rw[q6]at r6;cases r6
  ·rw[q6]at r6;cases r6
  ·rw[q6]at r6;cases r6
   rw[q7]at r7;cases r7;rfl
 subst huu
 have:=hsnd hk
 obtain⟨k,hk1,hk2⟩:=List.getElem_of_mem hp
 obtain⟨k',hk3,hk4⟩:=List.getElem_of_mem hp3
 have hkk:k'=k:=by
  refine(List.getElem_inj (xs:=pl.map (·.2.1)) (h₀:=by simpa using hk3) (h₁:=by simpa using hk1) this).1 ?_
  simp[hk2,hk4]
 subst hkk
 rw[hk2]at hk4
 cases hk4
 rfl
end
section
variable {P:Program}{E:Env}{τ:Nat→Option Place}{I I' I1:IMap}{B:Nat}
theorem jj2 (hII:∀b o,B≤b→I' b o=I1 b o) {x:Value}{v:V}(h:jvc τ I1 x v) (hf:v.freeL=true) (ht:∀i∈v.tok,∃b n cap sz,τ i=some (.tok b n cap sz)∧B≤b):jvc τ I' x v:=by
 cases v with
 | sl t nl n cs=>
  cases t with
  | none=>exact jat (show RepP I1 x _ from h) hf
  | some q=>
   obtain⟨u,z⟩:=q
   have h':Rep τ I1 x (.sl (some (u,z)) nl n cs):=h
   cases h' with
   | pure _ _ h=>cases h
   | tsl _ b _ cap _ _ xs hu hlen hc hm hi hl hr=>
    obtain⟨b',n',cap',sz',k1,k2⟩:=ht u (by simp[V.tok])
    rw[hu]at k1
    cases k1
    refine Rep.tsl u b n cap z cs xs hu hlen hc hm (fun j hj=>(hII _ _ k2).trans (hi j hj)) hl (fun j v hv=>jat (hr j v hv) ?_)
    exact List.all_eq_true.1 (show cs.all V.scal=true from hf) v (List.mem_of_getElem? hv)
 | osl l u off n sz=>cases hf
 | _=>first|(cases hf;done)|exact jat (show RepP I1 x _ from h) hf
theorem jv0 {x:Value}{v:V}(h:∀cs,v≠.agg cs):jqt τ I x v=jvc τ I x v:=by
 cases v <;> first|rfl|exact absurd rfl (h _)
theorem jwj {x:Value}{v:V}(h:∀cs,v≠.tup cs):jva τ I x v=jqt τ I x v:=by
 cases v <;> first|rfl|exact absurd rfl (h _)
theorem jn6 (hII:∀b o,B≤b→I' b o=I1 b o) {x:Value}{v:V}(h:jqt τ I1 x v) (hf:v.freeT=true) (ht:∀i∈v.toks,∃b n cap sz,τ i=some (.tok b n cap sz)∧B≤b):jqt τ I' x v:=by
 cases v with
 | agg cs=>
  obtain⟨xs,rfl,h1,h2,h3⟩:=h
  refine⟨xs,rfl,h1,h2,fun j y u hy hu=>?_⟩
  have hm:=List.mem_of_getElem? hu
  exact jj2 hII (h3 j y u hy hu) (List.all_eq_true.1 (show cs.all V.freeL=true from hf) u hm) (fun i hi=>ht i (List.mem_flatMap.2 ⟨u,hm,hi⟩))
 | _=>rw[jv0 (fun _ h=>by cases h)]at h ⊢;exact jj2 hII h hf ht
theorem jym (hII:∀b o,B≤b→I' b o=I1 b o) {x:Value}{v:V}(h:jva τ I1 x v) (hf:v.freeR=true) (ht:∀i∈toksRes v,∃b n cap sz,τ i=some (.tok b n cap sz)∧B≤b):jva τ I' x v:=by
 cases v with
 | tup vs=>
  obtain⟨xs,rfl,h1,h2⟩:=h
  refine⟨xs,rfl,h1,fun j y u hy hu=>?_⟩
  have hm:=List.mem_of_getElem? hu
  exact jn6 hII (h2 j y u hy hu) (List.all_eq_true.1 (show vs.all V.freeT=true from hf) u hm) (fun i hi=>ht i (List.mem_flatMap.2 ⟨u,hm,hi⟩))
 | _=>rw[jwj (fun _ h=>by cases h)]at h ⊢;exact jn6 hII h hf ht
theorem frz_ok {f:FuncId}{args args':List V}{ob:ZO}{ub:Nat}{r:V}(hp:jkj P E f args' r) (ha:args.mapM (WE ob)=some args') (hr:r.freeR=true):ObsOk P E f args ob ub r:=by
 intro w0 w I0 I γ xs st hob hSh hfr hsz hrep
 obtain⟨hlen,hget⟩:=jn5 hob hSh ha hrep
 have hlt:∀b o x,I b o=some x→b<w.heap.size:=by
  intro b o x hx
  have:=hSh.imm b o x hx
  apply Classical.byContradiction
  intro hn
  have hb:w.heap[b]? = none:=Array.getElem?_eq_none (by omega)
  simp[World.cell?,hb]at this
 refine(hp w (fun b o=>w.cell? ⟨b,o,none⟩) xs (fun _ _ _ h=>h) (fun g cs hg=>(hSh.gl g cs hg).mono hSh.imm) (hsz.trans hlen.symm) hget).mono fun e w' he=>?_
 ·obtain⟨x,τ,I1,rfl,hg,hI,him,hold,hx,ht⟩:=he
  have hge:∀b o,w.heap.size≤b→(fun b o=>if b<w.heap.size then I b o else I1 b o) b o=I1 b o:=fun b o h=>if_neg (by omega)
  refine⟨x,τ,fun b o=>if b<w.heap.size then I b o else I1 b o,rfl,hg,fun b o y hy=>?_,fun b o y hy=>?_,fun b o hb=>if_pos hb,jym hge hx hr (fun i hi=>?_),fun i hi=>?_⟩
  ·simp only[hlt b o y hy,if_true];exact hy
  ·simp only at hy
   split at hy
   ·exact him b o y (hI b o y (hSh.imm b o y hy))
   ·exact him b o y hy
  ·obtain⟨b,n,cap,sz,k1,k2,_⟩:=ht i hi
   exact⟨b,n,cap,sz,k1,k2⟩
  ·obtain⟨b,n,cap,sz,k1,k2,k3,k4,k5,k6⟩:=ht i hi
   exact⟨b,n,cap,sz,k1,k2,k3,k4,fun j hj=>(hge b j k2).trans (k5 j hj),k6⟩
end
end Go.Pv
namespace Go.Pv
open Go Go.Sort
theorem jev (x:Int):∀l:List Int,(j3h x l).Perm (x::l)
 | []=>List.Perm.refl _
 | y::r=>by
  unfold j3h
  split
  ·exact List.Perm.refl _
  ·exact((jev x r).cons y).trans (List.Perm.swap x y r)
theorem QM:∀l:List Int,(Yz l).Perm l
 | []=>List.Perm.refl _
 | x::r=>(jev x (Yz r)).trans ((QM r).cons x)
theorem juk (x:Int):∀ {l:List Int},l.Pairwise (·≤·)→(j3h x l).Pairwise (·≤·)
 | [],_=>by simp[j3h]
 | y::r,h=>by
  unfold j3h
  rw[List.pairwise_cons]at h
  split
  ·rename_i hxy
   exact List.pairwise_cons.2 ⟨fun z hz=>by
    rcases List.mem_cons.1 hz with rfl|hz
    ·exact hxy
    ·exact Int.le_trans hxy (h.1 z hz),List.pairwise_cons.2 h⟩
  ·refine List.pairwise_cons.2 ⟨fun z hz=>?_,juk x h.2⟩
   rcases List.mem_cons.1 ((jev x r).mem_iff.1 hz) with rfl|hz
   ·omega
   ·exact h.1 z hz
theorem jg5:∀l:List Int,(Yz l).Pairwise (·≤·)
 | []=>List.Pairwise.nil
 | x::r=>juk x (jg5 r)
theorem jhe:∀ {S C:List Int},S.Perm C→S.Pairwise (·≤·)→C.Pairwise (·≤·)→S=C
 | [],C,h,_,_=>(List.nil_perm.1 h).symm
 | x::r,C,h,hs,hc=>by
  cases C with
  | nil=>exact absurd h.length_eq (by simp)
  | cons y q=>
   rw[List.pairwise_cons]at hs hc
   have e:x=y:=by
    rcases List.mem_cons.1 (h.mem_iff.1 (List.mem_cons_self ..)) with h1|h1
    ·exact h1
    ·rcases List.mem_cons.1 (h.mem_iff.2 (List.mem_cons_self (l:=q))) with h2|h2
     ·exact h2.symm
     ·have:=hs.1 y h2
      have:=hc.1 x h1
      omega
   subst e
   rw[jhe ((List.perm_cons x).1 h) hs.2 hc.2]
theorem jkw (l:List Int):l.mergeSort (fun x y=>decide (x≤y))=Yz l:=by
 refine jhe ((List.mergeSort_perm l _).trans (QM l).symm) ?_ (jg5 l)
 have:=List.pairwise_mergeSort (le:=fun x y:Int=>decide (x≤y)) (fun a b c h1 h2=>by simp at *;omega) (fun a b=>by simp;omega) l
 exact this.imp fun h=>by simpa using h
section
variable {P:Program}{E:Env}{w0 w:World}{I0:IMap}{γ:Nat→Option Place}{I:IMap}{st:St}
theorem Sh.turnG (h:Sh E w0 I0 γ I st w) {l u b:Nat}{k:Kd}{body:OBody}(hl:st.ob l=some ⟨u,body⟩) (hu:γ u=some (.obj b k)) (hro:Nat.ble st.ro u=true) {o':Obj}{w':World}{body':OBody}
 (hos:w'.os=w.os∧w'.tape=w.tape∧w'.output=w.output) (hsz:w.heap.size≤w'.heap.size) (hk:∀j,j<w.heap.size→j≠b→w'.heap[j]? = w.heap[j]?) (hb:w'.heap[b]? = some o')
 (hbody:ObjOk γ I st.ob w.heap k (some o') body') (hnm:∀v es,body'≠.mp v es) :
 Sh E w0 I0 γ I { st with ob:=upd st.ob l (some ⟨u,body'⟩) } w':=by
 obtain⟨Ω,ho⟩:=h.own
 obtain⟨b',k',h1,h2,h3,_,h5⟩:=ho.ob l _ hl
 rw[hu]at h1
 cases h1
 have hkeep:Xr γ st.ob (upd st.ob l (some ⟨u,body'⟩)) w.heap w'.heap:=by
  intro l2 u2 ver' es' mb mk hu2 hl2
  rw[j5]at hl2
  split at hl2
  ·simp only[Option.some.injEq,Obj'.mk.injEq]at hl2
   exact absurd hl2.2 (hnm _ _)
  ·rename_i hne
   refine .inl ⟨hl2,fun m c hm=>?_⟩
   obtain⟨b2,k2,q1,q2,_⟩:=ho.ob l2 _ hl2
   rw[hu2]at q1
   cases q1
   rw[hk _ (ho.lt _ _ q2) (fun e=>by
    subst e
    rw[h2]at q2
    cases q2
    exact hne rfl)]
   exact hm
 refine⟨fun b2 o2 x hx=>?_,h.gl,⟨Ω,⟨fun l2 x hl2=>?_,fun u2 hu2=>?_,fun b2 ow hb2=>?_⟩⟩,?_,h.old⟩
 ·have hne:b2≠b:=fun e=>by rw[e,h5]at hx;cases hx
  have hc:=h.imm _ _ _ hx
  rw[World.cell?_of_block (w:=w) (w':=w') (a:=⟨b2,o2,none⟩) (hk b2 (World.block_lt_of_cell? _ _ hc) hne)]
  exact hc
 ·simp only at hl2
  rw[j5]at hl2
  split at hl2
  ·rename_i e
   subst e
   cases hl2
   refine⟨b,k,hu,h2,h3,?_,h5⟩
   rw[hb]
   exact hbody.keep hkeep
  ·rename_i hne
   obtain⟨b2,k2,q1,q2,q3,q4,q5⟩:=ho.ob l2 x hl2
   have hbb:b2≠b:=fun e=>by
    subst e
    rw[h2]at q2
    cases q2
    exact hne rfl
   exact⟨b2,k2,q1,q2,q3,by rw[hk _ (ho.lt _ _ q2) hbb];exact q4.keep hkeep,q5⟩
 ·obtain⟨b2,n,cap,sz,q1,q2,q3,q4,q5⟩:=ho.tk u2 hu2
  have hbb:b2≠b:=fun e=>by subst e;rw[h2]at q2;cases q2
  exact⟨b2,n,cap,sz,q1,q2,q3,by rw[hk _ (ho.lt _ _ q2) hbb];exact q4,q5⟩
 ·exact Nat.lt_of_lt_of_le (ho.lt _ _ hb2) hsz
 ·exact Grow.frame h.fr (T:=fun k=>k=b) ⟨hos.1,hos.2.1,hos.2.2,hsz,fun k hk' hne=>hk k hk' hne,fun k hk'=>hk'▸h3 (by simpa[Nat.ble_eq] using hro)⟩
theorem jyd {l:List V}{zs:List Int}(h:l.mapM int64? = some zs):l=zs.map (.int .i64):=by
 obtain⟨h1,h2⟩:=jp h
 apply List.ext_getElem?
 intro j
 rcases Nat.lt_or_ge j l.length with hj|hj
 ·have hj':j<zs.length:=by omega
  have:=h2 j _ _ (List.getElem?_eq_getElem hj) (List.getElem?_eq_getElem hj')
  rw[List.getElem?_map,List.getElem?_eq_getElem hj',List.getElem?_eq_getElem hj]
  unfold int64? at this
  split at this
  ·rename_i n e;cases this;rw[e];rfl
  ·cases this
 ·rw[List.getElem?_eq_none hj,List.getElem?_eq_none (by simp;omega)]
theorem j06 {γ0:Nat→Option Place}{Iy:IMap}{f:FuncId}{args:List V}{ob ob':ZO}{tk tk':Nat→Bool}{ro ub ub':Nat}{r:V}(hl:jmk P f) (h:jrl ob tk ro ub args=some (r,ob',tk',ub')) :
 jic P E γ0 Iy f args ob tk ro ub [(r,ob',tk',ub')]:=by
 intro w0 w I0 I γ xs st hg0 hI0 hob htk hro hSh hfr hsz hrep
 subst hob htk hro
 have nothing:∀ {p cap},xs = #[.slice p 0 cap]→Calls P f xs w fun e w'=>∃r∈[(V.tup [],st.ob,st.tk,ub)],WI E w0 I0 γ I st.ro r.1 r.2.1 r.2.2.1 r.2.2.2 e w':=by
  rintro p cap rfl
  refine(hl.2.1 p cap w).mono ?_
  rintro e w' ⟨rfl,rfl⟩
  exact⟨_,List.mem_singleton.2 rfl,_,γ,I,rfl,fun st' h1 h2 h3=>hSh.congr h1 h2 h3,.tup _ _ rfl (fun j x v hx=>by simp at hx),SubG.refl _,SubI.refl _,hfr⟩
 unfold jrl at h
 split at h
 ·rename_i l u off n sz
  obtain⟨cs,hcs,hq⟩:=bind_some h
  simp only[Option.ite_none_right_eq_some]at hq
  obtain⟨⟨hr,hz1,hle,hbig⟩,hq⟩:=hq
  obtain⟨zs,hzs,he⟩:=map_some hq
  simp only[Prod.mk.injEq]at he
  clear h hq
  obtain⟨rfl,rfl,rfl,rfl⟩:=he
  subst hz1
  have hob:=jb hcs
  have hx1:xs.size=1:=hsz
  obtain⟨x,rfl⟩:∃x,xs = #[x]:=⟨xs[0],by
   apply Array.ext
   ·simp[hx1]
   ·intro i h1 h2
    have:i=0:=by simp at h2;omega
    subst this
    rfl⟩
  have hcell:=jyd hzs
  have hlen:zs.length=n:=by
   have:=congrArg List.length hcell
   simp at this
   omega
  rcases Nat.eq_zero_or_pos n with h0|h0
  ·subst h0
   have hz0:zs=[]:=List.length_eq_zero_iff.1 hlen
   subst hz0
   have hsame:upd st.ob l (some ⟨u,.cells (j6 cs off ((Yz []).map (.int .i64)))⟩)=st.ob:=by
    funext k
    rw[j5]
    split
    ·rename_i e;subst e;rw[hob];simp[j6,Yz]
    ·rfl
   rw[hsame]
   cases hrep 0 x _ rfl rfl with
   | pure _ _ h=>cases h
   | osl l u off n sz cap b k a hu ha hc hm=>exact nothing rfl
  ·cases hrep 0 x _ rfl rfl with
   | pure _ _ h=>cases h
   | osl l u off n sz cap b k a hu ha hc hm=>
    obtain⟨rfl,hak⟩:=ha (by omega)
    obtain⟨arr,e,hw,hsize,hcl,hels⟩:=jgg hSh hob hu
    have hblt:b<w.heap.size:=(Array.getElem?_eq_some_iff.1 hw).1
    have hint:∀j (hj:j<zs.length),arr[off+j]? = some (.int .i64 zs[j]):=fun j hj=>by
     have h1:off+j<arr.size:=by omega
     have h2:cs[off+j]? = some (.int .i64 zs[j]):=by
      have:=congrArg (fun l=>l[j]?) hcell
      simp only[List.getElem?_map,List.getElem?_eq_getElem hj,Option.map_some]at this
      rw[List.getElem?_take_of_lt (by omega),List.getElem?_drop]at this
      exact this
     have h3:=(hels (off+j) _ _ (Array.getElem?_eq_getElem h1) h2).2
     rw[Array.getElem?_eq_getElem h1]
     generalize arr[off+j]=y at h3
     cases h3 with
     | pure _ _ h=>cases h;rfl
    have hH:Holds (Value.int .i64) w b off zs.toArray:=fun j hj=>by
     have hj':j<zs.length:=by simpa using hj
     refine⟨?_,by simp[World.frozen?,hw]⟩
     simp only[World.cell?,hw]
     simp only[Option.isSome_none,Bool.false_eq_true,if_false]
     rw[hint j hj']
     simp[hj']
    have hmax:zs.length<4611686018427387904:=by omega
    have hcall:=hl.2.2 b off cap zs w hH hblt hmax
    rw[hlen]at hcall
    refine hcall.mono ?_
    rintro e' w' ⟨rfl,m,os,rfl⟩
    rw[jkw]
    have hsl:(Yz zs).length=zs.length:=(QM zs).length_eq
    refine⟨_,List.mem_singleton.2 rfl,_,γ,I,rfl,fun st' h1 h2 h3=>?_,.tup _ _ rfl (fun j x v hx=>by simp at hx),SubG.refl _,SubI.refl _,hfr⟩
    have hheap:∀j,j<w.heap.size→(grow (putRow (Value.int .i64) (Go.Sort.ahead w m) b off (Yz zs).toArray) os).heap[j]? = if j=b then some (.cells (putCells (Value.int .i64) off (Yz zs).toArray arr) e (0,0)) else w.heap[j]?:=fun j hj=>by
     simp only[grow,putRow,mapBlock,Go.Sort.ahead]
     rw[Array.getElem?_append_left (by simpa using hj),Array.getElem?_modify]
     by_cases hjb:b=j
     ·subst hjb
      simp[hw,onCells]
     ·have:¬ j=b:=fun e=>hjb e.symm
      simp[hjb,this]
    refine Sh.congr (st:={ st with ob:=upd st.ob l (some ⟨u,.cells (j6 cs off ((Yz zs).map (.int .i64)))⟩) }) (hSh.turnG hob hu hr (o':=.cells (putCells (Value.int .i64) off (Yz zs).toArray arr) e (0,0)) ⟨rfl,rfl,rfl⟩ (by simp[Go.Sort.ahead]) (fun j hj hne=>by rw[hheap j hj,if_neg hne]) (by rw[hheap b hblt,if_pos rfl]) ?_ (fun v es h=>by cases h)) h1 h2 h3
    have hspl:(j6 cs off ((Yz zs).map (.int .i64))).length=cs.length:=by
     simp[j6]
     omega
    refine⟨_,e,rfl,by simpa[putCells] using hsize,by omega,fun j y v hy hv=>?_⟩
    simp only[putCells,Array.getElem?_mapIdx]at hy
    have hszz:(Yz zs).toArray.size=zs.length:=by simpa using hsl
    obtain⟨y0,hy0,hy1⟩:=map_some hy
    by_cases hin:off≤j∧j<off+zs.length
    ·rw[if_pos (by rw[hszz];exact hin)]at hy1
     have hjz:j - off<(Yz zs).length:=by omega
     have hv':v=.int .i64 (Yz zs)[j - off]:=by
      rw[j6,List.append_assoc,List.getElem?_append_right (by simp;omega),List.getElem?_append_left (by simp;omega)]at hv
      simp only[List.length_take,List.getElem?_map]at hv
      rw[show j - min off cs.length=j - off by omega,List.getElem?_eq_getElem hjz]at hv
      simpa using hv.symm
     subst hv' hy1
     refine⟨rfl,?_⟩
     have:(Yz zs).toArray[j - off]! = (Yz zs)[j - off]:=by simp[hjz]
     rw[this]
     exact .pure _ _ (.int _ _)
    ·rw[if_neg (by rw[hszz];exact hin)]at hy1
     subst hy1
     refine hels j y0 v hy0 ?_
     rw[← hv,j6]
     rcases Nat.lt_or_ge j off with hj|hj
     ·rw[List.append_assoc,List.getElem?_append_left (by simp;omega),List.getElem?_take_of_lt hj]
     ·rw[List.getElem?_append_right (by simp;omega),List.getElem?_drop]
      congr 1
      simp
      omega
 ·rename_i tk2 nl
  cases h
  have hx1:xs.size=1:=hsz
  obtain⟨x,rfl⟩:∃x,xs = #[x]:=⟨xs[0],by
   apply Array.ext
   ·simp[hx1]
   ·intro i h1 h2
    have:i=0:=by simp at h2;omega
    subst this
    rfl⟩
  cases hrep 0 x _ rfl rfl with
  | pure _ _ h=>cases h <;> exact nothing rfl
  | tsl u b n cap sz cs xs hu hlen hc hm hi hl hr=>exact nothing rfl
 ·cases h
end
end Go.Pv
namespace Go.Pv
open Go
theorem jcf {n m:Nat}(h:n≤m):∀c:C,c.dstOk n=true→c.dstOk m=true:=by
 have one:∀ops:List AOpr,(ops.all fun o=>match o.dst with|some d=>Nat.blt d n|none=>true)=true→(ops.all fun o=>match o.dst with|some d=>Nat.blt d m|none=>true)=true:=by
  intro ops hd
  refine List.all_eq_true.2 fun o ho=>?_
  have:=List.all_eq_true.1 hd o ho
  split
  ·rename_i d hdd
   simp only[hdd,Nat.blt_eq]at this
   simp only[Nat.blt_eq]
   omega
  ·rfl
 intro c
 induction c with
 | region ops=>exact one ops
 | draw ops f=>exact one ops
 | pin o fs=>exact one (o::fs)
 | seq a b iha ihb=>simp only[C.dstOk,Bool.and_eq_true];exact fun⟨h1,h2⟩=>⟨iha h1,ihb h2⟩
 | cond q a b iha ihb=>simp only[C.dstOk,Bool.and_eq_true];exact fun⟨h1,h2⟩=>⟨iha h1,ihb h2⟩
 | block i a ih=>exact ih
 | loop a ih=>exact ih
 | rangeFunc f ps a b iha ihb=>
  simp only[C.dstOk,Bool.and_eq_true]
  rintro⟨⟨h1,h2⟩,h3⟩
  refine⟨⟨List.all_eq_true.2 fun p hp=>?_,iha h2⟩,ihb h3⟩
  have:=List.all_eq_true.1 h1 p hp
  simp only[Nat.blt_eq]at this ⊢
  omega
 | _=>exact fun _=>rfl
section
variable {P:Program}{E:Env}
theorem jlw {γ:Nat→Option Place}{I:IMap}{xs:Array Value}{args:List V}{k:Nat}(hs:xs.size=args.length) (h:∀ (j:Nat) (x:Value) (v:V),xs[j]? = some x→args[j]? = some v→Rep γ I x v) (t:Nat) :
 Rep γ I ((xs++Array.replicate k undef).getD t undef) (args.getD t jm):=by
 by_cases ht:t<xs.size
 ·have h1:(xs++Array.replicate k undef).getD t undef=xs[t]:=by
   simp[ht,Array.getElem?_append_left]
  have h2:args.getD t jm=args[t]'(by omega):=by
   have:t<args.length:=by omega
   simp[this]
  rw[h1,h2]
  exact h t _ _ (Array.getElem?_eq_getElem ht) (List.getElem?_eq_getElem (by omega))
 ·have h1:(xs++Array.replicate k undef).getD t undef=undef:=by
   simp only[Array.getD_eq_getD_getElem?]
   rw[Array.getElem?_append_right (by omega)]
   by_cases hk:t - xs.size<k <;> simp[hk]
  have h2:args.getD t jm=jm:=by
   have:args.length≤t:=by omega
   simp[this]
  rw[h1,h2]
  exact jiw
theorem jjp {w0:World}{I0 I:IMap}{γ:Nat→Option Place}{fn:Func}{tmps:Array Value}{Rp:Ending→World→Prop}{st:St}:∀ (df:List (Nat × Nat)) (ds:List Deferred) (ob:ZO) (w:World),
 Sh E w0 I0 γ I { st with ob:=ob } w→DfOk γ df ds→(∀x∈df,ob x.1=some ⟨x.2,.dfr⟩∧Nat.ble st.ro x.2=true)→(df.map (·.1)).Nodup →
 (∀w',Sh E w0 I0 γ I { st with ob:=fun k=>if df.any (fun x=>Nat.beq x.1 k) then none else ob k } w'→LeavesIn (FW none) 0 P fn tmps Rp [] .returning w')→LeavesInM (FW none) 0 P fn tmps Rp ds .returning w
 | [],[],ob,w,hSh,_,_,_,hK=>hK w (hSh.congr (funext fun k=>by simp) rfl rfl)
 | x::df,d::ds,ob,w,hSh,hdf,hob,hnd,hK=>by
  obtain⟨⟨b,k,rfl,hu⟩,hdf'⟩:=hdf
  obtain⟨h1,h2⟩:=hob x (List.mem_cons_self ..)
  have hblk:w.heap[b]? = some (.deferred (some [])):=jgg hSh h1 hu
  have htk:=run_takeDeferred (P:=P) hblk
  simp only[List.map_cons,List.nodup_cons]at hnd
  have hSh2:=hSh.turn (ob':=fun k=>if Nat.beq x.1 k then none else ob k) (o':=.deferred none) h1 hu h2 (fun l2 y hy=>by
   split at hy
   ·cases hy
   ·rename_i hne;exact .inl ⟨fun e=>hne (by rw[e];exact Nat.beq_refl _),hy⟩)
  refine⟨(fun h=>by cases h),.inl ⟨b,_,rfl,htk,?_⟩⟩
  refine jjp df ds (fun k=>if Nat.beq x.1 k then none else ob k) _ (hSh2.congr rfl rfl rfl) hdf' (fun y hy=>?_) hnd.2 (fun w' h=>?_)
  ·obtain⟨q1,q2⟩:=hob y (List.mem_cons_of_mem _ hy)
   refine⟨?_,q2⟩
   have hne:¬ Nat.beq x.1 y.1=true:=fun e=>hnd.1 (by rw[Nat.eq_of_beq_eq_true e];exact List.mem_map.2 ⟨y,hy,rfl⟩)
   simp only[hne,Bool.false_eq_true,if_false]
   exact q1
  ·refine hK w' (h.congr (funext fun k=>?_) rfl rfl)
   simp only[List.any_cons,Bool.or_eq_true]
   have key:∀p q:Bool,(if p=true∨q=true then none else ob k)=if q=true then none else if p=true then none else ob k:=by
    intro p q
    cases p <;> cases q <;> rfl
   exact key _ _
 | [],_::_,_,_,_,h,_,_,_=>h.elim
 | _::_,[],_,_,_,h,_,_,_=>h.elim
theorem jxi {w0 w:World}{I0 I:IMap}{γ:Nat→Option Place}{nt:Nat}{fn:Func}{st:St}{a:Act}{Rp:Ending→World→Prop}(hR:R E w0 I0 nt γ I st a w) (hd:j0c st=true)
 (hK:∀w',R E w0 I0 nt γ I st.noDf { tmps:=a.tmps,defers:=[] } w'→∃v,(results fn a.tmps).run P w'=.ok v w'∧Rp (.returned v) w'):LeavesInM (FW none) 0 P fn a.tmps Rp a.defers .returning w:=by
 unfold j0c at hd
 simp only[Bool.and_eq_true]at hd
 refine jjp (st:=st) st.df a.defers st.ob w (hR.sh.congr rfl rfl rfl) hR.df (fun x hx=>?_) (QQ hd.2) (fun w' h=>?_)
 ·have:=List.all_eq_true.1 hd.1 x hx
  split at this
  ·rename_i u hu
   simp only[Bool.and_eq_true]at this
   have e:=Nat.eq_of_beq_eq_true this.1
   subst e
   exact⟨hu,this.2⟩
  ·cases this
 ·have hn:st.noDf.tm=st.tm∧st.noDf.tk=st.tk∧st.noDf.ro=st.ro∧st.noDf.df=[]∧st.noDf.ob=fun k=>if st.df.any (fun x=>Nat.beq x.1 k) then none else st.ob k:=by
   unfold St.noDf
   split
   ·rename_i e;exact⟨rfl,rfl,rfl,e,by rw[e];funext k;simp⟩
   ·exact⟨rfl,rfl,rfl,rfl,rfl⟩
  exact hK w' ⟨hR.sz,by rw[hn.2.2.2.1];trivial,by rw[hn.1];exact hR.tm,h.congr hn.2.2.2.2 hn.2.1 hn.2.2.1⟩
theorem jcz {fn:Func}{Rp:Ending→World→Prop}{e:Ex}{a:Act}{w:World}(h:e=.nrm∨e=.ret) (hl:LeavesInM (FW none) 0 P fn a.tmps Rp a.defers .returning w):bodyPostM (FW none) 0 P fn Rp (exOf e) a w:=by
 rcases h with rfl|rfl <;> exact hl
theorem jxg {α β:Type}{f:α→Option β}{l:List α}{L:List β}(h:l.mapM f=some L) {z:α}(hz:z∈l):∃r∈L,f z=some r:=by
 obtain⟨h1,h2⟩:=jp h
 obtain⟨i,hi,rfl⟩:=List.getElem_of_mem hz
 have hi':i<L.length:=by omega
 exact⟨L[i],List.getElem_mem hi',h2 i _ _ (List.getElem?_eq_getElem hi) (List.getElem?_eq_getElem hi')⟩
theorem jgx (hm:P.follows .mixedOrders=true) (hE:EnvOk P E):∀n,jkl P E (callers E n)
 | 0=>fun γ0 Iy y hy=>⟨fun f args r h=>(by cases h),fun f args ob tk b u r h=>(by cases h),fun f args ob tk ro base ub l h=>(by cases h),hy,hE.nw⟩
 | n+1=>by
  have ih:=jgx hm hE n
  intro γ0 Iy y hy
  -- the results of a function that shares nothing,and of one that only looks
  have alone:∀ {fn:Func}{af:AF}{r:V}{w0 w:World}{I0 I:IMap}{γ:Nat→Option Place}{nt:Nat}{st:St}{a:Act}{e:Ex}{Rp:Ending→World→Prop},fn.results.toList.mapM (YY P)=some af.res→R E w0 I0 nt γ I st a w→jce af.res (e,st)=some r →
   (∀x τ I' w',w0.grownBy w' none→(∀b o x,I b o=some x→I' b o=some x)→jkk I' w'→(∀b o,b<w0.heap.size→I' b o=I0 b o)→jva τ I' x r→jki w0.heap.size τ I' w' r→Rp (.returned x) w') →
   bodyPostM (FW none) 0 P fn Rp (exOf e) a w:=by
   intro fn af r w0 w I0 I γ nt st a e Rp hres hR he hK
   have hne:e=.nrm∨e=.ret:=by cases e <;> first|exact .inl rfl|exact .inr rfl|cases he
   have he':(if j0c st then (af.res.mapM (jw st.noDf)).bind (Wp st.noDf) else none)=some r:=by rcases hne with rfl|rfl <;> exact he
   simp only[Option.ite_none_right_eq_some]at he'
   obtain⟨hd,he'⟩:=he'
   refine jcz hne (jxi hR hd fun w' hR'=>?_)
   obtain⟨vs,hvs,hout⟩:=bind_some he'
   obtain⟨ys,k1,k2,k3⟩:=jf5 hR' hres hvs
   obtain⟨τ,I2,q1,q2,q3,q4,q5⟩:=j57 hR' k1 k3 hout
   exact⟨_,k2,hK _ τ I2 _ hR'.fr q1 q2 (fun b o hb=>(q3 b o hb).trans (hR'.old b o hb)) q4 q5⟩
  refine⟨fun f args r h=>?_,fun f args ob tk base ub r h=>?_,fun f args ob tk ro base ub L h=>?_,hy,hE.nw⟩
  ·simp only[callers]at h
   obtain⟨af,haf,h⟩:=bind_some h
   obtain⟨m,fn,c,hfn,hb,hcomp,hres,hname,hdst⟩:=hE.fc f af haf
   refine⟨⟨fn,c,hfn,hb,hname⟩,fun w I xs himm hgl hsz hrep=>?_⟩
   obtain⟨l,hx,hall⟩:=ji5 h
   refine je6 (callsIn_of_wp_marks (F:=FW none) (n:=0) hfn hb trivial ?_)
   have hnt:fn.ntmps≤(xs++Array.replicate (fn.ntmps - xs.size) undef).size:=by simp;omega
   have hR:R E w I (xs++Array.replicate (fn.ntmps - xs.size) undef).size (fun _=>none) I (Qf args) { tmps:=xs++Array.replicate (fn.ntmps - xs.size) undef,defers:=[] } w :=
    ⟨rfl,trivial,fun t=>jlw hsz (fun j x v hx hv=>.pure _ _ (hrep j x v hx hv)) t,⟨himm,hgl,⟨fun _=>none,⟨fun l o h=>(by cases h),fun u h=>(by cases h),fun b o h=>(by cases h)⟩⟩,⟨rfl,rfl,rfl,Nat.le_refl _,fun _ _ _=>rfl⟩,fun _ _ _=>rfl⟩⟩
   refine jl8 hm ih n (y:=noY) (γ0:=fun _=>none) (Iy:=I) jjf c af.body m false none (.inr rfl) hcomp (jcf hnt _ hdst) w I _ _ l _ _ _ _ (SubG.refl _) (SubI.refl _) hx hR (fun _ _=>rfl) (fun y hy=>?_)
   obtain⟨e,s⟩:=y
   intro γ' I' a' w' hR' hf' hg hI
   refine alone hres hR' (hall _ hy) (fun x τ I2 w2 h2 h3 h4 h5 h6 h7=>?_)
   exact⟨x,τ,I2,rfl,h2,fun b o x h=>h3 b o x (hI b o x h),h4,h5,h6,h7⟩
  ·simp only[callers]at h
   by_cases hfz:E.fz f
   ·simp only[hfz,if_true]at h
    obtain⟨args',ha,h⟩:=bind_some h
    obtain⟨r',h1,h2⟩:=bind_some h
    simp only[Option.ite_none_right_eq_some,Option.some.injEq]at h2
    obtain⟨h2,rfl⟩:=h2
    have hd:=(ih γ0 Iy noY jjf).d f args' r' h1
    exact⟨hd.1,frz_ok hd.2 ha h2⟩
   simp only[hfz,Bool.false_eq_true,if_false]at h
   obtain⟨af,haf,h⟩:=bind_some h
   obtain⟨m,fn,c,hfn,hb,hcomp,hres,hname,hdst⟩:=hE.fs f af haf
   refine⟨⟨fn,c,hfn,hb,hname⟩,fun w0 w I0 I γ xs st hob hSh hfr hsz hrep=>?_⟩
   obtain⟨l,hx,hall⟩:=ji5 h
   refine je6 (callsIn_of_wp_marks (F:=FW none) (n:=0) hfn hb trivial ?_)
   have hnt:fn.ntmps≤(xs++Array.replicate (fn.ntmps - xs.size) undef).size:=by simp;omega
   have hR:R E w I (xs++Array.replicate (fn.ntmps - xs.size) undef).size γ I (X5 args ob (fun _=>false) ub base ub) { tmps:=xs++Array.replicate (fn.ntmps - xs.size) undef,defers:=[] } w:=by
    obtain⟨Ω,ho⟩:=hSh.own
    refine⟨rfl,trivial,fun t=>jlw hsz hrep t,⟨hSh.imm,hSh.gl,⟨Ω,⟨fun l o hl=>?_,fun u h=>(by cases h),ho.lt⟩⟩,⟨rfl,rfl,rfl,Nat.le_refl _,fun _ _ _=>rfl⟩,fun _ _ _=>rfl⟩⟩
    have hl':st.ob l=some o:=hob l o hl
    obtain⟨b,k,h1,h2,h3,h4,h5⟩:=ho.ob l o hl'
    refine⟨b,k,h1,h2,fun hro=>?_,h4.keep (fun l2 u2 ver' es' mb mk _ hl2=>.inl ⟨hob _ _ hl2,fun m c hm=>hm⟩),h5⟩
    rw[hfr _ hro]at h1
    cases h1
   refine jl8 hm ih n (y:=noY) (γ0:=γ) (Iy:=I) jjf c af.body m true none (.inr rfl) hcomp (jcf hnt _ hdst) w I _ _ l _ _ _ _ (SubG.refl _) (SubI.refl _) hx hR hfr (fun y hy=>?_)
   obtain⟨e,s⟩:=y
   intro γ' I' a' w' hR' hf' hg hI
   refine alone hres hR' (hall _ hy) (fun x τ I2 w2 h2 h3 h4 h5 h6 h7=>?_)
   exact⟨x,τ,I2,rfl,h2,fun b o x h=>h3 b o x (hI b o x h),h4,h5,h6,h7⟩
  ·simp only[callers]at h
   by_cases htw:E.tw f
   ·simp only[htw,if_true]at h
    obtain⟨args',ha,h⟩:=bind_some h
    obtain⟨r',h1,h2⟩:=bind_some h
    have hd:=(ih γ0 Iy noY jjf).d f args' r' h1
    obtain⟨⟨_,_,_,_⟩,h3,rfl⟩:=map_some h2
    exact⟨hd.1,j01 hd.2 ha h3⟩
   simp only[htw,Bool.false_eq_true,if_false]at h
   by_cases hst:E.srt f
   ·simp only[hst,if_true]at h
    obtain⟨⟨_,_,_,_⟩,h3,rfl⟩:=map_some h
    exact⟨(hE.srt f hst).1,j06 (hE.srt f hst) h3⟩
   simp only[hst,Bool.false_eq_true,if_false]at h
   obtain⟨af,haf,h⟩:=bind_some h
   obtain⟨m,fn,c,hfn,hb,hcomp,hres,hname,hdst⟩:=hE.fs f af haf
   refine⟨⟨fn,c,hfn,hb,hname⟩,fun w0 w I0 I γ xs st hg0 hI0 hob htk hro hSh hfr hsz hrep=>?_⟩
   obtain⟨l0,hx,h⟩:=bind_some h
   have h:l0.mapM (jof af.res)=some L:=by
    split at h
    ·exact h
    ·split at h
     ·obtain⟨r,h1,rfl⟩:=map_some h
      simp only[List.mapM_cons,h1,List.mapM_nil]
      rfl
     ·cases h
   refine je6 (callsIn_of_wp_marks (F:=FW none) (n:=0) hfn hb trivial ?_)
   have hnt:fn.ntmps≤(xs++Array.replicate (fn.ntmps - xs.size) undef).size:=by simp;omega
   have hR:R E w0 I0 (xs++Array.replicate (fn.ntmps - xs.size) undef).size γ I (X5 args ob tk ro base ub) { tmps:=xs++Array.replicate (fn.ntmps - xs.size) undef,defers:=[] } w :=
    ⟨rfl,trivial,fun t=>jlw hsz hrep t,hSh.congr hob.symm htk.symm hro.symm⟩
   refine jl8 hm ih n (y:=y) hy c af.body m true none (.inr rfl) hcomp (jcf hnt _ hdst) w0 I0 _ _ l0 _ _ _ _ hg0 hI0 hx hR hfr (fun z hz=>?_)
   have hro':=jh5 _ hx _ hz
   obtain⟨⟨r,ob',tk',ub'⟩,hrL,h⟩:=jxg h hz
   obtain⟨e,s⟩:=z
   intro γ' I' a' w' hR' hf' hg hI
   have hne:e=.nrm∨e=.ret:=by cases e <;> first|exact .inl rfl|exact .inr rfl|cases h
   have h':(if s.df.isEmpty then (af.res.mapM (jw s)).map fun l=>(match l with | [v]=>v|l=>.tup l,s.ob,s.tk,s.nx) else none)=some (r,ob',tk',ub'):=by rcases hne with rfl|rfl <;> exact h
   simp only[Option.ite_none_right_eq_some]at h'
   obtain⟨hde,h'⟩:=h'
   have hde:s.df=[]:=List.isEmpty_iff.1 hde
   have hdn:a'.defers=[]:=by
    have:=hR'.df
    simp only[hde]at this
    cases hds:a'.defers with
    | nil=>rfl
    | cons d ds=>rw[hds]at this;exact this.elim
   refine jcz hne ?_
   rw[hdn]
   obtain⟨vs,hvs,he⟩:=map_some h'
   obtain⟨ys,k1,k2,k3⟩:=jf5 hR' hres hvs
   simp only[Prod.mk.injEq]at he
   obtain⟨he,rfl,rfl,rfl⟩:=he
   refine⟨_,k2,_,hrL,_,γ',I',rfl,fun st' h1 h2 h3=>hR'.sh.congr h1 h2 (h3.trans hro'.symm),?_,hg,hI,hf'⟩
   match ys,vs,k1,k3,he with
   | [],[],_,_,rfl=>exact .tup _ _ rfl (fun j y u hy=>by simp at hy)
   | [y],[v],_,k3,rfl=>exact k3 0 y v rfl rfl
   | y::y'::ys,v::v'::vs,e,k3,rfl=>exact .tup _ _ (by simpa using e) (fun j z u hz hu=>k3 j z u (by simpa using hz) hu)
theorem Ev.sound (hm:P.follows .mixedOrders=true) (hE:EnvOk P E) {f:FuncId}{args:List V}{r:V}(h:Ev E f args r):jkj P E f args r:=by
 obtain⟨n,h⟩:=h
 exact((jgx hm hE n (fun _=>none) (fun _ _=>none) noY jjf).d f args r h).2
end
def EvO (E:Env) (f:FuncId) (args:List V) (ob:ZO) (tk:Nat→Bool) (base ub:Nat) (r:V):Prop:=∃n,(callers E n noY).o f args ob tk base ub=some r
def EvS (E:Env) (y:Nat→Y) (f:FuncId) (args:List V) (ob:ZO) (tk:Nat→Bool) (ro base ub:Nat) (r:V × (ZO) × (Nat→Bool) × Nat):Prop:=∃n,(callers E n (y n)).s f args ob tk ro base ub=some [r]
def EvSL (E:Env) (y:Nat→Y) (f:FuncId) (args:List V) (ob:ZO) (tk:Nat→Bool) (ro base ub:Nat) (Q:V × (ZO) × (Nat→Bool) × Nat→Prop):Prop:=∃n l,(callers E n (y n)).s f args ob tk ro base ub=some l∧l≠[]∧∀r∈l,Q r
theorem EvS.list {E:Env}{y:Nat→Y}{f:FuncId}{args:List V}{ob:ZO}{tk:Nat→Bool}{ro base ub:Nat}{Q:V × (ZO) × (Nat→Bool) × Nat→Prop}(h:∃r,EvS E y f args ob tk ro base ub r∧Q r):EvSL E y f args ob tk ro base ub Q:=by
 obtain⟨r,⟨n,h1⟩,h2⟩:=h
 exact⟨n,[r],h1,by simp,fun x hx=>by rw[List.mem_singleton]at hx;exact hx▸h2⟩
structure YF where
 y:Nat→Y
 mono:∀ {n m:Nat},n≤m→YLe (y n) (y m)
def YC:YF:=⟨fun _=>noY,fun _=>YLe.refl _⟩
def EvY (Yf:YF) (l u:Nat) (xs:List V) (ob:ZO) (tk:Nat→Bool) (ro ub:Nat) (r:V × (ZO) × (Nat→Bool) × Nat):Prop:=∃n,Yf.y n l u xs ob tk ro ub=some r
def WY (E:Env) (Yf:YF) (c:C) (st:St) (Q:Ex→St→Prop):Prop:=∃n l,ja E (callers E n) (Yf.y n) n c st=some l∧l≠[]∧∀x∈l,Q x.1 x.2
def Qk (E:Env) (f:FuncId) (xs:List V) (st:St) (dst:Option Nat) (ub:Nat) (K:St→Nat→Prop):Prop :=
 xs.all V.pureTop=true∧∃v,Ev E f xs v∧∃δ,YB ub v=some δ∧K (st.app dst δ) (ub+64)
def j8 (E:Env) (Yf:YF) (o:AOpr) (st:St) (ub:Nat) (K:St→Nat→Prop):Prop :=
 match wanted o st.tm with
 | none=>False
 | some false=>K { st with tm:=put st.tm o.dst jm } ub
 | some true=>match jj (eval E st.tm) o.op with
  | some (l,u,xs)=>∃r,EvY Yf l u xs st.ob st.tk st.ro ub r∧K { st with tm:=put st.tm o.dst r.1,ob:=r.2.1,tk:=r.2.2.1 } r.2.2.2
  | none=>match jD E o.nm (eval E st.tm) o.op with
   | some (f,xs)=>(E.sh o.nm f=true∧EvSL E Yf.y f xs st.ob st.tk st.ro ((st.fb+o.dst.getD 0+1)*1024) ub fun r=>K { st with tm:=put st.tm o.dst r.1,ob:=r.2.1,tk:=r.2.2.1 } r.2.2.2) ∨
    (E.sh o.nm f=false∧∃v,EvO E f xs st.ob st.tk ((st.fb+o.dst.getD 0+1)*1024) ub v∧∃δ,YB ub v=some δ∧K (st.app o.dst δ) (ub+64))
   | none=>match o.op with
    | .call f xs=>Qk E f (xs.map fun x=>(eval E st.tm x).strip) st o.dst ub K
    | .callV q xs=>∃f first captured,eval E st.tm q=.fn (.func f) first captured∧Qk E f ((first++xs.map (eval E st.tm)++captured).map V.strip) st o.dst ub K
    | .nextMap x=>∃l,jhl st.ob st.ro (eval E st.tm x)=some l∧∀δ∈l,K (st.app o.dst δ) (ub+64)
    | op=>∃δ,aop (fun _ _=>none) (eval E st.tm) st.ob st.tk st.ro (o.name st.fb ub) ub op=some δ∧K (st.app o.dst δ) (ub+64)
def Wn (E:Env) (Yf:YF):List AOpr→St→Nat→(St→Prop)→Prop
 | [],st,ub,K=>K { st with nx:=ub }
 | o::r,st,ub,K=>j8 E Yf o st ub fun st ub=>Wn E Yf r st ub K
def jF (E:Env):List AOpr→St→Nat→(List FP→St→Prop)→Prop
 | [],st,ub,K=>K [] { st with nx:=ub }
 | o::r,st,ub,K=>
  match wanted o st.tm with
  | none=>False
  | some false=>jF E r (st.app o.dst { v:=jm }) (ub+64) fun fs s=>K ({}::fs) s
  | some true=>match jD E o.nm (eval E st.tm) o.op with
   | some (f,xs)=>(E.sh o.nm f=false∧∃v,EvO E f xs st.ob st.tk ((st.fb+o.dst.getD 0+1)*1024) (ub+64*(r.length+1)) v∧∃δ,YB ub v=some δ ∧
    jF E r (st.app o.dst δ) (ub+64) fun fs s=>K ({ wt:=δ.wt,all:=true,seen:=fun l=>(st.ob l).isSome }::fs) s) ∨
    (E.sh o.nm f=true∧E.tw f=true∧∃a' v,xs.mapM (WE st.ob)=some a'∧Ev E f a' v∧∃δ,Qd (o.name st.fb ub) ub v=some δ ∧
    jF E r (st.app o.dst δ) (ub+64) fun fs s=>K ({ wo:=δ.wo,all:=true,seen:=fun l=>(st.ob l).isSome,nw:=true }::fs) s) ∨
    (E.sh o.nm f=true∧E.tw f=false∧∃δ,mkD E f xs (o.name st.fb ub) ub=some δ∧jF E r (st.app o.dst δ) (ub+64) fun fs s=>K ({ wo:=δ.wo,nw:=true }::fs) s)
   | none=>o.op.far=false∧match o.op with
    | .call f xs=>(xs.all fun x=>(eval E st.tm x).strip.pureTop)=true∧∃v,Ev E f (xs.map fun x=>(eval E st.tm x).strip) v∧∃δ,YB ub v=some δ∧jF E r (st.app o.dst δ) (ub+64) fun fs s=>K (jbe (eval E st.tm) o.op δ::fs) s
    | .callV q xs=>∃f first captured,eval E st.tm q=.fn (.func f) first captured∧((first++xs.map (eval E st.tm)++captured).map V.strip).all V.pureTop=true∧∃v,Ev E f ((first++xs.map (eval E st.tm)++captured).map V.strip) v∧∃δ,YB ub v=some δ ∧
     jF E r (st.app o.dst δ) (ub+64) fun fs s=>K (jbe (eval E st.tm) o.op δ::fs) s
    | op=>∃δ,aop (fun _ _=>none) (eval E st.tm) st.ob st.tk st.ro (o.name st.fb ub) ub op=some δ∧jF E r (st.app o.dst δ) (ub+64) fun fs s=>K (jbe (eval E st.tm) o.op δ::fs) s
def YN (W:St→(Ex→St→Prop)→Prop):Nat→St→(Ex→St→Prop)→Prop
 | 0,_,_=>False
 | n+1,st,Q=>W st fun e s=>match e with
  | .nrm=>YN W n s Q
  | e=>Q e s
def wpC (E:Env) (Yf:YF):C→St→(Ex→St→Prop)→Prop
 | .skip,st,Q=>Q .nrm st
 | .region ops,st,Q=>Wn E Yf ops st st.nx fun s=>Q .nrm s
 | .draw ops free,st,Q=>jF E ops st st.nx fun fs s=>Jo free fs=true∧jad fs=true∧Q .nrm s
 | .pin o fs,st,Q=>j8 E Yf o st st.nx fun s ub=>jF E fs s ub fun _ s'=>Yc fs st s'=true∧Q .nrm s'
 | .seq a b,st,Q=>wpC E Yf a st fun e s=>match e with
  | .nrm=>wpC E Yf b s Q
  | e=>Q e s
 | .cond c a b,st,Q=>∃t,eval E st.tm c=.bool t∧(t=true→wpC E Yf a st Q)∧(t=false→wpC E Yf b st Q)
 | .block id a,st,Q=>wpC E Yf a st fun e s=>match e with
  | .exit i=>if i=id then Q .nrm s else Q (.exit i) s
  | e=>Q e s
 | .loop a,st,Q=>∃N,YN (wpC E Yf a) N st Q
 | .exit id,st,Q=>Q (.exit id) st
 | .ret,st,Q=>Q .ret st
 | .rangeFunc f ps asg bd,st,Q=>WY E Yf (.rangeFunc f ps asg bd) st Q
 | .stuck,_,_=>False
theorem jbf (E:Env) (n:Nat) (y:Y):(callers E n y).d=(callers E n noY).d:=by cases n <;> rfl
theorem jka (E:Env) (n:Nat) (y:Y):(callers E n y).o=(callers E n noY).o:=by cases n <;> rfl
theorem ju2 (E:Env) (n:Nat) (y:Y):(callers E n y).y=y:=by cases n <;> rfl
section
variable {E:Env}{Yf:YF}
theorem jfp {α:Type}{p:α→Prop}{l m:List α}(h1:∀x∈l,p x) (h2:∀x∈m,p x):∀x∈l++m,p x:=fun x hx=>(List.mem_append.1 hx).elim (h1 x) (h2 x)
theorem QL {α β:Type}{f:Nat→α→Option (List β)}(hmono:∀n m,n≤m→∀a,le (f n a) (f m a)) {Q:β→Prop}:∀ (l:List α),l≠[]→(∀a∈l,∃n r,f n a=some r∧r≠[]∧∀x∈r,Q x) →
 ∃n r,(∀m,n≤m→Qt (f m) l=some r)∧r≠[]∧∀x∈r,Q x
 | [],h,_=>absurd rfl h
 | [x],_,h=>by
  obtain⟨n,r,h1,h2,h3⟩:=h x (List.mem_singleton.2 rfl)
  exact⟨n,r,fun m hm=>hmono n m hm x r h1,h2,h3⟩
 | x::y::l,_,h=>by
  obtain⟨n,r,h1,h2,h3⟩:=h x (List.mem_cons_self ..)
  obtain⟨n',r',h1',h2',h3'⟩:=QL hmono (y::l) (by simp) (fun a ha=>h a (List.mem_cons_of_mem _ ha))
  refine⟨max n n',r++r',fun m hm=>?_,by simp[h2],jfp h3 h3'⟩
  simp only[Qt]
  rw[hmono n m (by omega) x r h1,h1' m (by omega)]
  rfl
abbrev cs (E:Env) (n:Nat):Y→Callers:=callers E n
theorem X9 (n m:Nat) (h:n≤m):FLe (cs E n) (cs E m):=Jc n m h
theorem jrh {o:AOpr}{st:St}{ub:Nat}{K:St→Nat→Prop}(h:j8 E Yf o st ub K):∃n l,jcj E (cs E n (Yf.y n)) o st ub=some l∧l≠[]∧∀x∈l,K x.1 x.2:=by
 have one:∀ {s:St}{u:Nat},K s u→∀x∈[(s,u)],K x.1 x.2:=fun h x hx=>by rw[List.mem_singleton]at hx;subst hx;exact h
 unfold j8 at h
 unfold jcj
 cases hw:wanted o st.tm with
 | none=>simp only[hw]at h
 | some b=>
  cases b with
  | false=>
   simp only[hw]at h
   exact⟨0,_,rfl,List.cons_ne_nil _ _,one h⟩
  | true=>
   simp only[hw]at h
   cases hy:jj (eval E st.tm) o.op with
   | some x=>
    obtain⟨l,u,xs⟩:=x
    simp only[hy]at h
    obtain⟨r,⟨n,hr⟩,hK⟩:=h
    exact⟨n,[({ st with tm:=put st.tm o.dst r.1,ob:=r.2.1,tk:=r.2.2.1 },r.2.2.2)],by simp only[cs,ju2,hr,Option.map_some],List.cons_ne_nil _ _,one hK⟩
   | none=>
   simp only[hy]at h ⊢
   cases hsh:jD E o.nm (eval E st.tm) o.op with
   | some fx=>
    obtain⟨f,xs⟩:=fx
    simp only[hsh]at h
    rcases h with⟨h1,n,l,hr,hne,hK⟩|⟨h1,v,⟨n,hv⟩,δ,hδ,hK⟩
    ·refine⟨n,l.map fun x=>({ st with tm:=put st.tm o.dst x.1,ob:=x.2.1,tk:=x.2.2.1 },x.2.2.2),?_,by simpa using hne,fun x hx=>?_⟩
     ·simp only[h1,if_true,cs,hr,Option.map_some]
     ·obtain⟨r,hr2,rfl⟩:=List.mem_map.1 hx
      exact hK r hr2
    ·refine⟨n,[(st.app o.dst δ,ub+64)],?_,List.cons_ne_nil _ _,one hK⟩
     simp only[h1,Bool.false_eq_true,if_false,cs,jka,hv,Option.bind_some,hδ,Option.map_some]
   | none=>
    simp only[hsh]at h
    have call:∀ {f:FuncId}{xs:List V},Qk E f xs st o.dst ub K→∃n δ,jch (cs E n (Yf.y n)).d ub f xs=some δ∧K (st.app o.dst δ) (ub+64):=by
     rintro f xs ⟨hp,v,⟨n,hv⟩,δ,hδ,hK⟩
     exact⟨n,δ,by simp only[jch,hp,if_true,cs,jbf,hv,Option.bind_some,hδ],hK⟩
    split at h
    ·rename_i f xs ho
     obtain⟨n,δ,hc,hK⟩:=call h
     refine⟨n,[(st.app o.dst δ,ub+64)],?_,List.cons_ne_nil _ _,one hK⟩
     simp only[ho,AOp.next?,aop,hc,Option.map_some]
    ·rename_i q xs ho
     obtain⟨f,first,captured,hev,h⟩:=h
     obtain⟨n,δ,hc,hK⟩:=call h
     refine⟨n,[(st.app o.dst δ,ub+64)],?_,List.cons_ne_nil _ _,one hK⟩
     simp only[ho,AOp.next?,aop,hev,hc,Option.map_some]
    ·rename_i x ho
     obtain⟨l,hl,hK⟩:=h
     refine⟨0,l.map fun δ=>(st.app o.dst δ,ub+64),?_,?_,fun y hy=>?_⟩
     ·simp only[ho,AOp.next?,hl,Option.map_some]
     ·intro e
      have hl0:l=[]:=List.map_eq_nil_iff.1 e
      subst hl0
      unfold jhl at hl
      split at hl
      ·split at hl
       ·split at hl
        ·split at hl
         ·cases hl
         ·rename_i es hne
          simp only[Option.some.injEq]at hl
          unfold ji2 at hl
          split at hl
          ·exact hne rfl
          ·cases hl
        ·cases hl
       ·split at hl
        ·cases hl
        ·cases hl
       ·cases hl
      ·cases hl
     ·obtain⟨δ,hδ,rfl⟩:=List.mem_map.1 hy
      exact hK δ hδ
    ·rename_i op h1 h2 h3
     obtain⟨δ,hδ,hK⟩:=h
     refine⟨0,[(st.app o.dst δ,ub+64)],?_,List.cons_ne_nil _ _,one hK⟩
     have hn:o.op.next? = none:=by
      cases ho:o.op with
      | nextMap x=>exact absurd ho (h3 x)
      | _=>rfl
     have hδ':aop (cs E 0 (Yf.y 0)).d (eval E st.tm) st.ob st.tk st.ro (o.name st.fb ub) ub o.op=some δ:=jbj (fun _ _ _ h=>by cases h) _ _ _ _ _ _ _ _ hδ
     simp only[hn,hδ',Option.map_some]
theorem jzs:∀ {ops:List AOpr}{st:St}{ub:Nat}{K:St→Prop},Wn E Yf ops st ub K→∃n l,jhh E (cs E n (Yf.y n)) ops st ub=some l∧l≠[]∧∀x∈l,K x
 | [],st,ub,K,h=>⟨0,_,rfl,List.cons_ne_nil _ _,fun x hx=>by rw[List.mem_singleton]at hx;subst hx;exact h⟩
 | o::r,st,ub,K,h=>by
  obtain⟨n,l,h1,h2,h3⟩:=jrh h
  obtain⟨n',l',h1',h2',h3'⟩:=QL (f:=fun n (x:St × Nat)=>jhh E (cs E n (Yf.y n)) r x.1 x.2) (fun n m hm x=>jeh (X9 n m hm _ _ (Yf.mono hm)) r x.1 x.2) l h2 (fun x hx=>jzs (h3 x hx))
  refine⟨max n n',l',?_,h2',h3'⟩
  simp only[jhh,bindL]
  rw[jao (X9 n (max n n') (by omega) _ _ (Yf.mono (by omega))) o st ub l h1]
  exact h1' _ (by omega)
theorem jah:∀ {ops:List AOpr}{st:St}{ub:Nat}{K:List FP→St→Prop},jF E ops st ub K→∃n p,Y8 E (cs E n (Yf.y n)) ops st ub=some p∧K p.1 p.2
 | [],st,ub,K,h=>⟨0,_,rfl,h⟩
 | o::r,st,ub,K,h=>by
  unfold jF at h
  unfold Y8
  cases hw:wanted o st.tm with
  | none=>simp only[hw]at h
  | some b=>
   cases b with
   | false=>
    simp only[hw]at h
    obtain⟨n,p,h1,h2⟩:=jah h
    exact⟨n,({}::p.1,p.2),by simp only[h1,Option.map_some],h2⟩
   | true=>
    simp only[hw]at h
    simp only
    cases hsh:jD E o.nm (eval E st.tm) o.op with
    | some fx=>
     obtain⟨f,xs⟩:=fx
     simp only[hsh]at h
     rcases h with h|⟨h0,htw,a',v,ha',⟨n,hv⟩,δ,hδ,h⟩|⟨h0,htw,δ,hδ,h⟩
     case inr.inr=>
      obtain⟨n',p,h1,h2⟩:=jah h
      refine⟨n',({ wo:=δ.wo,nw:=true }::p.1,p.2),?_,h2⟩
      simp only[h0,htw,if_true,Bool.false_eq_true,if_false,hδ,Option.bind_some,h1,Option.map_some]
     case inr.inl=>
      obtain⟨n',p,h1,h2⟩:=jah h
      refine⟨max n n',({ wo:=δ.wo,all:=true,seen:=fun l=>(st.ob l).isSome,nw:=true }::p.1,p.2),?_,h2⟩
      have hv':(cs E n (Yf.y n)).d f a'=some v:=by rw[cs,jbf];exact hv
      simp only[h0,htw,if_true,ha',Option.bind_some]
      rw[(X9 n (max n n') (by omega) _ _ (Yf.mono (by omega))).d _ _ _ hv']
      simp only[Option.bind_some,hδ]
      rw[JW (X9 n' (max n n') (by omega) _ _ (Yf.mono (by omega))) _ _ _ _ h1]
      rfl
     obtain⟨h0,v,⟨n,hv⟩,δ,hδ,h⟩:=h
     obtain⟨n',p,h1,h2⟩:=jah h
     refine⟨max n n',({ wt:=δ.wt,all:=true,seen:=fun l=>(st.ob l).isSome }::p.1,p.2),?_,h2⟩
     simp only[h0,Bool.false_eq_true,if_false]
     have hv':(cs E n (Yf.y n)).o f xs st.ob st.tk ((st.fb+o.dst.getD 0+1)*1024) (ub+64*(r.length+1))=some v:=by rw[cs,jka];exact hv
     rw[(X9 n (max n n') (by omega) _ _ (Yf.mono (by omega))).o _ _ _ _ _ _ _ hv']
     simp only[Option.bind_some,hδ]
     rw[JW (X9 n' (max n n') (by omega) _ _ (Yf.mono (by omega))) _ _ _ _ h1]
     rfl
    | none=>
     simp only[hsh]at h
     obtain⟨hfar,h⟩:=h
     simp only[hfar,Bool.false_eq_true,if_false]
     have fin:∀ {n:Nat}{δ:Delta},aop (cs E n (Yf.y n)).d (eval E st.tm) st.ob st.tk st.ro (o.name st.fb ub) ub o.op=some δ→jF E r (st.app o.dst δ) (ub+64) (fun fs s=>K (jbe (eval E st.tm) o.op δ::fs) s) →
      ∃n p,((aop (cs E n (Yf.y n)).d (eval E st.tm) st.ob st.tk st.ro (o.name st.fb ub) ub o.op).bind fun δ=>(Y8 E (cs E n (Yf.y n)) r (st.app o.dst δ) (ub+64)).map fun x=>(jbe (eval E st.tm) o.op δ::x.1,x.2))=some p∧K p.1 p.2:=by
      intro n δ hδ h
      obtain⟨n',p,h1,h2⟩:=jah h
      refine⟨max n n',(jbe (eval E st.tm) o.op δ::p.1,p.2),?_,h2⟩
      rw[jbj (X9 n (max n n') (by omega) _ _ (Yf.mono (by omega))).d _ _ _ _ _ _ _ _ hδ,Option.bind_some,JW (X9 n' (max n n') (by omega) _ _ (Yf.mono (by omega))) _ _ _ _ h1]
      rfl
     split at h
     ·rename_i f xs ho
      obtain⟨hp,v,⟨n,hv⟩,δ,hδ,h⟩:=h
      refine fin (n:=n) (δ:=δ) ?_ h
      have hp':(xs.map fun x=>(eval E st.tm x).strip).all V.pureTop=true:=by rw[List.all_map];exact hp
      simp only[ho,aop,jch,hp',if_true,cs,jbf,hv,Option.bind_some,hδ]
     ·rename_i q xs ho
      obtain⟨f,first,captured,hev,hp,v,⟨n,hv⟩,δ,hδ,h⟩:=h
      refine fin (n:=n) (δ:=δ) ?_ h
      simp only[ho,aop,hev,jch,hp,if_true,cs,jbf,hv,Option.bind_some,hδ]
     ·obtain⟨δ,hδ,h⟩:=h
      exact fin (n:=0) (jbj (fun _ _ _ h=>by cases h) _ _ _ _ _ _ _ _ hδ) h
theorem j0m:∀ {c:C}{st:St}{Q:Ex→St→Prop},wpC E Yf c st Q→WY E Yf c st Q:=by
 intro c
 induction c with
 | skip=>intro st Q h;exact⟨0,_,rfl,by simp,fun x hx=>by rw[List.mem_singleton]at hx;subst hx;exact h⟩
 | ret=>intro st Q h;exact⟨0,_,rfl,by simp,fun x hx=>by rw[List.mem_singleton]at hx;subst hx;exact h⟩
 | exit id=>intro st Q h;exact⟨0,_,rfl,by simp,fun x hx=>by rw[List.mem_singleton]at hx;subst hx;exact h⟩
 | stuck=>intro st Q h;exact h.elim
 | rangeFunc f ps a b=>intro st Q h;exact h
 | region ops=>
  intro st Q h
  obtain⟨n,l,h1,h2,h3⟩:=jzs h
  refine⟨n,l.map fun s=>(.nrm,s),by simp only[ja];rw[h1];rfl,by simpa using h2,fun x hx=>?_⟩
  obtain⟨s,hs,rfl⟩:=List.mem_map.1 hx
  exact h3 s hs
 | pin o fs=>
  intro st Q h
  obtain⟨n,l,h1,h2,h3⟩:=jrh h
  obtain⟨n',l',h1',h2',h3'⟩:=QL (f:=fun n (x:St × Nat)=>(Y8 E (cs E n (Yf.y n)) fs x.1 x.2).bind fun p=>if Yc fs st p.2 then some [(Ex.nrm,p.2)] else none) (Q:=fun x=>Q x.1 x.2) (fun n m hm x=>(JW (X9 n m hm _ _ (Yf.mono hm)) fs x.1 x.2).bind fun _=>le.rfl' _) l h2 (fun x hx=>by
   obtain⟨k,p,hp,hs,hQ⟩:=jah (h3 x hx)
   exact⟨k,[(.nrm,p.2)],by rw[hp,Option.bind_some,if_pos hs],List.cons_ne_nil _ _,fun y hy=>by rw[List.mem_singleton]at hy;subst hy;exact hQ⟩)
  refine⟨max n n',l',?_,h2',h3'⟩
  simp only[ja,bindL]
  rw[jao (X9 n (max n n') (by omega) _ _ (Yf.mono (by omega))) o st st.nx l h1]
  exact h1' _ (by omega)
 | draw ops free=>
  intro st Q h
  obtain⟨n,p,h1,h2,h2',h3⟩:=jah h
  refine⟨n,[(.nrm,p.2)],?_,by simp,fun x hx=>by rw[List.mem_singleton]at hx;subst hx;exact h3⟩
  simp only[ja]
  rw[h1]
  simp only[Option.bind_some,h2,h2',Bool.and_self,if_true]
 | seq a b iha ihb=>
  intro st Q h
  obtain⟨n,l,h1,h2,h3⟩:=iha h
  obtain⟨n',l',h1',h2',h3'⟩:=QL (f:=fun n (x:Ex × St)=>match x with
   | (.nrm,st')=>ja E (cs E n) (Yf.y n) n b st'
   | (e,st')=>some [(e,st')]) (Q:=fun x=>Q x.1 x.2) (fun n m hm x=>by
    obtain⟨e,s⟩:=x
    cases e
    ·exact jf (X9 n m hm) hm b _ _ (Yf.mono hm) s
    ·exact le.rfl' _
    ·exact le.rfl' _) l h2 (fun x hx=>by
    obtain⟨e,s⟩:=x
    have:=h3 _ hx
    cases e with
    | nrm=>exact ihb this
    | exit i=>exact⟨0,_,rfl,by simp,fun x hx=>by rw[List.mem_singleton]at hx;subst hx;exact this⟩
    | ret=>exact⟨0,_,rfl,by simp,fun x hx=>by rw[List.mem_singleton]at hx;subst hx;exact this⟩)
  refine⟨max n n',l',?_,h2',h3'⟩
  simp only[ja,bindL]
  rw[jf (X9 n (max n n') (by omega)) (by omega) a _ _ (Yf.mono (by omega)) st l h1]
  exact h1' _ (by omega)
 | cond q a b iha ihb=>
  intro st Q h
  obtain⟨t,ht,h1,h2⟩:=h
  cases t with
  | true=>
   obtain⟨n,l,k1,k2,k3⟩:=iha (h1 rfl)
   exact⟨n,l,by simp only[ja,ht];exact k1,k2,k3⟩
  | false=>
   obtain⟨n,l,k1,k2,k3⟩:=ihb (h2 rfl)
   exact⟨n,l,by simp only[ja,ht];exact k1,k2,k3⟩
 | block id a ih=>
  intro st Q h
  obtain⟨n,l,h1,h2,h3⟩:=ih h
  refine⟨n,_,by simp only[ja];rw[h1];rfl,by simpa using h2,fun x hx=>?_⟩
  obtain⟨p,hp,rfl⟩:=List.mem_map.1 hx
  have:=h3 p hp
  obtain⟨e,s⟩:=p
  cases e with
  | nrm=>exact this
  | ret=>exact this
  | exit i=>
   simp only at this ⊢
   split at this
   ·rename_i hi;simp only[hi,if_true];exact this
   ·rename_i hi;simp only[hi,if_false];exact this
 | loop a ih=>
  intro st Q h
  obtain⟨N,h⟩:=h
  have key:∀ (N:Nat) (st:St),YN (wpC E Yf a) N st Q→∃n l,(∀m k,n≤m→n≤k→ja5 (ja E (cs E m) (Yf.y m) m a) k st=some l)∧l≠[]∧∀x∈l,Q x.1 x.2:=by
   intro N
   induction N with
   | zero=>intro st h;exact h.elim
   | succ N ihN=>
    intro st h
    obtain⟨n,l,h1,h2,h3⟩:=ih h
    obtain⟨n',l',h1',h2',h3'⟩:=QL (f:=fun n (x:Ex × St)=>match x with
     | (.nrm,st')=>ja5 (ja E (cs E n) (Yf.y n) n a) n st'
     | (e,st')=>some [(e,st')]) (Q:=fun x=>Q x.1 x.2) (fun n m hm x=>by
      obtain⟨e,s⟩:=x
      cases e
      ·exact QR (fun s=>jf (X9 n m hm) hm a _ _ (Yf.mono hm) s) n m hm s
      ·exact le.rfl' _
      ·exact le.rfl' _) l h2 (fun x hx=>by
      obtain⟨e,s⟩:=x
      have:=h3 _ hx
      cases e with
      | nrm=>
       obtain⟨k,r,q1,q2,q3⟩:=ihN s this
       exact⟨k,r,q1 k k (Nat.le_refl _) (Nat.le_refl _),q2,q3⟩
      | exit i=>exact⟨0,_,rfl,by simp,fun x hx=>by rw[List.mem_singleton]at hx;subst hx;exact this⟩
      | ret=>exact⟨0,_,rfl,by simp,fun x hx=>by rw[List.mem_singleton]at hx;subst hx;exact this⟩)
    refine⟨max n n'+1,l',fun m k hm hk=>?_,h2',h3'⟩
    obtain⟨k,rfl⟩:∃k',k=k'+1:=⟨k - 1,by omega⟩
    simp only[ja5,bindL]
    rw[jf (X9 n m (by omega)) (by omega) a _ _ (Yf.mono (by omega)) st l h1]
    have e1:=h1' (max n n') (by omega)
    refine jai (fun x=>?_) l l' e1
    obtain⟨e,s⟩:=x
    cases e
    ·exact QR (fun s=>jf (X9 _ m (by omega)) (by omega) a _ _ (Yf.mono (by omega)) s) _ k (by omega) s
    ·exact le.rfl' _
    ·exact le.rfl' _
  obtain⟨n,l,h1,h2,h3⟩:=key N st h
  exact⟨n,l,h1 n n (Nat.le_refl _) (Nat.le_refl _),h2,h3⟩
theorem Ev_wp {f:FuncId}{af:AF}{args:List V}{r:V}(hf:E.fc f=some af) (h:wpC E YC af.body (Qf args) fun e s=>jce af.res (e,s)=some r):Ev E f args r:=Ev_of hf (j0m h)
theorem WM {o:AOpr}{st:St}{ub:Nat}{K K':St→Nat→Prop}(h:∀s u,K s u→K' s u) (hk:j8 E Yf o st ub K):j8 E Yf o st ub K':=by
 have call:∀ {f:FuncId}{xs:List V},Qk E f xs st o.dst ub K→Qk E f xs st o.dst ub K':=by
  rintro f xs ⟨hp,v,hv,δ,hδ,hK⟩
  exact⟨hp,v,hv,δ,hδ,h _ _ hK⟩
 unfold j8 at hk ⊢
 cases hw:wanted o st.tm with
 | none=>simp only[hw]at hk
 | some b=>
  cases b with
  | false=>simp only[hw]at hk ⊢;exact h _ _ hk
  | true=>
   simp only[hw]at hk ⊢
   cases hy:jj (eval E st.tm) o.op with
   | some x=>
    obtain⟨l,u,xs⟩:=x
    simp only[hy]at hk ⊢
    obtain⟨r,hr,hK⟩:=hk
    exact⟨r,hr,h _ _ hK⟩
   | none=>
   simp only[hy]at hk ⊢
   cases hsh:jD E o.nm (eval E st.tm) o.op with
   | some fx=>
    simp only[hsh]at hk ⊢
    rcases hk with⟨h1,n,l,hr,hne,hK⟩|⟨h1,v,hv,δ,hδ,hK⟩
    ·exact .inl ⟨h1,n,l,hr,hne,fun r hm=>h _ _ (hK r hm)⟩
    ·exact .inr ⟨h1,v,hv,δ,hδ,h _ _ hK⟩
   | none=>
    simp only[hsh]at hk ⊢
    cases ho:o.op <;> simp only[ho]at hk ⊢
    case call f xs=>exact call hk
    case callV q xs=>
     obtain⟨f,first,captured,hev,hk⟩:=hk
     exact⟨f,first,captured,hev,call hk⟩
    case nextMap x=>
     obtain⟨l,hl,hK⟩:=hk
     exact⟨l,hl,fun δ hδ=>h _ _ (hK δ hδ)⟩
    all_goals
     obtain⟨δ,hδ,hK⟩:=hk
     exact⟨δ,hδ,h _ _ hK⟩
theorem jbo:∀ {ops:List AOpr}{st:St}{ub:Nat}{K K':St→Prop},(∀s,K s→K' s)→Wn E Yf ops st ub K→Wn E Yf ops st ub K'
 | [],_,_,_,_,h,hk=>h _ hk
 | _::_,_,_,_,_,h,hk=>WM (fun _ _=>jbo h) hk
theorem jz:∀ {ops:List AOpr}{st:St}{ub:Nat}{K K':List FP→St→Prop},(∀f s,K f s→K' f s)→jF E ops st ub K→jF E ops st ub K'
 | [],_,_,_,_,h,hk=>h _ _ hk
 | o::r,st,ub,K,K',h,hk=>by
  unfold jF at hk ⊢
  cases hw:wanted o st.tm with
  | none=>simp only[hw]at hk
  | some b=>
   cases b with
   | false=>simp only[hw]at hk ⊢;exact jz (fun _ _=>h _ _) hk
   | true=>
    simp only[hw]at hk ⊢
    cases hsh:jD E o.nm (eval E st.tm) o.op with
    | some fx=>
     simp only[hsh]at hk ⊢
     rcases hk with⟨h1,v,hv,δ,hδ,hK⟩|⟨h1,h2,a',v,ha,hv,δ,hδ,hK⟩|⟨h1,h2,δ,hδ,hK⟩
     ·exact .inl ⟨h1,v,hv,δ,hδ,jz (fun _ _=>h _ _) hK⟩
     ·exact .inr (.inl ⟨h1,h2,a',v,ha,hv,δ,hδ,jz (fun _ _=>h _ _) hK⟩)
     ·exact .inr (.inr ⟨h1,h2,δ,hδ,jz (fun _ _=>h _ _) hK⟩)
    | none=>
     simp only[hsh]at hk ⊢
     refine⟨hk.1,?_⟩
     have hk:=hk.2
     cases ho:o.op <;> simp only[ho]at hk ⊢
     case call f xs=>
      obtain⟨h1,v,hv,δ,hδ,hK⟩:=hk
      exact⟨h1,v,hv,δ,hδ,jz (fun _ _=>h _ _) hK⟩
     case callV q xs=>
      obtain⟨f,first,captured,hev,h1,v,hv,δ,hδ,hK⟩:=hk
      exact⟨f,first,captured,hev,h1,v,hv,δ,hδ,jz (fun _ _=>h _ _) hK⟩
     all_goals
      obtain⟨δ,hδ,hK⟩:=hk
      exact⟨δ,hδ,jz (fun _ _=>h _ _) hK⟩
theorem Qu {W:St→(Ex→St→Prop)→Prop}(hW:∀ (st:St) (Q Q':Ex→St→Prop),(∀e s,Q e s→Q' e s)→W st Q→W st Q'):∀ {n:Nat}{st:St}{Q Q':Ex→St→Prop},(∀e s,Q e s→Q' e s)→YN W n st Q→YN W n st Q'
 | 0,_,_,_,_,h=>h
 | n+1,st,Q,Q',h,hk=>hW st _ _ (fun e s he=>by
  cases e
  ·exact Qu (W:=W) hW h he
  ·exact h _ _ he
  ·exact h _ _ he) hk
theorem Jz:∀ {c:C}{st:St}{Q Q':Ex→St→Prop},(∀e s,Q e s→Q' e s)→wpC E Yf c st Q→wpC E Yf c st Q':=by
 intro c
 induction c with
 | skip=>intro st Q Q' h hk;exact h _ _ hk
 | ret=>intro st Q Q' h hk;exact h _ _ hk
 | exit id=>intro st Q Q' h hk;exact h _ _ hk
 | stuck=>intro st Q Q' h hk;exact hk
 | rangeFunc f ps a b=>intro st Q Q' h hk;obtain⟨n,l,h1,h2,h3⟩:=hk;exact⟨n,l,h1,h2,fun x hx=>h _ _ (h3 x hx)⟩
 | region ops=>intro st Q Q' h hk;exact jbo (fun s=>h _ s) hk
 | draw ops free=>intro st Q Q' h hk;exact jz (fun f s hs=>⟨hs.1,hs.2.1,h _ _ hs.2.2⟩) hk
 | pin o fs=>intro st Q Q' h hk;exact WM (fun s u hs=>jz (fun f s hs=>⟨hs.1,h _ _ hs.2⟩) hs) hk
 | seq a b iha ihb=>
  intro st Q Q' h hk
  refine iha (fun e s he=>?_) hk
  cases e
  ·exact ihb h he
  ·exact h _ _ he
  ·exact h _ _ he
 | cond q a b iha ihb=>
  intro st Q Q' h hk
  obtain⟨t,ht,h1,h2⟩:=hk
  exact⟨t,ht,fun e=>iha h (h1 e),fun e=>ihb h (h2 e)⟩
 | block id a ih=>
  intro st Q Q' h hk
  refine ih (fun e s he=>?_) hk
  cases e
  ·exact h _ _ he
  ·simp only at he ⊢
   split at he
   ·rename_i hi;simp only[hi,if_true];exact h _ _ he
   ·rename_i hi;simp only[hi,if_false];exact h _ _ he
  ·exact h _ _ he
 | loop a ih=>
  intro st Q Q' h hk
  obtain⟨N,hk⟩:=hk
  exact⟨N,Qu (W:=wpC E Yf a) (fun _ _ _ h hk=>ih h hk) h hk⟩
theorem j0n {a:C}{Q:Ex→St→Prop}(I:Nat→St→Prop) {n:Nat}{st:St}(h0:I n st)
 (hs:∀k s,I k s→wpC E Yf a s fun e s'=>match e with|.nrm=>∃j,j<k∧I j s'|e=>Q e s'):wpC E Yf (.loop a) st Q:=by
 refine⟨n+1,?_⟩
 have key:∀n st j,j≤n→I j st→YN (wpC E Yf a) (n+1) st Q:=by
  intro n
  induction n with
  | zero=>
   intro st j hj hI
   refine Jz (fun e s he=>?_) (hs j st hI)
   cases e
   ·obtain⟨i,hi,_⟩:=he;omega
   ·exact he
   ·exact he
  | succ n ih=>
   intro st j hj hI
   refine Jz (fun e s he=>?_) (hs j st hI)
   cases e
   ·obtain⟨i,hi,hI'⟩:=he
    exact ih s i (by omega) hI'
   ·exact he
   ·exact he
 exact key n st n (Nat.le_refl _) h0
end
def Qv:V→Bool→Prop→Prop→Prop
 | .bool c,b,p,q=>(c=b→p)∧(c = !b→q)
 | .tup [],_,_,q=>q
 | _,_,_,_=>False
def wpIf:V→Prop→Prop→Prop
 | .bool c,p,q=>(c=true→p)∧(c=false→q)
 | _,_,_=>False
def wpV (o:Option V) (k:V→Prop):Prop:=∃v,o=some v∧k v
def wpD (o:Option Delta) (k:Delta→Prop):Prop:=∃v,o=some v∧k v
theorem jmm (v:V) (k:V→Prop):wpV (some v) k=k v:=by simp[wpV]
theorem jmn (k:V→Prop):wpV none k=False:=by simp[wpV]
theorem j0o (c:Prop) [Decidable c] (o:Option V) (k:V→Prop):wpV (if c then o else none) k=(c∧wpV o k):=by by_cases h:c <;> simp[h,wpV]
theorem jvl (c:Prop) [Decidable c] (o:Option V) (k:V→Prop):wpV (if c then none else o) k=(¬ c∧wpV o k):=by by_cases h:c <;> simp[h,wpV]
theorem jM (v:Delta) (k:Delta→Prop):wpD (some v) k=k v:=by simp[wpD]
theorem jak (k:Delta→Prop):wpD none k=False:=by simp[wpD]
theorem jdq (c:Prop) [Decidable c] (o:Option Delta) (k:Delta→Prop):wpD (if c then o else none) k=(c∧wpD o k):=by by_cases h:c <;> simp[h,wpD]
theorem jvx (c:Prop) [Decidable c] (o:Option Delta) (k:Delta→Prop):wpD (if c then none else o) k=(¬ c∧wpD o k):=by by_cases h:c <;> simp[h,wpD]
def St.setT (st:St) (d:Option Nat) (v:V):St:={ st with tm:=put st.tm d v }
theorem Qj (st:St) (d:Option Nat) (v:V):st.app d { v:=v } = st.setT d v:=by simp[St.app,JK,XT,St.setT]
theorem j1a (st:St) (d n:Nat) (v:V):(st.setT (some d) v).tm n=if n=d then v else st.tm n:=by simp[St.setT,put,j5]
theorem jwe (st:St) (n:Nat) (v:V):(st.setT none v).tm n=st.tm n:=rfl
theorem YP (st:St) (d:Option Nat) (v:V):(st.setT d v).ob=st.ob:=rfl
theorem jkx (st:St) (d:Option Nat) (v:V):(st.setT d v).tk=st.tk:=rfl
theorem j1b (st:St) (d:Option Nat) (v:V):(st.setT d v).ro=st.ro:=rfl
theorem j1c (st:St) (d:Option Nat) (v:V):(st.setT d v).nx=st.nx:=rfl
theorem j1d (st:St) (d:Option Nat) (v:V):(st.setT d v).fb=st.fb:=rfl
theorem j1e (st:St) (d:Option Nat) (v:V):(st.setT d v).df=st.df:=rfl
def St.setN (st:St) (n:Nat):St:={ st with nx:=n }
theorem jky (st:St) (n:Nat):(st.setN n).tm=st.tm:=rfl
theorem JD (st:St) (n:Nat):(st.setN n).ob=st.ob:=rfl
theorem jrr (st:St) (n:Nat):(st.setN n).tk=st.tk:=rfl
theorem j1f (st:St) (n:Nat):(st.setN n).ro=st.ro:=rfl
theorem jg7 (st:St) (n:Nat):(st.setN n).nx=n:=rfl
theorem j1g (st:St) (n:Nat):(st.setN n).fb=st.fb:=rfl
theorem j1h (st:St) (n:Nat):(st.setN n).df=st.df:=rfl
theorem jkc (st:St) (d n:Nat) (δ:Delta):(st.app (some d) δ).tm n=if n=d then δ.v else st.tm n:=by simp[St.app,put,j5]
theorem j4f (st:St) (n:Nat) (δ:Delta):(st.app none δ).tm n=st.tm n:=rfl
theorem app_ro (st:St) (d:Option Nat) (δ:Delta):(st.app d δ).ro=st.ro:=rfl
theorem app_nx (st:St) (d:Option Nat) (δ:Delta):(st.app d δ).nx=st.nx:=rfl
theorem app_fb (st:St) (d:Option Nat) (δ:Delta):(st.app d δ).fb=st.fb:=rfl
theorem app_df (st:St) (d:Option Nat) (δ:Delta):(st.app d δ).df=st.df:=rfl
theorem app_ob (st:St) (d:Option Nat) (v:V) (del:Option Nat) (add:List Nat):(st.app d { v:=v,del:=del,add:=add }).ob=st.ob:=by simp[St.app,JK]
theorem jv (st:St) (d:Option Nat) (δ:Delta) (u:Nat):(st.app d δ).tk u=if u∈δ.add then true else if u∈δ.del.toList then false else st.tk u:=by simp only[St.app,Qw]
theorem Jy (st:St) (d:Option Nat) (v:V) (l k:Nat) (o:Obj') (add:List Nat):(st.app d { v:=v,obs:=[(l,o)],add:=add }).ob k=if k=l then some o else st.ob k:=by simp[St.app,JK,j5]
theorem jv3 (args:List V) (n:Nat):(Qf args).tm n=args.getD n jm:=rfl
theorem jv6 (args:List V) (n:Nat):(Qf args).ob n=none:=rfl
theorem jv4 (args:List V) (n:Nat):(Qf args).tk n=false:=rfl
theorem jv5 (args:List V):(Qf args).ro=0:=rfl
theorem jv7 (args:List V):(Qf args).nx=0:=rfl
theorem jv8 (args:List V):(Qf args).fb=0:=rfl
theorem jv9 (args:List V):(Qf args).df=[]:=rfl
theorem eval_t (E:Env) (tm:Nat→V) (n:Nat):eval E tm (.t n)=tm n:=rfl
theorem eval_c (E:Env) (tm:Nat→V) (v:V):eval E tm (.c v)=v:=rfl
def jws:V→V→V→Option V
 | .bool t,a,b=>some (cond t a b)
 | _,_,_=>none
theorem jpa (t:Bool) (a b:V):jws (.bool t) a b=some (cond t a b):=rfl
def Qh (ob:ZO) (g:Option Nat):V→Option V
 | .eptr cs off=>YH g cs off
 | .ptr l u off=>(j1 ob l u).bind fun cs=>YH g cs off
 | _=>none
theorem jb4 (ob:ZO) (g:Option Nat) (cs:List V) (off:Nat):Qh ob g (.eptr cs off)=YH g cs off:=rfl
theorem j2d (ob:ZO) (g:Option Nat) (l u off:Nat):Qh ob g (.ptr l u off)=(j1 ob l u).bind fun cs=>YH g cs off:=rfl
def ja2:V→Option V
 | .ptr l u o=>some (.ptr l u o)
 | .eptr cs o=>some (.eptr cs o)
 | .fn (.func f) a b=>some (.fn (.func f) a b)
 | _=>none
def WG (off:Nat):V→Option V
 | .ptr l u o=>some (.ptr l u (o+off))
 | .eptr cs o=>some (.eptr cs (o+off))
 | _=>none
def Jn (sz:Nat):V→V→Option V
 | .sl _ _ n cs,.int _ i=>if 0≤i∧i<n∧cs.length=n*sz then some (.eptr cs (i.toNat*sz)) else none
 | .osl l u off n sz',.int _ i=>if 0≤i∧i<n∧sz'=sz then some (.ptr l u (off+i.toNat*sz)) else none
 | _,_=>none
def QE (len sz:Nat):V→V→Option V
 | .ptr l u off,.int _ i=>if 0≤i∧i<len then some (.ptr l u (off+i.toNat*sz)) else none
 | .eptr cs off,.int _ i=>if 0≤i∧i<len then some (.eptr cs (off+i.toNat*sz)) else none
 | _,_=>none
def j1y (g:Option Nat) (off:Nat):V→Option V
 | .agg cs=>YH g cs off
 | _=>none
def QD:V→V→Option V
 | .str s,.int _ i=>if 0≤i then (s[i.toNat]?).map fun b=>.int .u8 b.toNat else none
 | _,_=>none
def jey (g:Option Nat) (len sz:Nat):V→V→Option V
 | .agg cs,.int _ i=>if 0≤i∧i<len then YH g cs (i.toNat*sz) else none
 | _,_=>none
def XZ (lo hi:Option V):V→Option V
 | .str s=>(X6 s.length s.length lo hi).map fun(l,h)=>.str ((s.take h).drop l)
 | _=>none
def jaq (sz:Nat) (lo hi:Option V):V→Option V
 | .sl _ nl n cs=>if cs.length=n*sz then (X6 n n lo hi).map fun(l,h)=>.sl none nl (h - l) ((cs.take (h*sz)).drop (l*sz)) else none
 | .osl a u off n sz'=>if sz'=sz then (X6 n n lo hi).map fun(l,h)=>.osl a u (off+l*sz) (h - l) sz else none
 | _=>none
def jht:V→Option V
 | .str s=>some (.int .i64 s.length)
 | _=>none
def Q7:V→Option V
 | .sl _ _ n _=>some (.int .i64 n)
 | .osl _ _ _ n _=>some (.int .i64 n)
 | _=>none
def jhu (ob:ZO):V→Option V
 | .nilmap=>some (.int .i64 0)
 | .map l u=>(jR ob l u).map fun es=>.int .i64 es.length
 | _=>none
def jdk (i:Nat):V→Option V
 | .tup vs=>vs[i]?
 | _=>none
def XY (k:IntKind):V→Option V
 | .int _ n=>some (.int k (k.wrap n))
 | _=>none
def jbx (isMax:Bool):List V→Option V
 | []=>none
 | x::r=>Q6 isMax x r
def jvj (ob:ZO) (neg:Bool) (k:EqK) (x y:V):Option V :=
 match k,x,y with
 | .ptr,.ptr l u off,.ptr l' u' off'=>if (j1 ob l u).isSome && (j1 ob l' u').isSome then some (.bool (xor neg (Nat.beq l l' && Nat.beq off off'))) else none
 | k,a,b=>(eqV k a b).map fun b=>.bool (xor neg b)
def Xe (ob:ZO) (q:LK) (zero:V) (ok:Bool) (m k:V):Option V :=
 if QB q k then match m with
  | .nilmap=>some (if ok then .tup [zero,.bool false] else zero)
  | .map l u=>(jR ob l u).bind fun es=>(findKey q k es).map fun r=>match r with
   | some (_,v)=>if ok then .tup [v,.bool true] else v
   | none=>if ok then .tup [zero,.bool false] else zero
  | _=>none else none
section
variable {E:Env}{Yf:YF}{st:St}{ub:Nat}{K:St→Nat→Prop}{d:Option Nat}{nm:Bool}
theorem jvy {c:A}{a b:C}{Q:Ex→St→Prop}:wpC E Yf (.cond c a b) st Q=wpIf (eval E st.tm c) (wpC E Yf a st Q) (wpC E Yf b st Q):=by
 simp only[wpC]
 cases h:eval E st.tm c <;> simp[wpIf]
theorem jie {op:AOp}{t:Nat}{b:Bool}:j8 E Yf ⟨d,op,some (t,b),nm⟩ st ub K=Qv (st.tm t) b (j8 E Yf ⟨d,op,none,nm⟩ st ub K) (K (st.setT d jm) ub):=by
 have hn:AOpr.name ⟨d,op,some (t,b),nm⟩=AOpr.name ⟨d,op,none,nm⟩:=rfl
 unfold j8
 simp only[wanted,hn]
 cases h:st.tm t with
 | bool c=>
  simp only[Qv]
  cases c <;> cases b <;> simp[St.setT]
 | tup l=>cases l <;> simp[Qv,St.setT]
 | _=>simp[Qv]
theorem jT (op:AOp) (h:op.isCall=false) (h2:op.isNext=false):j8 E Yf ⟨d,op,none,nm⟩ st ub K=wpD (aop (fun _ _=>none) (eval E st.tm) st.ob st.tk st.ro (AOpr.name ⟨d,op,none,nm⟩ st.fb ub) ub op) fun δ=>K (st.app d δ) (ub+64):=by
 cases op <;> first|cases h;done|cases h2;done|simp only[j8,wanted,jj,jD,wpD]
theorem Yo (v:V) (k:Delta→Prop):wpD (one v) k=k { v:=v }:=by simp[one,wpD]
theorem jc6 (o:Option V) (k:Delta→Prop):wpD (o.bind one) k=wpV o fun v=>k { v:=v }:=by cases o <;> simp[wpD,wpV,one]
theorem j0q {x:A}:j8 E Yf ⟨d,.mov x,none,nm⟩ st ub K=K (st.setT d (eval E st.tm x)) (ub+64):=by rw[jT _ rfl rfl];simp only[aop,Yo,Qj]
theorem jvn {c a b:A}:j8 E Yf ⟨d,.pick c a b,none,nm⟩ st ub K=wpV (jws (eval E st.tm c) (eval E st.tm a) (eval E st.tm b)) fun v=>K (st.setT d v) (ub+64):=by
 rw[jT _ rfl rfl];simp only[aop];cases eval E st.tm c <;> simp only[jws,Yo,jmm,jmn,jak,Qj]
theorem j0s {op:BinOp}{x y:A}:j8 E Yf ⟨d,.bin op x y,none,nm⟩ st ub K=wpV (Y9 op (eval E st.tm x) (eval E st.tm y)) fun v=>K (st.setT d v) (ub+64):=by
 rw[jT _ rfl rfl];simp only[aop,jc6,Qj]
theorem j48 {op:UnOp}{x:A}:j8 E Yf ⟨d,.un op x,none,nm⟩ st ub K=wpV (unV op (eval E st.tm x)) fun v=>K (st.setT d v) (ub+64):=by
 rw[jT _ rfl rfl];simp only[aop,jc6,Qj]
theorem jP {α:Type}(o:Option α) (f:α→V):(o.bind fun x=>one (f x))=(o.map f).bind one:=by cases o <;> rfl
theorem jX (c:Prop) [Decidable c] (v:Option V):(if c then v.bind one else none)=(if c then v else none).bind one:=by split <;> rfl
theorem Ju (c:Prop) [Decidable c] (v:V):(if c then one v else none)=(if c then some v else none).bind one:=by split <;> rfl
theorem QA {α:Type}(c:Prop) [Decidable c] (o:Option α) (f:α→V):(if c then o.bind fun x=>one (f x) else none)=(if c then o.map f else none).bind one:=by split;exact jP _ _;rfl
theorem Je {op:AOp}{o:Option V}(h:op.isCall=false) (h2:op.isNext=false) (ha:∀du,aop (fun _ _=>none) (eval E st.tm) st.ob st.tk st.ro du ub op=o.bind one):j8 E Yf ⟨d,op,none,nm⟩ st ub K=wpV o fun v=>K (st.setT d v) (ub+64):=by
 rw[jT _ h h2,ha,jc6]
 simp only[Qj]
theorem j49 {neg:Bool}{k:EqK}{x y:A}:j8 E Yf ⟨d,.eq neg k x y,none,nm⟩ st ub K=wpV (jvj st.ob neg k (eval E st.tm x) (eval E st.tm y)) fun v=>K (st.setT d v) (ub+64):=by
 refine Je rfl rfl fun du=>?_
 simp only[aop,jvj]
 generalize eval E st.tm x=vx
 generalize eval E st.tm y=vy
 cases k <;> first|rfl|exact jP _ _|(cases vx <;> first|rfl|exact jP _ _|(cases vy <;> (first|rfl|exact Ju _ _|exact jX _ _|exact jP _ _|exact(Option.bind_assoc ..).symm)))
theorem jvq {g:Option Nat}{x:A}:j8 E Yf ⟨d,.load g x,none,nm⟩ st ub K=wpV (Qh st.ob g (eval E st.tm x)) fun v=>K (st.setT d v) (ub+64):=by
 refine Je rfl rfl fun du=>?_
 simp only[aop,Qh]
 generalize eval E st.tm x=vx
 cases vx <;> (first|rfl|exact Ju _ _|exact jX _ _|exact jP _ _|exact(Option.bind_assoc ..).symm)
theorem jig {x:A}:j8 E Yf ⟨d,.nilCheck x,none,nm⟩ st ub K=wpV (ja2 (eval E st.tm x)) fun v=>K (st.setT d v) (ub+64):=by
 refine Je rfl rfl fun du=>?_
 simp only[aop,ja2]
 generalize eval E st.tm x=vx
 cases vx <;> (first|rfl|exact Ju _ _|exact jX _ _|exact jP _ _|exact(Option.bind_assoc ..).symm|(rename_i f _ _;cases f <;> rfl)|exact QA _ _ _)
theorem jg1 {off:Nat}{x:A}:j8 E Yf ⟨d,.fieldAddr off x,none,nm⟩ st ub K=wpV (WG off (eval E st.tm x)) fun v=>K (st.setT d v) (ub+64):=by
 refine Je rfl rfl fun du=>?_
 simp only[aop,WG]
 generalize eval E st.tm x=vx
 cases vx <;> (first|rfl|exact Ju _ _|exact jX _ _|exact jP _ _|exact(Option.bind_assoc ..).symm)
theorem jq2 {sz:Nat}{x i:A}:j8 E Yf ⟨d,.idxSl sz x i,none,nm⟩ st ub K=wpV (Jn sz (eval E st.tm x) (eval E st.tm i)) fun v=>K (st.setT d v) (ub+64):=by
 refine Je rfl rfl fun du=>?_
 simp only[aop,Jn]
 generalize eval E st.tm x=vx
 generalize eval E st.tm i=vi
 cases vx <;> first|rfl|(cases vi <;> (first|rfl|exact Ju _ _|exact jX _ _|exact jP _ _|exact(Option.bind_assoc ..).symm))
theorem jov {len sz:Nat}{x i:A}:j8 E Yf ⟨d,.idxArr len sz x i,none,nm⟩ st ub K=wpV (QE len sz (eval E st.tm x) (eval E st.tm i)) fun v=>K (st.setT d v) (ub+64):=by
 refine Je rfl rfl fun du=>?_
 simp only[aop,QE]
 generalize eval E st.tm x=vx
 generalize eval E st.tm i=vi
 cases vx <;> first|rfl|(cases vi <;> (first|rfl|exact Ju _ _|exact jX _ _|exact jP _ _|exact(Option.bind_assoc ..).symm))
theorem jvo {g:Option Nat}{off:Nat}{x:A}:j8 E Yf ⟨d,.part g off x,none,nm⟩ st ub K=wpV (j1y g off (eval E st.tm x)) fun v=>K (st.setT d v) (ub+64):=by
 refine Je rfl rfl fun du=>?_
 simp only[aop,j1y]
 generalize eval E st.tm x=vx
 cases vx <;> (first|rfl|exact Ju _ _|exact jX _ _|exact jP _ _|exact(Option.bind_assoc ..).symm)
theorem jou {x i:A}:j8 E Yf ⟨d,.idxStr x i,none,nm⟩ st ub K=wpV (QD (eval E st.tm x) (eval E st.tm i)) fun v=>K (st.setT d v) (ub+64):=by
 refine Je rfl rfl fun du=>?_
 simp only[aop,QD]
 generalize eval E st.tm x=vx
 generalize eval E st.tm i=vi
 cases vx <;> first|rfl|(cases vi <;> (first|rfl|exact Ju _ _|exact jX _ _|exact jP _ _|exact(Option.bind_assoc ..).symm|(rename_i f _ _;cases f <;> rfl)|exact QA _ _ _))
theorem jot {g:Option Nat}{len sz:Nat}{x i:A}:j8 E Yf ⟨d,.idxVal g len sz x i,none,nm⟩ st ub K=wpV (jey g len sz (eval E st.tm x) (eval E st.tm i)) fun v=>K (st.setT d v) (ub+64):=by
 refine Je rfl rfl fun du=>?_
 simp only[aop,jey]
 generalize eval E st.tm x=vx
 generalize eval E st.tm i=vi
 cases vx <;> first|rfl|(cases vi <;> (first|rfl|exact Ju _ _|exact jX _ _|exact jP _ _|exact(Option.bind_assoc ..).symm))
theorem jq0 {x:A}{lo hi:Option A}:j8 E Yf ⟨d,.slStr x lo hi,none,nm⟩ st ub K=wpV (XZ (lo.map (eval E st.tm)) (hi.map (eval E st.tm)) (eval E st.tm x)) fun v=>K (st.setT d v) (ub+64):=by
 refine Je rfl rfl fun du=>?_
 simp only[aop,XZ]
 generalize eval E st.tm x=vx
 cases vx <;> (first|rfl|exact Ju _ _|exact jX _ _|exact jP _ _|exact(Option.bind_assoc ..).symm)
theorem jvm {sz:Nat}{x:A}{lo hi:Option A}:j8 E Yf ⟨d,.slSl sz x lo hi,none,nm⟩ st ub K=wpV (jaq sz (lo.map (eval E st.tm)) (hi.map (eval E st.tm)) (eval E st.tm x)) fun v=>K (st.setT d v) (ub+64):=by
 refine Je rfl rfl fun du=>?_
 simp only[aop,jaq]
 generalize eval E st.tm x=vx
 cases vx <;> (first|rfl|exact Ju _ _|exact jX _ _|exact jP _ _|exact(Option.bind_assoc ..).symm|(rename_i f _ _;cases f <;> rfl)|exact QA _ _ _)
theorem jor {x:A}:j8 E Yf ⟨d,.lenStr x,none,nm⟩ st ub K=wpV (jht (eval E st.tm x)) fun v=>K (st.setT d v) (ub+64):=by
 refine Je rfl rfl fun du=>?_
 simp only[aop,jht]
 generalize eval E st.tm x=vx
 cases vx <;> (first|rfl|exact Ju _ _|exact jX _ _|exact jP _ _|exact(Option.bind_assoc ..).symm)
theorem jq1 {x:A}:j8 E Yf ⟨d,.lenSl x,none,nm⟩ st ub K=wpV (Q7 (eval E st.tm x)) fun v=>K (st.setT d v) (ub+64):=by
 refine Je rfl rfl fun du=>?_
 simp only[aop,Q7]
 generalize eval E st.tm x=vx
 cases vx <;> (first|rfl|exact Ju _ _|exact jX _ _|exact jP _ _|exact(Option.bind_assoc ..).symm)
theorem jos {x:A}:j8 E Yf ⟨d,.lenMap x,none,nm⟩ st ub K=wpV (jhu st.ob (eval E st.tm x)) fun v=>K (st.setT d v) (ub+64):=by
 refine Je rfl rfl fun du=>?_
 simp only[aop,jhu]
 generalize eval E st.tm x=vx
 cases vx <;> (first|rfl|exact Ju _ _|exact jX _ _|exact jP _ _|exact(Option.bind_assoc ..).symm)
theorem jkp {x:A}{i:Nat}:j8 E Yf ⟨d,.extract x i,none,nm⟩ st ub K=wpV (jdk i (eval E st.tm x)) fun v=>K (st.setT d v) (ub+64):=by
 refine Je rfl rfl fun du=>?_
 simp only[aop,jdk]
 generalize eval E st.tm x=vx
 cases vx <;> (first|rfl|exact Ju _ _|exact jX _ _|exact jP _ _|exact(Option.bind_assoc ..).symm)
theorem jvr {k:IntKind}{x:A}:j8 E Yf ⟨d,.conv k x,none,nm⟩ st ub K=wpV (XY k (eval E st.tm x)) fun v=>K (st.setT d v) (ub+64):=by
 refine Je rfl rfl fun du=>?_
 simp only[aop,XY]
 generalize eval E st.tm x=vx
 cases vx <;> (first|rfl|exact Ju _ _|exact jX _ _|exact jP _ _|exact(Option.bind_assoc ..).symm)
theorem jop {b:Bool}{xs:List A}:j8 E Yf ⟨d,.minmax b xs,none,nm⟩ st ub K=wpV (jbx b (xs.map (eval E st.tm))) fun v=>K (st.setT d v) (ub+64):=by
 refine Je rfl rfl fun du=>?_
 simp only[aop,jbx]
 generalize xs.map (eval E st.tm)=vxs
 cases vxs <;> (first|rfl|exact Ju _ _|exact jX _ _|exact jP _ _|exact(Option.bind_assoc ..).symm)
theorem jvp {f:Fn}{a b:List A}:j8 E Yf ⟨d,.mkFn f a b,none,nm⟩ st ub K=K (st.setT d (.fn f (a.map (eval E st.tm)) (b.map (eval E st.tm)))) (ub+64):=by rw[jT _ rfl rfl];simp only[aop,Yo,Qj]
theorem jq6 {z:List V}{ps:List (Nat × Nat × A)}:j8 E Yf ⟨d,.build z ps,none,nm⟩ st ub K=wpV ((fill z (jq (eval E st.tm) ps)).map .agg) fun v=>K (st.setT d v) (ub+64):=by
 rw[jT _ rfl rfl];simp only[aop,jP,jc6,Qj]
theorem joq {q:LK}{z:V}{ok:Bool}{m k:A}:j8 E Yf ⟨d,.lookup q z ok m k,none,nm⟩ st ub K=wpV (Xe st.ob q z ok (eval E st.tm m) (eval E st.tm k)) fun v=>K (st.setT d v) (ub+64):=by
 refine Je rfl rfl fun du=>?_
 simp only[aop,Xe]
 generalize eval E st.tm m=vm
 generalize eval E st.tm k=vk
 cases QB q vk with
 | false=>rfl
 | true=>
  simp only[if_true]
  cases vm <;> first|rfl|skip
  rename_i l u
  simp only
  cases jR st.ob l u with
  | none=>rfl
  | some es=>
   simp only[Option.bind_some]
   cases findKey q vk es with
   | none=>rfl
   | some r=>cases r <;> rfl
def jnc (E:Env) (nm:Bool) (f:FuncId) (vs:List V):Prop:=E.sh nm f=false∧(vs.all fun v=>v.strip.pureTop)=true
theorem jib (vs:List V):(vs.map V.strip).all V.pureTop=vs.all fun v=>v.strip.pureTop:=by rw[List.all_map];rfl
theorem jvs {f:FuncId}{xs:List A}(h:jnc E nm f (xs.map (eval E st.tm))∧∃v,Ev E f ((xs.map (eval E st.tm)).map V.strip) v∧wpD (YB ub v) fun δ=>K (st.app d δ) (ub+64)):j8 E Yf ⟨d,.call f xs,none,nm⟩ st ub K:=by
 obtain⟨⟨h1,h2⟩,v,hv,δ,hδ,hK⟩:=h
 have hp:(xs.all fun x=>(eval E st.tm x).strip.pureTop)=true:=by rw[List.all_map]at h2;exact h2
 have hs:jD E nm (eval E st.tm) (.call f xs)=none:=by simp only[jD,h1,hp,Bool.not_false,Bool.and_self,if_true]
 simp only[j8,wanted,jj,hs,Qk]
 refine⟨by rw[List.all_map];exact hp,v,?_,δ,hδ,hK⟩
 rw[List.map_map]at hv
 exact hv
theorem jq3 {q:A}{xs:List A}{f:FuncId}{first captured:List V}(hq:eval E st.tm q=.fn (.func f) first captured)
 (h:jnc E nm f (first++xs.map (eval E st.tm)++captured)∧∃v,Ev E f ((first++xs.map (eval E st.tm)++captured).map V.strip) v∧wpD (YB ub v) fun δ=>K (st.app d δ) (ub+64)):j8 E Yf ⟨d,.callV q xs,none,nm⟩ st ub K:=by
 obtain⟨⟨h1,h2⟩,v,hv,δ,hδ,hK⟩:=h
 have hs:jD E nm (eval E st.tm) (.callV q xs)=none:=by simp only[jD,hq,h1,h2,Bool.not_false,Bool.and_self,if_true]
 simp only[j8,wanted,jj,hq,hs,Qk]
 exact⟨f,first,captured,rfl,by rw[jib];exact h2,v,hv,δ,hδ,hK⟩
end
attribute [simp] j1a jwe YP jkx j1b j1c j1d j1e
 jky JD jrr j1f jg7 j1g j1h jv3 jv6 jv4 jv5 jv7 jv8 jv9 eval_t eval_c jpa jb4 j2d jmm jmn jM jak Qj
@[simp] theorem binV_add (k:IntKind) (a b:Int):Y9 .add (.int k a) (.int k b)=some (.int k (k.wrap (a+b))):=by simp[Y9,XQ]
@[simp] theorem binV_sub (k:IntKind) (a b:Int):Y9 .sub (.int k a) (.int k b)=some (.int k (k.wrap (a - b))):=by simp[Y9,XQ]
@[simp] theorem binV_mul (k:IntKind) (a b:Int):Y9 .mul (.int k a) (.int k b)=some (.int k (k.wrap (a*b))):=by simp[Y9,XQ]
@[simp] theorem binV_quo (k:IntKind) (a b:Int):Y9 .quo (.int k a) (.int k b)=if b=0 then none else some (.int k (k.wrap (a.tdiv b))):=by simp[Y9,XQ]
@[simp] theorem binV_rem (k:IntKind) (a b:Int):Y9 .rem (.int k a) (.int k b)=if b=0 then none else some (.int k (a.tmod b)):=by simp[Y9,XQ]
@[simp] theorem binV_lss (k:IntKind) (a b:Int):Y9 .lss (.int k a) (.int k b)=some (.bool (decide (a<b))):=by simp[Y9,XQ]
@[simp] theorem binV_leq (k:IntKind) (a b:Int):Y9 .leq (.int k a) (.int k b)=some (.bool (decide (a≤b))):=by simp[Y9,XQ]
@[simp] theorem binV_gtr (k:IntKind) (a b:Int):Y9 .gtr (.int k a) (.int k b)=some (.bool (decide (b<a))):=by simp[Y9,XQ]
@[simp] theorem binV_geq (k:IntKind) (a b:Int):Y9 .geq (.int k a) (.int k b)=some (.bool (decide (b≤a))):=by simp[Y9,XQ]
@[simp] theorem binV_eql (k:IntKind) (a b:Int):Y9 .eql (.int k a) (.int k b)=some (.bool (a == b)):=by simp[Y9,XQ]
@[simp] theorem binV_neq (k:IntKind) (a b:Int):Y9 .neq (.int k a) (.int k b)=some (.bool (a != b)):=by simp[Y9,XQ]
@[simp] theorem binV_seql (a b:List UInt8):Y9 .eql (.str a) (.str b)=some (.bool (a == b)):=by simp[Y9,jip]
@[simp] theorem binV_sneq (a b:List UInt8):Y9 .neq (.str a) (.str b)=some (.bool (!(a == b))):=by simp[Y9,jip]
@[simp] theorem unV_not (b:Bool):unV .not (.bool b)=some (.bool (!b)):=rfl
@[simp] theorem j9s (t:Option (Nat × Nat)) (b:Bool) (n:Nat) (cs:List V):Q7 (.sl t b n cs)=some (.int .i64 n):=rfl
@[simp] theorem j4y (a b c n d:Nat):Q7 (.osl a b c n d)=some (.int .i64 n):=rfl
@[simp] theorem j2h (s:List UInt8):jht (.str s)=some (.int .i64 s.length):=rfl
@[simp] theorem YU (sz:Nat) (t:Option (Nat × Nat)) (b:Bool) (n:Nat) (cs:List V) (k:IntKind) (i:Int):Jn sz (.sl t b n cs) (.int k i)=if 0≤i∧i<n∧cs.length=n*sz then some (.eptr cs (i.toNat*sz)) else none:=rfl
@[simp] theorem j4x (cs:List V) (off:Nat):YH none cs off=cs[off]?:=rfl
@[simp] theorem jz7 (i:Nat) (vs:List V):jdk i (.tup vs)=vs[i]?:=rfl
def V.flat:V→Bool
 | .bool _|.int ..|.str _|.nilptr|.nilmap|.nilfn|.nilif=>true
 | .sl t _ _ _=>t.isNone
 | _=>false
theorem jaa {st:St}{keep:Bool}{i:Nat}{v:V}(h:v.flat=true):Xv st keep i v=some v:=by
 cases v with
 | sl t nl n cs=>cases t with
  | none=>rfl
  | some t=>cases h
 | _=>first|rfl|cases h
theorem je1 {v:V}(h:v.flat=true):v.toks=[]:=by
 cases v with
 | sl t nl n cs=>cases t with
  | none=>rfl
  | some t=>cases h
 | _=>first|rfl|cases h
theorem Wb {st:St}(h:st.df=[]):st.noDf=st:=by unfold St.noDf;simp only[h]
theorem Wj {st:St}(h:st.df=[]):j0c st=true:=by unfold j0c;simp only[h];rfl
theorem j4 {n:Nat}{st:St}{v:V}(hd:st.df=[]) (h:st.tm n=v) (hf:v.flat=true):jce [.t n] (.ret,st)=some v:=by
 simp only[jce,Wj hd,Wb hd,if_true,List.mapM_cons,List.mapM_nil,jw,h]
 simp[Wp,JU,jaa hf,je1 hf,nodup]
theorem Ja {n m:Nat}{st:St}{v u:V}(hd:st.df=[]) (h:st.tm n=v) (h':st.tm m=u) (hf:v.flat=true) (hf':u.flat=true):jce [.t n,.t m] (.ret,st)=some (.tup [v,u]):=by
 simp only[jce,Wj hd,Wb hd,if_true,List.mapM_cons,List.mapM_nil,jw,h,h']
 simp[Wp,JU,jaa hf,jaa hf',je1 hf,je1 hf',nodup]
@[simp] theorem j5z (ub:Nat) (b:Bool):YB ub (.bool b)=some { v:=.bool b }:=rfl
@[simp] theorem retA_int (ub:Nat) (k:IntKind) (b:Int):YB ub (.int k b)=some { v:=.int k b }:=rfl
@[simp] theorem retA_str (ub:Nat) (s:List UInt8):YB ub (.str s)=some { v:=.str s }:=rfl
@[simp] theorem j5y (ub:Nat) (k k':IntKind) (b b':Int):YB ub (.tup [.int k b,.int k' b'])=some { v:=.tup [.int k b,.int k' b'] }:=rfl
@[simp] theorem j1n (ub:Nat) (nl:Bool) (n:Nat) (cs:List V):YB ub (.sl none nl n cs)=some { v:=.sl none nl n cs }:=rfl
theorem jq5 {E:Env}{Yf:YF}{st:St}{ub:Nat}{K:St→Nat→Prop}{d:Option Nat}{nm:Bool}{f:FuncId}{xs:List A}{vs:List V}{v:V}(hx:xs.map (eval E st.tm)=vs) (hs:E.sh nm f=false) (hp:(vs.all fun v=>v.strip.pureTop)=true)
 (hv:Ev E f (vs.map V.strip) v) (h:wpD (YB ub v) fun δ=>K (st.app d δ) (ub+64)):j8 E Yf ⟨d,.call f xs,none,nm⟩ st ub K :=
 jvs ⟨by rw[hx];exact⟨hs,hp⟩,v,by rw[hx];exact hv,h⟩
def C.one:C→Bool
 | .region ops=>ops.all fun o=>o.op.next?.isNone
 | .pin o _=>o.op.next?.isNone
 | .seq a b|.cond _ a b=>a.one && b.one
 | .block _ a|.loop a=>a.one
 | _=>true
def Single {α:Type}(o:Option (List α)):Prop:=∀l,o=some l→∃x,l=[x]
theorem Single.bindL {α β:Type}{m:Option (List α)}{f:α→Option (List β)}(hm:Single m) (hf:∀a,Single (f a)):Single (bindL m f):=by
 intro l h
 cases hm':m with
 | none=>rw[hm']at h;cases h
 | some asg=>
  obtain⟨a,rfl⟩:=hm asg hm'
  rw[hm']at h
  exact hf a l h
theorem Single.map {α β:Type}{m:Option (List α)}{f:α→β}(hm:Single m):Single (m.map fun l=>l.map f):=by
 intro l h
 cases hm':m with
 | none=>rw[hm']at h;cases h
 | some asg=>
  obtain⟨a,rfl⟩:=hm asg hm'
  rw[hm']at h
  cases h
  exact⟨f a,rfl⟩
theorem Single.none {α:Type}:Single (none:Option (List α)):=fun _ h=>by cases h
theorem Single.some {α:Type}(x:α):Single (some [x]):=fun _ h=>⟨x,by cases h;rfl⟩
theorem Single.opt {α β:Type}{m:Option α}{f:α→β}:Single (m.map fun a=>[f a]):=by
 intro l h
 cases m with
 | none=>cases h
 | some a=>cases h;exact⟨f a,rfl⟩
section
variable {E:Env}{Yf:YF}
theorem jmx {call:Callers}(hc:∀f a ob tk ro b u,Single (call.s f a ob tk ro b u)) {o:AOpr}{st:St}{ub:Nat}(h:o.op.next?.isNone=true):Single (jcj E call o st ub):=by
 have hn:o.op.next? = .none:=by simpa using h
 unfold jcj
 split
 ·split
  ·exact Single.opt
  ·split
   ·split
    ·exact Single.map (hc _ _ _ _ _ _ _)
    ·exact Single.opt
   ·rw[hn]
    exact Single.opt
 ·exact Single.some _
 ·exact Single.none
theorem jng {call:Callers}(hc:∀f a ob tk ro b u,Single (call.s f a ob tk ro b u)):∀ {ops:List AOpr}{st:St}{ub:Nat},(ops.all fun o=>o.op.next?.isNone)=true→Single (jhh E call ops st ub)
 | [],_,_,_=>Single.some _
 | o::r,st,ub,h=>by
  simp only[List.all_cons,Bool.and_eq_true]at h
  exact Single.bindL (jmx hc h.1) fun x=>jng hc h.2
theorem jjo {body:St→j4m}(hb:∀st,Single (body st)):∀ (n:Nat) (st:St),Single (ja5 body n st)
 | 0,_=>Single.none
 | n+1,st=>Single.bindL (hb st) fun x=>by
  obtain⟨e,s⟩:=x
  cases e
  ·exact jjo hb n s
  ·exact Single.some _
  ·exact Single.some _
theorem juy {call:Y→Callers}(hc:∀y f a ob tk ro b u,Single ((call y).s f a ob tk ro b u)) {y:Y}{N:Nat}:∀ {c:C}{st:St},c.one=true→Single (ja E call y N c st):=by
 intro c
 induction c with
 | skip=>intro st _;exact Single.some _
 | ret=>intro st _;exact Single.some _
 | exit i=>intro st _;exact Single.some _
 | stuck=>intro st _;exact Single.none
 | region ops=>intro st h;simp only[ja];exact Single.map (jng (hc y) h)
 | pin o fs=>
  intro st h
  simp only[ja]
  refine Single.bindL (jmx (hc y) h) fun x=>?_
  intro l h
  obtain⟨p,_,h⟩:=bind_some h
  split at h
  ·cases h;exact⟨_,rfl⟩
  ·cases h
 | draw ops free=>
  intro st _ l h
  simp only[ja]at h
  cases hd:Y8 E (call y) ops st st.nx with
  | none=>rw[hd]at h;cases h
  | some p=>
   rw[hd,Option.bind_some]at h
   split at h
   ·cases h;exact⟨_,rfl⟩
   ·cases h
 | seq a b iha ihb=>
  intro st h
  simp only[C.one,Bool.and_eq_true]at h
  simp only[ja]
  refine Single.bindL (iha h.1) fun x=>?_
  obtain⟨e,s⟩:=x
  cases e
  ·exact ihb h.2
  ·exact Single.some _
  ·exact Single.some _
 | cond q a b iha ihb=>
  intro st h
  simp only[C.one,Bool.and_eq_true]at h
  simp only[ja]
  split
  ·exact iha h.1
  ·exact ihb h.2
  ·exact Single.none
 | block i a ih=>intro st h;simp only[ja];exact Single.map (ih h)
 | loop a ih=>intro st h;simp only[ja];exact jjo (fun s=>ih h) N st
 | rangeFunc f ps a b=>
  intro st _ l h
  simp only[ja]at h
  split at h
  ·simp only[Option.bind_eq_some_iff]at h
   obtain⟨r,_,h⟩:=h
   split at h
   ·split at h
    ·cases h;exact⟨_,rfl⟩
    ·cases h
   ·cases h
  ·cases h
theorem jl9 (hE:∀f,E.mn f=false):∀ (n:Nat) (y:Y) (f a ob tk ro b u),Single ((callers E n y).s f a ob tk ro b u)
 | 0,_,_,_,_,_,_,_,_=>Single.none
 | n+1,y,f,a,ob,tk,ro,b,u=>by
  intro l h
  simp only[callers,hE,Bool.false_eq_true,if_false]at h
  split at h
  ·obtain⟨_,_,h⟩:=bind_some h
   obtain⟨_,_,h⟩:=bind_some h
   obtain⟨x,_,rfl⟩:=map_some h
   exact⟨x,rfl⟩
  ·split at h
   ·obtain⟨x,_,rfl⟩:=map_some h
    exact⟨x,rfl⟩
   ·obtain⟨_,_,h⟩:=bind_some h
    obtain⟨_,_,h⟩:=bind_some h
    split at h
    ·obtain⟨x,_,rfl⟩:=map_some h
     exact⟨x,rfl⟩
    ·cases h
theorem jnh {c:C}{st:St}{Q:Ex→St→Prop}(h1:c.one=true) (h:wpC E Yf c st Q) (hE:∀f,E.mn f=false):∃n x,ja E (callers E n) (Yf.y n) n c st=some [x]∧Q x.1 x.2:=by
 obtain⟨n,l,hl,_,hq⟩:=j0m h
 obtain⟨x,rfl⟩:=juy (jl9 hE n) h1 l hl
 exact⟨n,x,hl,hq x (List.mem_singleton.2 rfl)⟩
theorem EvO_wp {f:FuncId}{af:AF}{args:List V}{ob:ZO}{tk:Nat→Bool}{base ub:Nat}{r:V}(hf:E.fs f=some af)
 (h:wpC E YC af.body (X5 args ob (fun _=>false) ub base ub) fun e s=>jce af.res (e,s)=some r) (hz:E.fz f=false:=by rfl):EvO E f args ob tk base ub r:=by
 obtain⟨n,l,h1,h2,h3⟩:=j0m h
 refine⟨n+1,?_⟩
 simp only[callers,hf,Option.bind_some,hz,Bool.false_eq_true,if_false]
 rw[show ja E (callers E n) noY n af.body (X5 args ob (fun _=>false) ub base ub)=some l from h1]
 exact jlb h2 h3
theorem jvd {y:Nat→Y}{f:FuncId}{args:List V}{ob:ZO}{tk:Nat→Bool}{ro base ub:Nat}{r:V × (ZO) × (Nat→Bool) × Nat}(hs:E.srt f=true) (hr:jrl ob tk ro ub args=some r) (hz:E.tw f=false:=by rfl):EvS E y f args ob tk ro base ub r:=by
 refine⟨1,?_⟩
 simp only[callers,hz,hs,Bool.false_eq_true,if_false,if_true,hr,Option.map_some]
theorem Yb {f:FuncId}{af:AF}{args:List V}{ob:ZO}{tk:Nat→Bool}{ro base ub:Nat}{P:V × (ZO) × (Nat→Bool) × Nat→Prop}(hf:E.fs f=some af) (h1:af.body.one=true)
 (h:wpC E Yf af.body (X5 args ob tk ro base ub) fun e s=>∃r,jof af.res (e,s)=some r∧P r) (hz:E.tw f=false:=by rfl) (hs:E.srt f=false:=by rfl) (hE:∀f,E.mn f=false:=by intro _;rfl):∃r,EvS E Yf.y f args ob tk ro base ub r∧P r:=by
 obtain⟨n,x,hx,r,hr,hP⟩:=jnh h1 h hE
 refine⟨r,⟨n+1,?_⟩,hP⟩
 simp only[callers,hf,Option.bind_some,hz,hs,Bool.false_eq_true,if_false]
 rw[jf (X9 n n (Nat.le_refl _)) (Nat.le_refl _) af.body _ _ (Yf.mono (Nat.le_succ n)) _ _ hx]
 simp only[Option.bind_some,hE,Bool.false_eq_true,if_false,hr,Option.map_some]
def jf3 (E:Env) (Yf:YF) (asg bd:C) (st:St) (ps:List Nat) (l u:Nat):YF where
 y n:=Ql (ja E (callers E n) (Yf.y n) n asg) (ja E (callers E n) (Yf.y n) n bd) st ps l u
 mono h:=jd5 (fun s=>jf (Jc _ _ h) h asg _ _ (Yf.mono h) s) (fun s=>jf (Jc _ _ h) h bd _ _ (Yf.mono h) s) st ps l u
def WV (l u:Nat) (e:Ex) (s:St):V × (ZO) × (Nat→Bool) × Nat:=match e with
 | .nrm=>(.bool true,upd s.ob l (some ⟨u,.loop .ready none⟩),s.tk,s.nx)
 | e=>(.bool false,upd s.ob l (some ⟨u,.loop .done (some e)⟩),s.tk,s.nx)
theorem jfi {asg bd:C}{st:St}{ps:List Nat}{l u:Nat}{xs:List V}{ob:ZO}{tk:Nat→Bool}{ro ub:Nat}{P:V × (ZO) × (Nat→Bool) × Nat→Prop}(hl:xs.length=ps.length) (hro:ro≤u) (hob:ob l=some ⟨u,.loop .ready none⟩)
 (ha:asg.one=true) (hb:bd.one=true)
 (h:wpC E Yf asg { tm:=jdx st.tm ps xs,ob,tk,ro,nx:=ub,fb:=st.fb,df:=[] } fun e s1=>e=.nrm∧s1.ob l=some ⟨u,.loop .ready none⟩ ∧
  wpC E Yf bd { s1 with ob:=upd s1.ob l (some ⟨u,.loop .busy none⟩) } fun e s2=>s2.ob l=some ⟨u,.loop .busy none⟩∧P (WV l u e s2)) (hE:∀f,E.mn f=false:=by intro _;rfl):∃r,EvY (jf3 E Yf asg bd st ps l u) l u xs ob tk ro ub r∧P r:=by
 obtain⟨n,⟨e,s1⟩,h1,he,ho1,h2⟩:=jnh ha h hE
 simp only at he ho1 h2
 subst he
 obtain⟨m,⟨e,s2⟩,h3,ho2,hP⟩:=jnh hb h2 hE
 simp only at ho2 hP
 refine⟨WV l u e s2,⟨max n m,?_⟩,hP⟩
 have k1:=jf (Jc (E:=E) n (max n m) (by omega)) (show n≤max n m by omega) asg _ _ (Yf.mono (show n≤max n m by omega)) _ _ h1
 have k2:=jf (Jc (E:=E) m (max n m) (by omega)) (show m≤max n m by omega) bd _ _ (Yf.mono (show m≤max n m by omega)) _ _ h3
 have hble:Nat.ble ro u=true:=Nat.ble_eq▸hro
 simp only[jf3,Ql,hl,hble,and_self,if_true,hob,k1,ho1,k2,ho2]
 cases e <;> rfl
theorem WO {f:A}{ps:List Nat}{asg bd:C}{st:St}{Q:Ex→St→Prop}{g:FuncId}{first captured:List V}(hf:eval E st.tm f=.fn (.func g) first captured)
 (h:∃r,EvS E (jf3 E Yf asg bd st ps (2*st.nx+1) st.nx).y g (first++[.yld (2*st.nx+1) st.nx]++captured)
  (upd (upd st.ob (2*st.nx+3) (some ⟨st.nx+1,.dfr⟩)) (2*st.nx+1) (some ⟨st.nx,.loop .ready none⟩)) st.tk st.ro ((st.fb+1023)*1024) (st.nx+64) r ∧
  ∃s pend,r.2.1 (2*st.nx+1)=some ⟨st.nx,.loop s pend⟩∧s≠.busy∧st.ro≤st.nx ∧
   Q (pend.getD .nrm) { st with ob:=fun k=>if Nat.beq (2*st.nx+1) k then none else r.2.1 k,tk:=r.2.2.1,nx:=r.2.2.2,df:=(2*st.nx+3,st.nx+1)::st.df }):wpC E Yf (.rangeFunc f ps asg bd) st Q:=by
 obtain⟨⟨v,ob,tk,ub⟩,⟨n,hr⟩,s,pend,h1,h2,h3,h4⟩:=h
 have hble:Nat.ble st.ro st.nx=true:=Nat.ble_eq▸h3
 refine⟨n,[(pend.getD .nrm,_)],?_,List.cons_ne_nil _ _,fun x hx=>by rw[List.mem_singleton]at hx;subst hx;exact h4⟩
 simp only[ja,hf]
 have hr':(callers E n (Ql (ja E (callers E n) (Yf.y n) n asg) (ja E (callers E n) (Yf.y n) n bd) st ps (2*st.nx+1) st.nx)).s g (first++[.yld (2*st.nx+1) st.nx]++captured)
  (upd (upd st.ob (2*st.nx+3) (some ⟨st.nx+1,.dfr⟩)) (2*st.nx+1) (some ⟨st.nx,.loop .ready none⟩)) st.tk st.ro ((st.fb+1023)*1024) (st.nx+64)=some [(v,ob,tk,ub)]:=hr
 simp only at h1
 simp only[hr',only,Option.bind_some,h1,h2,ne_eq,not_false_eq_true,hble,and_self,if_true]
theorem jif {q:A}{xs:List A}{st:St}{ub:Nat}{K:St→Nat→Prop}{d:Option Nat}{nm:Bool}{l u:Nat}(hq:eval E st.tm q=.yld l u)
 (h:∃r,EvY Yf l u (xs.map (eval E st.tm)) st.ob st.tk st.ro ub r∧K { st with tm:=put st.tm d r.1,ob:=r.2.1,tk:=r.2.2.1 } r.2.2.2):j8 E Yf ⟨d,.callV q xs,none,nm⟩ st ub K:=by
 simp only[j8,wanted,jj,hq]
 exact h
theorem jq4 {f:FuncId}{xs:List A}{st:St}{ub:Nat}{K:St→Nat→Prop}{d:Option Nat}{nm:Bool}(hs:E.sh nm f=false) (hp:((xs.map (eval E st.tm)).all fun v=>v.strip.pureTop)=false)
 (h:∃v,EvO E f (xs.map (eval E st.tm)) st.ob st.tk ((st.fb+d.getD 0+1)*1024) ub v∧wpD (YB ub v) fun δ=>K (st.app d δ) (ub+64)):j8 E Yf ⟨d,.call f xs,none,nm⟩ st ub K:=by
 have hp':(xs.all fun x=>(eval E st.tm x).strip.pureTop)=false:=by rw[List.all_map]at hp;exact hp
 have hsh:jD E nm (eval E st.tm) (.call f xs)=some (f,xs.map (eval E st.tm)):=by simp only[jD,hs,hp',Bool.not_false,Bool.true_and,Bool.false_eq_true,if_false]
 simp only[j8,wanted,jj,hsh]
 obtain⟨v,hv,δ,hδ,hK⟩:=h
 exact .inr ⟨hs,v,hv,δ,hδ,hK⟩
end
def jL (d:Option Nat) (nm:Bool) (fb ub:Nat):Nat:=cond nm (2*ub+1) (2*(fb+d.getD 0))
theorem js2 (d fb ub:Nat):jL (some d) false fb ub=2*(fb+d):=rfl
theorem Q3 (d:Option Nat) (fb ub:Nat):jL d true fb ub=2*ub+1:=rfl
theorem Jq (d:Option Nat) (op:AOp) (nm:Bool) (fb ub:Nat):AOpr.name ⟨d,op,none,nm⟩ fb ub=jL d nm fb ub:=by cases nm <;> rfl
def jbm (st:St) (sz:Nat) (x:V) (K:Delta→Prop):V→Prop
 | .ptr l u off=>∃cs,j1 st.ob l u=some cs∧st.ro≤u∧x.cells.length=sz∧off+sz≤cs.length∧x.cells.all V.leaf=true∧K { v:=jm,obs:=[(l,⟨u,.cells (j6 cs off x.cells)⟩)] }
 | _=>False
theorem jko (st:St) (sz:Nat) (x:V) (K:Delta→Prop) (l u off:Nat):jbm st sz x K (.ptr l u off) = ∃cs,j1 st.ob l u=some cs∧st.ro≤u∧x.cells.length=sz∧off+sz≤cs.length∧x.cells.all V.leaf=true∧K { v:=jm,obs:=[(l,⟨u,.cells (j6 cs off x.cells)⟩)] }:=rfl
section
variable {E:Env}{Yf:YF}{st:St}{ub:Nat}{K:St→Nat→Prop}{d:Option Nat}{nm:Bool}
theorem jq7 {z:List V}:j8 E Yf ⟨d,.alloc z,none,nm⟩ st ub K=K (st.app d { v:=.ptr (jL d nm st.fb ub) ub 0,obs:=[(jL d nm st.fb ub,⟨ub,.cells z⟩)] }) (ub+64):=by
 rw[jT _ rfl rfl];simp only[aop,Jh,jM,Jq]
theorem j0r {sz:Nat}{x:A}:j8 E Yf ⟨d,.box sz x,none,nm⟩ st ub K=(((eval E st.tm x).cells.length=sz∧(eval E st.tm x).cells.all V.leaf=true)∧K (st.app d { v:=.ptr (jL d nm st.fb ub) ub 0,obs:=[(jL d nm st.fb ub,⟨ub,.cells (eval E st.tm x).cells⟩)] }) (ub+64)):=by
 rw[jT _ rfl rfl];simp only[aop,Jh,jdq,jM,Jq]
theorem jqz {sz:Nat}{p x:A}:j8 E Yf ⟨d,.store sz p x,none,nm⟩ st ub K=jbm st sz (eval E st.tm x) (fun δ=>K (st.app d δ) (ub+64)) (eval E st.tm p):=by
 rw[jT _ rfl rfl]
 simp only[aop]
 generalize eval E st.tm p=vp
 cases vp <;> simp only[jak,jbm]
 rename_i l u off
 cases j1 st.ob l u with
 | none=>simp[wpD]
 | some cs=>simp only[Option.bind_some,jdq,jM,Option.some.injEq,exists_eq_left',Nat.ble_eq,and_assoc]
end
attribute [simp] js2 Q3 jkc j4f app_ro app_nx app_fb app_df app_ob jv Jy
@[simp] theorem cells_agg (cs:List V):(V.agg cs).cells=cs:=rfl
@[simp] theorem j43 (b:Bool):(V.bool b).cells=[.bool b]:=rfl
@[simp] theorem cells_int (k:IntKind) (n:Int):(V.int k n).cells=[.int k n]:=rfl
@[simp] theorem cells_str (s:List UInt8):(V.str s).cells=[.str s]:=rfl
@[simp] theorem cells_sl (t:Option (Nat × Nat)) (b:Bool) (n:Nat) (cs:List V):(V.sl t b n cs).cells=[.sl t b n cs]:=rfl
@[simp] theorem j37 (t:TypeId) (v:V):(V.iface t v).cells=[.iface t v]:=rfl
@[simp] theorem j9t (b:Bool):(V.bool b).leaf=true:=rfl
@[simp] theorem leaf_int (k:IntKind) (n:Int):(V.int k n).leaf=true:=rfl
@[simp] theorem leaf_str (s:List UInt8):(V.str s).leaf=true:=rfl
@[simp] theorem leaf_sl (t:Option (Nat × Nat)) (b:Bool) (n:Nat) (cs:List V):(V.sl t b n cs).leaf=true:=rfl
@[simp] theorem j40 (t:TypeId) (v:V):(V.iface t v).leaf=true:=rfl
@[simp] theorem j4z:V.nilif.leaf=true:=rfl
@[simp] theorem j36:V.nilif.cells=[.nilif]:=rfl
@[simp] theorem jvi (off l u o:Nat):WG off (.ptr l u o)=some (.ptr l u (o+off)):=rfl
@[simp] theorem jup (off:Nat) (cs:List V) (o:Nat):WG off (.eptr cs o)=some (.eptr cs (o+off)):=rfl
@[simp] theorem W5 (k:Nat) (cs:List V) (off:Nat):YH (some k) cs off=if off+k≤cs.length then some (.agg ((cs.drop off).take k)) else none:=rfl
@[simp] theorem j4s (cs vs:List V) (h:vs.length=cs.length):j6 cs 0 vs=vs:=by simp[j6,← h]
def kOps (E:Env) (Yf:YF) (r:List AOpr) (K:St→Prop):St→Nat→Prop:=fun st ub=>Wn E Yf r st ub K
def kNrm (Q:Ex→St→Prop):St→Prop:=fun s=>Q .nrm s
def jvh (E:Env) (Yf:YF) (b:C) (Q:Ex→St→Prop):Ex→St→Prop:=fun e s=>match e with
 | .nrm=>wpC E Yf b s Q
 | e=>Q e s
def kBlk (i:Nat) (Q:Ex→St→Prop):Ex→St→Prop:=fun e s=>match e with
 | .exit j=>if j=i then Q .nrm s else Q (.exit j) s
 | e=>Q e s
def QT (K:St→Nat→Prop) (st:St) (d:Option Nat) (ub:Nat):V→Prop:=fun v=>K (st.setT d v) (ub+64)
def jaj (K:St→Nat→Prop) (st:St) (d:Option Nat) (ub:Nat):Delta→Prop:=fun δ=>K (st.app d δ) (ub+64)
def kIf (E:Env) (Yf:YF) (a b:C) (st:St) (Q:Ex→St→Prop):Bool→Prop
 | true=>wpC E Yf a st Q
 | false=>wpC E Yf b st Q
def kGd (E:Env) (Yf:YF) (o:AOpr) (st:St) (ub:Nat) (K:St→Nat→Prop):Bool→Prop
 | true=>j8 E Yf o st ub K
 | false=>K (st.setT o.dst jm) ub
def jt6 (I:Nat→St→Prop) (k:Nat) (Q:Ex→St→Prop):Ex→St→Prop:=fun e s=>match e with
 | .nrm=>∃j,j<k∧I j s
 | e=>Q e s
def jz1 (res:List ARes) (r:V):Ex→St→Prop:=fun e s=>jce res (e,s)=some r
def ifK:V→(Bool→Prop)→Prop
 | .bool c,k=>k c
 | _,_=>False
def gdK:V→Bool→(Bool→Prop)→Prop
 | .bool c,b,k=>k (c == b)
 | .tup [],_,k=>k false
 | _,_,_=>False
section
variable {E:Env}{Yf:YF}{st:St}{ub:Nat}{K:St→Nat→Prop}{d:Option Nat}{nm:Bool}{Q:Ex→St→Prop}
theorem jxz {r:List AOpr}{K:St→Prop}:kOps E Yf r K st ub=Wn E Yf r st ub K:=propext Iff.rfl
theorem jx0:kNrm Q st=Q .nrm st:=propext Iff.rfl
theorem jhv {b:C}:jvh E Yf b Q .nrm st=wpC E Yf b st Q:=propext Iff.rfl
theorem jtu {b:C}{i:Nat}:jvh E Yf b Q (.exit i) st=Q (.exit i) st:=propext Iff.rfl
theorem jnw {b:C}:jvh E Yf b Q .ret st=Q .ret st:=propext Iff.rfl
theorem jyc {i:Nat}:kBlk i Q .nrm st=Q .nrm st:=propext Iff.rfl
theorem jjw {i j:Nat}:kBlk i Q (.exit j) st=if j=i then Q .nrm st else Q (.exit j) st:=propext Iff.rfl
theorem jyb {i:Nat}:kBlk i Q .ret st=Q .ret st:=propext Iff.rfl
theorem jxl {v:V}:QT K st d ub v=K (st.setT d v) (ub+64):=propext Iff.rfl
theorem jba {δ:Delta}:jaj K st d ub δ=K (st.app d δ) (ub+64):=propext Iff.rfl
theorem jx1 {a b:C}:kIf E Yf a b st Q true=wpC E Yf a st Q:=propext Iff.rfl
theorem jt7 {a b:C}:kIf E Yf a b st Q false=wpC E Yf b st Q:=propext Iff.rfl
theorem jx2 {o:AOpr}:kGd E Yf o st ub K true=j8 E Yf o st ub K:=propext Iff.rfl
theorem jt8 {o:AOpr}:kGd E Yf o st ub K false=K (st.setT o.dst jm) ub:=propext Iff.rfl
theorem jt5 {I:Nat→St→Prop}{k:Nat}:jt6 I k Q .nrm st = ∃j,j<k∧I j st:=propext Iff.rfl
theorem jpz {I:Nat→St→Prop}{k i:Nat}:jt6 I k Q (.exit i) st=Q (.exit i) st:=propext Iff.rfl
theorem jt4 {I:Nat→St→Prop}{k:Nat}:jt6 I k Q .ret st=Q .ret st:=propext Iff.rfl
theorem jyf {c:Bool}{k:Bool→Prop}:ifK (.bool c) k=k c:=propext Iff.rfl
theorem jyk {c b:Bool}{k:Bool→Prop}:gdK (.bool c) b k=k (c == b):=propext Iff.rfl
theorem jyj {b:Bool}{k:Bool→Prop}:gdK jm b k=k false:=propext Iff.rfl
theorem j3j {b:Bool}{k:Bool→Prop}:gdK (.tup []) b k=k false:=propext Iff.rfl
theorem j29:wpC E Yf .skip st Q=Q .nrm st:=propext Iff.rfl
theorem j98:wpC E Yf .ret st Q=Q .ret st:=propext Iff.rfl
theorem j3a {i:Nat}:wpC E Yf (.exit i) st Q=Q (.exit i) st:=propext Iff.rfl
theorem jxy {K:St→Prop}:Wn E Yf [] st ub K=K (st.setN ub):=propext Iff.rfl
theorem juh {ops:List AOpr}:wpC E Yf (.region ops) st Q=Wn E Yf ops st st.nx (kNrm Q):=propext Iff.rfl
theorem jz3 {a b:C}:wpC E Yf (.seq a b) st Q=wpC E Yf a st (jvh E Yf b Q):=propext Iff.rfl
theorem jny {i:Nat}{a:C}:wpC E Yf (.block i a) st Q=wpC E Yf a st (kBlk i Q):=propext Iff.rfl
theorem j3c {c:A}{a b:C}:wpC E Yf (.cond c a b) st Q=ifK (eval E st.tm c) (kIf E Yf a b st Q):=by
 rw[jvy]
 cases h:eval E st.tm c <;> simp[wpIf,ifK]
 rename_i t
 cases t <;> simp[kIf]
theorem jt3 {o:AOpr}{r:List AOpr}{K:St→Prop}:Wn E Yf (o::r) st ub K=j8 E Yf o st ub (kOps E Yf r K):=propext Iff.rfl
theorem jlp {op:AOp}{t:Nat}{b:Bool}:j8 E Yf ⟨d,op,some (t,b),nm⟩ st ub K=gdK (st.tm t) b (kGd E Yf ⟨d,op,none,nm⟩ st ub K):=by
 rw[jie]
 cases h:st.tm t with
 | bool c=>cases c <;> cases b <;> simp[Qv,gdK,kGd]
 | tup l=>cases l <;> simp[Qv,gdK,kGd]
 | _=>simp[Qv,gdK]
theorem j9x {x:A}:j8 E Yf ⟨d,.mov x,none,nm⟩ st ub K=QT K st d ub (eval E st.tm x):=j0q
theorem jxw {z:List V}:j8 E Yf ⟨d,.alloc z,none,nm⟩ st ub K=jaj K st d ub { v:=.ptr (jL d nm st.fb ub) ub 0,obs:=[(jL d nm st.fb ub,⟨ub,.cells z⟩)] }:=jq7
theorem j9z {sz:Nat}{x:A}:j8 E Yf ⟨d,.box sz x,none,nm⟩ st ub K=(((eval E st.tm x).cells.length=sz∧(eval E st.tm x).cells.all V.leaf=true)∧jaj K st d ub { v:=.ptr (jL d nm st.fb ub) ub 0,obs:=[(jL d nm st.fb ub,⟨ub,.cells (eval E st.tm x).cells⟩)] }):=j0r
theorem jxm {sz:Nat}{p x:A}:j8 E Yf ⟨d,.store sz p x,none,nm⟩ st ub K=jbm st sz (eval E st.tm x) (jaj K st d ub) (eval E st.tm p):=jqz
theorem jxr {t:TypeId}{x:A}:j8 E Yf ⟨d,.iface t x,none,nm⟩ st ub K=QT K st d ub (.iface t (eval E st.tm x)):=by rw[jT _ rfl rfl];simp only[aop,Yo,Qj];rfl
def jh8 (t:TypeId) (zero:V) (ok:Bool):V→Option V
 | .iface t' v=>if t'=t then some (if ok then .tup [v,.bool true] else v) else if ok then some (.tup [zero,.bool false]) else none
 | .nilif=>if ok then some (.tup [zero,.bool false]) else none
 | _=>none
theorem jt2 {t:TypeId}{zero:V}{ok:Bool}{x:A}:j8 E Yf ⟨d,.assert t zero ok x,none,nm⟩ st ub K=wpV (jh8 t zero ok (eval E st.tm x)) (QT K st d ub):=by
 refine Je rfl rfl fun du=>?_
 simp only[aop,jh8]
 generalize eval E st.tm x=vx
 cases vx with
 | iface t' v=>by_cases h:t'=t <;> cases ok <;> simp[h,one]
 | nilif=>cases ok <;> rfl
 | _=>rfl
theorem j2r {f:Fn}{a b:List A}:j8 E Yf ⟨d,.mkFn f a b,none,nm⟩ st ub K=QT K st d ub (.fn f (a.map (eval E st.tm)) (b.map (eval E st.tm))):=jvp
theorem j2o {c a b:A}:j8 E Yf ⟨d,.pick c a b,none,nm⟩ st ub K=wpV (jws (eval E st.tm c) (eval E st.tm a) (eval E st.tm b)) (QT K st d ub):=jvn
theorem j90 {op:BinOp}{x y:A}:j8 E Yf ⟨d,.bin op x y,none,nm⟩ st ub K=wpV (Y9 op (eval E st.tm x) (eval E st.tm y)) (QT K st d ub):=j0s
theorem kS_un {op:UnOp}{x:A}:j8 E Yf ⟨d,.un op x,none,nm⟩ st ub K=wpV (unV op (eval E st.tm x)) (QT K st d ub):=j48
theorem kS_eq {neg:Bool}{k:EqK}{x y:A}:j8 E Yf ⟨d,.eq neg k x y,none,nm⟩ st ub K=wpV (jvj st.ob neg k (eval E st.tm x) (eval E st.tm y)) (QT K st d ub):=j49
theorem j2s {g:Option Nat}{x:A}:j8 E Yf ⟨d,.load g x,none,nm⟩ st ub K=wpV (Qh st.ob g (eval E st.tm x)) (QT K st d ub):=jvq
theorem jls {x:A}:j8 E Yf ⟨d,.nilCheck x,none,nm⟩ st ub K=wpV (ja2 (eval E st.tm x)) (QT K st d ub):=jig
theorem jjr {off:Nat}{x:A}:j8 E Yf ⟨d,.fieldAddr off x,none,nm⟩ st ub K=wpV (WG off (eval E st.tm x)) (QT K st d ub):=jg1
theorem jxs {sz:Nat}{x i:A}:j8 E Yf ⟨d,.idxSl sz x i,none,nm⟩ st ub K=wpV (Jn sz (eval E st.tm x) (eval E st.tm i)) (QT K st d ub):=jq2
theorem jt1 {len sz:Nat}{x i:A}:j8 E Yf ⟨d,.idxArr len sz x i,none,nm⟩ st ub K=wpV (QE len sz (eval E st.tm x) (eval E st.tm i)) (QT K st d ub):=jov
theorem j2p {g:Option Nat}{off:Nat}{x:A}:j8 E Yf ⟨d,.part g off x,none,nm⟩ st ub K=wpV (j1y g off (eval E st.tm x)) (QT K st d ub):=jvo
theorem jt0 {x i:A}:j8 E Yf ⟨d,.idxStr x i,none,nm⟩ st ub K=wpV (QD (eval E st.tm x) (eval E st.tm i)) (QT K st d ub):=jou
theorem jtz {g:Option Nat}{len sz:Nat}{x i:A}:j8 E Yf ⟨d,.idxVal g len sz x i,none,nm⟩ st ub K=wpV (jey g len sz (eval E st.tm x) (eval E st.tm i)) (QT K st d ub):=jot
theorem jxn {x:A}{lo hi:Option A}:j8 E Yf ⟨d,.slStr x lo hi,none,nm⟩ st ub K=wpV (XZ (lo.map (eval E st.tm)) (hi.map (eval E st.tm)) (eval E st.tm x)) (QT K st d ub):=jq0
theorem j2n {sz:Nat}{x:A}{lo hi:Option A}:j8 E Yf ⟨d,.slSl sz x lo hi,none,nm⟩ st ub K=wpV (jaq sz (lo.map (eval E st.tm)) (hi.map (eval E st.tm)) (eval E st.tm x)) (QT K st d ub):=jvm
theorem jtx {x:A}:j8 E Yf ⟨d,.lenStr x,none,nm⟩ st ub K=wpV (jht (eval E st.tm x)) (QT K st d ub):=jor
theorem jxq {x:A}:j8 E Yf ⟨d,.lenSl x,none,nm⟩ st ub K=wpV (Q7 (eval E st.tm x)) (QT K st d ub):=jq1
theorem jty {x:A}:j8 E Yf ⟨d,.lenMap x,none,nm⟩ st ub K=wpV (jhu st.ob (eval E st.tm x)) (QT K st d ub):=jos
theorem jpy {x:A}{i:Nat}:j8 E Yf ⟨d,.extract x i,none,nm⟩ st ub K=wpV (jdk i (eval E st.tm x)) (QT K st d ub):=jkp
theorem j2t {k:IntKind}{x:A}:j8 E Yf ⟨d,.conv k x,none,nm⟩ st ub K=wpV (XY k (eval E st.tm x)) (QT K st d ub):=jvr
theorem jtv {b:Bool}{xs:List A}:j8 E Yf ⟨d,.minmax b xs,none,nm⟩ st ub K=wpV (jbx b (xs.map (eval E st.tm))) (QT K st d ub):=jop
theorem jxv {z:List V}{ps:List (Nat × Nat × A)}:j8 E Yf ⟨d,.build z ps,none,nm⟩ st ub K=wpV ((fill z (jq (eval E st.tm) ps)).map .agg) (QT K st d ub):=jq6
theorem jtw {q:LK}{z:V}{ok:Bool}{m k:A}:j8 E Yf ⟨d,.lookup q z ok m k,none,nm⟩ st ub K=wpV (Xe st.ob q z ok (eval E st.tm m) (eval E st.tm k)) (QT K st d ub):=joq
end
attribute [simp ↓] j29 j98 j3a juh jz3 jny j3c jxy jt3 jlp j9x jxw j9z jxm jxr jt2 j2r j2o j90 kS_un kS_eq j2s jls jjr jxs jt1 j2p jt0 jtz jxn j2n jtx jxq jty jpy j2t jtv jxv jtw
attribute [simp ↓] jxz jx0 jhv jtu jnw jyc jjw jyb jxl jba jx1 jt7 jx2 jt8 jt5 jpz jt4
attribute [simp] jyf jyk jyj j3j j0o jvl jdq jvx jko
def V.plain:V→Bool
 | .agg cs=>cs.all V.pureLeaf
 | .fn ..=>false
 | v=>v.pureLeaf
theorem Yj {st:St}{keep:Bool}{i:Nat}{v:V}(h:v.pureLeaf=true):jr st keep i v=some v:=by
 cases v with
 | sl t nl n cs=>cases t with
  | none=>rfl
  | some t=>cases h
 | _=>first|rfl|(simp[V.pureLeaf]at h;done)|(simp only[jr,Jm,h,if_true])
theorem jmr {v:V}(h:v.pureLeaf=true):v.tok=[]:=by
 cases v with
 | sl t nl n cs=>cases t with
  | none=>rfl
  | some t=>cases h
 | _=>first|rfl|(simp[V.pureLeaf]at h;done)
theorem jcq {st:St}{keep:Bool}:∀ {i:Nat}{cs:List V},cs.all V.pureLeaf=true→Xc st keep i cs=some cs
 | _,[],_=>rfl
 | i,c::cs,h=>by
  simp only[List.all_cons,Bool.and_eq_true]at h
  simp[Xc,Yj h.1,jcq h.2]
theorem jr9 {st:St}{keep:Bool}{i:Nat}{v:V}(h:v.plain=true):Xv st keep i v=some v:=by
 cases v with
 | agg cs=>simp[Xv,jcq (show cs.all V.pureLeaf=true from h)]
 | fn=>cases h
 | _=>refine Eq.trans (b:=jr st keep i _) rfl (Yj ?_);exact h
theorem jbv {v:V}(h:v.plain=true):v.toks=[]:=by
 cases v with
 | agg cs=>
  simp only[V.toks,List.flatMap_eq_nil_iff]
  intro x hx
  exact jmr (List.all_eq_true.1 h x hx)
 | fn=>cases h
 | sl t nl n cs=>cases t with
  | none=>rfl
  | some t=>cases h
 | _=>first|rfl|cases h
theorem jay {st:St}{keep:Bool}:∀ {i:Nat}{l:List V},l.all V.plain=true→JU st keep i l=some l
 | _,[],_=>rfl
 | i,c::cs,h=>by
  simp only[List.all_cons,Bool.and_eq_true]at h
  simp[JU,jr9 h.1,jay h.2]
def j00:List V→V
 | [v]=>v
 | l=>.tup l
theorem QY {res:List ARes}{st:St}{l:List V}(hd:st.df=[]) (hr:res.mapM (jw st)=some l) (hl:l.all V.plain=true):jce res (.ret,st)=some (j00 l):=by
 have ht:l.flatMap V.toks=[]:=by
  rw[List.flatMap_eq_nil_iff]
  intro x hx
  exact jbv (List.all_eq_true.1 hl x hx)
 simp only[jce,Wj hd,Wb hd,if_true,hr,Option.bind_some,Wp,ht,nodup,jay hl,if_true]
 match l with
 | []=>rfl
 | [v]=>rfl
 | v::u::l=>rfl
theorem JP {res:List ARes}{st:St}{r:V}{l:List V}(hd:st.df=[]) (hr:res.mapM (jw st)=some l) (hl:l.all V.plain=true) (h:j00 l=r):jz1 res r .ret st:=by
 subst h
 exact QY hd hr hl
attribute [simp] fill jq
theorem jex {ub:Nat}{v:V}(h:v.pureLeaf=true):YD ub v=v:=by
 cases v with
 | sl t nl n cs=>cases t with
  | none=>rfl
  | some t=>cases h
 | _=>rfl
theorem jew {ub:Nat}{v:V}(h:v.plain=true):jb8 ub v=v:=by
 cases v with
 | agg cs=>
  have:cs.map (YD ub)=cs:=by
   conv=>rhs;rw[← List.map_id cs]
   exact List.map_congr_left fun x hx=>jex (List.all_eq_true.1 h x hx)
  simp only[jb8,this]
 | sl t nl n cs=>exact jex h
 | _=>rfl
theorem Jk {ub:Nat}{v:V}(h:v.plain=true):YB ub v=some { v:=v }:=by
 have h1:toksRes v=[]:=by
  cases v with
  | tup vs=>cases h
  | _=>exact jbv h
 have h2:jb9 ub v=v:=by
  cases v with
  | tup vs=>cases h
  | undef=>cases h
  | _=>exact jew (ub:=ub) h
 simp[YB,h1,h2]
theorem XB {ub:Nat}{l:List V}(h:l.all V.plain=true):YB ub (.tup l)=some { v:=.tup l }:=by
 have h1:toksRes (.tup l)=[]:=by
  simp only[toksRes,List.flatMap_eq_nil_iff]
  intro x hx
  exact jbv (List.all_eq_true.1 h x hx)
 have h2:jb9 ub (.tup l)=.tup l:=by
  have:l.map (jb8 ub)=l:=by
   conv=>rhs;rw[← List.map_id l]
   exact List.map_congr_left fun x hx=>jew (List.all_eq_true.1 h x hx)
  simp only[jb9,this]
 simp[YB,h1,h2]
@[simp] theorem j3y (ob:ZO) (neg:Bool) (l:List LK) (a b:List V):jvj ob neg (.struct l) (.agg a) (.agg b)=(JV l a b).map fun b=>.bool (xor neg b):=rfl
attribute [simp] JV Wq
theorem jU {E:Env}{f:FuncId}{af:AF}{args:List V}{r:V}(hf:E.fc f=some af) (h:wpC E YC af.body (Qf args) (jz1 af.res r)):Ev E f args r:=Ev_wp hf h
theorem WL {E:Env}{Yf:YF}{a:C}{Q:Ex→St→Prop}(I:Nat→St→Prop) {n:Nat}{st:St}(h0:I n st) (hs:∀k s,I k s→wpC E Yf a s (jt6 I k Q)):wpC E Yf (.loop a) st Q :=
 j0n I h0 hs
theorem Xg {E:Env}{Yf:YF}{st:St}{ub:Nat}{K:St→Nat→Prop}{d:Option Nat}{nm:Bool}{f:FuncId}{xs:List A}{vs:List V}{v:V}(hx:xs.map (eval E st.tm)=vs) (hs:E.sh nm f=false) (hp:(vs.all fun v=>v.strip.pureTop)=true)
 (hv:Ev E f (vs.map V.strip) v) (h:wpD (YB ub v) (jaj K st d ub)):j8 E Yf ⟨d,.call f xs,none,nm⟩ st ub K:=jq5 hx hs hp hv h
def AOp.plainOp:AOp→Bool
 | .call ..|.callV ..|.entry _|.nextMap _=>false
 | _=>true
def AOp.valOp:AOp→Bool
 | .mov _|.pick ..|.bin ..|.eq ..|.un ..|.build ..|.load ..|.nilCheck _|.fieldAddr ..|.idxSl ..|.idxArr ..|.part ..|.idxStr ..|.idxVal ..|.slStr ..|.slSl ..|.lenStr _|.lenSl _|.lenMap _|.extract ..|.mkFn ..|.lookup ..|.iface ..|.assert ..|.conv ..|.minmax ..=>true
 | _=>false
def kDr (E:Env) (r:List AOpr) (K:List FP→St→Prop):St→Nat→Prop:=fun st ub=>jF E r st ub K
def kFp (f:FP) (K:List FP→St→Prop):List FP→St→Prop:=fun fs s=>K (f::fs) s
def kDQ (free:List (Nat × Nat)) (Q:Ex→St→Prop):List FP→St→Prop:=fun fs s=>Jo free fs=true∧jad fs=true∧Q .nrm s
def j97 (E:Env) (o:AOpr) (r:List AOpr) (st:St) (ub:Nat) (K:List FP→St→Prop):Bool→Prop
 | true=>jF E (o::r) st ub K
 | false=>jF E r (st.setT o.dst jm) (ub+64) (kFp {} K)
def YS (E:Env) (r:List AOpr) (K:List FP→St→Prop) (ρ:A→V) (op:AOp) (st:St) (d:Option Nat) (ub:Nat):Delta→Prop:=fun δ=>jF E r (st.app d δ) (ub+64) (kFp (jbe ρ op δ) K)
theorem jil {call:FuncId→List V→Option V}{ρ:A→V}{ob:ZO}{tk:Nat→Bool}{ro du ub:Nat}{op:AOp}{δ:Delta}(h:op.valOp=true) (ha:aop call ρ ob tk ro du ub op=some δ):∃v,δ = { v:=v }:=by
 have key:∀ {o:Option V},o.bind one=some δ→∃v,δ = { v:=v }:=fun {o} hb=>by
  cases o with
  | none=>cases hb
  | some v=>cases hb;exact⟨v,rfl⟩
 cases op <;> first|(cases h;done)|skip
 all_goals simp only[aop]at ha
 all_goals first
  | exact key ha
  | exact key (o:=some _) ha
  | (repeat' split at ha) <;> first|(cases ha;done)|exact key ha|exact key (o:=some _) ha|skip
 all_goals (try simp only[Option.bind_eq_some_iff]at ha)
 all_goals first
  | (obtain⟨_,_,hb⟩:=ha;exact key (o:=some _) hb)
  | skip
 all_goals
  obtain⟨_,_,x,_,hb⟩:=ha
  first|exact key (o:=some _) hb|(rcases x with _|⟨_,_⟩ <;> exact key (o:=some _) hb)
def kPin (E:Env) (fs:List AOpr) (st:St) (Q:Ex→St→Prop):St→Nat→Prop:=fun s ub=>jF E fs s ub fun _ s'=>Yc fs st s'=true∧Q .nrm s'
def kPQ (fs:List AOpr) (st:St) (Q:Ex→St→Prop):List FP→St→Prop:=fun _ s'=>Yc fs st s'=true∧Q .nrm s'
section
variable {E:Env}{Yf:YF}{st:St}{ub:Nat}{K:List FP→St→Prop}{d:Option Nat}{nm:Bool}{Q:Ex→St→Prop}{r:List AOpr}
theorem j99 {o:AOpr}{fs:List AOpr}:wpC E Yf (.pin o fs) st Q=j8 E Yf o st st.nx (kPin E fs st Q):=propext Iff.rfl
theorem jxx {fs:List AOpr}{s:St}:kPin E fs st Q s ub=jF E fs s ub (kPQ fs st Q):=propext Iff.rfl
theorem j2u {fs:List AOpr}{f:List FP}{s:St}:kPQ fs st Q f s=(Yc fs st s=true∧Q .nrm s):=propext Iff.rfl
theorem jrv {s s':St}:Yc [] s s'=true:=by simp[Yc]
theorem jo2 {op:AOp}{gd:Option (Nat × Bool)}{t:Nat}{fs:List AOpr}{s s':St}:Yc (⟨some t,op,gd,nm⟩::fs) s s'=(V.eqb (s.tm t) (s'.tm t) && Yc fs s s'):=by simp[Yc]
theorem jyx (v:V):V.eqb v v=true:=jdl v
theorem j2z:kDr E r K st ub=jF E r st ub K:=propext Iff.rfl
theorem j2x {f:FP}{fs:List FP}:kFp f K fs st=K (f::fs) st:=propext Iff.rfl
theorem j27 {free:List (Nat × Nat)}{fs:List FP}:kDQ free Q fs st=(Jo free fs=true∧jad fs=true∧Q .nrm st):=propext Iff.rfl
theorem j3b {ops:List AOpr}{free:List (Nat × Nat)}:wpC E Yf (.draw ops free) st Q=jF E ops st st.nx (kDQ free Q):=propext Iff.rfl
theorem j2y:jF E [] st ub K=K [] (st.setN ub):=propext Iff.rfl
theorem jjv {o:AOpr}:j97 E o r st ub K true=jF E (o::r) st ub K:=propext Iff.rfl
theorem jb7 {o:AOpr}:j97 E o r st ub K false=jF E r (st.setT o.dst jm) (ub+64) (kFp {} K):=propext Iff.rfl
theorem jt9 {op:AOp}{t:Nat}{b:Bool}:jF E (⟨d,op,some (t,b),nm⟩::r) st ub K=gdK (st.tm t) b (j97 E ⟨d,op,none,nm⟩ r st ub K):=by
 have hn:AOpr.name ⟨d,op,some (t,b),nm⟩=AOpr.name ⟨d,op,none,nm⟩:=rfl
 have ht:∀c,st.tm t=.bool c→(jF E (⟨d,op,some (t,b),nm⟩::r) st ub K=j97 E ⟨d,op,none,nm⟩ r st ub K (c == b)):=fun c hc=>by
  cases hcb:(c == b)
  ·have:wanted ⟨d,op,some (t,b),nm⟩ st.tm=some false:=by simp[wanted,hc,hcb]
   rw[jF,this,jb7,← Qj];rfl
  ·have:wanted ⟨d,op,some (t,b),nm⟩ st.tm=some true:=by simp[wanted,hc,hcb]
   rw[jF,this,jjv,jF];rfl
 cases h:st.tm t with
 | bool c=>rw[ht c h];rfl
 | tup l=>cases l with
  | nil=>
   have:wanted ⟨d,op,some (t,b),nm⟩ st.tm=some false:=by simp[wanted,h]
   rw[jF,this]
   show _=j97 E ⟨d,op,none,nm⟩ r st ub K false
   rw[jb7,← Qj];rfl
  | cons a l=>
   have:wanted ⟨d,op,some (t,b),nm⟩ st.tm=none:=by simp[wanted,h]
   rw[jF,this];rfl
 | _=>
  have:wanted ⟨d,op,some (t,b),nm⟩ st.tm=none:=by simp[wanted,h]
  rw[jF,this];rfl
theorem jt {op:AOp}(h:op.plainOp=true):jF E (⟨d,op,none,nm⟩::r) st ub K=wpD (aop (fun _ _=>none) (eval E st.tm) st.ob st.tk st.ro (AOpr.name ⟨d,op,none,nm⟩ st.fb ub) ub op) (YS E r K (eval E st.tm) op st d ub):=by
 cases op <;> first|cases h;done|(simp only[jF,wanted,jD,AOp.far,true_and];rfl)
theorem Jt {op:AOp}(h:op.valOp=true):jF E (⟨d,op,none,nm⟩::r) st ub K=j8 E Yf ⟨d,op,none,nm⟩ st ub (kDr E r (kFp { ro:=rdOb (eval E st.tm) op,rt:=rdTk (eval E st.tm) op } K)):=by
 have h1:op.plainOp=true:=by cases op <;> first|rfl|cases h
 have h2:op.isCall=false:=by cases op <;> first|rfl|cases h
 have h3:op.isNext=false:=by cases op <;> first|rfl|cases h
 rw[jt h1,jT _ h2 h3]
 refine propext ⟨?_,?_⟩
 ·rintro⟨δ,hδ,hk⟩
  obtain⟨v,rfl⟩:=jil h hδ
  exact⟨_,hδ,hk⟩
 ·rintro⟨δ,hδ,hk⟩
  obtain⟨v,rfl⟩:=jil h hδ
  exact⟨_,hδ,hk⟩
theorem jx3 {sz:Nat}{p x:A}:jF E (⟨d,.store sz p x,none,nm⟩::r) st ub K=jbm st sz (eval E st.tm x) (YS E r K (eval E st.tm) (.store sz p x) st d ub) (eval E st.tm p):=by
 rw[jt rfl]
 simp only[aop]
 generalize he:YS E r K (eval E st.tm) (.store sz p x) st d ub=k
 clear he
 generalize eval E st.tm p=vp
 cases vp <;> simp only[jak,jbm]
 rename_i l u off
 cases j1 st.ob l u with
 | none=>simp[wpD]
 | some cs=>simp only[Option.bind_some,jdq,jM,Option.some.injEq,exists_eq_left',Nat.ble_eq,and_assoc]
theorem jya {z:List V}:jF E (⟨d,.alloc z,none,nm⟩::r) st ub K=YS E r K (eval E st.tm) (.alloc z) st d ub { v:=.ptr (jL d nm st.fb ub) ub 0,obs:=[(jL d nm st.fb ub,⟨ub,.cells z⟩)] }:=by
 rw[jt rfl];simp only[aop,Jh,jM,Jq]
theorem j95 {sz:Nat}{x:A}:jF E (⟨d,.box sz x,none,nm⟩::r) st ub K=(((eval E st.tm x).cells.length=sz∧(eval E st.tm x).cells.all V.leaf=true)∧YS E r K (eval E st.tm) (.box sz x) st d ub { v:=.ptr (jL d nm st.fb ub) ub 0,obs:=[(jL d nm st.fb ub,⟨ub,.cells (eval E st.tm x).cells⟩)] }):=by
 rw[jt rfl];simp only[aop,Jh,jdq,jM,Jq]
theorem j28 {ρ:A→V}{op:AOp}{v:V}:YS E r K ρ op st d ub { v:=v } = jF E r (st.setT d v) (ub+64) (kFp (jbe ρ op { v:=v }) K):=by rw[YS,Qj]
theorem jug {ρ:A→V}{op:AOp}{δ:Delta}:YS E r K ρ op st d ub δ=jF E r (st.app d δ) (ub+64) (kFp (jbe ρ op δ) K):=propext Iff.rfl
theorem Xy {f:FuncId}{xs:List A}{args:List V}{v:V}(hev:Ev E f args v) (hx:(xs.map fun x=>(eval E st.tm x).strip)=args) (hs:E.sh nm f=false) (hp:args.all V.pureTop=true) (h:wpD (YB ub v) (YS E r K (eval E st.tm) (.call f xs) st d ub)) :
 jF E (⟨d,.call f xs,none,nm⟩::r) st ub K:=by
 have hp':(xs.all fun x=>(eval E st.tm x).strip.pureTop)=true:=by rw[← hx,List.all_map]at hp;exact hp
 have hsh:jD E nm (eval E st.tm) (.call f xs)=none:=by simp only[jD,hs,hp',Bool.not_false,Bool.and_self,if_true]
 obtain⟨δ,hδ,hk⟩:=h
 simp only[jF,wanted,hsh,AOp.far,true_and]
 exact⟨hp',v,hx▸hev,δ,hδ,hk⟩
theorem jV {K:St→Nat→Prop}{f:FuncId}{xs:List A}{args:List V}{v:V}(hev:Ev E f args v) (hx:(xs.map fun x=>(eval E st.tm x).strip)=args) (hs:E.sh nm f=false) (hp:args.all V.pureTop=true) (h:wpD (YB ub v) (jaj K st d ub)) :
 j8 E Yf ⟨d,.call f xs,none,nm⟩ st ub K:=by
 have hp':(xs.all fun x=>(eval E st.tm x).strip.pureTop)=true:=by rw[← hx,List.all_map]at hp;exact hp
 have hsh:jD E nm (eval E st.tm) (.call f xs)=none:=by simp only[jD,hs,hp',Bool.not_false,Bool.and_self,if_true]
 obtain⟨δ,hδ,hk⟩:=h
 simp only[j8,wanted,jj,hsh,Qk]
 exact⟨by rw[hx];exact hp,v,hx▸hev,δ,hδ,hk⟩
end
/-! What a loop leaves alone. -/
def inR (t:Nat):List (Nat × Nat)→Bool
 | []=>false
 | (a,b)::l=>(decide (a≤t) && decide (t≤b)) || inR t l
@[simp] theorem inR_nil (t:Nat):inR t []=false:=rfl
@[simp] theorem inR_cons (t a b:Nat) (l:List (Nat × Nat)):inR t ((a,b)::l)=((decide (a≤t) && decide (t≤b)) || inR t l):=rfl
def C.ws:C→List Nat
 | .region ops|.draw ops _=>ops.filterMap (·.dst)
 | .pin o fs=>(o::fs).filterMap (·.dst)
 | .seq a b|.cond _ a b=>a.ws++b.ws
 | .block _ a|.loop a=>a.ws
 | _=>[]
def C.noRF:C→Bool
 | .rangeFunc ..=>false
 | .seq a b|.cond _ a b=>a.noRF && b.noRF
 | .block _ a|.loop a=>a.noRF
 | _=>true
structure Keeps (p:Nat→Prop) (st s:St):Prop where
 b:s.fb=st.fb
 r:s.ro=st.ro
 d:s.df=st.df
 t:∀t,¬ p t→s.tm t=st.tm t
theorem Keeps.rfl' (p:Nat→Prop) (st:St):Keeps p st st:=⟨rfl,rfl,rfl,fun _ _=>rfl⟩
theorem Keeps.trans {p q q':Nat→Prop}{a b c:St}(h:Keeps p a b) (h':Keeps q b c) (hp:∀t,p t→q' t) (hq:∀t,q t→q' t):Keeps q' a c :=
 ⟨h'.b.trans h.b,h'.r.trans h.r,h'.d.trans h.d,fun t ht=>(h'.t t fun h=>ht (hq t h)).trans (h.t t fun h=>ht (hp t h))⟩
theorem Keeps.weak {p q:Nat→Prop}{a b:St}(h:Keeps p a b) (hp:∀t,p t→q t):Keeps q a b:=⟨h.b,h.r,h.d,fun t ht=>h.t t fun h=>ht (hp t h)⟩
theorem jnb {tm:Nat→V}{d:Option Nat}{v:V}{t:Nat}(h:¬ t∈d.toList):put tm d v t=tm t:=by
 cases d with
 | none=>rfl
 | some d=>exact J9 tm v (fun e=>h (by simp[e]))
theorem Keeps.app {st:St}{d:Option Nat}{δ:Delta}:Keeps (·∈d.toList) st (st.app d δ):=⟨rfl,rfl,rfl,fun _ ht=>jnb ht⟩
section
variable {E:Env}{Yf:YF}
theorem jci {o:AOpr}{st:St}{ub:Nat}{K:St→Nat→Prop}(hk:j8 E Yf o st ub K):j8 E Yf o st ub fun s u=>K s u∧Keeps (·∈o.dst.toList) st s:=by
 have call:∀ {f:FuncId}{xs:List V},Qk E f xs st o.dst ub K→Qk E f xs st o.dst ub fun s u=>K s u∧Keeps (·∈o.dst.toList) st s:=by
  rintro f xs ⟨hp,v,hv,δ,hδ,hK⟩
  exact⟨hp,v,hv,δ,hδ,hK,Keeps.app⟩
 unfold j8 at hk ⊢
 cases hw:wanted o st.tm with
 | none=>simp only[hw]at hk
 | some b=>
  cases b with
  | false=>simp only[hw]at hk ⊢;exact⟨hk,rfl,rfl,rfl,fun _ ht=>jnb ht⟩
  | true=>
   simp only[hw]at hk ⊢
   cases hy:jj (eval E st.tm) o.op with
   | some x=>
    obtain⟨l,u,xs⟩:=x
    simp only[hy]at hk ⊢
    obtain⟨r,hr,hK⟩:=hk
    exact⟨r,hr,hK,rfl,rfl,rfl,fun _ ht=>jnb ht⟩
   | none=>
   simp only[hy]at hk ⊢
   cases hsh:jD E o.nm (eval E st.tm) o.op with
   | some fx=>
    simp only[hsh]at hk ⊢
    rcases hk with⟨h1,n,l,hr,hne,hK⟩|⟨h1,v,hv,δ,hδ,hK⟩
    ·exact .inl ⟨h1,n,l,hr,hne,fun r hm=>⟨hK r hm,rfl,rfl,rfl,fun _ ht=>jnb ht⟩⟩
    ·exact .inr ⟨h1,v,hv,δ,hδ,hK,Keeps.app⟩
   | none=>
    simp only[hsh]at hk ⊢
    cases ho:o.op <;> simp only[ho]at hk ⊢
    case call f xs=>exact call hk
    case callV q xs=>
     obtain⟨f,first,captured,hev,hk⟩:=hk
     exact⟨f,first,captured,hev,call hk⟩
    case nextMap x=>
     obtain⟨l,hl,hK⟩:=hk
     exact⟨l,hl,fun δ hδ=>⟨hK δ hδ,Keeps.app⟩⟩
    all_goals
     obtain⟨δ,hδ,hK⟩:=hk
     exact⟨δ,hδ,hK,Keeps.app⟩
theorem mem_ws_cons {o:AOpr}{r:List AOpr}{t:Nat}:t∈(o::r).filterMap (·.dst) ↔ t∈o.dst.toList∨t∈r.filterMap (·.dst):=by
 cases h:o.dst with
 | none=>simp[h]
 | some d=>simp[h]
theorem jdp:∀ {ops:List AOpr}{st:St}{ub:Nat}{K:St→Prop},Wn E Yf ops st ub K→Wn E Yf ops st ub fun s=>K s∧Keeps (·∈ops.filterMap (·.dst)) st s
 | [],st,ub,K,hk=>⟨hk,rfl,rfl,rfl,fun _ _=>rfl⟩
 | o::r,st,ub,K,hk=>by
  refine WM (fun s u h=>?_) (jci hk)
  refine jbo (fun s' h'=>?_) (jdp h.1)
  exact⟨h'.1,h.2.trans h'.2 (fun t ht=>mem_ws_cons.2 (.inl ht)) (fun t ht=>mem_ws_cons.2 (.inr ht))⟩
theorem Wu:∀ {ops:List AOpr}{st:St}{ub:Nat}{K:List FP→St→Prop},jF E ops st ub K→jF E ops st ub fun f s=>K f s∧Keeps (·∈ops.filterMap (·.dst)) st s
 | [],st,ub,K,hk=>⟨hk,rfl,rfl,rfl,fun _ _=>rfl⟩
 | o::r,st,ub,K,hk=>by
  have key:∀ {δ:Delta}{f:List FP→List FP}{ub:Nat},jF E r (st.app o.dst δ) ub (fun fs s=>K (f fs) s)→jF E r (st.app o.dst δ) ub fun fs s=>K (f fs) s∧Keeps (·∈(o::r).filterMap (·.dst)) st s:=fun h=>
   jz (fun f s h'=>⟨h'.1,Keeps.app.trans h'.2 (fun t ht=>mem_ws_cons.2 (.inl ht)) (fun t ht=>mem_ws_cons.2 (.inr ht))⟩) (Wu h)
  unfold jF at hk ⊢
  cases hw:wanted o st.tm with
  | none=>simp only[hw]at hk
  | some b=>
   cases b with
   | false=>simp only[hw]at hk ⊢;exact key (f:=fun fs=>{}::fs) hk
   | true=>
    simp only[hw]at hk ⊢
    cases hsh:jD E o.nm (eval E st.tm) o.op with
    | some fx=>
     simp only[hsh]at hk ⊢
     rcases hk with⟨h1,v,hv,δ,hδ,hK⟩|⟨h1,h2,a',v,ha,hv,δ,hδ,hK⟩|⟨h1,h2,δ,hδ,hK⟩
     ·exact .inl ⟨h1,v,hv,δ,hδ,key (f:=fun fs=>{ wt:=δ.wt,all:=true,seen:=fun l=>(st.ob l).isSome }::fs) hK⟩
     ·exact .inr (.inl ⟨h1,h2,a',v,ha,hv,δ,hδ,key (f:=fun fs=>{ wo:=δ.wo,all:=true,seen:=fun l=>(st.ob l).isSome,nw:=true }::fs) hK⟩)
     ·exact .inr (.inr ⟨h1,h2,δ,hδ,key (f:=fun fs=>{ wo:=δ.wo,nw:=true }::fs) hK⟩)
    | none=>
     simp only[hsh]at hk ⊢
     refine⟨hk.1,?_⟩
     have hk:=hk.2
     cases ho:o.op <;> simp only[ho]at hk ⊢
     case call f xs=>
      obtain⟨h1,v,hv,δ,hδ,hK⟩:=hk
      exact⟨h1,v,hv,δ,hδ,key (f:=fun fs=>jbe (eval E st.tm) (.call f xs) δ::fs) hK⟩
     case callV q xs=>
      obtain⟨f,first,captured,hev,h1,v,hv,δ,hδ,hK⟩:=hk
      exact⟨f,first,captured,hev,h1,v,hv,δ,hδ,key (f:=fun fs=>jbe (eval E st.tm) (.callV q xs) δ::fs) hK⟩
     all_goals
      obtain⟨δ,hδ,hK⟩:=hk
      exact⟨δ,hδ,key (f:=fun fs=>jbe (eval E st.tm) _ δ::fs) hK⟩
theorem jq8:∀ {c:C},c.noRF=true→∀ {st:St}{Q:Ex→St→Prop},wpC E Yf c st Q→wpC E Yf c st fun e s=>Q e s∧Keeps (·∈c.ws) st s:=by
 intro c
 induction c with
 | skip=>intro _ st Q hk;exact⟨hk,Keeps.rfl' _ _⟩
 | ret=>intro _ st Q hk;exact⟨hk,Keeps.rfl' _ _⟩
 | exit id=>intro _ st Q hk;exact⟨hk,Keeps.rfl' _ _⟩
 | stuck=>intro _ st Q hk;exact hk
 | rangeFunc f ps a b=>intro hn;cases hn
 | region ops=>intro _ st Q hk;exact jdp hk
 | draw ops free=>intro _ st Q hk;exact jz (fun f s h=>⟨h.1.1,h.1.2.1,h.1.2.2,h.2⟩) (Wu hk)
 | pin o fs=>intro _ st Q hk;exact WM (fun s u h=>jz (fun f s' h'=>⟨h'.1.1,h'.1.2,h.2.trans h'.2 (fun t ht=>mem_ws_cons.2 (.inl ht)) (fun t ht=>mem_ws_cons.2 (.inr ht))⟩) (Wu h.1)) (jci hk)
 | seq a b iha ihb=>
  intro hn st Q hk
  have hn:=Bool.and_eq_true_iff.1 hn
  rw[jz3]
  refine Jz (fun e s he=>?_) (iha hn.1 hk)
  obtain⟨he,hf⟩:=he
  cases e
  ·refine Jz (fun e s' he'=>?_) (ihb hn.2 he)
   exact⟨he'.1,hf.trans he'.2 (fun t ht=>List.mem_append.2 (.inl ht)) (fun t ht=>List.mem_append.2 (.inr ht))⟩
  ·exact⟨he,hf.weak (fun t ht=>List.mem_append.2 (.inl ht))⟩
  ·exact⟨he,hf.weak (fun t ht=>List.mem_append.2 (.inl ht))⟩
 | cond q a b iha ihb=>
  intro hn st Q hk
  have hn:=Bool.and_eq_true_iff.1 hn
  obtain⟨t,ht,h1,h2⟩:=hk
  exact⟨t,ht,fun e=>Jz (fun e s he=>⟨he.1,he.2.weak (fun t ht=>List.mem_append.2 (.inl ht))⟩) (iha hn.1 (h1 e)),
   fun e=>Jz (fun e s he=>⟨he.1,he.2.weak (fun t ht=>List.mem_append.2 (.inr ht))⟩) (ihb hn.2 (h2 e))⟩
 | block id a ih=>
  intro hn st Q hk
  rw[jny]
  refine Jz (fun e s he=>?_) (ih hn hk)
  obtain⟨he,hf⟩:=he
  cases e
  ·exact⟨he,hf⟩
  ·simp only[jjw]at he ⊢
   split at he
   ·rename_i hi;simp only[hi,if_true];exact⟨he,hf⟩
   ·rename_i hi;simp only[hi,if_false];exact⟨he,hf⟩
  ·exact⟨he,hf⟩
 | loop a ih=>
  intro hn st Q hk
  obtain⟨N,hk⟩:=hk
  refine⟨N,?_⟩
  have key:∀ (N:Nat) (st:St),YN (wpC E Yf a) N st Q→YN (wpC E Yf a) N st fun e s=>Q e s∧Keeps (·∈a.ws) st s:=by
   intro N
   induction N with
   | zero=>intro st h;exact h
   | succ N ihN=>
    intro st h
    refine Jz (fun e s he=>?_) (ih hn h)
    obtain⟨he,hf⟩:=he
    cases e
    ·exact Qu (W:=wpC E Yf a) (fun _ _ _ h hk=>Jz h hk) (fun e s' he'=>⟨he'.1,hf.trans he'.2 (fun _ h=>h) (fun _ h=>h)⟩) (ihN s he)
    ·exact⟨he,hf⟩
    ·exact⟨he,hf⟩
  exact key N st hk
theorem Ye {a:C}{Q:Ex→St→Prop}{n:Nat}{st:St}(ws:List (Nat × Nat)) (I:Nat→St→Prop) (hn:a.noRF=true) (hw:(a.ws.all fun t=>inR t ws)=true) (h0:I n st)
 (hs:∀k s,I k s→Keeps (fun t=>inR t ws=true) st s→wpC E Yf a s (jt6 I k Q)):wpC E Yf (.loop a) st Q:=by
 refine WL (fun k s=>I k s∧Keeps (fun t=>inR t ws=true) st s) (n:=n) ⟨h0,Keeps.rfl' _ _⟩ fun k s ⟨hI,hf⟩=>?_
 refine Jz (fun e s' he=>?_) (jq8 hn (hs k s hI hf))
 obtain⟨he,hf'⟩:=he
 cases e
 ·obtain⟨j,hj,hI'⟩:=he
  exact⟨j,hj,hI',hf.trans hf' (fun _ h=>h) (fun t ht=>List.all_eq_true.1 hw t ht)⟩
 ·exact he
 ·exact he
def kUp (I:Nat→St→Prop) (N i:Nat) (Q:Ex→St→Prop):Ex→St→Prop:=fun e s=>match e with
 | .nrm=>i<N∧I (i+1) s
 | e=>Q e s
theorem jE {a:C}{Q:Ex→St→Prop}{st:St}(ws:List (Nat × Nat)) (N:Nat) (I:Nat→St→Prop) (hn:a.noRF=true) (hw:(a.ws.all fun t=>inR t ws)=true) (h0:I 0 st)
 (hs:∀i s,i≤N→I i s→Keeps (fun t=>inR t ws=true) st s→wpC E Yf a s (kUp I N i Q)):wpC E Yf (.loop a) st Q:=by
 refine Ye (n:=N) ws (fun k s=>∃i,k=N - i∧i≤N∧I i s) hn hw ⟨0,rfl,Nat.zero_le _,h0⟩ ?_
 rintro k s ⟨i,rfl,hi,hI⟩ hf
 refine Jz (fun e s' he=>?_) (hs i s hi hI hf)
 cases e
 ·obtain⟨h1,h2⟩:=he
  exact⟨N - (i+1),by omega,i+1,rfl,by omega,h2⟩
 ·exact he
 ·exact he
end
theorem j2m {I:Nat→St→Prop}{N i:Nat}{Q:Ex→St→Prop}{st:St}:kUp I N i Q .nrm st=(i<N∧I (i+1) st):=propext Iff.rfl
theorem jxk {I:Nat→St→Prop}{N i j:Nat}{Q:Ex→St→Prop}{st:St}:kUp I N i Q (.exit j) st=Q (.exit j) st:=propext Iff.rfl
theorem j2l {I:Nat→St→Prop}{N i:Nat}{Q:Ex→St→Prop}{st:St}:kUp I N i Q .ret st=Q .ret st:=propext Iff.rfl
theorem js3:js4 []=true:=rfl
theorem jpo (f:FP) (fs:List FP):js4 (f::fs)=(!f.nw && js4 fs):=rfl
theorem j3l (ρ:A→V) (o:AOp) (δ:Delta):(jbe ρ o δ).nw=false:=rfl
theorem jlk {fs:List FP}(h:js4 fs=true):jad fs=true:=by simp only[jad,h,Bool.true_or]
theorem jqg (fs:List FP):Jo [] fs=true:=rfl
section
variable {E:Env}{st:St}{ub:Nat}{K:List FP→St→Prop}{d:Option Nat}{nm:Bool}{r:List AOpr}
theorem j93 {x:A}:jF E (⟨d,.mov x,none,nm⟩::r) st ub K=j8 E YC ⟨d,.mov x,none,nm⟩ st ub (kDr E r (kFp { ro:=rdOb (eval E st.tm) (.mov x),rt:=rdTk (eval E st.tm) (.mov x) } K)):=Jt rfl
theorem j21 {c a b:A}:jF E (⟨d,.pick c a b,none,nm⟩::r) st ub K=j8 E YC ⟨d,.pick c a b,none,nm⟩ st ub (kDr E r (kFp { ro:=rdOb (eval E st.tm) (.pick c a b),rt:=rdTk (eval E st.tm) (.pick c a b) } K)):=Jt rfl
theorem j96 {op:BinOp}{x y:A}:jF E (⟨d,.bin op x y,none,nm⟩::r) st ub K=j8 E YC ⟨d,.bin op x y,none,nm⟩ st ub (kDr E r (kFp { ro:=rdOb (eval E st.tm) (.bin op x y),rt:=rdTk (eval E st.tm) (.bin op x y) } K)):=Jt rfl
theorem kD_eq {neg:Bool}{k:EqK}{x y:A}:jF E (⟨d,.eq neg k x y,none,nm⟩::r) st ub K=j8 E YC ⟨d,.eq neg k x y,none,nm⟩ st ub (kDr E r (kFp { ro:=rdOb (eval E st.tm) (.eq neg k x y),rt:=rdTk (eval E st.tm) (.eq neg k x y) } K)):=Jt rfl
theorem kD_un {op:UnOp}{x:A}:jF E (⟨d,.un op x,none,nm⟩::r) st ub K=j8 E YC ⟨d,.un op x,none,nm⟩ st ub (kDr E r (kFp { ro:=rdOb (eval E st.tm) (.un op x),rt:=rdTk (eval E st.tm) (.un op x) } K)):=Jt rfl
theorem jx9 {z:List V}{ps:List (Nat × Nat × A)}:jF E (⟨d,.build z ps,none,nm⟩::r) st ub K=j8 E YC ⟨d,.build z ps,none,nm⟩ st ub (kDr E r (kFp { ro:=rdOb (eval E st.tm) (.build z ps),rt:=rdTk (eval E st.tm) (.build z ps) } K)):=Jt rfl
theorem j25 {g:Option Nat}{x:A}:jF E (⟨d,.load g x,none,nm⟩::r) st ub K=j8 E YC ⟨d,.load g x,none,nm⟩ st ub (kDr E r (kFp { ro:=rdOb (eval E st.tm) (.load g x),rt:=rdTk (eval E st.tm) (.load g x) } K)):=Jt rfl
theorem jlu {x:A}:jF E (⟨d,.nilCheck x,none,nm⟩::r) st ub K=j8 E YC ⟨d,.nilCheck x,none,nm⟩ st ub (kDr E r (kFp { ro:=rdOb (eval E st.tm) (.nilCheck x),rt:=rdTk (eval E st.tm) (.nilCheck x) } K)):=Jt rfl
theorem jjt {o:Nat}{x:A}:jF E (⟨d,.fieldAddr o x,none,nm⟩::r) st ub K=j8 E YC ⟨d,.fieldAddr o x,none,nm⟩ st ub (kDr E r (kFp { ro:=rdOb (eval E st.tm) (.fieldAddr o x),rt:=rdTk (eval E st.tm) (.fieldAddr o x) } K)):=Jt rfl
theorem jx6 {sz:Nat}{x i:A}:jF E (⟨d,.idxSl sz x i,none,nm⟩::r) st ub K=j8 E YC ⟨d,.idxSl sz x i,none,nm⟩ st ub (kDr E r (kFp { ro:=rdOb (eval E st.tm) (.idxSl sz x i),rt:=rdTk (eval E st.tm) (.idxSl sz x i) } K)):=Jt rfl
theorem juf {len sz:Nat}{x i:A}:jF E (⟨d,.idxArr len sz x i,none,nm⟩::r) st ub K=j8 E YC ⟨d,.idxArr len sz x i,none,nm⟩ st ub (kDr E r (kFp { ro:=rdOb (eval E st.tm) (.idxArr len sz x i),rt:=rdTk (eval E st.tm) (.idxArr len sz x i) } K)):=Jt rfl
theorem j22 {g:Option Nat}{o:Nat}{x:A}:jF E (⟨d,.part g o x,none,nm⟩::r) st ub K=j8 E YC ⟨d,.part g o x,none,nm⟩ st ub (kDr E r (kFp { ro:=rdOb (eval E st.tm) (.part g o x),rt:=rdTk (eval E st.tm) (.part g o x) } K)):=Jt rfl
theorem jue {x i:A}:jF E (⟨d,.idxStr x i,none,nm⟩::r) st ub K=j8 E YC ⟨d,.idxStr x i,none,nm⟩ st ub (kDr E r (kFp { ro:=rdOb (eval E st.tm) (.idxStr x i),rt:=rdTk (eval E st.tm) (.idxStr x i) } K)):=Jt rfl
theorem jx4 {x:A}{lo hi:Option A}:jF E (⟨d,.slStr x lo hi,none,nm⟩::r) st ub K=j8 E YC ⟨d,.slStr x lo hi,none,nm⟩ st ub (kDr E r (kFp { ro:=rdOb (eval E st.tm) (.slStr x lo hi),rt:=rdTk (eval E st.tm) (.slStr x lo hi) } K)):=Jt rfl
theorem j20 {sz:Nat}{x:A}{lo hi:Option A}:jF E (⟨d,.slSl sz x lo hi,none,nm⟩::r) st ub K=j8 E YC ⟨d,.slSl sz x lo hi,none,nm⟩ st ub (kDr E r (kFp { ro:=rdOb (eval E st.tm) (.slSl sz x lo hi),rt:=rdTk (eval E st.tm) (.slSl sz x lo hi) } K)):=Jt rfl
theorem juc {x:A}:jF E (⟨d,.lenStr x,none,nm⟩::r) st ub K=j8 E YC ⟨d,.lenStr x,none,nm⟩ st ub (kDr E r (kFp { ro:=rdOb (eval E st.tm) (.lenStr x),rt:=rdTk (eval E st.tm) (.lenStr x) } K)):=Jt rfl
theorem jx5 {x:A}:jF E (⟨d,.lenSl x,none,nm⟩::r) st ub K=j8 E YC ⟨d,.lenSl x,none,nm⟩ st ub (kDr E r (kFp { ro:=rdOb (eval E st.tm) (.lenSl x),rt:=rdTk (eval E st.tm) (.lenSl x) } K)):=Jt rfl
theorem jud {x:A}:jF E (⟨d,.lenMap x,none,nm⟩::r) st ub K=j8 E YC ⟨d,.lenMap x,none,nm⟩ st ub (kDr E r (kFp { ro:=rdOb (eval E st.tm) (.lenMap x),rt:=rdTk (eval E st.tm) (.lenMap x) } K)):=Jt rfl
theorem jp1 {x:A}{i:Nat}:jF E (⟨d,.extract x i,none,nm⟩::r) st ub K=j8 E YC ⟨d,.extract x i,none,nm⟩ st ub (kDr E r (kFp { ro:=rdOb (eval E st.tm) (.extract x i),rt:=rdTk (eval E st.tm) (.extract x i) } K)):=Jt rfl
theorem j24 {f:Fn}{a b:List A}:jF E (⟨d,.mkFn f a b,none,nm⟩::r) st ub K=j8 E YC ⟨d,.mkFn f a b,none,nm⟩ st ub (kDr E r (kFp { ro:=rdOb (eval E st.tm) (.mkFn f a b),rt:=rdTk (eval E st.tm) (.mkFn f a b) } K)):=Jt rfl
theorem jub {q:LK}{z:V}{ok:Bool}{m k:A}:jF E (⟨d,.lookup q z ok m k,none,nm⟩::r) st ub K=j8 E YC ⟨d,.lookup q z ok m k,none,nm⟩ st ub (kDr E r (kFp { ro:=rdOb (eval E st.tm) (.lookup q z ok m k),rt:=rdTk (eval E st.tm) (.lookup q z ok m k) } K)):=Jt rfl
theorem j26 {k:IntKind}{x:A}:jF E (⟨d,.conv k x,none,nm⟩::r) st ub K=j8 E YC ⟨d,.conv k x,none,nm⟩ st ub (kDr E r (kFp { ro:=rdOb (eval E st.tm) (.conv k x),rt:=rdTk (eval E st.tm) (.conv k x) } K)):=Jt rfl
theorem jua {b:Bool}{xs:List A}:jF E (⟨d,.minmax b xs,none,nm⟩::r) st ub K=j8 E YC ⟨d,.minmax b xs,none,nm⟩ st ub (kDr E r (kFp { ro:=rdOb (eval E st.tm) (.minmax b xs),rt:=rdTk (eval E st.tm) (.minmax b xs) } K)):=Jt rfl
end
attribute [simp ↓] j99 jxx j2u j3b j2y jt9 jx3 jya j95 j93 j21 j96 kD_eq kD_un jx9 j25 jlu jjt jx6 juf j22 jue jx4 j20 juc jx5 jud jp1 j24 jub j26 jua
attribute [simp ↓] j2z j2x j27 jjv jb7 j28 jug j2m jxk j2l
attribute [simp] jrv jo2 jyx jqg js3 jpo j3l jlk
def kL (E:Env) (Yf:YF) (a:C) (n:Nat) (Q:Ex→St→Prop):Ex→St→Prop:=fun e s=>match e with
 | .nrm=>YN (wpC E Yf a) n s Q
 | e=>Q e s
section
variable {E:Env}{Yf:YF}{a:C}{Q:Ex→St→Prop}{s:St}{n:Nat}
theorem j92:kL E Yf a n Q .nrm s=YN (wpC E Yf a) n s Q:=propext Iff.rfl
theorem j2v {i:Nat}:kL E Yf a n Q (.exit i) s=Q (.exit i) s:=propext Iff.rfl
theorem j91:kL E Yf a n Q .ret s=Q .ret s:=propext Iff.rfl
theorem jvw:YN (wpC E Yf a) 1 s Q=wpC E Yf a s (kL E Yf a 0 Q):=propext Iff.rfl
theorem jvv:YN (wpC E Yf a) 2 s Q=wpC E Yf a s (kL E Yf a 1 Q):=propext Iff.rfl
theorem jvu:YN (wpC E Yf a) 3 s Q=wpC E Yf a s (kL E Yf a 2 Q):=propext Iff.rfl
theorem jvt:YN (wpC E Yf a) 4 s Q=wpC E Yf a s (kL E Yf a 3 Q):=propext Iff.rfl
theorem jdo (n:Nat) (h:YN (wpC E Yf a) n s Q):wpC E Yf (.loop a) s Q:=⟨n,h⟩
end
def j0p (k:List UInt8→Prop):V→Prop
 | .str s=>k s
 | _=>False
@[simp] theorem j47 (k:List UInt8→Prop) (s:List UInt8):j0p k (.str s)=k s:=rfl
def MP {α:Type}(f:α→V) (m:List (Int × α)):List (V × V):=m.map fun p=>(.int .i64 p.1,f p.2)
def jg {α:Type}:List (Int × α)→Int→Option (Nat × α)
 | [],_=>none
 | (k',a)::m,k=>if k=k' then some (0,a) else (jg m k).map fun p=>(p.1+1,p.2)
def YR {α:Type}(m:List (Int × α)) (k:Int) (a:α):List (Int × α):=match jg m k with
 | some (i,_)=>m.set i (k,a)
 | none=>m++[(k,a)]
theorem jcc {α:Type}(f:α→V) (k:Int):∀m:List (Int × α),findKey .int (.int .i64 k) (MP f m)=some ((jg m k).map fun p=>(p.1,f p.2))
 | []=>rfl
 | (k',a)::m=>by
  have ih:=jcc f k m
  unfold MP at ih ⊢
  simp only[List.map_cons,findKey,Wq,if_true,jg]
  by_cases h:k=k'
  ·simp[h]
  ·rw[if_neg h,show(k == k')=false by simpa using h]
   simp only[ih,Option.map_some,Option.map_map]
   rfl
@[simp] theorem MP_length {α:Type}(f:α→V) (m:List (Int × α)):(MP f m).length=m.length:=by simp[MP]
def jbl (n:Int):V:=.int .i64 n
def XE (m:List (Int × Int)) (k:Int):Int:=((jg m k).map (·.2)).getD 0
theorem jps {α:Type}{f:α→V}{ob:ZO}{l u:Nat}{z:V}{ok:Bool}{k:Int}(m:List (Int × α)) (h:jR ob l u=some (MP f m)) :
 Xe ob .int z ok (.map l u) (.int .i64 k)=some (match jg m k with|some p=>if ok then .tup [f p.2,.bool true] else f p.2|none=>if ok then .tup [z,.bool false] else z):=by
 simp only[Xe,QB,if_true,h,Option.bind_some,jcc,Option.map_some]
 cases jg m k <;> rfl
theorem QS {ob:ZO}{l u:Nat}{k:Int}(m:List (Int × Int)) (h:jR ob l u=some (MP jbl m)):Xe ob .int (.int .i64 0) false (.map l u) (.int .i64 k)=some (.int .i64 (XE m k)):=by
 rw[jps m h,XE]
 cases jg m k <;> rfl
section
variable {E:Env}{Yf:YF}{st:St}{ub:Nat}{K:St→Nat→Prop}{d:Option Nat}{nm:Bool}
theorem jlq {x:A}:j8 E Yf ⟨d,.range true x,none,nm⟩ st ub K=j0p (fun s=>jaj K st d ub { v:=.iter (jL d nm st.fb ub) ub,obs:=[(jL d nm st.fb ub,⟨ub,.siter s 0⟩)] }) (eval E st.tm x):=by
 rw[jT _ rfl rfl]
 simp only[aop,Jq]
 cases eval E st.tm x <;> simp only[jak,j0p,Jh,jM]
 rfl
theorem jpw {x:A}{l u pos:Nat}{s:List UInt8}(hx:eval E st.tm x=.iter l u) (ho:st.ob l=some ⟨u,.siter s pos⟩) (hro:st.ro≤u)
 (h1:pos<s.length→jaj K st d ub { v:=.tup [.bool true,.int .i64 pos,.int .i32 ((Utf8.decode ⟨s.toArray⟩ pos).1:Nat)],obs:=[(l,⟨u,.siter s (pos+(Utf8.decode ⟨s.toArray⟩ pos).2)⟩)] })
 (h2:¬ pos<s.length→QT K st d ub (.tup [.bool false])):j8 E Yf ⟨d,.nextStr x,none,nm⟩ st ub K:=by
 rw[jT _ rfl rfl]
 simp only[aop,hx,ho]
 rw[if_pos (by simpa using hro)]
 by_cases h:pos<s.length
 ·rw[if_pos h,jM];exact h1 h
 ·rw[if_neg h,Yo,Qj];exact h2 h
theorem jxp:j8 E Yf ⟨d,.mkMap,none,nm⟩ st ub K=jaj K st d ub { v:=.map (jL d nm st.fb ub) ub,obs:=[(jL d nm st.fb ub,⟨ub,.mp 0 []⟩)] }:=by
 rw[jT _ rfl rfl]
 simp only[aop,Jh,jM,Jq]
 rfl
theorem jeq {α:Type}{f:α→V}{x y z:A}{l u ver:Nat}{k:Int}{a:α}(m:List (Int × α)) (hm:eval E st.tm x=.map l u) (hk:eval E st.tm y=.int .i64 k) (hv:(eval E st.tm z).strip=f a)
 (ho:st.ob l=some ⟨u,.mp ver (MP f m)⟩) (hro:st.ro≤u) (h:jaj K st d ub { v:=jm,obs:=[(l,⟨u,.mp (ver+1) (MP f (YR m k a))⟩)] }):j8 E Yf ⟨d,.mapSet .int x y z,none,nm⟩ st ub K:=by
 have hob:jR st.ob l u=some (MP f m):=by simp[jR,ho]
 have hver:jd st.ob l=ver:=by simp[jd,ho]
 rw[jT _ rfl rfl]
 simp only[aop,hm,hk,QB,if_true,hob,Option.bind_some,jcc,hver,hv]
 rw[if_pos (by simpa using hro)]
 unfold YR at h
 cases hf:jg m k with
 | none=>
  rw[hf]at h
  simp only[Option.map_none,jM]
  simpa[MP] using h
 | some p=>
  rw[hf]at h
  simp only[Option.map_some,jM]
  have e:(MP f m).set p.1 (V.int .i64 k,f a)=MP f (m.set p.1 (k,a)):=by simp[MP,List.map_set]
  rw[e]
  exact h
end
attribute [simp ↓] j92 j2v j91 jvw jvv jvu jvt jlq jxp
@[simp] theorem j2j (ob:ZO) (l u:Nat):jhu ob (.map l u)=(jR ob l u).map fun es=>.int .i64 es.length:=rfl
def jfw (l:List Int) (k:Int):List Int:=if k∈l then l else l++[k]
def dd (l:List Int):List Int:=l.foldl jfw []
theorem juw (l:List Int) (k:Int):dd (l++[k])=jfw (dd l) k:=by simp[dd]
theorem mfind_none {α:Type}{m:List (Int × α)}{k:Int}:jg m k=none ↔ k ∉ m.map (·.1):=by
 induction m with
 | nil=>simp[jg]
 | cons p m ih=>
  obtain⟨k',a⟩:=p
  by_cases h:k=k'
  ·simp[jg,h]
  ·simp[jg,h,ih]
theorem jgj {α:Type}{m:List (Int × α)}{k:Int}{i:Nat}{a:α}(h:jg m k=some (i,a)):∃hi:i<m.length,m[i]=(k,a):=by
 induction m generalizing i with
 | nil=>cases h
 | cons p m ih=>
  obtain⟨k',a'⟩:=p
  by_cases hk:k=k'
  ·simp only[jg,hk,if_true,Option.some.injEq,Prod.mk.injEq]at h
   obtain⟨rfl,rfl⟩:=h
   exact⟨by simp,by simp[hk]⟩
  ·simp only[jg,hk,if_false,Option.map_eq_some_iff,Prod.mk.injEq]at h
   obtain⟨⟨j,b⟩,hj,rfl,rfl⟩:=h
   obtain⟨h1,h2⟩:=ih hj
   exact⟨by simpa using h1,by simpa using h2⟩
theorem jjg {α:Type}(m:List (Int × α)) (k:Int) (a:α):(YR m k a).map (·.1)=jfw (m.map (·.1)) k:=by
 unfold YR jfw
 cases h:jg m k with
 | none=>rw[if_neg (mfind_none.1 h)];simp
 | some p=>
  obtain⟨i,b⟩:=p
  obtain⟨hi,hb⟩:=jgj h
  have hmem:k∈m.map (·.1):=List.mem_map.2 ⟨_,List.getElem_mem hi,by rw[hb]⟩
  rw[if_pos hmem,List.map_set]
  apply List.ext_getElem (by simp)
  intro j h1 h2
  simp only[List.getElem_set,List.getElem_map]
  split
  ·rename_i hij;subst hij;rw[hb]
  ·rfl
theorem jtg {l:List Int}{k x:Int}:x∈jfw l k ↔ x∈l∨x=k:=by
 unfold jfw
 split
 ·constructor
  ·exact .inl
  ·rintro(h|rfl) <;> assumption
 ·simp
theorem mem_dd {l:List Int}{x:Int}:x∈dd l ↔ x∈l:=by
 have key:∀ (l acc:List Int),x∈l.foldl jfw acc ↔ x∈acc∨x∈l:=by
  intro l
  induction l with
  | nil=>intro acc;simp
  | cons a l ih=>intro acc;simp only[List.foldl_cons,ih,jtg,List.mem_cons,or_assoc]
 simpa[dd] using key l []
theorem jlh {l:List Int}{k:Int}(h:l.Nodup):(jfw l k).Nodup:=by
 unfold jfw
 split
 ·exact h
 ·rename_i hk
  rw[List.nodup_append]
  refine⟨h,by simp,?_⟩
  intro a ha b hb e
  simp only[List.mem_singleton]at hb
  subst hb
  subst e
  exact hk ha
theorem jw7 (l:List Int):(dd l).Nodup:=by
 have key:∀ (l acc:List Int),acc.Nodup→(l.foldl jfw acc).Nodup:=by
  intro l
  induction l with
  | nil=>intro acc h;exact h
  | cons a l ih=>intro acc h;exact ih _ (jlh h)
 exact key l [] List.nodup_nil
theorem jzr:∀ (n:Nat) (l:List Int),l.Nodup→(∀x∈l,0≤x∧x<n)→l.length≤n∧(l.length=n ↔ ∀k:Nat,k<n→(k:Int)∈l)
 | 0,l,hn,hb=>by
  have:l=[]:=by
   cases l with
   | nil=>rfl
   | cons a l=>have:=hb a (by simp);omega
  subst this
  simp
 | n+1,l,hn,hb=>by
  have hn':(l.erase (n:Int)).Nodup:=hn.erase _
  have hb':∀x∈l.erase (n:Int),0≤x∧x<n:=fun x hx=>by
   have h1:=hb x (List.mem_of_mem_erase hx)
   have h2:x≠n:=fun e=>by subst e;exact(List.Nodup.not_mem_erase hn) hx
   omega
  obtain⟨h1,h2⟩:=jzr n _ hn' hb'
  by_cases hm:(n:Int)∈l
  ·have hl:=List.length_erase_of_mem hm
   have hp:0<l.length:=List.length_pos_of_mem hm
   refine⟨by omega,?_⟩
   constructor
   ·intro e k hk
    rcases Nat.lt_succ_iff_lt_or_eq.1 hk with h|rfl
    ·exact List.mem_of_mem_erase (h2.1 (by omega) k h)
    ·exact hm
   ·intro hall
    have:=h2.2 (fun k hk=>(List.Nodup.mem_erase_iff hn).2 ⟨by omega,hall k (by omega)⟩)
    omega
  ·rw[List.erase_of_not_mem hm]at h1 h2
   refine⟨by omega,?_⟩
   constructor
   ·intro e;omega
   ·intro hall;exact absurd (hall n (by omega)) hm
section
variable (E:Env) (fs1:FuncId→Option AF) (mn1:FuncId→Bool)
end
section
variable {E:Env}{fs1:FuncId→Option AF}{mn1:FuncId→Bool}(hf:∀f af,E.fs f=some af→fs1 f=some af) (hm:∀f,E.mn f=false)
include hf hm
end
theorem EvSL.imp {E:Env}{y:Nat→Y}{f:FuncId}{args:List V}{ob:ZO}{tk:Nat→Bool}{ro base ub:Nat}{P Q:V × (ZO) × (Nat→Bool) × Nat→Prop}(h:EvSL E y f args ob tk ro base ub P) (hpq:∀r,P r→Q r):EvSL E y f args ob tk ro base ub Q:=by
 obtain⟨n,l,h1,h2,h3⟩:=h
 exact⟨n,l,h1,h2,fun r hr=>hpq r (h3 r hr)⟩
section
variable {α:Type}
def MK (q:IntKind) (f:α→V) (m:List (Int × α)):List (V × V):=m.map fun p=>(.int q p.1,f p.2)
@[simp] theorem MK_length (q:IntKind) (f:α→V) (m:List (Int × α)):(MK q f m).length=m.length:=by simp[MK]
theorem QW (q:IntKind) (f:α→V) (k:Int):∀m:List (Int × α),findKey .int (.int q k) (MK q f m)=some ((jg m k).map fun p=>(p.1,f p.2))
 | []=>rfl
 | (k',a)::m=>by
  have ih:=QW q f k m
  unfold MK at ih ⊢
  simp only[List.map_cons,findKey,Wq,if_true,jg]
  by_cases h:k=k'
  ·simp[h]
  ·rw[if_neg h,show(k == k')=false by simpa using h]
   simp only[ih,Option.map_some,Option.map_map]
   rfl
theorem jb3 {q:IntKind}{f:α→V}{ob:ZO}{l u:Nat}{z:V}{ok:Bool}{k:Int}(m:List (Int × α)) (h:jR ob l u=some (MK q f m)) :
 Xe ob .int z ok (.map l u) (.int q k)=some (match jg m k with|some p=>if ok then .tup [f p.2,.bool true] else f p.2|none=>if ok then .tup [z,.bool false] else z):=by
 simp only[Xe,QB,if_true,h,Option.bind_some,QW,Option.map_some]
 cases jg m k <;> rfl
def j2c (m:List (Int × α)) (k:Int):Nat:=match jg m k with
 | some p=>p.1
 | none=>m.length
def jae (m:List (Int × α)) (k:Int) (z:α):α:=match jg m k with
 | some p=>p.2
 | none=>z
theorem jta (m:List (Int × α)) (k:Int) (a:α):(YR m k a)[j2c m k]? = some (k,a):=by
 unfold YR j2c
 cases h:jg m k with
 | none=>simp
 | some p=>
  obtain⟨hi,_⟩:=jgj (i:=p.1) (a:=p.2) h
  simp[List.getElem?_set_self hi]
theorem jnp (m:List (Int × α)) (k:Int) (a b:α):(YR m k a).set (j2c m k) (k,b)=YR m k b:=by
 unfold YR j2c
 cases h:jg m k with
 | none=>simp
 | some p=>simp
theorem jnr (m:List (Int × α)) (k:Int) (z:α):jae m k z=((jg m k).map (·.2)).getD z:=by
 unfold jae
 cases jg m k <;> rfl
end
section
variable {α:Type}{f:α→V}{E:Env}{Yf:YF}{st:St}{ub:Nat}{K:St→Nat→Prop}{d:Option Nat}{nm:Bool}{x y z:A}{l u ver:Nat}{k:Int}{q:IntKind}
theorem jme {call:FuncId→List V→Option V}{ro du:Nat}{a:α}(m:List (Int × α)) (hm:eval E st.tm x=.map l u) (hk:eval E st.tm y=.int q k) (hv:(eval E st.tm z).strip=f a)
 (ho:st.ob l=some ⟨u,.mp ver (MK q f m)⟩) (hro:ro≤u):aop call (eval E st.tm) st.ob st.tk ro du ub (.mapSet .int x y z)=some { v:=jm,obs:=[(l,⟨u,.mp (ver+1) (MK q f (YR m k a))⟩)] }:=by
 have hob:jR st.ob l u=some (MK q f m):=by simp[jR,ho]
 have hver:jd st.ob l=ver:=by simp[jd,ho]
 simp only[aop,hm,hk,QB,if_true,hob,Option.bind_some,QW,hver,hv]
 rw[if_pos (by simpa using hro)]
 unfold YR
 cases hf:jg m k with
 | none=>simp[MK]
 | some p=>simp[MK,List.map_set]
theorem jmf {call:FuncId→List V→Option V}{ro du:Nat}{zero:V}{a:α}(m:List (Int × α)) (hm:eval E st.tm x=.map l u) (hk:eval E st.tm y=.int q k) (hz:zero=f a)
 (ho:st.ob l=some ⟨u,.mp ver (MK q f m)⟩) (hro:ro≤u) (hver:ver<jlo) :
 aop call (eval E st.tm) st.ob st.tk ro du ub (.mapEnt .int zero x y)=some { v:=.tup [f (jae m k a),.int .i64 (j2c m k)],obs:=[(l,⟨u,.mp (ver+1) (MK q f (YR m k (jae m k a)))⟩)] }:=by
 have hob:jR st.ob l u=some (MK q f m):=by simp[jR,ho]
 have hve:jd st.ob l=ver:=by simp[jd,ho]
 simp only[aop,hm,hk,QB,if_true,hob,Option.bind_some,QW,hve,hz]
 rw[if_pos (by simp only[Bool.and_eq_true];exact⟨Nat.ble_eq▸hro,by simpa using hver⟩)]
 unfold YR jae j2c
 cases hf:jg m k with
 | none=>simp[MK]
 | some p=>simp[MK,List.map_set]
theorem jqs {call:FuncId→List V→Option V}{ro du i:Nat}{b:α}{a:α}(m:List (Int × α)) (hm:eval E st.tm x=.map l u) (hk:eval E st.tm y=.int .i64 i) (hv:(eval E st.tm z).strip=f a) (hi:m[i]? = some (k,b))
 (ho:st.ob l=some ⟨u,.mp ver (MK q f m)⟩) (hro:ro≤u) (hver:ver<jlo) :
 aop call (eval E st.tm) st.ob st.tk ro du ub (.entSt x y z)=some { v:=jm,obs:=[(l,⟨u,.mp (ver+1) (MK q f (m.set i (k,a)))⟩)] }:=by
 have hob:jR st.ob l u=some (MK q f m):=by simp[jR,ho]
 have hve:jd st.ob l=ver:=by simp[jd,ho]
 have hi':(MK q f m)[i]? = some (.int q k,f b):=by simp[MK,hi]
 simp only[aop,hm,hk,hve,show((i:Nat):Int)=Int.ofNat i from rfl]
 rw[if_pos (by simp only[Bool.and_eq_true];exact⟨Nat.ble_eq▸hro,by simpa using hver⟩)]
 simp only[hob,Option.bind_some,hi',hv]
 simp[MK,List.map_set]
section
variable {r:List AOpr}{K':List FP→St→Prop}
theorem jp0 {a:α}(m:List (Int × α)) (hm:eval E st.tm x=.map l u) (hk:eval E st.tm y=.int q k) (hv:(eval E st.tm z).strip=f a)
 (ho:st.ob l=some ⟨u,.mp ver (MK q f m)⟩) (hro:st.ro≤u) (h:YS E r K' (eval E st.tm) (.mapSet .int x y z) st d ub { v:=jm,obs:=[(l,⟨u,.mp (ver+1) (MK q f (YR m k a))⟩)] }):jF E (⟨d,.mapSet .int x y z,none,nm⟩::r) st ub K':=by
 rw[jt rfl,jme m hm hk hv ho hro,jM]
 exact h
theorem jgp {zero:V}{a:α}(m:List (Int × α)) (hm:eval E st.tm x=.map l u) (hk:eval E st.tm y=.int q k) (hz:zero=f a)
 (ho:st.ob l=some ⟨u,.mp ver (MK q f m)⟩) (hro:st.ro≤u) (hver:ver<jlo)
 (h:YS E r K' (eval E st.tm) (.mapEnt .int zero x y) st d ub { v:=.tup [f (jae m k a),.int .i64 (j2c m k)],obs:=[(l,⟨u,.mp (ver+1) (MK q f (YR m k (jae m k a)))⟩)] }):jF E (⟨d,.mapEnt .int zero x y,none,nm⟩::r) st ub K':=by
 rw[jt rfl,jmf m hm hk hz ho hro hver,jM]
 exact h
theorem jju {a b:α}{i:Nat}(m:List (Int × α)) (hm:eval E st.tm x=.map l u) (hk:eval E st.tm y=.int .i64 i) (hv:(eval E st.tm z).strip=f a) (hi:m[i]? = some (k,b))
 (ho:st.ob l=some ⟨u,.mp ver (MK q f m)⟩) (hro:st.ro≤u) (hver:ver<jlo)
 (h:YS E r K' (eval E st.tm) (.entSt x y z) st d ub { v:=jm,obs:=[(l,⟨u,.mp (ver+1) (MK q f (m.set i (k,a)))⟩)] }):jF E (⟨d,.entSt x y z,none,nm⟩::r) st ub K':=by
 rw[jt rfl,jqs m hm hk hv hi ho hro hver,jM]
 exact h
theorem jz2 {f:FuncId}{xs:List A}{cs:List V}(hx:xs.map (eval E st.tm)=[.sl none true 0 []]) (hs:E.sh nm f=true) (htw:E.tw f=false) (hn:E.nw f=some cs)
 (h:jF E r (st.app d { v:=.ptr (jL d nm st.fb ub) ub 0,obs:=[(jL d nm st.fb ub,⟨ub,.cells cs⟩)] }) (ub+64) (kFp { wo:=[jL d nm st.fb ub],nw:=true } K')):jF E (⟨d,.call f xs,none,nm⟩::r) st ub K':=by
 have hsh:jD E nm (eval E st.tm) (.call f xs)=some (f,[.sl none true 0 []]):=by simp only[jD,hs,hx,Bool.not_true,Bool.false_and,Bool.false_eq_true,if_false]
 simp only[jF,wanted,hsh]
 refine .inr (.inr ⟨hs,htw,{ v:=.ptr (jL d nm st.fb ub) ub 0,obs:=[(jL d nm st.fb ub,⟨ub,.cells cs⟩)] },?_,h⟩)
 simp only[mkD,hn]
 cases nm <;> rfl
end
end
def jlj:List FP→Bool
 | []=>true
 | f::r=>(r.all fun g=>(!f.nw || Q4 f g) && (!g.nw || Q4 g f)) && jlj r
theorem jno:∀ {fs:List FP},jlj fs=true→∀ {i j:Nat}{f g:FP},fs[i]? = some f→fs[j]? = some g→i≠j→f.nw=true→Q4 f g=true
 | [],_,i,j,f,g,hi,_,_,_=>by simp at hi
 | f0::r,h,i,j,f,g,hi,hj,hne,hn=>by
  simp only[jlj,Bool.and_eq_true,List.all_eq_true,Bool.or_eq_true,Bool.not_eq_true']at h
  cases i with
  | zero=>
   cases j with
   | zero=>exact absurd rfl hne
   | succ j=>
    simp only[List.getElem?_cons_zero,Option.some.injEq,List.getElem?_cons_succ]at hi hj
    subst hi
    rcases(h.1 g (List.mem_of_getElem? hj)).1 with h|h
    ·rw[hn]at h;cases h
    ·exact h
  | succ i=>
   cases j with
   | zero=>
    simp only[List.getElem?_cons_zero,Option.some.injEq,List.getElem?_cons_succ]at hi hj
    subst hj
    rcases(h.1 f (List.mem_of_getElem? hi)).2 with h|h
    ·rw[hn]at h;cases h
    ·exact h
   | succ j=>
    simp only[List.getElem?_cons_succ]at hi hj
    exact jno h.2 hi hj (fun e=>hne (by rw[e])) hn
theorem jxb {fs:List FP}(h:jlj fs=true):jad fs=true:=by
 unfold jad js8
 rw[Bool.or_eq_true]
 refine .inr ?_
 rw[List.all_eq_true]
 intro i hi
 rw[List.mem_range]at hi
 have ei:fs[i]? = some (fs.getD i {}):=by rw[List.getD_eq_getElem?_getD,List.getElem?_eq_getElem hi];rfl
 cases hn:(fs.getD i {}).nw
 ·rfl
 ·rw[Bool.not_true,Bool.false_or,List.all_eq_true]
  intro j hj
  rw[List.mem_range]at hj
  have ej:fs[j]? = some (fs.getD j {}):=by rw[List.getD_eq_getElem?_getD,List.getElem?_eq_getElem hj];rfl
  by_cases e:i=j
  ·subst e;simp
  ·rw[jno h ei ej e hn,Bool.or_true]
theorem js7:jlj []=true:=rfl
theorem jpp (f:FP) (r:List FP):jlj (f::r)=((r.all fun g=>(!f.nw || Q4 f g) && (!g.nw || Q4 g f)) && jlj r):=rfl
end Go.Pv
