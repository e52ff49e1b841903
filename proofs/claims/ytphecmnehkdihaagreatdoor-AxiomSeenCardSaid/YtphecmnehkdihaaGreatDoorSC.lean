/- Calls do what the interpreter says. -/
import Derived.Test.YtphecmnehkdihaaGreatDoorSB
import Derived.RangeFuncLeaves
import Derived.KernelRfl
namespace Go.Pv
open Go
theorem ja1 {n m:Nat} (h:n≤m):∀ c:C,c.dstOk n=true→c.dstOk m=true:=by
 have one:∀ ops:List AOpr,(ops.all fun o=>match o.dst with | some d=>Nat.blt d n | none=>true)=true→(ops.all fun o=>match o.dst with | some d=>Nat.blt d m | none=>true)=true:=by
  intro ops hd
  refine List.all_eq_true.2 fun o ho=>?_
  have:=List.all_eq_true.1 hd o ho
  split
  ·rename_i d hdd
   simp only [hdd,Nat.blt_eq] at this
   simp only [Nat.blt_eq]
   omega
  ·rfl
 intro c
 induction c with
 | region ops=>exact one ops
 | draw ops f=>exact one ops
 | seq a b iha ihb=>simp only [C.dstOk,Bool.and_eq_true];exact fun ⟨h1,h2⟩=>⟨iha h1,ihb h2⟩
 | cond q a b iha ihb=>simp only [C.dstOk,Bool.and_eq_true];exact fun ⟨h1,h2⟩=>⟨iha h1,ihb h2⟩
 | block i a ih=>exact ih
 | loop a ih=>exact ih
 | rangeFunc f ps a b iha ihb =>
  simp only [C.dstOk,Bool.and_eq_true]
  rintro ⟨⟨h1,h2⟩,h3⟩
  refine ⟨⟨List.all_eq_true.2 fun p hp=>?_,iha h2⟩,ihb h3⟩
  have:=List.all_eq_true.1 h1 p hp
  simp only [Nat.blt_eq] at this ⊢
  omega
 | _=>exact fun _=>rfl
section
variable {P:Program} {E:Env}
theorem jj2 {γ:Nat→Option Place} {I:IMap} {xs:Array Value} {args:List V} {k:Nat} (hs:xs.size=args.length) (h:∀ (j:Nat) (x:Value) (v:V),xs[j]? = some x→args[j]? = some v→Rep γ I x v) (t:Nat) :
 Rep γ I ((xs++Array.replicate k undef).getD t undef) (args.getD t J3):=by
 by_cases ht:t<xs.size
 ·have h1:(xs++Array.replicate k undef).getD t undef=xs[t]:=by
   simp [ht,Array.getElem?_append_left]
  have h2:args.getD t J3=args[t]'(by omega):=by
   have:t<args.length:=by omega
   simp [this]
  rw [h1,h2]
  exact h t _ _ (Array.getElem?_eq_getElem ht) (List.getElem?_eq_getElem (by omega))
 ·have h1:(xs++Array.replicate k undef).getD t undef=undef:=by
   simp only [Array.getD_eq_getD_getElem?]
   rw [Array.getElem?_append_right (by omega)]
   by_cases hk:t - xs.size<k <;> simp [hk]
  have h2:args.getD t J3=J3:=by
   have:args.length≤t:=by omega
   simp [this]
  rw [h1,h2]
  exact jha
theorem jh2 {w0:World} {I0 I:IMap} {γ:Nat→Option Place} {fn:Func} {tmps:Array Value} {Rp:Ending→World→Prop} {st:St}:∀ (df:List (Nat × Nat)) (ds:List Deferred) (ob:Nat→Option Obj') (w:World),
 Sh E w0 I0 γ I { st with ob:=ob } w→DfOk γ df ds→(∀ x∈df,ob x.1=some ⟨x.2,.dfr⟩∧Nat.ble st.ro x.2=true)→(df.map (·.1)).Nodup →
 (∀ w',Sh E w0 I0 γ I { st with ob:=fun k=>if df.any (fun x=>Nat.beq x.1 k) then none else ob k } w'→LeavesIn (FW none) 0 P fn tmps Rp [] .returning w')→LeavesInM (FW none) 0 P fn tmps Rp ds .returning w
 | [],[],ob,w,hSh,_,_,_,hK=>hK w (hSh.congr (funext fun k=>by simp) rfl rfl)
 | x::df,d::ds,ob,w,hSh,hdf,hob,hnd,hK=>by
  obtain ⟨⟨b,k,rfl,hu⟩,hdf'⟩:=hdf
  obtain ⟨h1,h2⟩:=hob x (List.mem_cons_self ..)
  have hblk:w.heap[b]? = some (.deferred (some [])):=jez hSh h1 hu
  have htk:=run_takeDeferred (P:=P) hblk
  simp only [List.map_cons,List.nodup_cons] at hnd
  have hSh2:=hSh.turn (ob':=fun k=>if Nat.beq x.1 k then none else ob k) (o':=.deferred none) h1 hu h2 (fun l2 y hy=>by
   split at hy
   ·cases hy
   ·rename_i hne;exact .inl ⟨fun e=>hne (by rw [e];exact Nat.beq_refl _),hy⟩)
  refine ⟨(fun h=>by cases h),.inl ⟨b,_,rfl,htk,?_⟩⟩
  refine jh2 df ds (fun k=>if Nat.beq x.1 k then none else ob k) _ (hSh2.congr rfl rfl rfl) hdf' (fun y hy=>?_) hnd.2 (fun w' h=>?_)
  ·obtain ⟨q1,q2⟩:=hob y (List.mem_cons_of_mem _ hy)
   refine ⟨?_,q2⟩
   have hne:¬ Nat.beq x.1 y.1=true:=fun e=>hnd.1 (by rw [Nat.eq_of_beq_eq_true e];exact List.mem_map.2 ⟨y,hy,rfl⟩)
   simp only [hne,Bool.false_eq_true,if_false]
   exact q1
  ·refine hK w' (h.congr (funext fun k=>?_) rfl rfl)
   simp only [List.any_cons,Bool.or_eq_true]
   have key:∀ p q:Bool,(if p=true∨q=true then none else ob k)=if q=true then none else if p=true then none else ob k:=by
    intro p q
    cases p <;> cases q <;> rfl
   exact key _ _
 | [],_::_,_,_,_,h,_,_,_=>h.elim
 | _::_,[],_,_,_,h,_,_,_=>h.elim
theorem jt9 {w0 w:World} {I0 I:IMap} {γ:Nat→Option Place} {nt:Nat} {fn:Func} {st:St} {a:Act} {Rp:Ending→World→Prop} (hR:R E w0 I0 nt γ I st a w) (hd:jwy st=true)
 (hK:∀ w',R E w0 I0 nt γ I st.noDf { tmps:=a.tmps,defers:=[] } w'→∃ v,(results fn a.tmps).run P w' = .ok v w'∧Rp (.returned v) w'):LeavesInM (FW none) 0 P fn a.tmps Rp a.defers .returning w:=by
 unfold jwy at hd
 simp only [Bool.and_eq_true] at hd
 refine jh2 (st:=st) st.df a.defers st.ob w (hR.sh.congr rfl rfl rfl) hR.df (fun x hx=>?_) (Wg hd.2) (fun w' h=>?_)
 ·have:=List.all_eq_true.1 hd.1 x hx
  split at this
  ·rename_i u hu
   simp only [Bool.and_eq_true] at this
   have e:=Nat.eq_of_beq_eq_true this.1
   subst e
   exact ⟨hu,this.2⟩
  ·cases this
 ·have hn:st.noDf.tm=st.tm∧st.noDf.tk=st.tk∧st.noDf.ro=st.ro∧st.noDf.df=[]∧st.noDf.ob=fun k=>if st.df.any (fun x=>Nat.beq x.1 k) then none else st.ob k:=by
   unfold St.noDf
   split
   ·rename_i e;exact ⟨rfl,rfl,rfl,e,by rw [e];funext k;simp⟩
   ·exact ⟨rfl,rfl,rfl,rfl,rfl⟩
  exact hK w' ⟨hR.sz,by rw [hn.2.2.2.1];trivial,by rw [hn.1];exact hR.tm,h.congr hn.2.2.2.2 hn.2.1 hn.2.2.1⟩
theorem jbn {fn:Func} {Rp:Ending→World→Prop} {e:Ex} {a:Act} {w:World} (h:e = .nrm∨e = .ret) (hl:LeavesInM (FW none) 0 P fn a.tmps Rp a.defers .returning w):bodyPostM (FW none) 0 P fn Rp (j6p e) a w:=by
 rcases h with rfl | rfl <;> exact hl
theorem jt6 {α β:Type} {f:α→Option β} {l:List α} {L:List β} (h:l.mapM f=some L) {z:α} (hz:z∈l):∃ r∈L,f z=some r:=by
 obtain ⟨h1,h2⟩:=jy h
 obtain ⟨i,hi,rfl⟩:=List.getElem_of_mem hz
 have hi':i<L.length:=by omega
 exact ⟨L[i],List.getElem_mem hi',h2 i _ _ (List.getElem?_eq_getElem hi) (List.getElem?_eq_getElem hi')⟩
theorem jff (hm:P.follows .mixedOrders=true) (hE:EnvOk P E):∀ n,jit P E (jT E n)
 | 0=>fun γ0 Iy y hy=>⟨fun f args r h=>(by cases h),fun f args ob tk b u r h=>(by cases h),fun f args ob tk ro base ub l h=>(by cases h),hy⟩
 | n+1=>by
  have ih:=jff hm hE n
  intro γ0 Iy y hy
  -- the results of a function that shares nothing,and of one that only looks
  have alone:∀ {fn:Func} {af:AF} {r:V} {w0 w:World} {I0 I:IMap} {γ:Nat→Option Place} {nt:Nat} {st:St} {a:Act} {e:Ex} {Rp:Ending→World→Prop},fn.results.toList.mapM (Y7 P)=some af.res→R E w0 I0 nt γ I st a w→QN af.res (e,st)=some r →
   (∀ x τ I' w',w0.grownBy w' none→(∀ b o x,I b o=some x→I' b o=some x)→jir I' w'→(∀ b o,b<w0.heap.size→I' b o=I0 b o)→jr2 τ I' x r→jip w0.heap.size τ I' w' r→Rp (.returned x) w') →
   bodyPostM (FW none) 0 P fn Rp (j6p e) a w:=by
   intro fn af r w0 w I0 I γ nt st a e Rp hres hR he hK
   have hne:e = .nrm∨e = .ret:=by cases e <;> first | exact .inl rfl | exact .inr rfl | cases he
   have he':(if jwy st then (af.res.mapM (jn st.noDf)).bind (YG st.noDf) else none)=some r:=by rcases hne with rfl | rfl <;> exact he
   simp only [Option.ite_none_right_eq_some] at he'
   obtain ⟨hd,he'⟩:=he'
   refine jbn hne (jt9 hR hd fun w' hR'=>?_)
   obtain ⟨vs,hvs,hout⟩:=bind_some he'
   obtain ⟨ys,k1,k2,k3⟩:=jep hR' hres hvs
   obtain ⟨τ,I2,q1,q2,q3,q4,q5⟩:=j2o hR' k1 k3 hout
   exact ⟨_,k2,hK _ τ I2 _ hR'.fr q1 q2 (fun b o hb=>(q3 b o hb).trans (hR'.old b o hb)) q4 q5⟩
  refine ⟨fun f args r h=>?_,fun f args ob tk base ub r h=>?_,fun f args ob tk ro base ub L h=>?_,hy⟩
  ·simp only [jT] at h
   obtain ⟨af,haf,h⟩:=bind_some h
   obtain ⟨m,fn,c,hfn,hb,hcomp,hres,hname,hdst⟩:=hE.fc f af haf
   refine ⟨⟨fn,c,hfn,hb,hname⟩,fun w I xs himm hgl hsz hrep=>?_⟩
   obtain ⟨l,hx,hall⟩:=jhk h
   refine jdv (callsIn_of_wp_marks (F:=FW none) (n:=0) hfn hb trivial ?_)
   have hnt:fn.ntmps≤(xs++Array.replicate (fn.ntmps - xs.size) undef).size:=by simp;omega
   have hR:R E w I (xs++Array.replicate (fn.ntmps - xs.size) undef).size (fun _=>none) I (Wr args) { tmps:=xs++Array.replicate (fn.ntmps - xs.size) undef,defers:=[] } w :=
    ⟨rfl,trivial,fun t=>jj2 hsz (fun j x v hx hv=>.pure _ _ (hrep j x v hx hv)) t,⟨himm,hgl,⟨fun _=>none,⟨fun l o h=>(by cases h),fun u h=>(by cases h),fun b o h=>(by cases h)⟩⟩,⟨rfl,rfl,rfl,Nat.le_refl _,fun _ _ _=>rfl⟩,fun _ _ _=>rfl⟩⟩
   refine jkb hm ih n (y:=noY) (γ0:=fun _=>none) (Iy:=I) jhu c af.body m false none (.inr rfl) hcomp (ja1 hnt _ hdst) w I _ _ l _ _ _ _ (SubG.refl _) (SubI.refl _) hx hR (fun _ _=>rfl) (fun y hy=>?_)
   obtain ⟨e,s⟩:=y
   intro γ' I' a' w' hR' hf' hg hI
   refine alone hres hR' (hall _ hy) (fun x τ I2 w2 h2 h3 h4 h5 h6 h7=>?_)
   exact ⟨x,τ,I2,rfl,h2,fun b o x h=>h3 b o x (hI b o x h),h4,h5,h6,h7⟩
  ·simp only [jT] at h
   by_cases hfz:E.fz f
   ·simp only [hfz,if_true] at h
    obtain ⟨args',ha,h⟩:=bind_some h
    obtain ⟨r',h1,h2⟩:=bind_some h
    simp only [Option.ite_none_right_eq_some,Option.some.injEq] at h2
    obtain ⟨h2,rfl⟩:=h2
    have hd:=(ih γ0 Iy noY jhu).d f args' r' h1
    exact ⟨hd.1,j6f hd.2 ha h2⟩
   simp only [hfz,Bool.false_eq_true,if_false] at h
   obtain ⟨af,haf,h⟩:=bind_some h
   obtain ⟨m,fn,c,hfn,hb,hcomp,hres,hname,hdst⟩:=hE.fs f af haf
   refine ⟨⟨fn,c,hfn,hb,hname⟩,fun w0 w I0 I γ xs st hob hSh hfr hsz hrep=>?_⟩
   obtain ⟨l,hx,hall⟩:=jhk h
   refine jdv (callsIn_of_wp_marks (F:=FW none) (n:=0) hfn hb trivial ?_)
   have hnt:fn.ntmps≤(xs++Array.replicate (fn.ntmps - xs.size) undef).size:=by simp;omega
   have hR:R E w I (xs++Array.replicate (fn.ntmps - xs.size) undef).size γ I (Jj args ob (fun _=>false) ub base ub) { tmps:=xs++Array.replicate (fn.ntmps - xs.size) undef,defers:=[] } w:=by
    obtain ⟨Ω,ho⟩:=hSh.own
    refine ⟨rfl,trivial,fun t=>jj2 hsz hrep t,⟨hSh.imm,hSh.gl,⟨Ω,⟨fun l o hl=>?_,fun u h=>(by cases h),ho.lt⟩⟩,⟨rfl,rfl,rfl,Nat.le_refl _,fun _ _ _=>rfl⟩,fun _ _ _=>rfl⟩⟩
    have hl':st.ob l=some o:=hob l o hl
    obtain ⟨b,k,h1,h2,h3,h4,h5⟩:=ho.ob l o hl'
    refine ⟨b,k,h1,h2,fun hro=>?_,h4.keep (fun l2 u2 ver' es' mb mk _ hl2=>.inl ⟨hob _ _ hl2,fun m c hm=>hm⟩),h5⟩
    rw [hfr _ hro] at h1
    cases h1
   refine jkb hm ih n (y:=noY) (γ0:=γ) (Iy:=I) jhu c af.body m true none (.inr rfl) hcomp (ja1 hnt _ hdst) w I _ _ l _ _ _ _ (SubG.refl _) (SubI.refl _) hx hR hfr (fun y hy=>?_)
   obtain ⟨e,s⟩:=y
   intro γ' I' a' w' hR' hf' hg hI
   refine alone hres hR' (hall _ hy) (fun x τ I2 w2 h2 h3 h4 h5 h6 h7=>?_)
   exact ⟨x,τ,I2,rfl,h2,fun b o x h=>h3 b o x (hI b o x h),h4,h5,h6,h7⟩
  ·simp only [jT] at h
   by_cases htw:E.tw f
   ·simp only [htw,if_true] at h
    obtain ⟨args',ha,h⟩:=bind_some h
    obtain ⟨r',h1,h2⟩:=bind_some h
    have hd:=(ih γ0 Iy noY jhu).d f args' r' h1
    obtain ⟨⟨_,_,_,_⟩,h3,rfl⟩:=map_some h2
    exact ⟨hd.1,jxl hd.2 ha h3⟩
   simp only [htw,Bool.false_eq_true,if_false] at h
   by_cases hst:E.srt f
   ·simp only [hst,if_true] at h
    obtain ⟨⟨_,_,_,_⟩,h3,rfl⟩:=map_some h
    exact ⟨(hE.srt f hst).1,jxs (hE.srt f hst) h3⟩
   simp only [hst,Bool.false_eq_true,if_false] at h
   obtain ⟨af,haf,h⟩:=bind_some h
   obtain ⟨m,fn,c,hfn,hb,hcomp,hres,hname,hdst⟩:=hE.fs f af haf
   refine ⟨⟨fn,c,hfn,hb,hname⟩,fun w0 w I0 I γ xs st hg0 hI0 hob htk hro hSh hfr hsz hrep=>?_⟩
   obtain ⟨l0,hx,h⟩:=bind_some h
   have h:l0.mapM (endS af.res)=some L:=by
    split at h
    ·exact h
    ·split at h
     ·obtain ⟨r,h1,rfl⟩:=map_some h
      simp only [List.mapM_cons,h1,List.mapM_nil]
      rfl
     ·cases h
   refine jdv (callsIn_of_wp_marks (F:=FW none) (n:=0) hfn hb trivial ?_)
   have hnt:fn.ntmps≤(xs++Array.replicate (fn.ntmps - xs.size) undef).size:=by simp;omega
   have hR:R E w0 I0 (xs++Array.replicate (fn.ntmps - xs.size) undef).size γ I (Jj args ob tk ro base ub) { tmps:=xs++Array.replicate (fn.ntmps - xs.size) undef,defers:=[] } w :=
    ⟨rfl,trivial,fun t=>jj2 hsz hrep t,hSh.congr hob.symm htk.symm hro.symm⟩
   refine jkb hm ih n (y:=y) hy c af.body m true none (.inr rfl) hcomp (ja1 hnt _ hdst) w0 I0 _ _ l0 _ _ _ _ hg0 hI0 hx hR hfr (fun z hz=>?_)
   have hro':=jgk _ hx _ hz
   obtain ⟨⟨r,ob',tk',ub'⟩,hrL,h⟩:=jt6 h hz
   obtain ⟨e,s⟩:=z
   intro γ' I' a' w' hR' hf' hg hI
   have hne:e = .nrm∨e = .ret:=by cases e <;> first | exact .inl rfl | exact .inr rfl | cases h
   have h':(if s.df.isEmpty then (af.res.mapM (jn s)).map fun l=>(match l with | [v]=>v | l=>.tup l,s.ob,s.tk,s.nx) else none)=some (r,ob',tk',ub'):=by rcases hne with rfl | rfl <;> exact h
   simp only [Option.ite_none_right_eq_some] at h'
   obtain ⟨hde,h'⟩:=h'
   have hde:s.df=[]:=List.isEmpty_iff.1 hde
   have hdn:a'.defers=[]:=by
    have:=hR'.df
    simp only [hde] at this
    cases hds:a'.defers with
    | nil=>rfl
    | cons d ds=>rw [hds] at this;exact this.elim
   refine jbn hne ?_
   rw [hdn]
   obtain ⟨vs,hvs,he⟩:=map_some h'
   obtain ⟨ys,k1,k2,k3⟩:=jep hR' hres hvs
   simp only [Prod.mk.injEq] at he
   obtain ⟨he,rfl,rfl,rfl⟩:=he
   refine ⟨_,k2,_,hrL,_,γ',I',rfl,fun st' h1 h2 h3=>hR'.sh.congr h1 h2 (h3.trans hro'.symm),?_,hg,hI,hf'⟩
   match ys,vs,k1,k3,he with
   | [],[],_,_,rfl=>exact .tup _ _ rfl (fun j y u hy=>by simp at hy)
   | [y],[v],_,k3,rfl=>exact k3 0 y v rfl rfl
   | y::y'::ys,v::v'::vs,e,k3,rfl=>exact .tup _ _ (by simpa using e) (fun j z u hz hu=>k3 j z u (by simpa using hz) hu)
theorem Ev.sound (hm:P.follows .mixedOrders=true) (hE:EnvOk P E) {f:FuncId} {args:List V} {r:V} (h:Ev E f args r):jiq P E f args r:=by
 obtain ⟨n,h⟩:=h
 exact ((jff hm hE n (fun _=>none) (fun _ _=>none) noY jhu).d f args r h).2
end
end Go.Pv

/- What code does, as a condition that is reckoned: for proofs about whatever input. -/
namespace Go.Pv
open Go
def EvO (E:Env) (f:FuncId) (args:List V) (ob:Nat→Option Obj') (tk:Nat→Bool) (base ub:Nat) (r:V):Prop:=∃ n,(jT E n noY).o f args ob tk base ub=some r
def EvS (E:Env) (y:Nat→Y) (f:FuncId) (args:List V) (ob:Nat→Option Obj') (tk:Nat→Bool) (ro base ub:Nat) (r:V × (Nat→Option Obj') × (Nat→Bool) × Nat):Prop:=∃ n,(jT E n (y n)).s f args ob tk ro base ub=some [r]
def EvSL (E:Env) (y:Nat→Y) (f:FuncId) (args:List V) (ob:Nat→Option Obj') (tk:Nat→Bool) (ro base ub:Nat) (Q:V × (Nat→Option Obj') × (Nat→Bool) × Nat→Prop):Prop:=∃ n l,(jT E n (y n)).s f args ob tk ro base ub=some l∧l≠[]∧∀ r∈l,Q r
theorem EvS.list {E:Env} {y:Nat→Y} {f:FuncId} {args:List V} {ob:Nat→Option Obj'} {tk:Nat→Bool} {ro base ub:Nat} {Q:V × (Nat→Option Obj') × (Nat→Bool) × Nat→Prop} (h:∃ r,EvS E y f args ob tk ro base ub r∧Q r):EvSL E y f args ob tk ro base ub Q:=by
 obtain ⟨r,⟨n,h1⟩,h2⟩:=h
 exact ⟨n,[r],h1,by simp,fun x hx=>by rw [List.mem_singleton] at hx;exact hx ▸ h2⟩
structure YF where
 y:Nat→Y
 mono:∀ {n m:Nat},n≤m→YLe (y n) (y m)
def Xo:YF:=⟨fun _=>noY,fun _=>YLe.refl _⟩
def EvY (Yf:YF) (l u:Nat) (xs:List V) (ob:Nat→Option Obj') (tk:Nat→Bool) (ro ub:Nat) (r:V × (Nat→Option Obj') × (Nat→Bool) × Nat):Prop:=∃ n,Yf.y n l u xs ob tk ro ub=some r
def WY (E:Env) (Yf:YF) (c:C) (st:St) (Q:Ex→St→Prop):Prop:=∃ n l,jb E (jT E n) (Yf.y n) n c st=some l∧l≠[]∧∀ x∈l,Q x.1 x.2
def WC (E:Env) (f:FuncId) (xs:List V) (st:St) (dst:Option Nat) (ub:Nat) (K:St→Nat→Prop):Prop :=
 xs.all V.pureTop=true∧∃ v,Ev E f xs v∧∃ δ,Xj ub v=some δ∧K (st.app dst δ) (ub+64)
def j8 (E:Env) (Yf:YF) (o:AOpr) (st:St) (ub:Nat) (K:St→Nat→Prop):Prop :=
 match wanted o st.tm with
 | none=>False
 | some false=>K { st with tm:=put st.tm o.dst J3 } ub
 | some true=>match jg (eval E st.tm) o.op with
  | some (l,u,xs)=>∃ r,EvY Yf l u xs st.ob st.tk st.ro ub r∧K { st with tm:=put st.tm o.dst r.1,ob:=r.2.1,tk:=r.2.2.1 } r.2.2.2
  | none=>match jF E o.nm (eval E st.tm) o.op with
   | some (f,xs)=>(E.sh o.nm f=true∧EvSL E Yf.y f xs st.ob st.tk st.ro ((st.fb+o.dst.getD 0+1) * 1024) ub fun r=>K { st with tm:=put st.tm o.dst r.1,ob:=r.2.1,tk:=r.2.2.1 } r.2.2.2) ∨
    (E.sh o.nm f=false∧∃ v,EvO E f xs st.ob st.tk ((st.fb+o.dst.getD 0+1) * 1024) ub v∧∃ δ,Xj ub v=some δ∧K (st.app o.dst δ) (ub+64))
   | none=>match o.op with
    | .call f xs=>WC E f (xs.map fun x=>(eval E st.tm x).strip) st o.dst ub K
    | .callV q xs=>∃ f first captured,eval E st.tm q = .fn (.func f) first captured∧WC E f ((first++xs.map (eval E st.tm)++captured).map V.strip) st o.dst ub K
    | .nextMap x=>∃ l,jfx st.ob st.ro (eval E st.tm x)=some l∧∀ δ∈l,K (st.app o.dst δ) (ub+64)
    | op=>∃ δ,aop (fun _ _=>none) (eval E st.tm) st.ob st.tk st.ro (o.name st.fb ub) ub op=some δ∧K (st.app o.dst δ) (ub+64)
def WB (E:Env) (Yf:YF):List AOpr→St→Nat→(St→Prop)→Prop
 | [],st,ub,K=>K { st with nx:=ub }
 | o::r,st,ub,K=>j8 E Yf o st ub fun st ub=>WB E Yf r st ub K
def jI (E:Env):List AOpr→St→Nat→(List FP→St→Prop)→Prop
 | [],st,ub,K=>K [] { st with nx:=ub }
 | o::r,st,ub,K =>
  match wanted o st.tm with
  | none=>False
  | some false=>jI E r (st.app o.dst { v:=J3 }) (ub+64) fun fs s=>K ({}::fs) s
  | some true=>match jF E o.nm (eval E st.tm) o.op with
   | some (f,xs)=>(E.sh o.nm f=false∧∃ v,EvO E f xs st.ob st.tk ((st.fb+o.dst.getD 0+1) * 1024) (ub+64 * (r.length+1)) v∧∃ δ,Xj ub v=some δ ∧
    jI E r (st.app o.dst δ) (ub+64) fun fs s=>K ({ wt:=δ.wt,all:=true,seen:=fun l=>(st.ob l).isSome }::fs) s) ∨
    (E.sh o.nm f=true∧E.tw f=true∧∃ a' v,xs.mapM (Ye st.ob)=some a'∧Ev E f a' v∧∃ δ,Wp (o.name st.fb ub) ub v=some δ ∧
    jI E r (st.app o.dst δ) (ub+64) fun fs s=>K ({ wo:=δ.wo,all:=true,seen:=fun l=>(st.ob l).isSome,nw:=true }::fs) s)
   | none=>o.op.far=false∧match o.op with
    | .call f xs=>(xs.all fun x=>(eval E st.tm x).strip.pureTop)=true∧∃ v,Ev E f (xs.map fun x=>(eval E st.tm x).strip) v∧∃ δ,Xj ub v=some δ∧jI E r (st.app o.dst δ) (ub+64) fun fs s=>K (jaz (eval E st.tm) o.op δ::fs) s
    | .callV q xs=>∃ f first captured,eval E st.tm q = .fn (.func f) first captured∧((first++xs.map (eval E st.tm)++captured).map V.strip).all V.pureTop=true∧∃ v,Ev E f ((first++xs.map (eval E st.tm)++captured).map V.strip) v∧∃ δ,Xj ub v=some δ ∧
     jI E r (st.app o.dst δ) (ub+64) fun fs s=>K (jaz (eval E st.tm) o.op δ::fs) s
    | op=>∃ δ,aop (fun _ _=>none) (eval E st.tm) st.ob st.tk st.ro (o.name st.fb ub) ub op=some δ∧jI E r (st.app o.dst δ) (ub+64) fun fs s=>K (jaz (eval E st.tm) o.op δ::fs) s
def Xx (W:St→(Ex→St→Prop)→Prop):Nat→St→(Ex→St→Prop)→Prop
 | 0,_,_=>False
 | n+1,st,Q=>W st fun e s=>match e with
  | .nrm=>Xx W n s Q
  | e=>Q e s
def wpC (E:Env) (Yf:YF):C→St→(Ex→St→Prop)→Prop
 | .skip,st,Q=>Q .nrm st
 | .region ops,st,Q=>WB E Yf ops st st.nx fun s=>Q .nrm s
 | .draw ops free,st,Q=>jI E ops st st.nx fun fs s=>X5 free fs=true∧jd9 fs=true∧Q .nrm s
 | .seq a b,st,Q=>wpC E Yf a st fun e s=>match e with
  | .nrm=>wpC E Yf b s Q
  | e=>Q e s
 | .cond c a b,st,Q=>∃ t,eval E st.tm c = .bool t∧(t=true→wpC E Yf a st Q)∧(t=false→wpC E Yf b st Q)
 | .block id a,st,Q=>wpC E Yf a st fun e s=>match e with
  | .exit i=>if i=id then Q .nrm s else Q (.exit i) s
  | e=>Q e s
 | .loop a,st,Q=>∃ N,Xx (wpC E Yf a) N st Q
 | .exit id,st,Q=>Q (.exit id) st
 | .ret,st,Q=>Q .ret st
 | .rangeFunc f ps as bd,st,Q=>WY E Yf (.rangeFunc f ps as bd) st Q
 | .stuck,_,_=>False
theorem Qv (E:Env) (n:Nat) (y:Y):(jT E n y).d=(jT E n noY).d:=by cases n <;> rfl
theorem jii (E:Env) (n:Nat) (y:Y):(jT E n y).o=(jT E n noY).o:=by cases n <;> rfl
theorem jrs (E:Env) (n:Nat) (y:Y):(jT E n y).y=y:=by cases n <;> rfl
section
variable {E:Env} {Yf:YF}
theorem jea {α:Type} {p:α→Prop} {l m:List α} (h1:∀ x∈l,p x) (h2:∀ x∈m,p x):∀ x∈l++m,p x:=fun x hx=>(List.mem_append.1 hx).elim (h1 x) (h2 x)
theorem Qw {α β:Type} {f:Nat→α→Option (List β)} (hmono:∀ n m,n≤m→∀ a,le (f n a) (f m a)) {Q:β→Prop}:∀ (l:List α),l≠[]→(∀ a∈l,∃ n r,f n a=some r∧r≠[]∧∀ x∈r,Q x) →
 ∃ n r,(∀ m,n≤m→Q8 (f m) l=some r)∧r≠[]∧∀ x∈r,Q x
 | [],h,_=>absurd rfl h
 | [x],_,h=>by
  obtain ⟨n,r,h1,h2,h3⟩:=h x (List.mem_singleton.2 rfl)
  exact ⟨n,r,fun m hm=>hmono n m hm x r h1,h2,h3⟩
 | x::y::l,_,h=>by
  obtain ⟨n,r,h1,h2,h3⟩:=h x (List.mem_cons_self ..)
  obtain ⟨n',r',h1',h2',h3'⟩:=Qw hmono (y::l) (by simp) (fun a ha=>h a (List.mem_cons_of_mem _ ha))
  refine ⟨max n n',r++r',fun m hm=>?_,by simp [h2],jea h3 h3'⟩
  simp only [Q8]
  rw [hmono n m (by omega) x r h1,h1' m (by omega)]
  rfl
abbrev cs (E:Env) (n:Nat):Y→Callers:=jT E n
theorem XE (n m:Nat) (h:n≤m):FLe (cs E n) (cs E m):=JM n m h
theorem jxq {o:AOpr} {st:St} {ub:Nat} {K:St→Nat→Prop} (h:j8 E Yf o st ub K):∃ n l,jd8 E (cs E n (Yf.y n)) o st ub=some l∧l≠[]∧∀ x∈l,K x.1 x.2:=by
 have one:∀ {s:St} {u:Nat},K s u→∀ x∈[(s,u)],K x.1 x.2:=fun h x hx=>by rw [List.mem_singleton] at hx;subst hx;exact h
 unfold j8 at h
 unfold jd8
 cases hw:wanted o st.tm with
 | none=>simp only [hw] at h
 | some b =>
  cases b with
  | false =>
   simp only [hw] at h
   exact ⟨0,_,rfl,List.cons_ne_nil _ _,one h⟩
  | true =>
   simp only [hw] at h
   cases hy:jg (eval E st.tm) o.op with
   | some x =>
    obtain ⟨l,u,xs⟩:=x
    simp only [hy] at h
    obtain ⟨r,⟨n,hr⟩,hK⟩:=h
    exact ⟨n,[({ st with tm:=put st.tm o.dst r.1,ob:=r.2.1,tk:=r.2.2.1 },r.2.2.2)],by simp only [cs,jrs,hr,Option.map_some],List.cons_ne_nil _ _,one hK⟩
   | none =>
   simp only [hy] at h ⊢
   cases hsh:jF E o.nm (eval E st.tm) o.op with
   | some fx =>
    obtain ⟨f,xs⟩:=fx
    simp only [hsh] at h
    rcases h with ⟨h1,n,l,hr,hne,hK⟩ | ⟨h1,v,⟨n,hv⟩,δ,hδ,hK⟩
    ·refine ⟨n,l.map fun x=>({ st with tm:=put st.tm o.dst x.1,ob:=x.2.1,tk:=x.2.2.1 },x.2.2.2),?_,by simpa using hne,fun x hx=>?_⟩
     ·simp only [h1,if_true,cs,hr,Option.map_some]
     ·obtain ⟨r,hr2,rfl⟩:=List.mem_map.1 hx
      exact hK r hr2
    ·refine ⟨n,[(st.app o.dst δ,ub+64)],?_,List.cons_ne_nil _ _,one hK⟩
     simp only [h1,Bool.false_eq_true,if_false,cs,jii,hv,Option.bind_some,hδ,Option.map_some]
   | none =>
    simp only [hsh] at h
    have call:∀ {f:FuncId} {xs:List V},WC E f xs st o.dst ub K→∃ n δ,ja3 (cs E n (Yf.y n)).d ub f xs=some δ∧K (st.app o.dst δ) (ub+64):=by
     rintro f xs ⟨hp,v,⟨n,hv⟩,δ,hδ,hK⟩
     exact ⟨n,δ,by simp only [ja3,hp,if_true,cs,Qv,hv,Option.bind_some,hδ],hK⟩
    split at h
    ·rename_i f xs ho
     obtain ⟨n,δ,hc,hK⟩:=call h
     refine ⟨n,[(st.app o.dst δ,ub+64)],?_,List.cons_ne_nil _ _,one hK⟩
     simp only [ho,AOp.next?,aop,hc,Option.map_some]
    ·rename_i q xs ho
     obtain ⟨f,first,captured,hev,h⟩:=h
     obtain ⟨n,δ,hc,hK⟩:=call h
     refine ⟨n,[(st.app o.dst δ,ub+64)],?_,List.cons_ne_nil _ _,one hK⟩
     simp only [ho,AOp.next?,aop,hev,hc,Option.map_some]
    ·rename_i x ho
     obtain ⟨l,hl,hK⟩:=h
     refine ⟨0,l.map fun δ=>(st.app o.dst δ,ub+64),?_,?_,fun y hy=>?_⟩
     ·simp only [ho,AOp.next?,hl,Option.map_some]
     ·intro e
      have hl0:l=[]:=List.map_eq_nil_iff.1 e
      subst hl0
      unfold jfx at hl
      split at hl
      ·split at hl
       ·split at hl
        ·split at hl
         ·cases hl
         ·rename_i es hne
          simp only [Option.some.injEq] at hl
          unfold jhg at hl
          split at hl
          ·exact hne rfl
          ·cases hl
        ·cases hl
       ·split at hl
        ·cases hl
        ·cases hl
       ·cases hl
      ·cases hl
     ·obtain ⟨δ,hδ,rfl⟩:=List.mem_map.1 hy
      exact hK δ hδ
    ·rename_i op h1 h2 h3
     obtain ⟨δ,hδ,hK⟩:=h
     refine ⟨0,[(st.app o.dst δ,ub+64)],?_,List.cons_ne_nil _ _,one hK⟩
     have hn:o.op.next? = none:=by
      cases ho:o.op with
      | nextMap x=>exact absurd ho (h3 x)
      | _=>rfl
     have hδ':aop (cs E 0 (Yf.y 0)).d (eval E st.tm) st.ob st.tk st.ro (o.name st.fb ub) ub o.op=some δ:=Qz (fun _ _ _ h=>by cases h) _ _ _ _ _ _ _ _ hδ
     simp only [hn,hδ',Option.map_some]
theorem jwg:∀ {ops:List AOpr} {st:St} {ub:Nat} {K:St→Prop},WB E Yf ops st ub K→∃ n l,jiu E (cs E n (Yf.y n)) ops st ub=some l∧l≠[]∧∀ x∈l,K x
 | [],st,ub,K,h=>⟨0,_,rfl,List.cons_ne_nil _ _,fun x hx=>by rw [List.mem_singleton] at hx;subst hx;exact h⟩
 | o::r,st,ub,K,h=>by
  obtain ⟨n,l,h1,h2,h3⟩:=jxq h
  obtain ⟨n',l',h1',h2',h3'⟩:=Qw (f:=fun n (x:St × Nat)=>jiu E (cs E n (Yf.y n)) r x.1 x.2) (fun n m hm x=>jc0 (XE n m hm _ _ (Yf.mono hm)) r x.1 x.2) l h2 (fun x hx=>jwg (h3 x hx))
  refine ⟨max n n',l',?_,h2',h3'⟩
  simp only [jiu,bindL]
  rw [jg3 (XE n (max n n') (by omega) _ _ (Yf.mono (by omega))) o st ub l h1]
  exact h1' _ (by omega)
theorem jdq:∀ {ops:List AOpr} {st:St} {ub:Nat} {K:List FP→St→Prop},jI E ops st ub K→∃ n p,WG E (cs E n (Yf.y n)) ops st ub=some p∧K p.1 p.2
 | [],st,ub,K,h=>⟨0,_,rfl,h⟩
 | o::r,st,ub,K,h=>by
  unfold jI at h
  unfold WG
  cases hw:wanted o st.tm with
  | none=>simp only [hw] at h
  | some b =>
   cases b with
   | false =>
    simp only [hw] at h
    obtain ⟨n,p,h1,h2⟩:=jdq h
    exact ⟨n,({}::p.1,p.2),by simp only [h1,Option.map_some],h2⟩
   | true =>
    simp only [hw] at h
    simp only
    cases hsh:jF E o.nm (eval E st.tm) o.op with
    | some fx =>
     obtain ⟨f,xs⟩:=fx
     simp only [hsh] at h
     rcases h with h | ⟨h0,htw,a',v,ha',⟨n,hv⟩,δ,hδ,h⟩
     case inr =>
      obtain ⟨n',p,h1,h2⟩:=jdq h
      refine ⟨max n n',({ wo:=δ.wo,all:=true,seen:=fun l=>(st.ob l).isSome,nw:=true }::p.1,p.2),?_,h2⟩
      have hv':(cs E n (Yf.y n)).d f a'=some v:=by rw [cs,Qv];exact hv
      simp only [h0,htw,if_true,ha',Option.bind_some]
      rw [(XE n (max n n') (by omega) _ _ (Yf.mono (by omega))).d _ _ _ hv']
      simp only [Option.bind_some,hδ]
      rw [X4 (XE n' (max n n') (by omega) _ _ (Yf.mono (by omega))) _ _ _ _ h1]
      rfl
     obtain ⟨h0,v,⟨n,hv⟩,δ,hδ,h⟩:=h
     obtain ⟨n',p,h1,h2⟩:=jdq h
     refine ⟨max n n',({ wt:=δ.wt,all:=true,seen:=fun l=>(st.ob l).isSome }::p.1,p.2),?_,h2⟩
     simp only [h0,Bool.false_eq_true,if_false]
     have hv':(cs E n (Yf.y n)).o f xs st.ob st.tk ((st.fb+o.dst.getD 0+1) * 1024) (ub+64 * (r.length+1))=some v:=by rw [cs,jii];exact hv
     rw [(XE n (max n n') (by omega) _ _ (Yf.mono (by omega))).o _ _ _ _ _ _ _ hv']
     simp only [Option.bind_some,hδ]
     rw [X4 (XE n' (max n n') (by omega) _ _ (Yf.mono (by omega))) _ _ _ _ h1]
     rfl
    | none =>
     simp only [hsh] at h
     obtain ⟨hfar,h⟩:=h
     simp only [hfar,Bool.false_eq_true,if_false]
     have fin:∀ {n:Nat} {δ:Delta},aop (cs E n (Yf.y n)).d (eval E st.tm) st.ob st.tk st.ro (o.name st.fb ub) ub o.op=some δ→jI E r (st.app o.dst δ) (ub+64) (fun fs s=>K (jaz (eval E st.tm) o.op δ::fs) s) →
      ∃ n p,((aop (cs E n (Yf.y n)).d (eval E st.tm) st.ob st.tk st.ro (o.name st.fb ub) ub o.op).bind fun δ=>(WG E (cs E n (Yf.y n)) r (st.app o.dst δ) (ub+64)).map fun x=>(jaz (eval E st.tm) o.op δ::x.1,x.2))=some p∧K p.1 p.2:=by
      intro n δ hδ h
      obtain ⟨n',p,h1,h2⟩:=jdq h
      refine ⟨max n n',(jaz (eval E st.tm) o.op δ::p.1,p.2),?_,h2⟩
      rw [Qz (XE n (max n n') (by omega) _ _ (Yf.mono (by omega))).d _ _ _ _ _ _ _ _ hδ,Option.bind_some,X4 (XE n' (max n n') (by omega) _ _ (Yf.mono (by omega))) _ _ _ _ h1]
      rfl
     split at h
     ·rename_i f xs ho
      obtain ⟨hp,v,⟨n,hv⟩,δ,hδ,h⟩:=h
      refine fin (n:=n) (δ:=δ) ?_ h
      have hp':(xs.map fun x=>(eval E st.tm x).strip).all V.pureTop=true:=by rw [List.all_map];exact hp
      simp only [ho,aop,ja3,hp',if_true,cs,Qv,hv,Option.bind_some,hδ]
     ·rename_i q xs ho
      obtain ⟨f,first,captured,hev,hp,v,⟨n,hv⟩,δ,hδ,h⟩:=h
      refine fin (n:=n) (δ:=δ) ?_ h
      simp only [ho,aop,hev,ja3,hp,if_true,cs,Qv,hv,Option.bind_some,hδ]
     ·obtain ⟨δ,hδ,h⟩:=h
      exact fin (n:=0) (Qz (fun _ _ _ h=>by cases h) _ _ _ _ _ _ _ _ hδ) h
theorem jw7:∀ {c:C} {st:St} {Q:Ex→St→Prop},wpC E Yf c st Q→WY E Yf c st Q:=by
 intro c
 induction c with
 | skip=>intro st Q h;exact ⟨0,_,rfl,by simp,fun x hx=>by rw [List.mem_singleton] at hx;subst hx;exact h⟩
 | ret=>intro st Q h;exact ⟨0,_,rfl,by simp,fun x hx=>by rw [List.mem_singleton] at hx;subst hx;exact h⟩
 | exit id=>intro st Q h;exact ⟨0,_,rfl,by simp,fun x hx=>by rw [List.mem_singleton] at hx;subst hx;exact h⟩
 | stuck=>intro st Q h;exact h.elim
 | rangeFunc f ps a b=>intro st Q h;exact h
 | region ops =>
  intro st Q h
  obtain ⟨n,l,h1,h2,h3⟩:=jwg h
  refine ⟨n,l.map fun s=>(.nrm,s),by simp only [jb];rw [h1];rfl,by simpa using h2,fun x hx=>?_⟩
  obtain ⟨s,hs,rfl⟩:=List.mem_map.1 hx
  exact h3 s hs
 | draw ops free =>
  intro st Q h
  obtain ⟨n,p,h1,h2,h2',h3⟩:=jdq h
  refine ⟨n,[(.nrm,p.2)],?_,by simp,fun x hx=>by rw [List.mem_singleton] at hx;subst hx;exact h3⟩
  simp only [jb]
  rw [h1]
  simp only [Option.bind_some,h2,h2',Bool.and_self,if_true]
 | seq a b iha ihb =>
  intro st Q h
  obtain ⟨n,l,h1,h2,h3⟩:=iha h
  obtain ⟨n',l',h1',h2',h3'⟩:=Qw (f:=fun n (x:Ex × St)=>match x with
   | (.nrm,st')=>jb E (cs E n) (Yf.y n) n b st'
   | (e,st')=>some [(e,st')]) (Q:=fun x=>Q x.1 x.2) (fun n m hm x=>by
    obtain ⟨e,s⟩:=x
    cases e
    ·exact jc (XE n m hm) hm b _ _ (Yf.mono hm) s
    ·exact le.rfl' _
    ·exact le.rfl' _) l h2 (fun x hx=>by
    obtain ⟨e,s⟩:=x
    have:=h3 _ hx
    cases e with
    | nrm=>exact ihb this
    | exit i=>exact ⟨0,_,rfl,by simp,fun x hx=>by rw [List.mem_singleton] at hx;subst hx;exact this⟩
    | ret=>exact ⟨0,_,rfl,by simp,fun x hx=>by rw [List.mem_singleton] at hx;subst hx;exact this⟩)
  refine ⟨max n n',l',?_,h2',h3'⟩
  simp only [jb,bindL]
  rw [jc (XE n (max n n') (by omega)) (by omega) a _ _ (Yf.mono (by omega)) st l h1]
  exact h1' _ (by omega)
 | cond q a b iha ihb =>
  intro st Q h
  obtain ⟨t,ht,h1,h2⟩:=h
  cases t with
  | true =>
   obtain ⟨n,l,k1,k2,k3⟩:=iha (h1 rfl)
   exact ⟨n,l,by simp only [jb,ht];exact k1,k2,k3⟩
  | false =>
   obtain ⟨n,l,k1,k2,k3⟩:=ihb (h2 rfl)
   exact ⟨n,l,by simp only [jb,ht];exact k1,k2,k3⟩
 | block id a ih =>
  intro st Q h
  obtain ⟨n,l,h1,h2,h3⟩:=ih h
  refine ⟨n,_,by simp only [jb];rw [h1];rfl,by simpa using h2,fun x hx=>?_⟩
  obtain ⟨p,hp,rfl⟩:=List.mem_map.1 hx
  have:=h3 p hp
  obtain ⟨e,s⟩:=p
  cases e with
  | nrm=>exact this
  | ret=>exact this
  | exit i =>
   simp only at this ⊢
   split at this
   ·rename_i hi;simp only [hi,if_true];exact this
   ·rename_i hi;simp only [hi,if_false];exact this
 | loop a ih =>
  intro st Q h
  obtain ⟨N,h⟩:=h
  have key:∀ (N:Nat) (st:St),Xx (wpC E Yf a) N st Q→∃ n l,(∀ m k,n≤m→n≤k→Qj (jb E (cs E m) (Yf.y m) m a) k st=some l)∧l≠[]∧∀ x∈l,Q x.1 x.2:=by
   intro N
   induction N with
   | zero=>intro st h;exact h.elim
   | succ N ihN =>
    intro st h
    obtain ⟨n,l,h1,h2,h3⟩:=ih h
    obtain ⟨n',l',h1',h2',h3'⟩:=Qw (f:=fun n (x:Ex × St)=>match x with
     | (.nrm,st')=>Qj (jb E (cs E n) (Yf.y n) n a) n st'
     | (e,st')=>some [(e,st')]) (Q:=fun x=>Q x.1 x.2) (fun n m hm x=>by
      obtain ⟨e,s⟩:=x
      cases e
      ·exact Wh (fun s=>jc (XE n m hm) hm a _ _ (Yf.mono hm) s) n m hm s
      ·exact le.rfl' _
      ·exact le.rfl' _) l h2 (fun x hx=>by
      obtain ⟨e,s⟩:=x
      have:=h3 _ hx
      cases e with
      | nrm =>
       obtain ⟨k,r,q1,q2,q3⟩:=ihN s this
       exact ⟨k,r,q1 k k (Nat.le_refl _) (Nat.le_refl _),q2,q3⟩
      | exit i=>exact ⟨0,_,rfl,by simp,fun x hx=>by rw [List.mem_singleton] at hx;subst hx;exact this⟩
      | ret=>exact ⟨0,_,rfl,by simp,fun x hx=>by rw [List.mem_singleton] at hx;subst hx;exact this⟩)
    refine ⟨max n n'+1,l',fun m k hm hk=>?_,h2',h3'⟩
    obtain ⟨k,rfl⟩:∃ k',k=k'+1:=⟨k - 1,by omega⟩
    simp only [Qj,bindL]
    rw [jc (XE n m (by omega)) (by omega) a _ _ (Yf.mono (by omega)) st l h1]
    have e1:=h1' (max n n') (by omega)
    refine QL (fun x=>?_) l l' e1
    obtain ⟨e,s⟩:=x
    cases e
    ·exact Wh (fun s=>jc (XE _ m (by omega)) (by omega) a _ _ (Yf.mono (by omega)) s) _ k (by omega) s
    ·exact le.rfl' _
    ·exact le.rfl' _
  obtain ⟨n,l,h1,h2,h3⟩:=key N st h
  exact ⟨n,l,h1 n n (Nat.le_refl _) (Nat.le_refl _),h2,h3⟩
theorem Ev_wp {f:FuncId} {af:AF} {args:List V} {r:V} (hf:E.fc f=some af) (h:wpC E Xo af.body (Wr args) fun e s=>QN af.res (e,s)=some r):Ev E f args r:=Ev_of hf (jw7 h)
theorem jac:∀ {ops:List AOpr} {st:St} {ub:Nat} {K K':St→Prop},(∀ s,K s→K' s)→WB E Yf ops st ub K→WB E Yf ops st ub K'
 | [],_,_,_,_,h,hk=>h _ hk
 | o::r,st,ub,K,K',h,hk=>by
  have key:∀ {K K':St→Nat→Prop},(∀ s u,K s u→K' s u)→j8 E Yf o st ub K→j8 E Yf o st ub K':=by
   intro K K' h hk
   have call:∀ {f:FuncId} {xs:List V},WC E f xs st o.dst ub K→WC E f xs st o.dst ub K':=by
    rintro f xs ⟨hp,v,hv,δ,hδ,hK⟩
    exact ⟨hp,v,hv,δ,hδ,h _ _ hK⟩
   unfold j8 at hk ⊢
   cases hw:wanted o st.tm with
   | none=>simp only [hw] at hk
   | some b =>
    cases b with
    | false=>simp only [hw] at hk ⊢;exact h _ _ hk
    | true =>
     simp only [hw] at hk ⊢
     cases hy:jg (eval E st.tm) o.op with
     | some x =>
      obtain ⟨l,u,xs⟩:=x
      simp only [hy] at hk ⊢
      obtain ⟨r,hr,hK⟩:=hk
      exact ⟨r,hr,h _ _ hK⟩
     | none =>
     simp only [hy] at hk ⊢
     cases hsh:jF E o.nm (eval E st.tm) o.op with
     | some fx =>
      simp only [hsh] at hk ⊢
      rcases hk with ⟨h1,n,l,hr,hne,hK⟩ | ⟨h1,v,hv,δ,hδ,hK⟩
      ·exact .inl ⟨h1,n,l,hr,hne,fun r hm=>h _ _ (hK r hm)⟩
      ·exact .inr ⟨h1,v,hv,δ,hδ,h _ _ hK⟩
     | none =>
      simp only [hsh] at hk ⊢
      cases ho:o.op <;> simp only [ho] at hk ⊢
      case call f xs=>exact call hk
      case callV q xs =>
       obtain ⟨f,first,captured,hev,hk⟩:=hk
       exact ⟨f,first,captured,hev,call hk⟩
      case nextMap x =>
       obtain ⟨l,hl,hK⟩:=hk
       exact ⟨l,hl,fun δ hδ=>h _ _ (hK δ hδ)⟩
      all_goals
       obtain ⟨δ,hδ,hK⟩:=hk
       exact ⟨δ,hδ,h _ _ hK⟩
  exact key (fun s u=>jac h) hk
theorem JP:∀ {ops:List AOpr} {st:St} {ub:Nat} {K K':List FP→St→Prop},(∀ f s,K f s→K' f s)→jI E ops st ub K→jI E ops st ub K'
 | [],_,_,_,_,h,hk=>h _ _ hk
 | o::r,st,ub,K,K',h,hk=>by
  unfold jI at hk ⊢
  cases hw:wanted o st.tm with
  | none=>simp only [hw] at hk
  | some b =>
   cases b with
   | false=>simp only [hw] at hk ⊢;exact JP (fun _ _=>h _ _) hk
   | true =>
    simp only [hw] at hk ⊢
    cases hsh:jF E o.nm (eval E st.tm) o.op with
    | some fx =>
     simp only [hsh] at hk ⊢
     rcases hk with ⟨h1,v,hv,δ,hδ,hK⟩ | ⟨h1,h2,a',v,ha,hv,δ,hδ,hK⟩
     ·exact .inl ⟨h1,v,hv,δ,hδ,JP (fun _ _=>h _ _) hK⟩
     ·exact .inr ⟨h1,h2,a',v,ha,hv,δ,hδ,JP (fun _ _=>h _ _) hK⟩
    | none =>
     simp only [hsh] at hk ⊢
     refine ⟨hk.1,?_⟩
     have hk:=hk.2
     cases ho:o.op <;> simp only [ho] at hk ⊢
     case call f xs =>
      obtain ⟨h1,v,hv,δ,hδ,hK⟩:=hk
      exact ⟨h1,v,hv,δ,hδ,JP (fun _ _=>h _ _) hK⟩
     case callV q xs =>
      obtain ⟨f,first,captured,hev,h1,v,hv,δ,hδ,hK⟩:=hk
      exact ⟨f,first,captured,hev,h1,v,hv,δ,hδ,JP (fun _ _=>h _ _) hK⟩
     all_goals
      obtain ⟨δ,hδ,hK⟩:=hk
      exact ⟨δ,hδ,JP (fun _ _=>h _ _) hK⟩
theorem Q9 {W:St→(Ex→St→Prop)→Prop} (hW:∀ (st:St) (Q Q':Ex→St→Prop),(∀ e s,Q e s→Q' e s)→W st Q→W st Q'):∀ {n:Nat} {st:St} {Q Q':Ex→St→Prop},(∀ e s,Q e s→Q' e s)→Xx W n st Q→Xx W n st Q'
 | 0,_,_,_,_,h=>h
 | n+1,st,Q,Q',h,hk=>hW st _ _ (fun e s he=>by
  cases e
  ·exact Q9 (W:=W) hW h he
  ·exact h _ _ he
  ·exact h _ _ he) hk
theorem Jb:∀ {c:C} {st:St} {Q Q':Ex→St→Prop},(∀ e s,Q e s→Q' e s)→wpC E Yf c st Q→wpC E Yf c st Q':=by
 intro c
 induction c with
 | skip=>intro st Q Q' h hk;exact h _ _ hk
 | ret=>intro st Q Q' h hk;exact h _ _ hk
 | exit id=>intro st Q Q' h hk;exact h _ _ hk
 | stuck=>intro st Q Q' h hk;exact hk
 | rangeFunc f ps a b=>intro st Q Q' h hk;obtain ⟨n,l,h1,h2,h3⟩:=hk;exact ⟨n,l,h1,h2,fun x hx=>h _ _ (h3 x hx)⟩
 | region ops=>intro st Q Q' h hk;exact jac (fun s=>h _ s) hk
 | draw ops free=>intro st Q Q' h hk;exact JP (fun f s hs=>⟨hs.1,hs.2.1,h _ _ hs.2.2⟩) hk
 | seq a b iha ihb =>
  intro st Q Q' h hk
  refine iha (fun e s he=>?_) hk
  cases e
  ·exact ihb h he
  ·exact h _ _ he
  ·exact h _ _ he
 | cond q a b iha ihb =>
  intro st Q Q' h hk
  obtain ⟨t,ht,h1,h2⟩:=hk
  exact ⟨t,ht,fun e=>iha h (h1 e),fun e=>ihb h (h2 e)⟩
 | block id a ih =>
  intro st Q Q' h hk
  refine ih (fun e s he=>?_) hk
  cases e
  ·exact h _ _ he
  ·simp only at he ⊢
   split at he
   ·rename_i hi;simp only [hi,if_true];exact h _ _ he
   ·rename_i hi;simp only [hi,if_false];exact h _ _ he
  ·exact h _ _ he
 | loop a ih =>
  intro st Q Q' h hk
  obtain ⟨N,hk⟩:=hk
  exact ⟨N,Q9 (W:=wpC E Yf a) (fun _ _ _ h hk=>ih h hk) h hk⟩
theorem jw8 {a:C} {Q:Ex→St→Prop} (I:Nat→St→Prop) {n:Nat} {st:St} (h0:I n st)
 (hs:∀ k s,I k s→wpC E Yf a s fun e s'=>match e with | .nrm=>∃ j,j<k∧I j s' | e=>Q e s'):wpC E Yf (.loop a) st Q:=by
 refine ⟨n+1,?_⟩
 have key:∀ n st j,j≤n→I j st→Xx (wpC E Yf a) (n+1) st Q:=by
  intro n
  induction n with
  | zero =>
   intro st j hj hI
   refine Jb (fun e s he=>?_) (hs j st hI)
   cases e
   ·obtain ⟨i,hi,_⟩:=he;omega
   ·exact he
   ·exact he
  | succ n ih =>
   intro st j hj hI
   refine Jb (fun e s he=>?_) (hs j st hI)
   cases e
   ·obtain ⟨i,hi,hI'⟩:=he
    exact ih s i (by omega) hI'
   ·exact he
   ·exact he
 exact key n st n (Nat.le_refl _) h0
end
end Go.Pv

/- Reckoning a condition, operation by operation. -/
namespace Go.Pv
open Go
def QB:V→Bool→Prop→Prop→Prop
 | .bool c,b,p,q=>(c=b→p)∧(c = !b→q)
 | .tup [],_,_,q=>q
 | _,_,_,_=>False
def wpIf:V→Prop→Prop→Prop
 | .bool c,p,q=>(c=true→p)∧(c=false→q)
 | _,_,_=>False
def wpV (o:Option V) (k:V→Prop):Prop:=∃ v,o=some v∧k v
def wpD (o:Option Delta) (k:Delta→Prop):Prop:=∃ v,o=some v∧k v
theorem jkj (v:V) (k:V→Prop):wpV (some v) k=k v:=by simp [wpV]
theorem jkk (k:V→Prop):wpV none k=False:=by simp [wpV]
theorem jw9 (c:Prop) [Decidable c] (o:Option V) (k:V→Prop):wpV (if c then o else none) k=(c∧wpV o k):=by by_cases h:c <;> simp [h,wpV]
theorem jsb (c:Prop) [Decidable c] (o:Option V) (k:V→Prop):wpV (if c then none else o) k=(¬ c∧wpV o k):=by by_cases h:c <;> simp [h,wpV]
theorem jP (v:Delta) (k:Delta→Prop):wpD (some v) k=k v:=by simp [wpD]
theorem QP (k:Delta→Prop):wpD none k=False:=by simp [wpD]
theorem jb6 (c:Prop) [Decidable c] (o:Option Delta) (k:Delta→Prop):wpD (if c then o else none) k=(c∧wpD o k):=by by_cases h:c <;> simp [h,wpD]
theorem jsn (c:Prop) [Decidable c] (o:Option Delta) (k:Delta→Prop):wpD (if c then none else o) k=(¬ c∧wpD o k):=by by_cases h:c <;> simp [h,wpD]
def St.setT (st:St) (d:Option Nat) (v:V):St:={ st with tm:=put st.tm d v }
theorem Wx (st:St) (d:Option Nat) (v:V):st.app d { v:=v } = st.setT d v:=by simp [St.app,JJ,X7,St.setT]
theorem jxw (st:St) (d n:Nat) (v:V):(st.setT (some d) v).tm n=if n=d then v else st.tm n:=by simp [St.setT,put,j6]
theorem js6 (st:St) (n:Nat) (v:V):(st.setT none v).tm n=st.tm n:=rfl
theorem Y0 (st:St) (d:Option Nat) (v:V):(st.setT d v).ob=st.ob:=rfl
theorem ji7 (st:St) (d:Option Nat) (v:V):(st.setT d v).tk=st.tk:=rfl
theorem jxx (st:St) (d:Option Nat) (v:V):(st.setT d v).ro=st.ro:=rfl
theorem jxy (st:St) (d:Option Nat) (v:V):(st.setT d v).nx=st.nx:=rfl
theorem jxz (st:St) (d:Option Nat) (v:V):(st.setT d v).fb=st.fb:=rfl
theorem jx0 (st:St) (d:Option Nat) (v:V):(st.setT d v).df=st.df:=rfl
def St.setN (st:St) (n:Nat):St:={ st with nx:=n }
theorem ji8 (st:St) (n:Nat):(st.setN n).tm=st.tm:=rfl
theorem J1 (st:St) (n:Nat):(st.setN n).ob=st.ob:=rfl
theorem jox (st:St) (n:Nat):(st.setN n).tk=st.tk:=rfl
theorem jx1 (st:St) (n:Nat):(st.setN n).ro=st.ro:=rfl
theorem jfn (st:St) (n:Nat):(st.setN n).nx=n:=rfl
theorem jx2 (st:St) (n:Nat):(st.setN n).fb=st.fb:=rfl
theorem jx3 (st:St) (n:Nat):(st.setN n).df=st.df:=rfl
theorem jik (st:St) (d n:Nat) (δ:Delta):(st.app (some d) δ).tm n=if n=d then δ.v else st.tm n:=by simp [St.app,put,j6]
theorem j0w (st:St) (n:Nat) (δ:Delta):(st.app none δ).tm n=st.tm n:=rfl
theorem j7m (st:St) (d:Option Nat) (δ:Delta):(st.app d δ).ro=st.ro:=rfl
theorem j7o (st:St) (d:Option Nat) (δ:Delta):(st.app d δ).nx=st.nx:=rfl
theorem j7p (st:St) (d:Option Nat) (δ:Delta):(st.app d δ).fb=st.fb:=rfl
theorem j7q (st:St) (d:Option Nat) (δ:Delta):(st.app d δ).df=st.df:=rfl
theorem j7n (st:St) (d:Option Nat) (v:V) (del:Option Nat) (add:List Nat):(st.app d { v:=v,del:=del,add:=add }).ob=st.ob:=by simp [St.app,JJ]
theorem ji (st:St) (d:Option Nat) (δ:Delta) (u:Nat):(st.app d δ).tk u=if u∈δ.add then true else if u∈δ.del.toList then false else st.tk u:=by simp only [St.app,QC]
theorem Ja (st:St) (d:Option Nat) (v:V) (l k:Nat) (o:Obj') (add:List Nat):(st.app d { v:=v,obs:=[(l,o)],add:=add }).ob k=if k=l then some o else st.ob k:=by simp [St.app,JJ,j6]
theorem jsv (args:List V) (n:Nat):(Wr args).tm n=args.getD n J3:=rfl
theorem jsy (args:List V) (n:Nat):(Wr args).ob n=none:=rfl
theorem jsw (args:List V) (n:Nat):(Wr args).tk n=false:=rfl
theorem jsx (args:List V):(Wr args).ro=0:=rfl
theorem jsz (args:List V):(Wr args).nx=0:=rfl
theorem js0 (args:List V):(Wr args).fb=0:=rfl
theorem js1 (args:List V):(Wr args).df=[]:=rfl
theorem j6v (E:Env) (tm:Nat→V) (n:Nat):eval E tm (.t n)=tm n:=rfl
theorem j6w (E:Env) (tm:Nat→V) (v:V):eval E tm (.c v)=v:=rfl
def jtm:V→V→V→Option V
 | .bool t,a,b=>some (cond t a b)
 | _,_,_=>none
theorem jmv (t:Bool) (a b:V):jtm (.bool t) a b=some (cond t a b):=rfl
def QH (ob:Nat→Option Obj') (g:Option Nat):V→Option V
 | .eptr cs off=>Y1 g cs off
 | .ptr l u off=>(j2 ob l u).bind fun cs=>Y1 g cs off
 | _=>none
theorem jat (ob:Nat→Option Obj') (g:Option Nat) (cs:List V) (off:Nat):QH ob g (.eptr cs off)=Y1 g cs off:=rfl
theorem jyv (ob:Nat→Option Obj') (g:Option Nat) (l u off:Nat):QH ob g (.ptr l u off)=(j2 ob l u).bind fun cs=>Y1 g cs off:=rfl
def Qh:V→Option V
 | .ptr l u o=>some (.ptr l u o)
 | .eptr cs o=>some (.eptr cs o)
 | .fn (.func f) a b=>some (.fn (.func f) a b)
 | _=>none
def Yh (off:Nat):V→Option V
 | .ptr l u o=>some (.ptr l u (o+off))
 | .eptr cs o=>some (.eptr cs (o+off))
 | _=>none
def JH (sz:Nat):V→V→Option V
 | .sl _ _ n cs,.int _ i=>if 0≤i∧i<n∧cs.length=n * sz then some (.eptr cs (i.toNat * sz)) else none
 | .osl l u off n sz',.int _ i=>if 0≤i∧i<n∧sz'=sz then some (.ptr l u (off+i.toNat * sz)) else none
 | _,_=>none
def QJ (len sz:Nat):V→V→Option V
 | .ptr l u off,.int _ i=>if 0≤i∧i<len then some (.ptr l u (off+i.toNat * sz)) else none
 | .eptr cs off,.int _ i=>if 0≤i∧i<len then some (.eptr cs (off+i.toNat * sz)) else none
 | _,_=>none
def jyi (g:Option Nat) (off:Nat):V→Option V
 | .agg cs=>Y1 g cs off
 | _=>none
def WR:V→V→Option V
 | .str s,.int _ i=>if 0≤i then (s[i.toNat]?).map fun b=>.int .u8 b.toNat else none
 | _,_=>none
def jj5 (g:Option Nat) (len sz:Nat):V→V→Option V
 | .agg cs,.int _ i=>if 0≤i∧i<len then Y1 g cs (i.toNat * sz) else none
 | _,_=>none
def XI (lo hi:Option V):V→Option V
 | .str s=>(Jr s.length s.length lo hi).map fun (l,h)=>.str ((s.take h).drop l)
 | _=>none
def jaf (sz:Nat) (lo hi:Option V):V→Option V
 | .sl _ nl n cs=>if cs.length=n * sz then (Jr n n lo hi).map fun (l,h)=>.sl none nl (h - l) ((cs.take (h * sz)).drop (l * sz)) else none
 | .osl a u off n sz'=>if sz'=sz then (Jr n n lo hi).map fun (l,h)=>.osl a u (off+l * sz) (h - l) sz else none
 | _=>none
def jf5:V→Option V
 | .str s=>some (.int .i64 s.length)
 | _=>none
def jdb:V→Option V
 | .sl _ _ n _=>some (.int .i64 n)
 | .osl _ _ _ n _=>some (.int .i64 n)
 | _=>none
def jf6 (ob:Nat→Option Obj'):V→Option V
 | .nilmap=>some (.int .i64 0)
 | .map l u=>(jd ob l u).map fun es=>.int .i64 es.length
 | _=>none
def jb0 (i:Nat):V→Option V
 | .tup vs=>vs[i]?
 | _=>none
def XF (k:IntKind):V→Option V
 | .int _ n=>some (.int k (k.wrap n))
 | _=>none
def QG (isMax:Bool):List V→Option V
 | []=>none
 | x::r=>WO isMax x r
def jvq (ob:Nat→Option Obj') (neg:Bool) (k:EqK) (x y:V):Option V :=
 match k,x,y with
 | .ptr,.ptr l u off,.ptr l' u' off'=>if (j2 ob l u).isSome && (j2 ob l' u').isSome then some (.bool (xor neg (Nat.beq l l' && Nat.beq off off'))) else none
 | k,a,b=>(eqV k a b).map fun b=>.bool (xor neg b)
def YP (ob:Nat→Option Obj') (q:LK) (zero:V) (ok:Bool) (m k:V):Option V :=
 if jax q k then match m with
  | .nilmap=>some (if ok then .tup [zero,.bool false] else zero)
  | .map l u=>(jd ob l u).bind fun es=>(findKey q k es).map fun r=>match r with
   | some (_,v)=>if ok then .tup [v,.bool true] else v
   | none=>if ok then .tup [zero,.bool false] else zero
  | _=>none else none
section
variable {E:Env} {Yf:YF} {st:St} {ub:Nat} {K:St→Nat→Prop} {d:Option Nat} {nm:Bool}
theorem jso {c:A} {a b:C} {Q:Ex→St→Prop}:wpC E Yf (.cond c a b) st Q=wpIf (eval E st.tm c) (wpC E Yf a st Q) (wpC E Yf b st Q):=by
 simp only [wpC]
 cases h:eval E st.tm c <;> simp [wpIf]
theorem jgq {op:AOp} {t:Nat} {b:Bool}:j8 E Yf ⟨d,op,some (t,b),nm⟩ st ub K=QB (st.tm t) b (j8 E Yf ⟨d,op,none,nm⟩ st ub K) (K (st.setT d J3) ub):=by
 have hn:AOpr.name ⟨d,op,some (t,b),nm⟩=AOpr.name ⟨d,op,none,nm⟩:=rfl
 unfold j8
 simp only [wanted,hn]
 cases h:st.tm t with
 | bool c =>
  simp only [QB]
  cases c <;> cases b <;> simp [St.setT]
 | tup l=>cases l <;> simp [QB,St.setT]
 | _=>simp [QB]
theorem jS (op:AOp) (h:op.isCall=false) (h2:op.isNext=false):j8 E Yf ⟨d,op,none,nm⟩ st ub K=wpD (aop (fun _ _=>none) (eval E st.tm) st.ob st.tk st.ro (AOpr.name ⟨d,op,none,nm⟩ st.fb ub) ub op) fun δ=>K (st.app d δ) (ub+64):=by
 cases op <;> first | cases h;done | cases h2;done | simp only [j8,wanted,jg,jF,wpD]
theorem Yn (v:V) (k:Delta→Prop):wpD (one v) k=k { v:=v }:=by simp [one,wpD]
theorem jbs (o:Option V) (k:Delta→Prop):wpD (o.bind one) k=wpV o fun v=>k { v:=v }:=by cases o <;> simp [wpD,wpV,one]
theorem jxb {x:A}:j8 E Yf ⟨d,.mov x,none,nm⟩ st ub K=K (st.setT d (eval E st.tm x)) (ub+64):=by rw [jS _ rfl rfl];simp only [aop,Yn,Wx]
theorem jsd {c a b:A}:j8 E Yf ⟨d,.pick c a b,none,nm⟩ st ub K=wpV (jtm (eval E st.tm c) (eval E st.tm a) (eval E st.tm b)) fun v=>K (st.setT d v) (ub+64):=by
 rw [jS _ rfl rfl];simp only [aop];cases eval E st.tm c <;> simp only [jtm,Yn,jkj,jkk,QP,Wx]
theorem jxd {op:BinOp} {x y:A}:j8 E Yf ⟨d,.bin op x y,none,nm⟩ st ub K=wpV (YB op (eval E st.tm x) (eval E st.tm y)) fun v=>K (st.setT d v) (ub+64):=by
 rw [jS _ rfl rfl];simp only [aop,jbs,Wx]
theorem j1p {op:UnOp} {x:A}:j8 E Yf ⟨d,.un op x,none,nm⟩ st ub K=wpV (unV op (eval E st.tm x)) fun v=>K (st.setT d v) (ub+64):=by
 rw [jS _ rfl rfl];simp only [aop,jbs,Wx]
theorem jN {α:Type} (o:Option α) (f:α→V):(o.bind fun x=>one (f x))=(o.map f).bind one:=by cases o <;> rfl
theorem jV (c:Prop) [Decidable c] (v:Option V):(if c then v.bind one else none)=(if c then v else none).bind one:=by split <;> rfl
theorem JX (c:Prop) [Decidable c] (v:V):(if c then one v else none)=(if c then some v else none).bind one:=by split <;> rfl
theorem WQ {α:Type} (c:Prop) [Decidable c] (o:Option α) (f:α→V):(if c then o.bind fun x=>one (f x) else none)=(if c then o.map f else none).bind one:=by split;exact jN _ _;rfl
theorem JO {op:AOp} {o:Option V} (h:op.isCall=false) (h2:op.isNext=false) (ha:∀ du,aop (fun _ _=>none) (eval E st.tm) st.ob st.tk st.ro du ub op=o.bind one):j8 E Yf ⟨d,op,none,nm⟩ st ub K=wpV o fun v=>K (st.setT d v) (ub+64):=by
 rw [jS _ h h2,ha,jbs]
 simp only [Wx]
theorem j1q {neg:Bool} {k:EqK} {x y:A}:j8 E Yf ⟨d,.eq neg k x y,none,nm⟩ st ub K=wpV (jvq st.ob neg k (eval E st.tm x) (eval E st.tm y)) fun v=>K (st.setT d v) (ub+64):=by
 refine JO rfl rfl fun du=>?_
 simp only [aop,jvq]
 generalize eval E st.tm x=vx
 generalize eval E st.tm y=vy
 cases k <;> first | rfl | exact jN _ _ | (cases vx <;> first | rfl | exact jN _ _ | (cases vy <;> (first | rfl | exact JX _ _ | exact jV _ _ | exact jN _ _ | exact (Option.bind_assoc ..).symm)))
theorem jsg {g:Option Nat} {x:A}:j8 E Yf ⟨d,.load g x,none,nm⟩ st ub K=wpV (QH st.ob g (eval E st.tm x)) fun v=>K (st.setT d v) (ub+64):=by
 refine JO rfl rfl fun du=>?_
 simp only [aop,QH]
 generalize eval E st.tm x=vx
 cases vx <;> (first | rfl | exact JX _ _ | exact jV _ _ | exact jN _ _ | exact (Option.bind_assoc ..).symm)
theorem jgs {x:A}:j8 E Yf ⟨d,.nilCheck x,none,nm⟩ st ub K=wpV (Qh (eval E st.tm x)) fun v=>K (st.setT d v) (ub+64):=by
 refine JO rfl rfl fun du=>?_
 simp only [aop,Qh]
 generalize eval E st.tm x=vx
 cases vx <;> (first | rfl | exact JX _ _ | exact jV _ _ | exact jN _ _ | exact (Option.bind_assoc ..).symm | (rename_i f _ _;cases f <;> rfl) | exact WQ _ _ _)
theorem jfj {off:Nat} {x:A}:j8 E Yf ⟨d,.fieldAddr off x,none,nm⟩ st ub K=wpV (Yh off (eval E st.tm x)) fun v=>K (st.setT d v) (ub+64):=by
 refine JO rfl rfl fun du=>?_
 simp only [aop,Yh]
 generalize eval E st.tm x=vx
 cases vx <;> (first | rfl | exact JX _ _ | exact jV _ _ | exact jN _ _ | exact (Option.bind_assoc ..).symm)
theorem joa {sz:Nat} {x i:A}:j8 E Yf ⟨d,.idxSl sz x i,none,nm⟩ st ub K=wpV (JH sz (eval E st.tm x) (eval E st.tm i)) fun v=>K (st.setT d v) (ub+64):=by
 refine JO rfl rfl fun du=>?_
 simp only [aop,JH]
 generalize eval E st.tm x=vx
 generalize eval E st.tm i=vi
 cases vx <;> first | rfl | (cases vi <;> (first | rfl | exact JX _ _ | exact jV _ _ | exact jN _ _ | exact (Option.bind_assoc ..).symm))
theorem jmh {len sz:Nat} {x i:A}:j8 E Yf ⟨d,.idxArr len sz x i,none,nm⟩ st ub K=wpV (QJ len sz (eval E st.tm x) (eval E st.tm i)) fun v=>K (st.setT d v) (ub+64):=by
 refine JO rfl rfl fun du=>?_
 simp only [aop,QJ]
 generalize eval E st.tm x=vx
 generalize eval E st.tm i=vi
 cases vx <;> first | rfl | (cases vi <;> (first | rfl | exact JX _ _ | exact jV _ _ | exact jN _ _ | exact (Option.bind_assoc ..).symm))
theorem jse {g:Option Nat} {off:Nat} {x:A}:j8 E Yf ⟨d,.part g off x,none,nm⟩ st ub K=wpV (jyi g off (eval E st.tm x)) fun v=>K (st.setT d v) (ub+64):=by
 refine JO rfl rfl fun du=>?_
 simp only [aop,jyi]
 generalize eval E st.tm x=vx
 cases vx <;> (first | rfl | exact JX _ _ | exact jV _ _ | exact jN _ _ | exact (Option.bind_assoc ..).symm)
theorem jmg {x i:A}:j8 E Yf ⟨d,.idxStr x i,none,nm⟩ st ub K=wpV (WR (eval E st.tm x) (eval E st.tm i)) fun v=>K (st.setT d v) (ub+64):=by
 refine JO rfl rfl fun du=>?_
 simp only [aop,WR]
 generalize eval E st.tm x=vx
 generalize eval E st.tm i=vi
 cases vx <;> first | rfl | (cases vi <;> (first | rfl | exact JX _ _ | exact jV _ _ | exact jN _ _ | exact (Option.bind_assoc ..).symm | (rename_i f _ _;cases f <;> rfl) | exact WQ _ _ _))
theorem jmf {g:Option Nat} {len sz:Nat} {x i:A}:j8 E Yf ⟨d,.idxVal g len sz x i,none,nm⟩ st ub K=wpV (jj5 g len sz (eval E st.tm x) (eval E st.tm i)) fun v=>K (st.setT d v) (ub+64):=by
 refine JO rfl rfl fun du=>?_
 simp only [aop,jj5]
 generalize eval E st.tm x=vx
 generalize eval E st.tm i=vi
 cases vx <;> first | rfl | (cases vi <;> (first | rfl | exact JX _ _ | exact jV _ _ | exact jN _ _ | exact (Option.bind_assoc ..).symm))
theorem jn8 {x:A} {lo hi:Option A}:j8 E Yf ⟨d,.slStr x lo hi,none,nm⟩ st ub K=wpV (XI (lo.map (eval E st.tm)) (hi.map (eval E st.tm)) (eval E st.tm x)) fun v=>K (st.setT d v) (ub+64):=by
 refine JO rfl rfl fun du=>?_
 simp only [aop,XI]
 generalize eval E st.tm x=vx
 cases vx <;> (first | rfl | exact JX _ _ | exact jV _ _ | exact jN _ _ | exact (Option.bind_assoc ..).symm)
theorem jsc {sz:Nat} {x:A} {lo hi:Option A}:j8 E Yf ⟨d,.slSl sz x lo hi,none,nm⟩ st ub K=wpV (jaf sz (lo.map (eval E st.tm)) (hi.map (eval E st.tm)) (eval E st.tm x)) fun v=>K (st.setT d v) (ub+64):=by
 refine JO rfl rfl fun du=>?_
 simp only [aop,jaf]
 generalize eval E st.tm x=vx
 cases vx <;> (first | rfl | exact JX _ _ | exact jV _ _ | exact jN _ _ | exact (Option.bind_assoc ..).symm | (rename_i f _ _;cases f <;> rfl) | exact WQ _ _ _)
theorem jmd {x:A}:j8 E Yf ⟨d,.lenStr x,none,nm⟩ st ub K=wpV (jf5 (eval E st.tm x)) fun v=>K (st.setT d v) (ub+64):=by
 refine JO rfl rfl fun du=>?_
 simp only [aop,jf5]
 generalize eval E st.tm x=vx
 cases vx <;> (first | rfl | exact JX _ _ | exact jV _ _ | exact jN _ _ | exact (Option.bind_assoc ..).symm)
theorem jn9 {x:A}:j8 E Yf ⟨d,.lenSl x,none,nm⟩ st ub K=wpV (jdb (eval E st.tm x)) fun v=>K (st.setT d v) (ub+64):=by
 refine JO rfl rfl fun du=>?_
 simp only [aop,jdb]
 generalize eval E st.tm x=vx
 cases vx <;> (first | rfl | exact JX _ _ | exact jV _ _ | exact jN _ _ | exact (Option.bind_assoc ..).symm)
theorem jme {x:A}:j8 E Yf ⟨d,.lenMap x,none,nm⟩ st ub K=wpV (jf6 st.ob (eval E st.tm x)) fun v=>K (st.setT d v) (ub+64):=by
 refine JO rfl rfl fun du=>?_
 simp only [aop,jf6]
 generalize eval E st.tm x=vx
 cases vx <;> (first | rfl | exact JX _ _ | exact jV _ _ | exact jN _ _ | exact (Option.bind_assoc ..).symm)
theorem jix {x:A} {i:Nat}:j8 E Yf ⟨d,.extract x i,none,nm⟩ st ub K=wpV (jb0 i (eval E st.tm x)) fun v=>K (st.setT d v) (ub+64):=by
 refine JO rfl rfl fun du=>?_
 simp only [aop,jb0]
 generalize eval E st.tm x=vx
 cases vx <;> (first | rfl | exact JX _ _ | exact jV _ _ | exact jN _ _ | exact (Option.bind_assoc ..).symm)
theorem jsh {k:IntKind} {x:A}:j8 E Yf ⟨d,.conv k x,none,nm⟩ st ub K=wpV (XF k (eval E st.tm x)) fun v=>K (st.setT d v) (ub+64):=by
 refine JO rfl rfl fun du=>?_
 simp only [aop,XF]
 generalize eval E st.tm x=vx
 cases vx <;> (first | rfl | exact JX _ _ | exact jV _ _ | exact jN _ _ | exact (Option.bind_assoc ..).symm)
theorem jmb {b:Bool} {xs:List A}:j8 E Yf ⟨d,.minmax b xs,none,nm⟩ st ub K=wpV (QG b (xs.map (eval E st.tm))) fun v=>K (st.setT d v) (ub+64):=by
 refine JO rfl rfl fun du=>?_
 simp only [aop,QG]
 generalize xs.map (eval E st.tm)=vxs
 cases vxs <;> (first | rfl | exact JX _ _ | exact jV _ _ | exact jN _ _ | exact (Option.bind_assoc ..).symm)
theorem jsf {f:Fn} {a b:List A}:j8 E Yf ⟨d,.mkFn f a b,none,nm⟩ st ub K=K (st.setT d (.fn f (a.map (eval E st.tm)) (b.map (eval E st.tm)))) (ub+64):=by rw [jS _ rfl rfl];simp only [aop,Yn,Wx]
theorem joe {z:List V} {ps:List (Nat × Nat × A)}:j8 E Yf ⟨d,.build z ps,none,nm⟩ st ub K=wpV ((fill z (jp (eval E st.tm) ps)).map .agg) fun v=>K (st.setT d v) (ub+64):=by
 rw [jS _ rfl rfl];simp only [aop,jN,jbs,Wx]
theorem jmc {q:LK} {z:V} {ok:Bool} {m k:A}:j8 E Yf ⟨d,.lookup q z ok m k,none,nm⟩ st ub K=wpV (YP st.ob q z ok (eval E st.tm m) (eval E st.tm k)) fun v=>K (st.setT d v) (ub+64):=by
 refine JO rfl rfl fun du=>?_
 simp only [aop,YP]
 generalize eval E st.tm m=vm
 generalize eval E st.tm k=vk
 cases jax q vk with
 | false=>rfl
 | true =>
  simp only [if_true]
  cases vm <;> first | rfl | skip
  rename_i l u
  simp only
  cases jd st.ob l u with
  | none=>rfl
  | some es =>
   simp only [Option.bind_some]
   cases findKey q vk es with
   | none=>rfl
   | some r=>cases r <;> rfl
def jk4 (E:Env) (nm:Bool) (f:FuncId) (vs:List V):Prop:=E.sh nm f=false∧(vs.all fun v=>v.strip.pureTop)=true
theorem jgm (vs:List V):(vs.map V.strip).all V.pureTop=vs.all fun v=>v.strip.pureTop:=by rw [List.all_map];rfl
theorem jsi {f:FuncId} {xs:List A} (h:jk4 E nm f (xs.map (eval E st.tm))∧∃ v,Ev E f ((xs.map (eval E st.tm)).map V.strip) v∧wpD (Xj ub v) fun δ=>K (st.app d δ) (ub+64)):j8 E Yf ⟨d,.call f xs,none,nm⟩ st ub K:=by
 obtain ⟨⟨h1,h2⟩,v,hv,δ,hδ,hK⟩:=h
 have hp:(xs.all fun x=>(eval E st.tm x).strip.pureTop)=true:=by rw [List.all_map] at h2;exact h2
 have hs:jF E nm (eval E st.tm) (.call f xs)=none:=by simp only [jF,h1,hp,Bool.not_false,Bool.and_self,if_true]
 simp only [j8,wanted,jg,hs,WC]
 refine ⟨by rw [List.all_map];exact hp,v,?_,δ,hδ,hK⟩
 rw [List.map_map] at hv
 exact hv
theorem job {q:A} {xs:List A} {f:FuncId} {first captured:List V} (hq:eval E st.tm q = .fn (.func f) first captured)
 (h:jk4 E nm f (first++xs.map (eval E st.tm)++captured)∧∃ v,Ev E f ((first++xs.map (eval E st.tm)++captured).map V.strip) v∧wpD (Xj ub v) fun δ=>K (st.app d δ) (ub+64)):j8 E Yf ⟨d,.callV q xs,none,nm⟩ st ub K:=by
 obtain ⟨⟨h1,h2⟩,v,hv,δ,hδ,hK⟩:=h
 have hs:jF E nm (eval E st.tm) (.callV q xs)=none:=by simp only [jF,hq,h1,h2,Bool.not_false,Bool.and_self,if_true]
 simp only [j8,wanted,jg,hq,hs,WC]
 exact ⟨f,first,captured,rfl,by rw [jgm];exact h2,v,hv,δ,hδ,hK⟩
end
end Go.Pv

/- Values, the end of a walk. -/
namespace Go.Pv
open Go
attribute [simp] jxw js6 Y0 ji7 jxx jxy jxz jx0
 ji8 J1 jox jx1 jfn jx2 jx3 jsv jsy jsw jsx jsz js0 js1 j6v j6w jmv jat jyv jkj jkk jP QP Wx
@[simp] theorem binV_add (k:IntKind) (a b:Int):YB .add (.int k a) (.int k b)=some (.int k (k.wrap (a+b))):=by simp [YB,XC]
@[simp] theorem binV_sub (k:IntKind) (a b:Int):YB .sub (.int k a) (.int k b)=some (.int k (k.wrap (a - b))):=by simp [YB,XC]
@[simp] theorem binV_mul (k:IntKind) (a b:Int):YB .mul (.int k a) (.int k b)=some (.int k (k.wrap (a * b))):=by simp [YB,XC]
@[simp] theorem binV_quo (k:IntKind) (a b:Int):YB .quo (.int k a) (.int k b)=if b=0 then none else some (.int k (k.wrap (a.tdiv b))):=by simp [YB,XC]
@[simp] theorem binV_rem (k:IntKind) (a b:Int):YB .rem (.int k a) (.int k b)=if b=0 then none else some (.int k (a.tmod b)):=by simp [YB,XC]
@[simp] theorem binV_lss (k:IntKind) (a b:Int):YB .lss (.int k a) (.int k b)=some (.bool (decide (a<b))):=by simp [YB,XC]
@[simp] theorem binV_leq (k:IntKind) (a b:Int):YB .leq (.int k a) (.int k b)=some (.bool (decide (a≤b))):=by simp [YB,XC]
@[simp] theorem binV_gtr (k:IntKind) (a b:Int):YB .gtr (.int k a) (.int k b)=some (.bool (decide (b<a))):=by simp [YB,XC]
@[simp] theorem binV_geq (k:IntKind) (a b:Int):YB .geq (.int k a) (.int k b)=some (.bool (decide (b≤a))):=by simp [YB,XC]
@[simp] theorem binV_eql (k:IntKind) (a b:Int):YB .eql (.int k a) (.int k b)=some (.bool (a == b)):=by simp [YB,XC]
@[simp] theorem binV_neq (k:IntKind) (a b:Int):YB .neq (.int k a) (.int k b)=some (.bool (a != b)):=by simp [YB,XC]
@[simp] theorem j7l (a b:List UInt8):YB .eql (.str a) (.str b)=some (.bool (a == b)):=by simp [YB,jg2]
@[simp] theorem j7k (a b:List UInt8):YB .neq (.str a) (.str b)=some (.bool (!(a == b))):=by simp [YB,jg2]
@[simp] theorem unV_not (b:Bool):unV .not (.bool b)=some (.bool (!b)):=rfl
@[simp] theorem j5z (t:Option (Nat × Nat)) (b:Bool) (n:Nat) (cs:List V):jdb (.sl t b n cs)=some (.int .i64 n):=rfl
@[simp] theorem j1f (a b c n d:Nat):jdb (.osl a b c n d)=some (.int .i64 n):=rfl
@[simp] theorem jyy (s:List UInt8):jf5 (.str s)=some (.int .i64 s.length):=rfl
@[simp] theorem Y4 (sz:Nat) (t:Option (Nat × Nat)) (b:Bool) (n:Nat) (cs:List V) (k:IntKind) (i:Int):JH sz (.sl t b n cs) (.int k i)=if 0≤i∧i<n∧cs.length=n * sz then some (.eptr cs (i.toNat * sz)) else none:=rfl
@[simp] theorem j1e (cs:List V) (off:Nat):Y1 none cs off=cs[off]?:=rfl
@[simp] theorem jwu (i:Nat) (vs:List V):jb0 i (.tup vs)=vs[i]?:=rfl
def V.flat:V→Bool
 | .bool _ | .int .. | .str _ | .nilptr | .nilmap | .nilfn | .nilif=>true
 | .sl t _ _ _=>t.isNone
 | _=>false
theorem W0 {st:St} {keep:Bool} {i:Nat} {v:V} (h:v.flat=true):X8 st keep i v=some v:=by
 cases v with
 | sl t nl n cs=>cases t with
  | none=>rfl
  | some t=>cases h
 | _=>first | rfl | cases h
theorem jdl {v:V} (h:v.flat=true):v.toks=[]:=by
 cases v with
 | sl t nl n cs=>cases t with
  | none=>rfl
  | some t=>cases h
 | _=>first | rfl | cases h
theorem Y2 {st:St} (h:st.df=[]):st.noDf=st:=by unfold St.noDf;simp only [h]
theorem Y6 {st:St} (h:st.df=[]):jwy st=true:=by unfold jwy;simp only [h];rfl
theorem j4 {n:Nat} {st:St} {v:V} (hd:st.df=[]) (h:st.tm n=v) (hf:v.flat=true):QN [.t n] (.ret,st)=some v:=by
 simp only [QN,Y6 hd,Y2 hd,if_true,List.mapM_cons,List.mapM_nil,jn,h]
 simp [YG,J6,W0 hf,jdl hf,nodup]
theorem jt {n m:Nat} {st:St} {v u:V} (hd:st.df=[]) (h:st.tm n=v) (h':st.tm m=u) (hf:v.flat=true) (hf':u.flat=true):QN [.t n,.t m] (.ret,st)=some (.tup [v,u]):=by
 simp only [QN,Y6 hd,Y2 hd,if_true,List.mapM_cons,List.mapM_nil,jn,h,h']
 simp [YG,J6,W0 hf,W0 hf',jdl hf,jdl hf',nodup]
@[simp] theorem j2h (ub:Nat) (b:Bool):Xj ub (.bool b)=some { v:=.bool b }:=rfl
@[simp] theorem retA_int (ub:Nat) (k:IntKind) (b:Int):Xj ub (.int k b)=some { v:=.int k b }:=rfl
@[simp] theorem retA_str (ub:Nat) (s:List UInt8):Xj ub (.str s)=some { v:=.str s }:=rfl
@[simp] theorem j2g (ub:Nat) (k k':IntKind) (b b':Int):Xj ub (.tup [.int k b,.int k' b'])=some { v:=.tup [.int k b,.int k' b'] }:=rfl
@[simp] theorem jx8 (ub:Nat) (nl:Bool) (n:Nat) (cs:List V):Xj ub (.sl none nl n cs)=some { v:=.sl none nl n cs }:=rfl
theorem jod {E:Env} {Yf:YF} {st:St} {ub:Nat} {K:St→Nat→Prop} {d:Option Nat} {nm:Bool} {f:FuncId} {xs:List A} {vs:List V} {v:V} (hx:xs.map (eval E st.tm)=vs) (hs:E.sh nm f=false) (hp:(vs.all fun v=>v.strip.pureTop)=true)
 (hv:Ev E f (vs.map V.strip) v) (h:wpD (Xj ub v) fun δ=>K (st.app d δ) (ub+64)):j8 E Yf ⟨d,.call f xs,none,nm⟩ st ub K :=
 jsi ⟨by rw [hx];exact ⟨hs,hp⟩,v,by rw [hx];exact hv,h⟩
end Go.Pv

/- Conditions for calls that share, for observers, for rounds of a range over a function. -/
namespace Go.Pv
open Go
def C.one:C→Bool
 | .region ops=>ops.all fun o=>o.op.next?.isNone
 | .seq a b | .cond _ a b=>a.one && b.one
 | .block _ a | .loop a=>a.one
 | _=>true
def Single {α:Type} (o:Option (List α)):Prop:=∀ l,o=some l→∃ x,l=[x]
theorem Single.bindL {α β:Type} {m:Option (List α)} {f:α→Option (List β)} (hm:Single m) (hf:∀ a,Single (f a)):Single (bindL m f):=by
 intro l h
 cases hm':m with
 | none=>rw [hm'] at h;cases h
 | some as =>
  obtain ⟨a,rfl⟩:=hm as hm'
  rw [hm'] at h
  exact hf a l h
theorem Single.map {α β:Type} {m:Option (List α)} {f:α→β} (hm:Single m):Single (m.map fun l=>l.map f):=by
 intro l h
 cases hm':m with
 | none=>rw [hm'] at h;cases h
 | some as =>
  obtain ⟨a,rfl⟩:=hm as hm'
  rw [hm'] at h
  cases h
  exact ⟨f a,rfl⟩
theorem Single.none {α:Type}:Single (none:Option (List α)):=fun _ h=>by cases h
theorem Single.some {α:Type} (x:α):Single (some [x]):=fun _ h=>⟨x,by cases h;rfl⟩
theorem Single.opt {α β:Type} {m:Option α} {f:α→β}:Single (m.map fun a=>[f a]):=by
 intro l h
 cases m with
 | none=>cases h
 | some a=>cases h;exact ⟨f a,rfl⟩
section
variable {E:Env} {Yf:YF}
theorem jsu {call:Callers} (hc:∀ f a ob tk ro b u,Single (call.s f a ob tk ro b u)) {o:AOpr} {st:St} {ub:Nat} (h:o.op.next?.isNone=true):Single (jd8 E call o st ub):=by
 have hn:o.op.next? = .none:=by simpa using h
 unfold jd8
 split
 ·split
  ·exact Single.opt
  ·split
   ·split
    ·exact Single.map (hc _ _ _ _ _ _ _)
    ·exact Single.opt
   ·rw [hn]
    exact Single.opt
 ·exact Single.some _
 ·exact Single.none
theorem jk9 {call:Callers} (hc:∀ f a ob tk ro b u,Single (call.s f a ob tk ro b u)):∀ {ops:List AOpr} {st:St} {ub:Nat},(ops.all fun o=>o.op.next?.isNone)=true→Single (jiu E call ops st ub)
 | [],_,_,_=>Single.some _
 | o::r,st,ub,h=>by
  simp only [List.all_cons,Bool.and_eq_true] at h
  exact Single.bindL (jsu hc h.1) fun x=>jk9 hc h.2
theorem jh1 {body:St→j04} (hb:∀ st,Single (body st)):∀ (n:Nat) (st:St),Single (Qj body n st)
 | 0,_=>Single.none
 | n+1,st=>Single.bindL (hb st) fun x=>by
  obtain ⟨e,s⟩:=x
  cases e
  ·exact jh1 hb n s
  ·exact Single.some _
  ·exact Single.some _
theorem jro {call:Y→Callers} (hc:∀ y f a ob tk ro b u,Single ((call y).s f a ob tk ro b u)) {y:Y} {N:Nat}:∀ {c:C} {st:St},c.one=true→Single (jb E call y N c st):=by
 intro c
 induction c with
 | skip=>intro st _;exact Single.some _
 | ret=>intro st _;exact Single.some _
 | exit i=>intro st _;exact Single.some _
 | stuck=>intro st _;exact Single.none
 | region ops=>intro st h;simp only [jb];exact Single.map (jk9 (hc y) h)
 | draw ops free =>
  intro st _ l h
  simp only [jb] at h
  cases hd:WG E (call y) ops st st.nx with
  | none=>rw [hd] at h;cases h
  | some p =>
   rw [hd,Option.bind_some] at h
   split at h
   ·cases h;exact ⟨_,rfl⟩
   ·cases h
 | seq a b iha ihb =>
  intro st h
  simp only [C.one,Bool.and_eq_true] at h
  simp only [jb]
  refine Single.bindL (iha h.1) fun x=>?_
  obtain ⟨e,s⟩:=x
  cases e
  ·exact ihb h.2
  ·exact Single.some _
  ·exact Single.some _
 | cond q a b iha ihb =>
  intro st h
  simp only [C.one,Bool.and_eq_true] at h
  simp only [jb]
  split
  ·exact iha h.1
  ·exact ihb h.2
  ·exact Single.none
 | block i a ih=>intro st h;simp only [jb];exact Single.map (ih h)
 | loop a ih=>intro st h;simp only [jb];exact jh1 (fun s=>ih h) N st
 | rangeFunc f ps a b =>
  intro st _ l h
  simp only [jb] at h
  split at h
  ·simp only [Option.bind_eq_some_iff] at h
   obtain ⟨r,_,h⟩:=h
   split at h
   ·split at h
    ·cases h;exact ⟨_,rfl⟩
    ·cases h
   ·cases h
  ·cases h
theorem jkc (hE:∀ f,E.mn f=false):∀ (n:Nat) (y:Y) (f a ob tk ro b u),Single ((jT E n y).s f a ob tk ro b u)
 | 0,_,_,_,_,_,_,_,_=>Single.none
 | n+1,y,f,a,ob,tk,ro,b,u=>by
  intro l h
  simp only [jT,hE,Bool.false_eq_true,if_false] at h
  split at h
  ·obtain ⟨_,_,h⟩:=bind_some h
   obtain ⟨_,_,h⟩:=bind_some h
   obtain ⟨x,_,rfl⟩:=map_some h
   exact ⟨x,rfl⟩
  ·split at h
   ·obtain ⟨x,_,rfl⟩:=map_some h
    exact ⟨x,rfl⟩
   ·obtain ⟨_,_,h⟩:=bind_some h
    obtain ⟨_,_,h⟩:=bind_some h
    split at h
    ·obtain ⟨x,_,rfl⟩:=map_some h
     exact ⟨x,rfl⟩
    ·cases h
theorem jla {c:C} {st:St} {Q:Ex→St→Prop} (h1:c.one=true) (h:wpC E Yf c st Q) (hE:∀ f,E.mn f=false):∃ n x,jb E (jT E n) (Yf.y n) n c st=some [x]∧Q x.1 x.2:=by
 obtain ⟨n,l,hl,_,hq⟩:=jw7 h
 obtain ⟨x,rfl⟩:=jro (jkc hE n) h1 l hl
 exact ⟨n,x,hl,hq x (List.mem_singleton.2 rfl)⟩
theorem j72 {f:FuncId} {af:AF} {args:List V} {ob:Nat→Option Obj'} {tk:Nat→Bool} {base ub:Nat} {r:V} (hf:E.fs f=some af)
 (h:wpC E Xo af.body (Jj args ob (fun _=>false) ub base ub) fun e s=>QN af.res (e,s)=some r) (hz:E.fz f=false:=by rfl):EvO E f args ob tk base ub r:=by
 obtain ⟨n,l,h1,h2,h3⟩:=jw7 h
 refine ⟨n+1,?_⟩
 simp only [jT,hf,Option.bind_some,hz,Bool.false_eq_true,if_false]
 rw [show jb E (jT E n) noY n af.body (Jj args ob (fun _=>false) ub base ub)=some l from h1]
 exact jjm h2 h3
theorem jr5 {y:Nat→Y} {f:FuncId} {args:List V} {ob:Nat→Option Obj'} {tk:Nat→Bool} {ro base ub:Nat} {r:V × (Nat→Option Obj') × (Nat→Bool) × Nat} (hs:E.srt f=true) (hr:jot ob tk ro ub args=some r) (hz:E.tw f=false:=by rfl):EvS E y f args ob tk ro base ub r:=by
 refine ⟨1,?_⟩
 simp only [jT,hz,hs,Bool.false_eq_true,if_false,if_true,hr,Option.map_some]
theorem YK {f:FuncId} {af:AF} {args:List V} {ob:Nat→Option Obj'} {tk:Nat→Bool} {ro base ub:Nat} {P:V × (Nat→Option Obj') × (Nat→Bool) × Nat→Prop} (hf:E.fs f=some af) (h1:af.body.one=true)
 (h:wpC E Yf af.body (Jj args ob tk ro base ub) fun e s=>∃ r,endS af.res (e,s)=some r∧P r) (hz:E.tw f=false:=by rfl) (hs:E.srt f=false:=by rfl) (hE:∀ f,E.mn f=false:=by intro _;rfl):∃ r,EvS E Yf.y f args ob tk ro base ub r∧P r:=by
 obtain ⟨n,x,hx,r,hr,hP⟩:=jla h1 h hE
 refine ⟨r,⟨n+1,?_⟩,hP⟩
 simp only [jT,hf,Option.bind_some,hz,hs,Bool.false_eq_true,if_false]
 rw [jc (XE n n (Nat.le_refl _)) (Nat.le_refl _) af.body _ _ (Yf.mono (Nat.le_succ n)) _ _ hx]
 simp only [Option.bind_some,hE,Bool.false_eq_true,if_false,hr,Option.map_some]
def jen (E:Env) (Yf:YF) (as bd:C) (st:St) (ps:List Nat) (l u:Nat):YF where
 y n:=Wz (jb E (jT E n) (Yf.y n) n as) (jb E (jT E n) (Yf.y n) n bd) st ps l u
 mono h:=jcm (fun s=>jc (JM _ _ h) h as _ _ (Yf.mono h) s) (fun s=>jc (JM _ _ h) h bd _ _ (Yf.mono h) s) st ps l u
def Yw (l u:Nat) (e:Ex) (s:St):V × (Nat→Option Obj') × (Nat→Bool) × Nat:=match e with
 | .nrm=>(.bool true,upd s.ob l (some ⟨u,.loop .ready none⟩),s.tk,s.nx)
 | e=>(.bool false,upd s.ob l (some ⟨u,.loop .done (some e)⟩),s.tk,s.nx)
theorem jd5 {as bd:C} {st:St} {ps:List Nat} {l u:Nat} {xs:List V} {ob:Nat→Option Obj'} {tk:Nat→Bool} {ro ub:Nat} {P:V × (Nat→Option Obj') × (Nat→Bool) × Nat→Prop} (hl:xs.length=ps.length) (hro:ro≤u) (hob:ob l=some ⟨u,.loop .ready none⟩)
 (ha:as.one=true) (hb:bd.one=true)
 (h:wpC E Yf as { tm:=jce st.tm ps xs,ob,tk,ro,nx:=ub,fb:=st.fb,df:=[] } fun e s1=>e = .nrm∧s1.ob l=some ⟨u,.loop .ready none⟩ ∧
  wpC E Yf bd { s1 with ob:=upd s1.ob l (some ⟨u,.loop .busy none⟩) } fun e s2=>s2.ob l=some ⟨u,.loop .busy none⟩∧P (Yw l u e s2)) (hE:∀ f,E.mn f=false:=by intro _;rfl):∃ r,EvY (jen E Yf as bd st ps l u) l u xs ob tk ro ub r∧P r:=by
 obtain ⟨n,⟨e,s1⟩,h1,he,ho1,h2⟩:=jla ha h hE
 simp only at he ho1 h2
 subst he
 obtain ⟨m,⟨e,s2⟩,h3,ho2,hP⟩:=jla hb h2 hE
 simp only at ho2 hP
 refine ⟨Yw l u e s2,⟨max n m,?_⟩,hP⟩
 have k1:=jc (JM (E:=E) n (max n m) (by omega)) (show n≤max n m by omega) as _ _ (Yf.mono (show n≤max n m by omega)) _ _ h1
 have k2:=jc (JM (E:=E) m (max n m) (by omega)) (show m≤max n m by omega) bd _ _ (Yf.mono (show m≤max n m by omega)) _ _ h3
 have hble:Nat.ble ro u=true:=Nat.ble_eq ▸ hro
 simp only [jen,Wz,hl,hble,and_self,if_true,hob,k1,ho1,k2,ho2]
 cases e <;> rfl
theorem Yo {f:A} {ps:List Nat} {as bd:C} {st:St} {Q:Ex→St→Prop} {g:FuncId} {first captured:List V} (hf:eval E st.tm f = .fn (.func g) first captured)
 (h:∃ r,EvS E (jen E Yf as bd st ps (2 * st.nx+1) st.nx).y g (first++[.yld (2 * st.nx+1) st.nx]++captured)
  (upd (upd st.ob (2 * st.nx+3) (some ⟨st.nx+1,.dfr⟩)) (2 * st.nx+1) (some ⟨st.nx,.loop .ready none⟩)) st.tk st.ro ((st.fb+1023) * 1024) (st.nx+64) r ∧
  ∃ s pend,r.2.1 (2 * st.nx+1)=some ⟨st.nx,.loop s pend⟩∧s≠.busy∧st.ro≤st.nx ∧
   Q (pend.getD .nrm) { st with ob:=fun k=>if Nat.beq (2 * st.nx+1) k then none else r.2.1 k,tk:=r.2.2.1,nx:=r.2.2.2,df:=(2 * st.nx+3,st.nx+1)::st.df }):wpC E Yf (.rangeFunc f ps as bd) st Q:=by
 obtain ⟨⟨v,ob,tk,ub⟩,⟨n,hr⟩,s,pend,h1,h2,h3,h4⟩:=h
 have hble:Nat.ble st.ro st.nx=true:=Nat.ble_eq ▸ h3
 refine ⟨n,[(pend.getD .nrm,_)],?_,List.cons_ne_nil _ _,fun x hx=>by rw [List.mem_singleton] at hx;subst hx;exact h4⟩
 simp only [jb,hf]
 have hr':(jT E n (Wz (jb E (jT E n) (Yf.y n) n as) (jb E (jT E n) (Yf.y n) n bd) st ps (2 * st.nx+1) st.nx)).s g (first++[.yld (2 * st.nx+1) st.nx]++captured)
  (upd (upd st.ob (2 * st.nx+3) (some ⟨st.nx+1,.dfr⟩)) (2 * st.nx+1) (some ⟨st.nx,.loop .ready none⟩)) st.tk st.ro ((st.fb+1023) * 1024) (st.nx+64)=some [(v,ob,tk,ub)]:=hr
 simp only at h1
 simp only [hr',only,Option.bind_some,h1,h2,ne_eq,not_false_eq_true,hble,and_self,if_true]
theorem jgr {q:A} {xs:List A} {st:St} {ub:Nat} {K:St→Nat→Prop} {d:Option Nat} {nm:Bool} {l u:Nat} (hq:eval E st.tm q = .yld l u)
 (h:∃ r,EvY Yf l u (xs.map (eval E st.tm)) st.ob st.tk st.ro ub r∧K { st with tm:=put st.tm d r.1,ob:=r.2.1,tk:=r.2.2.1 } r.2.2.2):j8 E Yf ⟨d,.callV q xs,none,nm⟩ st ub K:=by
 simp only [j8,wanted,jg,hq]
 exact h
theorem joc {f:FuncId} {xs:List A} {st:St} {ub:Nat} {K:St→Nat→Prop} {d:Option Nat} {nm:Bool} (hs:E.sh nm f=false) (hp:((xs.map (eval E st.tm)).all fun v=>v.strip.pureTop)=false)
 (h:∃ v,EvO E f (xs.map (eval E st.tm)) st.ob st.tk ((st.fb+d.getD 0+1) * 1024) ub v∧wpD (Xj ub v) fun δ=>K (st.app d δ) (ub+64)):j8 E Yf ⟨d,.call f xs,none,nm⟩ st ub K:=by
 have hp':(xs.all fun x=>(eval E st.tm x).strip.pureTop)=false:=by rw [List.all_map] at hp;exact hp
 have hsh:jF E nm (eval E st.tm) (.call f xs)=some (f,xs.map (eval E st.tm)):=by simp only [jF,hs,hp',Bool.not_false,Bool.true_and,Bool.false_eq_true,if_false]
 simp only [j8,wanted,jg,hsh]
 obtain ⟨v,hv,δ,hδ,hK⟩:=h
 exact .inr ⟨hs,v,hv,δ,hδ,hK⟩
end
end Go.Pv

/- Conditions for what is done to objects. -/
namespace Go.Pv
open Go
def jO (d:Option Nat) (nm:Bool) (fb ub:Nat):Nat:=cond nm (2 * ub+1) (2 * (fb+d.getD 0))
theorem jp4 (d fb ub:Nat):jO (some d) false fb ub=2 * (fb+d):=rfl
theorem jp3 (d:Option Nat) (fb ub:Nat):jO d true fb ub=2 * ub+1:=rfl
theorem X9 (d:Option Nat) (op:AOp) (nm:Bool) (fb ub:Nat):AOpr.name ⟨d,op,none,nm⟩ fb ub=jO d nm fb ub:=by cases nm <;> rfl
def jab (st:St) (sz:Nat) (x:V) (K:Delta→Prop):V→Prop
 | .ptr l u off=>∃ cs,j2 st.ob l u=some cs∧st.ro≤u∧x.cells.length=sz∧off+sz≤cs.length∧x.cells.all V.leaf=true∧K { v:=J3,obs:=[(l,⟨u,.cells (splice cs off x.cells)⟩)] }
 | _=>False
theorem jiv (st:St) (sz:Nat) (x:V) (K:Delta→Prop) (l u off:Nat):jab st sz x K (.ptr l u off) = ∃ cs,j2 st.ob l u=some cs∧st.ro≤u∧x.cells.length=sz∧off+sz≤cs.length∧x.cells.all V.leaf=true∧K { v:=J3,obs:=[(l,⟨u,.cells (splice cs off x.cells)⟩)] }:=rfl
section
variable {E:Env} {Yf:YF} {st:St} {ub:Nat} {K:St→Nat→Prop} {d:Option Nat} {nm:Bool}
theorem jof {z:List V}:j8 E Yf ⟨d,.alloc z,none,nm⟩ st ub K=K (st.app d { v:=.ptr (jO d nm st.fb ub) ub 0,obs:=[(jO d nm st.fb ub,⟨ub,.cells z⟩)] }) (ub+64):=by
 rw [jS _ rfl rfl];simp only [aop,JR,jP,X9]
theorem jxc {sz:Nat} {x:A}:j8 E Yf ⟨d,.box sz x,none,nm⟩ st ub K=(((eval E st.tm x).cells.length=sz∧(eval E st.tm x).cells.all V.leaf=true)∧K (st.app d { v:=.ptr (jO d nm st.fb ub) ub 0,obs:=[(jO d nm st.fb ub,⟨ub,.cells (eval E st.tm x).cells⟩)] }) (ub+64)):=by
 rw [jS _ rfl rfl];simp only [aop,JR,jb6,jP,X9]
theorem jn7 {sz:Nat} {p x:A}:j8 E Yf ⟨d,.store sz p x,none,nm⟩ st ub K=jab st sz (eval E st.tm x) (fun δ=>K (st.app d δ) (ub+64)) (eval E st.tm p):=by
 rw [jS _ rfl rfl]
 simp only [aop]
 generalize eval E st.tm p=vp
 cases vp <;> simp only [QP,jab]
 rename_i l u off
 cases j2 st.ob l u with
 | none=>simp [wpD]
 | some cs=>simp only [Option.bind_some,jb6,jP,Option.some.injEq,exists_eq_left',Nat.ble_eq,and_assoc]
end
attribute [simp] jp4 jp3 jik j0w j7m j7o j7p j7q j7n ji Ja
@[simp] theorem j7h (cs:List V):(V.agg cs).cells=cs:=rfl
@[simp] theorem j1k (b:Bool):(V.bool b).cells=[.bool b]:=rfl
@[simp] theorem j7g (k:IntKind) (n:Int):(V.int k n).cells=[.int k n]:=rfl
@[simp] theorem j7d (s:List UInt8):(V.str s).cells=[.str s]:=rfl
@[simp] theorem cells_sl (t:Option (Nat × Nat)) (b:Bool) (n:Nat) (cs:List V):(V.sl t b n cs).cells=[.sl t b n cs]:=rfl
@[simp] theorem j0p (t:TypeId) (v:V):(V.iface t v).cells=[.iface t v]:=rfl
@[simp] theorem j50 (b:Bool):(V.bool b).leaf=true:=rfl
@[simp] theorem leaf_int (k:IntKind) (n:Int):(V.int k n).leaf=true:=rfl
@[simp] theorem leaf_str (s:List UInt8):(V.str s).leaf=true:=rfl
@[simp] theorem leaf_sl (t:Option (Nat × Nat)) (b:Bool) (n:Nat) (cs:List V):(V.sl t b n cs).leaf=true:=rfl
@[simp] theorem j1h (t:TypeId) (v:V):(V.iface t v).leaf=true:=rfl
@[simp] theorem j1g:V.nilif.leaf=true:=rfl
@[simp] theorem j0o:V.nilif.cells=[.nilif]:=rfl
@[simp] theorem jr9 (off l u o:Nat):Yh off (.ptr l u o)=some (.ptr l u (o+off)):=rfl
@[simp] theorem jri (off:Nat) (cs:List V) (o:Nat):Yh off (.eptr cs o)=some (.eptr cs (o+off)):=rfl
@[simp] theorem Wd (k:Nat) (cs:List V) (off:Nat):Y1 (some k) cs off=if off+k≤cs.length then some (.agg ((cs.drop off).take k)) else none:=rfl
@[simp] theorem j1a (cs vs:List V) (h:vs.length=cs.length):splice cs 0 vs=vs:=by simp [splice,← h]
end Go.Pv

/- Conditions whose continuations have names: nothing behind a jd8 is touched before the jd8 is done. -/
namespace Go.Pv
open Go
def kOps (E:Env) (Yf:YF) (r:List AOpr) (K:St→Prop):St→Nat→Prop:=fun st ub=>WB E Yf r st ub K
def kNrm (Q:Ex→St→Prop):St→Prop:=fun s=>Q .nrm s
def jn5 (E:Env) (Yf:YF) (b:C) (Q:Ex→St→Prop):Ex→St→Prop:=fun e s=>match e with
 | .nrm=>wpC E Yf b s Q
 | e=>Q e s
def j6d (i:Nat) (Q:Ex→St→Prop):Ex→St→Prop:=fun e s=>match e with
 | .exit j=>if j=i then Q .nrm s else Q (.exit j) s
 | e=>Q e s
def Q2 (K:St→Nat→Prop) (st:St) (d:Option Nat) (ub:Nat):V→Prop:=fun v=>K (st.setT d v) (ub+64)
def QM (K:St→Nat→Prop) (st:St) (d:Option Nat) (ub:Nat):Delta→Prop:=fun δ=>K (st.app d δ) (ub+64)
def kIf (E:Env) (Yf:YF) (a b:C) (st:St) (Q:Ex→St→Prop):Bool→Prop
 | true=>wpC E Yf a st Q
 | false=>wpC E Yf b st Q
def kGd (E:Env) (Yf:YF) (o:AOpr) (st:St) (ub:Nat) (K:St→Nat→Prop):Bool→Prop
 | true=>j8 E Yf o st ub K
 | false=>K (st.setT o.dst J3) ub
def jqy (I:Nat→St→Prop) (k:Nat) (Q:Ex→St→Prop):Ex→St→Prop:=fun e s=>match e with
 | .nrm=>∃ j,j<k∧I j s
 | e=>Q e s
def juu (res:List ARes) (r:V):Ex→St→Prop:=fun e s=>QN res (e,s)=some r
def ifK:V→(Bool→Prop)→Prop
 | .bool c,k=>k c
 | _,_=>False
def gdK:V→Bool→(Bool→Prop)→Prop
 | .bool c,b,k=>k (c == b)
 | .tup [],_,k=>k false
 | _,_,_=>False
section
variable {E:Env} {Yf:YF} {st:St} {ub:Nat} {K:St→Nat→Prop} {d:Option Nat} {nm:Bool} {Q:Ex→St→Prop}
theorem juq {r:List AOpr} {K:St→Prop}:kOps E Yf r K st ub=WB E Yf r st ub K:=propext Iff.rfl
theorem jur:kNrm Q st=Q .nrm st:=propext Iff.rfl
theorem jf8 {b:C}:jn5 E Yf b Q .nrm st=wpC E Yf b st Q:=propext Iff.rfl
theorem jql {b:C} {i:Nat}:jn5 E Yf b Q (.exit i) st=Q (.exit i) st:=propext Iff.rfl
theorem jlj {b:C}:jn5 E Yf b Q .ret st=Q .ret st:=propext Iff.rfl
theorem ju3 {i:Nat}:j6d i Q .nrm st=Q .nrm st:=propext Iff.rfl
theorem jh7 {i j:Nat}:j6d i Q (.exit j) st=if j=i then Q .nrm st else Q (.exit j) st:=propext Iff.rfl
theorem ju2 {i:Nat}:j6d i Q .ret st=Q .ret st:=propext Iff.rfl
theorem jud {v:V}:Q2 K st d ub v=K (st.setT d v) (ub+64):=propext Iff.rfl
theorem Qn {δ:Delta}:QM K st d ub δ=K (st.app d δ) (ub+64):=propext Iff.rfl
theorem jus {a b:C}:kIf E Yf a b st Q true=wpC E Yf a st Q:=propext Iff.rfl
theorem jqz {a b:C}:kIf E Yf a b st Q false=wpC E Yf b st Q:=propext Iff.rfl
theorem jut {o:AOpr}:kGd E Yf o st ub K true=j8 E Yf o st ub K:=propext Iff.rfl
theorem jq0 {o:AOpr}:kGd E Yf o st ub K false=K (st.setT o.dst J3) ub:=propext Iff.rfl
theorem jqx {I:Nat→St→Prop} {k:Nat}:jqy I k Q .nrm st = ∃ j,j<k∧I j st:=propext Iff.rfl
theorem jng {I:Nat→St→Prop} {k i:Nat}:jqy I k Q (.exit i) st=Q (.exit i) st:=propext Iff.rfl
theorem jqw {I:Nat→St→Prop} {k:Nat}:jqy I k Q .ret st=Q .ret st:=propext Iff.rfl
theorem ju5 {c:Bool} {k:Bool→Prop}:ifK (.bool c) k=k c:=propext Iff.rfl
theorem ju9 {c b:Bool} {k:Bool→Prop}:gdK (.bool c) b k=k (c == b):=propext Iff.rfl
theorem ju8 {b:Bool} {k:Bool→Prop}:gdK J3 b k=k false:=propext Iff.rfl
theorem jzx {b:Bool} {k:Bool→Prop}:gdK (.tup []) b k=k false:=propext Iff.rfl
theorem jzp:wpC E Yf .skip st Q=Q .nrm st:=propext Iff.rfl
theorem j6c:wpC E Yf .ret st Q=Q .ret st:=propext Iff.rfl
theorem jzq {i:Nat}:wpC E Yf (.exit i) st Q=Q (.exit i) st:=propext Iff.rfl
theorem jup {K:St→Prop}:WB E Yf [] st ub K=K (st.setN ub):=propext Iff.rfl
theorem jra {ops:List AOpr}:wpC E Yf (.region ops) st Q=WB E Yf ops st st.nx (kNrm Q):=propext Iff.rfl
theorem jwq {a b:C}:wpC E Yf (.seq a b) st Q=wpC E Yf a st (jn5 E Yf b Q):=propext Iff.rfl
theorem jlm {i:Nat} {a:C}:wpC E Yf (.block i a) st Q=wpC E Yf a st (j6d i Q):=propext Iff.rfl
theorem jzs {c:A} {a b:C}:wpC E Yf (.cond c a b) st Q=ifK (eval E st.tm c) (kIf E Yf a b st Q):=by
 rw [jso]
 cases h:eval E st.tm c <;> simp [wpIf,ifK]
 rename_i t
 cases t <;> simp [kIf]
theorem jqv {o:AOpr} {r:List AOpr} {K:St→Prop}:WB E Yf (o::r) st ub K=j8 E Yf o st ub (kOps E Yf r K):=propext Iff.rfl
theorem jjv {op:AOp} {t:Nat} {b:Bool}:j8 E Yf ⟨d,op,some (t,b),nm⟩ st ub K=gdK (st.tm t) b (kGd E Yf ⟨d,op,none,nm⟩ st ub K):=by
 rw [jgq]
 cases h:st.tm t with
 | bool c=>cases c <;> cases b <;> simp [QB,gdK,kGd]
 | tup l=>cases l <;> simp [QB,gdK,kGd]
 | _=>simp [QB,gdK]
theorem j52 {x:A}:j8 E Yf ⟨d,.mov x,none,nm⟩ st ub K=Q2 K st d ub (eval E st.tm x):=jxb
theorem juo {z:List V}:j8 E Yf ⟨d,.alloc z,none,nm⟩ st ub K=QM K st d ub { v:=.ptr (jO d nm st.fb ub) ub 0,obs:=[(jO d nm st.fb ub,⟨ub,.cells z⟩)] }:=jof
theorem j54 {sz:Nat} {x:A}:j8 E Yf ⟨d,.box sz x,none,nm⟩ st ub K=(((eval E st.tm x).cells.length=sz∧(eval E st.tm x).cells.all V.leaf=true)∧QM K st d ub { v:=.ptr (jO d nm st.fb ub) ub 0,obs:=[(jO d nm st.fb ub,⟨ub,.cells (eval E st.tm x).cells⟩)] }):=jxc
theorem jue {sz:Nat} {p x:A}:j8 E Yf ⟨d,.store sz p x,none,nm⟩ st ub K=jab st sz (eval E st.tm x) (QM K st d ub) (eval E st.tm p):=jn7
theorem juj {t:TypeId} {x:A}:j8 E Yf ⟨d,.iface t x,none,nm⟩ st ub K=Q2 K st d ub (.iface t (eval E st.tm x)):=by rw [jS _ rfl rfl];simp only [aop,Yn,Wx];rfl
def jgl (t:TypeId) (zero:V) (ok:Bool):V→Option V
 | .iface t' v=>if t'=t then some (if ok then .tup [v,.bool true] else v) else if ok then some (.tup [zero,.bool false]) else none
 | .nilif=>if ok then some (.tup [zero,.bool false]) else none
 | _=>none
theorem jqu {t:TypeId} {zero:V} {ok:Bool} {x:A}:j8 E Yf ⟨d,.assert t zero ok x,none,nm⟩ st ub K=wpV (jgl t zero ok (eval E st.tm x)) (Q2 K st d ub):=by
 refine JO rfl rfl fun du=>?_
 simp only [aop,jgl]
 generalize eval E st.tm x=vx
 cases vx with
 | iface t' v=>by_cases h:t'=t <;> cases ok <;> simp [h,one]
 | nilif=>cases ok <;> rfl
 | _=>rfl
theorem jy9 {f:Fn} {a b:List A}:j8 E Yf ⟨d,.mkFn f a b,none,nm⟩ st ub K=Q2 K st d ub (.fn f (a.map (eval E st.tm)) (b.map (eval E st.tm))):=jsf
theorem jy6 {c a b:A}:j8 E Yf ⟨d,.pick c a b,none,nm⟩ st ub K=wpV (jtm (eval E st.tm c) (eval E st.tm a) (eval E st.tm b)) (Q2 K st d ub):=jsd
theorem j55 {op:BinOp} {x y:A}:j8 E Yf ⟨d,.bin op x y,none,nm⟩ st ub K=wpV (YB op (eval E st.tm x) (eval E st.tm y)) (Q2 K st d ub):=jxd
theorem kS_un {op:UnOp} {x:A}:j8 E Yf ⟨d,.un op x,none,nm⟩ st ub K=wpV (unV op (eval E st.tm x)) (Q2 K st d ub):=j1p
theorem kS_eq {neg:Bool} {k:EqK} {x y:A}:j8 E Yf ⟨d,.eq neg k x y,none,nm⟩ st ub K=wpV (jvq st.ob neg k (eval E st.tm x) (eval E st.tm y)) (Q2 K st d ub):=j1q
theorem jza {g:Option Nat} {x:A}:j8 E Yf ⟨d,.load g x,none,nm⟩ st ub K=wpV (QH st.ob g (eval E st.tm x)) (Q2 K st d ub):=jsg
theorem jjy {x:A}:j8 E Yf ⟨d,.nilCheck x,none,nm⟩ st ub K=wpV (Qh (eval E st.tm x)) (Q2 K st d ub):=jgs
theorem jh4 {off:Nat} {x:A}:j8 E Yf ⟨d,.fieldAddr off x,none,nm⟩ st ub K=wpV (Yh off (eval E st.tm x)) (Q2 K st d ub):=jfj
theorem juk {sz:Nat} {x i:A}:j8 E Yf ⟨d,.idxSl sz x i,none,nm⟩ st ub K=wpV (JH sz (eval E st.tm x) (eval E st.tm i)) (Q2 K st d ub):=joa
theorem jqs {len sz:Nat} {x i:A}:j8 E Yf ⟨d,.idxArr len sz x i,none,nm⟩ st ub K=wpV (QJ len sz (eval E st.tm x) (eval E st.tm i)) (Q2 K st d ub):=jmh
theorem jy7 {g:Option Nat} {off:Nat} {x:A}:j8 E Yf ⟨d,.part g off x,none,nm⟩ st ub K=wpV (jyi g off (eval E st.tm x)) (Q2 K st d ub):=jse
theorem jqr {x i:A}:j8 E Yf ⟨d,.idxStr x i,none,nm⟩ st ub K=wpV (WR (eval E st.tm x) (eval E st.tm i)) (Q2 K st d ub):=jmg
theorem jqq {g:Option Nat} {len sz:Nat} {x i:A}:j8 E Yf ⟨d,.idxVal g len sz x i,none,nm⟩ st ub K=wpV (jj5 g len sz (eval E st.tm x) (eval E st.tm i)) (Q2 K st d ub):=jmf
theorem juf {x:A} {lo hi:Option A}:j8 E Yf ⟨d,.slStr x lo hi,none,nm⟩ st ub K=wpV (XI (lo.map (eval E st.tm)) (hi.map (eval E st.tm)) (eval E st.tm x)) (Q2 K st d ub):=jn8
theorem jy5 {sz:Nat} {x:A} {lo hi:Option A}:j8 E Yf ⟨d,.slSl sz x lo hi,none,nm⟩ st ub K=wpV (jaf sz (lo.map (eval E st.tm)) (hi.map (eval E st.tm)) (eval E st.tm x)) (Q2 K st d ub):=jsc
theorem jqo {x:A}:j8 E Yf ⟨d,.lenStr x,none,nm⟩ st ub K=wpV (jf5 (eval E st.tm x)) (Q2 K st d ub):=jmd
theorem jui {x:A}:j8 E Yf ⟨d,.lenSl x,none,nm⟩ st ub K=wpV (jdb (eval E st.tm x)) (Q2 K st d ub):=jn9
theorem jqp {x:A}:j8 E Yf ⟨d,.lenMap x,none,nm⟩ st ub K=wpV (jf6 st.ob (eval E st.tm x)) (Q2 K st d ub):=jme
theorem jnf {x:A} {i:Nat}:j8 E Yf ⟨d,.extract x i,none,nm⟩ st ub K=wpV (jb0 i (eval E st.tm x)) (Q2 K st d ub):=jix
theorem jzb {k:IntKind} {x:A}:j8 E Yf ⟨d,.conv k x,none,nm⟩ st ub K=wpV (XF k (eval E st.tm x)) (Q2 K st d ub):=jsh
theorem jqm {b:Bool} {xs:List A}:j8 E Yf ⟨d,.minmax b xs,none,nm⟩ st ub K=wpV (QG b (xs.map (eval E st.tm))) (Q2 K st d ub):=jmb
theorem jun {z:List V} {ps:List (Nat × Nat × A)}:j8 E Yf ⟨d,.build z ps,none,nm⟩ st ub K=wpV ((fill z (jp (eval E st.tm) ps)).map .agg) (Q2 K st d ub):=joe
theorem jqn {q:LK} {z:V} {ok:Bool} {m k:A}:j8 E Yf ⟨d,.lookup q z ok m k,none,nm⟩ st ub K=wpV (YP st.ob q z ok (eval E st.tm m) (eval E st.tm k)) (Q2 K st d ub):=jmc
end
attribute [simp ↓] jzp j6c jzq jra jwq jlm jzs jup jqv jjv j52 juo j54 jue juj jqu jy9 jy6 j55 kS_un kS_eq jza jjy jh4 juk jqs jy7 jqr jqq juf jy5 jqo jui jqp jnf jzb jqm jun jqn
attribute [simp ↓] juq jur jf8 jql jlj ju3 jh7 ju2 jud Qn jus jqz jut jq0 jqx jng jqw
attribute [simp] ju5 ju9 ju8 jzx jw9 jsb jb6 jsn jiv
def V.plain:V→Bool
 | .agg cs=>cs.all V.pureLeaf
 | .fn ..=>false
 | v=>v.pureLeaf
theorem YH {st:St} {keep:Bool} {i:Nat} {v:V} (h:v.pureLeaf=true):jh st keep i v=some v:=by
 cases v with
 | sl t nl n cs=>cases t with
  | none=>rfl
  | some t=>cases h
 | _=>first | rfl | (simp [V.pureLeaf] at h;done) | (simp only [jh,JF,h,if_true])
theorem jkm {v:V} (h:v.pureLeaf=true):v.tok=[]:=by
 cases v with
 | sl t nl n cs=>cases t with
  | none=>rfl
  | some t=>cases h
 | _=>first | rfl | (simp [V.pureLeaf] at h;done)
theorem jbc {st:St} {keep:Bool}:∀ {i:Nat} {cs:List V},cs.all V.pureLeaf=true→XL st keep i cs=some cs
 | _,[],_=>rfl
 | i,c::cs,h=>by
  simp only [List.all_cons,Bool.and_eq_true] at h
  simp [XL,YH h.1,jbc h.2]
theorem jpe {st:St} {keep:Bool} {i:Nat} {v:V} (h:v.plain=true):X8 st keep i v=some v:=by
 cases v with
 | agg cs=>simp [X8,jbc (show cs.all V.pureLeaf=true from h)]
 | fn=>cases h
 | _=>refine Eq.trans (b:=jh st keep i _) rfl (YH ?_);exact h
theorem jak {v:V} (h:v.plain=true):v.toks=[]:=by
 cases v with
 | agg cs =>
  simp only [V.toks,List.flatMap_eq_nil_iff]
  intro x hx
  exact jkm (List.all_eq_true.1 h x hx)
 | fn=>cases h
 | sl t nl n cs=>cases t with
  | none=>rfl
  | some t=>cases h
 | _=>first | rfl | cases h
theorem Qd {st:St} {keep:Bool}:∀ {i:Nat} {l:List V},l.all V.plain=true→J6 st keep i l=some l
 | _,[],_=>rfl
 | i,c::cs,h=>by
  simp only [List.all_cons,Bool.and_eq_true] at h
  simp [J6,jpe h.1,Qd h.2]
def jxk:List V→V
 | [v]=>v
 | l=>.tup l
theorem Wm {res:List ARes} {st:St} {l:List V} (hd:st.df=[]) (hr:res.mapM (jn st)=some l) (hl:l.all V.plain=true):QN res (.ret,st)=some (jxk l):=by
 have ht:l.flatMap V.toks=[]:=by
  rw [List.flatMap_eq_nil_iff]
  intro x hx
  exact jak (List.all_eq_true.1 hl x hx)
 simp only [QN,Y6 hd,Y2 hd,if_true,hr,Option.bind_some,YG,ht,nodup,Qd hl,if_true]
 match l with
 | []=>rfl
 | [v]=>rfl
 | v::u::l=>rfl
theorem JD {res:List ARes} {st:St} {r:V} {l:List V} (hd:st.df=[]) (hr:res.mapM (jn st)=some l) (hl:l.all V.plain=true) (h:jxk l=r):juu res r .ret st:=by
 subst h
 exact Wm hd hr hl
attribute [simp] fill jp
theorem jdi {ub:Nat} {v:V} (h:v.pureLeaf=true):Xc ub v=v:=by
 cases v with
 | sl t nl n cs=>cases t with
  | none=>rfl
  | some t=>cases h
 | _=>rfl
theorem jdh {ub:Nat} {v:V} (h:v.plain=true):Qq ub v=v:=by
 cases v with
 | agg cs =>
  have:cs.map (Xc ub)=cs:=by
   conv=>rhs;rw [← List.map_id cs]
   exact List.map_congr_left fun x hx=>jdi (List.all_eq_true.1 h x hx)
  simp only [Qq,this]
 | sl t nl n cs=>exact jdi h
 | _=>rfl
theorem YX {ub:Nat} {v:V} (h:v.plain=true):Xj ub v=some { v:=v }:=by
 have h1:toksRes v=[]:=by
  cases v with
  | tup vs=>cases h
  | _=>exact jak h
 have h2:Qr ub v=v:=by
  cases v with
  | tup vs=>cases h
  | undef=>cases h
  | _=>exact jdh (ub:=ub) h
 simp [Xj,h1,h2]
theorem JB {ub:Nat} {l:List V} (h:l.all V.plain=true):Xj ub (.tup l)=some { v:=.tup l }:=by
 have h1:toksRes (.tup l)=[]:=by
  simp only [toksRes,List.flatMap_eq_nil_iff]
  intro x hx
  exact jak (List.all_eq_true.1 h x hx)
 have h2:Qr ub (.tup l) = .tup l:=by
  have:l.map (Qq ub)=l:=by
   conv=>rhs;rw [← List.map_id l]
   exact List.map_congr_left fun x hx=>jdh (List.all_eq_true.1 h x hx)
  simp only [Qr,this]
 simp [Xj,h1,h2]
@[simp] theorem j0j (ob:Nat→Option Obj') (neg:Bool) (l:List LK) (a b:List V):jvq ob neg (.struct l) (.agg a) (.agg b)=(JI l a b).map fun b=>.bool (xor neg b):=rfl
attribute [simp] JI WV
theorem jR {E:Env} {f:FuncId} {af:AF} {args:List V} {r:V} (hf:E.fc f=some af) (h:wpC E Xo af.body (Wr args) (juu af.res r)):Ev E f args r:=Ev_wp hf h
theorem YD {E:Env} {Yf:YF} {a:C} {Q:Ex→St→Prop} (I:Nat→St→Prop) {n:Nat} {st:St} (h0:I n st) (hs:∀ k s,I k s→wpC E Yf a s (jqy I k Q)):wpC E Yf (.loop a) st Q :=
 jw8 I h0 hs
theorem XO {E:Env} {Yf:YF} {st:St} {ub:Nat} {K:St→Nat→Prop} {d:Option Nat} {nm:Bool} {f:FuncId} {xs:List A} {vs:List V} {v:V} (hx:xs.map (eval E st.tm)=vs) (hs:E.sh nm f=false) (hp:(vs.all fun v=>v.strip.pureTop)=true)
 (hv:Ev E f (vs.map V.strip) v) (h:wpD (Xj ub v) (QM K st d ub)):j8 E Yf ⟨d,.call f xs,none,nm⟩ st ub K:=jod hx hs hp hv h
end Go.Pv

/- The compiled functions, part 1. -/
namespace Go.Pv.T
open Go Go.Pv
abbrev oo (d:Nat) (p:AOp):AOpr:=⟨some d,p,none,false⟩
abbrev qq (d:Nat) (p:AOp):AOpr:=⟨some d,p,none,true⟩
abbrev ou (p:AOp):AOpr:=⟨none,p,none,false⟩
abbrev qu (p:AOp):AOpr:=⟨none,p,none,true⟩
abbrev og (d:Nat) (p:AOp) (t:Nat) (b:Bool):AOpr:=⟨some d,p,some (t,b),false⟩
abbrev qg (d:Nat) (p:AOp) (t:Nat) (b:Bool):AOpr:=⟨some d,p,some (t,b),true⟩
abbrev oh (p:AOp) (t:Nat) (b:Bool):AOpr:=⟨none,p,some (t,b),false⟩
abbrev qh (p:AOp) (t:Nat) (b:Bool):AOpr:=⟨none,p,some (t,b),true⟩
abbrev ov (d k:Nat):AOpr:=⟨some d,.mov (.t k),none,false⟩
abbrev qv (d k:Nat):AOpr:=⟨some d,.mov (.t k),none,true⟩
abbrev nn (k:Int):A:=.c (.int .i64 k)
abbrev ol (d k:Nat):AOpr:=⟨some d,.load none (.t k),none,false⟩
abbrev os (d n k:Nat):AOpr:=⟨some d,.load (some n) (.t k),none,false⟩
abbrev ox (d s a b:Nat):AOpr:=⟨some d,.idxSl s (.t a) (.t b),none,false⟩
abbrev om (d:Nat) (k:Int):AOpr:=⟨some d,.mov (nn k),none,false⟩
abbrev oe (d k i:Nat):AOpr:=⟨some d,.extract (.t k) i,none,false⟩
abbrev of (d n k:Nat):AOpr:=⟨some d,.fieldAddr n (.t k),none,false⟩
abbrev on (d:Nat) (p:BinOp) (a:Nat) (k:Int):AOpr:=⟨some d,.bin p (.t a) (nn k),none,false⟩
abbrev ob (d:Nat) (p:BinOp) (a b:Nat):AOpr:=⟨some d,.bin p (.t a) (.t b),none,false⟩
abbrev ql (d k:Nat):AOpr:=⟨some d,.load none (.t k),none,true⟩
abbrev qs (d n k:Nat):AOpr:=⟨some d,.load (some n) (.t k),none,true⟩
abbrev qx (d s a b:Nat):AOpr:=⟨some d,.idxSl s (.t a) (.t b),none,true⟩
abbrev qm (d:Nat) (k:Int):AOpr:=⟨some d,.mov (nn k),none,true⟩
abbrev qe (d k i:Nat):AOpr:=⟨some d,.extract (.t k) i,none,true⟩
abbrev qf (d n k:Nat):AOpr:=⟨some d,.fieldAddr n (.t k),none,true⟩
abbrev qn (d:Nat) (p:BinOp) (a:Nat) (k:Int):AOpr:=⟨some d,.bin p (.t a) (nn k),none,true⟩
abbrev qb (d:Nat) (p:BinOp) (a b:Nat):AOpr:=⟨some d,.bin p (.t a) (.t b),none,true⟩
abbrev sr (l:List AOpr) (b:C):C:=.seq (.region l) b
def F8:AF:=⟨sr [oo 6 (.box 3 (.t 1)),oo 10 (.mov (.c (.bool false)))] (.seq (.draw [os 14 3 6,oo 15 (.call 15 [.t 14]),ov 16 2,ov 17 2,oo 18 (.lenSl (.t 17)),oo 19 (.minmax false [(.t 18),(nn 60)]),oo 20 (.slSl 1 (.t 16) none (some (.t 19))),oo 21 (.call 25 [.t 20]),ov 22 3,ov 23 3,oo 24 (.lenSl (.t 23)),oo 25 (.minmax false [(.t 24),(nn 60)]),oo 26 (.slSl 1 (.t 22) none (some (.t 25))),oo 27 (.call 25 [.t 26]),ou (.store 3 (.t 6) (.t 15)),ov 2 21,ov 3 27] []) (sr [ov 29 0,os 30 3 6,oo 31 (.call 15 [.t 30]),ov 32 2,oo 33 (.call 25 [.t 32]),ov 34 3,oo 35 (.call 25 [.t 34]),ov 36 4,oo 37 (.call 30 [.t 29,.t 31,.t 33,.t 35,.t 36]),ov 28 37,oe 38 28 0,oe 39 28 1,ov 11 38,ov 12 39] (.seq (sr [ov 40 0,os 41 3 6,ov 42 2,ov 43 3,oo 44 (.call 28 [.t 40,.t 41,.t 42,.t 43]),ov 13 44] (sr [ov 45 13,on 46 .neq 45 0] (.cond (.t 46) (sr [ov 47 12,ov 48 13,ob 49 .eql 47 48,ov 50 49,og 51 (.mov (.t 11)) 50 true,og 52 (.lenSl (.t 51)) 50 true,og 53 (.bin .eql (.t 52) (nn 0)) 50 true,oo 54 (.pick (.t 50) (.t 53) (.c (.bool false))),ov 55 54,og 56 (.call 29 []) 55 true,oo 57 (.pick (.t 55) (.t 56) (.c (.bool false))),ov 10 57] (.ret)) (.skip)))) (.seq (sr [ov 58 4,on 59 .lss 58 0,ov 60 59,og 61 (.mov (.t 4)) 60 false,og 62 (.load (some 3) (.t 6)) 60 false,og 63 (.call 31 [.t 62]) 60 false,og 64 (.lenSl (.t 63)) 60 false,og 65 (.bin .geq (.t 61) (.t 64)) 60 false,oo 66 (.pick (.t 60) (.c (.bool true)) (.t 65))] (.cond (.t 66) (sr [ov 67 12,on 68 .eql 67 3,ov 69 68,og 70 (.mov (.t 11)) 69 true,og 71 (.lenSl (.t 70)) 69 true,og 72 (.bin .eql (.t 71) (nn 0)) 69 true,oo 73 (.pick (.t 69) (.t 72) (.c (.bool false))),ov 74 73,og 75 (.call 29 []) 74 true,oo 76 (.pick (.t 74) (.t 75) (.c (.bool false))),ov 10 76] (.ret)) (.skip))) (sr [ov 77 12,on 78 .eql 77 0,ov 79 78,og 80 (.mov (.t 11)) 79 true,og 81 (.mov (.t 0)) 79 true,og 82 (.load (some 3) (.t 6)) 79 true,og 83 (.mov (.t 2)) 79 true,og 84 (.mov (.t 3)) 79 true,og 85 (.mov (.t 4)) 79 true,og 86 (.call 33 [.t 81,.t 82,.t 83,.t 84,.t 85]) 79 true,og 87 (.call 32 [.t 80,.t 86]) 79 true,oo 88 (.pick (.t 79) (.t 87) (.c (.bool false))),ov 89 88,og 90 (.call 29 []) 89 true,oo 91 (.pick (.t 89) (.t 90) (.c (.bool false))),ov 10 91] (.ret)))))),[.t 10]⟩
def F15:AF:=⟨sr [qq 1 (.box 3 (.t 0)),qq 2 (.alloc [(.sl none true 0 []),(.sl none true 0 []),(.sl none true 0 [])])] (sr [qs 4 3 1,qq 5 (.call 51 [.t 4]),qu (.store 3 (.t 1) (.t 5))] (.seq (sr [qf 6 2 1,ql 7 6,qq 8 (.lenSl (.t 7)),qn 9 .gtr 8 8] (.cond (.t 9) (.region [qf 10 2 1,qu (.store 1 (.t 10) (.c (.sl none true 0 [])))]) (.skip))) (.seq (sr [qm 3 0] (.block 0 (.loop (.seq (sr [qv 11 3,qf 12 2 1,ql 13 12,qq 14 (.lenSl (.t 13)),qb 15 .lss 11 14] (.cond (.t 15) (.skip) (.exit 0))) (.seq (.block 1 (.draw [qf 18 2 1,ql 19 18,qv 20 3,qf 21 2 1,ql 22 21,qv 23 3,qx 24 3 22 23,qf 25 2 24,ql 26 25,qf 27 2 1,ql 28 27,qv 29 3,qx 30 3 28 29,qf 31 2 30,ql 32 31,qq 33 (.lenSl (.t 32)),qq 34 (.minmax false [(.t 33),(nn 6)]),qq 35 (.slSl 4 (.t 26) none (some (.t 34))),qx 36 3 19 20,qf 37 2 36,qu (.store 1 (.t 37) (.t 35))] [])) (.region [qv 16 3,qn 17 .add 16 1,qv 3 17])))))) (sr [qs 38 3 1,qu (.store 3 (.t 2) (.t 38))] (.ret))))),[.cell 2 (some 3)]⟩
def F21:AF:=⟨sr [oo 1 (.box 3 (.t 0)),oo 2 (.mov (.c (.bool false)))] (.seq (.draw [os 3 3 1,oo 4 (.call 58 [.t 3]),on 5 .eql 4 0,ov 6 5,og 7 (.load (some 3) (.t 1)) 6 true,og 8 (.call 59 [.t 7]) 6 true,og 9 (.lenSl (.t 8)) 6 true,og 10 (.load (some 3) (.t 1)) 6 true,og 11 (.call 60 [.t 10]) 6 true,og 12 (.lenSl (.t 11)) 6 true,og 13 (.bin .add (.t 9) (.t 12)) 6 true,og 14 (.bin .eql (.t 13) (nn 0)) 6 true,oo 15 (.pick (.t 6) (.t 14) (.c (.bool false))),ov 2 15] []) (.ret)),[.t 2]⟩
def F22:AF:=⟨sr [oo 2 (.box 3 (.t 0)),oo 4 (.mov (.c (.bool false)))] (.seq (sr [os 7 3 2,oo 8 (.call 21 [.t 7]),oo 9 (.un .not (.t 8))] (.cond (.t 9) (sr [oo 4 (.mov (.c (.bool false)))] (.ret)) (.skip))) (sr [os 10 3 2,oo 11 (.call 61 [.t 10]),ov 5 11] (.seq (sr [ov 12 1,oo 13 (.lenSl (.t 12)),ov 14 5,oo 15 (.lenSl (.t 14)),ob 16 .neq 13 15] (.cond (.t 16) (sr [oo 4 (.mov (.c (.bool false)))] (.ret)) (.skip))) (.seq (sr [om 6 0] (.block 0 (.loop (.seq (sr [ov 17 6,ov 18 5,oo 19 (.lenSl (.t 18)),ob 20 .lss 17 19] (.cond (.t 20) (.skip) (.exit 0))) (.seq (.block 1 (.seq (.draw [ov 23 5,ov 24 6,ox 25 1 23 24,ol 26 25,ov 27 1,ov 28 6,ox 29 1 27 28,ol 30 29,oo 31 (.call 62 [.t 26,.t 30]),oo 32 (.un .not (.t 31))] []) (.cond (.t 32) (sr [oo 4 (.mov (.c (.bool false)))] (.ret)) (.skip)))) (.region [ov 21 6,on 22 .add 21 1,ov 6 22])))))) (sr [oo 4 (.mov (.c (.bool true)))] (.ret)))))),[.t 4]⟩
def F23:AF:=⟨sr [oo 2 (.box 3 (.t 0)),oo 4 (.mov (.c (.bool false)))] (.seq (sr [os 7 3 2,oo 8 (.call 21 [.t 7]),oo 9 (.un .not (.t 8))] (.cond (.t 9) (sr [oo 4 (.mov (.c (.bool false)))] (.ret)) (.skip))) (sr [os 10 3 2,oo 11 (.call 39 [.t 10]),ov 5 11] (.seq (sr [ov 12 5,oo 13 (.lenSl (.t 12)),ov 14 1,oo 15 (.lenSl (.t 14)),ob 16 .neq 13 15] (.cond (.t 16) (sr [oo 4 (.mov (.c (.bool false)))] (.ret)) (.skip))) (.seq (sr [om 6 0] (.block 0 (.loop (.seq (sr [ov 17 6,ov 18 1,oo 19 (.lenSl (.t 18)),ob 20 .lss 17 19] (.cond (.t 20) (.skip) (.exit 0))) (.seq (.block 1 (.seq (.draw [ov 23 5,ov 24 1,ov 25 6,ox 26 1 24 25,ol 27 26,oo 28 (.call 62 [.t 23,.t 27]),oo 29 (.un .not (.t 28)),ov 30 29,og 31 (.mov (.t 1)) 30 false,og 32 (.mov (.t 6)) 30 false,og 33 (.slSl 1 (.t 31) none (some (.t 32))) 30 false,og 34 (.mov (.t 1)) 30 false,og 35 (.mov (.t 6)) 30 false,og 36 (.idxSl 1 (.t 34) (.t 35)) 30 false,og 37 (.load none (.t 36)) 30 false,og 38 (.call 62 [.t 33,.t 37]) 30 false,oo 39 (.pick (.t 30) (.c (.bool true)) (.t 38))] []) (.cond (.t 39) (sr [oo 4 (.mov (.c (.bool false)))] (.ret)) (.skip)))) (.region [ov 21 6,on 22 .add 21 1,ov 6 22])))))) (sr [oo 4 (.mov (.c (.bool true)))] (.ret)))))),[.t 4]⟩
def F25:AF:=⟨sr [oo 2 (.mov (.c (.sl none true 0 [])))] (sr [oo 3 (.buildSl false 1 [] [] 0),ov 4 0,oo 5 (.append false 1 8 (.t 3) (.t 4)),ov 2 5] (.ret)),[.t 2]⟩
def F26:AF:=⟨sr [oo 5 (.box 3 (.t 1)),oo 8 (.mov (.c (.bool false))),om 9 0] (sr [ov 14 0,os 15 3 5,ov 16 2,ov 17 3,oo 18 (.call 65 [.t 14,.t 15,.t 16,.t 17]),ov 13 18,oe 19 13 0,oe 20 13 1,ov 10 19,ov 11 20] (.seq (sr [ov 21 11,on 22 .neq 21 0,ov 23 22,og 24 (.mov (.t 10)) 23 false,og 25 (.call 66 [.t 24]) 23 false,og 26 (.un .not (.t 25)) 23 false,oo 27 (.pick (.t 23) (.c (.bool true)) (.t 26))] (.cond (.t 27) (sr [ov 28 11,oo 8 (.mov (.c (.bool false))),ov 9 28] (.ret)) (.skip))) (.seq (sr [ov 29 10,oo 30 (.nilCheck (.t 29)),of 31 4 30,ol 32 31,oo 33 (.lenSl (.t 32)),om 34 0] (.block 0 (.loop (sr [ob 35 .lss 34 33] (.seq (.cond (.t 35) (.skip) (.exit 0)) (.seq (.block 1 (sr [ov 36 34,ov 12 36] (sr [ov 37 10,ov 38 12,oo 39 (.call 67 [.t 37,.t 38]),oo 40 (.un .not (.t 39))] (.cond (.t 40) (sr [ov 41 11,oo 8 (.mov (.c (.bool false))),ov 9 41] (.ret)) (.skip))))) (.region [on 42 .add 34 1,ov 34 42]))))))) (sr [ov 43 11,oo 8 (.mov (.c (.bool true))),ov 9 43] (.ret))))),[.t 8,.t 9]⟩
def F27:AF:=⟨sr [oo 2 (.box 3 (.t 0)),oo 4 (.mov (.c (.bool false)))] (.seq (sr [os 6 3 2,oo 7 (.call 52 [.t 6]),oo 8 (.un .not (.t 7))] (.cond (.t 8) (sr [oo 4 (.mov (.c (.bool false)))] (.ret)) (.skip))) (sr [ov 9 1,oo 10 (.call 68 [.t 9]),ov 5 10] (sr [ov 11 5,oo 12 (.call 69 [.t 11])] (sr [ov 13 5,os 14 3 2,oo 15 (.call 71 [.t 14]),oo 16 (.call 70 [.t 13,.t 15]),ov 4 16] (.ret))))),[.t 4]⟩
def F28:AF:=⟨sr [oo 5 (.box 3 (.t 1)),om 8 0] (.seq (sr [os 9 3 5,oo 10 (.call 21 [.t 9]),oo 11 (.un .not (.t 10))] (.cond (.t 11) (sr [om 8 4] (.ret)) (.skip))) (.seq (sr [ov 12 0,on 13 .lss 12 1,ov 14 13,og 15 (.mov (.t 0)) 14 false,og 16 (.bin .gtr (.t 15) (nn 3)) 14 false,oo 17 (.pick (.t 14) (.c (.bool true)) (.t 16)),ov 18 17,og 19 (.load (some 3) (.t 5)) 18 false,og 20 (.mov (.t 2)) 18 false,og 21 (.call 22 [.t 19,.t 20]) 18 false,og 22 (.un .not (.t 21)) 18 false,oo 23 (.pick (.t 18) (.c (.bool true)) (.t 22)),ov 24 23,og 25 (.load (some 3) (.t 5)) 24 false,og 26 (.mov (.t 3)) 24 false,og 27 (.call 23 [.t 25,.t 26]) 24 false,og 28 (.un .not (.t 27)) 24 false,oo 29 (.pick (.t 24) (.c (.bool true)) (.t 28))] (.cond (.t 29) (sr [om 8 2] (.ret)) (.skip))) (sr [om 8 0] (.ret)))),[.t 8]⟩
def F29:AF:=⟨sr [oo 0 (.mov (.c (.bool false)))] (sr [oo 9 (.call 57 [(.c (.str [98,101,103,105,110,32,115,10,119,114,105,116,101,32,115,32,120,32,49,10,111,107,32,115,10,98,101,103,105,110,32,115,10,114,101,97,100,32,115,32,120,32,110,105,108,10,111,107,32,115]))]),ov 8 9,oe 10 8 0,oe 11 8 1,oe 12 8 2,oo 1 (.alloc [(.sl none true 0 []),(.sl none true 0 []),(.sl none true 0 [])]),ou (.store 3 (.t 1) (.t 10)),ov 2 11,ov 3 12] (sr [os 14 3 1,oo 15 (.buildSl false 1 [(.int .i64 0)] [(0,1,(nn (-1)))] 1),oo 16 (.buildSl false 1 [(.int .i64 0),(.int .i64 0)] [(0,1,(nn 0)),(1,1,(nn 1))] 2),oo 17 (.call 26 [(nn 3),(.t 14),(.t 15),(.t 16)]),ov 13 17,oe 18 13 0,oe 19 13 1,ov 4 18,ov 5 19] (sr [os 21 3 1,oo 22 (.buildSl false 1 [(.int .i64 0)] [(0,1,(nn (-1)))] 1),oo 23 (.buildSl false 1 [(.int .i64 0),(.int .i64 0)] [(0,1,(nn 0)),(1,1,(nn 1))] 2),oo 24 (.call 26 [(nn 1),(.t 21),(.t 22),(.t 23)]),ov 20 24,oe 25 20 0,oe 26 20 1,ov 6 25,ov 7 26] (sr [ov 27 3,on 28 .eql 27 0,ov 29 28,og 30 (.mov (.t 5)) 29 true,og 31 (.bin .eql (.t 30) (nn 0)) 29 true,oo 32 (.pick (.t 29) (.t 31) (.c (.bool false))),ov 33 32,og 34 (.mov (.t 7)) 33 true,og 35 (.bin .eql (.t 34) (nn 0)) 33 true,oo 36 (.pick (.t 33) (.t 35) (.c (.bool false))),ov 37 36,og 38 (.mov (.t 4)) 37 true,og 39 (.un .not (.t 38)) 37 true,oo 40 (.pick (.t 37) (.t 39) (.c (.bool false))),ov 41 40,og 42 (.mov (.t 6)) 41 true,oo 43 (.pick (.t 41) (.t 42) (.c (.bool false))),ov 44 43,og 45 (.load (some 3) (.t 1)) 44 true,og 46 (.buildSl false 1 [(.int .i64 0),(.int .i64 0)] [(0,1,(nn 0)),(1,1,(nn 1))] 2) 44 true,og 47 (.call 27 [.t 45,.t 46]) 44 true,oo 48 (.pick (.t 44) (.t 47) (.c (.bool false))),ov 0 48] (.ret))))),[.t 0]⟩
def F30:AF:=⟨sr [oo 6 (.box 3 (.t 1)),oo 10 (.mov (.c (.sl none true 0 []))),om 11 0] (sr [ov 16 0,os 17 3 6,ov 18 2,ov 19 3,oo 20 (.call 65 [.t 16,.t 17,.t 18,.t 19]),ov 15 20,oe 21 15 0,oe 22 15 1,ov 12 21,ov 13 22] (.seq (sr [ov 23 13,on 24 .neq 23 0] (.cond (.t 24) (sr [ov 25 13,oo 10 (.mov (.c (.sl none true 0 []))),ov 11 25] (.ret)) (.skip))) (.seq (sr [ov 26 4,on 27 .lss 26 0,ov 28 27,og 29 (.mov (.t 4)) 28 false,og 30 (.mov (.t 12)) 28 false,og 31 (.nilCheck (.t 30)) 28 false,og 32 (.fieldAddr 4 (.t 31)) 28 false,og 33 (.load none (.t 32)) 28 false,og 34 (.lenSl (.t 33)) 28 false,og 35 (.bin .geq (.t 29) (.t 34)) 28 false,oo 36 (.pick (.t 28) (.c (.bool true)) (.t 35))] (.cond (.t 36) (sr [oo 10 (.mov (.c (.sl none true 0 []))),om 11 3] (.ret)) (.skip))) (sr [oo 14 (.alloc [(.sl none true 0 [])])] (sr [ov 37 12,ov 38 4,oo 39 (.mkFn (.func 73) [] [.t 14]),oo 40 (.call 72 [.t 37,.t 38,.t 39])] (sr [ol 41 14,ov 42 13,ov 10 41,ov 11 42] (.ret))))))),[.t 10,.t 11]⟩
def F31:AF:=⟨sr [oo 1 (.box 3 (.t 0)),oo 2 (.mov (.c (.sl none true 0 [])))] (sr [oo 7 (.buildSl false 2 [] [] 0),ov 3 7] (.seq (sr [om 4 0] (.block 0 (.loop (.seq (sr [ov 8 4,of 9 2 1,ol 10 9,oo 11 (.lenSl (.t 10)),ob 12 .lss 8 11] (.cond (.t 12) (.skip) (.exit 0))) (.seq (.block 1 (sr [om 5 0] (.block 2 (.loop (.seq (sr [ov 15 5,of 16 2 1,ol 17 16,ov 18 4,ox 19 3 17 18,of 20 2 19,ol 21 20,oo 22 (.lenSl (.t 21)),ob 23 .lss 15 22] (.cond (.t 23) (.skip) (.exit 2))) (.seq (.block 3 (sr [ov 26 4,ov 27 5,oo 28 (.build [(.int .i64 0),(.int .i64 0)] [(0,1,(.t 26)),(1,1,(.t 27))]),oo 6 (.alloc [(.int .i64 0),(.int .i64 0)]),ou (.store 2 (.t 6) (.t 28))] (sr [of 29 2 1,ol 30 29,ov 31 4,ox 32 3 30 31,of 33 1 32,ol 34 33,on 35 .eql 34 1,ov 36 35,og 37 (.load (some 3) (.t 1)) 36 true,og 38 (.load (some 2) (.t 6)) 36 true,og 39 (.call 74 [.t 37,.t 38]) 36 true,oo 40 (.pick (.t 36) (.t 39) (.c (.bool false)))] (.cond (.t 40) (.region [ov 41 3,os 42 2 6,oo 43 (.buildSl false 2 [(.int .i64 0),(.int .i64 0)] [(0,2,(.t 42))] 1),oo 44 (.append false 2 16 (.t 41) (.t 43)),ov 3 44]) (.skip))))) (.region [ov 24 5,on 25 .add 24 1,ov 5 25]))))))) (.region [ov 13 4,on 14 .add 13 1,ov 4 14])))))) (sr [ov 45 3,ov 2 45] (.ret)))),[.t 2]⟩
def F32:AF:=⟨sr [oo 4 (.mov (.c (.bool false)))] (.seq (sr [ov 6 0,oo 7 (.lenSl (.t 6)),ov 8 1,oo 9 (.lenSl (.t 8)),ob 10 .neq 7 9] (.cond (.t 10) (sr [oo 4 (.mov (.c (.bool false)))] (.ret)) (.skip))) (.seq (sr [om 5 0] (.block 0 (.loop (.seq (sr [ov 11 5,ov 12 0,oo 13 (.lenSl (.t 12)),ob 14 .lss 11 13] (.cond (.t 14) (.skip) (.exit 0))) (.seq (.block 1 (.seq (.draw [ov 17 0,ov 18 5,ox 19 1 17 18,ol 20 19,ov 21 1,ov 22 5,ox 23 1 21 22,ol 24 23,ob 25 .neq 20 24] []) (.cond (.t 25) (sr [oo 4 (.mov (.c (.bool false)))] (.ret)) (.skip)))) (.region [ov 15 5,on 16 .add 15 1,ov 5 16])))))) (sr [oo 4 (.mov (.c (.bool true)))] (.ret)))),[.t 4]⟩
def F33:AF:=⟨sr [oo 6 (.box 3 (.t 1)),oo 10 (.mov (.c (.sl none true 0 [])))] (sr [os 18 3 6,oo 19 (.call 31 [.t 18]),oo 20 (.buildSl false 1 [] [] 0),ov 11 19,ov 12 20] (sr [ov 21 11,ov 22 4,ox 23 2 21 22,os 24 2 23,oo 13 (.alloc [(.int .i64 0),(.int .i64 0)]),ou (.store 2 (.t 13) (.t 24))] (sr [os 25 3 6,ov 26 11,ov 27 2,of 28 0 13,ol 29 28,oo 30 (.call 75 [.t 25,.t 26,.t 27,.t 29]),ov 14 30] (.seq (sr [om 15 0] (.block 0 (.loop (.seq (sr [ov 31 15,of 32 2 6,ol 33 32,oo 34 (.lenSl (.t 33)),ob 35 .lss 31 34] (.cond (.t 35) (.skip) (.exit 0))) (.seq (.block 1 (sr [oo 16 (.mov (.c (.bool false)))] (.seq (sr [ov 38 0] (.block 2 (sr [on 40 .eql 38 1,ov 39 40] (.cond (.t 39) (sr [om 17 0] (.block 3 (.loop (.seq (sr [ov 41 17,ov 42 11,oo 43 (.lenSl (.t 42)),ob 44 .lss 41 43] (.cond (.t 44) (.skip) (.exit 3))) (.seq (.block 4 (.draw [ov 47 16,ov 48 47,og 49 (.mov (.t 11)) 48 false,og 50 (.mov (.t 17)) 48 false,og 51 (.idxSl 2 (.t 49) (.t 50)) 48 false,og 52 (.fieldAddr 0 (.t 51)) 48 false,og 53 (.load none (.t 52)) 48 false,og 54 (.fieldAddr 0 (.t 13)) 48 false,og 55 (.load none (.t 54)) 48 false,og 56 (.bin .eql (.t 53) (.t 55)) 48 false,og 57 (.mov (.t 56)) 48 false,og 58 (.mov (.t 11)) 57 true,og 59 (.mov (.t 17)) 57 true,og 60 (.idxSl 2 (.t 58) (.t 59)) 57 true,og 61 (.fieldAddr 1 (.t 60)) 57 true,og 62 (.load none (.t 61)) 57 true,og 63 (.fieldAddr 1 (.t 13)) 57 true,og 64 (.load none (.t 63)) 57 true,og 65 (.bin .lss (.t 62) (.t 64)) 57 true,og 66 (.pick (.t 57) (.t 65) (.c (.bool false))) 48 false,og 67 (.mov (.t 66)) 48 false,og 68 (.mov (.t 2)) 67 true,og 69 (.mov (.t 17)) 67 true,og 70 (.idxSl 1 (.t 68) (.t 69)) 67 true,og 71 (.load none (.t 70)) 67 true,og 72 (.mov (.t 15)) 67 true,og 73 (.bin .eql (.t 71) (.t 72)) 67 true,og 74 (.pick (.t 67) (.t 73) (.c (.bool false))) 48 false,oo 75 (.pick (.t 48) (.c (.bool true)) (.t 74)),ov 16 75] [])) (.region [ov 45 17,on 46 .add 45 1,ov 17 46])))))) (sr [on 77 .eql 38 2,ov 76 77] (.cond (.t 76) (.region [ov 78 14,ov 79 15,ox 80 1 78 79,ol 81 80,ov 16 81]) (sr [on 83 .eql 38 3,ov 82 83] (.cond (.t 82) (.draw [of 84 2 6,ol 85 84,ov 86 15,ox 87 3 85 86,of 88 1 87,ol 89 88,on 90 .eql 89 1,ov 91 90,og 92 (.mov (.t 3)) 91 true,og 93 (.mov (.t 15)) 91 true,og 94 (.call 63 [.t 92,.t 93]) 91 true,og 95 (.mov (.t 3)) 91 true,og 96 (.fieldAddr 0 (.t 13)) 91 true,og 97 (.load none (.t 96)) 91 true,og 98 (.call 63 [.t 95,.t 97]) 91 true,og 99 (.bin .lss (.t 94) (.t 98)) 91 true,oo 100 (.pick (.t 91) (.t 99) (.c (.bool false))),ov 16 100] []) (.skip))))))))) (sr [ov 101 16] (.cond (.t 101) (.region [ov 102 12,ov 103 15,oo 104 (.buildSl false 1 [(.int .i64 0)] [(0,1,(.t 103))] 1),oo 105 (.append false 1 8 (.t 102) (.t 104)),ov 12 105]) (.skip)))))) (.region [ov 36 15,on 37 .add 36 1,ov 15 37])))))) (sr [ov 106 12,ov 10 106] (.ret)))))),[.t 10]⟩
def F39:AF:=⟨sr [oo 1 (.box 3 (.t 0)),oo 2 (.mov (.c (.sl none true 0 [])))] (sr [oo 5 (.buildSl false 1 [] [] 0),ov 3 5] (.seq (sr [om 4 0] (.block 0 (.loop (.seq (sr [ov 6 4,of 7 2 1,ol 8 7,oo 9 (.lenSl (.t 8)),ob 10 .lss 6 9] (.cond (.t 10) (.skip) (.exit 0))) (.seq (.block 1 (sr [of 13 2 1,ol 14 13,ov 15 4,ox 16 3 14 15,of 17 1 16,ol 18 17,on 19 .eql 18 1] (.cond (.t 19) (.region [ov 20 3,ov 21 4,oo 22 (.buildSl false 1 [(.int .i64 0)] [(0,1,(.t 21))] 1),oo 23 (.append false 1 8 (.t 20) (.t 22)),ov 3 23]) (.skip)))) (.region [ov 11 4,on 12 .add 11 1,ov 4 12])))))) (sr [ov 24 3,ov 2 24] (.ret)))),[.t 2]⟩
def F52:AF:=⟨sr [oo 1 (.box 3 (.t 0)),oo 2 (.mov (.c (.bool false)))] (sr [os 3 3 1,oo 4 (.call 103 [.t 3]),on 5 .eql 4 0,ov 6 5,og 7 (.load (some 3) (.t 1)) 6 true,og 8 (.call 104 [.t 7]) 6 true,og 9 (.lenSl (.t 8)) 6 true,og 10 (.bin .eql (.t 9) (nn 0)) 6 true,oo 11 (.pick (.t 6) (.t 10) (.c (.bool false))),ov 12 11,og 13 (.load (some 3) (.t 1)) 12 true,og 14 (.call 105 [.t 13]) 12 true,og 15 (.lenSl (.t 14)) 12 true,og 16 (.bin .eql (.t 15) (nn 0)) 12 true,oo 17 (.pick (.t 12) (.t 16) (.c (.bool false))),ov 2 17] (.ret)),[.t 2]⟩
def F53:AF:=⟨sr [oo 2 (.box 3 (.t 0)),oo 4 (.mov (.c (.bool false)))] (sr [os 9 3 2,ov 10 1,oo 11 (.call 106 [.t 9,.t 10]),ov 8 11,oe 12 8 0,oe 13 8 1,oe 14 8 2,ov 5 12,ov 6 13,ov 7 14] (sr [ov 15 7,ov 4 15] (.ret))),[.t 4]⟩
def F57:AF:=⟨sr [oo 2 (.alloc [(.sl none true 0 []),(.sl none true 0 []),(.sl none true 0 [])]),om 3 0,om 4 0] (sr [ov 9 0,oo 10 (.call 108 [.t 9]),ov 8 10,oe 11 8 0,oe 12 8 1,oe 13 8 2,ov 5 11,ov 6 12,ov 7 13] (.seq (sr [ov 14 7,on 15 .neq 14 0] (.cond (.t 15) (sr [oo 16 (.build [(.sl none true 0 []),(.sl none true 0 []),(.sl none true 0 [])] []),ov 17 6,ov 18 7,ou (.store 3 (.t 2) (.t 16)),ov 3 17,ov 4 18] (.ret)) (.skip))) (sr [ov 19 5,oo 20 (.call 109 [.t 19]),oe 21 20 0,oe 22 20 1,oe 23 20 2,ou (.store 3 (.t 2) (.t 21)),ov 3 22,ov 4 23] (.ret)))),[.cell 2 (some 3),.t 3,.t 4]⟩
def F58:AF:=⟨sr [qq 1 (.box 3 (.t 0)),qm 2 0] (.seq (sr [qf 9 0 1,ql 10 9,qq 11 (.call 110 [.t 10]),qq 12 (.un .not (.t 11)),qv 13 12,qg 14 (.fieldAddr 1 (.t 1)) 13 false,qg 15 (.load none (.t 14)) 13 false,qg 16 (.call 110 [.t 15]) 13 false,qg 17 (.un .not (.t 16)) 13 false,qq 18 (.pick (.t 13) (.c (.bool true)) (.t 17)),qv 19 18,qg 20 (.fieldAddr 0 (.t 1)) 19 false,qg 21 (.load none (.t 20)) 19 false,qg 22 (.lenSl (.t 21)) 19 false,qg 23 (.bin .gtr (.t 22) (nn 20)) 19 false,qq 24 (.pick (.t 19) (.c (.bool true)) (.t 23)),qv 25 24,qg 26 (.fieldAddr 1 (.t 1)) 25 false,qg 27 (.load none (.t 26)) 25 false,qg 28 (.lenSl (.t 27)) 25 false,qg 29 (.bin .gtr (.t 28) (nn 40)) 25 false,qq 30 (.pick (.t 25) (.c (.bool true)) (.t 29)),qv 31 30,qg 32 (.fieldAddr 2 (.t 1)) 31 false,qg 33 (.load none (.t 32)) 31 false,qg 34 (.lenSl (.t 33)) 31 false,qg 35 (.bin .gtr (.t 34) (nn 40)) 31 false,qq 36 (.pick (.t 31) (.c (.bool true)) (.t 35))] (.cond (.t 36) (sr [qm 2 4] (.ret)) (.skip))) (.seq (.draw [qf 37 1 1,ql 38 37,qq 39 (.lenSl (.t 38)),qq 40 (.mkSl true 1 1 [(.bool false)] (.t 39) (.t 39)),qf 41 0 1,ql 42 41,qq 43 (.lenSl (.t 42)),qq 44 (.mkSl true 1 1 [(.bool false)] (.t 43) (.t 43)),qv 3 40,qv 4 44] [(3,5),(1,7),(3,7)]) (.seq (sr [qm 5 0] (.block 0 (.loop (.seq (sr [qv 45 5,qf 46 2 1,ql 47 46,qq 48 (.lenSl (.t 47)),qb 49 .lss 45 48] (.cond (.t 49) (.skip) (.exit 0))) (.seq (.block 1 (.seq (.seq (.seq (.draw [qs 52 3 1,qf 53 2 1,ql 54 53,qv 55 5,qx 56 3 54 55,qs 57 3 56,qv 58 3] []) (.region [qq 59 (.call 111 [.t 52,.t 57,.t 58]),qq 60 (.un .not (.t 59))])) (.cond (.t 60) (sr [qm 2 4] (.ret)) (.skip))) (.region [qv 61 4,qf 62 2 1,ql 63 62,qv 64 5,qx 65 3 63 64,qf 66 0 65,ql 67 66,qx 68 1 61 67,qu (.store 1 (.t 68) (.c (.bool true)))]))) (.region [qv 50 5,qn 51 .add 50 1,qv 5 51])))))) (sr [qq 6 (.mov (.c (.bool true)))] (.seq (sr [qm 7 0] (.block 2 (.loop (.seq (sr [qv 69 7,qv 70 3,qq 71 (.lenSl (.t 70)),qb 72 .lss 69 71] (.cond (.t 72) (.skip) (.exit 2))) (.seq (.block 3 (.region [qv 75 6,qv 76 75,qg 77 (.mov (.t 3)) 76 true,qg 78 (.mov (.t 7)) 76 true,qg 79 (.idxSl 1 (.t 77) (.t 78)) 76 true,qg 80 (.load none (.t 79)) 76 true,qq 81 (.pick (.t 76) (.t 80) (.c (.bool false))),qv 6 81])) (.region [qv 73 7,qn 74 .add 73 1,qv 7 74])))))) (.seq (sr [qm 8 0] (.block 4 (.loop (.seq (sr [qv 82 8,qv 83 4,qq 84 (.lenSl (.t 83)),qb 85 .lss 82 84] (.cond (.t 85) (.skip) (.exit 4))) (.seq (.block 5 (.region [qv 88 6,qv 89 88,qg 90 (.mov (.t 4)) 89 true,qg 91 (.mov (.t 8)) 89 true,qg 92 (.idxSl 1 (.t 90) (.t 91)) 89 true,qg 93 (.load none (.t 92)) 89 true,qq 94 (.pick (.t 89) (.t 93) (.c (.bool false))),qv 6 94])) (.region [qv 86 8,qn 87 .add 86 1,qv 8 87])))))) (.seq (sr [qv 95 6,qq 96 (.un .not (.t 95))] (.cond (.t 96) (sr [qm 2 4] (.ret)) (.skip))) (sr [qm 2 0] (.ret))))))))),[.t 2]⟩
def F59:AF:=⟨sr [oo 1 (.box 3 (.t 0)),oo 2 (.mov (.c (.sl none true 0 [])))] (sr [oo 5 (.buildSl false 1 [] [] 0),ov 3 5] (.seq (sr [om 4 0] (.block 0 (.loop (.seq (sr [ov 6 4,of 7 2 1,ol 8 7,oo 9 (.lenSl (.t 8)),ob 10 .lss 6 9] (.cond (.t 10) (.skip) (.exit 0))) (.seq (.block 1 (sr [of 13 2 1,ol 14 13,ov 15 4,ox 16 3 14 15,of 17 1 16,ol 18 17,on 19 .eql 18 3] (.cond (.t 19) (.region [ov 20 3,ov 21 4,oo 22 (.buildSl false 1 [(.int .i64 0)] [(0,1,(.t 21))] 1),oo 23 (.append false 1 8 (.t 20) (.t 22)),ov 3 23]) (.skip)))) (.region [ov 11 4,on 12 .add 11 1,ov 4 12])))))) (sr [ov 24 3,ov 2 24] (.ret)))),[.t 2]⟩
def F60:AF:=⟨sr [oo 1 (.box 3 (.t 0)),oo 2 (.mov (.c (.sl none true 0 [])))] (sr [oo 6 (.buildSl false 2 [] [] 0),ov 3 6] (.seq (sr [om 4 0] (.block 0 (.loop (.seq (sr [ov 7 4,of 8 2 1,ol 9 8,oo 10 (.lenSl (.t 9)),ob 11 .lss 7 10] (.cond (.t 11) (.skip) (.exit 0))) (.seq (.block 1 (sr [om 5 0] (.block 2 (.loop (.seq (sr [ov 14 5,of 15 2 1,ol 16 15,ov 17 4,ox 18 3 16 17,of 19 2 18,ol 20 19,oo 21 (.lenSl (.t 20)),ob 22 .lss 14 21] (.cond (.t 22) (.skip) (.exit 2))) (.seq (.block 3 (sr [of 25 2 1,ol 26 25,ov 27 4,ox 28 3 26 27,of 29 2 28,ol 30 29,ov 31 5,ox 32 4 30 31,of 33 2 32,of 34 0 33,ol 35 34,on 36 .eql 35 2] (.cond (.t 36) (.region [ov 37 3,ov 38 4,ov 39 5,oo 40 (.build [(.int .i64 0),(.int .i64 0)] [(0,1,(.t 38)),(1,1,(.t 39))]),oo 41 (.buildSl false 2 [(.int .i64 0),(.int .i64 0)] [(0,2,(.t 40))] 1),oo 42 (.append false 2 16 (.t 37) (.t 41)),ov 3 42]) (.skip)))) (.region [ov 23 5,on 24 .add 23 1,ov 5 24]))))))) (.region [ov 12 4,on 13 .add 12 1,ov 4 13])))))) (sr [ov 43 3,ov 2 43] (.ret)))),[.t 2]⟩
def F61:AF:=⟨sr [oo 1 (.box 3 (.t 0)),oo 2 (.mov (.c (.sl none true 0 [])))] (sr [os 6 3 1,oo 7 (.call 31 [.t 6]),oo 8 (.buildSl false 1 [] [] 0),ov 3 7,ov 4 8] (.seq (sr [om 5 0] (.block 0 (.loop (.seq (sr [ov 9 5,ov 10 3,oo 11 (.lenSl (.t 10)),ob 12 .lss 9 11] (.cond (.t 12) (.skip) (.exit 0))) (.seq (.block 1 (.draw [ov 15 4,os 16 3 1,ov 17 3,ov 18 5,ox 19 2 17 18,os 20 2 19,oo 21 (.call 112 [.t 16,.t 20]),oo 22 (.buildSl false 1 [(.sl none true 0 [])] [(0,1,(.t 21))] 1),oo 23 (.append false 1 24 (.t 15) (.t 22)),ov 4 23] [])) (.region [ov 13 5,on 14 .add 13 1,ov 5 14])))))) (sr [ov 24 4,ov 2 24] (.ret)))),[.t 2]⟩
def F62:AF:=⟨sr [oo 4 (.mov (.c (.bool false)))] (.seq (sr [om 5 0] (.block 0 (.loop (.seq (sr [ov 6 5,ov 7 0,oo 8 (.lenSl (.t 7)),ob 9 .lss 6 8] (.cond (.t 9) (.skip) (.exit 0))) (.seq (.block 1 (sr [ov 12 0,ov 13 5,ox 14 1 12 13,ol 15 14,ov 16 1,ob 17 .eql 15 16] (.cond (.t 17) (sr [oo 4 (.mov (.c (.bool true)))] (.ret)) (.skip)))) (.region [ov 10 5,on 11 .add 10 1,ov 5 11])))))) (sr [oo 4 (.mov (.c (.bool false)))] (.ret))),[.t 4]⟩
def F63:AF:=⟨sr [om 4 0] (.seq (sr [om 5 0] (.block 0 (.loop (.seq (sr [ov 6 5,ov 7 0,oo 8 (.lenSl (.t 7)),ob 9 .lss 6 8] (.cond (.t 9) (.skip) (.exit 0))) (.seq (.block 1 (sr [ov 12 0,ov 13 5,ox 14 1 12 13,ol 15 14,ov 16 1,ob 17 .eql 15 16] (.cond (.t 17) (sr [ov 18 5,ov 4 18] (.ret)) (.skip)))) (.region [ov 10 5,on 11 .add 10 1,ov 5 11])))))) (sr [oo 4 (.mov (nn (-1)))] (.ret))),[.t 4]⟩
def F70:AF:=⟨sr [oo 4 (.mov (.c (.bool false)))] (.seq (sr [ov 6 0,oo 7 (.lenSl (.t 6)),ov 8 1,oo 9 (.lenSl (.t 8)),ob 10 .neq 7 9] (.cond (.t 10) (sr [oo 4 (.mov (.c (.bool false)))] (.ret)) (.skip))) (.seq (sr [ov 11 0,oo 12 (.lenSl (.t 11)),om 13 0] (.block 0 (.loop (sr [ob 14 .lss 13 12] (.seq (.cond (.t 14) (.skip) (.exit 0)) (.seq (.block 1 (sr [ov 15 13,ov 5 15] (.seq (.draw [ov 16 0,ov 17 5,ox 18 1 16 17,ol 19 18,ov 20 1,ov 21 5,ox 22 1 20 21,ol 23 22,ob 24 .neq 19 23] []) (.cond (.t 24) (sr [oo 4 (.mov (.c (.bool false)))] (.ret)) (.skip))))) (.region [on 25 .add 13 1,ov 13 25]))))))) (sr [oo 4 (.mov (.c (.bool true)))] (.ret)))),[.t 4]⟩
def F71:AF:=⟨sr [oo 1 (.box 3 (.t 0)),oo 2 (.mov (.c (.sl none true 0 [])))] (.seq (sr [os 6 3 1,oo 7 (.call 52 [.t 6]),oo 8 (.un .not (.t 7))] (.cond (.t 8) (sr [oo 2 (.mov (.c (.sl none true 0 [])))] (.ret)) (.skip))) (sr [oo 3 (.mov (.c (.sl none true 0 [])))] (.seq (sr [of 9 2 1,ol 10 9,oo 11 (.lenSl (.t 10)),om 12 0] (.block 0 (.loop (sr [ob 13 .lss 12 11] (.seq (.cond (.t 13) (.skip) (.exit 0)) (.seq (.block 1 (sr [ov 14 12,ox 15 3 10 12,os 16 3 15,oo 5 (.alloc [(.int .i64 0),(.int .i64 0),(.sl none true 0 [])]),ov 4 14,ou (.store 3 (.t 5) (.t 16))] (sr [of 17 1 5,ol 18 17,on 19 .eql 18 1] (.cond (.t 19) (.region [ov 20 3,ov 21 4,oo 22 (.buildSl false 1 [(.int .i64 0)] [(0,1,(.t 21))] 1),oo 23 (.append false 1 8 (.t 20) (.t 22)),ov 3 23]) (.skip))))) (.region [on 24 .add 12 1,ov 12 24]))))))) (sr [ov 25 3,ov 2 25] (.ret))))),[.t 2]⟩
def F74:AF:=⟨sr [oo 2 (.box 3 (.t 0)),oo 3 (.box 2 (.t 1)),oo 4 (.mov (.c (.bool false)))] (.seq (.seq (.draw [os 7 3 2,os 8 2 3,oo 9 (.call 120 [.t 7,.t 8]),oo 10 (.un .not (.t 9)),ov 11 10,og 12 (.fieldAddr 2 (.t 2)) 11 false,og 13 (.load none (.t 12)) 11 false,og 14 (.fieldAddr 0 (.t 3)) 11 false,og 15 (.load none (.t 14)) 11 false,og 16 (.idxSl 3 (.t 13) (.t 15)) 11 false,og 17 (.fieldAddr 2 (.t 16)) 11 false,og 18 (.load none (.t 17)) 11 false,og 19 (.fieldAddr 1 (.t 3)) 11 false,og 20 (.load none (.t 19)) 11 false,og 21 (.idxSl 4 (.t 18) (.t 20)) 11 false,og 22 (.fieldAddr 0 (.t 21)) 11 false,og 23 (.load none (.t 22)) 11 false,oo 24 (.pick (.t 11) (.c (.bool true)) (.t 23))] []) (.cond (.t 24) (sr [oo 4 (.mov (.c (.bool false)))] (.ret)) (.skip))) (sr [os 26 3 2,os 27 2 3,oo 28 (.call 121 [.t 26,.t 27]),ov 25 28,oe 29 25 0,oe 30 25 1,oo 5 (.alloc [(.int .i64 0),(.int .i64 0)]),ou (.store 2 (.t 5) (.t 29)),ov 6 30] (sr [ov 31 6,oo 32 (.un .not (.t 31)),ov 4 32] (.ret)))),[.t 4]⟩
def F75:AF:=⟨sr [oo 4 (.box 3 (.t 0)),oo 8 (.mov (.c (.sl none true 0 [])))] (sr [of 13 2 4,ol 14 13,oo 15 (.lenSl (.t 14)),oo 16 (.mkSl false 1 1 [(.bool false)] (.t 15) (.t 15)),ov 9 16] (.seq (sr [oo 10 (.mov (.c (.bool true)))] (.block 0 (.loop (.seq (sr [ov 17 10] (.cond (.t 17) (.skip) (.exit 0))) (.block 1 (sr [oo 10 (.mov (.c (.bool false)))] (sr [om 11 0] (.block 2 (.loop (.seq (sr [ov 18 11,of 19 2 4,ol 20 19,oo 21 (.lenSl (.t 20)),ob 22 .lss 18 21] (.cond (.t 22) (.skip) (.exit 2))) (.seq (.block 3 (sr [om 12 0] (.block 4 (.loop (.seq (sr [ov 25 12,of 26 2 4,ol 27 26,oo 28 (.lenSl (.t 27)),ob 29 .lss 25 28] (.cond (.t 29) (.skip) (.exit 4))) (.seq (.block 5 (sr [ov 32 9,ov 33 11,ox 34 1 32 33,ol 35 34,oo 36 (.un .not (.t 35)),ov 37 36,og 38 (.mov (.t 12)) 37 true,og 39 (.mov (.t 3)) 37 true,og 40 (.bin .eql (.t 38) (.t 39)) 37 true,og 41 (.mov (.t 40)) 37 true,og 42 (.mov (.t 9)) 41 false,og 43 (.mov (.t 12)) 41 false,og 44 (.idxSl 1 (.t 42) (.t 43)) 41 false,og 45 (.load none (.t 44)) 41 false,og 46 (.pick (.t 41) (.c (.bool true)) (.t 45)) 37 true,oo 47 (.pick (.t 37) (.t 46) (.c (.bool false))),ov 48 47,og 49 (.load (some 3) (.t 4)) 48 true,og 50 (.mov (.t 1)) 48 true,og 51 (.mov (.t 2)) 48 true,og 52 (.mov (.t 11)) 48 true,og 53 (.mov (.t 12)) 48 true,og 54 (.call 122 [.t 49,.t 50,.t 51,.t 52,.t 53]) 48 true,oo 55 (.pick (.t 48) (.t 54) (.c (.bool false)))] (.cond (.t 55) (.region [ov 56 9,ov 57 11,ox 58 1 56 57,ou (.store 1 (.t 58) (.c (.bool true))),oo 10 (.mov (.c (.bool true)))]) (.skip)))) (.region [ov 30 12,on 31 .add 30 1,ov 12 31]))))))) (.region [ov 23 11,on 24 .add 23 1,ov 11 24])))))))))))) (sr [ov 59 9,ov 8 59] (.ret)))),[.t 8]⟩
def F84:AF:=⟨sr [oo 3 (.box 3 (.t 0)),oo 6 (.alloc [(.int .i64 0),(.int .i64 0)]),oo 7 (.mov (.c (.bool false)))] (sr [oo 11 (.build [(.int .i64 0),(.int .i64 0)] []),oo 8 (.alloc [(.int .i64 0),(.int .i64 0)]),ou (.store 2 (.t 8) (.t 11)),oo 9 (.mov (.c (.bool false)))] (.seq (sr [om 10 0] (.block 0 (.loop (.seq (sr [ov 12 10,ov 13 1,ob 14 .lss 12 13,ov 15 14,og 16 (.mov (.t 10)) 15 true,og 17 (.fieldAddr 2 (.t 3)) 15 true,og 18 (.load none (.t 17)) 15 true,og 19 (.lenSl (.t 18)) 15 true,og 20 (.bin .lss (.t 16) (.t 19)) 15 true,oo 21 (.pick (.t 15) (.t 20) (.c (.bool false)))] (.cond (.t 21) (.skip) (.exit 0))) (.seq (.block 1 (sr [of 24 2 3,ol 25 24,ov 26 10,ox 27 4 25 26,of 28 0 27,ol 29 28,ov 30 29,og 31 (.fieldAddr 2 (.t 3)) 30 true,og 32 (.load none (.t 31)) 30 true,og 33 (.mov (.t 10)) 30 true,og 34 (.idxSl 4 (.t 32) (.t 33)) 30 true,og 35 (.fieldAddr 1 (.t 34)) 30 true,og 36 (.load none (.t 35)) 30 true,og 37 (.mov (.t 2)) 30 true,og 38 (.bin .eql (.t 36) (.t 37)) 30 true,oo 39 (.pick (.t 30) (.t 38) (.c (.bool false)))] (.cond (.t 39) (.region [of 40 2 3,ol 41 40,ov 42 10,ox 43 4 41 42,of 44 2 43,os 45 2 44,ou (.store 2 (.t 8) (.t 45)),oo 9 (.mov (.c (.bool true)))]) (.skip)))) (.region [ov 22 10,on 23 .add 22 1,ov 10 23])))))) (sr [os 46 2 8,ov 47 9,ou (.store 2 (.t 6) (.t 46)),ov 7 47] (.ret)))),[.cell 6 (some 2),.t 7]⟩
def F86:AF:=⟨sr [oo 1 (.box 3 (.t 0)),oo 2 (.mov (.c (.sl none true 0 [])))] (sr [oo 3 (.mov (.c (.sl none true 0 [])))] (.seq (sr [os 8 3 1,oo 9 (.call 71 [.t 8]),oo 10 (.lenSl (.t 9)),om 11 0] (.block 0 (.loop (sr [ob 12 .lss 11 10] (.seq (.cond (.t 12) (.skip) (.exit 0)) (.seq (.block 1 (sr [ox 13 1 9 11,ol 14 13,ov 5 14] (sr [of 15 2 1,ol 16 15,ov 17 5,ox 18 3 16 17,of 19 2 18,ol 20 19,oo 21 (.lenSl (.t 20)),om 22 0] (.block 2 (.loop (sr [ob 23 .lss 22 21] (.seq (.cond (.t 23) (.skip) (.exit 2)) (.seq (.block 3 (sr [ov 24 22,ov 6 24] (sr [ov 25 5,ov 26 6,oo 27 (.build [(.int .i64 0),(.int .i64 0)] [(0,1,(.t 25)),(1,1,(.t 26))]),oo 7 (.alloc [(.int .i64 0),(.int .i64 0)]),ou (.store 2 (.t 7) (.t 27))] (sr [os 28 3 1,os 29 2 7,oo 30 (.call 136 [.t 28,.t 29])] (.cond (.t 30) (.region [ov 31 3,os 32 2 7,oo 33 (.buildSl false 2 [(.int .i64 0),(.int .i64 0)] [(0,2,(.t 32))] 1),oo 34 (.append false 2 16 (.t 31) (.t 33)),ov 3 34]) (.skip)))))) (.region [on 35 .add 22 1,ov 22 35]))))))))) (.region [on 36 .add 11 1,ov 11 36]))))))) (sr [ov 37 3,ov 2 37] (.ret)))),[.t 2]⟩
def F103:AF:=⟨sr [oo 1 (.box 3 (.t 0)),oo 2 (.alloc [(.int .i64 0)])] (.seq (sr [os 5 3 1,oo 6 (.call 152 [.t 5]),oo 7 (.un .not (.t 6)),ov 8 7,og 9 (.fieldAddr 2 (.t 1)) 8 false,og 10 (.load none (.t 9)) 8 false,og 11 (.mkFn (.func 154) [] [.t 1]) 8 false,og 12 (.call 153 [.t 10,.t 11]) 8 false,oo 13 (.pick (.t 8) (.c (.bool true)) (.t 12))] (.cond (.t 13) (sr [ou (.store 1 (.t 2) (nn 4))] (.ret)) (.skip))) (.seq (sr [os 14 3 1,oo 15 (.call 156 [.t 14])] (.block 0 (.rangeFunc (.t 15) [16,17] (.region [oo 4 (.alloc [(.bool false),(.int .i64 0),(.int .i64 0),(.int .i64 0)]),ou (.store 4 (.t 4) (.t 17))]) (.block 1 (sr [os 18 3 1,os 19 4 4,oo 20 (.call 157 [.t 18,.t 19]),oo 21 (.un .not (.t 20))] (.cond (.t 21) (sr [ou (.store 1 (.t 2) (nn 4))] (.ret)) (.skip))))))) (.seq (sr [os 22 3 1,oo 23 (.call 158 [.t 22]),oo 24 (.un .not (.t 23))] (.cond (.t 24) (sr [ou (.store 1 (.t 2) (nn 4))] (.ret)) (.skip))) (sr [ou (.store 1 (.t 2) (nn 0))] (.ret))))),[.cell 2 none]⟩
def F104:AF:=⟨sr [oo 1 (.box 3 (.t 0)),oo 2 (.mov (.c (.sl none true 0 [])))] (sr [os 3 3 1,oo 4 (.call 159 [(.t 3),(.c (.fn (.func 160) [] []))]),ov 2 4] (.ret)),[.t 2]⟩
def F105:AF:=⟨sr [oo 1 (.box 3 (.t 0)),oo 2 (.mov (.c (.sl none true 0 [])))] (.seq (sr [os 6 3 1,oo 7 (.call 103 [.t 6]),on 8 .neq 7 0] (.cond (.t 8) (sr [oo 2 (.mov (.c (.sl none true 0 [])))] (.ret)) (.skip))) (sr [oo 3 (.alloc [(.sl none true 0 [])])] (.seq (sr [os 9 3 1,oo 10 (.call 156 [.t 9])] (.block 0 (.rangeFunc (.t 10) [11,12] (sr [oo 4 (.alloc [(.int .i64 0),(.int .i64 0)]),ou (.store 2 (.t 4) (.t 11))] (.region [oo 5 (.alloc [(.bool false),(.int .i64 0),(.int .i64 0),(.int .i64 0)]),ou (.store 4 (.t 5) (.t 12))])) (.block 1 (sr [of 13 2 5,of 14 0 13,ol 15 14,on 16 .eql 15 2] (.cond (.t 16) (.region [ol 17 3,os 18 2 4,oo 19 (.buildSl false 2 [(.int .i64 0),(.int .i64 0)] [(0,2,(.t 18))] 1),oo 20 (.append false 2 16 (.t 17) (.t 19)),ou (.store 1 (.t 3) (.t 20))]) (.skip))))))) (sr [ol 21 3,ov 2 21] (.ret))))),[.t 2]⟩
def F106:AF:=⟨sr [qq 2 (.box 3 (.t 0)),qq 4 (.mov (.c (.sl none true 0 []))),qq 5 (.mov (.c (.sl none true 0 []))),qq 6 (.mov (.c (.bool false)))] (sr [qs 11 3 2,qq 12 (.call 161 [.t 11]),qv 7 12] (.seq (sr [qs 13 3 2,qq 14 (.call 52 [.t 13]),qq 15 (.un .not (.t 14)),qv 16 15,qg 17 (.mov (.t 7)) 16 false,qg 18 (.lenSl (.t 17)) 16 false,qg 19 (.mov (.t 1)) 16 false,qg 20 (.lenSl (.t 19)) 16 false,qg 21 (.bin .neq (.t 18) (.t 20)) 16 false,qq 22 (.pick (.t 16) (.c (.bool true)) (.t 21))] (.cond (.t 22) (sr [qq 4 (.mov (.c (.sl none true 0 []))),qq 5 (.mov (.c (.sl none true 0 []))),qq 6 (.mov (.c (.bool false)))] (.ret)) (.skip))) (sr [qv 23 1,qq 24 (.lenSl (.t 23)),qq 25 (.mkSl true 1 8 [(.int .i64 0)] (.t 24) (.t 24)),qv 8 25] (.seq (sr [qv 26 7,qq 27 (.lenSl (.t 26)),qm 28 0] (.block 0 (.loop (sr [qb 29 .lss 28 27] (.seq (.cond (.t 29) (.skip) (.exit 0)) (.seq (.block 1 (sr [qv 30 28,qx 31 1 26 28,ql 32 31,qv 9 30,qv 10 32] (sr [qv 33 8,qv 34 9,qv 35 10,qv 36 1,qv 37 9,qx 38 1 36 37,ql 39 38,qq 40 (.call 127 [.t 35,.t 39]),qx 41 1 33 34,qu (.store 1 (.t 41) (.t 40))] (sr [qv 42 8,qv 43 9,qx 44 1 42 43,ql 45 44,qn 46 .lss 45 0] (.cond (.t 46) (sr [qq 4 (.mov (.c (.sl none true 0 []))),qq 5 (.mov (.c (.sl none true 0 []))),qq 6 (.mov (.c (.bool false)))] (.ret)) (.skip)))))) (.region [qn 47 .add 28 1,qv 28 47]))))))) (sr [qv 48 7,qv 49 8,qv 4 48,qv 5 49,qq 6 (.mov (.c (.bool true)))] (.ret)))))),[.t 4,.t 5,.t 6]⟩
def F108:AF:=⟨sr [oo 2 (.mov (.c (.sl none true 0 []))),om 3 0,om 4 0] (sr [ov 15 0,oo 16 (.call 166 [.t 15]),ov 14 16,oe 17 14 0,oe 18 14 1,oe 19 14 2,ov 5 17,ov 6 18,ov 7 19] (.seq (sr [ov 20 7,on 21 .neq 20 0] (.cond (.t 21) (sr [ov 22 6,ov 23 7,oo 2 (.mov (.c (.sl none true 0 []))),ov 3 22,ov 4 23] (.ret)) (.skip))) (sr [oo 8 (.mov (.c (.sl none true 0 [])))] (.seq (sr [ov 24 5,oo 25 (.lenSl (.t 24)),om 26 0] (.block 0 (.loop (sr [ob 27 .lss 26 25] (.seq (.cond (.t 27) (.skip) (.exit 0)) (.seq (.block 1 (sr [ov 28 26,ox 29 1 24 26,ol 30 29,ov 9 28,ov 10 30] (sr [ov 32 10,oo 33 (.call 167 [.t 32]),ov 31 33,oe 34 31 0,oe 35 31 1,oe 36 31 2,oo 11 (.alloc [(.int .i64 0),(.str []),(.str []),(.int .i64 0),(.int .i64 0),(.int .i64 0)]),ou (.store 6 (.t 11) (.t 34)),ov 12 35,ov 13 36] (.seq (sr [ov 37 12,ov 38 37,og 39 (.mov (.t 8)) 38 true,og 40 (.lenSl (.t 39)) 38 true,og 41 (.bin .eql (.t 40) (nn 1000)) 38 true,oo 42 (.pick (.t 38) (.t 41) (.c (.bool false)))] (.cond (.t 42) (.region [om 13 7]) (.skip))) (.seq (sr [ov 43 13,on 44 .neq 43 0] (.cond (.t 44) (sr [ov 45 9,on 46 .add 45 1,ov 47 13,oo 2 (.mov (.c (.sl none true 0 []))),ov 3 46,ov 4 47] (.ret)) (.skip))) (sr [ov 48 12] (.cond (.t 48) (sr [ov 49 9,on 50 .add 49 1,of 51 5 11,ou (.store 1 (.t 51) (.t 50))] (.region [ov 52 8,os 53 6 11,oo 54 (.buildSl false 6 [(.int .i64 0),(.str []),(.str []),(.int .i64 0),(.int .i64 0),(.int .i64 0)] [(0,6,(.t 53))] 1),oo 55 (.append false 6 64 (.t 52) (.t 54)),ov 8 55])) (.skip)))))))) (.region [on 56 .add 26 1,ov 26 56]))))))) (sr [ov 57 8,ov 2 57,om 3 0,om 4 0] (.ret)))))),[.t 2,.t 3,.t 4]⟩
def F109:AF:=⟨sr [qq 2 (.alloc [(.sl none true 0 []),(.sl none true 0 []),(.sl none true 0 [])]),qm 3 0,qm 4 0] (sr [qv 14 0,qq 15 (.call 168 [.t 14]),qv 13 15,qe 16 13 0,qe 17 13 1,qe 18 13 2,qv 5 16,qv 6 17,qv 7 18] (.seq (sr [qv 19 7,qn 20 .neq 19 0] (.cond (.t 20) (sr [qq 21 (.build [(.sl none true 0 []),(.sl none true 0 []),(.sl none true 0 [])] []),qv 22 6,qv 23 7,qu (.store 3 (.t 2) (.t 21)),qv 3 22,qv 4 23] (.ret)) (.skip))) (.seq (.draw [qv 24 5,qq 25 (.nilCheck (.t 24)),qf 26 2 25,ql 27 26,qq 28 (.call 169 [.t 27]),qv 29 5,qq 30 (.nilCheck (.t 29)),qf 31 3 30,ql 32 31,qq 33 (.call 169 [.t 32]),qq 34 (.build [(.sl none true 0 []),(.sl none true 0 []),(.sl none true 0 [])] [(0,1,(.t 28)),(1,1,(.t 33))]),qq 8 (.alloc [(.sl none true 0 []),(.sl none true 0 []),(.sl none true 0 [])]),qu (.store 3 (.t 8) (.t 34))] [(3,11),(4,11),(8,11),(9,11)]) (.seq (sr [qv 35 5,qq 36 (.nilCheck (.t 35)),qf 37 0 36,ql 38 37,qq 39 (.lenSl (.t 38)),qm 40 0] (.block 0 (.loop (sr [qb 41 .lss 40 39] (.seq (.cond (.t 41) (.skip) (.exit 0)) (.seq (.block 1 (sr [qx 42 1 38 40,ql 43 42,qv 10 43] (.seq (.seq (.draw [qv 44 5,qq 45 (.nilCheck (.t 44)),qf 46 1 45,ql 47 46,qv 48 10,qq 49 (.nilCheck (.t 48)),qf 50 0 49,ql 51 50,qq 52 (.lookup .str .nilptr false (.t 47) (.t 51)),qv 53 10,qq 54 (.eq false .ptr (.t 52) (.t 53))] []) (.cond (.t 54) (.seq (.draw [qq 55 (.build [(.sl none true 0 []),(.sl none true 0 []),(.sl none true 0 [])] []),qv 56 10,qq 57 (.nilCheck (.t 56)),qf 58 2 57,ql 59 58,qu (.store 3 (.t 2) (.t 55)),qv 3 59,qm 4 12] [(4,5)]) (.ret)) (.skip))) (.seq (.draw [qv 61 10,qf 62 0 8,ql 63 62,qv 64 10,qq 65 (.nilCheck (.t 64)),qf 66 0 65,ql 67 66,qq 68 (.call 170 [.t 63,.t 67]),qv 60 68,qe 69 60 0,qe 70 60 1,qq 71 (.nilCheck (.t 61)),qf 72 3 71,qf 73 0 72,qu (.store 1 (.t 73) (.t 69))] []) (.seq (.seq (.draw [qv 74 10,qq 75 (.nilCheck (.t 74)),qf 76 1 75,ql 77 76,qf 78 1 8,ql 79 78,qq 80 (.call 171 [.t 77,.t 79]),qq 81 (.lenSl (.t 80)),qm 82 0] []) (.block 2 (.loop (sr [qb 83 .lss 82 81] (.seq (.cond (.t 83) (.skip) (.exit 2)) (.seq (.block 3 (sr [qv 84 82,qx 85 1 80 82,ql 86 85,qv 11 84,qv 12 86] (.region [qv 87 10,qq 88 (.nilCheck (.t 87)),qf 89 3 88,qf 90 2 89,ql 91 90,qv 92 11,qv 93 12,qx 94 4 91 92,qf 95 1 94,qu (.store 1 (.t 95) (.t 93))]))) (.region [qn 96 .add 82 1,qv 82 96]))))))) (.draw [qf 97 2 8,ql 98 97,qv 99 10,qq 100 (.nilCheck (.t 99)),qf 101 3 100,qs 102 3 101,qq 103 (.buildSl true 3 [(.int .i64 0),(.int .i64 0),(.sl none true 0 [])] [(0,3,(.t 102))] 1),qq 104 (.append true 3 40 (.t 98) (.t 103)),qf 105 2 8,qu (.store 1 (.t 105) (.t 104))] [(1,6)])))))) (.region [qn 106 .add 40 1,qv 40 106]))))))) (sr [qs 107 3 8,qu (.store 3 (.t 2) (.t 107)),qm 3 0,qm 4 0] (.ret)))))),[.cell 2 (some 3),.t 3,.t 4]⟩
def F110:AF:=⟨sr [oo 2 (.mov (.c (.bool false)))] (.seq (sr [om 3 0] (.block 0 (.loop (.seq (sr [ov 4 3,ov 5 0,oo 6 (.lenSl (.t 5)),ob 7 .lss 4 6] (.cond (.t 7) (.skip) (.exit 0))) (.seq (.block 1 (.seq (.draw [ov 10 0,ov 11 3,ox 12 1 10 11,ol 13 12,oo 14 (.call 172 [.t 13]),oo 15 (.un .not (.t 14)),ov 16 15,og 17 (.mov (.t 3)) 16 false,og 18 (.bin .gtr (.t 17) (nn 0)) 16 false,og 19 (.mov (.t 18)) 16 false,og 20 (.mov (.t 0)) 19 true,og 21 (.mov (.t 3)) 19 true,og 22 (.bin .sub (.t 21) (nn 1)) 19 true,og 23 (.idxSl 1 (.t 20) (.t 22)) 19 true,og 24 (.load none (.t 23)) 19 true,og 25 (.mov (.t 0)) 19 true,og 26 (.mov (.t 3)) 19 true,og 27 (.idxSl 1 (.t 25) (.t 26)) 19 true,og 28 (.load none (.t 27)) 19 true,og 29 (.call 173 [.t 24,.t 28]) 19 true,og 30 (.un .not (.t 29)) 19 true,og 31 (.pick (.t 19) (.t 30) (.c (.bool false))) 16 false,oo 32 (.pick (.t 16) (.c (.bool true)) (.t 31))] []) (.cond (.t 32) (sr [oo 2 (.mov (.c (.bool false)))] (.ret)) (.skip)))) (.region [ov 8 3,on 9 .add 8 1,ov 3 9])))))) (sr [oo 2 (.mov (.c (.bool true)))] (.ret))),[.t 2]⟩
def F112:AF:=⟨sr [oo 2 (.box 3 (.t 0)),oo 3 (.box 2 (.t 1)),oo 4 (.mov (.c (.sl none true 0 [])))] (sr [oo 10 (.buildSl false 1 [] [] 0),ov 5 10] (.seq (sr [os 11 3 2,os 12 2 3,oo 13 (.call 175 [.t 11,.t 12]),oo 14 (.un .not (.t 13))] (.cond (.t 14) (sr [ov 15 5,ov 4 15] (.ret)) (.skip))) (.seq (.draw [of 16 2 2,ol 17 16,of 18 0 3,ol 19 18,ox 20 3 17 19,of 21 2 20,ol 22 21,of 23 1 3,ol 24 23,ox 25 4 22 24,os 26 4 25,oo 6 (.alloc [(.bool false),(.int .i64 0),(.int .i64 0),(.int .i64 0)]),ou (.store 4 (.t 6) (.t 26))] [(1,11),(3,11),(6,11),(8,11),(10,11)]) (.seq (sr [of 27 2 6,of 28 0 27,ol 29 28,on 30 .neq 29 1] (.cond (.t 30) (.region [ov 31 5,oo 32 (.buildSl false 1 [(.int .i64 0)] [(0,1,(nn (-1)))] 1),oo 33 (.append false 1 8 (.t 31) (.t 32)),ov 5 33]) (.skip))) (.seq (sr [om 7 0] (.block 0 (.loop (.seq (sr [ov 34 7,of 35 2 2,ol 36 35,oo 37 (.lenSl (.t 36)),ob 38 .lss 34 37] (.cond (.t 38) (.skip) (.exit 0))) (.seq (.block 1 (.seq (.draw [of 42 2 2,ol 43 42,ov 44 7,ox 45 3 43 44,os 46 3 45,of 47 2 2,ol 48 47,ov 49 7,ox 50 3 48 49,of 51 2 50,ol 52 51,oo 53 (.lenSl (.t 52)),of 54 1 6,ol 55 54,oo 56 (.call 84 [.t 46,.t 53,.t 55]),ov 41 56,oe 57 41 0,oe 58 41 1,oo 8 (.alloc [(.int .i64 0),(.int .i64 0)]),ou (.store 2 (.t 8) (.t 57)),ov 9 58] [(1,18),(4,18),(6,18),(10,18),(13,18),(14,18)]) (sr [ov 59 7,of 60 0 3,ol 61 60,ob 62 .neq 59 61,ov 63 62,og 64 (.fieldAddr 2 (.t 2)) 63 true,og 65 (.load none (.t 64)) 63 true,og 66 (.mov (.t 7)) 63 true,og 67 (.idxSl 3 (.t 65) (.t 66)) 63 true,og 68 (.fieldAddr 1 (.t 67)) 63 true,og 69 (.load none (.t 68)) 63 true,og 70 (.bin .neq (.t 69) (nn 2)) 63 true,oo 71 (.pick (.t 63) (.t 70) (.c (.bool false))),ov 72 71,og 73 (.mov (.t 9)) 72 true,oo 74 (.pick (.t 72) (.t 73) (.c (.bool false))),ov 75 74,og 76 (.fieldAddr 2 (.t 6)) 75 true,og 77 (.fieldAddr 0 (.t 76)) 75 true,og 78 (.load none (.t 77)) 75 true,og 79 (.bin .eql (.t 78) (nn 2)) 75 true,og 80 (.mov (.t 79)) 75 true,og 81 (.load (some 2) (.t 8)) 80 false,og 82 (.fieldAddr 2 (.t 6)) 80 false,og 83 (.load (some 2) (.t 82)) 80 false,og 84 (.eq false (.struct [.int,.int]) (.t 81) (.t 83)) 80 false,og 85 (.pick (.t 80) (.c (.bool true)) (.t 84)) 75 true,oo 86 (.pick (.t 75) (.t 85) (.c (.bool false)))] (.cond (.t 86) (.region [ov 87 5,ov 88 7,oo 89 (.buildSl false 1 [(.int .i64 0)] [(0,1,(.t 88))] 1),oo 90 (.append false 1 8 (.t 87) (.t 89)),ov 5 90]) (.skip))))) (.region [ov 39 7,on 40 .add 39 1,ov 7 40])))))) (sr [ov 91 5,ov 4 91] (.ret))))))),[.t 4]⟩
def F114:AF:=⟨sr [oo 2 (.box 3 (.t 0)),oo 4 (.mov (.c (.sl none true 0 [])))] (sr [oo 5 (.mov (.c (.sl none true 0 [])))] (sr [os 11 3 2,ov 12 1,oo 13 (.call 176 [.t 11,.t 12]),ov 6 13] (.seq (sr [ov 14 6,oo 15 (.lenSl (.t 14)),om 16 0] (.block 0 (.loop (sr [ob 17 .lss 16 15] (.seq (.cond (.t 17) (.skip) (.exit 0)) (.seq (.block 1 (sr [ov 18 16,ox 19 4 14 16,os 20 4 19,oo 8 (.alloc [(.bool false),(.int .i64 0),(.int .i64 0),(.int .i64 0)]),ov 7 18,ou (.store 4 (.t 8) (.t 20))] (.seq (sr [of 21 0 8,ol 22 21,ov 23 22,og 24 (.fieldAddr 2 (.t 8)) 23 false,og 25 (.fieldAddr 0 (.t 24)) 23 false,og 26 (.load none (.t 25)) 23 false,og 27 (.bin .eql (.t 26) (nn 2)) 23 false,oo 28 (.pick (.t 23) (.c (.bool true)) (.t 27))] (.cond (.t 28) (.exit 1) (.skip))) (.seq (.draw [ov 30 6,ov 31 7,oo 32 (.slSl 4 (.t 30) none (some (.t 31))),of 33 1 8,ol 34 33,oo 35 (.call 177 [.t 32,.t 34]),ov 29 35,oe 36 29 0,oe 37 29 1,oo 9 (.alloc [(.int .i64 0),(.int .i64 0)]),ou (.store 2 (.t 9) (.t 36)),ov 10 37] [(4,9),(5,9)]) (sr [ov 38 10,ov 39 38,og 40 (.load (some 2) (.t 9)) 39 true,og 41 (.fieldAddr 2 (.t 8)) 39 true,og 42 (.load (some 2) (.t 41)) 39 true,og 43 (.eq true (.struct [.int,.int]) (.t 40) (.t 42)) 39 true,oo 44 (.pick (.t 39) (.t 43) (.c (.bool false)))] (.cond (.t 44) (.region [ov 45 5,ov 46 7,oo 47 (.buildSl false 1 [(.int .i64 0)] [(0,1,(.t 46))] 1),oo 48 (.append false 1 8 (.t 45) (.t 47)),ov 5 48]) (.skip))))))) (.region [on 49 .add 16 1,ov 16 49]))))))) (sr [ov 50 5,ov 4 50] (.ret))))),[.t 4]⟩
def F116:AF:=⟨sr [oo 3 (.box 3 (.t 0)),oo 6 (.alloc [(.int .i64 0),(.int .i64 0)]),oo 7 (.mov (.c (.bool false)))] (sr [os 8 3 3,ov 9 1,oo 10 (.call 176 [.t 8,.t 9]),ov 11 2,oo 12 (.call 177 [.t 10,.t 11]),oe 13 12 0,oe 14 12 1,ou (.store 2 (.t 6) (.t 13)),ov 7 14] (.ret)),[.cell 6 (some 2),.t 7]⟩
def F118:AF:=⟨sr [om 2 0] (.seq (.cond (.c (.bool false)) (sr [ov 3 0,oo 4 (.conv .u32 (.t 3)),oo 5 (.call 187 [.t 4]),ov 2 5] (.ret)) (.skip)) (sr [ov 6 0,oo 7 (.call 188 [.t 6]),ov 2 7] (.ret))),[.t 2]⟩
def F120:AF:=⟨sr [oo 2 (.box 3 (.t 0)),oo 3 (.box 2 (.t 1)),oo 4 (.mov (.c (.bool false)))] (.seq (.draw [os 5 3 2,oo 6 (.call 58 [.t 5]),on 7 .eql 6 0,ov 8 7,og 9 (.fieldAddr 0 (.t 3)) 8 true,og 10 (.load none (.t 9)) 8 true,og 11 (.bin .geq (.t 10) (nn 0)) 8 true,oo 12 (.pick (.t 8) (.t 11) (.c (.bool false))),ov 13 12,og 14 (.fieldAddr 0 (.t 3)) 13 true,og 15 (.load none (.t 14)) 13 true,og 16 (.fieldAddr 2 (.t 2)) 13 true,og 17 (.load none (.t 16)) 13 true,og 18 (.lenSl (.t 17)) 13 true,og 19 (.bin .lss (.t 15) (.t 18)) 13 true,oo 20 (.pick (.t 13) (.t 19) (.c (.bool false))),ov 21 20,og 22 (.fieldAddr 1 (.t 3)) 21 true,og 23 (.load none (.t 22)) 21 true,og 24 (.bin .geq (.t 23) (nn 0)) 21 true,oo 25 (.pick (.t 21) (.t 24) (.c (.bool false))),ov 26 25,og 27 (.fieldAddr 1 (.t 3)) 26 true,og 28 (.load none (.t 27)) 26 true,og 29 (.fieldAddr 2 (.t 2)) 26 true,og 30 (.load none (.t 29)) 26 true,og 31 (.fieldAddr 0 (.t 3)) 26 true,og 32 (.load none (.t 31)) 26 true,og 33 (.idxSl 3 (.t 30) (.t 32)) 26 true,og 34 (.fieldAddr 2 (.t 33)) 26 true,og 35 (.load none (.t 34)) 26 true,og 36 (.lenSl (.t 35)) 26 true,og 37 (.bin .lss (.t 28) (.t 36)) 26 true,oo 38 (.pick (.t 26) (.t 37) (.c (.bool false))),ov 4 38] []) (.ret)),[.t 4]⟩
def F121:AF:=⟨sr [oo 2 (.box 3 (.t 0)),oo 3 (.box 2 (.t 1)),oo 4 (.alloc [(.int .i64 0),(.int .i64 0)]),oo 5 (.mov (.c (.bool false)))] (.seq (sr [os 6 3 2,os 7 2 3,oo 8 (.call 120 [.t 6,.t 7]),oo 9 (.un .not (.t 8))] (.cond (.t 9) (sr [oo 10 (.build [(.int .i64 0),(.int .i64 0)] []),ou (.store 2 (.t 4) (.t 10)),oo 5 (.mov (.c (.bool false)))] (.ret)) (.skip))) (.seq (.draw [of 11 2 2,ol 12 11,of 13 0 3,ol 14 13,ox 15 3 12 14,os 16 3 15,of 17 1 3,ol 18 17,of 19 2 2,ol 20 19,of 21 0 3,ol 22 21,ox 23 3 20 22,of 24 2 23,ol 25 24,of 26 1 3,ol 27 26,ox 28 4 25 27,of 29 1 28,ol 30 29,oo 31 (.call 84 [.t 16,.t 18,.t 30]),oe 32 31 0,oe 33 31 1,ou (.store 2 (.t 4) (.t 32)),ov 5 33] []) (.ret))),[.cell 4 (some 2),.t 5]⟩
def F122:AF:=⟨sr [oo 5 (.box 3 (.t 0)),oo 10 (.mov (.c (.bool false)))] (.seq (sr [of 12 2 5,ol 13 12,ov 14 3,ox 15 3 13 14,of 16 1 15,ol 17 16,on 18 .neq 17 1,ov 19 18,og 20 (.fieldAddr 2 (.t 5)) 19 false,og 21 (.load none (.t 20)) 19 false,og 22 (.mov (.t 4)) 19 false,og 23 (.idxSl 3 (.t 21) (.t 22)) 19 false,og 24 (.fieldAddr 1 (.t 23)) 19 false,og 25 (.load none (.t 24)) 19 false,og 26 (.bin .neq (.t 25) (nn 1)) 19 false,oo 27 (.pick (.t 19) (.c (.bool true)) (.t 26))] (.cond (.t 27) (sr [oo 10 (.mov (.c (.bool false)))] (.ret)) (.skip))) (.seq (.seq (.draw [ov 28 3,ov 29 4,ob 30 .lss 28 29,ov 31 30,og 32 (.fieldAddr 2 (.t 5)) 31 true,og 33 (.load none (.t 32)) 31 true,og 34 (.mov (.t 3)) 31 true,og 35 (.idxSl 3 (.t 33) (.t 34)) 31 true,og 36 (.fieldAddr 0 (.t 35)) 31 true,og 37 (.load none (.t 36)) 31 true,og 38 (.fieldAddr 2 (.t 5)) 31 true,og 39 (.load none (.t 38)) 31 true,og 40 (.mov (.t 4)) 31 true,og 41 (.idxSl 3 (.t 39) (.t 40)) 31 true,og 42 (.fieldAddr 0 (.t 41)) 31 true,og 43 (.load none (.t 42)) 31 true,og 44 (.bin .eql (.t 37) (.t 43)) 31 true,oo 45 (.pick (.t 31) (.t 44) (.c (.bool false)))] []) (.cond (.t 45) (sr [oo 10 (.mov (.c (.bool true)))] (.ret)) (.skip))) (.seq (sr [om 11 0] (.block 0 (.loop (.seq (sr [ov 46 11,ov 47 1,oo 48 (.lenSl (.t 47)),ob 49 .lss 46 48] (.cond (.t 49) (.skip) (.exit 0))) (.seq (.block 1 (sr [ov 52 2,ov 53 11,ox 54 1 52 53,ol 55 54,ov 56 3,ob 57 .eql 55 56,ov 58 57,og 59 (.mov (.t 1)) 58 true,og 60 (.mov (.t 11)) 58 true,og 61 (.idxSl 2 (.t 59) (.t 60)) 58 true,og 62 (.fieldAddr 0 (.t 61)) 58 true,og 63 (.load none (.t 62)) 58 true,og 64 (.mov (.t 4)) 58 true,og 65 (.bin .eql (.t 63) (.t 64)) 58 true,oo 66 (.pick (.t 58) (.t 65) (.c (.bool false)))] (.cond (.t 66) (sr [oo 10 (.mov (.c (.bool true)))] (.ret)) (.skip)))) (.region [ov 50 11,on 51 .add 50 1,ov 11 51])))))) (sr [oo 10 (.mov (.c (.bool false)))] (.ret))))),[.t 10]⟩
def F127:AF:=⟨sr [om 4 0] (.seq (sr [ov 6 0,oo 7 (.lenSl (.t 6)),om 8 0] (.block 0 (.loop (sr [ob 9 .lss 8 7] (.seq (.cond (.t 9) (.skip) (.exit 0)) (.seq (.block 1 (sr [ov 10 8,ov 5 10] (sr [ov 11 1,ov 12 0,ov 13 5,ox 14 1 12 13,ol 15 14,ob 16 .eql 11 15] (.cond (.t 16) (sr [ov 17 5,ov 4 17] (.ret)) (.skip))))) (.region [on 18 .add 8 1,ov 8 18]))))))) (sr [oo 4 (.mov (nn (-1)))] (.ret))),[.t 4]⟩
def F136:AF:=⟨sr [oo 2 (.box 3 (.t 0)),oo 3 (.box 2 (.t 1)),oo 4 (.mov (.c (.bool false)))] (sr [os 8 3 2,of 9 0 3,ol 10 9,oo 11 (.call 176 [.t 8,.t 10]),ov 5 11] (.seq (sr [of 12 1 3,ol 13 12,on 14 .lss 13 0,ov 15 14,og 16 (.fieldAddr 1 (.t 3)) 15 false,og 17 (.load none (.t 16)) 15 false,og 18 (.mov (.t 5)) 15 false,og 19 (.lenSl (.t 18)) 15 false,og 20 (.bin .geq (.t 17) (.t 19)) 15 false,oo 21 (.pick (.t 15) (.c (.bool true)) (.t 20)),ov 22 21,og 23 (.mov (.t 5)) 22 false,og 24 (.fieldAddr 1 (.t 3)) 22 false,og 25 (.load none (.t 24)) 22 false,og 26 (.idxSl 4 (.t 23) (.t 25)) 22 false,og 27 (.fieldAddr 0 (.t 26)) 22 false,og 28 (.load none (.t 27)) 22 false,oo 29 (.pick (.t 22) (.c (.bool true)) (.t 28))] (.cond (.t 29) (sr [oo 4 (.mov (.c (.bool false)))] (.ret)) (.skip))) (.seq (.draw [ov 31 5,of 32 1 3,ol 33 32,oo 34 (.slSl 4 (.t 31) none (some (.t 33))),ov 35 5,of 36 1 3,ol 37 36,ox 38 4 35 37,of 39 1 38,ol 40 39,oo 41 (.call 177 [.t 34,.t 40]),ov 30 41,oe 42 30 0,oe 43 30 1,oo 6 (.alloc [(.int .i64 0),(.int .i64 0)]),ou (.store 2 (.t 6) (.t 42)),ov 7 43] [(2,14),(6,14),(9,14),(10,14)]) (sr [ov 44 7,oo 45 (.un .not (.t 44)),ov 4 45] (.ret))))),[.t 4]⟩
def F152:AF:=⟨sr [oo 1 (.box 3 (.t 0)),oo 2 (.mov (.c (.bool false)))] (sr [of 3 0 1,ol 4 3,oo 5 (.call 212 [.t 4]),ov 6 5,og 7 (.fieldAddr 1 (.t 1)) 6 true,og 8 (.load none (.t 7)) 6 true,og 9 (.call 212 [.t 8]) 6 true,oo 10 (.pick (.t 6) (.t 9) (.c (.bool false))),ov 11 10,og 12 (.fieldAddr 0 (.t 1)) 11 true,og 13 (.load none (.t 12)) 11 true,og 14 (.lenSl (.t 13)) 11 true,og 15 (.bin .leq (.t 14) (nn 20)) 11 true,oo 16 (.pick (.t 11) (.t 15) (.c (.bool false))),ov 17 16,og 18 (.fieldAddr 1 (.t 1)) 17 true,og 19 (.load none (.t 18)) 17 true,og 20 (.lenSl (.t 19)) 17 true,og 21 (.bin .leq (.t 20) (nn 40)) 17 true,oo 22 (.pick (.t 17) (.t 21) (.c (.bool false))),ov 23 22,og 24 (.fieldAddr 2 (.t 1)) 23 true,og 25 (.load none (.t 24)) 23 true,og 26 (.lenSl (.t 25)) 23 true,og 27 (.bin .leq (.t 26) (nn 40)) 23 true,oo 28 (.pick (.t 23) (.t 27) (.c (.bool false))),ov 2 28] (.ret)),[.t 2]⟩
def F155:AF:=⟨sr [oo 2 (.box 3 (.t 0)),oo 3 (.box 3 (.t 1)),oo 4 (.mov (.c (.bool false)))] (sr [of 5 0 3,ol 6 5,of 7 0 2,ol 8 7,oo 9 (.call 214 [.t 6,.t 8]),ov 10 9,og 11 (.fieldAddr 1 (.t 3)) 10 true,og 12 (.load none (.t 11)) 10 true,og 13 (.bin .geq (.t 12) (nn 1)) 10 true,oo 14 (.pick (.t 10) (.t 13) (.c (.bool false))),ov 15 14,og 16 (.fieldAddr 1 (.t 3)) 15 true,og 17 (.load none (.t 16)) 15 true,og 18 (.bin .leq (.t 17) (nn 3)) 15 true,oo 19 (.pick (.t 15) (.t 18) (.c (.bool false))),ov 20 19,og 21 (.fieldAddr 2 (.t 3)) 20 true,og 22 (.load none (.t 21)) 20 true,og 23 (.lenSl (.t 22)) 20 true,og 24 (.bin .leq (.t 23) (nn 20)) 20 true,oo 25 (.pick (.t 20) (.t 24) (.c (.bool false))),ov 4 25] (.ret)),[.t 4]⟩
def F157:AF:=⟨sr [oo 2 (.box 3 (.t 0)),oo 3 (.box 4 (.t 1)),oo 4 (.mov (.c (.bool false)))] (sr [of 5 1 3,ol 6 5,of 7 1 2,ol 8 7,oo 9 (.call 214 [.t 6,.t 8]),ov 10 9,og 11 (.fieldAddr 2 (.t 3)) 10 true,og 12 (.load (some 2) (.t 11)) 10 true,og 13 (.call 216 [.t 12]) 10 true,oo 14 (.pick (.t 10) (.t 13) (.c (.bool false))),ov 15 14,og 16 (.fieldAddr 0 (.t 3)) 15 true,og 17 (.load none (.t 16)) 15 true,og 18 (.un .not (.t 17)) 15 true,og 19 (.mov (.t 18)) 15 true,og 20 (.fieldAddr 2 (.t 3)) 19 false,og 21 (.fieldAddr 0 (.t 20)) 19 false,og 22 (.load none (.t 21)) 19 false,og 23 (.bin .eql (.t 22) (nn 1)) 19 false,og 24 (.pick (.t 19) (.c (.bool true)) (.t 23)) 15 true,oo 25 (.pick (.t 15) (.t 24) (.c (.bool false))),ov 4 25] (.ret)),[.t 4]⟩
def F158:AF:=⟨sr [oo 1 (.box 3 (.t 0)),oo 2 (.mov (.c (.bool false)))] (sr [oo 9 (.mkMap),oo 10 (.mkMap),oo 4 (.alloc [.nilmap]),ov 3 9,ou (.store 1 (.t 4) (.t 10))] (.seq (sr [of 11 2 1,ol 12 11,oo 13 (.lenSl (.t 12)),om 14 0] (.block 0 (.loop (sr [ob 15 .lss 14 13] (.seq (.cond (.t 15) (.skip) (.exit 0)) (.seq (.block 1 (sr [ox 16 3 12 14,os 17 3 16,oo 6 (.alloc [(.int .i64 0),(.int .i64 0),(.sl none true 0 [])]),ou (.store 3 (.t 6) (.t 17))] (.region [ov 18 3,of 19 0 6,ol 20 19,oo 21 (.lookup .int (.int .i64 0) false (.t 18) (.t 20)),on 22 .add 21 1,ou (.mapSet .int (.t 18) (.t 20) (.t 22))]))) (.region [on 23 .add 14 1,ov 14 23]))))))) (.seq (sr [os 24 3 1,oo 25 (.call 156 [.t 24])] (.block 2 (.rangeFunc (.t 25) [26,27] (.region [oo 8 (.alloc [(.bool false),(.int .i64 0),(.int .i64 0),(.int .i64 0)]),ou (.store 4 (.t 8) (.t 27))]) (.block 3 (.region [ol 28 4,of 29 1 8,ol 30 29,oo 31 (.lookup .int (.int .i64 0) false (.t 28) (.t 30)),on 32 .add 31 1,ou (.mapSet .int (.t 28) (.t 30) (.t 32))]))))) (sr [ov 33 3,oo 34 (.lenMap (.t 33)),of 35 0 1,ol 36 35,oo 37 (.lenSl (.t 36)),ob 38 .eql 34 37,ov 39 38,og 40 (.load none (.t 4)) 39 true,og 41 (.lenMap (.t 40)) 39 true,og 42 (.fieldAddr 1 (.t 1)) 39 true,og 43 (.load none (.t 42)) 39 true,og 44 (.lenSl (.t 43)) 39 true,og 45 (.bin .eql (.t 41) (.t 44)) 39 true,oo 46 (.pick (.t 39) (.t 45) (.c (.bool false))),ov 2 46] (.ret))))),[.t 2]⟩
def F159:AF:=⟨sr [oo 2 (.box 3 (.t 0)),oo 4 (.mov (.c (.sl none true 0 [])))] (.seq (sr [os 8 3 2,oo 9 (.call 103 [.t 8]),on 10 .neq 9 0] (.cond (.t 10) (sr [oo 4 (.mov (.c (.sl none true 0 [])))] (.ret)) (.skip))) (sr [oo 5 (.mov (.c (.sl none true 0 [])))] (.seq (sr [of 11 2 2,ol 12 11,oo 13 (.lenSl (.t 12)),om 14 0] (.block 0 (.loop (sr [ob 15 .lss 14 13] (.seq (.cond (.t 15) (.skip) (.exit 0)) (.seq (.block 1 (sr [ov 16 14,ox 17 3 12 14,os 18 3 17,oo 7 (.alloc [(.int .i64 0),(.int .i64 0),(.sl none true 0 [])]),ov 6 16,ou (.store 3 (.t 7) (.t 18))] (sr [ov 19 1,os 20 3 7,oo 21 (.callV (.t 19) [.t 20])] (.cond (.t 21) (.region [ov 22 5,ov 23 6,oo 24 (.buildSl false 1 [(.int .i64 0)] [(0,1,(.t 23))] 1),oo 25 (.append false 1 8 (.t 22) (.t 24)),ov 5 25]) (.skip))))) (.region [on 26 .add 14 1,ov 14 26]))))))) (sr [ov 27 5,ov 4 27] (.ret))))),[.t 4]⟩
def F160:AF:=⟨sr [oo 1 (.box 3 (.t 0)),oo 2 (.mov (.c (.bool false)))] (sr [of 3 1 1,ol 4 3,on 5 .eql 4 3,ov 2 5] (.ret)),[.t 2]⟩
def F161:AF:=⟨sr [oo 1 (.box 3 (.t 0)),oo 2 (.mov (.c (.sl none true 0 [])))] (sr [oo 3 (.mov (.c (.sl none true 0 [])))] (.seq (sr [os 6 3 1,oo 7 (.call 86 [.t 6]),oo 8 (.lenSl (.t 7)),om 9 0] (.block 0 (.loop (sr [ob 10 .lss 9 8] (.seq (.cond (.t 10) (.skip) (.exit 0)) (.seq (.block 1 (sr [ox 11 2 7 9,os 12 2 11,oo 5 (.alloc [(.int .i64 0),(.int .i64 0)]),ou (.store 2 (.t 5) (.t 12))] (.region [ov 13 3,os 14 3 1,os 15 2 5,oo 16 (.call 217 [.t 14,.t 15]),oo 17 (.buildSl false 1 [(.sl none true 0 [])] [(0,1,(.t 16))] 1),oo 18 (.append false 1 24 (.t 13) (.t 17)),ov 3 18]))) (.region [on 19 .add 9 1,ov 9 19]))))))) (sr [ov 20 3,ov 2 20] (.ret)))),[.t 2]⟩
def F166:AF:=⟨sr [oo 2 (.mov (.c (.sl none true 0 []))),om 3 0,om 4 0] (.seq (sr [ov 10 0,oo 11 (.lenStr (.t 10)),on 12 .gtr 11 65536] (.cond (.t 12) (sr [oo 2 (.mov (.c (.sl none true 0 []))),om 3 0,om 4 6] (.ret)) (.skip))) (.seq (sr [ov 13 0,oo 14 (.bin .eql (.t 13) (.c (.str [])))] (.cond (.t 14) (sr [oo 2 (.mov (.c (.sl none true 0 []))),om 3 0,om 4 0] (.ret)) (.skip))) (sr [ov 15 0,oo 16 (.call 224 [(.t 15),(.c (.str [10]))]),oo 17 (.call 223 [(.t 16),(.c (.str [10]))]),ov 5 17] (.seq (sr [ov 18 5,oo 19 (.lenSl (.t 18)),om 20 0] (.block 0 (.loop (sr [ob 21 .lss 20 19] (.seq (.cond (.t 21) (.skip) (.exit 0)) (.seq (.block 1 (sr [ov 22 20,ox 23 1 18 20,ol 24 23,ov 6 22,ov 7 24] (sr [ov 26 7,oo 27 (.call 225 [.t 26]),ov 25 27,oe 28 25 0,oe 29 25 1,ov 8 28,ov 9 29] (sr [ov 30 9,oo 31 (.un .not (.t 30))] (.cond (.t 31) (sr [ov 32 6,on 33 .add 32 1,oo 2 (.mov (.c (.sl none true 0 []))),ov 3 33,om 4 5] (.ret)) (.skip)))))) (.region [on 34 .add 20 1,ov 20 34]))))))) (sr [ov 35 5,ov 2 35,om 3 0,om 4 0] (.ret)))))),[.t 2,.t 3,.t 4]⟩
def F167:AF:=⟨sr [oo 2 (.alloc [(.int .i64 0),(.str []),(.str []),(.int .i64 0),(.int .i64 0),(.int .i64 0)]),oo 3 (.mov (.c (.bool false))),om 4 0] (sr [ov 11 0,oo 12 (.call 226 [.t 11]),ov 10 12,oe 13 10 0,oe 14 10 1,ov 5 13,ov 6 14] (.seq (sr [ov 15 6,on 16 .neq 15 0,ov 17 16,og 18 (.mov (.t 5)) 17 false,og 19 (.lenSl (.t 18)) 17 false,og 20 (.bin .eql (.t 19) (nn 0)) 17 false,oo 21 (.pick (.t 17) (.c (.bool true)) (.t 20))] (.cond (.t 21) (sr [oo 22 (.build [(.int .i64 0),(.str []),(.str []),(.int .i64 0),(.int .i64 0),(.int .i64 0)] []),ov 23 6,ou (.store 6 (.t 2) (.t 22)),oo 3 (.mov (.c (.bool false))),ov 4 23] (.ret)) (.skip))) (sr [ov 24 5,oo 25 (.idxSl 2 (.t 24) (nn 0)),of 26 0 25,ol 27 26,oo 28 (.call 227 [.t 27]),ov 7 28] (sr [om 8 2] (.seq (sr [ov 29 7,oo 30 (.call 228 [.t 29])] (.cond (.t 30) (.region [om 8 4]) (.skip))) (.seq (sr [ov 31 7,on 32 .eql 31 0,ov 33 32,og 34 (.mov (.t 5)) 33 false,og 35 (.lenSl (.t 34)) 33 false,og 36 (.mov (.t 8)) 33 false,og 37 (.bin .neq (.t 35) (.t 36)) 33 false,oo 38 (.pick (.t 33) (.c (.bool true)) (.t 37)),ov 39 38,og 40 (.mov (.t 5)) 39 false,og 41 (.idxSl 2 (.t 40) (nn 1)) 39 false,og 42 (.fieldAddr 0 (.t 41)) 39 false,og 43 (.load none (.t 42)) 39 false,og 44 (.call 229 [.t 43]) 39 false,og 45 (.un .not (.t 44)) 39 false,oo 46 (.pick (.t 39) (.c (.bool true)) (.t 45)),ov 47 46,og 48 (.mov (.t 8)) 47 false,og 49 (.bin .eql (.t 48) (nn 4)) 47 false,og 50 (.mov (.t 49)) 47 false,og 51 (.mov (.t 5)) 50 true,og 52 (.idxSl 2 (.t 51) (nn 2)) 50 true,og 53 (.fieldAddr 0 (.t 52)) 50 true,og 54 (.load none (.t 53)) 50 true,og 55 (.call 229 [.t 54]) 50 true,og 56 (.un .not (.t 55)) 50 true,og 57 (.pick (.t 50) (.t 56) (.c (.bool false))) 47 false,oo 58 (.pick (.t 47) (.c (.bool true)) (.t 57))] (.cond (.t 58) (sr [oo 59 (.build [(.int .i64 0),(.str []),(.str []),(.int .i64 0),(.int .i64 0),(.int .i64 0)] []),ou (.store 6 (.t 2) (.t 59)),oo 3 (.mov (.c (.bool false))),om 4 5] (.ret)) (.skip))) (sr [ov 60 7,ov 61 5,oo 62 (.idxSl 2 (.t 61) (nn 1)),of 63 0 62,ol 64 63,oo 65 (.build [(.int .i64 0),(.str []),(.str []),(.int .i64 0),(.int .i64 0),(.int .i64 0)] [(0,1,(.t 60)),(1,1,(.t 64))]),oo 9 (.alloc [(.int .i64 0),(.str []),(.str []),(.int .i64 0),(.int .i64 0),(.int .i64 0)]),ou (.store 6 (.t 9) (.t 65))] (.seq (sr [ov 66 8,on 67 .eql 66 4] (.cond (.t 67) (.draw [ov 69 7,ov 70 5,oo 71 (.idxSl 2 (.t 70) (nn 1)),of 72 0 71,ol 73 72,ov 74 5,oo 75 (.idxSl 2 (.t 74) (nn 2)),of 76 0 75,ol 77 76,ov 78 5,oo 79 (.idxSl 2 (.t 78) (nn 3)),of 80 0 79,ol 81 80,oo 82 (.call 230 [.t 69,.t 73,.t 77,.t 81]),ov 68 82,oe 83 68 0,oe 84 68 1,ou (.store 6 (.t 9) (.t 83)),ov 6 84] []) (.skip))) (sr [os 85 6 9,ov 86 6,on 87 .eql 86 0,ov 88 6,ou (.store 6 (.t 2) (.t 85)),ov 3 87,ov 4 88] (.ret)))))))))),[.cell 2 (some 6),.t 3,.t 4]⟩
def F170:AF:=⟨sr [om 4 0,oo 5 (.mov (.c (.bool false)))] (.seq (sr [ov 7 0,oo 8 (.call 212 [.t 7]),oo 9 (.un .not (.t 8))] (.cond (.t 9) (sr [om 4 0,oo 5 (.mov (.c (.bool false)))] (.ret)) (.skip))) (sr [ov 10 0,ov 11 1,oo 12 (.call 233 [.t 10,.t 11]),ov 6 12] (sr [ov 13 6,oo 14 (.minmax true [(.t 13),(nn 0)]),ov 15 6,on 16 .geq 15 0,ov 4 14,ov 5 16] (.ret)))),[.t 4,.t 5]⟩
def F172:AF:=⟨sr [oo 2 (.mov (.c (.bool false)))] (sr [ov 6 0,oo 7 (.call 234 [.t 6]),ov 3 7] (.seq (sr [ov 8 3,oo 9 (.lenSl (.t 8)),on 10 .lss 9 1,ov 11 10,og 12 (.mov (.t 3)) 11 false,og 13 (.lenSl (.t 12)) 11 false,og 14 (.bin .gtr (.t 13) (nn 20)) 11 false,oo 15 (.pick (.t 11) (.c (.bool true)) (.t 14)),ov 16 15,og 17 (.mov (.t 0)) 16 false,og 18 (.call 235 [.t 17]) 16 false,oo 19 (.pick (.t 16) (.c (.bool true)) (.t 18)),ov 20 19,og 21 (.mov (.t 0)) 20 false,og 22 (.call 236 [.t 21]) 20 false,og 23 (.un .not (.t 22)) 20 false,oo 24 (.pick (.t 20) (.c (.bool true)) (.t 23)),ov 25 24,og 26 (.mov (.t 3)) 25 false,og 27 (.idxSl 1 (.t 26) (nn 0)) 25 false,og 28 (.load none (.t 27)) 25 false,og 29 (.bin .geq (.t 28) (nn 48)) 25 false,og 30 (.mov (.t 29)) 25 false,og 31 (.mov (.t 3)) 30 true,og 32 (.idxSl 1 (.t 31) (nn 0)) 30 true,og 33 (.load none (.t 32)) 30 true,og 34 (.bin .leq (.t 33) (nn 57)) 30 true,og 35 (.pick (.t 30) (.t 34) (.c (.bool false))) 25 false,oo 36 (.pick (.t 25) (.c (.bool true)) (.t 35))] (.cond (.t 36) (sr [oo 2 (.mov (.c (.bool false)))] (.ret)) (.skip))) (.seq (sr [om 4 0] (.block 0 (.loop (.seq (sr [ov 37 4,ov 38 3,oo 39 (.lenSl (.t 38)),ob 40 .lss 37 39] (.cond (.t 40) (.skip) (.exit 0))) (.seq (.block 1 (sr [ov 43 3,ov 44 4,ox 45 1 43 44,ol 46 45,ov 5 46] (sr [ov 47 5,on 48 .lss 47 128,ov 49 48,og 50 (.mov (.t 5)) 49 true,og 51 (.bin .neq (.t 50) (nn 95)) 49 true,oo 52 (.pick (.t 49) (.t 51) (.c (.bool false))),ov 53 52,og 54 (.mov (.t 5)) 53 true,og 55 (.bin .lss (.t 54) (nn 48)) 53 true,og 56 (.mov (.t 55)) 53 true,og 57 (.mov (.t 5)) 56 false,og 58 (.bin .gtr (.t 57) (nn 57)) 56 false,og 59 (.pick (.t 56) (.c (.bool true)) (.t 58)) 53 true,oo 60 (.pick (.t 53) (.t 59) (.c (.bool false))),ov 61 60,og 62 (.mov (.t 5)) 61 true,og 63 (.bin .lss (.t 62) (nn 65)) 61 true,og 64 (.mov (.t 63)) 61 true,og 65 (.mov (.t 5)) 64 false,og 66 (.bin .gtr (.t 65) (nn 90)) 64 false,og 67 (.pick (.t 64) (.c (.bool true)) (.t 66)) 61 true,oo 68 (.pick (.t 61) (.t 67) (.c (.bool false))),ov 69 68,og 70 (.mov (.t 5)) 69 true,og 71 (.bin .lss (.t 70) (nn 97)) 69 true,og 72 (.mov (.t 71)) 69 true,og 73 (.mov (.t 5)) 72 false,og 74 (.bin .gtr (.t 73) (nn 122)) 72 false,og 75 (.pick (.t 72) (.c (.bool true)) (.t 74)) 69 true,oo 76 (.pick (.t 69) (.t 75) (.c (.bool false)))] (.cond (.t 76) (sr [oo 2 (.mov (.c (.bool false)))] (.ret)) (.skip))))) (.region [ov 41 4,on 42 .add 41 1,ov 4 42])))))) (sr [oo 2 (.mov (.c (.bool true)))] (.ret))))),[.t 2]⟩
def F173:AF:=⟨sr [oo 4 (.mov (.c (.bool false)))] (sr [ov 8 0,oo 9 (.call 234 [.t 8]),ov 10 1,oo 11 (.call 234 [.t 10]),ov 5 9,ov 6 11] (.seq (sr [om 7 0] (.block 0 (.loop (.seq (sr [ov 12 7,ov 13 5,oo 14 (.lenSl (.t 13)),ob 15 .lss 12 14,ov 16 15,og 17 (.mov (.t 7)) 16 true,og 18 (.mov (.t 6)) 16 true,og 19 (.lenSl (.t 18)) 16 true,og 20 (.bin .lss (.t 17) (.t 19)) 16 true,oo 21 (.pick (.t 16) (.t 20) (.c (.bool false)))] (.cond (.t 21) (.skip) (.exit 0))) (.seq (.block 1 (.seq (.draw [ov 24 5,ov 25 7,ox 26 1 24 25,ol 27 26,ov 28 6,ov 29 7,ox 30 1 28 29,ol 31 30,ob 32 .neq 27 31] []) (.cond (.t 32) (.seq (.draw [ov 33 5,ov 34 7,ox 35 1 33 34,ol 36 35,ov 37 6,ov 38 7,ox 39 1 37 38,ol 40 39,ob 41 .lss 36 40,ov 4 41] []) (.ret)) (.skip)))) (.region [ov 22 7,on 23 .add 22 1,ov 7 23])))))) (sr [ov 42 5,oo 43 (.lenSl (.t 42)),ov 44 6,oo 45 (.lenSl (.t 44)),ob 46 .lss 43 45,ov 4 46] (.ret)))),[.t 4]⟩
def F174:AF:=⟨sr [oo 1 (.box 2 (.t 0)),oo 2 (.mov (.c (.bool false)))] (sr [of 3 0 1,ol 4 3,on 5 .eql 4 1,ov 6 5,og 7 (.fieldAddr 0 (.t 1)) 6 false,og 8 (.load none (.t 7)) 6 false,og 9 (.bin .eql (.t 8) (nn 0)) 6 false,og 10 (.mov (.t 9)) 6 false,og 11 (.fieldAddr 0 (.t 1)) 10 false,og 12 (.load none (.t 11)) 10 false,og 13 (.bin .eql (.t 12) (nn 2)) 10 false,og 14 (.pick (.t 10) (.c (.bool true)) (.t 13)) 6 false,og 15 (.mov (.t 14)) 6 false,og 16 (.fieldAddr 1 (.t 1)) 15 true,og 17 (.load none (.t 16)) 15 true,og 18 (.bin .eql (.t 17) (nn 0)) 15 true,og 19 (.pick (.t 15) (.t 18) (.c (.bool false))) 6 false,oo 20 (.pick (.t 6) (.c (.bool true)) (.t 19)),ov 2 20] (.ret)),[.t 2]⟩
def F175:AF:=⟨sr [oo 2 (.box 3 (.t 0)),oo 3 (.box 2 (.t 1)),oo 4 (.mov (.c (.bool false)))] (.seq (.draw [os 5 3 2,oo 6 (.call 58 [.t 5]),on 7 .eql 6 0,ov 8 7,og 9 (.fieldAddr 0 (.t 3)) 8 true,og 10 (.load none (.t 9)) 8 true,og 11 (.bin .geq (.t 10) (nn 0)) 8 true,oo 12 (.pick (.t 8) (.t 11) (.c (.bool false))),ov 13 12,og 14 (.fieldAddr 0 (.t 3)) 13 true,og 15 (.load none (.t 14)) 13 true,og 16 (.fieldAddr 2 (.t 2)) 13 true,og 17 (.load none (.t 16)) 13 true,og 18 (.lenSl (.t 17)) 13 true,og 19 (.bin .lss (.t 15) (.t 18)) 13 true,oo 20 (.pick (.t 13) (.t 19) (.c (.bool false))),ov 21 20,og 22 (.fieldAddr 1 (.t 3)) 21 true,og 23 (.load none (.t 22)) 21 true,og 24 (.bin .geq (.t 23) (nn 0)) 21 true,oo 25 (.pick (.t 21) (.t 24) (.c (.bool false))),ov 26 25,og 27 (.fieldAddr 1 (.t 3)) 26 true,og 28 (.load none (.t 27)) 26 true,og 29 (.fieldAddr 2 (.t 2)) 26 true,og 30 (.load none (.t 29)) 26 true,og 31 (.fieldAddr 0 (.t 3)) 26 true,og 32 (.load none (.t 31)) 26 true,og 33 (.idxSl 3 (.t 30) (.t 32)) 26 true,og 34 (.fieldAddr 2 (.t 33)) 26 true,og 35 (.load none (.t 34)) 26 true,og 36 (.lenSl (.t 35)) 26 true,og 37 (.bin .lss (.t 28) (.t 36)) 26 true,oo 38 (.pick (.t 26) (.t 37) (.c (.bool false))),ov 39 38,og 40 (.fieldAddr 2 (.t 2)) 39 true,og 41 (.load none (.t 40)) 39 true,og 42 (.fieldAddr 0 (.t 3)) 39 true,og 43 (.load none (.t 42)) 39 true,og 44 (.idxSl 3 (.t 41) (.t 43)) 39 true,og 45 (.fieldAddr 2 (.t 44)) 39 true,og 46 (.load none (.t 45)) 39 true,og 47 (.fieldAddr 1 (.t 3)) 39 true,og 48 (.load none (.t 47)) 39 true,og 49 (.idxSl 4 (.t 46) (.t 48)) 39 true,og 50 (.fieldAddr 0 (.t 49)) 39 true,og 51 (.load none (.t 50)) 39 true,og 52 (.un .not (.t 51)) 39 true,oo 53 (.pick (.t 39) (.t 52) (.c (.bool false))),ov 4 53] []) (.ret)),[.t 4]⟩
def F176:AF:=⟨sr [oo 2 (.box 3 (.t 0)),oo 4 (.mov (.c (.sl none true 0 [])))] (.seq (sr [os 5 3 2,oo 6 (.call 103 [.t 5]),on 7 .neq 6 0,ov 8 7,og 9 (.mov (.t 1)) 8 false,og 10 (.bin .lss (.t 9) (nn 0)) 8 false,oo 11 (.pick (.t 8) (.c (.bool true)) (.t 10)),ov 12 11,og 13 (.mov (.t 1)) 12 false,og 14 (.fieldAddr 2 (.t 2)) 12 false,og 15 (.load none (.t 14)) 12 false,og 16 (.lenSl (.t 15)) 12 false,og 17 (.bin .geq (.t 13) (.t 16)) 12 false,oo 18 (.pick (.t 12) (.c (.bool true)) (.t 17))] (.cond (.t 18) (sr [oo 4 (.mov (.c (.sl none true 0 [])))] (.ret)) (.skip))) (sr [of 19 2 2,ol 20 19,ov 21 1,ox 22 3 20 21,of 23 2 22,ol 24 23,ov 4 24] (.ret))),[.t 4]⟩
def F177:AF:=⟨sr [oo 3 (.box 1 (.t 1)),oo 4 (.alloc [(.int .i64 0),(.int .i64 0)]),oo 5 (.alloc [(.bool false)])] (.seq (sr [ov 8 0,oo 9 (.call 237 [.t 8])] (.block 0 (.rangeFunc (.t 9) [10,11] (.region [oo 7 (.alloc [(.bool false),(.int .i64 0),(.int .i64 0),(.int .i64 0)]),ou (.store 4 (.t 7) (.t 11))]) (.block 1 (sr [of 12 0 7,ol 13 12,ov 14 13,og 15 (.fieldAddr 1 (.t 7)) 14 true,og 16 (.load none (.t 15)) 14 true,og 17 (.load none (.t 3)) 14 true,og 18 (.bin .eql (.t 16) (.t 17)) 14 true,oo 19 (.pick (.t 14) (.t 18) (.c (.bool false)))] (.cond (.t 19) (sr [of 20 2 7,os 21 2 20,ou (.store 2 (.t 4) (.t 21)),ou (.store 1 (.t 5) (.c (.bool true)))] (.ret)) (.skip))))))) (sr [oo 22 (.build [(.int .i64 0),(.int .i64 0)] []),ou (.store 2 (.t 4) (.t 22)),ou (.store 1 (.t 5) (.c (.bool false)))] (.ret))),[.cell 4 (some 2),.cell 5 none]⟩
def F188:AF:=⟨sr [om 2 0] (.seq (sr [ov 3 0,oo 4 (.bin .geq (.t 3) (.c (.int .u64 4294967296)))] (.cond (.t 4) (sr [ov 5 0,oo 6 (.bin .shr (.t 5) (.c (.int .u64 32))),ov 0 6] (.region [om 2 32])) (.skip))) (.seq (sr [ov 7 0,oo 8 (.bin .geq (.t 7) (.c (.int .u64 65536)))] (.cond (.t 8) (sr [ov 9 0,oo 10 (.bin .shr (.t 9) (.c (.int .u64 16))),ov 0 10] (.region [ov 11 2,on 12 .add 11 16,ov 2 12])) (.skip))) (.seq (sr [ov 13 0,oo 14 (.bin .geq (.t 13) (.c (.int .u64 256)))] (.cond (.t 14) (sr [ov 15 0,oo 16 (.bin .shr (.t 15) (.c (.int .u64 8))),ov 0 16] (.region [ov 17 2,on 18 .add 17 8,ov 2 18])) (.skip))) (sr [ov 19 2,ov 20 0,oo 21 (.conv .u8 (.t 20)),oo 22 (.idxStr (.c (.str [0,1,2,2,3,3,3,3,4,4,4,4,4,4,4,4,5,5,5,5,5,5,5,5,5,5,5,5,5,5,5,5,6,6,6,6,6,6,6,6,6,6,6,6,6,6,6,6,6,6,6,6,6,6,6,6,6,6,6,6,6,6,6,6,7,7,7,7,7,7,7,7,7,7,7,7,7,7,7,7,7,7,7,7,7,7,7,7,7,7,7,7,7,7,7,7,7,7,7,7,7,7,7,7,7,7,7,7,7,7,7,7,7,7,7,7,7,7,7,7,7,7,7,7,7,7,7,7,8,8,8,8,8,8,8,8,8,8,8,8,8,8,8,8,8,8,8,8,8,8,8,8,8,8,8,8,8,8,8,8,8,8,8,8,8,8,8,8,8,8,8,8,8,8,8,8,8,8,8,8,8,8,8,8,8,8,8,8,8,8,8,8,8,8,8,8,8,8,8,8,8,8,8,8,8,8,8,8,8,8,8,8,8,8,8,8,8,8,8,8,8,8,8,8,8,8,8,8,8,8,8,8,8,8,8,8,8,8,8,8,8,8,8,8,8,8,8,8,8,8,8,8,8,8,8,8])) (.t 21)),oo 23 (.conv .i64 (.t 22)),ob 24 .add 19 23,ov 2 24] (.ret))))),[.t 2]⟩
def F212:AF:=⟨sr [oo 2 (.mov (.c (.bool false)))] (.seq (sr [ov 5 0,oo 6 (.lenSl (.t 5)),om 7 0] (.block 0 (.loop (sr [ob 8 .lss 7 6] (.seq (.cond (.t 8) (.skip) (.exit 0)) (.seq (.block 1 (sr [ov 9 7,ox 10 1 5 7,ol 11 10,ov 3 9,ov 4 11] (sr [ov 12 4,oo 13 (.call 229 [.t 12]),oo 14 (.un .not (.t 13)),ov 15 14,og 16 (.mov (.t 3)) 15 false,og 17 (.bin .gtr (.t 16) (nn 0)) 15 false,og 18 (.mov (.t 17)) 15 false,og 19 (.mov (.t 0)) 18 true,og 20 (.mov (.t 3)) 18 true,og 21 (.bin .sub (.t 20) (nn 1)) 18 true,og 22 (.idxSl 1 (.t 19) (.t 21)) 18 true,og 23 (.load none (.t 22)) 18 true,og 24 (.mov (.t 4)) 18 true,og 25 (.call 251 [.t 23,.t 24]) 18 true,og 26 (.un .not (.t 25)) 18 true,og 27 (.pick (.t 18) (.t 26) (.c (.bool false))) 15 false,oo 28 (.pick (.t 15) (.c (.bool true)) (.t 27))] (.cond (.t 28) (sr [oo 2 (.mov (.c (.bool false)))] (.ret)) (.skip))))) (.region [on 29 .add 7 1,ov 7 29]))))))) (sr [oo 2 (.mov (.c (.bool true)))] (.ret))),[.t 2]⟩
def F214:AF:=⟨sr [oo 4 (.mov (.c (.bool false)))] (sr [ov 5 0,on 6 .geq 5 0,ov 7 6,og 8 (.mov (.t 0)) 7 true,og 9 (.mov (.t 1)) 7 true,og 10 (.lenSl (.t 9)) 7 true,og 11 (.bin .lss (.t 8) (.t 10)) 7 true,oo 12 (.pick (.t 7) (.t 11) (.c (.bool false))),ov 4 12] (.ret)),[.t 4]⟩
def F216:AF:=⟨sr [oo 1 (.box 2 (.t 0)),oo 2 (.mov (.c (.bool false)))] (sr [os 6 2 1,oo 7 (.call 253 [.t 6]),oo 8 (.call 252 [.t 7]),ov 5 8,oe 9 5 0,oe 10 5 1,oo 3 (.alloc [(.int .i64 0),(.int .i64 0)]),ou (.store 2 (.t 3) (.t 9)),ov 4 10] (sr [ov 11 4,on 12 .eql 11 0,ov 13 12,og 14 (.load (some 2) (.t 3)) 13 true,og 15 (.load (some 2) (.t 1)) 13 true,og 16 (.eq false (.struct [.int,.int]) (.t 14) (.t 15)) 13 true,oo 17 (.pick (.t 13) (.t 16) (.c (.bool false))),ov 2 17] (.ret))),[.t 2]⟩
def F217:AF:=⟨sr [qq 2 (.box 3 (.t 0)),qq 3 (.box 2 (.t 1)),qq 4 (.mov (.c (.sl none true 0 [])))] (sr [qs 11 3 2,qs 12 2 3,qq 13 (.call 254 [.t 11,.t 12]),qv 10 13,qe 14 10 0,qe 15 10 1,qq 5 (.alloc [(.bool false),(.int .i64 0),(.int .i64 0),(.int .i64 0)]),qu (.store 4 (.t 5) (.t 14)),qv 6 15] (.seq (sr [qv 16 6,qq 17 (.un .not (.t 16))] (.cond (.t 17) (sr [qq 4 (.mov (.c (.sl none true 0 [])))] (.ret)) (.skip))) (sr [qq 7 (.mov (.c (.sl none true 0 [])))] (.seq (sr [qf 18 2 5,qf 19 0 18,ql 20 19,qn 21 .neq 20 1] (.cond (.t 21) (.region [qv 22 7,qq 23 (.buildSl true 1 [(.int .i64 0)] [(0,1,(nn (-1)))] 1),qq 24 (.append true 1 8 (.t 22) (.t 23)),qv 7 24]) (.skip))) (.seq (sr [qs 25 3 2,qf 26 0 3,ql 27 26,qf 28 1 5,ql 29 28,qq 30 (.call 255 [.t 25,.t 27,.t 29]),qq 31 (.range false (.t 30))] (.block 0 (.loop (sr [qq 32 (.nextMap (.t 31)),qe 33 32 0] (.seq (.cond (.t 33) (.skip) (.exit 0)) (.block 1 (sr [qq 34 (.entry (.t 31)),qe 35 34 0,qe 36 34 1,qq 9 (.alloc [(.int .i64 0),(.int .i64 0)]),qv 8 35,qu (.store 2 (.t 9) (.t 36))] (sr [qf 37 2 5,qf 38 0 37,ql 39 38,qn 40 .eql 39 2,qv 41 40,qg 42 (.load (some 2) (.t 9)) 41 false,qg 43 (.fieldAddr 2 (.t 5)) 41 false,qg 44 (.load (some 2) (.t 43)) 41 false,qg 45 (.eq false (.struct [.int,.int]) (.t 42) (.t 44)) 41 false,qq 46 (.pick (.t 41) (.c (.bool true)) (.t 45))] (.cond (.t 46) (.region [qv 47 7,qv 48 8,qq 49 (.buildSl true 1 [(.int .i64 0)] [(0,1,(.t 48))] 1),qq 50 (.append true 1 8 (.t 47) (.t 49)),qv 7 50]) (.skip)))))))))) (sr [qv 51 7,qq 52 (.call 69 [.t 51])] (sr [qv 53 7,qv 4 53] (.ret)))))))),[.t 4]⟩
def F223:AF:=⟨sr [oo 4 (.mov (.c (.sl none true 0 [])))] (sr [ov 5 0,ov 6 1,oo 7 (.call 258 [(.t 5),(.t 6),(nn 0),(nn (-1))]),ov 4 7] (.ret)),[.t 4]⟩
def F224:AF:=⟨sr [oo 4 (.mov (.c (.str [])))] (sr [ov 5 0,ov 6 1,oo 7 (.call 259 [.t 5,.t 6]),ov 4 7] (.ret)),[.t 4]⟩
def F225:AF:=⟨sr [om 2 0,oo 3 (.mov (.c (.bool false)))] (sr [om 4 0] (.seq (sr [ov 7 0,oo 8 (.range true (.t 7))] (.block 0 (.loop (sr [oo 9 (.nextStr (.t 8)),oe 10 9 0] (.seq (.cond (.t 10) (.skip) (.exit 0)) (.block 1 (sr [oe 11 9 1,oe 12 9 2,ov 5 11,ov 6 12] (.seq (sr [ov 13 6,oo 14 (.bin .eql (.t 13) (.c (.int .i32 65533))),ov 15 14,og 16 (.mov (.t 0)) 15 true,og 17 (.mov (.t 5)) 15 true,og 18 (.slStr (.t 16) (some (.t 17)) none) 15 true,og 19 (.call 260 [(.t 18),(.c (.str [239,191,189]))]) 15 true,og 20 (.un .not (.t 19)) 15 true,oo 21 (.pick (.t 15) (.t 20) (.c (.bool false)))] (.cond (.t 21) (sr [om 2 0,oo 3 (.mov (.c (.bool false)))] (.ret)) (.skip))) (.region [ov 22 4,on 23 .add 22 1,ov 4 23]))))))))) (sr [ov 24 4,ov 2 24,oo 3 (.mov (.c (.bool true)))] (.ret)))),[.t 2,.t 3]⟩
def F226:AF:=⟨sr [oo 2 (.mov (.c (.sl none true 0 []))),om 3 0] (.seq (sr [ov 13 0,oo 14 (.call 225 [.t 13]),ov 12 14,oe 15 12 0,oe 16 12 1,ov 4 15,ov 5 16] (sr [ov 17 5,oo 18 (.un .not (.t 17)),ov 19 18,og 20 (.mov (.t 0)) 19 false,og 21 (.call 261 [(.t 20),(.c (.str [10]))]) 19 false,oo 22 (.pick (.t 19) (.c (.bool true)) (.t 21))] (.cond (.t 22) (sr [oo 2 (.mov (.c (.sl none true 0 []))),om 3 5] (.ret)) (.skip)))) (sr [ov 24 0,oo 25 (.call 262 [(.t 24),(.c (.str [35]))]),ov 23 25,oe 26 23 0,oe 27 23 1,oe 28 23 2,ov 0 26] (sr [oo 6 (.mov (.c (.sl none true 0 [])))] (sr [oo 7 (.mov (nn (-1))),om 8 0,om 9 0] (.seq (sr [ov 29 0,oo 30 (.range true (.t 29))] (.block 0 (.loop (sr [oo 31 (.nextStr (.t 30)),oe 32 31 0] (.seq (.cond (.t 32) (.skip) (.exit 0)) (.block 1 (sr [oe 33 31 1,oe 34 31 2,ov 10 33,ov 11 34] (sr [ov 35 9,on 36 .add 35 1,ov 9 36] (.block 2 (sr [ov 38 11,oo 39 (.call 263 [.t 38]),oo 40 (.un .not (.t 39)),ov 41 40,og 42 (.mov (.t 7)) 41 true,og 43 (.bin .lss (.t 42) (nn 0)) 41 true,oo 44 (.pick (.t 41) (.t 43) (.c (.bool false))),ov 37 44] (.cond (.t 37) (.region [ov 45 10,ov 46 9,ov 7 45,ov 8 46]) (sr [ov 48 11,oo 49 (.call 263 [.t 48]),ov 50 49,og 51 (.mov (.t 7)) 50 true,og 52 (.bin .geq (.t 51) (nn 0)) 50 true,oo 53 (.pick (.t 50) (.t 52) (.c (.bool false))),ov 47 53] (.cond (.t 47) (sr [ov 54 6,ov 55 0,ov 56 7,ov 57 10,oo 58 (.slStr (.t 55) (some (.t 56)) (some (.t 57))),ov 59 8,oo 60 (.build [(.str []),(.int .i64 0)] [(0,1,(.t 58)),(1,1,(.t 59))]),oo 61 (.buildSl false 2 [(.str []),(.int .i64 0)] [(0,2,(.t 60))] 1),oo 62 (.append false 2 24 (.t 54) (.t 61)),ov 6 62] (.region [oo 7 (.mov (nn (-1)))])) (.skip)))))))))))))) (.seq (sr [ov 63 7,on 64 .geq 63 0] (.cond (.t 64) (.region [ov 65 6,ov 66 0,ov 67 7,oo 68 (.slStr (.t 66) (some (.t 67)) none),ov 69 8,oo 70 (.build [(.str []),(.int .i64 0)] [(0,1,(.t 68)),(1,1,(.t 69))]),oo 71 (.buildSl false 2 [(.str []),(.int .i64 0)] [(0,2,(.t 70))] 1),oo 72 (.append false 2 24 (.t 65) (.t 71)),ov 6 72]) (.skip))) (sr [ov 73 6,ov 2 73,om 3 0] (.ret)))))))),[.t 2,.t 3]⟩
def F227:AF:=⟨sr [om 2 0] (.seq (sr [oo 5 (.load (some 7) (.g 1)),om 6 0] (.block 0 (.loop (sr [on 7 .lss 6 7] (.seq (.cond (.t 7) (.skip) (.exit 0)) (.seq (.block 1 (sr [ov 8 6,oo 9 (.idxVal none 7 1 (.t 5) (.t 6)),ov 3 8,ov 4 9] (sr [ov 10 3,on 11 .gtr 10 0,ov 12 11,og 13 (.mov (.t 4)) 12 true,og 14 (.mov (.t 0)) 12 true,og 15 (.bin .eql (.t 13) (.t 14)) 12 true,oo 16 (.pick (.t 12) (.t 15) (.c (.bool false)))] (.cond (.t 16) (sr [ov 17 3,ov 2 17] (.ret)) (.skip))))) (.region [on 18 .add 6 1,ov 6 18]))))))) (sr [om 2 0] (.ret))),[.t 2]⟩
def F228:AF:=⟨sr [oo 2 (.mov (.c (.bool false)))] (sr [ov 3 0,on 4 .eql 3 2,ov 5 4,og 6 (.mov (.t 0)) 5 false,og 7 (.bin .eql (.t 6) (nn 3)) 5 false,oo 8 (.pick (.t 5) (.c (.bool true)) (.t 7)),ov 2 8] (.ret)),[.t 2]⟩
def F229:AF:=⟨sr [oo 2 (.mov (.c (.bool false)))] (.seq (sr [ov 6 0,oo 7 (.call 264 [.t 6]),ov 8 7,og 9 (.mov (.t 0)) 8 false,og 10 (.call 265 [.t 9]) 8 false,og 11 (.un .not (.t 10)) 8 false,oo 12 (.pick (.t 8) (.c (.bool true)) (.t 11))] (.cond (.t 12) (sr [oo 2 (.mov (.c (.bool false)))] (.ret)) (.skip))) (sr [om 3 0] (.seq (sr [ov 13 0,oo 14 (.range true (.t 13))] (.block 0 (.loop (sr [oo 15 (.nextStr (.t 14)),oe 16 15 0] (.seq (.cond (.t 16) (.skip) (.exit 0)) (.block 1 (sr [oe 17 15 2,ov 5 17] (.seq (sr [ov 18 5,oo 19 (.call 266 [.t 18]),oo 20 (.un .not (.t 19)),ov 21 20,og 22 (.mov (.t 3)) 21 false,og 23 (.bin .eql (.t 22) (nn 0)) 21 false,og 24 (.mov (.t 23)) 21 false,og 25 (.mov (.t 5)) 24 true,og 26 (.call 267 [.t 25]) 24 true,og 27 (.pick (.t 24) (.t 26) (.c (.bool false))) 21 false,oo 28 (.pick (.t 21) (.c (.bool true)) (.t 27))] (.cond (.t 28) (sr [oo 2 (.mov (.c (.bool false)))] (.ret)) (.skip))) (.region [ov 29 3,on 30 .add 29 1,ov 3 30]))))))))) (sr [ov 31 3,on 32 .gtr 31 0,ov 33 32,og 34 (.mov (.t 3)) 33 true,og 35 (.bin .leq (.t 34) (nn 20)) 33 true,oo 36 (.pick (.t 33) (.t 35) (.c (.bool false))),ov 2 36] (.ret))))),[.t 2]⟩
def F230:AF:=⟨sr [oo 8 (.alloc [(.int .i64 0),(.str []),(.str []),(.int .i64 0),(.int .i64 0),(.int .i64 0)]),om 9 0] (sr [ov 13 3,oo 14 (.call 268 [.t 13]),ov 12 14,oe 15 12 0,oe 16 12 1,oo 10 (.alloc [(.int .i64 0),(.int .i64 0)]),ou (.store 2 (.t 10) (.t 15)),ov 11 16] (.seq (.block 0 (sr [ov 18 11,on 19 .neq 18 0,ov 17 19] (.cond (.t 17) (sr [oo 20 (.build [(.int .i64 0),(.str []),(.str []),(.int .i64 0),(.int .i64 0),(.int .i64 0)] []),ov 21 11,ou (.store 6 (.t 8) (.t 20)),ov 9 21] (.ret)) (sr [ov 23 0,on 24 .eql 23 3,ov 25 24,og 26 (.fieldAddr 0 (.t 10)) 25 true,og 27 (.load none (.t 26)) 25 true,og 28 (.bin .eql (.t 27) (nn 0)) 25 true,oo 29 (.pick (.t 25) (.t 28) (.c (.bool false))),ov 22 29] (.cond (.t 22) (sr [oo 30 (.build [(.int .i64 0),(.str []),(.str []),(.int .i64 0),(.int .i64 0),(.int .i64 0)] []),ou (.store 6 (.t 8) (.t 30)),om 9 11] (.ret)) (sr [ov 32 0,on 33 .eql 32 3,ov 34 33,og 35 (.fieldAddr 0 (.t 10)) 34 true,og 36 (.load none (.t 35)) 34 true,og 37 (.bin .eql (.t 36) (nn 2)) 34 true,oo 38 (.pick (.t 34) (.t 37) (.c (.bool false))),ov 31 38] (.cond (.t 31) (sr [oo 39 (.build [(.int .i64 0),(.str []),(.str []),(.int .i64 0),(.int .i64 0),(.int .i64 0)] []),ou (.store 6 (.t 8) (.t 39)),om 9 5] (.ret)) (.skip)))))))) (sr [ov 40 0,ov 41 1,ov 42 2,os 43 2 10,oo 44 (.build [(.int .i64 0),(.str []),(.str []),(.int .i64 0),(.int .i64 0),(.int .i64 0)] [(0,1,(.t 40)),(1,1,(.t 41)),(2,1,(.t 42)),(3,2,(.t 43))]),ov 45 11,ou (.store 6 (.t 8) (.t 44)),ov 9 45] (.ret)))),[.cell 8 (some 6),.t 9]⟩
def F233:AF:=⟨sr [om 4 0] (.seq (sr [ov 6 0,oo 7 (.lenSl (.t 6)),om 8 0] (.block 0 (.loop (sr [ob 9 .lss 8 7] (.seq (.cond (.t 9) (.skip) (.exit 0)) (.seq (.block 1 (sr [ov 10 8,ov 5 10] (sr [ov 11 1,ov 12 0,ov 13 5,ox 14 1 12 13,ol 15 14,ob 16 .eql 11 15] (.cond (.t 16) (sr [ov 17 5,ov 4 17] (.ret)) (.skip))))) (.region [on 18 .add 8 1,ov 8 18]))))))) (sr [oo 4 (.mov (nn (-1)))] (.ret))),[.t 4]⟩
def F234:AF:=⟨sr [oo 2 (.mov (.c (.sl none true 0 [])))] (sr [oo 7 (.buildSl false 1 [] [] 0),ov 3 7] (.seq (sr [om 4 0] (.block 0 (.loop (.seq (sr [ov 8 4,ov 9 0,oo 10 (.lenStr (.t 9)),ob 11 .lss 8 10] (.cond (.t 11) (.skip) (.exit 0))) (.block 1 (sr [ov 13 0,ov 14 4,oo 15 (.call 273 [.t 13,.t 14]),ov 12 15,oe 16 12 0,oe 17 12 1,ov 5 16,ov 6 17] (sr [ov 18 3,ov 19 6,oo 20 (.buildSl false 1 [(.int .i64 0)] [(0,1,(.t 19))] 1),oo 21 (.append false 1 8 (.t 18) (.t 20)),ov 3 21] (.region [ov 22 4,ov 23 5,ob 24 .add 22 23,ov 4 24])))))))) (sr [ov 25 3,ov 2 25] (.ret)))),[.t 2]⟩
def F235:AF:=⟨sr [oo 2 (.mov (.c (.bool false)))] (sr [ov 3 0,oo 4 (.bin .eql (.t 3) (.c (.str [98,101,103,105,110]))),ov 5 4,og 6 (.mov (.t 0)) 5 false,og 7 (.bin .eql (.t 6) (.c (.str [114,101,97,100]))) 5 false,oo 8 (.pick (.t 5) (.c (.bool true)) (.t 7)),ov 9 8,og 10 (.mov (.t 0)) 9 false,og 11 (.bin .eql (.t 10) (.c (.str [119,114,105,116,101]))) 9 false,oo 12 (.pick (.t 9) (.c (.bool true)) (.t 11)),ov 13 12,og 14 (.mov (.t 0)) 13 false,og 15 (.bin .eql (.t 14) (.c (.str [111,107]))) 13 false,oo 16 (.pick (.t 13) (.c (.bool true)) (.t 15)),ov 17 16,og 18 (.mov (.t 0)) 17 false,og 19 (.bin .eql (.t 18) (.c (.str [102,97,105,108]))) 17 false,oo 20 (.pick (.t 17) (.c (.bool true)) (.t 19)),ov 21 20,og 22 (.mov (.t 0)) 21 false,og 23 (.bin .eql (.t 22) (.c (.str [105,110,102,111]))) 21 false,oo 24 (.pick (.t 21) (.c (.bool true)) (.t 23)),ov 25 24,og 26 (.mov (.t 0)) 25 false,og 27 (.bin .eql (.t 26) (.c (.str [110,105,108]))) 25 false,oo 28 (.pick (.t 25) (.c (.bool true)) (.t 27)),ov 2 28] (.ret)),[.t 2]⟩
def F236:AF:=⟨sr [oo 2 (.mov (.c (.bool false)))] (.seq (sr [om 3 0] (.block 0 (.loop (.seq (sr [ov 6 3,ov 7 0,oo 8 (.lenStr (.t 7)),ob 9 .lss 6 8] (.cond (.t 9) (.skip) (.exit 0))) (.block 1 (sr [ov 11 0,ov 12 3,oo 13 (.call 273 [.t 11,.t 12]),ov 10 13,oe 14 10 0,oe 15 10 1,ov 4 14,ov 5 15] (.seq (sr [ov 16 5,on 17 .eql 16 65533,ov 18 17,og 19 (.mov (.t 4)) 18 true,og 20 (.bin .neq (.t 19) (nn 3)) 18 true,oo 21 (.pick (.t 18) (.t 20) (.c (.bool false)))] (.cond (.t 21) (sr [oo 2 (.mov (.c (.bool false)))] (.ret)) (.skip))) (.region [ov 22 3,ov 23 4,ob 24 .add 22 23,ov 3 24])))))))) (sr [oo 2 (.mov (.c (.bool true)))] (.ret))),[.t 2]⟩
def F251:AF:=⟨sr [oo 4 (.mov (.c (.bool false)))] (sr [ov 5 0,ov 6 1,oo 7 (.call 280 [.t 5,.t 6]),on 8 .lss 7 0,ov 4 8] (.ret)),[.t 4]⟩
def F252:AF:=⟨sr [oo 1 (.box 1 (.t 0)),oo 2 (.alloc [(.int .i64 0),(.int .i64 0)]),om 3 0] (.seq (sr [of 7 0 1,ol 8 7] (.block 0 (sr [oo 9 (.eq false .iface (.t 8) (.c .nilif))] (.cond (.t 9) (sr [ov 4 8] (sr [oo 10 (.build [(.int .i64 0),(.int .i64 0)] []),ou (.store 2 (.t 2) (.t 10)),om 3 0] (.ret))) (sr [oo 11 (.assert 2 (.int .i64 0) true (.t 8)),oe 12 11 1,oe 13 11 0] (.cond (.t 12) (sr [ov 5 13] (sr [ov 14 5,oo 15 (.build [(.int .i64 0),(.int .i64 0)] [(0,1,(nn 1)),(1,1,(.t 14))]),ou (.store 2 (.t 2) (.t 15)),om 3 0] (.ret))) (sr [oo 16 (.assert 316 (.agg []) true (.t 8)),oe 17 16 1,oe 18 16 0] (.cond (.t 17) (sr [oo 6 (.alloc []),ou (.store 0 (.t 6) (.t 18))] (sr [oo 19 (.build [(.int .i64 0),(.int .i64 0)] [(0,1,(nn 2))]),ou (.store 2 (.t 2) (.t 19)),om 3 0] (.ret))) (.skip))))))))) (sr [oo 20 (.build [(.int .i64 0),(.int .i64 0)] []),ou (.store 2 (.t 2) (.t 20)),om 3 15] (.ret))),[.cell 2 (some 2),.t 3]⟩
def F253:AF:=⟨sr [oo 1 (.box 2 (.t 0)),oo 2 (.alloc [.nilif])] (.seq (sr [of 3 0 1,ol 4 3] (.block 0 (sr [on 6 .eql 4 1,ov 5 6] (.cond (.t 5) (sr [of 7 1 1,ol 8 7,oo 9 (.iface 2 (.t 8)),oo 10 (.build [.nilif] [(0,1,(.t 9))]),ou (.store 1 (.t 2) (.t 10))] (.ret)) (sr [on 12 .eql 4 2,ov 11 12] (.cond (.t 11) (sr [oo 13 (.build [] []),oo 14 (.iface 316 (.t 13)),oo 15 (.build [.nilif] [(0,1,(.t 14))]),ou (.store 1 (.t 2) (.t 15))] (.ret)) (.skip))))))) (sr [oo 16 (.build [.nilif] []),ou (.store 1 (.t 2) (.t 16))] (.ret))),[.cell 2 (some 1)]⟩
def F254:AF:=⟨sr [oo 2 (.box 3 (.t 0)),oo 3 (.box 2 (.t 1)),oo 4 (.alloc [(.bool false),(.int .i64 0),(.int .i64 0),(.int .i64 0)]),oo 5 (.mov (.c (.bool false)))] (.seq (.seq (.draw [os 7 3 2,oo 8 (.call 103 [.t 7]),on 9 .neq 8 0,ov 10 9,og 11 (.fieldAddr 0 (.t 3)) 10 false,og 12 (.load none (.t 11)) 10 false,og 13 (.bin .lss (.t 12) (nn 0)) 10 false,oo 14 (.pick (.t 10) (.c (.bool true)) (.t 13)),ov 15 14,og 16 (.fieldAddr 0 (.t 3)) 15 false,og 17 (.load none (.t 16)) 15 false,og 18 (.fieldAddr 2 (.t 2)) 15 false,og 19 (.load none (.t 18)) 15 false,og 20 (.lenSl (.t 19)) 15 false,og 21 (.bin .geq (.t 17) (.t 20)) 15 false,oo 22 (.pick (.t 15) (.c (.bool true)) (.t 21)),ov 23 22,og 24 (.fieldAddr 1 (.t 3)) 23 false,og 25 (.load none (.t 24)) 23 false,og 26 (.bin .lss (.t 25) (nn 0)) 23 false,oo 27 (.pick (.t 23) (.c (.bool true)) (.t 26)),ov 28 27,og 29 (.fieldAddr 1 (.t 3)) 28 false,og 30 (.load none (.t 29)) 28 false,og 31 (.fieldAddr 2 (.t 2)) 28 false,og 32 (.load none (.t 31)) 28 false,og 33 (.fieldAddr 0 (.t 3)) 28 false,og 34 (.load none (.t 33)) 28 false,og 35 (.idxSl 3 (.t 32) (.t 34)) 28 false,og 36 (.fieldAddr 2 (.t 35)) 28 false,og 37 (.load none (.t 36)) 28 false,og 38 (.lenSl (.t 37)) 28 false,og 39 (.bin .geq (.t 30) (.t 38)) 28 false,oo 40 (.pick (.t 28) (.c (.bool true)) (.t 39))] []) (.cond (.t 40) (sr [oo 41 (.build [(.bool false),(.int .i64 0),(.int .i64 0),(.int .i64 0)] []),ou (.store 4 (.t 4) (.t 41)),oo 5 (.mov (.c (.bool false)))] (.ret)) (.skip))) (.seq (.draw [of 42 2 2,ol 43 42,of 44 0 3,ol 45 44,ox 46 3 43 45,of 47 2 46,ol 48 47,of 49 1 3,ol 50 49,ox 51 4 48 50,os 52 4 51,oo 6 (.alloc [(.bool false),(.int .i64 0),(.int .i64 0),(.int .i64 0)]),ou (.store 4 (.t 6) (.t 52))] [(1,11),(3,11),(6,11),(8,11),(10,11)]) (.seq (.draw [os 53 4 6,of 54 0 6,ol 55 54,oo 56 (.un .not (.t 55)),ou (.store 4 (.t 4) (.t 53)),ov 5 56] [(2,4)]) (.ret)))),[.cell 4 (some 4),.t 5]⟩
def F258:AF:=⟨sr [oo 8 (.mov (.c (.sl none true 0 [])))] (.seq (sr [ov 12 3,on 13 .eql 12 0] (.cond (.t 13) (sr [oo 8 (.mov (.c (.sl none true 0 [])))] (.ret)) (.skip))) (.seq (sr [ov 14 1,oo 15 (.bin .eql (.t 14) (.c (.str [])))] (.cond (.t 15) (sr [ov 16 0,ov 17 3,oo 18 (.call 283 [.t 16,.t 17]),ov 8 18] (.ret)) (.skip))) (.seq (sr [ov 19 3,on 20 .lss 19 0] (.cond (.t 20) (.region [ov 21 0,ov 22 1,oo 23 (.call 284 [.t 21,.t 22]),on 24 .add 23 1,ov 3 24]) (.skip))) (sr [ov 25 3,ov 26 0,oo 27 (.lenStr (.t 26)),on 28 .add 27 1,oo 29 (.minmax false [.t 25,.t 28]),ov 3 29] (sr [ov 30 3,oo 31 (.mkSl false 1 16 [(.str [])] (.t 30) (.t 30)),ov 9 31] (sr [ov 32 3,on 33 .sub 32 1,ov 3 33] (sr [om 10 0] (.seq (.block 0 (.loop (.seq (sr [ov 34 10,ov 35 3,ob 36 .lss 34 35] (.cond (.t 36) (.skip) (.exit 0))) (.block 1 (sr [ov 37 0,ov 38 1,oo 39 (.call 285 [.t 37,.t 38]),ov 11 39] (.seq (sr [ov 40 11,on 41 .lss 40 0] (.cond (.t 41) (.exit 0) (.skip))) (sr [ov 42 9,ov 43 10,ov 44 0,ov 45 11,ov 46 2,ob 47 .add 45 46,oo 48 (.slStr (.t 44) none (some (.t 47))),ox 49 1 42 43,ou (.store 1 (.t 49) (.t 48))] (sr [ov 50 0,ov 51 11,ov 52 1,oo 53 (.lenStr (.t 52)),ob 54 .add 51 53,oo 55 (.slStr (.t 50) (some (.t 54)) none),ov 0 55] (.region [ov 56 10,on 57 .add 56 1,ov 10 57]))))))))) (sr [ov 58 9,ov 59 10,ov 60 0,ox 61 1 58 59,ou (.store 1 (.t 61) (.t 60))] (sr [ov 62 9,ov 63 10,on 64 .add 63 1,oo 65 (.slSl 1 (.t 62) none (some (.t 64))),ov 8 65] (.ret))))))))))),[.t 8]⟩
def F259:AF:=⟨sr [oo 4 (.mov (.c (.str [])))] (.seq (sr [ov 5 0,ov 6 1,oo 7 (.call 286 [.t 5,.t 6])] (.cond (.t 7) (sr [ov 8 0,ov 9 0,oo 10 (.lenStr (.t 9)),ov 11 1,oo 12 (.lenStr (.t 11)),ob 13 .sub 10 12,oo 14 (.slStr (.t 8) none (some (.t 13))),ov 4 14] (.ret)) (.skip))) (sr [ov 15 0,ov 4 15] (.ret))),[.t 4]⟩
def F261:AF:=⟨sr [oo 4 (.mov (.c (.bool false)))] (sr [ov 5 0,ov 6 1,oo 7 (.call 285 [.t 5,.t 6]),on 8 .geq 7 0,ov 4 8] (.ret)),[.t 4]⟩
def F262:AF:=⟨sr [oo 4 (.mov (.c (.str []))),oo 5 (.mov (.c (.str []))),oo 6 (.mov (.c (.bool false)))] (sr [ov 7 0,ov 8 1,oo 9 (.call 288 [.t 7,.t 8]),oe 10 9 0,oe 11 9 1,oe 12 9 2,ov 4 10,ov 5 11,ov 6 12] (.ret)),[.t 4,.t 5,.t 6]⟩
def F263:AF:=⟨sr [oo 2 (.mov (.c (.bool false)))] (sr [ov 3 0,oo 4 (.bin .eql (.t 3) (.c (.int .i32 32))),ov 5 4,og 6 (.mov (.t 0)) 5 false,og 7 (.bin .eql (.t 6) (.c (.int .i32 9))) 5 false,oo 8 (.pick (.t 5) (.c (.bool true)) (.t 7)),ov 9 8,og 10 (.mov (.t 0)) 9 false,og 11 (.bin .eql (.t 10) (.c (.int .i32 13))) 9 false,oo 12 (.pick (.t 9) (.c (.bool true)) (.t 11)),ov 2 12] (.ret)),[.t 2]⟩
def F264:AF:=⟨sr [oo 2 (.mov (.c (.bool false)))] (.seq (sr [ov 3 0] (.block 0 (.seq (sr [oo 5 (.bin .eql (.t 3) (.c (.str [98,101,103,105,110]))),ov 4 5] (.cond (.t 4) (.skip) (sr [oo 6 (.bin .eql (.t 3) (.c (.str [114,101,97,100]))),ov 4 6] (.cond (.t 4) (.skip) (sr [oo 7 (.bin .eql (.t 3) (.c (.str [119,114,105,116,101]))),ov 4 7] (.cond (.t 4) (.skip) (sr [oo 8 (.bin .eql (.t 3) (.c (.str [111,107]))),ov 4 8] (.cond (.t 4) (.skip) (sr [oo 9 (.bin .eql (.t 3) (.c (.str [102,97,105,108]))),ov 4 9] (.cond (.t 4) (.skip) (sr [oo 10 (.bin .eql (.t 3) (.c (.str [105,110,102,111]))),ov 4 10] (.cond (.t 4) (.skip) (.region [oo 11 (.bin .eql (.t 3) (.c (.str [110,105,108]))),ov 4 11]))))))))))))) (.cond (.t 4) (sr [oo 2 (.mov (.c (.bool true)))] (.ret)) (.skip))))) (sr [oo 2 (.mov (.c (.bool false)))] (.ret))),[.t 2]⟩
def F265:AF:=⟨sr [oo 2 (.mov (.c (.bool false)))] (.seq (.block 0 (.loop (.seq (sr [ov 7 0,oo 8 (.lenStr (.t 7)),on 9 .gtr 8 0] (.cond (.t 9) (.skip) (.exit 0))) (.block 1 (sr [ov 10 0,oo 11 (.idxStr (.t 10) (nn 0)),ov 3 11] (.seq (sr [ov 12 3,oo 13 (.bin .lss (.t 12) (.c (.int .u8 128)))] (.cond (.t 13) (sr [ov 14 0,oo 15 (.slStr (.t 14) (some (nn 1)) none),ov 0 15] (.seq (sr [ov 16 0,oo 17 (.lenStr (.t 16)),on 18 .gtr 17 8,ov 19 18,og 20 (.mov (.t 0)) 19 true,og 21 (.call 289 [.t 20]) 19 true,og 22 (.bin .and (.t 21) (.c (.int .u64 9259542123273814144))) 19 true,og 23 (.bin .eql (.t 22) (.c (.int .u64 0))) 19 true,oo 24 (.pick (.t 19) (.t 23) (.c (.bool false)))] (.cond (.t 24) (sr [ov 25 0,oo 26 (.slStr (.t 25) (some (nn 8)) none),ov 0 26] (.seq (.draw [ov 27 0,oo 28 (.lenStr (.t 27)),on 29 .gtr 28 16,ov 30 29,og 31 (.mov (.t 0)) 30 true,og 32 (.call 289 [.t 31]) 30 true,og 33 (.mov (.t 0)) 30 true,og 34 (.slStr (.t 33) (some (nn 8)) none) 30 true,og 35 (.call 289 [.t 34]) 30 true,og 36 (.bin .or (.t 32) (.t 35)) 30 true,og 37 (.bin .and (.t 36) (.c (.int .u64 9259542123273814144))) 30 true,og 38 (.bin .eql (.t 37) (.c (.int .u64 0))) 30 true,oo 39 (.pick (.t 30) (.t 38) (.c (.bool false)))] []) (.cond (.t 39) (sr [ov 40 0,oo 41 (.slStr (.t 40) (some (nn 16)) none),ov 0 41] (.block 2 (.loop (.seq (.seq (.draw [ov 42 0,oo 43 (.lenStr (.t 42)),on 44 .gtr 43 32,ov 45 44,og 46 (.mov (.t 0)) 45 true,og 47 (.call 289 [.t 46]) 45 true,og 48 (.mov (.t 0)) 45 true,og 49 (.slStr (.t 48) (some (nn 8)) none) 45 true,og 50 (.call 289 [.t 49]) 45 true,og 51 (.bin .or (.t 47) (.t 50)) 45 true,og 52 (.mov (.t 0)) 45 true,og 53 (.slStr (.t 52) (some (nn 16)) none) 45 true,og 54 (.call 289 [.t 53]) 45 true,og 55 (.mov (.t 0)) 45 true,og 56 (.slStr (.t 55) (some (nn 24)) none) 45 true,og 57 (.call 289 [.t 56]) 45 true,og 58 (.bin .or (.t 54) (.t 57)) 45 true,og 59 (.bin .or (.t 51) (.t 58)) 45 true,og 60 (.bin .and (.t 59) (.c (.int .u64 9259542123273814144))) 45 true,og 61 (.bin .eql (.t 60) (.c (.int .u64 0))) 45 true,oo 62 (.pick (.t 45) (.t 61) (.c (.bool false)))] []) (.cond (.t 62) (.skip) (.exit 2))) (.block 3 (.region [ov 63 0,oo 64 (.slStr (.t 63) (some (nn 32)) none),ov 0 64])))))) (.skip)))) (.skip))) (.exit 1))) (.skip))) (sr [ov 65 3,oo 66 (.idxArr 256 1 (.g 2) (.t 65)),ol 67 66,ov 4 67] (sr [ov 68 4,oo 69 (.bin .and (.t 68) (.c (.int .u8 7))),oo 70 (.conv .i64 (.t 69)),ov 5 70] (sr [ov 71 4,oo 72 (.bin .shr (.t 71) (.c (.int .u64 4))),oo 73 (.idxArr 16 2 (.g 3) (.t 72)),os 74 2 73,oo 6 (.alloc [(.int .u8 0),(.int .u8 0)]),ou (.store 2 (.t 6) (.t 74))] (sr [ov 75 5] (.block 4 (sr [on 77 .eql 75 2,ov 76 77] (.cond (.t 76) (.seq (.seq (.draw [ov 78 0,oo 79 (.lenStr (.t 78)),on 80 .lss 79 2,ov 81 80,og 82 (.mov (.t 0)) 81 false,og 83 (.idxStr (.t 82) (nn 1)) 81 false,og 84 (.fieldAddr 0 (.t 6)) 81 false,og 85 (.load none (.t 84)) 81 false,og 86 (.bin .lss (.t 83) (.t 85)) 81 false,oo 87 (.pick (.t 81) (.c (.bool true)) (.t 86)),ov 88 87,og 89 (.fieldAddr 1 (.t 6)) 88 false,og 90 (.load none (.t 89)) 88 false,og 91 (.mov (.t 0)) 88 false,og 92 (.idxStr (.t 91) (nn 1)) 88 false,og 93 (.bin .lss (.t 90) (.t 92)) 88 false,oo 94 (.pick (.t 88) (.c (.bool true)) (.t 93))] []) (.cond (.t 94) (sr [oo 2 (.mov (.c (.bool false)))] (.ret)) (.skip))) (.region [ov 95 0,oo 96 (.slStr (.t 95) (some (nn 2)) none),ov 0 96])) (sr [on 98 .eql 75 3,ov 97 98] (.cond (.t 97) (.seq (.seq (.draw [ov 99 0,oo 100 (.lenStr (.t 99)),on 101 .lss 100 3,ov 102 101,og 103 (.mov (.t 0)) 102 false,og 104 (.idxStr (.t 103) (nn 1)) 102 false,og 105 (.fieldAddr 0 (.t 6)) 102 false,og 106 (.load none (.t 105)) 102 false,og 107 (.bin .lss (.t 104) (.t 106)) 102 false,oo 108 (.pick (.t 102) (.c (.bool true)) (.t 107)),ov 109 108,og 110 (.fieldAddr 1 (.t 6)) 109 false,og 111 (.load none (.t 110)) 109 false,og 112 (.mov (.t 0)) 109 false,og 113 (.idxStr (.t 112) (nn 1)) 109 false,og 114 (.bin .lss (.t 111) (.t 113)) 109 false,oo 115 (.pick (.t 109) (.c (.bool true)) (.t 114)),ov 116 115,og 117 (.mov (.t 0)) 116 false,og 118 (.idxStr (.t 117) (nn 2)) 116 false,og 119 (.bin .lss (.t 118) (.c (.int .u8 128))) 116 false,oo 120 (.pick (.t 116) (.c (.bool true)) (.t 119)),ov 121 120,og 122 (.mov (.t 0)) 121 false,og 123 (.idxStr (.t 122) (nn 2)) 121 false,og 124 (.bin .lss (.c (.int .u8 191)) (.t 123)) 121 false,oo 125 (.pick (.t 121) (.c (.bool true)) (.t 124))] []) (.cond (.t 125) (sr [oo 2 (.mov (.c (.bool false)))] (.ret)) (.skip))) (.region [ov 126 0,oo 127 (.slStr (.t 126) (some (nn 3)) none),ov 0 127])) (sr [on 129 .eql 75 4,ov 128 129] (.cond (.t 128) (.seq (.seq (.draw [ov 130 0,oo 131 (.lenStr (.t 130)),on 132 .lss 131 4,ov 133 132,og 134 (.mov (.t 0)) 133 false,og 135 (.idxStr (.t 134) (nn 1)) 133 false,og 136 (.fieldAddr 0 (.t 6)) 133 false,og 137 (.load none (.t 136)) 133 false,og 138 (.bin .lss (.t 135) (.t 137)) 133 false,oo 139 (.pick (.t 133) (.c (.bool true)) (.t 138)),ov 140 139,og 141 (.fieldAddr 1 (.t 6)) 140 false,og 142 (.load none (.t 141)) 140 false,og 143 (.mov (.t 0)) 140 false,og 144 (.idxStr (.t 143) (nn 1)) 140 false,og 145 (.bin .lss (.t 142) (.t 144)) 140 false,oo 146 (.pick (.t 140) (.c (.bool true)) (.t 145)),ov 147 146,og 148 (.mov (.t 0)) 147 false,og 149 (.idxStr (.t 148) (nn 2)) 147 false,og 150 (.bin .lss (.t 149) (.c (.int .u8 128))) 147 false,oo 151 (.pick (.t 147) (.c (.bool true)) (.t 150)),ov 152 151,og 153 (.mov (.t 0)) 152 false,og 154 (.idxStr (.t 153) (nn 2)) 152 false,og 155 (.bin .lss (.c (.int .u8 191)) (.t 154)) 152 false,oo 156 (.pick (.t 152) (.c (.bool true)) (.t 155)),ov 157 156,og 158 (.mov (.t 0)) 157 false,og 159 (.idxStr (.t 158) (nn 3)) 157 false,og 160 (.bin .lss (.t 159) (.c (.int .u8 128))) 157 false,oo 161 (.pick (.t 157) (.c (.bool true)) (.t 160)),ov 162 161,og 163 (.mov (.t 0)) 162 false,og 164 (.idxStr (.t 163) (nn 3)) 162 false,og 165 (.bin .lss (.c (.int .u8 191)) (.t 164)) 162 false,oo 166 (.pick (.t 162) (.c (.bool true)) (.t 165))] []) (.cond (.t 166) (sr [oo 2 (.mov (.c (.bool false)))] (.ret)) (.skip))) (.region [ov 167 0,oo 168 (.slStr (.t 167) (some (nn 4)) none),ov 0 168])) (sr [oo 2 (.mov (.c (.bool false)))] (.ret))))))))))))))))))) (sr [oo 2 (.mov (.c (.bool true)))] (.ret))),[.t 2]⟩
def F266:AF:=⟨sr [oo 2 (.mov (.c (.bool false)))] (sr [ov 3 0,oo 4 (.bin .gtr (.t 3) (.c (.int .i32 127))),ov 5 4,og 6 (.mov (.t 0)) 5 false,og 7 (.bin .eql (.t 6) (.c (.int .i32 95))) 5 false,oo 8 (.pick (.t 5) (.c (.bool true)) (.t 7)),ov 9 8,og 10 (.mov (.t 0)) 9 false,og 11 (.call 267 [.t 10]) 9 false,oo 12 (.pick (.t 9) (.c (.bool true)) (.t 11)),ov 13 12,og 14 (.mov (.t 0)) 13 false,og 15 (.bin .geq (.t 14) (.c (.int .i32 97))) 13 false,og 16 (.mov (.t 15)) 13 false,og 17 (.mov (.t 0)) 16 true,og 18 (.bin .leq (.t 17) (.c (.int .i32 122))) 16 true,og 19 (.pick (.t 16) (.t 18) (.c (.bool false))) 13 false,oo 20 (.pick (.t 13) (.c (.bool true)) (.t 19)),ov 21 20,og 22 (.mov (.t 0)) 21 false,og 23 (.bin .geq (.t 22) (.c (.int .i32 65))) 21 false,og 24 (.mov (.t 23)) 21 false,og 25 (.mov (.t 0)) 24 true,og 26 (.bin .leq (.t 25) (.c (.int .i32 90))) 24 true,og 27 (.pick (.t 24) (.t 26) (.c (.bool false))) 21 false,oo 28 (.pick (.t 21) (.c (.bool true)) (.t 27)),ov 2 28] (.ret)),[.t 2]⟩
def F267:AF:=⟨sr [oo 2 (.mov (.c (.bool false)))] (sr [ov 3 0,oo 4 (.bin .geq (.t 3) (.c (.int .i32 48))),ov 5 4,og 6 (.mov (.t 0)) 5 true,og 7 (.bin .leq (.t 6) (.c (.int .i32 57))) 5 true,oo 8 (.pick (.t 5) (.t 7) (.c (.bool false))),ov 2 8] (.ret)),[.t 2]⟩
def F268:AF:=⟨sr [oo 2 (.alloc [(.int .i64 0),(.int .i64 0)]),om 3 0] (.seq (sr [ov 6 0] (.block 0 (sr [oo 8 (.bin .eql (.t 6) (.c (.str [110,105,108]))),ov 7 8] (.cond (.t 7) (sr [oo 9 (.build [(.int .i64 0),(.int .i64 0)] []),ou (.store 2 (.t 2) (.t 9)),om 3 0] (.ret)) (sr [oo 11 (.bin .eql (.t 6) (.c (.str [63]))),ov 10 11] (.cond (.t 10) (sr [oo 12 (.build [(.int .i64 0),(.int .i64 0)] [(0,1,(nn 2))]),ou (.store 2 (.t 2) (.t 12)),om 3 0] (.ret)) (.skip))))))) (sr [ov 14 0,oo 15 (.call 290 [.t 14]),ov 13 15,oe 16 13 0,oe 17 13 1,ov 4 16,ov 5 17] (.seq (sr [ov 18 5,on 19 .neq 18 0] (.cond (.t 19) (sr [oo 20 (.build [(.int .i64 0),(.int .i64 0)] []),ov 21 5,ou (.store 2 (.t 2) (.t 20)),ov 3 21] (.ret)) (.skip))) (sr [ov 22 4,oo 23 (.build [(.int .i64 0),(.int .i64 0)] [(0,1,(nn 1)),(1,1,(.t 22))]),ov 24 5,ou (.store 2 (.t 2) (.t 23)),ov 3 24] (.ret))))),[.cell 2 (some 2),.t 3]⟩
def F269:AF:=⟨sr [oo 1 (.box 6 (.t 0)),oo 2 (.mov (.c (.bool false)))] (.seq (.block 0 (sr [of 4 0 1,ol 5 4,on 6 .lss 5 1,ov 7 6,og 8 (.fieldAddr 0 (.t 1)) 7 false,og 9 (.load none (.t 8)) 7 false,og 10 (.bin .gtr (.t 9) (nn 6)) 7 false,oo 11 (.pick (.t 7) (.c (.bool true)) (.t 10)),ov 12 11,og 13 (.fieldAddr 1 (.t 1)) 12 false,og 14 (.load none (.t 13)) 12 false,og 15 (.call 229 [.t 14]) 12 false,og 16 (.un .not (.t 15)) 12 false,oo 17 (.pick (.t 12) (.c (.bool true)) (.t 16)),ov 3 17] (.cond (.t 3) (sr [oo 2 (.mov (.c (.bool false)))] (.ret)) (sr [of 19 0 1,ol 20 19,oo 21 (.call 228 [.t 20]),oo 22 (.un .not (.t 21)),ov 18 22] (.cond (.t 18) (sr [of 23 2 1,ol 24 23,oo 25 (.bin .eql (.t 24) (.c (.str []))),ov 26 25,og 27 (.fieldAddr 3 (.t 1)) 26 true,og 28 (.load (some 2) (.t 27)) 26 true,og 29 (.build [(.int .i64 0),(.int .i64 0)] []) 26 true,og 30 (.eq false (.struct [.int,.int]) (.t 28) (.t 29)) 26 true,oo 31 (.pick (.t 26) (.t 30) (.c (.bool false))),ov 2 31] (.ret)) (.skip)))))) (sr [of 32 2 1,ol 33 32,oo 34 (.call 229 [.t 33]),ov 35 34,og 36 (.fieldAddr 3 (.t 1)) 35 true,og 37 (.load (some 2) (.t 36)) 35 true,og 38 (.call 216 [.t 37]) 35 true,oo 39 (.pick (.t 35) (.t 38) (.c (.bool false))),ov 40 39,og 41 (.fieldAddr 0 (.t 1)) 40 true,og 42 (.load none (.t 41)) 40 true,og 43 (.bin .eql (.t 42) (nn 2)) 40 true,og 44 (.mov (.t 43)) 40 true,og 45 (.fieldAddr 3 (.t 1)) 44 false,og 46 (.fieldAddr 0 (.t 45)) 44 false,og 47 (.load none (.t 46)) 44 false,og 48 (.bin .eql (.t 47) (nn 1)) 44 false,og 49 (.pick (.t 44) (.c (.bool true)) (.t 48)) 40 true,oo 50 (.pick (.t 40) (.t 49) (.c (.bool false))),ov 2 50] (.ret))),[.t 2]⟩
def F273:AF:=⟨sr [om 4 0,om 5 0] (sr [ov 12 0,ov 13 1,oo 14 (.idxStr (.t 12) (.t 13)),oo 15 (.conv .i64 (.t 14)),ov 6 15] (.seq (sr [ov 16 6,on 17 .lss 16 128] (.cond (.t 17) (sr [ov 18 6,om 4 1,ov 5 18] (.ret)) (.skip))) (sr [om 7 0,om 8 0,om 9 0] (.seq (sr [ov 19 6,on 20 .geq 19 194,ov 21 20,og 22 (.mov (.t 6)) 21 true,og 23 (.bin .leq (.t 22) (nn 223)) 21 true,oo 24 (.pick (.t 21) (.t 23) (.c (.bool false)))] (.cond (.t 24) (.region [ov 25 6,on 26 .sub 25 192,om 7 2,om 8 128,ov 9 26]) (.skip))) (.seq (sr [ov 27 6,on 28 .geq 27 224,ov 29 28,og 30 (.mov (.t 6)) 29 true,og 31 (.bin .leq (.t 30) (nn 239)) 29 true,oo 32 (.pick (.t 29) (.t 31) (.c (.bool false)))] (.cond (.t 32) (.region [ov 33 6,on 34 .sub 33 224,om 7 3,om 8 2048,ov 9 34]) (.skip))) (.seq (sr [ov 35 6,on 36 .geq 35 240,ov 37 36,og 38 (.mov (.t 6)) 37 true,og 39 (.bin .leq (.t 38) (nn 244)) 37 true,oo 40 (.pick (.t 37) (.t 39) (.c (.bool false)))] (.cond (.t 40) (.region [ov 41 6,on 42 .sub 41 240,om 7 4,om 8 65536,ov 9 42]) (.skip))) (.seq (sr [ov 43 7,on 44 .eql 43 0,ov 45 44,og 46 (.mov (.t 1)) 45 false,og 47 (.mov (.t 7)) 45 false,og 48 (.bin .add (.t 46) (.t 47)) 45 false,og 49 (.mov (.t 0)) 45 false,og 50 (.lenStr (.t 49)) 45 false,og 51 (.bin .gtr (.t 48) (.t 50)) 45 false,oo 52 (.pick (.t 45) (.c (.bool true)) (.t 51))] (.cond (.t 52) (sr [om 4 1,om 5 65533] (.ret)) (.skip))) (.seq (sr [om 10 1] (.block 0 (.loop (.seq (sr [ov 53 10,ov 54 7,ob 55 .lss 53 54] (.cond (.t 55) (.skip) (.exit 0))) (.seq (.block 1 (sr [ov 58 0,ov 59 1,ov 60 10,ob 61 .add 59 60,oo 62 (.idxStr (.t 58) (.t 61)),oo 63 (.conv .i64 (.t 62)),ov 11 63] (.seq (sr [ov 64 11,on 65 .lss 64 128,ov 66 65,og 67 (.mov (.t 11)) 66 false,og 68 (.bin .gtr (.t 67) (nn 191)) 66 false,oo 69 (.pick (.t 66) (.c (.bool true)) (.t 68))] (.cond (.t 69) (sr [om 4 1,om 5 65533] (.ret)) (.skip))) (.region [ov 70 9,oo 71 (.bin .mul (nn 64) (.t 70)),ov 72 11,ob 73 .add 71 72,on 74 .sub 73 128,ov 9 74])))) (.region [ov 56 10,on 57 .add 56 1,ov 10 57])))))) (.seq (sr [ov 75 9,ov 76 8,ob 77 .lss 75 76,ov 78 77,og 79 (.mov (.t 9)) 78 false,og 80 (.bin .gtr (.t 79) (nn 1114111)) 78 false,oo 81 (.pick (.t 78) (.c (.bool true)) (.t 80)),ov 82 81,og 83 (.mov (.t 9)) 82 false,og 84 (.bin .geq (.t 83) (nn 55296)) 82 false,og 85 (.mov (.t 84)) 82 false,og 86 (.mov (.t 9)) 85 true,og 87 (.bin .leq (.t 86) (nn 57343)) 85 true,og 88 (.pick (.t 85) (.t 87) (.c (.bool false))) 82 false,oo 89 (.pick (.t 82) (.c (.bool true)) (.t 88))] (.cond (.t 89) (sr [om 4 1,om 5 65533] (.ret)) (.skip))) (sr [ov 90 7,ov 91 9,ov 4 90,ov 5 91] (.ret))))))))))),[.t 4,.t 5]⟩
def F280:AF:=⟨sr [om 4 0] (sr [ov 5 0,oo 6 (.runesOfStr (.t 5)),ov 7 1,oo 8 (.runesOfStr (.t 7)),oo 9 (.call 293 [.t 6,.t 8]),ov 4 9] (.ret)),[.t 4]⟩
def F281:AF:=⟨sr [oo 2 (.box 3 (.t 0)),oo 3 (.box 1 (.t 1)),oo 4 (.mov (.c (.sl none true 0 [])))] (.seq (sr [os 9 3 2,oo 10 (.call 103 [.t 9]),on 11 .neq 10 0] (.cond (.t 11) (sr [oo 4 (.mov (.c (.sl none true 0 [])))] (.ret)) (.skip))) (sr [oo 12 (.mkFn (.func 294) [] [.t 3]),ov 5 12] (sr [oo 6 (.mov (.c (.sl none true 0 [])))] (.seq (sr [of 13 2 2,ol 14 13,oo 15 (.lenSl (.t 14)),om 16 0] (.block 0 (.loop (sr [ob 17 .lss 16 15] (.seq (.cond (.t 17) (.skip) (.exit 0)) (.seq (.block 1 (sr [ov 18 16,ox 19 3 14 16,os 20 3 19,oo 8 (.alloc [(.int .i64 0),(.int .i64 0),(.sl none true 0 [])]),ov 7 18,ou (.store 3 (.t 8) (.t 20))] (sr [ov 21 5,os 22 3 8,oo 23 (.callV (.t 21) [.t 22])] (.cond (.t 23) (.region [ov 24 6,ov 25 7,oo 26 (.buildSl false 1 [(.int .i64 0)] [(0,1,(.t 25))] 1),oo 27 (.append false 1 8 (.t 24) (.t 26)),ov 6 27]) (.skip))))) (.region [on 28 .add 16 1,ov 16 28]))))))) (sr [ov 29 6,ov 4 29] (.ret)))))),[.t 4]⟩
def F284:AF:=⟨sr [om 4 0] (.seq (sr [ov 7 1,oo 8 (.lenStr (.t 7)),on 9 .eql 8 0] (.cond (.t 9) (sr [ov 10 0,oo 11 (.call 297 [.t 10]),on 12 .add 11 1,ov 4 12] (.ret)) (.skip))) (.seq (sr [ov 13 1,oo 14 (.lenStr (.t 13)),on 15 .eql 14 1] (.cond (.t 15) (sr [ov 16 0,ov 17 1,oo 18 (.idxStr (.t 17) (nn 0)),oo 19 (.ext .count [.t 16,.t 18]),ov 4 19] (.ret)) (.skip))) (sr [om 5 0] (.block 0 (.loop (.block 1 (sr [ov 20 0,ov 21 1,oo 22 (.call 285 [.t 20,.t 21]),ov 6 22] (.seq (sr [ov 23 6,oo 24 (.bin .eql (.t 23) (nn (-1)))] (.cond (.t 24) (sr [ov 25 5,ov 4 25] (.ret)) (.skip))) (sr [ov 26 5,on 27 .add 26 1,ov 5 27] (.region [ov 28 0,ov 29 6,ov 30 1,oo 31 (.lenStr (.t 30)),ob 32 .add 29 31,oo 33 (.slStr (.t 28) (some (.t 32)) none),ov 0 33])))))))))),[.t 4]⟩
def F285:AF:=⟨sr [om 4 0] (sr [ov 5 0,ov 6 1,oo 7 (.call 300 [.t 5,.t 6]),ov 4 7] (.ret)),[.t 4]⟩
def F286:AF:=⟨sr [oo 4 (.mov (.c (.bool false)))] (sr [ov 5 0,oo 6 (.lenStr (.t 5)),ov 7 1,oo 8 (.lenStr (.t 7)),ob 9 .geq 6 8,ov 10 9,og 11 (.mov (.t 0)) 10 true,og 12 (.mov (.t 0)) 10 true,og 13 (.lenStr (.t 12)) 10 true,og 14 (.mov (.t 1)) 10 true,og 15 (.lenStr (.t 14)) 10 true,og 16 (.bin .sub (.t 13) (.t 15)) 10 true,og 17 (.slStr (.t 11) (some (.t 16)) none) 10 true,og 18 (.mov (.t 1)) 10 true,og 19 (.bin .eql (.t 17) (.t 18)) 10 true,oo 20 (.pick (.t 10) (.t 19) (.c (.bool false))),ov 4 20] (.ret)),[.t 4]⟩
def F287:AF:=⟨sr [oo 4 (.mov (.c (.bool false)))] (sr [ov 5 0,oo 6 (.lenStr (.t 5)),ov 7 1,oo 8 (.lenStr (.t 7)),ob 9 .geq 6 8,ov 10 9,og 11 (.mov (.t 0)) 10 true,og 12 (.mov (.t 1)) 10 true,og 13 (.lenStr (.t 12)) 10 true,og 14 (.slStr (.t 11) none (some (.t 13))) 10 true,og 15 (.mov (.t 1)) 10 true,og 16 (.bin .eql (.t 14) (.t 15)) 10 true,oo 17 (.pick (.t 10) (.t 16) (.c (.bool false))),ov 4 17] (.ret)),[.t 4]⟩
def F288:AF:=⟨sr [oo 4 (.mov (.c (.str []))),oo 5 (.mov (.c (.str []))),oo 6 (.mov (.c (.bool false)))] (.seq (sr [ov 8 0,ov 9 1,oo 10 (.call 300 [.t 8,.t 9]),ov 7 10] (sr [ov 11 7,on 12 .geq 11 0] (.cond (.t 12) (.seq (.draw [ov 13 0,ov 14 7,oo 15 (.slStr (.t 13) none (some (.t 14))),ov 16 0,ov 17 7,ov 18 1,oo 19 (.lenStr (.t 18)),ob 20 .add 17 19,oo 21 (.slStr (.t 16) (some (.t 20)) none),ov 4 15,ov 5 21,oo 6 (.mov (.c (.bool true)))] []) (.ret)) (.skip)))) (sr [ov 22 0,ov 4 22,oo 5 (.mov (.c (.str []))),oo 6 (.mov (.c (.bool false)))] (.ret))),[.t 4,.t 5,.t 6]⟩
def F289:AF:=⟨sr [oo 2 (.mov (.c (.int .u64 0)))] (.seq (.cond (.c (.bool false)) (.seq (.draw [ov 3 0,oo 4 (.idxStr (.t 3) (nn 0)),oo 5 (.conv .u64 (.t 4)),ov 6 0,oo 7 (.idxStr (.t 6) (nn 1)),oo 8 (.conv .u64 (.t 7)),oo 9 (.bin .shl (.t 8) (.c (.int .u64 8))),ob 10 .or 5 9,ov 11 0,oo 12 (.idxStr (.t 11) (nn 2)),oo 13 (.conv .u64 (.t 12)),oo 14 (.bin .shl (.t 13) (.c (.int .u64 16))),ob 15 .or 10 14,ov 16 0,oo 17 (.idxStr (.t 16) (nn 3)),oo 18 (.conv .u64 (.t 17)),oo 19 (.bin .shl (.t 18) (.c (.int .u64 24))),ob 20 .or 15 19,ov 2 20] []) (.ret)) (.skip)) (.seq (.draw [ov 21 0,oo 22 (.idxStr (.t 21) (nn 0)),oo 23 (.conv .u64 (.t 22)),ov 24 0,oo 25 (.idxStr (.t 24) (nn 1)),oo 26 (.conv .u64 (.t 25)),oo 27 (.bin .shl (.t 26) (.c (.int .u64 8))),ob 28 .or 23 27,ov 29 0,oo 30 (.idxStr (.t 29) (nn 2)),oo 31 (.conv .u64 (.t 30)),oo 32 (.bin .shl (.t 31) (.c (.int .u64 16))),ob 33 .or 28 32,ov 34 0,oo 35 (.idxStr (.t 34) (nn 3)),oo 36 (.conv .u64 (.t 35)),oo 37 (.bin .shl (.t 36) (.c (.int .u64 24))),ob 38 .or 33 37,ov 39 0,oo 40 (.idxStr (.t 39) (nn 4)),oo 41 (.conv .u64 (.t 40)),oo 42 (.bin .shl (.t 41) (.c (.int .u64 32))),ob 43 .or 38 42,ov 44 0,oo 45 (.idxStr (.t 44) (nn 5)),oo 46 (.conv .u64 (.t 45)),oo 47 (.bin .shl (.t 46) (.c (.int .u64 40))),ob 48 .or 43 47,ov 49 0,oo 50 (.idxStr (.t 49) (nn 6)),oo 51 (.conv .u64 (.t 50)),oo 52 (.bin .shl (.t 51) (.c (.int .u64 48))),ob 53 .or 48 52,ov 54 0,oo 55 (.idxStr (.t 54) (nn 7)),oo 56 (.conv .u64 (.t 55)),oo 57 (.bin .shl (.t 56) (.c (.int .u64 56))),ob 58 .or 53 57,ov 2 58] []) (.ret))),[.t 2]⟩
def F290:AF:=⟨sr [om 2 0,om 3 0] (.seq (sr [ov 9 0,oo 10 (.call 301 [.t 9]),oo 11 (.un .not (.t 10))] (.cond (.t 11) (sr [om 2 0,om 3 5] (.ret)) (.skip))) (sr [ov 13 0,oo 14 (.call 302 [(.t 13),(.c (.str [45]))]),ov 12 14,oe 15 12 0,oe 16 12 1,ov 4 15,ov 5 16] (sr [om 6 0] (.seq (sr [ov 17 4,oo 18 (.lenStr (.t 17)),om 19 0] (.block 0 (.loop (sr [ob 20 .lss 19 18] (.seq (.cond (.t 20) (.skip) (.exit 0)) (.seq (.block 1 (sr [ov 21 19,ov 7 21] (sr [ov 22 4,ov 23 7,oo 24 (.idxStr (.t 22) (.t 23)),oo 25 (.bin .sub (.t 24) (.c (.int .u8 48))),oo 26 (.conv .i64 (.t 25)),ov 8 26] (.seq (sr [ov 27 6,oo 28 (.bin .lss (.t 27) (nn (-922337203685477580))),ov 29 28,og 30 (.mov (.t 6)) 29 false,og 31 (.bin .eql (.t 30) (nn (-922337203685477580))) 29 false,og 32 (.mov (.t 31)) 29 false,og 33 (.mov (.t 8)) 32 true,og 34 (.bin .gtr (.t 33) (nn 8)) 32 true,og 35 (.pick (.t 32) (.t 34) (.c (.bool false))) 29 false,oo 36 (.pick (.t 29) (.c (.bool true)) (.t 35))] (.cond (.t 36) (sr [om 2 0,om 3 8] (.ret)) (.skip))) (.region [ov 37 6,on 38 .mul 37 10,ov 39 8,ob 40 .sub 38 39,ov 6 40]))))) (.region [on 41 .add 19 1,ov 19 41]))))))) (.seq (sr [ov 42 5] (.cond (.t 42) (sr [ov 43 6,ov 2 43,om 3 0] (.ret)) (.skip))) (.seq (sr [ov 44 6,oo 45 (.bin .eql (.t 44) (nn (-9223372036854775808)))] (.cond (.t 45) (sr [om 2 0,om 3 8] (.ret)) (.skip))) (sr [ov 46 6,oo 47 (.un .neg (.t 46)),ov 2 47,om 3 0] (.ret)))))))),[.t 2,.t 3]⟩
def F293:AF:=⟨sr [om 4 0] (.seq (sr [ov 9 0,oo 10 (.lenSl (.t 9)),om 11 0] (.block 0 (.loop (sr [ob 12 .lss 11 10] (.seq (.cond (.t 12) (.skip) (.exit 0)) (.seq (.block 1 (sr [ov 13 11,ox 14 1 9 11,ol 15 14,ov 5 13,ov 6 15] (.seq (sr [ov 16 5,ov 17 1,oo 18 (.lenSl (.t 17)),ob 19 .geq 16 18] (.cond (.t 19) (sr [om 4 1] (.ret)) (.skip))) (sr [ov 20 1,ov 21 5,ox 22 1 20 21,ol 23 22,ov 7 23] (sr [ov 24 6,ov 25 7,oo 26 (.call 304 [.t 24,.t 25]),ov 8 26] (sr [ov 27 8,on 28 .neq 27 0] (.cond (.t 28) (sr [ov 29 8,ov 4 29] (.ret)) (.skip)))))))) (.region [on 30 .add 11 1,ov 11 30]))))))) (.seq (sr [ov 31 0,oo 32 (.lenSl (.t 31)),ov 33 1,oo 34 (.lenSl (.t 33)),ob 35 .lss 32 34] (.cond (.t 35) (sr [oo 4 (.mov (nn (-1)))] (.ret)) (.skip))) (sr [om 4 0] (.ret)))),[.t 4]⟩
def F300:AF:=⟨sr [om 4 0] (sr [ov 14 1,oo 15 (.lenStr (.t 14)),ov 5 15] (.seq (.block 0 (sr [ov 17 5,on 18 .eql 17 0,ov 19 18,og 20 (.mov (.t 1)) 19 false,og 21 (.mov (.t 0)) 19 false,og 22 (.bin .eql (.t 20) (.t 21)) 19 false,oo 23 (.pick (.t 19) (.c (.bool true)) (.t 22)),ov 16 23] (.cond (.t 16) (sr [om 4 0] (.ret)) (sr [ov 25 5,on 26 .eql 25 1,ov 24 26] (.cond (.t 24) (sr [ov 27 0,ov 28 1,oo 29 (.idxStr (.t 28) (nn 0)),oo 30 (.call 307 [.t 27,.t 29]),ov 4 30] (.ret)) (sr [ov 32 5,ov 33 0,oo 34 (.lenStr (.t 33)),ob 35 .geq 32 34,ov 31 35] (.cond (.t 31) (sr [oo 4 (.mov (nn (-1)))] (.ret)) (sr [ov 37 5,oo 38 (.load none (.g 4)),ob 39 .leq 37 38,ov 40 39,og 41 (.mov (.t 0)) 40 true,og 42 (.lenStr (.t 41)) 40 true,og 43 (.bin .leq (.t 42) (nn 64)) 40 true,oo 44 (.pick (.t 40) (.t 43) (.c (.bool false))),ov 36 44] (.cond (.t 36) (sr [ov 45 0,ov 46 1,oo 47 (.call 308 [.t 45,.t 46]),ov 4 47] (.ret)) (.skip)))))))))) (sr [ov 48 1,oo 49 (.idxStr (.t 48) (nn 0)),ov 6 49] (sr [ov 50 1,oo 51 (.idxStr (.t 50) (nn 1)),ov 7 51] (sr [om 8 0] (sr [ov 52 0,oo 53 (.lenStr (.t 52)),ov 54 5,ob 55 .sub 53 54,on 56 .add 55 1,ov 9 56] (sr [om 10 0] (.seq (.block 1 (.loop (.seq (sr [ov 57 8,ov 58 9,ob 59 .lss 57 58] (.cond (.t 59) (.skip) (.exit 1))) (.block 2 (.seq (sr [ov 60 0,ov 61 8,oo 62 (.idxStr (.t 60) (.t 61)),ov 63 6,ob 64 .neq 62 63] (.cond (.t 64) (sr [ov 65 0,ov 66 8,on 67 .add 66 1,ov 68 9,oo 69 (.slStr (.t 65) (some (.t 67)) (some (.t 68))),ov 70 6,oo 71 (.call 307 [.t 69,.t 70]),ov 11 71] (.seq (sr [ov 72 11,on 73 .lss 72 0] (.cond (.t 73) (sr [oo 4 (.mov (nn (-1)))] (.ret)) (.skip))) (.region [ov 74 8,ov 75 11,on 76 .add 75 1,ob 77 .add 74 76,ov 8 77]))) (.skip))) (.seq (sr [ov 78 0,ov 79 8,on 80 .add 79 1,oo 81 (.idxStr (.t 78) (.t 80)),ov 82 7,ob 83 .eql 81 82,ov 84 83,og 85 (.mov (.t 0)) 84 true,og 86 (.mov (.t 8)) 84 true,og 87 (.mov (.t 8)) 84 true,og 88 (.mov (.t 5)) 84 true,og 89 (.bin .add (.t 87) (.t 88)) 84 true,og 90 (.slStr (.t 85) (some (.t 86)) (some (.t 89))) 84 true,og 91 (.mov (.t 1)) 84 true,og 92 (.bin .eql (.t 90) (.t 91)) 84 true,oo 93 (.pick (.t 84) (.t 92) (.c (.bool false)))] (.cond (.t 93) (sr [ov 94 8,ov 4 94] (.ret)) (.skip))) (sr [ov 95 8,on 96 .add 95 1,ov 8 96] (sr [ov 97 10,on 98 .add 97 1,ov 10 98] (sr [ov 99 5,oo 100 (.load none (.g 4)),ob 101 .leq 99 100,ov 102 101,og 103 (.mov (.t 10)) 102 true,og 104 (.mov (.t 8)) 102 true,og 105 (.call 309 [.t 104]) 102 true,og 106 (.bin .gtr (.t 103) (.t 105)) 102 true,oo 107 (.pick (.t 102) (.t 106) (.c (.bool false)))] (.cond (.t 107) (sr [ov 108 0,ov 109 8,oo 110 (.slStr (.t 108) (some (.t 109)) none),ov 111 1,oo 112 (.call 308 [.t 110,.t 111]),ov 12 112] (.seq (sr [ov 113 12,on 114 .geq 113 0] (.cond (.t 114) (sr [ov 115 12,ov 116 8,ob 117 .add 115 116,ov 4 117] (.ret)) (.skip))) (sr [oo 4 (.mov (nn (-1)))] (.ret)))) (sr [ov 118 5,oo 119 (.load none (.g 4)),ob 120 .gtr 118 119,ov 121 120,og 122 (.mov (.t 10)) 121 true,og 123 (.mov (.t 8)) 121 true,og 124 (.bin .shr (.t 123) (.c (.int .u64 4))) 121 true,og 125 (.bin .add (nn 4) (.t 124)) 121 true,og 126 (.bin .geq (.t 122) (.t 125)) 121 true,oo 127 (.pick (.t 121) (.t 126) (.c (.bool false))),ov 128 127,og 129 (.mov (.t 8)) 128 true,og 130 (.mov (.t 9)) 128 true,og 131 (.bin .lss (.t 129) (.t 130)) 128 true,oo 132 (.pick (.t 128) (.t 131) (.c (.bool false)))] (.cond (.t 132) (sr [ov 133 0,ov 134 8,oo 135 (.slStr (.t 133) (some (.t 134)) none),ov 136 1,oo 137 (.call 310 [.t 135,.t 136]),ov 13 137] (.seq (sr [ov 138 13,on 139 .lss 138 0] (.cond (.t 139) (sr [oo 4 (.mov (nn (-1)))] (.ret)) (.skip))) (sr [ov 140 8,ov 141 13,ob 142 .add 140 141,ov 4 142] (.ret)))) (.skip))))))))))))) (sr [oo 4 (.mov (nn (-1)))] (.ret)))))))))),[.t 4]⟩
def F301:AF:=⟨sr [oo 2 (.mov (.c (.bool false)))] (sr [ov 7 0,oo 8 (.call 302 [(.t 7),(.c (.str [45]))]),ov 6 8,oe 9 6 0,oe 10 6 1,ov 3 9,ov 4 10] (.seq (sr [ov 11 3,oo 12 (.bin .eql (.t 11) (.c (.str []))),ov 13 12,og 14 (.mov (.t 3)) 13 false,og 15 (.idxStr (.t 14) (nn 0)) 13 false,og 16 (.bin .eql (.t 15) (.c (.int .u8 48))) 13 false,og 17 (.mov (.t 16)) 13 false,og 18 (.mov (.t 4)) 17 true,og 19 (.mov (.t 18)) 17 true,og 20 (.mov (.t 3)) 19 false,og 21 (.lenStr (.t 20)) 19 false,og 22 (.bin .gtr (.t 21) (nn 1)) 19 false,og 23 (.pick (.t 19) (.c (.bool true)) (.t 22)) 17 true,og 24 (.pick (.t 17) (.t 23) (.c (.bool false))) 13 false,oo 25 (.pick (.t 13) (.c (.bool true)) (.t 24))] (.cond (.t 25) (sr [oo 2 (.mov (.c (.bool false)))] (.ret)) (.skip))) (.seq (sr [ov 26 3,oo 27 (.lenStr (.t 26)),om 28 0] (.block 0 (.loop (sr [ob 29 .lss 28 27] (.seq (.cond (.t 29) (.skip) (.exit 0)) (.seq (.block 1 (sr [ov 30 28,ov 5 30] (sr [ov 31 3,ov 32 5,oo 33 (.idxStr (.t 31) (.t 32)),oo 34 (.bin .lss (.t 33) (.c (.int .u8 48))),ov 35 34,og 36 (.mov (.t 3)) 35 false,og 37 (.mov (.t 5)) 35 false,og 38 (.idxStr (.t 36) (.t 37)) 35 false,og 39 (.bin .gtr (.t 38) (.c (.int .u8 57))) 35 false,oo 40 (.pick (.t 35) (.c (.bool true)) (.t 39))] (.cond (.t 40) (sr [oo 2 (.mov (.c (.bool false)))] (.ret)) (.skip))))) (.region [on 41 .add 28 1,ov 28 41]))))))) (sr [oo 2 (.mov (.c (.bool true)))] (.ret))))),[.t 2]⟩
def F302:AF:=⟨sr [oo 4 (.mov (.c (.str []))),oo 5 (.mov (.c (.bool false)))] (sr [ov 6 0,ov 7 1,oo 8 (.call 311 [.t 6,.t 7]),oe 9 8 0,oe 10 8 1,ov 4 9,ov 5 10] (.ret)),[.t 4,.t 5]⟩
def F304:AF:=⟨sr [om 4 0] (sr [ov 7 0,oo 8 (.call 320 [.t 7]),ov 5 8] (sr [ov 9 1,oo 10 (.call 320 [.t 9]),ov 6 10] (.seq (sr [ov 11 5] (.cond (.t 11) (.seq (sr [ov 12 6] (.cond (.t 12) (sr [om 4 0] (.ret)) (.skip))) (sr [oo 4 (.mov (nn (-1)))] (.ret))) (.skip))) (.seq (sr [ov 13 6] (.cond (.t 13) (sr [om 4 1] (.ret)) (.skip))) (.seq (sr [ov 14 0,ov 15 1,ob 16 .lss 14 15] (.cond (.t 16) (sr [oo 4 (.mov (nn (-1)))] (.ret)) (.skip))) (.seq (sr [ov 17 0,ov 18 1,ob 19 .gtr 17 18] (.cond (.t 19) (sr [om 4 1] (.ret)) (.skip))) (sr [om 4 0] (.ret)))))))),[.t 4]⟩
def F307:AF:=⟨sr [om 4 0] (sr [ov 5 0,ov 6 1,oo 7 (.ext .indexByte [.t 5,.t 6]),ov 4 7] (.ret)),[.t 4]⟩
def F311:AF:=⟨sr [oo 4 (.mov (.c (.str []))),oo 5 (.mov (.c (.bool false)))] (.seq (sr [ov 6 0,ov 7 1,oo 8 (.call 287 [.t 6,.t 7]),oo 9 (.un .not (.t 8))] (.cond (.t 9) (sr [ov 10 0,ov 4 10,oo 5 (.mov (.c (.bool false)))] (.ret)) (.skip))) (sr [ov 11 0,ov 12 1,oo 13 (.lenStr (.t 12)),oo 14 (.slStr (.t 11) (some (.t 13)) none),ov 4 14,oo 5 (.mov (.c (.bool true)))] (.ret))),[.t 4,.t 5]⟩
def F320:AF:=⟨sr [oo 2 (.mov (.c (.bool false)))] (sr [ov 3 0,ov 4 0,ob 5 .neq 3 4,ov 2 5] (.ret)),[.t 2]⟩
def S51:AF:=⟨sr [qq 1 (.box 3 (.t 0)),qq 2 (.alloc [(.sl none true 0 []),(.sl none true 0 []),(.sl none true 0 [])])] (sr [qq 8 (.build [(.sl none true 0 []),(.sl none true 0 []),(.sl none true 0 [])] []),qq 3 (.alloc [(.sl none true 0 []),(.sl none true 0 []),(.sl none true 0 [])]),qu (.store 3 (.t 3) (.t 8))] (.seq (sr [qm 4 0] (.block 0 (.loop (.seq (sr [qv 9 4,qf 10 0 1,ql 11 10,qq 12 (.lenSl (.t 11)),qb 13 .lss 9 12,qv 14 13,qg 15 (.mov (.t 4)) 14 true,qg 16 (.bin .lss (.t 15) (nn 25)) 14 true,qq 17 (.pick (.t 14) (.t 16) (.c (.bool false)))] (.cond (.t 17) (.skip) (.exit 0))) (.seq (.block 1 (.draw [qf 20 0 3,ql 21 20,qf 22 0 1,ql 23 22,qv 24 4,qx 25 1 23 24,ql 26 25,qf 27 0 1,ql 28 27,qv 29 4,qx 30 1 28 29,ql 31 30,qq 32 (.lenStr (.t 31)),qq 33 (.minmax false [(.t 32),(nn 100)]),qq 34 (.slStr (.t 26) none (some (.t 33))),qq 35 (.buildSl true 1 [(.str [])] [(0,1,(.t 34))] 1),qq 36 (.append true 1 16 (.t 21) (.t 35)),qf 37 0 3,qu (.store 1 (.t 37) (.t 36))] [(1,15)])) (.region [qv 18 4,qn 19 .add 18 1,qv 4 19])))))) (.seq (sr [qm 5 0] (.block 2 (.loop (.seq (sr [qv 38 5,qf 39 1 1,ql 40 39,qq 41 (.lenSl (.t 40)),qb 42 .lss 38 41,qv 43 42,qg 44 (.mov (.t 5)) 43 true,qg 45 (.bin .lss (.t 44) (nn 45)) 43 true,qq 46 (.pick (.t 43) (.t 45) (.c (.bool false)))] (.cond (.t 46) (.skip) (.exit 2))) (.seq (.block 3 (.draw [qf 49 1 3,ql 50 49,qf 51 1 1,ql 52 51,qv 53 5,qx 54 1 52 53,ql 55 54,qf 56 1 1,ql 57 56,qv 58 5,qx 59 1 57 58,ql 60 59,qq 61 (.lenStr (.t 60)),qq 62 (.minmax false [(.t 61),(nn 100)]),qq 63 (.slStr (.t 55) none (some (.t 62))),qq 64 (.buildSl true 1 [(.str [])] [(0,1,(.t 63))] 1),qq 65 (.append true 1 16 (.t 50) (.t 64)),qf 66 1 3,qu (.store 1 (.t 66) (.t 65))] [(1,15)])) (.region [qv 47 5,qn 48 .add 47 1,qv 5 48])))))) (.seq (sr [qm 6 0] (.block 4 (.loop (.seq (sr [qv 67 6,qf 68 2 1,ql 69 68,qq 70 (.lenSl (.t 69)),qb 71 .lss 67 70,qv 72 71,qg 73 (.mov (.t 6)) 72 true,qg 74 (.bin .lss (.t 73) (nn 45)) 72 true,qq 75 (.pick (.t 72) (.t 74) (.c (.bool false)))] (.cond (.t 75) (.skip) (.exit 4))) (.seq (.block 5 (sr [qf 78 2 1,ql 79 78,qv 80 6,qx 81 3 79 80,qs 82 3 81,qq 7 (.alloc [(.int .i64 0),(.int .i64 0),(.sl none true 0 [])]),qu (.store 3 (.t 7) (.t 82))] (sr [qq 83 (.buildSl true 4 [] [] 0),qf 84 2 7,ql 85 84,qf 86 2 7,ql 87 86,qq 88 (.lenSl (.t 87)),qq 89 (.minmax false [(.t 88),(nn 25)]),qq 90 (.slSl 4 (.t 85) none (some (.t 89))),qq 91 (.append true 4 32 (.t 83) (.t 90)),qf 92 2 7,qu (.store 1 (.t 92) (.t 91))] (.region [qf 93 2 3,ql 94 93,qs 95 3 7,qq 96 (.buildSl true 3 [(.int .i64 0),(.int .i64 0),(.sl none true 0 [])] [(0,3,(.t 95))] 1),qq 97 (.append true 3 40 (.t 94) (.t 96)),qf 98 2 3,qu (.store 1 (.t 98) (.t 97))])))) (.region [qv 76 6,qn 77 .add 76 1,qv 6 77])))))) (sr [qs 99 3 3,qu (.store 3 (.t 2) (.t 99))] (.ret)))))),[.cell 2 (some 3)]⟩
def S65:AF:=⟨sr [qq 5 (.box 3 (.t 1)),qq 8 (.mov (.c .nilptr)),qm 9 0] (.seq (.block 0 (sr [qs 14 3 5,qq 15 (.call 52 [.t 14]),qq 16 (.un .not (.t 15)),qv 13 16] (.cond (.t 13) (sr [qq 8 (.mov (.c .nilptr)),qm 9 4] (.ret)) (sr [qv 18 0,qn 19 .lss 18 1,qv 20 19,qg 21 (.mov (.t 0)) 20 false,qg 22 (.bin .gtr (.t 21) (nn 3)) 20 false,qq 23 (.pick (.t 20) (.c (.bool true)) (.t 22)),qv 24 23,qg 25 (.load (some 3) (.t 5)) 24 false,qg 26 (.mov (.t 2)) 24 false,qg 27 (.call 53 [.t 25,.t 26]) 24 false,qg 28 (.un .not (.t 27)) 24 false,qq 29 (.pick (.t 24) (.c (.bool true)) (.t 28)),qv 30 29,qg 31 (.load (some 3) (.t 5)) 30 false,qg 32 (.mov (.t 3)) 30 false,qg 33 (.call 27 [.t 31,.t 32]) 30 false,qg 34 (.un .not (.t 33)) 30 false,qq 35 (.pick (.t 30) (.c (.bool true)) (.t 34)),qv 17 35] (.cond (.t 17) (sr [qq 8 (.mov (.c .nilptr)),qm 9 2] (.ret)) (.skip)))))) (.seq (.draw [qv 36 0,qs 37 3 5,qs 38 3 5,qq 39 (.call 86 [.t 38]),qv 40 2,qq 41 (.mkMap),qu (.mapSet .int (.t 41) (nn (-1)) (nn (-1))),qv 42 41,qq 43 (.build [(.int .i64 0),(.sl none true 0 []),(.sl none true 0 []),(.sl none true 0 []),(.sl none true 0 []),(.sl none true 0 []),.nilmap,(.sl none true 0 [])] [(0,1,(.t 36)),(1,3,(.t 37)),(4,1,(.t 39)),(5,1,(.t 40)),(6,1,(.t 42))]),qq 44 (.box 8 (.t 43)),qv 10 44] [(1,5),(2,5),(3,5),(1,6),(2,6),(3,6)]) (.seq (sr [qv 45 3,qq 46 (.lenSl (.t 45)),qm 47 0] (.block 1 (.loop (sr [qb 48 .lss 47 46] (.seq (.cond (.t 48) (.skip) (.exit 1)) (.seq (.block 2 (sr [qv 49 47,qx 50 1 45 47,ql 51 50,qv 11 49,qv 12 51] (.region [qv 52 10,qq 53 (.nilCheck (.t 52)),qf 54 6 53,ql 55 54,qv 56 12,qv 57 11,qu (.mapSet .int (.t 55) (.t 56) (.t 57))]))) (.region [qn 58 .add 47 1,qv 47 58]))))))) (.seq (sr [qv 59 0,qn 60 .eql 59 2] (.cond (.t 60) (.region [qv 61 10,qq 62 (.call 113 [.t 61])]) (.skip))) (sr [qv 63 10,qv 8 63,qm 9 0] (.ret)))))),[.t 8,.t 9]⟩
def S66:AF:=⟨sr [qq 2 (.mov (.c (.bool false)))] (sr [qq 9 (.mkMap),qv 3 9] (.seq (sr [qv 10 0,qq 11 (.nilCheck (.t 10)),qf 12 1 11,qs 13 3 12,qq 14 (.call 71 [.t 13]),qq 15 (.lenSl (.t 14)),qm 16 0] (.block 0 (.loop (sr [qb 17 .lss 16 15] (.seq (.cond (.t 17) (.skip) (.exit 0)) (.seq (.block 1 (sr [qx 18 1 14 16,ql 19 18,qv 5 19] (sr [qv 20 0,qq 21 (.nilCheck (.t 20)),qf 22 1 21,qf 23 2 22,ql 24 23,qv 25 5,qx 26 3 24 25,qf 27 0 26,ql 28 27,qv 6 28] (.seq (sr [qv 30 3,qv 31 6,qq 32 (.lookup .int (.int .i64 0) true (.t 30) (.t 31)),qv 29 32,qe 33 29 0,qe 34 29 1,qv 7 33,qv 8 34] (sr [qv 35 8,qv 36 35,qg 37 (.mov (.t 7)) 36 true,qg 38 (.mov (.t 0)) 36 true,qg 39 (.nilCheck (.t 38)) 36 true,qg 40 (.fieldAddr 6 (.t 39)) 36 true,qg 41 (.load none (.t 40)) 36 true,qg 42 (.mov (.t 5)) 36 true,qg 43 (.lookup .int (.int .i64 0) false (.t 41) (.t 42)) 36 true,qg 44 (.bin .gtr (.t 37) (.t 43)) 36 true,qq 45 (.pick (.t 36) (.t 44) (.c (.bool false))),qv 46 45,qg 47 (.mov (.t 0)) 46 false,qg 48 (.nilCheck (.t 47)) 46 false,qg 49 (.fieldAddr 1 (.t 48)) 46 false,qg 50 (.load (some 3) (.t 49)) 46 false,qg 51 (.mov (.t 5)) 46 false,qg 52 (.call 114 [.t 50,.t 51]) 46 false,qg 53 (.lenSl (.t 52)) 46 false,qg 54 (.bin .gtr (.t 53) (nn 0)) 46 false,qq 55 (.pick (.t 46) (.c (.bool true)) (.t 54))] (.cond (.t 55) (sr [qq 2 (.mov (.c (.bool false)))] (.ret)) (.skip)))) (.region [qv 56 3,qv 57 6,qv 58 0,qq 59 (.nilCheck (.t 58)),qf 60 6 59,ql 61 60,qv 62 5,qq 63 (.lookup .int (.int .i64 0) false (.t 61) (.t 62)),qu (.mapSet .int (.t 56) (.t 57) (.t 63))]))))) (.region [qn 64 .add 16 1,qv 16 64]))))))) (sr [qq 2 (.mov (.c (.bool true)))] (.ret)))),[.t 2]⟩
def S67:AF:=⟨sr [qq 2 (.box 1 (.t 0)),qq 4 (.mov (.c (.bool false)))] (.seq (.draw [ql 7 2,qq 8 (.nilCheck (.t 7)),qf 9 4 8,ql 10 9,qv 11 1,qx 12 2 10 11,qs 13 2 12,ql 14 2,qq 15 (.nilCheck (.t 14)),qf 16 5 15,ql 17 16,qv 18 1,qx 19 1 17 18,ql 20 19,qq 5 (.alloc [(.int .i64 0),(.int .i64 0)]),qq 6 (.alloc [(.int .i64 0)]),qu (.store 2 (.t 5) (.t 13)),qu (.store 1 (.t 6) (.t 20))] [(0,14),(3,14),(6,14),(7,14),(10,14),(13,14),(0,15),(3,15),(6,15),(7,15),(10,15),(13,15),(14,15),(7,16),(10,16),(13,16)]) (.seq (.seq (.draw [ql 21 2,qq 22 (.nilCheck (.t 21)),qf 23 6 22,ql 24 23,ql 25 6,qq 26 (.lookup .int (.int .i64 0) false (.t 24) (.t 25)),ql 27 2,qq 28 (.nilCheck (.t 27)),qf 29 6 28,ql 30 29,qf 31 0 5,ql 32 31,qq 33 (.lookup .int (.int .i64 0) false (.t 30) (.t 32)),qb 34 .geq 26 33] []) (.cond (.t 34) (sr [qq 4 (.mov (.c (.bool false)))] (.ret)) (.skip))) (sr [ql 35 2,qv 36 1,qq 37 (.mkFn (.func 115) [] [.t 2,.t 5,.t 6]),qq 38 (.call 72 [.t 35,.t 36,.t 37]),qv 4 38] (.ret)))),[.t 4]⟩
def S68:AF:=⟨sr [qq 2 (.mov (.c (.sl none true 0 [])))] (.seq (sr [qv 3 0,qq 4 (.eq false .sl (.t 3) (.c (.sl none true 0 [])))] (.cond (.t 4) (sr [qq 2 (.mov (.c (.sl none true 0 [])))] (.ret)) (.skip))) (sr [qq 5 (.buildSl true 1 [] [] 0),qv 6 0,qq 7 (.append true 1 8 (.t 5) (.t 6)),qv 2 7] (.ret))),[.t 2]⟩
def S70:AF:=⟨sr [qq 4 (.mov (.c (.bool false)))] (.seq (sr [qv 6 0,qq 7 (.lenSl (.t 6)),qv 8 1,qq 9 (.lenSl (.t 8)),qb 10 .neq 7 9] (.cond (.t 10) (sr [qq 4 (.mov (.c (.bool false)))] (.ret)) (.skip))) (.seq (sr [qv 11 0,qq 12 (.lenSl (.t 11)),qm 13 0] (.block 0 (.loop (sr [qb 14 .lss 13 12] (.seq (.cond (.t 14) (.skip) (.exit 0)) (.seq (.block 1 (sr [qv 15 13,qv 5 15] (.seq (.draw [qv 16 0,qv 17 5,qx 18 1 16 17,ql 19 18,qv 20 1,qv 21 5,qx 22 1 20 21,ql 23 22,qb 24 .neq 19 23] []) (.cond (.t 24) (sr [qq 4 (.mov (.c (.bool false)))] (.ret)) (.skip))))) (.region [qn 25 .add 13 1,qv 13 25]))))))) (sr [qq 4 (.mov (.c (.bool true)))] (.ret)))),[.t 4]⟩
def S72:AF:=⟨sr [qq 6 (.mov (.c (.bool false)))] (.seq (sr [qv 9 0,qq 10 (.nilCheck (.t 9)),qf 11 1 10,qs 12 3 11,qq 13 (.call 71 [.t 12]),qq 14 (.lenSl (.t 13)),qm 15 0] (.block 0 (.loop (sr [qb 16 .lss 15 14] (.seq (.cond (.t 16) (.skip) (.exit 0)) (.seq (.block 1 (sr [qx 17 1 13 15,ql 18 17,qv 8 18] (sr [qv 19 0,qv 20 1,qv 21 8,qq 22 (.call 119 [.t 19,.t 20,.t 21]),qv 23 22,qg 24 (.mov (.t 2)) 23 true,qg 25 (.mov (.t 8)) 23 true,qg 26 (.callV (.t 24) [.t 25]) 23 true,qg 27 (.un .not (.t 26)) 23 true,qq 28 (.pick (.t 23) (.t 27) (.c (.bool false)))] (.cond (.t 28) (sr [qq 6 (.mov (.c (.bool false)))] (.ret)) (.skip))))) (.region [qn 29 .add 15 1,qv 15 29]))))))) (sr [qq 6 (.mov (.c (.bool true)))] (.ret))),[.t 6]⟩
def S73:AF:=⟨sr [qq 3 (.mov (.c (.bool false)))] (sr [ql 4 1,qv 5 0,qq 6 (.buildSl true 1 [(.int .i64 0)] [(0,1,(.t 5))] 1),qq 7 (.append true 1 8 (.t 4) (.t 6)),qu (.store 1 (.t 1) (.t 7))] (sr [qq 3 (.mov (.c (.bool true)))] (.ret))),[.t 3]⟩
def S111:AF:=⟨sr [qq 3 (.box 3 (.t 0)),qq 4 (.box 3 (.t 1)),qq 6 (.mov (.c (.bool false)))] (.seq (sr [qf 9 0 4,ql 10 9,qn 11 .lss 10 0,qv 12 11,qg 13 (.fieldAddr 0 (.t 4)) 12 false,qg 14 (.load none (.t 13)) 12 false,qg 15 (.fieldAddr 0 (.t 3)) 12 false,qg 16 (.load none (.t 15)) 12 false,qg 17 (.lenSl (.t 16)) 12 false,qg 18 (.bin .geq (.t 14) (.t 17)) 12 false,qq 19 (.pick (.t 12) (.c (.bool true)) (.t 18)),qv 20 19,qg 21 (.fieldAddr 1 (.t 4)) 20 false,qg 22 (.load none (.t 21)) 20 false,qg 23 (.bin .lss (.t 22) (nn 1)) 20 false,qq 24 (.pick (.t 20) (.c (.bool true)) (.t 23)),qv 25 24,qg 26 (.fieldAddr 1 (.t 4)) 25 false,qg 27 (.load none (.t 26)) 25 false,qg 28 (.bin .gtr (.t 27) (nn 3)) 25 false,qq 29 (.pick (.t 25) (.c (.bool true)) (.t 28)),qv 30 29,qg 31 (.fieldAddr 2 (.t 4)) 30 false,qg 32 (.load none (.t 31)) 30 false,qg 33 (.lenSl (.t 32)) 30 false,qg 34 (.bin .gtr (.t 33) (nn 20)) 30 false,qq 35 (.pick (.t 30) (.c (.bool true)) (.t 34))] (.cond (.t 35) (sr [qq 6 (.mov (.c (.bool false)))] (.ret)) (.skip))) (.seq (sr [qm 7 0] (.block 0 (.loop (.seq (sr [qv 36 7,qf 37 2 4,ql 38 37,qq 39 (.lenSl (.t 38)),qb 40 .lss 36 39] (.cond (.t 40) (.skip) (.exit 0))) (.seq (.block 1 (sr [qf 43 2 4,ql 44 43,qv 45 7,qx 46 4 44 45,qs 47 4 46,qq 8 (.alloc [(.bool false),(.int .i64 0),(.int .i64 0),(.int .i64 0)]),qu (.store 4 (.t 8) (.t 47))] (.seq (sr [qf 48 1 8,ql 49 48,qn 50 .lss 49 0,qv 51 50,qg 52 (.fieldAddr 1 (.t 8)) 51 false,qg 53 (.load none (.t 52)) 51 false,qg 54 (.fieldAddr 1 (.t 3)) 51 false,qg 55 (.load none (.t 54)) 51 false,qg 56 (.lenSl (.t 55)) 51 false,qg 57 (.bin .geq (.t 53) (.t 56)) 51 false,qq 58 (.pick (.t 51) (.c (.bool true)) (.t 57)),qv 59 58,qg 60 (.fieldAddr 2 (.t 8)) 59 false,qg 61 (.load (some 2) (.t 60)) 59 false,qg 62 (.call 174 [.t 61]) 59 false,qg 63 (.un .not (.t 62)) 59 false,qq 64 (.pick (.t 59) (.c (.bool true)) (.t 63)),qv 65 64,qg 66 (.fieldAddr 0 (.t 8)) 65 false,qg 67 (.load none (.t 66)) 65 false,qg 68 (.mov (.t 67)) 65 false,qg 69 (.fieldAddr 2 (.t 8)) 68 true,qg 70 (.fieldAddr 0 (.t 69)) 68 true,qg 71 (.load none (.t 70)) 68 true,qg 72 (.bin .neq (.t 71) (nn 1)) 68 true,qg 73 (.pick (.t 68) (.t 72) (.c (.bool false))) 65 false,qq 74 (.pick (.t 65) (.c (.bool true)) (.t 73))] (.cond (.t 74) (sr [qq 6 (.mov (.c (.bool false)))] (.ret)) (.skip))) (.region [qv 75 2,qf 76 1 8,ql 77 76,qx 78 1 75 77,qu (.store 1 (.t 78) (.c (.bool true)))])))) (.region [qv 41 7,qn 42 .add 41 1,qv 7 42])))))) (sr [qq 6 (.mov (.c (.bool true)))] (.ret)))),[.t 6]⟩
def S113:AF:=⟨sr [qv 15 0,qq 16 (.nilCheck (.t 15)),qf 17 1 16,qf 18 2 17,ql 19 18,qq 20 (.lenSl (.t 19)),qv 2 20] (sr [qv 21 0,qv 22 2,qq 23 (.mkSl true 1 24 [(.sl none true 0 [])] (.t 22) (.t 22)),qq 24 (.nilCheck (.t 21)),qf 25 7 24,qu (.store 1 (.t 25) (.t 23))] (.seq (sr [qv 26 0,qq 27 (.nilCheck (.t 26)),qf 28 7 27,ql 29 28,qq 30 (.lenSl (.t 29)),qm 31 0] (.block 0 (.loop (sr [qb 32 .lss 31 30] (.seq (.cond (.t 32) (.skip) (.exit 0)) (.seq (.block 1 (sr [qv 33 31,qv 3 33] (.draw [qv 34 0,qq 35 (.nilCheck (.t 34)),qf 36 7 35,ql 37 36,qv 38 3,qv 39 2,qq 40 (.mkSl true 1 1 [(.bool false)] (.t 39) (.t 39)),qx 41 1 37 38,qu (.store 1 (.t 41) (.t 40))] [(3,6)]))) (.region [qn 42 .add 31 1,qv 31 42]))))))) (sr [qv 43 0,qq 44 (.nilCheck (.t 43)),qf 45 1 44,qs 46 3 45,qq 47 (.call 71 [.t 46]),qv 4 47] (.seq (sr [qv 48 4,qq 49 (.lenSl (.t 48)),qm 50 0] (.block 2 (.loop (sr [qb 51 .lss 50 49] (.seq (.cond (.t 51) (.skip) (.exit 2)) (.seq (.block 3 (sr [qv 52 50,qx 53 1 48 50,ql 54 53,qv 5 52,qv 6 54] (sr [qv 55 4,qv 56 5,qq 57 (.slSl 1 (.t 55) none (some (.t 56))),qq 58 (.lenSl (.t 57)),qm 59 0] (.block 4 (.loop (sr [qb 60 .lss 59 58] (.seq (.cond (.t 60) (.skip) (.exit 4)) (.seq (.block 5 (sr [qx 61 1 57 59,ql 62 61,qv 8 62] (.draw [qv 63 0,qq 64 (.nilCheck (.t 63)),qf 65 7 64,ql 66 65,qv 67 6,qx 68 1 66 67,ql 69 68,qv 70 8,qv 71 0,qq 72 (.nilCheck (.t 71)),qf 73 1 72,qf 74 2 73,ql 75 74,qv 76 8,qx 77 3 75 76,qf 78 0 77,ql 79 78,qv 80 0,qq 81 (.nilCheck (.t 80)),qf 82 1 81,qf 83 2 82,ql 84 83,qv 85 6,qx 86 3 84 85,qf 87 0 86,ql 88 87,qb 89 .eql 79 88,qx 90 1 69 70,qu (.store 1 (.t 90) (.t 89))] []))) (.region [qn 91 .add 59 1,qv 59 91]))))))))) (.region [qn 92 .add 50 1,qv 50 92]))))))) (.seq (sr [qv 93 0,qq 94 (.nilCheck (.t 93)),qf 95 4 94,ql 96 95,qq 97 (.lenSl (.t 96)),qm 98 0] (.block 6 (.loop (sr [qb 99 .lss 98 97] (.seq (.cond (.t 99) (.skip) (.exit 6)) (.seq (.block 7 (sr [qv 100 98,qx 101 2 96 98,qs 102 2 101,qq 10 (.alloc [(.int .i64 0),(.int .i64 0)]),qv 9 100,qu (.store 2 (.t 10) (.t 102))] (sr [qv 103 0,qq 104 (.nilCheck (.t 103)),qf 105 5 104,ql 106 105,qv 107 9,qx 108 1 106 107,ql 109 108,qn 110 .geq 109 0] (.cond (.t 110) (.draw [qv 111 0,qq 112 (.nilCheck (.t 111)),qf 113 7 112,ql 114 113,qf 115 0 10,ql 116 115,qx 117 1 114 116,ql 118 117,qv 119 0,qq 120 (.nilCheck (.t 119)),qf 121 5 120,ql 122 121,qv 123 9,qx 124 1 122 123,ql 125 124,qx 126 1 118 125,qu (.store 1 (.t 126) (.c (.bool true)))] []) (.skip))))) (.region [qn 127 .add 98 1,qv 98 127]))))))) (sr [qv 128 2,qm 129 0] (.block 8 (.loop (sr [qb 130 .lss 129 128] (.seq (.cond (.t 130) (.skip) (.exit 8)) (.seq (.block 9 (sr [qv 131 129,qv 11 131] (sr [qv 132 2,qm 133 0] (.block 10 (.loop (sr [qb 134 .lss 133 132] (.seq (.cond (.t 134) (.skip) (.exit 10)) (.seq (.block 11 (sr [qv 135 133,qv 12 135] (.seq (sr [qv 136 0,qq 137 (.nilCheck (.t 136)),qf 138 7 137,ql 139 138,qv 140 12,qx 141 1 139 140,ql 142 141,qv 143 11,qx 144 1 142 143,ql 145 144,qq 146 (.un .not (.t 145))] (.cond (.t 146) (.exit 11) (.skip))) (sr [qv 147 0,qq 148 (.nilCheck (.t 147)),qf 149 7 148,ql 150 149,qv 151 11,qx 152 1 150 151,ql 153 152,qq 154 (.lenSl (.t 153)),qm 155 0] (.block 12 (.loop (sr [qb 156 .lss 155 154] (.seq (.cond (.t 156) (.skip) (.exit 12)) (.seq (.block 13 (sr [qv 157 155,qx 158 1 153 155,ql 159 158,qv 13 157,qv 14 159] (.draw [qv 160 0,qq 161 (.nilCheck (.t 160)),qf 162 7 161,ql 163 162,qv 164 12,qx 165 1 163 164,ql 166 165,qv 167 13,qv 168 0,qq 169 (.nilCheck (.t 168)),qf 170 7 169,ql 171 170,qv 172 12,qx 173 1 171 172,ql 174 173,qv 175 13,qx 176 1 174 175,ql 177 176,qv 178 177,qg 179 (.mov (.t 14)) 178 false,qq 180 (.pick (.t 178) (.c (.bool true)) (.t 179)),qx 181 1 166 167,qu (.store 1 (.t 181) (.t 180))] []))) (.region [qn 182 .add 155 1,qv 155 182])))))))))) (.region [qn 183 .add 133 1,qv 133 183]))))))))) (.region [qn 184 .add 129 1,qv 129 184])))))))))))),[]⟩
def S115:AF:=⟨sr [qq 5 (.mov (.c (.bool false)))] (.seq (.draw [ql 9 1,qq 10 (.nilCheck (.t 9)),qf 11 1 10,qs 12 3 11,qv 13 0,ql 14 1,qq 15 (.nilCheck (.t 14)),qf 16 1 15,qf 17 2 16,ql 18 17,qf 19 0 2,ql 20 19,qx 21 3 18 20,qf 22 2 21,ql 23 22,qf 24 1 2,ql 25 24,qx 26 4 23 25,qf 27 1 26,ql 28 27,qq 29 (.call 116 [.t 12,.t 13,.t 28]),qv 8 29,qe 30 8 0,qe 31 8 1,qq 6 (.alloc [(.int .i64 0),(.int .i64 0)]),qu (.store 2 (.t 6) (.t 30)),qv 7 31] [(0,24),(3,24),(5,24),(9,24),(11,24),(14,24),(16,24),(19,24),(20,24)]) (.seq (.draw [qv 32 0,ql 33 3,qb 34 .eql 32 33,qv 35 34,qg 36 (.mov (.t 7)) 35 false,qg 37 (.un .not (.t 36)) 35 false,qq 38 (.pick (.t 35) (.c (.bool true)) (.t 37)),qv 39 38,qg 40 (.load none (.t 1)) 39 false,qg 41 (.nilCheck (.t 40)) 39 false,qg 42 (.fieldAddr 6 (.t 41)) 39 false,qg 43 (.load none (.t 42)) 39 false,qg 44 (.mov (.t 0)) 39 false,qg 45 (.lookup .int (.int .i64 0) false (.t 43) (.t 44)) 39 false,qg 46 (.load none (.t 1)) 39 false,qg 47 (.nilCheck (.t 46)) 39 false,qg 48 (.fieldAddr 6 (.t 47)) 39 false,qg 49 (.load none (.t 48)) 39 false,qg 50 (.load none (.t 3)) 39 false,qg 51 (.lookup .int (.int .i64 0) false (.t 49) (.t 50)) 39 false,qg 52 (.bin .lss (.t 45) (.t 51)) 39 false,qq 53 (.pick (.t 39) (.c (.bool true)) (.t 52)),qv 5 53] []) (.ret))),[.t 5]⟩
def S119:AF:=⟨sr [qq 6 (.mov (.c (.bool false)))] (sr [qv 10 0,qq 11 (.nilCheck (.t 10)),qf 12 4 11,ql 13 12,qv 14 1,qx 15 2 13 14,qs 16 2 15,qq 7 (.alloc [(.int .i64 0),(.int .i64 0)]),qu (.store 2 (.t 7) (.t 16))] (.seq (sr [qv 17 0,qq 18 (.nilCheck (.t 17)),qf 19 0 18,ql 20 19] (.block 0 (sr [qn 22 .eql 20 1,qv 21 22] (.cond (.t 21) (.seq (sr [qv 23 0,qq 24 (.nilCheck (.t 23)),qf 25 4 24,ql 26 25,qq 27 (.lenSl (.t 26)),qm 28 0] (.block 1 (.loop (sr [qb 29 .lss 28 27] (.seq (.cond (.t 29) (.skip) (.exit 1)) (.seq (.block 2 (sr [qv 30 28,qx 31 2 26 28,qs 32 2 31,qq 9 (.alloc [(.int .i64 0),(.int .i64 0)]),qv 8 30,qu (.store 2 (.t 9) (.t 32))] (sr [qf 33 0 9,ql 34 33,qf 35 0 7,ql 36 35,qb 37 .eql 34 36,qv 38 37,qg 39 (.fieldAddr 1 (.t 9)) 38 true,qg 40 (.load none (.t 39)) 38 true,qg 41 (.fieldAddr 1 (.t 7)) 38 true,qg 42 (.load none (.t 41)) 38 true,qg 43 (.bin .lss (.t 40) (.t 42)) 38 true,qq 44 (.pick (.t 38) (.t 43) (.c (.bool false))),qv 45 44,qg 46 (.mov (.t 0)) 45 true,qg 47 (.nilCheck (.t 46)) 45 true,qg 48 (.fieldAddr 5 (.t 47)) 45 true,qg 49 (.load none (.t 48)) 45 true,qg 50 (.mov (.t 8)) 45 true,qg 51 (.idxSl 1 (.t 49) (.t 50)) 45 true,qg 52 (.load none (.t 51)) 45 true,qg 53 (.mov (.t 2)) 45 true,qg 54 (.bin .eql (.t 52) (.t 53)) 45 true,qq 55 (.pick (.t 45) (.t 54) (.c (.bool false)))] (.cond (.t 55) (sr [qq 6 (.mov (.c (.bool true)))] (.ret)) (.skip))))) (.region [qn 56 .add 28 1,qv 28 56]))))))) (sr [qq 6 (.mov (.c (.bool false)))] (.ret))) (sr [qn 58 .eql 20 2,qv 57 58] (.cond (.t 57) (.seq (.draw [qv 59 0,qq 60 (.nilCheck (.t 59)),qf 61 7 60,ql 62 61,qf 63 0 7,ql 64 63,qx 65 1 62 64,ql 66 65,qv 67 2,qx 68 1 66 67,ql 69 68,qv 6 69] []) (.ret)) (.skip))))))) (.seq (.draw [qv 70 0,qq 71 (.nilCheck (.t 70)),qf 72 6 71,ql 73 72,qv 74 2,qq 75 (.lookup .int (.int .i64 0) false (.t 73) (.t 74)),qv 76 0,qq 77 (.nilCheck (.t 76)),qf 78 6 77,ql 79 78,qf 80 0 7,ql 81 80,qq 82 (.lookup .int (.int .i64 0) false (.t 79) (.t 81)),qb 83 .lss 75 82,qv 6 83] []) (.ret)))),[.t 6]⟩
def S153:AF:=⟨sr [qq 4 (.mov (.c (.bool false)))] (sr [qv 5 0,qv 6 1,qq 7 (.call 213 [.t 5,.t 6]),qn 8 .geq 7 0,qv 4 8] (.ret)),[.t 4]⟩
def S154:AF:=⟨sr [qq 2 (.box 3 (.t 0)),qq 3 (.mov (.c (.bool false)))] (sr [qs 4 3 1,qs 5 3 2,qq 6 (.call 155 [.t 4,.t 5]),qq 7 (.un .not (.t 6)),qv 3 7] (.ret)),[.t 3]⟩
def S156:AF:=⟨sr [qq 1 (.box 3 (.t 0)),qq 2 (.mov (.c .nilfn))] (sr [qq 3 (.mkFn (.func 215) [] [.t 1]),qv 2 3] (.ret)),[.t 2]⟩
def S168:AF:=⟨sr [qq 2 (.mov (.c .nilptr)),qm 3 0,qm 4 0] (sr [qq 9 (.mkMap),qq 10 (.mkMap),qq 11 (.mkMap),qq 12 (.build [(.sl none true 0 []),.nilmap,.nilmap,.nilmap] [(1,1,(.t 9)),(2,1,(.t 10)),(3,1,(.t 11))]),qq 13 (.box 4 (.t 12)),qv 5 13] (.seq (sr [qv 14 0,qq 15 (.lenSl (.t 14)),qm 16 0] (.block 0 (.loop (sr [qb 17 .lss 16 15] (.seq (.cond (.t 17) (.skip) (.exit 0)) (.seq (.block 1 (sr [qx 18 6 14 16,qs 19 6 18,qq 7 (.alloc [(.int .i64 0),(.str []),(.str []),(.int .i64 0),(.int .i64 0),(.int .i64 0)]),qu (.store 6 (.t 7) (.t 19))] (sr [qv 20 5,qs 21 6 7,qq 22 (.call 231 [.t 20,.t 21]),qv 8 22] (sr [qv 23 8,qn 24 .neq 23 0] (.cond (.t 24) (.seq (.draw [qv 25 5,qf 26 5 7,ql 27 26,qv 28 8,qv 2 25,qv 3 27,qv 4 28] []) (.ret)) (.skip)))))) (.region [qn 29 .add 16 1,qv 16 29]))))))) (sr [qv 30 5,qv 2 30,qm 3 0,qm 4 0] (.ret)))),[.t 2,.t 3,.t 4]⟩
def S169:AF:=⟨sr [qq 2 (.mov (.c (.sl none true 0 [])))] (sr [qq 3 (.mov (.c (.sl none true 0 [])))] (.seq (sr [qv 5 0,qq 6 (.range false (.t 5))] (.block 0 (.loop (sr [qq 7 (.nextMap (.t 6)),qe 8 7 0] (.seq (.cond (.t 8) (.skip) (.exit 0)) (.block 1 (sr [qq 9 (.entry (.t 6)),qe 10 9 0,qv 4 10] (.region [qv 11 3,qv 12 4,qq 13 (.buildSl true 1 [(.str [])] [(0,1,(.t 12))] 1),qq 14 (.append true 1 16 (.t 11) (.t 13)),qv 3 14])))))))) (sr [qv 15 3,qq 16 (.call 232 [.t 15]),qv 2 16] (.ret)))),[.t 2]⟩
def S171:AF:=⟨sr [qq 4 (.mov (.c (.sl none true 0 [])))] (sr [qv 10 0,qq 11 (.lenSl (.t 10)),qq 12 (.mkSl true 1 8 [(.int .i64 0)] (.t 11) (.t 11)),qv 5 12] (.seq (sr [qv 13 0,qq 14 (.lenSl (.t 13)),qm 15 0] (.block 0 (.loop (sr [qb 16 .lss 15 14] (.seq (.cond (.t 16) (.skip) (.exit 0)) (.seq (.block 1 (sr [qv 17 15,qx 18 1 13 15,ql 19 18,qv 6 17,qv 7 19] (sr [qv 21 1,qv 22 7,qq 23 (.call 170 [.t 21,.t 22]),qv 20 23,qe 24 20 0,qe 25 20 1,qv 8 24,qv 9 25] (.seq (sr [qv 26 9,qq 27 (.un .not (.t 26))] (.cond (.t 27) (.region [qq 8 (.mov (nn (-1)))]) (.skip))) (.region [qv 28 5,qv 29 6,qv 30 8,qx 31 1 28 29,qu (.store 1 (.t 31) (.t 30))]))))) (.region [qn 32 .add 15 1,qv 15 32]))))))) (sr [qv 33 5,qv 4 33] (.ret)))),[.t 4]⟩
def S213:AF:=⟨sr [qm 4 0] (.seq (sr [qv 6 0,qq 7 (.lenSl (.t 6)),qm 8 0] (.block 0 (.loop (sr [qb 9 .lss 8 7] (.seq (.cond (.t 9) (.skip) (.exit 0)) (.seq (.block 1 (sr [qv 10 8,qv 5 10] (sr [qv 11 1,qv 12 0,qv 13 5,qx 14 3 12 13,qs 15 3 14,qq 16 (.callV (.t 11) [.t 15])] (.cond (.t 16) (sr [qv 17 5,qv 4 17] (.ret)) (.skip))))) (.region [qn 18 .add 8 1,qv 8 18]))))))) (sr [qq 4 (.mov (nn (-1)))] (.ret))),[.t 4]⟩
def S215:AF:=⟨sr [qf 7 2 1,ql 8 7,qq 9 (.lenSl (.t 8)),qm 10 0] (.block 0 (.loop (sr [qb 11 .lss 10 9] (.seq (.cond (.t 11) (.skip) (.exit 0)) (.seq (.block 1 (sr [qv 12 10,qx 13 3 8 10,qs 14 3 13,qq 4 (.alloc [(.int .i64 0),(.int .i64 0),(.sl none true 0 [])]),qv 3 12,qu (.store 3 (.t 4) (.t 14))] (sr [qf 15 2 4,ql 16 15,qq 17 (.lenSl (.t 16)),qm 18 0] (.block 2 (.loop (sr [qb 19 .lss 18 17] (.seq (.cond (.t 19) (.skip) (.exit 2)) (.seq (.block 3 (sr [qv 20 18,qx 21 4 16 18,qs 22 4 21,qq 6 (.alloc [(.bool false),(.int .i64 0),(.int .i64 0),(.int .i64 0)]),qv 5 20,qu (.store 4 (.t 6) (.t 22))] (sr [qv 23 0,qv 24 3,qv 25 5,qq 26 (.build [(.int .i64 0),(.int .i64 0)] [(0,1,(.t 24)),(1,1,(.t 25))]),qs 27 4 6,qq 28 (.callV (.t 23) [.t 26,.t 27]),qq 29 (.un .not (.t 28))] (.cond (.t 29) (.ret) (.skip))))) (.region [qn 30 .add 18 1,qv 18 30]))))))))) (.region [qn 31 .add 10 1,qv 10 31])))))),[]⟩
def S231:AF:=⟨sr [qq 3 (.box 6 (.t 1)),qm 4 0] (.seq (sr [qs 6 6 3,qq 7 (.call 269 [.t 6]),qq 8 (.un .not (.t 7))] (.cond (.t 8) (sr [qm 4 4] (.ret)) (.skip))) (.seq (sr [qf 9 0 3,ql 10 9,qn 11 .eql 10 1] (.cond (.t 11) (sr [qv 12 0,qs 13 6 3,qq 14 (.call 270 [.t 12,.t 13]),qv 4 14] (.ret)) (.skip))) (.seq (.draw [qv 15 0,qq 16 (.nilCheck (.t 15)),qf 17 1 16,ql 18 17,qf 19 1 3,ql 20 19,qq 21 (.lookup .str .nilptr false (.t 18) (.t 20)),qv 5 21] []) (.seq (.block 0 (sr [qv 27 5,qq 28 (.eq false .ptr (.t 27) (.c .nilptr)),qv 26 28] (.cond (.t 26) (sr [qm 4 10] (.ret)) (sr [qf 30 0 3,ql 31 30,qn 32 .eql 31 2,qv 33 32,qg 34 (.fieldAddr 0 (.t 3)) 33 false,qg 35 (.load none (.t 34)) 33 false,qg 36 (.bin .eql (.t 35) (nn 3)) 33 false,qq 37 (.pick (.t 33) (.c (.bool true)) (.t 36)),qv 29 37] (.cond (.t 29) (sr [qv 38 0,qv 39 5,qs 40 6 3,qq 41 (.call 271 [.t 38,.t 39,.t 40]),qv 4 41] (.ret)) (sr [qf 43 0 3,ql 44 43,qn 45 .eql 44 4,qv 42 45] (.cond (.t 42) (.region [qv 46 5,qq 47 (.nilCheck (.t 46)),qf 48 3 47,qf 49 1 48,qu (.store 1 (.t 49) (nn 1))]) (sr [qf 51 0 3,ql 52 51,qn 53 .eql 52 5,qv 50 53] (.cond (.t 50) (.region [qv 54 5,qq 55 (.nilCheck (.t 54)),qf 56 3 55,qf 57 1 56,qu (.store 1 (.t 57) (nn 2))]) (.region [qv 22 5,qq 23 (.nilCheck (.t 22)),qf 24 3 23,qf 25 1 24,qu (.store 1 (.t 25) (nn 3))])))))))))) (.seq (.draw [qv 58 0,qq 59 (.nilCheck (.t 58)),qf 60 1 59,ql 61 60,qf 62 1 3,ql 63 62,qu (.mapDel .str (.t 61) (.t 63))] []) (sr [qm 4 0] (.ret))))))),[.t 4]⟩
def S232:AF:=⟨sr [qq 2 (.mov (.c (.sl none true 0 [])))] (sr [qv 3 0,qq 4 (.call 272 [.t 3]),qv 2 4] (.ret)),[.t 2]⟩
def S237:AF:=⟨sr [qq 1 (.box 1 (.t 0)),qq 2 (.mov (.c .nilfn))] (sr [qq 3 (.mkFn (.func 274) [] [.t 1]),qv 2 3] (.ret)),[.t 2]⟩
def S255:AF:=⟨sr [qq 3 (.box 3 (.t 0)),qq 6 (.mov (.c .nilmap))] (sr [qq 10 (.mkMap),qv 7 10] (.seq (sr [qs 11 3 3,qv 12 2,qq 13 (.call 281 [.t 11,.t 12]),qq 14 (.lenSl (.t 13)),qm 15 0] (.block 0 (.loop (sr [qb 16 .lss 15 14] (.seq (.cond (.t 16) (.skip) (.exit 0)) (.seq (.block 1 (sr [qx 17 1 13 15,ql 18 17,qv 9 18] (sr [qv 19 9,qv 20 1,qb 21 .neq 19 20] (.cond (.t 21) (.region [qv 23 7,qv 24 9,qs 25 3 3,qv 26 9,qv 27 2,qq 28 (.call 116 [.t 25,.t 26,.t 27]),qv 22 28,qe 29 22 0,qe 30 22 1,qu (.mapSet .int (.t 23) (.t 24) (.t 29))]) (.skip))))) (.region [qn 31 .add 15 1,qv 15 31]))))))) (sr [qv 32 7,qv 6 32] (.ret)))),[.t 6]⟩
end Go.Pv.T

/- The compiled functions, part 2. -/
namespace Go.Pv.T
open Go Go.Pv
def S270:AF:=⟨sr [qq 3 (.box 6 (.t 1)),qm 4 0] (.seq (.block 0 (.seq (.draw [qv 7 0,qq 8 (.nilCheck (.t 7)),qf 9 1 8,ql 10 9,qf 11 1 3,ql 12 11,qq 13 (.lookup .str .nilptr false (.t 10) (.t 12)),qq 14 (.eq true .ptr (.t 13) (.c .nilptr)),qv 6 14] []) (.cond (.t 6) (sr [qm 4 9] (.ret)) (.seq (.draw [qv 16 0,qq 17 (.nilCheck (.t 16)),qf 18 2 17,ql 19 18,qf 20 1 3,ql 21 20,qq 22 (.lookup .str (.int .i64 0) false (.t 19) (.t 21)),qn 23 .eql 22 0,qv 24 23,qg 25 (.mov (.t 0)) 24 true,qg 26 (.nilCheck (.t 25)) 24 true,qg 27 (.fieldAddr 2 (.t 26)) 24 true,qg 28 (.load none (.t 27)) 24 true,qg 29 (.lenMap (.t 28)) 24 true,qg 30 (.bin .eql (.t 29) (nn 20)) 24 true,qq 31 (.pick (.t 24) (.t 30) (.c (.bool false))),qv 32 31,qg 33 (.mov (.t 0)) 32 false,qg 34 (.nilCheck (.t 33)) 32 false,qg 35 (.fieldAddr 0 (.t 34)) 32 false,qg 36 (.load none (.t 35)) 32 false,qg 37 (.lenSl (.t 36)) 32 false,qg 38 (.bin .eql (.t 37) (nn 40)) 32 false,qq 39 (.pick (.t 32) (.c (.bool true)) (.t 38)),qv 15 39] []) (.cond (.t 15) (sr [qm 4 7] (.ret)) (.skip)))))) (sr [qf 40 1 3,ql 41 40,qf 42 5 3,ql 43 42,qq 44 (.build [(.str []),(.sl none true 0 []),(.int .i64 0),(.int .i64 0),(.int .i64 0),(.sl none true 0 [])] [(0,1,(.t 41)),(2,1,(.t 43))]),qq 45 (.box 6 (.t 44)),qv 5 45] (sr [qv 46 0,qv 47 0,qq 48 (.nilCheck (.t 47)),qf 49 0 48,ql 50 49,qv 51 5,qq 52 (.buildSl true 1 [.nilptr] [(0,1,(.t 51))] 1),qq 53 (.append true 1 8 (.t 50) (.t 52)),qq 54 (.nilCheck (.t 46)),qf 55 0 54,qu (.store 1 (.t 55) (.t 53))] (.seq (.draw [qv 56 0,qq 57 (.nilCheck (.t 56)),qf 58 1 57,ql 59 58,qf 60 1 3,ql 61 60,qv 62 5,qu (.mapSet .str (.t 59) (.t 61) (.t 62))] []) (.seq (.draw [qv 63 0,qq 64 (.nilCheck (.t 63)),qf 65 2 64,ql 66 65,qf 67 1 3,ql 68 67,qq 69 (.lookup .str (.int .i64 0) false (.t 66) (.t 68)),qn 70 .add 69 1,qu (.mapSet .str (.t 66) (.t 68) (.t 70))] []) (sr [qm 4 0] (.ret))))))),[.t 4]⟩
def S271:AF:=⟨sr [qq 5 (.box 6 (.t 2)),qm 6 0] (.seq (.seq (.draw [qv 7 1,qq 8 (.nilCheck (.t 7)),qf 9 3 8,qf 10 2 9,ql 11 10,qq 12 (.lenSl (.t 11)),qn 13 .eql 12 20,qv 14 13,qg 15 (.mov (.t 0)) 14 false,qg 16 (.nilCheck (.t 15)) 14 false,qg 17 (.fieldAddr 3 (.t 16)) 14 false,qg 18 (.load none (.t 17)) 14 false,qg 19 (.fieldAddr 2 (.t 5)) 14 false,qg 20 (.load none (.t 19)) 14 false,qg 21 (.lookup .str (.int .i64 0) false (.t 18) (.t 20)) 14 false,qg 22 (.bin .eql (.t 21) (nn 0)) 14 false,qg 23 (.mov (.t 22)) 14 false,qg 24 (.mov (.t 0)) 23 true,qg 25 (.nilCheck (.t 24)) 23 true,qg 26 (.fieldAddr 3 (.t 25)) 23 true,qg 27 (.load none (.t 26)) 23 true,qg 28 (.lenMap (.t 27)) 23 true,qg 29 (.bin .eql (.t 28) (nn 40)) 23 true,qg 30 (.pick (.t 23) (.t 29) (.c (.bool false))) 14 false,qq 31 (.pick (.t 14) (.c (.bool true)) (.t 30))] []) (.cond (.t 31) (sr [qm 6 7] (.ret)) (.skip))) (.seq (.draw [qv 32 0,qq 33 (.nilCheck (.t 32)),qf 34 3 33,ql 35 34,qf 36 2 5,ql 37 36,qq 38 (.lookup .str (.int .i64 0) false (.t 35) (.t 37)),qn 39 .add 38 1,qu (.mapSet .str (.t 35) (.t 37) (.t 39))] []) (.seq (.draw [qv 40 1,qv 41 1,qq 42 (.nilCheck (.t 41)),qf 43 3 42,qf 44 2 43,ql 45 44,qf 46 0 5,ql 47 46,qn 48 .eql 47 3,qf 49 3 5,qs 50 2 49,qq 51 (.build [(.bool false),(.int .i64 0),(.int .i64 0),(.int .i64 0)] [(0,1,(.t 48)),(2,2,(.t 50))]),qq 52 (.buildSl true 4 [(.bool false),(.int .i64 0),(.int .i64 0),(.int .i64 0)] [(0,4,(.t 51))] 1),qq 53 (.append true 4 32 (.t 45) (.t 52)),qq 54 (.nilCheck (.t 40)),qf 55 3 54,qf 56 2 55,qu (.store 1 (.t 56) (.t 53))] [(5,12)]) (.seq (.draw [qv 57 1,qv 58 1,qq 59 (.nilCheck (.t 58)),qf 60 1 59,ql 61 60,qf 62 2 5,ql 63 62,qq 64 (.buildSl true 1 [(.str [])] [(0,1,(.t 63))] 1),qq 65 (.append true 1 16 (.t 61) (.t 64)),qq 66 (.nilCheck (.t 57)),qf 67 1 66,qu (.store 1 (.t 67) (.t 65))] [(4,7)]) (sr [qm 6 0] (.ret)))))),[.t 6]⟩
def S272:AF:=⟨sr [qq 2 (.mov (.c (.sl none true 0 [])))] (sr [qq 3 (.mov (.c (.sl none true 0 [])))] (.seq (sr [qv 6 0,qq 7 (.lenSl (.t 6)),qm 8 0] (.block 0 (.loop (sr [qb 9 .lss 8 7] (.seq (.cond (.t 9) (.skip) (.exit 0)) (.seq (.block 1 (sr [qx 10 1 6 8,ql 11 10,qv 5 11] (sr [qv 12 5,qq 13 (.call 229 [.t 12])] (.cond (.t 13) (.region [qv 14 3,qv 15 5,qq 16 (.buildSl true 1 [(.str [])] [(0,1,(.t 15))] 1),qq 17 (.append true 1 16 (.t 14) (.t 16)),qv 3 17]) (.skip))))) (.region [qn 18 .add 8 1,qv 8 18]))))))) (sr [qv 19 3,qq 20 (.call 291 [(.t 19),(.c (.fn (.func 280) [] []))])] (sr [qv 21 3,qq 22 (.call 292 [.t 21]),qv 2 22] (.ret))))),[.t 2]⟩
def S274:AF:=⟨sr [ql 4 1,qq 5 (.lenSl (.t 4)),qn 6 .sub 5 1,qv 3 6] (.block 0 (.loop (.seq (sr [qv 7 3,qn 8 .geq 7 0] (.cond (.t 8) (.skip) (.exit 0))) (.seq (.block 1 (sr [qv 11 0,qv 12 3,ql 13 1,qv 14 3,qx 15 4 13 14,qs 16 4 15,qq 17 (.callV (.t 11) [.t 12,.t 16]),qq 18 (.un .not (.t 17))] (.cond (.t 18) (.ret) (.skip)))) (.region [qv 9 3,qn 10 .sub 9 1,qv 3 10]))))),[]⟩
def S291:AF:=⟨sr [qv 5 0,qq 6 (.lenSl (.t 5)),qv 4 6] (.region [qv 7 0,qv 8 4,qv 9 4,qq 10 (.conv .u64 (.t 9)),qq 11 (.call 118 [.t 10]),qv 12 1,qq 13 (.call 303 [(.t 7),(nn 0),(.t 8),(.t 11),(.t 12)])]),[]⟩
def S292:AF:=⟨sr [qq 2 (.mov (.c (.sl none true 0 [])))] (.seq (sr [qv 6 0,qq 7 (.lenSl (.t 6)),qn 8 .lss 7 2] (.cond (.t 8) (sr [qv 9 0,qv 2 9] (.ret)) (.skip))) (.seq (sr [qm 3 1] (.block 0 (.loop (.seq (sr [qv 10 3,qv 11 0,qq 12 (.lenSl (.t 11)),qb 13 .lss 10 12] (.cond (.t 13) (.skip) (.exit 0))) (.seq (.block 1 (.seq (.draw [qv 16 0,qv 17 3,qx 18 1 16 17,ql 19 18,qv 20 0,qv 21 3,qn 22 .sub 21 1,qx 23 1 20 22,ql 24 23,qb 25 .eql 19 24] []) (.cond (.t 25) (sr [qv 26 0,qv 27 3,qq 28 (.slSl 1 (.t 26) (some (.t 27)) none),qv 4 28] (.seq (sr [qm 5 1] (.block 2 (.loop (.seq (sr [qv 29 5,qv 30 4,qq 31 (.lenSl (.t 30)),qb 32 .lss 29 31] (.cond (.t 32) (.skip) (.exit 2))) (.seq (.block 3 (.seq (.draw [qv 35 4,qv 36 5,qx 37 1 35 36,ql 38 37,qv 39 4,qv 40 5,qn 41 .sub 40 1,qx 42 1 39 41,ql 43 42,qb 44 .neq 38 43] []) (.cond (.t 44) (sr [qv 45 0,qv 46 3,qv 47 4,qv 48 5,qx 49 1 47 48,ql 50 49,qx 51 1 45 46,qu (.store 1 (.t 51) (.t 50))] (.region [qv 52 3,qn 53 .add 52 1,qv 3 53])) (.skip)))) (.region [qv 33 5,qn 34 .add 33 1,qv 5 34])))))) (sr [qv 54 0,qv 55 3,qq 56 (.slSl 1 (.t 54) (some (.t 55)) none),qu (.clear 1 [(.str [])] (.t 56))] (sr [qv 57 0,qv 58 3,qq 59 (.slSl 1 (.t 57) none (some (.t 58))),qv 2 59] (.ret))))) (.skip)))) (.region [qv 14 3,qn 15 .add 14 1,qv 3 15])))))) (sr [qv 60 0,qv 2 60] (.ret)))),[.t 2]⟩
def S294:AF:=⟨sr [qq 2 (.box 3 (.t 0)),qq 3 (.mov (.c (.bool false)))] (sr [qf 4 1 2,ql 5 4,qn 6 .neq 5 2,qv 7 6,qg 8 (.fieldAddr 2 (.t 2)) 7 true,qg 9 (.load none (.t 8)) 7 true,qg 10 (.mkFn (.func 296) [] [.t 1]) 7 true,qg 11 (.call 295 [.t 9,.t 10]) 7 true,qq 12 (.pick (.t 7) (.t 11) (.c (.bool false))),qv 3 12] (.ret)),[.t 3]⟩
def S295:AF:=⟨sr [qq 4 (.mov (.c (.bool false)))] (sr [qv 5 0,qv 6 1,qq 7 (.call 305 [.t 5,.t 6]),qn 8 .geq 7 0,qv 4 8] (.ret)),[.t 4]⟩
def S296:AF:=⟨sr [qq 2 (.box 4 (.t 0)),qq 3 (.mov (.c (.bool false)))] (sr [qf 4 0 2,ql 5 4,qv 6 5,qg 7 (.fieldAddr 1 (.t 2)) 6 true,qg 8 (.load none (.t 7)) 6 true,qg 9 (.load none (.t 1)) 6 true,qg 10 (.bin .eql (.t 8) (.t 9)) 6 true,qq 11 (.pick (.t 6) (.t 10) (.c (.bool false))),qv 3 11] (.ret)),[.t 3]⟩
def S303:AF:=⟨sr [qq 10 (.mov (.c (.bool true)))] (sr [qq 11 (.mov (.c (.bool true)))] (.block 0 (.loop (.block 1 (sr [qv 21 2,qv 22 1,qb 23 .sub 21 22,qv 12 23] (.seq (sr [qv 24 12,qn 25 .leq 24 12] (.cond (.t 25) (sr [qv 26 0,qv 27 1,qv 28 2,qv 29 4,qq 30 (.call 312 [.t 26,.t 27,.t 28,.t 29])] (.ret)) (.skip))) (.seq (sr [qv 31 3,qn 32 .eql 31 0] (.cond (.t 32) (sr [qv 33 0,qv 34 1,qv 35 2,qv 36 4,qq 37 (.call 313 [.t 33,.t 34,.t 35,.t 36])] (.ret)) (.skip))) (.seq (sr [qv 38 10,qq 39 (.un .not (.t 38))] (.cond (.t 39) (sr [qv 40 0,qv 41 1,qv 42 2,qv 43 4,qq 44 (.call 314 [.t 40,.t 41,.t 42,.t 43])] (.region [qv 45 3,qn 46 .sub 45 1,qv 3 46])) (.skip))) (sr [qv 48 0,qv 49 1,qv 50 2,qv 51 4,qq 52 (.call 315 [.t 48,.t 49,.t 50,.t 51]),qv 47 52,qe 53 47 0,qe 54 47 1,qv 13 53,qv 14 54] (.seq (sr [qv 55 14,qn 56 .eql 55 2] (.cond (.t 56) (sr [qv 57 0,qv 58 1,qv 59 2,qv 60 4,qq 61 (.call 316 [.t 57,.t 58,.t 59,.t 60])] (sr [qv 62 2,qn 63 .sub 62 1,qv 64 13,qv 65 1,qb 66 .sub 64 65,qb 67 .sub 63 66,qv 13 67] (.region [qm 14 1]))) (.skip))) (.seq (sr [qv 68 10,qv 69 68,qg 70 (.mov (.t 11)) 69 true,qq 71 (.pick (.t 69) (.t 70) (.c (.bool false))),qv 72 71,qg 73 (.mov (.t 14)) 72 true,qg 74 (.bin .eql (.t 73) (nn 1)) 72 true,qq 75 (.pick (.t 72) (.t 74) (.c (.bool false)))] (.cond (.t 75) (sr [qv 76 0,qv 77 1,qv 78 2,qv 79 4,qq 80 (.call 317 [.t 76,.t 77,.t 78,.t 79])] (.cond (.t 80) (.ret) (.skip))) (.skip))) (.seq (.seq (.seq (.draw [qv 81 1,qn 82 .gtr 81 0,qv 83 82,qg 84 (.mov (.t 4)) 83 true,qg 85 (.mov (.t 0)) 83 true,qg 86 (.mov (.t 1)) 83 true,qg 87 (.bin .sub (.t 86) (nn 1)) 83 true,qg 88 (.idxSl 1 (.t 85) (.t 87)) 83 true,qg 89 (.load none (.t 88)) 83 true,qg 90 (.mov (.t 0)) 83 true,qg 91 (.mov (.t 13)) 83 true,qg 92 (.idxSl 1 (.t 90) (.t 91)) 83 true,qg 93 (.load none (.t 92)) 83 true] []) (.region [qg 94 (.callV (.t 84) [.t 89,.t 93]) 83 true,qg 95 (.bin .lss (.t 94) (nn 0)) 83 true,qg 96 (.un .not (.t 95)) 83 true,qq 97 (.pick (.t 83) (.t 96) (.c (.bool false)))])) (.cond (.t 97) (sr [qv 98 0,qv 99 1,qv 100 2,qv 101 13,qv 102 4,qq 103 (.call 318 [.t 98,.t 99,.t 100,.t 101,.t 102]),qv 15 103] (sr [qv 104 15,qv 1 104] (.exit 1))) (.skip))) (sr [qv 106 0,qv 107 1,qv 108 2,qv 109 13,qv 110 4,qq 111 (.call 319 [.t 106,.t 107,.t 108,.t 109,.t 110]),qv 105 111,qe 112 105 0,qe 113 105 1,qv 16 112,qv 17 113] (sr [qv 114 17,qv 11 114] (sr [qv 115 16,qv 116 1,qb 117 .sub 115 116,qv 118 2,qv 119 16,qb 120 .sub 118 119,qv 18 117,qv 19 120] (sr [qv 121 12,qn 122 .quo 121 8,qv 20 122] (sr [qv 123 18,qv 124 19,qb 125 .lss 123 124] (.cond (.t 125) (sr [qv 126 18,qv 127 20,qb 128 .geq 126 127,qv 10 128] (sr [qv 129 0,qv 130 1,qv 131 16,qv 132 3,qv 133 4,qq 134 (.call 303 [.t 129,.t 130,.t 131,.t 132,.t 133])] (.region [qv 135 16,qn 136 .add 135 1,qv 1 136]))) (sr [qv 137 19,qv 138 20,qb 139 .geq 137 138,qv 10 139] (sr [qv 140 0,qv 141 16,qn 142 .add 141 1,qv 143 2,qv 144 3,qv 145 4,qq 146 (.call 303 [.t 140,.t 142,.t 143,.t 144,.t 145])] (.region [qv 147 16,qv 2 147]))))))))))))))))))))),[]⟩
def S305:AF:=⟨sr [qm 4 0] (.seq (sr [qv 6 0,qq 7 (.lenSl (.t 6)),qm 8 0] (.block 0 (.loop (sr [qb 9 .lss 8 7] (.seq (.cond (.t 9) (.skip) (.exit 0)) (.seq (.block 1 (sr [qv 10 8,qv 5 10] (sr [qv 11 1,qv 12 0,qv 13 5,qx 14 4 12 13,qs 15 4 14,qq 16 (.callV (.t 11) [.t 15])] (.cond (.t 16) (sr [qv 17 5,qv 4 17] (.ret)) (.skip))))) (.region [qn 18 .add 8 1,qv 8 18]))))))) (sr [qq 4 (.mov (nn (-1)))] (.ret))),[.t 4]⟩
def S312:AF:=⟨sr [qv 10 1,qn 11 .add 10 1,qv 8 11] (.block 0 (.loop (.seq (sr [qv 12 8,qv 13 2,qb 14 .lss 12 13] (.cond (.t 14) (.skip) (.exit 0))) (.seq (.block 1 (sr [qv 17 8,qv 9 17] (.block 2 (.loop (.seq (.seq (.seq (.draw [qv 18 9,qv 19 1,qb 20 .gtr 18 19,qv 21 20,qg 22 (.mov (.t 3)) 21 true,qg 23 (.mov (.t 0)) 21 true,qg 24 (.mov (.t 9)) 21 true,qg 25 (.idxSl 1 (.t 23) (.t 24)) 21 true,qg 26 (.load none (.t 25)) 21 true,qg 27 (.mov (.t 0)) 21 true,qg 28 (.mov (.t 9)) 21 true,qg 29 (.bin .sub (.t 28) (nn 1)) 21 true,qg 30 (.idxSl 1 (.t 27) (.t 29)) 21 true,qg 31 (.load none (.t 30)) 21 true] []) (.region [qg 32 (.callV (.t 22) [.t 26,.t 31]) 21 true,qg 33 (.bin .lss (.t 32) (nn 0)) 21 true,qq 34 (.pick (.t 21) (.t 33) (.c (.bool false)))])) (.cond (.t 34) (.skip) (.exit 2))) (.seq (.block 3 (.draw [qv 37 0,qv 38 9,qv 39 0,qv 40 9,qn 41 .sub 40 1,qv 42 0,qv 43 9,qn 44 .sub 43 1,qx 45 1 42 44,ql 46 45,qv 47 0,qv 48 9,qx 49 1 47 48,ql 50 49,qx 51 1 37 38,qu (.store 1 (.t 51) (.t 46)),qx 52 1 39 41,qu (.store 1 (.t 52) (.t 50))] [])) (.region [qv 35 9,qn 36 .sub 35 1,qv 9 36]))))))) (.region [qv 15 8,qn 16 .add 15 1,qv 8 16]))))),[]⟩
end Go.Pv.T

/- The environment. -/
namespace Go.Pv.T
open Go Go.Pv
def utf8first:List V:=(List.range 256).map fun i=>V.int .u8 (if i<128 then 240 else if i<194 then 241 else if i<224 then 2 else if i=224 then 19 else if i<237 then 3 else if i=237 then 35 else if i<240 then 3 else if i=240 then 52 else if i<244 then 4 else if i=244 then 68 else 241:Nat)
def words:List V:=[.str [],.str [98,101,103,105,110],.str [114,101,97,100],.str [119,114,105,116,101],.str [111,107],.str [102,97,105,108],.str [105,110,102,111]]
def accR:List V:=[.int .u8 128,.int .u8 191,.int .u8 160,.int .u8 191,.int .u8 128,.int .u8 159,.int .u8 144,.int .u8 191,.int .u8 128,.int .u8 143,.int .u8 0,.int .u8 0,.int .u8 0,.int .u8 0,.int .u8 0,.int .u8 0,.int .u8 0,.int .u8 0,.int .u8 0,.int .u8 0,.int .u8 0,.int .u8 0,.int .u8 0,.int .u8 0,.int .u8 0,.int .u8 0,.int .u8 0,.int .u8 0,.int .u8 0,.int .u8 0,.int .u8 0,.int .u8 0]
def fc_2:FuncId→Option AF
 | 287=>some F287
 | 288=>some F288
 | 289=>some F289
 | 290=>some F290
 | 293=>some F293
 | 300=>some F300
 | 301=>some F301
 | 302=>some F302
 | 304=>some F304
 | 307=>some F307
 | 311=>some F311
 | 320=>some F320
 | _=>none
def fc_1:FuncId→Option AF
 | 159=>some F159
 | 160=>some F160
 | 161=>some F161
 | 166=>some F166
 | 167=>some F167
 | 170=>some F170
 | 172=>some F172
 | 173=>some F173
 | 174=>some F174
 | 175=>some F175
 | 176=>some F176
 | 177=>some F177
 | 188=>some F188
 | 212=>some F212
 | 214=>some F214
 | 216=>some F216
 | 217=>some F217
 | 223=>some F223
 | 224=>some F224
 | 225=>some F225
 | 226=>some F226
 | 227=>some F227
 | 228=>some F228
 | 229=>some F229
 | 230=>some F230
 | 233=>some F233
 | 234=>some F234
 | 235=>some F235
 | 236=>some F236
 | 251=>some F251
 | 252=>some F252
 | 253=>some F253
 | 254=>some F254
 | 258=>some F258
 | 259=>some F259
 | 261=>some F261
 | 262=>some F262
 | 263=>some F263
 | 264=>some F264
 | 265=>some F265
 | 266=>some F266
 | 267=>some F267
 | 268=>some F268
 | 269=>some F269
 | 273=>some F273
 | 280=>some F280
 | 281=>some F281
 | 284=>some F284
 | 285=>some F285
 | 286=>some F286
 | f=>fc_2 f
def fc:FuncId→Option AF
 | 8=>some F8
 | 15=>some F15
 | 21=>some F21
 | 22=>some F22
 | 23=>some F23
 | 25=>some F25
 | 26=>some F26
 | 27=>some F27
 | 28=>some F28
 | 29=>some F29
 | 30=>some F30
 | 31=>some F31
 | 32=>some F32
 | 33=>some F33
 | 39=>some F39
 | 52=>some F52
 | 53=>some F53
 | 57=>some F57
 | 58=>some F58
 | 59=>some F59
 | 60=>some F60
 | 61=>some F61
 | 62=>some F62
 | 63=>some F63
 | 70=>some F70
 | 71=>some F71
 | 74=>some F74
 | 75=>some F75
 | 84=>some F84
 | 86=>some F86
 | 103=>some F103
 | 104=>some F104
 | 105=>some F105
 | 106=>some F106
 | 108=>some F108
 | 109=>some F109
 | 110=>some F110
 | 112=>some F112
 | 114=>some F114
 | 116=>some F116
 | 118=>some F118
 | 120=>some F120
 | 121=>some F121
 | 122=>some F122
 | 127=>some F127
 | 136=>some F136
 | 152=>some F152
 | 155=>some F155
 | 157=>some F157
 | 158=>some F158
 | f=>fc_1 f
def fs:FuncId→Option AF
 | 51=>some S51
 | 65=>some S65
 | 66=>some S66
 | 67=>some S67
 | 68=>some S68
 | 70=>some S70
 | 72=>some S72
 | 73=>some S73
 | 111=>some S111
 | 113=>some S113
 | 115=>some S115
 | 119=>some S119
 | 153=>some S153
 | 154=>some S154
 | 156=>some S156
 | 168=>some S168
 | 169=>some S169
 | 171=>some S171
 | 213=>some S213
 | 215=>some S215
 | 231=>some S231
 | 232=>some S232
 | 237=>some S237
 | 255=>some S255
 | 270=>some S270
 | 271=>some S271
 | 272=>some S272
 | 274=>some S274
 | 291=>some S291
 | 292=>some S292
 | 294=>some S294
 | 295=>some S295
 | 296=>some S296
 | 303=>some S303
 | 305=>some S305
 | 312=>some S312
 | _=>none
def shl:List Nat:=[55,56,65,68,69,72,73,76,77,78,81,91,93,98,107,111,113,125,141,156,162,168,195,196,197,198,199,200,201,202,218,231,237,240,245,246,247,255,270,271,274,276,277,291,292,303,312,313,314,315,316,317,318,319,323,324,325,326]
def shm:List Nat:=[25,51,217]
def fzl:List Nat:=[217]
def twl:List Nat:=[217]
def srl:List Nat:=[69]
def E:Env:={ sh:=fun nm f=>shl.any (Nat.beq f) || (nm && shm.any (Nat.beq f)),fz:=fun f=>fzl.any (Nat.beq f),tw:=fun f=>twl.any (Nat.beq f),srt:=fun f=>srl.any (Nat.beq f),fc:=fc,fs:=fs,gl:=fun g=>match g with | 1=>some words | 2=>some utf8first | 3=>some accR | _=>none }
end Go.Pv.T
