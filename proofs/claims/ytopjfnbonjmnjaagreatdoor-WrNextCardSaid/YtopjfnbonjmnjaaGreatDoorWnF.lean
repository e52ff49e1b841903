/- The choices: the reference's list of lists. -/
import Derived.Test.YtopjfnbonjmnjaaGreatDoorWnE
import Derived.Test.YtopjfnbonjmnjaaGreatDoorRows
import Derived.Test.YtopjfnbonjmnjaaGreatDoorTie
import Derived.ProofKit
import Derived.LaidMore
import Derived.OpenShut
import Derived.Stop.Joined
import Derived.SizedLaws
import Derived.Carry
import Derived.Handed
import Derived.ChangeSame
namespace Go.Pv.T
open Go Go.Pv

def choR (g:Hist'):List (Bool × List Int):=(readH g).map fun p=>(false,ofH g p.1 p.2)
theorem readH_len {g:Hist'} (hs:Small g):(readH g).length≤1000000:=by
  have:=readAt_len hs g.ts.length
  have h2:=hs.ts
  have:g.ts.length * 1000≤1000 * 1000:=Nat.mul_le_mul_right _ h2
  unfold readH;omega
theorem ev45 {g:Hist'} (hs:Small g):∃ v,Ev E 45 [.agg (histC g)] v∧SlR v false (choR g).length ((choR g).flatMap lstC):=by
  obtain ⟨vr,evr,hvr⟩:=ev47 hs
  have hll:=readH_len hs
  obtain ⟨L,hL⟩:∃ L,readH g=L:=⟨_,rfl⟩
  obtain ⟨C,hC⟩:∃ C,choR g=C:=⟨_,rfl⟩
  have hCL:C=L.map fun p=>(false,ofH g p.1 p.2):=by rw [← hC,← hL];rfl
  have hCl:C.length=L.length:=by rw [hCL];simp
  rw [hC]
  rw [hL] at hvr hll
  refine Ev_wpE (af:=F45) rfl (by decide) ?_
  simp [F45,histC,objCells]
  refine kS_ev evr (by simp [histC]) rfl (by simp [histC]) ?_
  refine retSl hvr fun tc addc=>?_
  simp
  refine kS_buildSl (cs:=[]) rfl rfl rfl ?_
  simp
  refine wp_loopUp [(4,5),(9,24)] L.length (fun i s=>s.tm 5 = .int .i64 i∧s.ob 2=some ⟨0,.cells (histC g)⟩∧GrowT s.tk s.nx lstC 1 (C.take i) (s.tm 4)) rfl rfl ⟨by simp,by simp [histC],⟨256,by simp,by simp [app_tk],by simp⟩⟩ ?_
  rintro i s hi ⟨h5,o2,hG⟩ f
  have f1:s.tm 1 = .ptr 2 0 0:=by rw [f.t 1 (by simp)];simp
  have f3:s.tm 3 = .sl tc false L.length (L.flatMap placeC):=by rw [f.t 3 (by simp)];simp
  have fd:s.df=[]:=by rw [f.d];simp
  clear f
  by_cases hlt:i<L.length
  · have hw:=wrapU hlt (by omega)
    have hix:idxSlV 2 (.sl tc false L.length (L.flatMap placeC)) (.int .i64 (i:Int))=some (.eptr (L.flatMap placeC) (i * 2)):=by
      simp only [idxSlV_sl,flatMap_len placeC_len]
      rw [if_pos (by simp;omega)]
      rfl
    have hp:=fun ob=>place_at L ob hlt
    have hCi:C[i]? = some (false,ofH g (L[i]).1 (L[i]).2):=by
      rw [hCL,List.getElem?_map,List.getElem?_eq_getElem hlt];rfl
    obtain ⟨vo,evo,hvo⟩:=ev28' hs (L[i]).1 (L[i]).2
    generalize (L[i]).1=a at *
    generalize (L[i]).2=b at *
    obtain ⟨T,hT⟩:∃ T,ofH g a b=T:=⟨_,rfl⟩
    rw [hT] at hvo hCi
    have hstep:C.take (i+1)=C.take i++[(false,T)]:=by
      rw [List.take_add_one,hCi];rfl
    have hil:i<C.length:=by omega
    have htl:(C.take i).length=i:=by rw [List.length_take];omega
    simp [h5,f1,f3,o2,objCells,histC,hlt,hix,hp]
    refine kD_ev evo (by simp [histC,placeC]) rfl (by simp [histC,placeC]) ?_
    refine retSl hvo fun t add=>?_
    simp
    refine kD_buildSl (cs:=[.sl t false T.length (T.flatMap intC)]) (by simp [splice]) rfl (by simp [V.strip1,V.pureLeaf]) ?_
    simp [V.strip1]
    refine kD_appendT (f:=lstC) (hi:=s.nx) (l:=C.take i) (a:=(false,T)) (v:=s.tm 4) (hG.mono (fun u _ h=>by simp [app_tk,h]) (Nat.le_refl _)) (by simp) (by simp [slCells,lstC]) lstC_len (by decide) (by simp [lstC,V.pureLeaf]) (by omega) (by omega) (fun del hdel=>?_)
    have hlen:(C.take i).length+1=(C.take (i+1)).length:=by rw [hstep,List.length_append];rfl
    rw [← hstep,hlen]
    obtain ⟨M,hM⟩:∃ M,C.take (i+1)=M:=⟨_,rfl⟩
    rw [hM]
    simp [h5,hw,o2,histC,hM]
    exact ⟨hlt,_,rfl,by simp [app_tk],by omega⟩
  · have:i=L.length:=by omega
    subst this
    rw [← hCl,List.take_length] at hG
    obtain ⟨u,hv,_,_⟩:=hG
    simp [h5,f3]
    exact slE (t:=some (u,1)) (nl:=false) (k:=C.length) (cs:=C.flatMap lstC) (fun r h=>h) (by simp [fd]) (by simp [hv])
end Go.Pv.T

/- Whether a list is a map: the reference. -/
namespace Go.Pv.T
open Go Go.Pv

def allIn:List (Bool × List Int)→List Int→Bool
  | [],_=>true
  | _::_,[]=>false
  | c::cs,m::ms=>c.2.contains m && allIn cs ms
def mapR (g:Hist') (M:List Int):Bool:=wholeH g && (M.length == (choR g).length && allIn (choR g) M)
theorem lst_at (C:List (Bool × List Int)) {i:Nat} (h:i<C.length):(C.flatMap lstC)[i]? = some (.sl none (C[i]).1 (C[i]).2.length ((C[i]).2.flatMap intC)):=by
  have:=fld_at lstC_len C h (by decide:0<1)
  rw [Nat.mul_one,Nat.add_zero] at this
  rw [this];rfl
theorem ofH_len {g:Hist'} (hm:mayH g=true) (a b:Int):(ofH g a b).length≤41:=by
  unfold ofH
  split
  · split
    · simp
    · exact ofL_len (may_ts hm) a _
  · simp
theorem ev35 {g:Hist'} (hs:Small g) {b:Bool} (M:List Int) (_:M.length≤1000000000):Ev E 35 [.agg (histC g),slOf b intC M] (.bool (mapR g M)):=by
  have e37:=ev37 hs
  refine Ev_wpK (af:=F35) rfl ?_
  unfold mapR
  cases hw:wholeH g
  · rw [hw] at e37
    simp [F35,histC,objCells]
    refine kS_ev e37 (by simp [histC]) rfl (by simp [histC]) ?_
    simp
    exact endV_1 (by simp) (by simp) rfl
  rw [hw] at e37
  obtain ⟨vc,evc,hvc⟩:=ev45 hs
  have hrl:=readH_len hs
  have hCl:(choR g).length≤1000000:=by unfold choR;rw [List.length_map];exact hrl
  have hCo:∀ x∈choR g,x.2.length≤41:=by
    intro x hx
    unfold choR at hx
    obtain ⟨p,_,rfl⟩:=List.mem_map.1 hx
    have hm:mayH g=true:=by unfold wholeH at hw;simp only [Bool.and_eq_true] at hw;exact hw.1
    exact ofH_len hm _ _
  generalize choR g=C at *
  simp [F35,histC,objCells]
  refine kS_ev e37 (by simp [histC]) rfl (by simp [histC]) ?_
  simp [objCells]
  refine kS_ev evc (by simp [histC]) rfl (by simp [histC]) ?_
  refine retSl hvc fun tc addc=>?_
  by_cases hl:M.length=C.length
  · obtain ⟨R,hR⟩:∃ R,allIn C M=R:=⟨_,rfl⟩
    rw [hR]
    simp [hl]
    refine wp_loopUp [(4,4),(6,6),(17,32)] C.length (fun i s=>s.tm 6 = .int .i64 i∧allIn (C.drop i) (M.drop i)=R) rfl rfl ⟨by simp,by simpa using hR⟩ ?_
    rintro i s hi ⟨h6,hT⟩ f
    have f1:s.tm 1=slOf b intC M:=by rw [f.t 1 (by simp)];simp
    have f5:s.tm 5 = .sl tc false C.length (C.flatMap lstC):=by rw [f.t 5 (by simp)];simp
    have fd:s.df=[]:=by rw [f.d];simp
    clear f
    by_cases hlt:i<C.length
    · have hw':=wrapU hlt (by omega)
      have hlt2:i<M.length:=by omega
      have h1:=lst_at C hlt
      have h2:=int_at M hlt2
      have hix:idxSlV 1 (.sl tc false C.length (C.flatMap lstC)) (.int .i64 (i:Int))=some (.eptr (C.flatMap lstC) (i * 1)):=by
        simp only [idxSlV_sl,flatMap_len lstC_len]
        rw [if_pos (by simp;omega)]
        rfl
      rw [Nat.mul_one] at hix
      rw [List.drop_eq_getElem_cons hlt,List.drop_eq_getElem_cons hlt2,allIn] at hT
      have e87:=ev87 (a:=(C[i]).1) (C[i]).2 (by have:=hCo _ (List.getElem_mem hlt);omega) M[i]
      simp [h6,f1,f5,hlt,hlt2,hix,idx_slOf intC_len,h1,h2]
      refine kD_ev e87 (by simp [slOf]) rfl (by simp [slOf]) ?_
      cases hc:(C[i]).2.contains M[i]
      · rw [hc,Bool.false_and] at hT
        simp
        exact endV_1 (by simp [fd]) (by simp [← hT]) rfl
      · rw [hc,Bool.true_and] at hT
        simp [h6,hw']
        exact ⟨hlt,hT⟩
    · have:i=C.length:=by omega
      subst this
      rw [List.drop_length,allIn] at hT
      simp [h6,f5]
      exact endV_1 (by simp [fd]) (by simp [← hT]) rfl
  · have hne:((M.length:Int) != C.length)=true:=by simp;omega
    have hne2:(M.length == C.length)=false:=by simp;omega
    simp [hne]
    exact endV_1 (by simp) (by simp [hne2]) rfl
end Go.Pv.T

/- Several results, some of them slices; slices that are made; a copy of numbers. -/
namespace Go.Pv.T
open Go Go.Pv

def TupS (l:List V) (v:V):Prop:=∃ vs,v = .tup vs∧vs.map V.strip1=l∧∀ p∈vs.flatMap V.toks,p<64
def noAgg:V→Bool
  | .agg _=>false
  | _=>true
theorem retTup {ub:Nat} {v:V} {l:List V} {K:Delta→Prop} (hv:TupS l v) (hl:l.all noAgg=true) (h:∀ ws add,ws.map V.strip1=l→K { v:=.tup ws,add:=add }):wpD (retA ub v) K:=by
  obtain ⟨vs,rfl,hs,ht⟩:=hv
  have e:retA ub (.tup vs)=some { v:=.tup (vs.map (inTop ub)),add:=(vs.flatMap V.toks).map (ub + ·) }:=by
    rw [retA,if_pos (by simpa only [toksRes,List.all_eq_true,Nat.blt_eq] using ht)]
    rfl
  rw [e,wpD_some]
  refine h _ _ ?_
  rw [← hs,List.map_map]
  refine List.map_congr_left fun w hw=>?_
  have hn:noAgg w.strip1=true:=List.all_eq_true.1 hl _ (by rw [← hs];exact List.mem_map.2 ⟨w,hw,rfl⟩)
  cases w with
  | agg=>cases hn
  | sl t nl n cs=>cases t <;> rfl
  | _=>rfl
theorem strip1_sl {w:V} {nl:Bool} {n:Nat} {cs:List V} (h:w.strip1 = .sl none nl n cs):∃ t,w = .sl t nl n cs:=by
  cases w <;> simp [V.strip1] at h
  obtain ⟨rfl,rfl,rfl⟩:=h
  exact ⟨_,rfl⟩
theorem strip1_bool {w:V} {b:Bool} (h:w.strip1 = .bool b):w = .bool b:=by cases w <;> simp [V.strip1] at h;subst h;rfl
theorem strip1_int {w:V} {k:IntKind} {b:Int} (h:w.strip1 = .int k b):w = .int k b:=by cases w <;> simp [V.strip1] at h;obtain ⟨rfl,rfl⟩:=h;rfl
theorem map2 {α β:Type} {f:α→β} {ws:List α} {a b:β} (h:ws.map f=[a,b]):∃ x y,ws=[x,y]∧f x=a∧f y=b:=by
  match ws with
  | [x,y]=>simp only [List.map_cons,List.map_nil,List.cons.injEq,and_true] at h;exact ⟨x,y,rfl,h.1,h.2⟩
  | []=>simp at h
  | [_]=>simp at h
  | _::_::_::_=>simp at h
theorem map3 {α β:Type} {f:α→β} {ws:List α} {a b c:β} (h:ws.map f=[a,b,c]):∃ x y z,ws=[x,y,z]∧f x=a∧f y=b∧f z=c:=by
  match ws with
  | [x,y,z]=>simp only [List.map_cons,List.map_nil,List.cons.injEq,and_true] at h;exact ⟨x,y,z,rfl,h.1,h.2.1,h.2.2⟩
  | []=>simp at h
  | [_]=>simp at h
  | [_,_]=>simp at h
  | _::_::_::_::_=>simp at h
theorem retSSB {ub:Nat} {v:V} {a1 a2 b:Bool} {n1 n2:Nat} {c1 c2:List V} {K:Delta→Prop} (hv:TupS [.sl none a1 n1 c1,.sl none a2 n2 c2,.bool b] v)
    (h:∀ t1 t2 add,K { v:=.tup [.sl t1 a1 n1 c1,.sl t2 a2 n2 c2,.bool b],add:=add }):wpD (retA ub v) K:=by
  refine retTup hv rfl fun ws add hw=>?_
  obtain ⟨x,y,z,rfl,h1,h2,h3⟩:=map3 hw
  obtain ⟨t1,rfl⟩:=strip1_sl h1
  obtain ⟨t2,rfl⟩:=strip1_sl h2
  obtain rfl:=strip1_bool h3
  exact h t1 t2 add
theorem retSB {ub:Nat} {v:V} {a1 b:Bool} {n1:Nat} {c1:List V} {K:Delta→Prop} (hv:TupS [.sl none a1 n1 c1,.bool b] v)
    (h:∀ t1 add,K { v:=.tup [.sl t1 a1 n1 c1,.bool b],add:=add }):wpD (retA ub v) K:=by
  refine retTup hv rfl fun ws add hw=>?_
  obtain ⟨x,z,rfl,h1,h3⟩:=map2 hw
  obtain ⟨t1,rfl⟩:=strip1_sl h1
  obtain rfl:=strip1_bool h3
  exact h t1 add
theorem retSI {ub:Nat} {v:V} {a1:Bool} {k:IntKind} {b:Int} {n1:Nat} {c1:List V} {K:Delta→Prop} (hv:TupS [.sl none a1 n1 c1,.int k b] v)
    (h:∀ t1 add,K { v:=.tup [.sl t1 a1 n1 c1,.int k b],add:=add }):wpD (retA ub v) K:=by
  refine retTup hv rfl fun ws add hw=>?_
  obtain ⟨x,z,rfl,h1,h3⟩:=map2 hw
  obtain ⟨t1,rfl⟩:=strip1_sl h1
  obtain rfl:=strip1_int h3
  exact h t1 add

def OutOk (st:St) (v w:V):Prop:=∀ keep i,∃ a,outTop st keep i v=some a∧a.strip1=w∧(a.toks=[]∨a.toks=[i])
def OutAll (st:St):List V→List V→Prop
  | [],[]=>True
  | v::vs,w::ws=>OutOk st v w∧OutAll st vs ws
  | _,_=>False
theorem outOk_pure {st:St} {v:V} (h:v.pureLeaf=true):OutOk st v v:=by
  intro keep i
  refine ⟨v,?_,strip1_of_pure h,.inl ?_⟩
  · cases v with
    | agg=>cases h
    | fn=>cases h
    | _=>exact outLeaf_pure (st:=st) (keep:=keep) (i:=i) h
  · cases v with
    | agg=>cases h
    | _=>exact tok_pure h
theorem outOk_sl {st:St} {v:V} {nl:Bool} {n:Nat} {cs:List V} (hv:v.leaf=true) (h:SlOut st v nl n cs):OutOk st v (.sl none nl n cs):=by
  intro keep i
  obtain ⟨a,ha,ht⟩:=h keep i
  refine ⟨.sl a nl n cs,?_,rfl,?_⟩
  · rw [← ha]
    cases v with
    | agg=>cases hv
    | fn=>simp only [outLeaf,solid] at ha;split at ha <;> cases ha
    | _=>rfl
  · rcases ht with rfl | ⟨z,rfl⟩
    · exact .inl rfl
    · exact .inr rfl
theorem outTops_ok {st:St} {keep:Bool}:∀ {vs ls:List V} {i:Nat},OutAll st vs ls→∃ as1,outTops st keep i vs=some as1∧as1.map V.strip1=ls∧(∀ p∈as1.flatMap V.toks,i≤p∧p<i+16 * vs.length)∧nodup (as1.flatMap V.toks)=true
  | [],[],i,_=>⟨[],rfl,rfl,by simp,rfl⟩
  | v::vs,w::ws,i,h=>by
    obtain ⟨a,h1,h2,h3⟩:=h.1 keep i
    obtain ⟨as1,k1,k2,k3,k4⟩:=outTops_ok (keep:=keep) (i:=i+16) h.2
    refine ⟨a::as1,by simp only [outTops,h1,Option.bind_some,k1,Option.map_some],by rw [List.map_cons,h2,k2],fun p hp=>?_,?_⟩
    · rw [List.flatMap_cons,List.mem_append] at hp
      simp only [List.length_cons]
      rcases hp with hp | hp
      · rcases h3 with h3 | h3 <;> rw [h3] at hp <;> simp at hp
        omega
      · have:=k3 p hp;omega
    · rw [List.flatMap_cons]
      rcases h3 with h3 | h3 <;> rw [h3]
      · exact k4
      · simp only [List.singleton_append,nodup,Bool.and_eq_true,k4,and_true,Bool.not_eq_true']
        rw [Bool.eq_false_iff]
        intro hc
        obtain ⟨p,hp,he⟩:=List.any_eq_true.1 hc
        have:=Nat.eq_of_beq_eq_true he
        have:=k3 p hp
        omega
  | [],_::_,_,h=>h.elim
  | _::_,[],_,h=>h.elim
theorem resOf_ts (st:St):∀ ns:List Nat,(ns.map ARes.t).mapM (resOf st)=some (ns.map st.tm)
  | []=>rfl
  | n::ns=>by rw [List.map_cons,List.mapM_cons,resOf_ts st ns];rfl
theorem tupE {ns:List Nat} {st:St} {vs ls:List V} {P:V→Prop} (hP:∀ r,TupS ls r→P r) (hd:st.df=[]) (h:ns.map st.tm=vs) (h2:2≤vs.length) (h4:vs.length≤4) (ho:OutAll st vs ls):kEndE (ns.map .t) P .ret st:=by
  obtain ⟨as1,k1,k2,k3,k4⟩:=outTops_ok (keep:=nodup (vs.flatMap V.toks)) (i:=0) ho
  have hal:2≤as1.length:=by
    have e1:=congrArg List.length k2
    have:∀ {vs ls:List V},OutAll st vs ls→vs.length=ls.length:=by
      intro vs
      induction vs with
      | nil=>intro ls h;cases ls with | nil=>rfl | cons=>exact h.elim
      | cons v vs ih=>intro ls h;cases ls with | nil=>exact h.elim | cons w ws=>rw [List.length_cons,List.length_cons,ih h.2]
    have:=this ho
    simp only [List.length_map] at e1
    omega
  refine ⟨.tup as1,?_,hP _ ⟨as1,rfl,k2,fun p hp=>by have:=k3 p hp;omega⟩⟩
  simp only [endV,dfOk_of hd,noDf_of hd,if_true,resOf_ts,h,Option.bind_some,outRes,k1,k4]
  match as1,hal with
  | a::b::r,_=>rfl

theorem ev18 (b:Bool) (l:List Int) (hl:l.length≤1000000000):∃ v,Ev E 18 [slOf b intC l] v∧SlR v false l.length (l.flatMap intC):=by
  refine Ev_wpE (af:=F18) rfl (by decide) ?_
  simp [F18]
  refine kS_buildSl (cs:=[]) rfl rfl rfl ?_
  simp
  refine kS_append_allT (f:=intC) (l:=l) (u:=64) (by simp) (by simp [app_tk]) (by simp [slCells_slOf intC_len]) intC_len (by decide) (by simp [intC,V.pureLeaf]) (by omega) (by omega) (fun t del add _ _=>?_)
  simp
  exact slE (t:=t) (nl:=false) (k:=l.length) (cs:=l.flatMap intC) (fun r h=>h) (by simp) (by simp)

section
variable {E:Env} {Yf:YF} {st:St} {ub:Nat} {K:St→Nat→Prop} {d:Option Nat} {nm:Bool}
theorem kS_mkSlO {sz bytes n:Nat} {zero:List V} {x y:A} (hl:eval E st.tm x = .int .i64 (n:Int)) (hc:eval E st.tm y = .int .i64 (n:Int)) (hb:n * bytes≤140737488355328) (hn:n≤140737488355328) (hz:zero.length=sz) (h0:0<sz)
    (h:kApp K st d ub { v:=.osl (objName d nm st.fb ub) ub 0 n sz,obs:=[(objName d nm st.fb ub,⟨ub,.cells (repl n zero)⟩)] }):wpStep E Yf ⟨d,.mkSl true sz bytes zero x y,none,nm⟩ st ub K:=by
  rw [wpStep_of _ rfl rfl]
  simp only [aop,hl,hc]
  rw [if_pos (by refine ⟨by omega,by omega,?_,by omega,hz,h0⟩;rw [← Int.natCast_mul];exact Int.ofNat_le.2 hb),if_neg (by simp),mkObj,wpD_some]
  simp only [Int.toNat_natCast,name_eq]
  exact h
end
def Upto (n i:Nat) (J:List Int) (cs:List V):Prop:=cs.length=n∧(∀ j,j<i→cs[j]? = (J.flatMap intC)[j]?)∧cs.all V.pureLeaf=true
theorem Upto.set {n i:Nat} {J:List Int} {cs:List V} (h:Upto n i J cs) (hi:i<n) {x:Int} (hx:J[i]? = some x):Upto n (i+1) J (splice cs i [.int .i64 x]):=by
  obtain ⟨h1,h2,h3⟩:=h
  have hs:splice cs i [.int .i64 x]=cs.set i (.int .i64 x):=by
    unfold splice
    rw [List.set_eq_take_append_cons_drop,if_pos (by omega),List.append_assoc]
    rfl
  rw [hs]
  refine ⟨by rw [List.length_set];exact h1,fun j hj=>?_,?_⟩
  · by_cases hji:j=i
    · subst hji
      have hJ:=(List.getElem?_eq_some_iff.1 hx)
      rw [List.getElem?_set_self (by omega),int_at J hJ.1,hJ.2]
    · rw [List.getElem?_set_ne (fun e=>hji e.symm)]
      exact h2 j (by omega)
  · refine List.all_eq_true.2 fun y hy=>?_
    rcases List.mem_or_eq_of_mem_set hy with hy | rfl
    · exact List.all_eq_true.1 h3 y hy
    · rfl
theorem Upto.whole {n:Nat} {J:List Int} {cs:List V} (h:Upto n n J cs) (hJ:J.length=n):cs=J.flatMap intC:=by
  apply List.ext_getElem?
  intro j
  by_cases hj:j<n
  · exact h.2.1 j hj
  · rw [List.getElem?_eq_none (by rw [h.1];omega),List.getElem?_eq_none (by rw [flatMap_len intC_len];omega)]
theorem Upto.zero (n:Nat) (J:List Int):Upto n 0 J (repl n [.int .i64 0]):=by
  refine ⟨by simp [repl],fun j hj=>by omega,?_⟩
  refine List.all_eq_true.2 fun y hy=>?_
  simp only [repl,List.mem_map] at hy
  obtain ⟨i,_,rfl⟩:=hy
  simp [V.pureLeaf,Nat.mod_one]
end Go.Pv.T

/- Where each member of a map stands: wr.places. -/
namespace Go.Pv.T
open Go Go.Pv

def idxJ:List (Bool × List Int)→List Int→List Int
  | c::cs,m::ms=>idxI c.2 m 0::idxJ cs ms
  | _,_=>[]
theorem idxJ_len:∀ (C:List (Bool × List Int)) (M:List Int),C.length=M.length→(idxJ C M).length=C.length
  | [],[],_=>rfl
  | c::cs,m::ms,h=>by simp only [idxJ,List.length_cons] at h ⊢;rw [idxJ_len cs ms (by omega)]
  | [],_::_,h=>by simp at h
  | _::_,[],h=>by simp at h
theorem idxJ_at:∀ (C:List (Bool × List Int)) (M:List Int) (i:Nat) (h:i<C.length) (h':i<M.length),(idxJ C M)[i]? = some (idxI (C[i]).2 M[i] 0)
  | c::cs,m::ms,0,_,_=>rfl
  | c::cs,m::ms,i+1,h,h'=>by
    simp only [idxJ,List.getElem?_cons_succ,List.getElem_cons_succ]
    exact idxJ_at cs ms i (by simpa using h) (by simpa using h')
  | [],_,_,h,_=>by simp at h
  | _::_,[],_,_,h=>by simp at h
theorem idxI_len (k:Int):∀ (l:List Int) (n:Nat),idxI l k n<(n+l.length:Nat)
  | [],n=>by simp only [idxI,List.length_nil];omega
  | x::r,n=>by
    rw [idxI]
    split
    · simp only [List.length_cons];omega
    · have:=idxI_len k r (n+1);simp only [List.length_cons];omega
def placesH (g:Hist') (M:List Int):Option (List Int):=if wholeH g && ((choW g).length == M.length && (idxJ (choW g) M).all fun x=>decide (0≤x)) then some (idxJ (choW g) M) else none
def PlacesR (g:Hist') (r:Option (List Int)) (v:V):Prop:=match r with
  | some J=>TupS [.sl none (choW g).isEmpty (choW g).length ((choW g).flatMap lstC),.sl none false J.length (J.flatMap intC),.bool true] v
  | none=>TupS [.sl none true 0 [],.sl none true 0 [],.bool false] v
theorem choW_len {g:Hist'} (hs:Small g):(choW g).length≤1000000:=by unfold choW;rw [List.length_map];exact readW_len hs
theorem choW_sl {g:Hist'} (_:Small g):∀ x∈choW g,x.1=x.2.isEmpty∧x.2.length≤41:=by
  intro x hx
  unfold choW readW at hx
  split at hx
  · rename_i hw
    obtain ⟨p,_,rfl⟩:=List.mem_map.1 hx
    have hm:mayH g=true:=by unfold wholeH at hw;simp only [Bool.and_eq_true] at hw;exact hw.1
    exact ⟨rfl,ofH_len hm _ _⟩
  · simp at hx
theorem ev84 {g:Hist'} (hs:Small g) {b:Bool} (M:List Int) (hM:M.length≤1000000):∃ v,Ev E 84 [.agg (histC g),slOf b intC M] v∧PlacesR g (placesH g M) v:=by
  obtain ⟨vc,evc,hvc⟩:=ev43 hs
  have e83:=ev83 hs
  have hCl:=choW_len hs
  have hCs:=choW_sl hs
  have hnone:∀ {st:St} {P:V→Prop},st.df=[]→st.tm 4 = .sl none true 0 []→st.tm 5 = .sl none true 0 []→st.tm 6 = .bool false→placesH g M=none→kEndE [.t 4,.t 5,.t 6] (PlacesR g (placesH g M)) .ret st:=by
    intro st _ hd h4 h5 h6 hp
    rw [hp]
    exact tupE (ns:=[4,5,6]) (vs:=[.sl none true 0 [],.sl none true 0 [],.bool false]) (fun r h=>h) hd (by simp [h4,h5,h6]) (by simp) (by simp) ⟨outOk_pure rfl,outOk_pure rfl,outOk_pure rfl,trivial⟩
  refine Ev_wpE (af:=F84) rfl (by decide) ?_
  obtain ⟨P,hP⟩:∃ P,PlacesR g (placesH g M)=P:=⟨_,rfl⟩
  have hPn:=fun st h1 h2 h3 h4 h5=>hP ▸ @hnone st (fun _=>True) h1 h2 h3 h4 h5
  rw [hP]
  obtain ⟨C,hC⟩:∃ C,choW g=C:=⟨_,rfl⟩
  rw [hC] at hvc hCl hCs
  simp [F84,histC,objCells]
  refine kS_ev evc (by simp [histC]) rfl (by simp [histC]) ?_
  refine retSl hvc fun tc addc=>?_
  simp [objCells]
  refine kS_ev e83 (by simp [histC]) rfl (by simp [histC]) ?_
  cases hw:wholeH g
  · simp
    exact hPn _ (by simp) (by simp) (by simp) (by simp) (by simp [placesH,hw])
  by_cases hl:¬ C.length=M.length
  · have hne:((C.length:Int) != M.length)=true:=by simp;omega
    simp [hne]
    exact hPn _ (by simp) (by simp) (by simp) (by simp) (by simp [placesH,hC,hl])
  have hl:C.length=M.length:=Classical.byContradiction hl
  have hne:((C.length:Int) != M.length)=false:=by simp;omega
  simp [hne]
  refine kS_mkSlO (n:=M.length) (by simp) (by simp) (by omega) (by omega) rfl (by decide) ?_
  simp
  obtain ⟨J,hJ⟩:∃ J,idxJ C M=J:=⟨_,rfl⟩
  have hJl:J.length=M.length:=by rw [← hJ,idxJ_len C M hl];exact hl
  have hJat:=idxJ_at C M
  rw [hJ] at hJat
  have hplaces:placesH g M=if J.all (fun x=>decide (0≤x)) then some J else none:=by
    unfold placesH
    rw [hC,hJ,hw,hl]
    simp
  refine wp_loopUp [(4,6),(9,10),(28,47)] C.length (fun i s=>s.tm 28 = .int .i64 i∧(∃ cs,s.ob 2433=some ⟨1216,.cells cs⟩∧Upto M.length i J cs)∧(J.take i).all (fun x=>decide (0≤x))=true) rfl rfl ⟨by simp,⟨_,by simp,Upto.zero _ _⟩,by simp⟩ ?_
  rintro i s hi ⟨h28,⟨cs,hcs,hU⟩,hall⟩ f
  have f1:s.tm 1=slOf b intC M:=by rw [f.t 1 (by simp)];simp
  have f7:s.tm 7 = .sl tc C.isEmpty C.length (C.flatMap lstC):=by rw [f.t 7 (by simp)];simp
  have f8:s.tm 8 = .osl 2433 1216 0 M.length 1:=by rw [f.t 8 (by simp)];simp
  have f26:s.tm 26 = .sl tc C.isEmpty C.length (C.flatMap lstC):=by rw [f.t 26 (by simp)];simp
  have f27:s.tm 27 = .int .i64 C.length:=by rw [f.t 27 (by simp)];simp
  have fd:s.df=[]:=by rw [f.d];simp
  have fr:s.ro=0:=by rw [f.r];simp
  clear f
  by_cases hlt:i<C.length
  · have hw':=wrapU hlt (by omega)
    have hlt2:i<M.length:=by omega
    have h1:=lst_at C hlt
    have h2:=int_at M hlt2
    have hix:idxSlV 1 (.sl tc C.isEmpty C.length (C.flatMap lstC)) (.int .i64 (i:Int))=some (.eptr (C.flatMap lstC) (i * 1)):=by
      simp only [idxSlV_sl,flatMap_len lstC_len]
      rw [if_pos (by simp;omega)]
      rfl
    rw [Nat.mul_one] at hix
    have hio:=idxN (l:=2433) (u:=1216) (n:=M.length) (kk:=.i64) (X:=(i:Int)) rfl hlt2
    have e128:=ev128 (a:=(C[i]).1) (C[i]).2 (by have:=(hCs _ (List.getElem_mem hlt)).2;omega) M[i]
    have hji:=hJat i hlt hlt2
    generalize idxI (C[i]).2 M[i] 0=x at *
    have hU2:=hU.set hlt2 hji
    have hget:(splice cs i [.int .i64 x])[i]? = some (.int .i64 x):=by
      rw [hU2.2.1 i (by omega)]
      have hJ':=List.getElem?_eq_some_iff.1 hji
      rw [int_at J hJ'.1,hJ'.2]
    have hcl:=hU.1
    have hle:i+1≤M.length:=hlt2
    simp [h28,f1,f8,f26,f27,hlt,hlt2,hix,idx_slOf intC_len,h1,h2]
    refine kS_ev e128 (by simp [slOf]) rfl (by simp [slOf]) ?_
    simp [hio,hcs,objCells,fr,hcl,hle,f8,hget]
    by_cases hx:x<0
    · simp [hx]
      refine hPn _ (by simp [fd]) (by simp) (by simp) (by simp) ?_
      rw [hplaces]
      have hm:x∈J:=List.mem_of_getElem? hji
      rw [if_neg]
      rw [List.all_eq_true]
      intro h
      have:=h x hm
      simp at this
      omega
    · simp [hx,h28,hw']
      refine ⟨hlt,hU2,fun y hy=>?_⟩
      rw [List.take_add_one,hji,List.mem_append] at hy
      rcases hy with hy | hy
      · simpa using List.all_eq_true.1 hall y hy
      · simp at hy;omega
  · have:i=C.length:=by omega
    subst this
    simp [h28,f27]
    rw [List.take_of_length_le (by omega)] at hall
    rw [hl] at hU
    have hcsJ:=hU.whole hJl
    rw [← hP,hplaces,if_pos hall]
    subst hcsJ
    refine tupE (ns:=[4,5,6]) (vs:=[.sl tc C.isEmpty C.length (C.flatMap lstC),.osl 2433 1216 0 M.length 1,.bool true]) (fun r h=>h) (by simp [fd]) (by simp [f7,f8]) (by simp) (by simp) ⟨?_,?_,outOk_pure rfl,trivial⟩
    · rw [hC];exact outOk_sl rfl (slOut_sl _ _ _ _ _)
    · rw [hJl];exact outOk_sl rfl (slOut_osl (by simp [hcs]) hU.1 (by simp [fr]) hU.2.2)
end Go.Pv.T

/- Whether a list is a map: the given answer is the reference's. -/
namespace Go.Pv.T
open Go Go.Pv

theorem allIn_idx:∀ (C D:List (Bool × List Int)) (M:List Int),C.map (·.2)=D.map (·.2)→allIn D M=((idxJ C M).all (fun x=>decide (0≤x)) && decide (C.length≤M.length))
  | [],[],M,_=>by cases M <;> simp [allIn,idxJ]
  | c::C,d::D,[],_=>by simp [allIn]
  | c::C,d::D,m::M,h=>by
    simp only [List.map_cons,List.cons.injEq] at h
    have h1:=allIn_idx C D M h.2
    have h2:=idxI_neg m c.2 0
    have h3:decide (0≤idxI c.2 m 0)=c.2.contains m:=by
      have:decide (0≤idxI c.2 m 0) = !decide (idxI c.2 m 0<0):=by
        by_cases h:idxI c.2 m 0<0
        · simp [h];
        · simp [h];omega
      rw [this,h2,Bool.not_not]
    simp only [allIn,idxJ,List.all_cons,h1,h3,← h.1,List.length_cons,Nat.add_le_add_iff_right]
    rw [Bool.and_assoc]
  | [],_::_,_,h=>by simp at h
  | _::_,[],_,h=>by simp at h
theorem cho_map {g:Hist'} (hw:wholeH g=true):(choW g).map (·.2)=(choR g).map (·.2):=by
  unfold choW choR readW
  rw [if_pos hw]
  simp [List.map_map,Function.comp_def]
theorem cho_len {g:Hist'} (hw:wholeH g=true):(choW g).length=(choR g).length:=by
  have:=congrArg List.length (cho_map hw)
  simpa using this
theorem is_eq (g:Hist') (M:List Int):(placesH g M).isSome=mapR g M:=by
  unfold placesH mapR
  cases hw:wholeH g
  · simp
  · rw [allIn_idx _ _ M (cho_map hw),cho_len hw]
    by_cases hl:M.length=(choR g).length
    · have h1:((choR g).length == M.length)=true:=by simp [hl]
      have h2:(M.length == (choR g).length)=true:=by simp [hl]
      rw [h1,h2]
      simp only [Bool.true_and,hl,Nat.le_refl,decide_true,Bool.and_true]
      split
      · rename_i h;simp [h]
      · rename_i h;simp only [Option.isSome_none];simpa using h
    · have h1:((choR g).length == M.length)=false:=by simp;omega
      have h2:(M.length == (choR g).length)=false:=by simp;omega
      rw [h1,h2]
      simp
end Go.Pv.T

/- Maps of reads: the first, the next, how many, all: plain laws. -/
namespace Go.Pv.T
open Go Go.Pv

abbrev Cs':=List (Bool × List Int)
def hd1 (c:Bool × List Int):Int:=c.2.headD 0
def nextL:Cs'→List Int→Option (List Int)
  | c::cs,m::ms=>match nextL cs ms with
    | some r=>some (m::r)
    | none=>if idxI c.2 m 0+1<c.2.length then some (c.2.getD (idxI c.2 m 0+1).toNat 0::cs.map hd1) else none
  | _,_=>none
theorem nextL_take:∀ (C:Cs') (M:List Int) (i:Nat) (r:List Int),i≤C.length→C.length=M.length→nextL (C.drop i) (M.drop i)=some r→nextL C M=some (M.take i++r)
  | C,M,0,r,_,_,h=>by simpa using h
  | c::cs,m::ms,i+1,r,h1,h2,h=>by
    have:=nextL_take cs ms i r (by simpa using h1) (by simpa using h2) (by simpa using h)
    simp [nextL,this]
  | [],_,_+1,_,h,_,_=>by simp at h
  | _::_,[],_+1,_,_,h,_=>by simp at h
def noEmpty (C:Cs'):Bool:=C.all fun c=>!c.2.isEmpty
def firstH (g:Hist'):Int × List Int:=if wholeH g then (if noEmpty (choW g) then (0,(choW g).map hd1) else (3,[])) else (4,[])
def cap6 (n:Int):Int:=if 1000000<n then 1000000 else n
def countL:Cs'→Int→Int
  | [],n=>n
  | c::cs,n=>countL cs (cap6 (n * c.2.length))
def stepA (c:Bool × List Int) (out:List (List Int)):List (List Int):=out.flatMap fun o=>c.2.map fun x=>o++[x]
def allF:Cs'→Nat→List (List Int)→List (List Int)
  | [],_,out=>out
  | c::cs,most,out=>allF cs most ((stepA c out).take most)

theorem allF_nil:∀ (C:Cs') (n:Nat),allF C n []=[]
  | [],_=>rfl
  | c::cs,n=>by simp [allF,stepA,allF_nil cs n]
theorem allF_one:∀ (C:Cs') (o:List Int),allF C 1 [o]=if noEmpty C then [o++C.map hd1] else []
  | [],o=>by simp [allF,noEmpty]
  | c::cs,o=>by
    obtain ⟨b,l⟩:=c
    cases l with
    | nil=>simp [allF,stepA,allF_nil,noEmpty]
    | cons x l =>
      have:=allF_one cs (o++[x])
      simp only [allF,stepA,List.flatMap_cons,List.flatMap_nil,List.append_nil,List.map_cons,List.take_succ_cons,List.take_zero,this]
      simp only [noEmpty,List.all_cons,List.isEmpty_cons,Bool.not_false,Bool.true_and,hd1,List.headD_cons,List.append_assoc,List.singleton_append]

end Go.Pv.T

/- WrTells, but for its fixed example. -/
namespace Go.Pv.T
open Go Go.Pv

@[simp] theorem eqVV_bool (ob:Nat→Option Obj') (neg a b:Bool):eqVV ob neg .bool (.bool a) (.bool b)=some (.bool (xor neg (a == b))):=rfl
theorem retHist {ub:Nat} {r:V} {g:Hist'} {K:Delta→Prop} (h:HistR r g)
    (hK:∀ a b c add,K { v:=.agg [.sl a g.sn g.ss.length (g.ss.flatMap strC),.sl b g.kn g.ks.length (g.ks.flatMap strC),.sl c g.tn g.ts.length (g.ts.flatMap txnC)],add:=add }):wpD (retA ub r) K:=by
  obtain ⟨a,b,c,add,hr⟩:=retA_hist1 (ub:=ub) h
  rw [hr,wpD_some]
  exact hK a b c add
theorem take_flat {α:Type} {f:α→List V} {k:Nat} (hf:∀ a,(f a).length=k):∀ (l:List α) (n:Nat),(l.flatMap f).take (n * k)=(l.take n).flatMap f
  | [],n=>by simp
  | a::l,0=>by simp
  | a::l,n+1=>by
    rw [List.flatMap_cons,List.take_succ_cons,List.flatMap_cons,Nat.succ_mul,Nat.add_comm,← hf a,List.take_length_add_append,hf a,take_flat hf l n]
theorem head_of (b:Bool) (l:List Int) (n:Nat):∃ k:Nat,minmaxV false [.int .i64 (l.length:Int),.int .i64 (n:Int)]=some (.int .i64 (k:Int))∧slSlV 1 none (some (.int .i64 (k:Int))) (slOf b intC l)=some (slOf b intC (l.take n)):=by
  by_cases h:(n:Int)<l.length
  · refine ⟨n,by simp [minmaxV,minmaxL,minmax2,h],?_⟩
    have h1:(l.take n).length=n:=by rw [List.length_take];omega
    have e:=take_flat intC_len l n
    rw [Nat.mul_one] at e
    have h2:(n:Int)≤l.length:=by omega
    simp [slSlV,slOf,bounds,flatMap_len intC_len,h1,e,h2]
  · refine ⟨l.length,by simp [minmaxV,minmaxL,minmax2,h],?_⟩
    have h1:l.take n=l:=List.take_of_length_le (by omega)
    have h2:(l.flatMap intC).take l.length=l.flatMap intC:=List.take_of_length_le (by rw [flatMap_len intC_len];omega)
    simp [slSlV,slOf,bounds,flatMap_len intC_len,h1,h2]
end Go.Pv.T

/- Maps of reads: the first, and how many: walks. -/
namespace Go.Pv.T
open Go Go.Pv

theorem min6 (n:Int):minmaxV false [.int .i64 n,.int .i64 1000000]=some (.int .i64 (cap6 n)):=by
  by_cases h:(1000000:Int)<n <;> simp [minmaxV,minmaxL,minmax2,cap6,h]
theorem cap6_lt {n:Int} (h:0≤n):0≤cap6 n∧cap6 n≤1000000:=by unfold cap6;split <;> omega
theorem mul_lt {n:Int} {k:Nat} (h0:0≤n) (h1:n≤1000000) (hk:k≤41):0≤n * (k:Int)∧n * (k:Int)≤41000000:=by
  have h2:=Int.mul_nonneg h0 (show (0:Int)≤k by omega)
  have h3:n * (k:Int)≤1000000 * 41:=Int.mul_le_mul h1 (by omega) (by omega) (by omega)
  omega
theorem ev38 {g:Hist'} (hs:Small g):Ev E 38 [.agg (histC g)] (.int .i64 (if wholeH g then countL (choW g) 1 else 0)):=by
  obtain ⟨vc,evc,hvc⟩:=ev43 hs
  have e83:=ev83 hs
  have hCl:=choW_len hs
  have hCs:=choW_sl hs
  refine Ev_wpK (af:=F38) rfl ?_
  obtain ⟨C,hC⟩:∃ C,choW g=C:=⟨_,rfl⟩
  rw [hC] at hvc hCl hCs ⊢
  cases hw:wholeH g
  · rw [hw] at e83
    simp [F38,histC,objCells]
    refine kS_ev e83 (by simp [histC]) rfl (by simp [histC]) ?_
    simp
    exact endV_1 rfl (by simp) rfl
  rw [hw] at e83
  obtain ⟨R,hR⟩:∃ R,countL C 1=R:=⟨_,rfl⟩
  simp [F38,histC,objCells,hR]
  refine kS_ev e83 (by simp [histC]) rfl (by simp [histC]) ?_
  simp [objCells]
  refine kS_ev evc (by simp [histC]) rfl (by simp [histC]) ?_
  refine retSl hvc fun tc addc=>?_
  simp
  refine wp_loopUp [(3,3),(5,5),(12,21)] C.length (fun i s=>s.tm 12 = .int .i64 i∧∃ n,s.tm 3 = .int .i64 n∧0≤n∧n≤1000000∧countL (C.drop i) n=R) rfl rfl ⟨by simp,1,by simp,by omega,by omega,by simpa using hR⟩ ?_
  rintro i s hi ⟨h12,n,h3,n0,n1,hT⟩ f
  have f10:s.tm 10 = .sl tc C.isEmpty C.length (C.flatMap lstC):=by rw [f.t 10 (by simp)];simp
  have f11:s.tm 11 = .int .i64 C.length:=by rw [f.t 11 (by simp)];simp
  have fd:s.df=[]:=by rw [f.d];simp
  clear f
  by_cases hlt:i<C.length
  · have hw':=wrapU hlt (by omega)
    have h1:=lst_at C hlt
    have hix:idxSlV 1 (.sl tc C.isEmpty C.length (C.flatMap lstC)) (.int .i64 (i:Int))=some (.eptr (C.flatMap lstC) (i * 1)):=by
      simp only [idxSlV_sl,flatMap_len lstC_len]
      rw [if_pos (by simp;omega)]
      rfl
    rw [Nat.mul_one] at hix
    have hk:=(hCs _ (List.getElem_mem hlt)).2
    rw [List.drop_eq_getElem_cons hlt,countL] at hT
    have hm:=mul_lt n0 n1 hk
    have hc:=cap6_lt hm.1
    have hwm:=wrap64' (n:=n * ((C[i]).2.length:Int)) (by omega) (by omega)
    have h6:=min6 (n * ((C[i]).2.length:Int))
    generalize (C[i]).2.length=k at *
    simp [h12,f10,f11,h3,hlt,hix,h1,hwm,h6,hw']
    first | exact ⟨hlt,hc.1,hc.2,hT⟩ | exact ⟨hc.1,hc.2,hT⟩
  · have:i=C.length:=by omega
    subst this
    rw [List.drop_length,countL] at hT
    simp [h12,f11,h3]
    exact endV_1 (by simp [fd]) (by simp [hT]) rfl
theorem choR_sl {g:Hist'} (hw:wholeH g=true):∀ x∈choR g,x.2.length≤41:=by
  intro x hx
  unfold choR at hx
  obtain ⟨p,_,rfl⟩:=List.mem_map.1 hx
  have hm:mayH g=true:=by unfold wholeH at hw;simp only [Bool.and_eq_true] at hw;exact hw.1
  exact ofH_len hm _ _
theorem choR_len {g:Hist'} (hs:Small g):(choR g).length≤1000000:=by unfold choR;rw [List.length_map];exact readH_len hs
theorem countL_map:∀ {C D:Cs'} (n:Int),C.map (·.2)=D.map (·.2)→countL C n=countL D n
  | [],[],_,_=>rfl
  | c::C,d::D,n,h=>by
    simp only [List.map_cons,List.cons.injEq] at h
    simp only [countL,h.1]
    exact countL_map _ h.2
  | [],_::_,_,h=>by simp at h
  | _::_,[],_,h=>by simp at h
theorem ev40 {g:Hist'} (hs:Small g) (hw:wholeH g=true):Ev E 40 [.agg (histC g)] (.int .i64 (countL (choW g) 1)):=by
  obtain ⟨vc,evc,hvc⟩:=ev45 hs
  have hCl:=choR_len hs
  have hCs:=choR_sl hw
  rw [countL_map 1 (cho_map hw)]
  refine Ev_wpK (af:=F40) rfl ?_
  obtain ⟨C,hC⟩:∃ C,choR g=C:=⟨_,rfl⟩
  rw [hC] at hvc hCl hCs ⊢
  obtain ⟨R,hR⟩:∃ R,countL C 1=R:=⟨_,rfl⟩
  simp [F40,histC,objCells,hR]
  refine kS_ev evc (by simp [histC]) rfl (by simp [histC]) ?_
  refine retSl hvc fun tc addc=>?_
  simp
  refine wp_loopUp [(4,5),(8,21)] C.length (fun i s=>s.tm 5 = .int .i64 i∧∃ n,s.tm 4 = .int .i64 n∧0≤n∧n≤1000000∧countL (C.drop i) n=R) rfl rfl ⟨by simp,1,by simp,by omega,by omega,by simpa using hR⟩ ?_
  rintro i s hi ⟨h5,n,h4,n0,n1,hT⟩ f
  have f3:s.tm 3 = .sl tc false C.length (C.flatMap lstC):=by rw [f.t 3 (by simp)];simp
  have fd:s.df=[]:=by rw [f.d];simp
  clear f
  by_cases hlt:i<C.length
  · have hw':=wrapU hlt (by omega)
    have h1:=lst_at C hlt
    have hix:idxSlV 1 (.sl tc false C.length (C.flatMap lstC)) (.int .i64 (i:Int))=some (.eptr (C.flatMap lstC) (i * 1)):=by
      simp only [idxSlV_sl,flatMap_len lstC_len]
      rw [if_pos (by simp;omega)]
      rfl
    rw [Nat.mul_one] at hix
    have hk:=hCs _ (List.getElem_mem hlt)
    rw [List.drop_eq_getElem_cons hlt,countL] at hT
    have hm:=mul_lt n0 n1 hk
    have hc:=cap6_lt hm.1
    have hwm:=wrap64' (n:=n * ((C[i]).2.length:Int)) (by omega) (by omega)
    have h6:=min6 (n * ((C[i]).2.length:Int))
    generalize (C[i]).2.length=k at *
    simp [h5,f3,h4,hlt,hix,h1,hwm,h6,hw']
    first | exact ⟨hlt,hc.1,hc.2,hT⟩ | exact ⟨hc.1,hc.2,hT⟩
  · have:i=C.length:=by omega
    subst this
    rw [List.drop_length,countL] at hT
    simp [h5,f3,h4]
    exact endV_1 (by simp [fd]) (by simp [hT]) rfl
def heads (C:Cs') (i:Nat):List Int:=(C.take i).map hd1
def FirstR (r:Int × List Int) (v:V):Prop:=TupS [.sl none r.2.isEmpty r.2.length (r.2.flatMap intC),.int .i64 r.1] v
theorem ev33 {g:Hist'} (hs:Small g):∃ v,Ev E 33 [.agg (histC g)] v∧FirstR (firstH g) v:=by
  obtain ⟨vc,evc,hvc⟩:=ev43 hs
  have e83:=ev83 hs
  have hCl:=choW_len hs
  have hCs:=choW_sl hs
  refine Ev_wpE (af:=F33) rfl (by decide) ?_
  have hnone:∀ {st:St} {x:Int},st.df=[]→st.tm 2 = .sl none true 0 []→st.tm 3 = .int .i64 x→firstH g=(x,[])→kEndE [.t 2,.t 3] (FirstR (firstH g)) .ret st:=by
    intro st x hd h2 h3 hp
    rw [hp]
    exact tupE (ns:=[2,3]) (vs:=[.sl none true 0 [],.int .i64 x]) (fun r h=>h) hd (by simp [h2,h3]) (by simp) (by simp) ⟨outOk_pure rfl,outOk_pure rfl,trivial⟩
  obtain ⟨P,hP⟩:∃ P,FirstR (firstH g)=P:=⟨_,rfl⟩
  rw [hP] at hnone ⊢
  obtain ⟨C,hC⟩:∃ C,choW g=C:=⟨_,rfl⟩
  rw [hC] at hvc hCl hCs
  cases hw:wholeH g
  · rw [hw] at e83
    simp [F33,histC,objCells]
    refine kS_ev e83 (by simp [histC]) rfl (by simp [histC]) ?_
    simp
    exact hnone (x:=4) rfl (by simp) (by simp) (by simp [firstH,hw])
  rw [hw] at e83
  simp [F33,histC,objCells]
  refine kS_ev e83 (by simp [histC]) rfl (by simp [histC]) ?_
  simp [objCells]
  refine kS_ev evc (by simp [histC]) rfl (by simp [histC]) ?_
  refine retSl hvc fun tc addc=>?_
  simp
  refine wp_loopUp [(2,4),(6,6),(13,26)] C.length (fun i s=>s.tm 13 = .int .i64 i∧noEmpty (C.take i)=true∧Grow s.tk 0 s.nx intC 1 (heads C i) (s.tm 4)) rfl rfl ⟨by simp,by simp [noEmpty],by simp [heads];exact Grow.nil _ _ _ _ _⟩ ?_
  rintro i s hi ⟨h13,hne,hG⟩ f
  have f11:s.tm 11 = .sl tc C.isEmpty C.length (C.flatMap lstC):=by rw [f.t 11 (by simp)];simp
  have f12:s.tm 12 = .int .i64 C.length:=by rw [f.t 12 (by simp)];simp
  have fd:s.df=[]:=by rw [f.d];simp
  clear f
  by_cases hlt:i<C.length
  · have hw':=wrapU hlt (by omega)
    have h1:=lst_at C hlt
    have hix:idxSlV 1 (.sl tc C.isEmpty C.length (C.flatMap lstC)) (.int .i64 (i:Int))=some (.eptr (C.flatMap lstC) (i * 1)):=by
      simp only [idxSlV_sl,flatMap_len lstC_len]
      rw [if_pos (by simp;omega)]
      rfl
    rw [Nat.mul_one] at hix
    have hstep:C.take (i+1)=C.take i++[C[i]]:=by rw [List.take_succ_eq_append_getElem hlt]
    obtain ⟨c,hc⟩:∃ c,C[i]=c:=⟨_,rfl⟩
    have hmem:c∈C:=hc ▸ List.getElem_mem hlt
    rw [hc] at h1 hstep
    obtain ⟨b,l⟩:=c
    cases l with
    | nil =>
      simp [h13,f11,f12,hlt,hix,h1]
      refine hnone (x:=3) (by simp [fd]) (by simp) (by simp) ?_
      have:noEmpty C=false:=by
        rw [Bool.eq_false_iff]
        intro h
        have:=List.all_eq_true.1 h _ hmem
        simp at this
      simp [firstH,hw,hC,this]
    | cons x l =>
      have hl0:((l.length:Int)+1 == 0)=false:=by simp;omega
      have hix2:idxSlV 1 (.sl none b (l.length+1) (intC x++l.flatMap intC)) (.int .i64 0)=some (.eptr (intC x++l.flatMap intC) 0):=by
        simp only [idxSlV_sl,List.length_append,flatMap_len intC_len]
        rw [if_pos (by simp;omega)]
        rfl
      have hg0:(intC x++l.flatMap intC)[0]? = some (.int .i64 x):=rfl
      have hhl:(heads C i).length=i:=by unfold heads;rw [List.length_map,List.length_take];omega
      simp [h13,f11,f12,hlt,hix,h1,hl0,hix2,hg0]
      refine kS_buildSl (cs:=intC x) (by simp [splice,intC]) rfl rfl ?_
      simp
      refine kS_appendG (f:=intC) (lo:=0) (hi:=s.nx) (l:=heads C i) (a:=x) (v:=s.tm 4) (hG.mono (fun u _ _ h=>by simp [app_tk,h]) (Nat.le_refl _)) (by simp) (by simp [slCells,intC]) intC_len (by decide) rfl (by omega) (by omega) (fun del hdel=>?_)
      have e1:heads C i++[x]=heads C (i+1):=by unfold heads;rw [hstep,List.map_append];rfl
      have e2:(heads C i).length+1=(heads C (i+1)).length:=by rw [← e1];simp
      have e3:heads C (i+1)≠[]:=by rw [← e1];simp
      have e4:noEmpty (C.take (i+1))=true:=by
        rw [hstep]
        unfold noEmpty at hne ⊢
        rw [List.all_append,hne]
        rfl
      rw [e1,e2]
      obtain ⟨M,hM⟩:∃ M,heads C (i+1)=M:=⟨_,rfl⟩
      rw [hM] at e3 ⊢
      simp [h13,hw',e4,hM]
      exact ⟨hlt,.inr ⟨e3,_,rfl,by simp [app_tk],Nat.zero_le _,by omega⟩⟩
  · have:i=C.length:=by omega
    subst this
    rw [List.take_length] at hne
    have eh:heads C C.length=C.map hd1:=by unfold heads;rw [List.take_length]
    rw [eh] at hG
    obtain ⟨t,ht⟩:=hG.form
    simp [h13,f12]
    have hf:firstH g=(0,C.map hd1):=by simp [firstH,hw,hC,hne]
    rw [← hP,hf]
    refine tupE (ns:=[2,3]) (vs:=[s.tm 4,.int .i64 0]) (fun r h=>h) (by simp [fd]) (by simp) (by simp) (by simp) ⟨?_,outOk_pure rfl,trivial⟩
    rw [ht]
    exact outOk_sl rfl (slOut_sl _ _ _ _ _)
end Go.Pv.T

/- The next map: copies that are owned, and the closure. -/
namespace Go.Pv.T
open Go Go.Pv

theorem kS_callVP {Yf:YF} {f:FuncId} {q:A} {xs:List A} {st:St} {ub:Nat} {K:St→Nat→Prop} {d:Option Nat} {nm:Bool} {first captured vs:List V} {P:V × (Nat→Option Obj') × (Nat→Bool) × Nat→Prop}
    (hq:eval E st.tm q = .fn (.func f) first captured) (hx:first++xs.map (eval E st.tm)++captured=vs) (hs:E.sh nm f=true)
    (he:∃ r,EvS E Yf.y f vs st.ob st.tk st.ro ((st.fb+d.getD 0+1) * 1024) ub r∧P r) (h:∀ v ob' tk' ub',P (v,ob',tk',ub')→K (retS st d v ob' tk') ub'):wpStep E Yf ⟨d,.callV q xs,none,nm⟩ st ub K:=by
  have hsh:sharedCall E nm (eval E st.tm) (.callV q xs)=some (f,vs):=by simp only [sharedCall,hq,hs,hx,Bool.not_true,Bool.false_and,Bool.false_eq_true,if_false]
  simp only [wpStep,wanted,yieldCall,hq,hsh]
  obtain ⟨r,hr,hP⟩:=he
  exact .inl ⟨hs,r,hr,h r.1 r.2.1 r.2.2.1 r.2.2.2 hP⟩
def Old (ob:Nat→Option Obj') (ub:Nat) (ob':Nat→Option Obj'):Prop:=∀ k,(∀ m,ub≤m→k≠2 * m+1)→ob' k=ob k
def NewAt (ub:Nat) (l:List Int) (v:V) (ob':Nat→Option Obj') (ub':Nat):Prop:=∃ m,ub≤m∧m<ub'∧v = .osl (2 * m+1) m 0 l.length 1∧ob' (2 * m+1)=some ⟨m,.cells (l.flatMap intC)⟩
theorem kS_appendO_id {E:Env} {Yf:YF} {st:St} {ub:Nat} {K:St→Nat→Prop} {d:Option Nat} {nm o:Bool} {sz bytes l u off n z:Nat} {cs:List V} {s x:A} (hs:eval E st.tm s = .osl l u off n z) (hx:slCells st.ob sz (eval E st.tm x)=some []) (ho:st.ob l=some ⟨u,.cells cs⟩)
    (h:kSet K st d ub (.osl l u off n z)):wpStep E Yf ⟨d,.append o sz bytes s x,none,nm⟩ st ub K:=by
  have hoc:objCells st.ob l u=some cs:=by simp [objCells,ho]
  rw [wpStep_of _ rfl rfl]
  simp only [aop,hs,hx,hoc,Option.bind_some,if_true,wpD_one,app_v]
  exact h
@[simp] theorem eqVV_sl (ob:Nat→Option Obj') (neg nl:Bool) (t t':Option (Nat × Nat)) (n:Nat) (cs:List V):eqVV ob neg .sl (.sl t nl n cs) (.sl t' true 0 [])=some (.bool (xor neg nl)):=rfl
def CopyP (ob:Nat→Option Obj') (tk:Nat→Bool) (ub:Nat) (l:List Int) (r:V × (Nat→Option Obj') × (Nat→Bool) × Nat):Prop:=NewAt ub l r.1 r.2.1 r.2.2.2∧Old ob ub r.2.1∧r.2.2.1=tk∧ub≤r.2.2.2
theorem sv18 {Yf:YF} (b:Bool) (l:List Int) (hl:l.length≤1000000000) {ob:Nat→Option Obj'} {tk:Nat→Bool} {ro base ub:Nat} (hro:ro≤ub):∃ r,EvS E Yf.y 18 [slOf b intC l] ob tk ro base ub r∧CopyP ob tk ub l r:=by
  refine EvS_wp (af:=S18) rfl (by decide) ?_
  show wpC E Yf S18.body _ (kEndS S18.res _)
  simp [S18]
  refine kS_buildSlO (cs:=[]) rfl rfl rfl ?_
  simp
  by_cases hn:l=[]
  · subst hn
    refine kS_appendO_id (l:=2 * (ub+64)+1) (u:=ub+64) (off:=0) (n:=0) (z:=1) (cs:=[]) (by simp) (by simp [slCells_slOf intC_len]) (by simp) ?_
    simp
    refine endS_1 (by simp) ⟨⟨ub+64,by omega,by simp;try omega,by simp,by simp⟩,fun k hk=>?_,by simp [app_tk0],by simp;try omega⟩
    have:=hk (ub+64) (by omega)
    simp [this]
  · have hne:l.flatMap intC≠[]:=fun e=>hn (by have:=congrArg List.length e;rw [flatMap_len intC_len] at this;exact List.length_eq_zero_iff.1 (by simpa using this))
    have hd:(l.flatMap intC).length / 1=l.length:=by rw [flatMap_len intC_len];simp
    refine kS_appendO (l:=2 * (ub+64)+1) (u:=ub+64) (n:=0) (cs:=[]) (ys:=l.flatMap intC) (by simp) (by simp [slCells_slOf intC_len]) (by simp) hne (by simp;omega) (by simp) (by decide) (by simp [intC]) (by rw [hd];omega) (by rw [hd];omega) ?_
    rw [hd]
    simp
    refine endS_1 (by simp) ⟨⟨ub+192,by omega,by simp;try omega,by simp,by simp⟩,fun k hk=>?_,by simp [app_tkk],by simp;try omega⟩
    have h1:=hk (ub+64) (by omega)
    have h2:=hk (ub+192) (by omega)
    simp [h1,h2]
theorem sv85 {Yf:YF} (l:List Int) (hl:l.length≤1000000000) {ob:Nat→Option Obj'} {tk:Nat→Bool} {ro base ub:Nat} (hro:ro≤ub):∃ r,EvS E Yf.y 85 [slOf false intC l] ob tk ro base ub r∧CopyP ob tk ub l r:=by
  refine EvS_wp (af:=S85) rfl (by decide) ?_
  show wpC E Yf S85.body _ (kEndS S85.res _)
  simp [S85,slOf]
  refine kS_buildSlO (cs:=[]) rfl rfl rfl ?_
  simp
  by_cases hn:l=[]
  · subst hn
    refine kS_appendO_id (l:=2 * (ub+192)+1) (u:=ub+192) (off:=0) (n:=0) (z:=1) (cs:=[]) (by simp) (by simp [slCells]) (by simp) ?_
    simp
    refine endS_1 (by simp) ⟨⟨ub+192,by omega,by simp;try omega,by simp,by simp⟩,fun k hk=>?_,by simp [app_tk0],by simp;try omega⟩
    have:=hk (ub+192) (by omega)
    simp [this]
  · have hne:l.flatMap intC≠[]:=fun e=>hn (by have:=congrArg List.length e;rw [flatMap_len intC_len] at this;exact List.length_eq_zero_iff.1 (by simpa using this))
    have hd:(l.flatMap intC).length / 1=l.length:=by rw [flatMap_len intC_len];simp
    refine kS_appendO (l:=2 * (ub+192)+1) (u:=ub+192) (n:=0) (cs:=[]) (ys:=l.flatMap intC) (by simp) (by simp [slCells,flatMap_len intC_len]) (by simp) hne (by simp;omega) (by simp) (by decide) (by simp [intC]) (by rw [hd];omega) (by rw [hd];omega) ?_
    rw [hd]
    simp
    refine endS_1 (by simp) ⟨⟨ub+320,by omega,by simp;try omega,by simp,by simp⟩,fun k hk=>?_,by simp [app_tkk],by simp;try omega⟩
    have h1:=hk (ub+192) (by omega)
    have h2:=hk (ub+320) (by omega)
    simp [h1,h2]
theorem sv85n {Yf:YF} {ob:Nat→Option Obj'} {tk:Nat→Bool} {ro base ub:Nat}:∃ r,EvS E Yf.y 85 [.sl none true 0 []] ob tk ro base ub r∧r.1 = .sl none true 0 []∧r.2.1=ob∧r.2.2.1=tk∧ub≤r.2.2.2:=by
  refine EvS_wp (af:=S85) rfl (by decide) ?_
  show wpC E Yf S85.body _ (kEndS S85.res _)
  simp [S85]
  exact endS_1 (by simp) ⟨by simp,by simp,by simp,by simp;omega⟩
def riseK (c:List Int) (q:Nat):Nat:=(q+1) % c.length
theorem sv86 {Yf:YF} {ob:Nat→Option Obj'} {tk:Nat→Bool} {ro base ub la ua lc uc lo uo L u n i q:Nat} {ta tc:Option (Nat × Nat)} {nla nlc:Bool} {J:List Int} {C:Cs'} {cs:List V}
    (ha:ob la=some ⟨ua,.cells [.sl ta nla n (J.flatMap intC)]⟩) (hc:ob lc=some ⟨uc,.cells [.sl tc nlc n (C.flatMap lstC)]⟩) (ho:ob lo=some ⟨uo,.cells [.osl L u 0 n 1]⟩) (hL:ob L=some ⟨u,.cells cs⟩) (hcs:cs.length=n)
    (hJl:J.length=n) (hCl:C.length=n) (hi:i<n) (hq:J[i]? = some (q:Int)) (hqc:q<(C[i]).2.length) (hb:(C[i]).2.length≤41) (hro:ro≤u) :
    ∃ r,EvS E Yf.y 86 [.int .i64 (i:Int),.ptr la ua 0,.ptr lc uc 0,.ptr lo uo 0] ob tk ro base ub r∧r.1 = .bool (decide (0<riseK (C[i]).2 q)) ∧
      (∀ k,r.2.1 k=if k=L then some ⟨u,.cells (splice cs i [.int .i64 ((C[i]).2.getD (riseK (C[i]).2 q) 0)])⟩ else ob k)∧r.2.2.1=tk∧ub≤r.2.2.2:=by
  refine EvS_wp (af:=S86) rfl (by decide) ?_
  show wpC E Yf S86.body _ (kEndS S86.res _)
  have h1:=lst_at C (show i<C.length by omega)
  have h2:(J.flatMap intC)[i]? = some (.int .i64 (q:Int)):=by
    have hj:=List.getElem?_eq_some_iff.1 hq
    rw [int_at J hj.1,hj.2]
  have hixa:idxSlV 1 (.sl ta nla n (J.flatMap intC)) (.int .i64 (i:Int))=some (.eptr (J.flatMap intC) i):=by
    simp only [idxSlV_sl,flatMap_len intC_len]
    rw [if_pos (by simp;omega)]
    simp
  have hixc:idxSlV 1 (.sl tc nlc n (C.flatMap lstC)) (.int .i64 (i:Int))=some (.eptr (C.flatMap lstC) i):=by
    simp only [idxSlV_sl,flatMap_len lstC_len]
    rw [if_pos (by simp;omega)]
    simp
  have hio:=idxN (l:=L) (u:=u) (n:=n) (kk:=.i64) (X:=(i:Int)) rfl hi
  obtain ⟨X,hX⟩:∃ X,C[i]=X:=⟨_,rfl⟩
  obtain ⟨nx,X⟩:=X
  rw [hX] at h1 hqc hb ⊢
  simp only at h1 hqc hb ⊢
  have hw:=wrapU (i:=q) (N:=41) (by omega) (by omega)
  have hk:riseK X q<X.length:=Nat.mod_lt _ (by omega)
  have hrem:binV .rem (.int .i64 ((q:Int)+1)) (.int .i64 (X.length:Int))=some (.int .i64 (riseK X q:Nat)):=by
    have h0:¬ (X.length:Int)=0:=by omega
    have e:((q:Int)+1).tmod (X.length:Int)=(riseK X q:Nat):=by
      rw [show (q:Int)+1=((q+1:Nat):Int) from by omega,← Int.ofNat_tmod];rfl
    simp [binV,intBin,e];try (intro e;rw [e] at hqc;simp at hqc)
  have hix:idxSlV 1 (.sl none nx X.length (X.flatMap intC)) (.int .i64 ((riseK X q:Nat):Int))=some (.eptr (X.flatMap intC) (riseK X q)):=by
    simp only [idxSlV_sl,flatMap_len intC_len]
    rw [if_pos (by simp;omega)]
    simp
  have h3:=int_at X hk
  have hg:X.getD (riseK X q) 0=X[riseK X q]:=by simp [hk]
  rw [hg]
  generalize riseK X q=kq at *
  have hle:i+1≤n:=hi
  simp [S86,objCells,ha,hc,ho,hL,hixa,hixc,h1,h2,hw,hrem,hix,h3,hio,hro,hcs,hle]
  refine endS_1 (by simp) ⟨by simp,fun k=>?_,by simp [app_tk0],by simp;try omega⟩
  simp
end Go.Pv.T

/- The next map: wr.Next. -/
namespace Go.Pv.T
open Go Go.Pv

def nextH (g:Hist') (M:List Int):Option (List Int):=if (placesH g M).isSome then nextL (choW g) M else none
def NextR (r:Option (List Int)) (v:V):Prop:=TupS [.sl none (r.getD []).isEmpty (r.getD []).length ((r.getD []).flatMap intC),.bool r.isSome] v
def tryL (C:Cs') (M:List Int) (i:Nat):List Int:=M.take i++(C.drop i).map hd1
theorem tryL_len {C:Cs'} {M:List Int} {i:Nat} (h:C.length=M.length) (hi:i≤C.length):(tryL C M i).length=C.length:=by
  unfold tryL;rw [List.length_append,List.length_take,List.length_map,List.length_drop];omega
theorem tryL_set {C:Cs'} {M:List Int} {i:Nat} (h:C.length=M.length) (hi:i<C.length) (x:Int):splice ((tryL C M (i+1)).flatMap intC) i [.int .i64 x]=(M.take i++x::(C.drop (i+1)).map hd1).flatMap intC:=by
  have hf:=flat_set (f:=intC) (sz:=1) intC_len x (tryL C M (i+1)) i (by rw [tryL_len h (by omega)];exact hi)
  rw [Nat.mul_one] at hf
  rw [show ([.int .i64 x]:List V)=intC x from rfl,hf]
  congr 1
  unfold tryL
  rw [List.take_succ_eq_append_getElem (show i<M.length by omega),List.append_assoc,List.set_append_right _ _ (by rw [List.length_take];omega),List.length_take]
  rw [show i - min i M.length=0 by omega]
  rfl
theorem hd1_get {c:Bool × List Int} (h:0<c.2.length):c.2.getD 0 0=hd1 c:=by
  unfold hd1
  cases hc:c.2 with
  | nil=>rw [hc] at h;simp at h
  | cons x l=>rfl
theorem rise_step {C:Cs'} {M:List Int} {i q:Nat} (h:C.length=M.length) (hi:i<C.length) (hq:idxI (C[i]).2 (M[i]'(by omega)) 0=q) (hqc:q<(C[i]).2.length) (hn:nextL (C.drop (i+1)) (M.drop (i+1))=none) :
    if 0<riseK (C[i]).2 q then nextL C M=some (M.take i++(C[i]).2.getD (riseK (C[i]).2 q) 0::(C.drop (i+1)).map hd1)
    else (C[i]).2.getD (riseK (C[i]).2 q) 0=hd1 C[i]∧nextL (C.drop i) (M.drop i)=none:=by
  have hM:i<M.length:=by omega
  have e:nextL (C.drop i) (M.drop i)=if (q:Int)+1<(C[i]).2.length then some ((C[i]).2.getD ((q:Int)+1).toNat 0::(C.drop (i+1)).map hd1) else none:=by
    rw [List.drop_eq_getElem_cons hi,List.drop_eq_getElem_cons hM]
    simp only [nextL,hn,hq]
  unfold riseK
  by_cases hlt:q+1<(C[i]).2.length
  · rw [Nat.mod_eq_of_lt hlt,if_pos (by omega)]
    rw [if_pos (by omega)] at e
    have h2:=nextL_take C M i _ (by omega) h e
    rw [h2,show ((q:Int)+1).toNat=q+1 by omega]
  · have hqe:q+1=(C[i]).2.length:=by omega
    rw [hqe,Nat.mod_self,if_neg (by omega)]
    rw [if_neg (by omega)] at e
    exact ⟨hd1_get (by omega),e⟩
theorem sv85z {Yf:YF} (b:Bool) {ob:Nat→Option Obj'} {tk:Nat→Bool} {ro base ub:Nat} (hro:ro≤ub):∃ r,EvS E Yf.y 85 [slOf b intC []] ob tk ro base ub r∧(Old ob ub r.2.1∧r.2.2.1=tk∧ub≤r.2.2.2∧r.1.cells=[r.1]∧r.1.leaf=true):=by
  cases b with
  | true =>
    obtain ⟨r,hr,h1,h2,h3,h4⟩:=sv85n (Yf:=Yf) (ob:=ob) (tk:=tk) (ro:=ro) (base:=base) (ub:=ub)
    exact ⟨r,hr,by rw [h2];exact fun _ _=>rfl,h3,h4,by rw [h1];rfl,by rw [h1];rfl⟩
  | false =>
    obtain ⟨r,hr,⟨m,_,_,h1,_⟩,h2,h3,h4⟩:=sv85 (Yf:=Yf) [] (by simp) (ob:=ob) (tk:=tk) (base:=base) hro
    exact ⟨r,hr,h2,h3,h4,by rw [h1];rfl,by rw [h1];rfl⟩
set_option maxRecDepth 100000 in
theorem ev34 {g:Hist'} (hs:Small g) {b:Bool} (M:List Int) (hM:M.length≤1000000) (hb:b=true→M=[]):∃ v,Ev E 34 [.agg (histC g),slOf b intC M] v∧NextR (nextH g M) v:=by
  obtain ⟨vp,evp,hvp⟩:=ev84 hs (b:=b) M hM
  have hCs:=choW_sl hs
  have hnone:∀ {st:St},st.df=[]→st.tm 4 = .sl none true 0 []→st.tm 5 = .bool false→nextH g M=none→kEndE [.t 4,.t 5] (NextR (nextH g M)) .ret st:=by
    intro st hd h4 h5 hp
    rw [hp]
    exact tupE (ns:=[4,5]) (vs:=[.sl none true 0 [],.bool false]) (fun r h=>h) hd (by simp [h4,h5]) (by simp) (by simp) ⟨outOk_pure rfl,outOk_pure rfl,trivial⟩
  refine Ev_wpE (af:=F34) rfl (by decide) ?_
  obtain ⟨P,hP⟩:∃ P,NextR (nextH g M)=P:=⟨_,rfl⟩
  rw [hP] at hnone ⊢
  cases hpl:placesH g M with
  | none =>
    rw [hpl] at hvp
    simp [F34,histC,objCells]
    refine kS_ev evp (by simp [histC,slOf]) rfl (by simp [histC,slOf]) ?_
    refine retSSB hvp fun t1 t2 add=>?_
    simp [objCells,splice]
    exact hnone (by simp) (by simp) (by simp) (by simp [nextH,hpl])
  | some J =>
    rw [hpl] at hvp
    have hpl':=hpl
    unfold placesH at hpl'
    split at hpl'
    case isFalse=>cases hpl'
    rename_i hcond
    simp only [Option.some.injEq] at hpl'
    simp only [Bool.and_eq_true,beq_iff_eq] at hcond
    obtain ⟨hw,hl,hall⟩:=hcond
    have hnx:nextH g M=nextL (choW g) M:=by simp [nextH,hpl]
    obtain ⟨C,hC⟩:∃ C,choW g=C:=⟨_,rfl⟩
    unfold PlacesR at hvp
    rw [hC] at hCs hl hall hpl' hnx hvp
    have hJl:J.length=M.length:=by rw [← hpl',idxJ_len C M hl];exact hl
    have hJat:=idxJ_at C M
    rw [hpl'] at hJat hall
    simp [F34,histC,objCells]
    refine kS_ev evp (by simp [histC,slOf]) rfl (by simp [histC,slOf]) ?_
    refine retSSB hvp fun t1 t2 add=>?_
    simp [objCells,splice]
    by_cases hM0:M=[]
    · subst hM0
      have hC0:C=[]:=List.length_eq_zero_iff.1 (by simpa using hl)
      subst hC0
      refine kS_callP (vs:=[slOf b intC []]) (by simp) rfl (sv85z b (by simp)) ?_
      rintro v ob1 tk1 ub1 ⟨hold,htk,hub,hc1,hc2⟩
      simp only at hold htk hub hc1 hc2
      simp [objCells,hc1,hc2]
      refine wp_unroll 1 ?_
      have wm:IntKind.i64.wrap (-1) = -1:=by decide
      simp [wm]
      exact hnone (by simp) (by simp) (by simp) (by rw [hnx];rfl)
    have hbf:b=false:=by cases b with | false=>rfl | true=>exact absurd (hb rfl) hM0
    subst hbf
    refine kS_callP (vs:=[slOf false intC M]) (by simp) rfl (sv85 M (by omega) (by simp)) ?_
    rintro v ob1 tk1 ub1 ⟨⟨m,hm1,hm2,hv,hmo⟩,hold,htk,hub⟩
    simp only at hm2 hv hmo hold htk hub
    subst hv
    have oA:ob1 1409=some ⟨704,.cells [.sl t2 false J.length (J.flatMap intC)]⟩:=by rw [hold 1409 (by intro k hk;omega)];simp
    have oC:ob1 1281=some ⟨640,.cells [.sl t1 C.isEmpty C.length (C.flatMap lstC)]⟩:=by rw [hold 1281 (by intro k hk;omega)];simp
    have hMl0:0<M.length:=List.length_pos_iff.2 hM0
    have wM:IntKind.i64.wrap ((M.length:Int) - 1)=(M.length:Int) - 1:=wrap64' (by omega) (by omega)
    simp [objCells,wM]
    have et:tryL C M M.length=M:=by unfold tryL;rw [List.take_length,List.drop_of_length_le (by omega)];simp
    have ht0:nextL (C.drop M.length) (M.drop M.length)=none:=by rw [List.drop_of_length_le (by omega)];rfl
    have n1:¬ 1409=2 * ub1+1:=by omega
    have n2:¬ 704=ub1:=by omega
    have n3:¬ 1281=2 * ub1+1:=by omega
    have n4:¬ 640=ub1:=by omega
    have n5:¬ 2 * m+1=2 * ub1+1:=by omega
    have n6:¬ m=ub1:=by omega
    have n7:¬ 2 * m=2 * ub1:=by omega
    refine wp_loopUp [(4,5),(11,11),(27,34)] M.length (fun k s=>s.tm 11 = .int .i64 ((M.length:Int) - 1 - k)∧s.ob 1409=some ⟨704,.cells [.sl t2 false J.length (J.flatMap intC)]⟩∧s.ob 1281=some ⟨640,.cells [.sl t1 C.isEmpty C.length (C.flatMap lstC)]⟩ ∧
      s.ob (2 * ub1+1)=some ⟨ub1,.cells [.osl (2 * m+1) m 0 M.length 1]⟩∧s.ob (2 * m+1)=some ⟨m,.cells ((tryL C M (M.length - k)).flatMap intC)⟩∧nextL (C.drop (M.length - k)) (M.drop (M.length - k))=none) rfl rfl ⟨by simp,by simp [oA,n1],by simp [oC,n3],by simp,by simp [et,hmo,n7],by simpa using ht0⟩ ?_
    rintro k s hk ⟨h11,pA,pC,pO,pL,hT⟩ f
    have f10:s.tm 10 = .fn (.func 86) [] [.ptr 1409 704 0,.ptr 1281 640 0,.ptr (2 * ub1+1) ub1 0]:=by rw [f.t 10 (by simp)];simp
    have f9:s.tm 9 = .ptr (2 * ub1+1) ub1 0:=by rw [f.t 9 (by simp)];simp
    have fd:s.df=[]:=by rw [f.d];simp
    have fr:s.ro=0:=by rw [f.r];simp
    clear f
    by_cases hlt:k<M.length
    · obtain ⟨i,hi⟩:∃ i:Nat,M.length - (k+1)=i:=⟨_,rfl⟩
      have hik:M.length - k=i+1:=by omega
      have hiM:i<M.length:=by omega
      have hiC:i<C.length:=by omega
      have e11:(M.length:Int) - 1 - k=(i:Int):=by omega
      rw [hik] at pL hT
      rw [e11] at h11
      have hji:=hJat i hiC hiM
      have hge:0≤idxI (C[i]).2 M[i] 0:=by simpa using List.all_eq_true.1 hall _ (List.mem_of_getElem? hji)
      have hlq:=idxI_len M[i] (C[i]).2 0
      obtain ⟨q,hq⟩:∃ q:Nat,idxI (C[i]).2 M[i] 0=q:=⟨(idxI (C[i]).2 M[i] 0).toNat,by omega⟩
      rw [hq] at hji hlq
      have hqc:q<(C[i]).2.length:=by omega
      have hb41:=(hCs _ (List.getElem_mem hiC)).2
      have hrise:=rise_step hl hiC hq hqc hT
      have hset:=tryL_set hl hiC (((C[i]).2.getD (riseK (C[i]).2 q) 0))
      have hge0:(0:Int)≤i:=by omega
      have hlenL:((tryL C M (i+1)).flatMap intC).length=M.length:=by rw [flatMap_len intC_len,tryL_len hl (by omega),Nat.mul_one,hl]
      have wi:IntKind.i64.wrap ((i:Int) - 1)=(i:Int) - 1:=wrap64' (by omega) (by omega)
      simp [h11,f10,hge0]
      refine kS_callVP (f:=86) (first:=[]) (captured:=[.ptr 1409 704 0,.ptr 1281 640 0,.ptr (2 * ub1+1) ub1 0]) (vs:=[.int .i64 (i:Int),.ptr 1409 704 0,.ptr 1281 640 0,.ptr (2 * ub1+1) ub1 0]) (by simp) (by simp) rfl
        (sv86 (i:=i) (q:=q) (J:=J) (C:=C) (n:=M.length) (cs:=(tryL C M (i+1)).flatMap intC) (by simpa [hJl] using pA) (by simpa [hl] using pC) (by simpa using pO) (by simpa using pL) hlenL hJl hl hiM hji hqc hb41 (by simp [fr])) ?_
      rintro v ob2 tk2 ub2 ⟨hv,hob,_,hub2⟩
      simp only at hv hob hub2
      subst hv
      have qA:ob2 1409=some ⟨704,.cells [.sl t2 false J.length (J.flatMap intC)]⟩:=by rw [hob,if_neg (by omega)];simpa using pA
      have qC:ob2 1281=some ⟨640,.cells [.sl t1 C.isEmpty C.length (C.flatMap lstC)]⟩:=by rw [hob,if_neg (by omega)];simpa using pC
      have qO:ob2 (2 * ub1+1)=some ⟨ub1,.cells [.osl (2 * m+1) m 0 M.length 1]⟩:=by rw [hob,if_neg (by omega)];simpa using pO
      have qL:=hob (2 * m+1)
      rw [if_pos rfl,hset] at qL
      clear hob
      by_cases hr:0<riseK (C[i]).2 q
      · rw [if_pos hr] at hrise
        simp [hr,f9,objCells,qO]
        rw [← hP,hnx,hrise]
        generalize (C[i]).2.getD (riseK (C[i]).2 q) 0=z at *
        have hlen2:(M.take i++z::(C.drop (i+1)).map hd1).length=M.length:=by
          rw [List.length_append,List.length_take,List.length_cons,List.length_map,List.length_drop];omega
        have hne2:(M.take i++z::(C.drop (i+1)).map hd1).isEmpty=false:=by simp
        generalize M.take i++z::(C.drop (i+1)).map hd1=Z at *
        unfold NextR
        simp only [Option.getD_some,hne2,hlen2]
        refine tupE (ns:=[4,5]) (vs:=[.osl (2 * m+1) m 0 M.length 1,.bool true]) (fun r h=>h) (by simp [fd]) (by simp) (by simp) (by simp) ⟨?_,outOk_pure rfl,trivial⟩
        exact outOk_sl rfl (slOut_osl (by simpa using qL) (by rw [flatMap_len intC_len,Nat.mul_one,hlen2]) (by simp [fr]) (by simp [intC,V.pureLeaf]))
      · rw [if_neg hr] at hrise
        have hr':riseK (C[i]).2 q=0:=by omega
        have ei:tryL C M i=M.take i++(C[i]).2.getD (riseK (C[i]).2 q) 0::(C.drop (i+1)).map hd1:=by
          unfold tryL
          rw [List.drop_eq_getElem_cons hiC,List.map_cons,hrise.1]
        rw [← ei] at qL
        simp [hr,h11,wi]
        rw [hi]
        exact ⟨hlt,by omega,qA,qC,qO,qL,hrise.2⟩
    · have:k=M.length:=by omega
      subst this
      have hm1:(M.length:Int) - 1 - M.length = -1:=by omega
      rw [hm1] at h11
      simp [h11]
      refine hnone (by simp [fd]) (by simp) (by simp) ?_
      rw [hnx]
      simpa using hT
end Go.Pv.T

/- The next map: the reference. -/
namespace Go.Pv.T
open Go Go.Pv

theorem idxI_spec (k:Int):∀ (l:List Int) (n q:Nat),idxI l k n=(n+q:Nat)→l[q]? = some k∧∀ j,j<q→∀ x,l[j]? = some x→¬ x=k
  | [],n,q,h=>by simp only [idxI] at h;omega
  | x::r,n,q,h=>by
    rw [idxI] at h
    split at h
    · rename_i hx
      have:q=0:=by omega
      subst this
      simp only [beq_iff_eq] at hx
      exact ⟨by simp [hx],fun j hj=>by omega⟩
    · rename_i hx
      simp only [beq_iff_eq] at hx
      cases q with
      | zero =>
        have:=idxI_ge_n k r (n+1)
        omega
      | succ q =>
        have ih:=idxI_spec k r (n+1) q (by omega)
        refine ⟨by simpa using ih.1,fun j hj y hy=>?_⟩
        cases j with
        | zero=>simp only [List.getElem?_cons_zero,Option.some.injEq] at hy;subst hy;exact fun e=>hx e.symm
        | succ j=>exact ih.2 j (by omega) y (by simpa using hy)
where
  idxI_ge_n (k:Int):∀ (l:List Int) (n:Nat),idxI l k n = -1∨(n:Int)≤idxI l k n
    | [],n=>.inl rfl
    | x::r,n=>by
      rw [idxI]
      split
      · exact .inr (Int.le_refl _)
      · rcases idxI_ge_n k r (n+1) with h | h
        · exact .inl h
        · exact .inr (by omega)
theorem idxJ_map:∀ {C D:Cs'} (M:List Int),C.map (·.2)=D.map (·.2)→idxJ C M=idxJ D M
  | [],[],_,_=>rfl
  | c::C,d::D,[],_=>rfl
  | c::C,d::D,m::M,h=>by
    simp only [List.map_cons,List.cons.injEq] at h
    simp only [idxJ,h.1,idxJ_map M h.2]
  | [],_::_,_,h=>by simp at h
  | _::_,[],_,h=>by simp at h
theorem hd1_map:∀ {C D:Cs'},C.map (·.2)=D.map (·.2)→C.map hd1=D.map hd1
  | [],[],_=>rfl
  | c::C,d::D,h=>by
    simp only [List.map_cons,List.cons.injEq] at h
    rw [List.map_cons,List.map_cons,hd1_map h.2]
    simp only [hd1,h.1]
  | [],_::_,h=>by simp at h
  | _::_,[],h=>by simp at h
theorem nextL_map:∀ {C D:Cs'} (M:List Int),C.map (·.2)=D.map (·.2)→nextL C M=nextL D M
  | [],[],_,_=>rfl
  | c::C,d::D,[],_=>rfl
  | c::C,d::D,m::M,h=>by
    simp only [List.map_cons,List.cons.injEq] at h
    simp only [nextL,h.1,nextL_map M h.2,hd1_map h.2]
  | [],_::_,_,h=>by simp at h
  | _::_,[],_,h=>by simp at h
set_option maxRecDepth 100000 in
theorem ev36 {g:Hist'} (hs:Small g) {b:Bool} (M:List Int) (hM:M.length≤1000000) (hp:(placesH g M).isSome=true):∃ v,Ev E 36 [.agg (histC g),slOf b intC M] v∧NextR (nextH g M) v:=by
  obtain ⟨vc,evc,hvc⟩:=ev45 hs
  have hnx:nextH g M=nextL (choW g) M:=by simp [nextH,hp]
  unfold placesH at hp
  split at hp
  case isFalse=>cases hp
  rename_i hcond
  clear hp
  simp only [Bool.and_eq_true,beq_iff_eq] at hcond
  obtain ⟨hw,hl,hall⟩:=hcond
  have hcm:=cho_map hw
  have hCs:=choR_sl hw
  rw [nextL_map M hcm] at hnx
  rw [idxJ_map M hcm] at hall
  rw [cho_len hw] at hl
  obtain ⟨C,hC⟩:∃ C,choR g=C:=⟨_,rfl⟩
  rw [hC] at hvc hnx hall hl hCs
  clear hC hcm
  have hJat:=idxJ_at C M
  obtain ⟨J,hJ⟩:∃ J,idxJ C M=J:=⟨_,rfl⟩
  rw [hJ] at hall hJat
  refine Ev_wpE (af:=F36) rfl (by decide) ?_
  obtain ⟨P,hP⟩:∃ P,NextR (nextH g M)=P:=⟨_,rfl⟩
  rw [hP]
  have wM:IntKind.i64.wrap ((M.length:Int) - 1)=(M.length:Int) - 1:=wrap64' (by omega) (by omega)
  simp [F36,histC,objCells]
  refine kS_ev evc (by simp [histC]) rfl (by simp [histC]) ?_
  refine retSl hvc fun tc addc=>?_
  simp
  refine kS_callP (vs:=[slOf b intC M]) (by simp) rfl (sv18 b M (by omega) (by simp)) ?_
  rintro v ob1 tk1 ub1 ⟨⟨m,hm1,hm2,hv,hmo⟩,hold,htk,hub⟩
  simp only at hm2 hv hmo hold htk hub
  subst hv
  simp [wM]
  have et:tryL C M M.length=M:=by unfold tryL;rw [List.take_length,List.drop_of_length_le (by omega)];simp
  have ht0:nextL (C.drop M.length) (M.drop M.length)=none:=by rw [List.drop_of_length_le (by omega)];rfl
  refine wp_loopUp [(4,5),(8,9),(17,63)] M.length (fun k s=>s.tm 8 = .int .i64 ((M.length:Int) - 1 - k)∧s.ob (2 * m+1)=some ⟨m,.cells ((tryL C M (M.length - k)).flatMap intC)⟩∧nextL (C.drop (M.length - k)) (M.drop (M.length - k))=none) rfl rfl ⟨by simp,by simp [et,hmo],by simpa using ht0⟩ ?_
  rintro k s hk ⟨h8,pL,hT⟩ f
  have f1:s.tm 1=slOf b intC M:=by rw [f.t 1 (by simp)];simp
  have f6:s.tm 6 = .sl tc false C.length (C.flatMap lstC):=by rw [f.t 6 (by simp)];simp
  have f7:s.tm 7 = .osl (2 * m+1) m 0 M.length 1:=by rw [f.t 7 (by simp)];simp
  have fd:s.df=[]:=by rw [f.d];simp
  have fr:s.ro=0:=by rw [f.r];simp
  clear f
  by_cases hlt:k<M.length
  · obtain ⟨i,hi⟩:∃ i:Nat,M.length - (k+1)=i:=⟨_,rfl⟩
    have hik:M.length - k=i+1:=by omega
    have hiM:i<M.length:=by omega
    have hiC:i<C.length:=by omega
    have e8:(M.length:Int) - 1 - k=(i:Int):=by omega
    rw [hik] at pL hT
    rw [e8] at h8
    have hji:=hJat i hiC hiM
    have hge:0≤idxI (C[i]).2 M[i] 0:=by simpa using List.all_eq_true.1 hall _ (List.mem_of_getElem? hji)
    have hlq:=idxI_len M[i] (C[i]).2 0
    obtain ⟨q,hq⟩:∃ q:Nat,idxI (C[i]).2 M[i] 0=q:=⟨(idxI (C[i]).2 M[i] 0).toNat,by omega⟩
    rw [hq] at hlq
    have hqc:q<(C[i]).2.length:=by omega
    have hb41:=hCs _ (List.getElem_mem hiC)
    have hrise:=rise_step hl hiC hq hqc hT
    obtain ⟨sp1,sp2⟩:=idxI_spec M[i] (C[i]).2 0 q (by rw [hq];omega)
    have hset:=tryL_set hl hiC (((C[i]).2.getD (riseK (C[i]).2 q) 0))
    have hge0:(0:Int)≤i:=by omega
    have hlenL:((tryL C M (i+1)).flatMap intC).length=M.length:=by rw [flatMap_len intC_len,tryL_len hl (by omega),Nat.mul_one,hl]
    have wi:IntKind.i64.wrap ((i:Int) - 1)=(i:Int) - 1:=wrap64' (by omega) (by omega)
    have ei:tryL C M i=M.take i++hd1 C[i]::(C.drop (i+1)).map hd1:=by
      unfold tryL
      rw [List.drop_eq_getElem_cons hiC,List.map_cons]
    have h1:=lst_at C hiC
    have h2:=int_at M hiM
    have hixc:idxSlV 1 (.sl tc false C.length (C.flatMap lstC)) (.int .i64 (i:Int))=some (.eptr (C.flatMap lstC) i):=by
      simp only [idxSlV_sl,flatMap_len lstC_len]
      rw [if_pos (by simp;omega)]
      simp
    have hio:=idxN (l:=2 * m+1) (u:=m) (n:=M.length) (kk:=.i64) (X:=(i:Int)) rfl hiM
    obtain ⟨Mi,hMi⟩:∃ x,M[i]=x:=⟨_,rfl⟩
    rw [hMi] at h2 sp1 sp2
    obtain ⟨X,hX⟩:∃ X,C[i]=X:=⟨_,rfl⟩
    obtain ⟨nx,X⟩:=X
    rw [hX] at h1 hqc hb41 hrise sp1 sp2 hset ei
    simp only at h1 hqc hb41 hrise sp1 sp2 hset
    have hix:∀ j:Nat,j<X.length→idxSlV 1 (.sl none nx X.length (X.flatMap intC)) (.int .i64 (j:Int))=some (.eptr (X.flatMap intC) j):=by
      intro j hj
      simp only [idxSlV_sl,flatMap_len intC_len]
      rw [if_pos (by simp;omega)]
      simp
    simp [h8,hge0]
    refine wp_loopUp [(9,9),(21,34)] q (fun j s'=>s'.tm 9 = .int .i64 (j:Nat)∧s'.ob=s.ob) rfl rfl ⟨by simp,by simp⟩ ?_
    rintro j s' hj ⟨h9,hob⟩ f
    have g1:s'.tm 1=slOf b intC M:=by rw [f.t 1 (by simp)];simp [f1]
    have g6:s'.tm 6 = .sl tc false C.length (C.flatMap lstC):=by rw [f.t 6 (by simp)];simp [f6]
    have g7:s'.tm 7 = .osl (2 * m+1) m 0 M.length 1:=by rw [f.t 7 (by simp)];simp [f7]
    have g8:s'.tm 8 = .int .i64 (i:Int):=by rw [f.t 8 (by simp)];simp [h8]
    have gd:s'.df=[]:=by rw [f.d];simp [fd]
    have gr:s'.ro=0:=by rw [f.r];simp [fr]
    clear f
    rw [← hob] at pL
    have wj:=wrapU (i:=j) (N:=42) (by omega) (by omega)
    have h3:=int_at X (show j<X.length by omega)
    by_cases hjq:j<q
    · have hne:(X[j] != Mi)=true:=by
        have:=sp2 j hjq X[j] (List.getElem?_eq_getElem (by omega))
        simpa using this
      simp [h9,g1,g6,g8,hixc,h1,hix j (by omega),h3,idx_slOf intC_len,hiM,h2,hne,wj]
      exact ⟨hjq,hob⟩
    · have:j=q:=by omega
      subst this
      have hne:(X[j] != Mi)=false:=by
        have e:=List.getElem?_eq_getElem hqc
        rw [e] at sp1
        simp only [Option.some.injEq] at sp1
        simp [sp1]
      have hle:i+1≤M.length:=hiM
      unfold riseK at hrise hset
      by_cases hr:j+1<X.length
      · rw [Nat.mod_eq_of_lt hr,if_pos (by omega)] at hrise
        rw [Nat.mod_eq_of_lt hr] at hset
        have h4:=int_at X hr
        have hg:X.getD (j+1) 0=X[j+1]:=by simp [hr]
        rw [hg] at hrise hset
        have hr':(j:Int)+1<X.length:=by omega
        have hix1:=hix (j+1) hr
        simp only [Int.natCast_add,Int.cast_ofNat_Int] at hix1
        simp [h9,g1,g6,g7,g8,hixc,h1,hix j (by omega),h3,idx_slOf intC_len,hiM,h2,hne,wj,hr',hix1,h4,hio,objCells,pL,gr,hlenL,hle]
        rw [← hP,hnx,hrise]
        generalize X[j+1]=z at *
        have hlen2:(M.take i++z::(C.drop (i+1)).map hd1).length=M.length:=by
          rw [List.length_append,List.length_take,List.length_cons,List.length_map,List.length_drop];omega
        have hne2:(M.take i++z::(C.drop (i+1)).map hd1).isEmpty=false:=by simp
        generalize M.take i++z::(C.drop (i+1)).map hd1=Z at *
        unfold NextR
        simp only [Option.getD_some,hne2,hlen2]
        refine tupE (ns:=[4,5]) (vs:=[.osl (2 * m+1) m 0 M.length 1,.bool true]) (fun r h=>h) (by simp [gd]) (by simp) (by simp) (by simp) ⟨?_,outOk_pure rfl,trivial⟩
        exact outOk_sl rfl (slOut_osl (by simp [hset]) (by rw [flatMap_len intC_len,Nat.mul_one,hlen2]) (by simp [gr]) (by simp [intC,V.pureLeaf]))
      · have hje:j+1=X.length:=by omega
        rw [hje,Nat.mod_self,if_neg (by omega)] at hrise
        rw [hje,Nat.mod_self] at hset
        have h0l:0<X.length:=by omega
        have h4:=int_at X h0l
        have hg:X.getD 0 0=X[0]:=by simp [h0l]
        rw [hg] at hrise hset
        have hr':¬ (j:Int)+1<X.length:=by omega
        have hix1:=hix 0 h0l
        simp only [Int.cast_ofNat_Int] at hix1
        simp [h9,g1,g6,g7,g8,hixc,h1,hix j (by omega),h3,idx_slOf intC_len,hiM,h2,hne,wj,hr',hix1,h4,hio,objCells,pL,gr,hlenL,hle,wi,hset]
        rw [hi,ei,← hrise.1]
        exact ⟨hlt,by omega,by simp,hrise.2⟩
  · have:k=M.length:=by omega
    subst this
    have hm1:(M.length:Int) - 1 - M.length = -1:=by omega
    rw [hm1] at h8
    simp [h8]
    rw [← hP,hnx,show nextL C M=none by simpa using hT]
    exact tupE (ns:=[4,5]) (vs:=[.sl none true 0 [],.bool false]) (fun r h=>h) (by simp [fd]) (by simp) (by simp) (by simp) ⟨outOk_pure rfl,outOk_pure rfl,trivial⟩
end Go.Pv.T

/- All maps, at most so many: the reference. -/
namespace Go.Pv.T
open Go Go.Pv

theorem ev18t (b:Bool) (l:List Int) (hl:l.length≤1000000000):Ev E 18 [slOf b intC l] (.sl (some (0,1)) false l.length (l.flatMap intC)):=by
  refine Ev_wpK (af:=F18) rfl ?_
  simp [F18]
  refine kS_buildSl (cs:=[]) rfl rfl rfl ?_
  simp
  by_cases hn:l=[]
  · subst hn
    rw [wpStep_of _ rfl rfl]
    simp [aop,slCells_slOf intC_len,wpD_one]
    exact endV_tokG (u:=64) rfl (by simp) (by simp [app_tk])
  · have hne:l.flatMap intC≠[]:=fun e=>hn (by have:=congrArg List.length e;rw [flatMap_len intC_len] at this;exact List.length_eq_zero_iff.1 (by simpa using this))
    have hd:(l.flatMap intC).length / 1=l.length:=by rw [flatMap_len intC_len];simp
    refine kS_append_tok (u:=64) (n:=0) (nl:=false) (cs:=[]) (ys:=l.flatMap intC) (by simp) (by simp [app_tk]) (by simp [slCells_slOf intC_len]) hne rfl (by decide) (by simp [intC,V.pureLeaf]) (by rw [hd];omega) (by rw [hd];omega) ?_
    rw [hd]
    simp
    exact endV_tokG (u:=192) rfl (by simp) (by simp [app_tk])
theorem retA_t1 (ub n:Nat) (cs:List V):retA ub (.sl (some (0,1)) false n cs)=some { v:=.sl (some (ub,1)) false n cs,add:=[ub] }:=rfl
section
variable {E:Env} {st:St} {ub:Nat} {K:List FP→St→Prop} {d:Option Nat} {nm:Bool} {r:List AOpr}
theorem kD_appendU {α:Type} {f:α→List V} {sz bytes u:Nat} {l:List α} {a:α} {s x:A} (hs:eval E st.tm s = .sl (some (u,sz)) false l.length (l.flatMap f)) (ht:st.tk u=true) (hx:slCells st.ob sz (eval E st.tm x)=some (f a)) (hf:∀ a,(f a).length=sz) (h0:0<sz)
    (hp:(f a).all V.pureLeaf=true) (hb:(l.length+1) * bytes≤140737488355328) (hb2:l.length+1≤140737488355328)
    (h:kDApp E r K (eval E st.tm) (.append false sz bytes s x) st d ub { v:=.sl (some (ub,sz)) false (l.length+1) ((l++[a]).flatMap f),del:=some u,add:=[ub] }):wpDraw E (⟨d,.append false sz bytes s x,none,nm⟩::r) st ub K:=by
  have hne:f a≠[]:=fun e=>by have:=hf a;rw [e] at this;simp at this;omega
  have h1:(f a).length / sz=1:=by rw [hf];exact Nat.div_self h0
  rw [wpDraw_of rfl]
  simp only [aop,hs,hx,Option.bind_some,if_neg hne,Bool.false_and,Bool.false_eq_true,if_false]
  rw [if_pos ⟨by rw [flatMap_len hf],h0,hp,by rw [h1];exact hb,by rw [h1];exact hb2⟩,if_pos (by simp [ht]),wpD_some,h1]
  simpa using h
end
def lstF (l:List Int):List V:=lstC (false,l)
@[simp] theorem lstF_len (l:List Int):(lstF l).length=1:=rfl
theorem lstF_at (L:List (List Int)) {i:Nat} (h:i<L.length):(L.flatMap lstF)[i]? = some (.sl none false (L[i]).length ((L[i]).flatMap intC)):=by
  have:=fld_at lstF_len L h (by decide:0<1)
  rw [Nat.mul_one,Nat.add_zero] at this
  rw [this];rfl
def fullA (c:Bool × List Int) (out:List (List Int)) (k j:Nat):List (List Int):=stepA c (out.take k)++(c.2.take j).map fun x=>out.getD k []++[x]
theorem stepA_app (c:Bool × List Int) (a b:List (List Int)):stepA c (a++b)=stepA c a++stepA c b:=by unfold stepA;rw [List.flatMap_append]
theorem fullA_next {c:Bool × List Int} {out:List (List Int)} {k:Nat} (hk:k<out.length) (j:Nat):fullA c out (k+1) 0=fullA c out k j++(c.2.drop j).map fun x=>out.getD k []++[x]:=by
  unfold fullA
  rw [List.take_succ_eq_append_getElem hk,stepA_app,List.take_zero,List.map_nil,List.append_nil,List.append_assoc,← List.map_append,List.take_append_drop]
  congr 1
  simp [stepA,hk]
theorem fullA_step {c:Bool × List Int} {out:List (List Int)} {k j:Nat} (hj:j<c.2.length):fullA c out k (j+1)=fullA c out k j++[out.getD k []++[c.2[j]]]:=by
  unfold fullA
  rw [List.take_succ_eq_append_getElem hj,List.map_append,List.append_assoc]
  rfl
theorem fullA_end (c:Bool × List Int) (out:List (List Int)):fullA c out out.length 0=stepA c out:=by unfold fullA;simp
theorem fullA_zero (c:Bool × List Int) (out:List (List Int)):fullA c out 0 0=[]:=by unfold fullA stepA;simp
theorem take_more {α:Type} {n:Nat} {a b:List α} (h:n≤a.length):(a++b).take n=a.take n:=by rw [List.take_append_of_le_length h]
theorem stepA_lens {c:Bool × List Int} {n i:Nat} {out:List (List Int)} (h:∀ o∈out,o.length=i):∀ o∈(stepA c out).take n,o.length=i+1:=by
  intro o ho
  have:=List.mem_of_mem_take ho
  unfold stepA at this
  obtain ⟨p,hp,hm⟩:=List.mem_flatMap.1 this
  obtain ⟨x,_,rfl⟩:=List.mem_map.1 hm
  rw [List.length_append,h p hp];rfl
theorem allF_snoc:∀ (C:Cs') (n:Nat) (out:List (List Int)) (c:Bool × List Int),allF (C++[c]) n out=(stepA c (allF C n out)).take n
  | [],n,out,c=>rfl
  | d::C,n,out,c=>by simp only [List.cons_append,allF];exact allF_snoc C n _ c
theorem allF_len:∀ (C:Cs') (n:Nat) (out:List (List Int)),out.length≤n→(allF C n out).length≤n
  | [],n,out,h=>h
  | d::C,n,out,_=>allF_len C n _ (by rw [List.length_take];omega)
theorem allF_lens:∀ (C:Cs') (n i:Nat) (out:List (List Int)),(∀ o∈out,o.length=i)→∀ o∈allF C n out,o.length=i+C.length
  | [],n,i,out,h=>h
  | d::C,n,i,out,h=>by
    intro o ho
    have:=allF_lens C n (i+1) _ (stepA_lens (c:=d) (n:=n) h) o ho
    rw [this,List.length_cons];omega
set_option maxRecDepth 100000 in
theorem ev41 {g:Hist'} (hs:Small g) (hw:wholeH g=true) (most:Nat) (h0:1≤most) (h1:most≤1000):∃ v,Ev E 41 [.agg (histC g),.int .i64 most] v∧SlR v false (allF (choR g) most [[]]).length ((allF (choR g) most [[]]).flatMap lstF):=by
  obtain ⟨vc,evc,hvc⟩:=ev45 hs
  have hCl:=choR_len hs
  have hCs:=choR_sl hw
  obtain ⟨C,hC⟩:∃ C,choR g=C:=⟨_,rfl⟩
  rw [hC] at hvc hCl hCs ⊢
  refine Ev_wpE (af:=F41) rfl (by decide) ?_
  simp [F41,histC,objCells]
  refine kS_ev evc (by simp [histC]) rfl (by simp [histC]) ?_
  refine retSl hvc fun tc addc=>?_
  simp
  refine kS_buildSl (cs:=[]) rfl rfl rfl ?_
  simp
  refine kS_buildSl (cs:=[.sl (some (320,1)) false 0 []]) (by simp [splice]) rfl rfl ?_
  simp [V.strip1]
  refine wp_loopUp [(6,10),(15,60)] C.length (fun i s=>s.tm 7 = .int .i64 i∧∃ t,s.tm 6 = .sl t false (allF (C.take i) most [[]]).length ((allF (C.take i) most [[]]).flatMap lstF)) rfl rfl ⟨by simp,by simp [allF,lstF,lstC]⟩ ?_
  rintro i s hi ⟨h7,t6,h6⟩ f
  have f1:s.tm 1 = .int .i64 most:=by rw [f.t 1 (by simp)];simp
  have f5:s.tm 5 = .sl tc false C.length (C.flatMap lstC):=by rw [f.t 5 (by simp)];simp
  have fd:s.df=[]:=by rw [f.d];simp
  clear f
  have hol:=allF_len (C.take i) most [[]] (by simpa using h0)
  have hos:=allF_lens (C.take i) most 0 [[]] (by simp)
  obtain ⟨out,hout⟩:∃ out,allF (C.take i) most [[]]=out:=⟨_,rfl⟩
  rw [hout] at h6 hol hos
  by_cases hlt:i<C.length
  · have hw':=wrapU hlt (by omega)
    have hstep:allF (C.take (i+1)) most [[]]=(stepA C[i] out).take most:=by rw [List.take_succ_eq_append_getElem hlt,allF_snoc,hout]
    have hk41:=hCs _ (List.getElem_mem hlt)
    have hci:=lst_at C hlt
    obtain ⟨c,hc⟩:∃ c,C[i]=c:=⟨_,rfl⟩
    rw [hc] at hstep hk41 hci
    have hixc:idxSlV 1 (.sl tc false C.length (C.flatMap lstC)) (.int .i64 (i:Int))=some (.eptr (C.flatMap lstC) i):=by
      simp only [idxSlV_sl,flatMap_len lstC_len]
      rw [if_pos (by simp;omega)]
      simp
    simp [h7,f5,hlt]
    refine kS_buildSl (cs:=[]) rfl rfl rfl ?_
    simp
    refine wp_loopUp [(8,10),(22,59)] out.length (fun k s'=>s'.tm 9 = .int .i64 k∧GrowT s'.tk s'.nx lstF 1 ((fullA c out k 0).take most) (s'.tm 8)) rfl rfl ⟨by simp,by simp [fullA_zero];exact ⟨s.nx+64+64+64+64,by simp,by simp [app_tk],by simp⟩⟩ ?_
    rintro k s' hk ⟨h9,hG⟩ f
    have e1:s'.tm 1 = .int .i64 most:=by rw [f.t 1 (by simp)];simp [f1]
    have e5:s'.tm 5 = .sl tc false C.length (C.flatMap lstC):=by rw [f.t 5 (by simp)];simp [f5]
    have e6:s'.tm 6 = .sl t6 false out.length (out.flatMap lstF):=by rw [f.t 6 (by simp)];simp [h6]
    have e7:s'.tm 7 = .int .i64 i:=by rw [f.t 7 (by simp)];simp [h7]
    have ed:s'.df=[]:=by rw [f.d];simp [fd]
    clear f
    by_cases hkt:k<out.length
    · have hwk:=wrapU hkt (by omega)
      have hok:=lstF_at out hkt
      have hgd:out.getD k []=out[k]:=by simp [hkt]
      have hixo:idxSlV 1 (.sl t6 false out.length (out.flatMap lstF)) (.int .i64 (k:Int))=some (.eptr (out.flatMap lstF) k):=by
        simp only [idxSlV_sl,flatMap_len lstF_len]
        rw [if_pos (by simp;omega)]
        simp
      have holk:(out[k]).length≤1000000:=by have:=hos _ (List.getElem_mem hkt);simp at this;omega
      simp [h9,e6,hkt]
      refine wp_loopUp [(8,8),(10,10),(28,59)] c.2.length (fun j s2=>s2.tm 10 = .int .i64 (j:Nat)∧GrowT s2.tk s2.nx lstF 1 ((fullA c out k j).take most) (s2.tm 8)) rfl rfl ⟨by simp,by simp;exact hG.mono (fun _ _ h=>h) (by omega)⟩ ?_
      rintro j s2 hj ⟨h10,hG2⟩ f
      have g1:s2.tm 1 = .int .i64 most:=by rw [f.t 1 (by simp)];simp [e1]
      have g5:s2.tm 5 = .sl tc false C.length (C.flatMap lstC):=by rw [f.t 5 (by simp)];simp [e5]
      have g6:s2.tm 6 = .sl t6 false out.length (out.flatMap lstF):=by rw [f.t 6 (by simp)];simp [e6]
      have g7:s2.tm 7 = .int .i64 i:=by rw [f.t 7 (by simp)];simp [e7]
      have g9:s2.tm 9 = .int .i64 k:=by rw [f.t 9 (by simp)];simp [h9]
      have gd:s2.df=[]:=by rw [f.d];simp [ed]
      clear f
      obtain ⟨u8,hu8,hu9,hu10⟩:=id hG2
      have hfl:((fullA c out k j).take most).length=min most (fullA c out k j).length:=List.length_take
      by_cases hjt:j<c.2.length
      · by_cases hm:(fullA c out k j).length<most
        · have hfe:(fullA c out k j).take most=fullA c out k j:=List.take_of_length_le (by omega)
          have hnext:(fullA c out k (j+1)).take most=fullA c out k j++[out[k]++[c.2[j]]]:=by
            rw [fullA_step hjt,hgd,List.take_of_length_le (by rw [List.length_append];simp;omega)]
          have hwj:=wrapU hjt (by omega)
          have hxj:=int_at c.2 hjt
          have hixj:idxSlV 1 (.sl none c.1 c.2.length (c.2.flatMap intC)) (.int .i64 (j:Int))=some (.eptr (c.2.flatMap intC) j):=by
            simp only [idxSlV_sl,flatMap_len intC_len]
            rw [if_pos (by simp;omega)]
            simp
          rw [hfe] at hu8 hG2
          have hml:((fullA c out k j).length:Int)<most:=by omega
          simp [h10,g1,g5,g6,g7,g9,hixc,hci,hjt,hu8,hml,hixo,hok]
          refine kD_ev (ev18t false (out[k]) (by omega)) (by simp [slOf]) rfl (by simp [slOf]) ?_
          rw [retA_t1]
          simp [g5,g7,h10,hixc,hci,hixj,hxj]
          refine kD_buildSl (cs:=intC c.2[j]) (by simp [splice,intC]) rfl rfl ?_
          simp
          refine kD_appendU (f:=intC) (u:=s2.nx+64+64+64+64+64+64+64+64+64+64+64+64+64+64+64+64+64+64) (l:=out[k]) (a:=c.2[j]) (by simp) (by simp [app_tk]) (by simp [slCells,intC]) intC_len (by decide) rfl (by omega) (by omega) ?_
          have hcat:(out[k]).flatMap intC++intC c.2[j]=(out[k]++[c.2[j]]).flatMap intC:=by simp
          simp
          refine kD_buildSl (cs:=[.sl (some (s2.nx+64+64+64+64+64+64+64+64+64+64+64+64+64+64+64+64+64+64+64+64+64+64+64+64+64+64+64,1)) false ((out[k]).length+1) ((out[k]).flatMap intC++intC c.2[j])]) (by simp [splice]) rfl (by simp [V.strip1,V.pureLeaf]) ?_
          simp [V.strip1]
          refine kD_appendU (f:=lstF) (u:=u8) (l:=fullA c out k j) (a:=out[k]++[c.2[j]]) (by simp) (by simp [app_tk,hu9];try omega) (by simp [slCells,lstF,lstC]) lstF_len (by decide) (by simp [lstF,lstC,V.pureLeaf]) (by omega) (by omega) ?_
          have hl1:(fullA c out k j).length+1=(fullA c out k j++[out[k]++[c.2[j]]]).length:=by simp
          rw [← hnext] at hl1 ⊢
          rw [hl1]
          obtain ⟨N,hN⟩:∃ N,(fullA c out k (j+1)).take most=N:=⟨_,rfl⟩
          rw [hN]
          simp [h10,hwj]
          refine ⟨?_,hjt,?_⟩
          · simp [drawOk,indep,disj,fpOf,rdOb,rdTk,lOf,uOf,Delta.wo,Delta.wt]
            rw [Bool.eq_false_iff]
            intro h
            have:=Nat.eq_of_beq_eq_true h
            omega
          · rw [hN]
            refine ⟨_,rfl,?_,?_⟩
            · simp [app_tk]
            · omega
        · have hml:¬ ((fullA c out k j).length:Int)<most:=by omega
          have hmm:min most (fullA c out k j).length=most:=by omega
          simp [h10,g1,g5,g7,g9,hixc,hci,hjt,hu8,hmm]
          have e:(fullA c out (k+1) 0).take most=(fullA c out k j).take most:=by rw [fullA_next hkt j];exact take_more (by omega)
          rw [e]
          refine ⟨hkt,hwk,?_⟩
          exact ⟨u8,by rw [hfl,hmm],hu9,by omega⟩
      · have hje:j=c.2.length:=by omega
        subst hje
        simp [h10,g5,g7,g9,hixc,hci]
        have e:(fullA c out (k+1) 0).take most=(fullA c out k c.2.length).take most:=by rw [fullA_next hkt c.2.length,List.drop_length];simp
        rw [e]
        refine ⟨hkt,hwk,?_⟩
        exact hG2.mono (fun _ _ h=>h) (by omega)
    · have hke:k=out.length:=by omega
      subst hke
      obtain ⟨u8,hu8,_,_⟩:=hG
      rw [fullA_end,← hstep] at hu8
      simp [h9,e6,e7,hw',hu8]
      exact hlt
  · have:i=C.length:=by omega
    subst this
    rw [List.take_length] at hout
    rw [hout]
    simp [h7,f5]
    exact slE (t:=t6) (nl:=false) (k:=out.length) (cs:=out.flatMap lstF) (fun r h=>h) (by simp [fd]) (by simp [h6])
end Go.Pv.T

/- A fixed text is read, by the kernel. -/
namespace Go.Pv.T
open Go Go.Pv

def txt39:List UInt8:=[98,101,103,105,110,32,115,10,119,114,105,116,101,32,115,32,120,32,49,10,111,107,32,115,10,98,101,103,105,110,32,115,10,119,114,105,116,101,32,115,32,120,32,49,10,111,107,32,115,10,98,101,103,105,110,32,116,10,114,101,97,100,32,116,32,120,32,49,10,111,107,32,116]
def H39:Hist':=⟨false,[[115],[116]],false,[[120]],false,[⟨0,1,false,[⟨true,0,⟨1,1⟩⟩]⟩,⟨0,1,false,[⟨true,0,⟨1,1⟩⟩]⟩,⟨1,1,false,[⟨false,0,⟨1,1⟩⟩]⟩]⟩
theorem k67:(callers E 100 noY).d 67 [.str txt39]=some (.tup [(.agg [(.sl (some (0,1)) false 2 [(.str [115]),(.str [116])]),(.sl (some (1,1)) false 1 [(.str [120])]),(.sl (some (2,3)) false 3 [(.int .i64 0),(.int .i64 1),(.sl none false 1 [(.bool true),(.int .i64 0),(.int .i64 1),(.int .i64 1)]),(.int .i64 0),(.int .i64 1),(.sl none false 1 [(.bool true),(.int .i64 0),(.int .i64 1),(.int .i64 1)]),(.int .i64 1),(.int .i64 1),(.sl none false 1 [(.bool false),(.int .i64 0),(.int .i64 1),(.int .i64 1)])])]),(.int .i64 0),(.int .i64 0)]):=by kernel_rfl
end Go.Pv.T

/- The fixed example of wr. -/
namespace Go.Pv.T
open Go Go.Pv

theorem small39:Small H39:=⟨by decide,by decide,by decide,by decide,by decide,by decide⟩
theorem first39:firstH H39=(0,[0]):=by decide +kernel
theorem next39:nextH H39 [0]=some [1]:=by decide +kernel
theorem count39:(if wholeH H39 then countL (choW H39) 1 else 0)=2:=by decide +kernel
set_option maxRecDepth 100000 in
theorem ev39:Ev E 39 [] (.bool true):=by
  obtain ⟨v33,e33,hv33⟩:=ev33 small39
  obtain ⟨v34,e34,hv34⟩:=ev34 small39 (b:=false) [0] (by decide) (by simp)
  have e38:=ev38 small39
  rw [first39] at hv33
  rw [next39] at hv34
  rw [count39] at e38
  unfold FirstR at hv33
  unfold NextR at hv34
  have e1:=ev26 (a:=false) (b:=false) [0] [0] (by decide) (by decide)
  have e2:=ev26 (a:=false) (b:=false) [1] [1] (by decide) (by decide)
  have e67:Ev E 67 [.str txt39] _:=⟨100,k67⟩
  refine Ev_wpK (af:=F39) rfl ?_
  simp [F39]
  refine kS_ev e67 rfl rfl rfl ?_
  simp [retA,toksRes,V.toks,V.tok,inRes,inTop,inLeaf,Nat.blt,objCells,splice]
  refine kS_ev e33 (by simp [histC,H39,slOf,strC,txnC,opC,V.strip,V.strip1]) rfl (by simp [histC]) ?_
  refine retSI hv33 fun t33 add33=>?_
  simp [objCells]
  refine kS_ev e34 (by simp [histC,H39,slOf,strC,txnC,opC,V.strip,V.strip1]) rfl (by simp [histC,slOf,intC]) ?_
  refine retSB hv34 fun t34 add34=>?_
  simp
  refine kS_buildSl (cs:=[.int .i64 0]) (by simp [splice]) rfl rfl ?_
  simp
  refine kS_ev e1 (by simp [slOf,intC]) rfl (by simp [slOf,intC]) ?_
  simp
  refine kS_buildSl (cs:=[.int .i64 1]) (by simp [splice]) rfl rfl ?_
  simp
  refine kS_ev e2 (by simp [slOf,intC]) rfl (by simp [slOf,intC]) ?_
  simp [objCells]
  refine kS_ev e38 (by simp [histC,H39,slOf,strC,txnC,opC,V.strip,V.strip1]) rfl (by simp [histC]) ?_
  simp
  exact endV_1 rfl (by simp) rfl
end Go.Pv.T

/- WrNext. -/
namespace Go.Pv.T
open Go Go.Pv

theorem first_ok {g:Hist'}:(firstH g).2.length≤(choW g).length:=by
  unfold firstH
  split
  · split <;> simp
  · simp
theorem noEmpty_map:∀ {C D:Cs'},C.map (·.2)=D.map (·.2)→noEmpty C=noEmpty D
  | [],[],_=>rfl
  | c::C,d::D,h=>by
    simp only [List.map_cons,List.cons.injEq] at h
    have:=noEmpty_map h.2
    unfold noEmpty at this ⊢
    rw [List.all_cons,List.all_cons,this,h.1]
  | [],_::_,h=>by simp at h
  | _::_,[],h=>by simp at h
theorem next_len {C:Cs'}:∀ {M r:List Int},C.length=M.length→nextL C M=some r→r.length=M.length:=by
  induction C with
  | nil=>intro M r _ h;cases M <;> cases h
  | cons c cs ih =>
    intro M r hl h
    cases M with
    | nil=>simp at hl
    | cons m ms =>
      simp only [nextL] at h
      split at h
      · rename_i r' hr
        cases h
        simp [ih (by simpa using hl) hr]
      · split at h
        · cases h
          simp at hl ⊢
          omega
        · cases h
set_option maxRecDepth 100000 in
theorem ev8 (h:Hist') (b:Bool) (M0:List Int):Ev E 8 [.agg (histC h),slOf b intC M0] (.bool true):=by
  obtain ⟨r,ev,hr⟩:=ev14 h
  obtain ⟨r2,ev2,hr2⟩:=ev14 (fewH h)
  rw [fewH_few] at hr2
  have hs:=small_few h
  generalize fewH h=g at *
  obtain ⟨kk,hk1,hk2⟩:=head_of b M0 50
  replace hk1:minmaxV false [.int .i64 (M0.length:Int),.int .i64 50]=some (.int .i64 (kk:Int)):=hk1
  obtain ⟨M,hM⟩:∃ M,M0.take 50=M:=⟨_,rfl⟩
  have hMl:M.length≤50:=by rw [← hM,List.length_take];omega
  rw [hM] at hk2
  obtain ⟨v18,e18,hv18⟩:=ev18 b M (by omega)
  obtain ⟨w18,f18,hw18⟩:=ev18 false M (by omega)
  obtain ⟨v33,e33,hv33⟩:=ev33 hs
  obtain ⟨v34,e34,hv34⟩:=ev34 hs (b:=false) M (by omega) (by simp)
  have e35:=ev35 hs (b:=false) M (by omega)
  rw [← is_eq] at e35
  have e37:=ev37 hs
  have e38:=ev38 hs
  have hCl:=choW_len hs
  have h36:=fun hp=>ev36 hs (b:=false) M (by omega) hp
  have hnn:(placesH g M).isSome=false→nextH g M=none:=fun h=>by unfold nextH;rw [h];rfl
  have hnl:((nextH g M).getD []).length≤50:=by
    cases hx:nextH g M with
    | none=>simp
    | some r =>
      unfold nextH at hx
      split at hx
      · rename_i hp
        unfold placesH at hp
        split at hp
        · rename_i hc
          simp only [Bool.and_eq_true,beq_iff_eq] at hc
          have:=next_len hc.2.1 hx
          simp;omega
        · cases hp
      · cases hx
  unfold NextR at hv34 h36
  unfold FirstR at hv33
  have hfl:=first_ok (g:=g)
  obtain ⟨N,hN⟩:∃ N,(nextH g M).getD []=N:=⟨_,rfl⟩
  obtain ⟨is,hI⟩:∃ x,(nextH g M).isSome=x:=⟨_,rfl⟩
  have hns:(placesH g M).isSome=false→N=[]∧is=false:=fun h=>by rw [← hN,← hI,hnn h];exact ⟨rfl,rfl⟩
  rw [hN,hI] at hv34 h36
  rw [hN] at hnl
  refine Ev_wpK (af:=F8) rfl ?_
  simp [F8,histC,objCells]
  refine kD_ev ev (by simp [histC]) rfl (by simp [histC]) ?_
  refine retHist hr fun a1 b1 c1 add1=>?_
  simp [hk1,hk2]
  refine kD_ev e18 (by simp) rfl (by simp) ?_
  refine retSl hv18 fun t18 add18=>?_
  simp [objCells,splice]
  refine kS_ev ev2 (by simp [histC,slOf]) rfl (by simp [histC]) ?_
  refine retHist hr2 fun a2 b2 c2 add2=>?_
  simp
  refine kS_ev e33 (by simp [histC,slOf]) rfl (by simp [histC]) ?_
  refine retSI hv33 fun t33 add33=>?_
  simp [objCells]
  refine kS_ev ev2 (by simp [histC,slOf]) rfl (by simp [histC]) ?_
  refine retHist hr2 fun a3 b3 c3 add3=>?_
  simp
  refine kS_ev f18 (by simp [slOf]) rfl (by simp [slOf]) ?_
  refine retSl hw18 fun t5 add5=>?_
  simp
  refine kS_ev e34 (by simp [histC,slOf]) rfl (by simp [histC,slOf]) ?_
  refine retSB hv34 fun t34 add34=>?_
  simp
  refine kS_buildSl (cs:=[]) rfl rfl rfl ?_
  simp [objCells]
  refine kS_ev e35 (by simp [histC,slOf]) rfl (by simp [histC,slOf]) ?_
  have e26:∀ a b,Ev E 26 [slOf a intC N,slOf b intC N] (.bool true):=fun a b=>by
    have:=ev26 (a:=a) (b:=b) N N (by omega) (by omega)
    rwa [beq_self_eq_true] at this
  have e39:=ev39
  have hF:∀ x,wholeH g=x→(x=false→firstH g=(4,[])):=fun x hx h=>by unfold firstH;rw [hx,h];rfl
  have hG:wholeH g=true→noEmpty (choW g)=false→firstH g=(3,[]):=fun h h'=>by unfold firstH;rw [h,h'];rfl
  have hH:wholeH g=true→noEmpty (choW g)=true→firstH g=(0,(choW g).map hd1):=fun h h'=>by unfold firstH;rw [h,h'];rfl
  cases hpl:(placesH g M).isSome
  case false =>
    obtain ⟨rfl,rfl⟩:=hns hpl
    simp
    refine kS_ev (e26 true false) (by simp [slOf]) rfl (by simp [slOf]) ?_
    simp [objCells]
    refine kS_ev e37 (by simp [histC,slOf]) rfl (by simp [histC]) ?_
    cases hw:wholeH g
    case false =>
      have hf:=hF _ rfl hw
      have e38':Ev E 38 [.agg (histC g)] (.int .i64 0):=by simpa [hw] using e38
      simp [hf,objCells]
      refine kS_ev ev2 (by simp [histC,slOf]) rfl (by simp [histC]) ?_
      refine retHist hr2 fun a4 b4 c4 add4=>?_
      simp
      refine kS_ev e38' (by simp [histC,slOf]) rfl (by simp [histC]) ?_
      simp
      refine kS_ev e39 rfl rfl rfl ?_
      simp
      exact endV_1 rfl (by simp) rfl
    have e38':Ev E 38 [.agg (histC g)] (.int .i64 (countL (choW g) 1)):=by simpa [hw] using e38
    have e40:=ev40 hs hw
    obtain ⟨v41,e41,hv41⟩:=ev41 hs hw 1 (by omega) (by omega)
    have hcm:=cho_map hw
    rw [allF_one,← noEmpty_map hcm,← hd1_map hcm,List.nil_append] at hv41
    generalize countL (choW g) 1=cn at *
    simp [objCells]
    refine kD_ev ev2 (by simp [histC,slOf]) rfl (by simp [histC]) ?_
    refine retHist hr2 fun a4 b4 c4 add4=>?_
    simp
    refine kD_ev e38' (by simp [histC,slOf]) rfl (by simp [histC]) ?_
    simp [objCells]
    refine kD_ev e40 (by simp [histC,slOf]) rfl (by simp [histC]) ?_
    simp [objCells]
    refine kS_ev e41 (by simp [histC,slOf]) rfl (by simp [histC]) ?_
    refine retSl hv41 fun t41 add41=>?_
    cases hne:noEmpty (choW g)
    case false =>
      have hf:=hG hw hne
      simp [hf]
      refine kS_ev e39 rfl rfl rfl ?_
      simp
      exact endV_1 rfl (by simp) rfl
    have hf:=hH hw hne
    obtain ⟨H,hHd⟩:∃ H,(choW g).map hd1=H:=⟨_,rfl⟩
    have hHl:H.length≤1000000:=by rw [← hHd,List.length_map];exact hCl
    rw [hHd] at hf
    have e26':=ev26 (a:=H.isEmpty) (b:=false) H H (by omega) (by omega)
    rw [beq_self_eq_true] at e26'
    simp [hf,hHd,lstF,lstC]
    refine kS_ev e26' (by simp [slOf]) rfl (by simp [slOf]) ?_
    simp
    refine kS_ev e39 rfl rfl rfl ?_
    simp
    exact endV_1 rfl (by simp) rfl
  case true =>
    obtain ⟨v36,e36,hv36⟩:=h36 hpl
    simp [objCells]
    refine kS_ev e36 (by simp [histC,slOf]) rfl (by simp [histC,slOf]) ?_
    refine retSB hv36 fun t36 add36=>?_
    simp
    refine kS_ev (e26 N.isEmpty N.isEmpty) (by simp [slOf]) rfl (by simp [slOf]) ?_
    simp [objCells]
    refine kS_ev e37 (by simp [histC,slOf]) rfl (by simp [histC]) ?_
    cases hw:wholeH g
    case false =>
      have hf:=hF _ rfl hw
      have e38':Ev E 38 [.agg (histC g)] (.int .i64 0):=by simpa [hw] using e38
      simp [hf,objCells]
      refine kS_ev ev2 (by simp [histC,slOf]) rfl (by simp [histC]) ?_
      refine retHist hr2 fun a4 b4 c4 add4=>?_
      simp
      refine kS_ev e38' (by simp [histC,slOf]) rfl (by simp [histC]) ?_
      simp
      refine kS_ev e39 rfl rfl rfl ?_
      simp
      exact endV_1 rfl (by simp) rfl
    have e38':Ev E 38 [.agg (histC g)] (.int .i64 (countL (choW g) 1)):=by simpa [hw] using e38
    have e40:=ev40 hs hw
    obtain ⟨v41,e41,hv41⟩:=ev41 hs hw 1 (by omega) (by omega)
    have hcm:=cho_map hw
    rw [allF_one,← noEmpty_map hcm,← hd1_map hcm,List.nil_append] at hv41
    generalize countL (choW g) 1=cn at *
    simp [objCells]
    refine kD_ev ev2 (by simp [histC,slOf]) rfl (by simp [histC]) ?_
    refine retHist hr2 fun a4 b4 c4 add4=>?_
    simp
    refine kD_ev e38' (by simp [histC,slOf]) rfl (by simp [histC]) ?_
    simp [objCells]
    refine kD_ev e40 (by simp [histC,slOf]) rfl (by simp [histC]) ?_
    simp [objCells]
    refine kS_ev e41 (by simp [histC,slOf]) rfl (by simp [histC]) ?_
    refine retSl hv41 fun t41 add41=>?_
    cases hne:noEmpty (choW g)
    case false =>
      have hf:=hG hw hne
      simp [hf]
      refine kS_ev e39 rfl rfl rfl ?_
      simp
      exact endV_1 rfl (by simp) rfl
    have hf:=hH hw hne
    obtain ⟨H,hHd⟩:∃ H,(choW g).map hd1=H:=⟨_,rfl⟩
    have hHl:H.length≤1000000:=by rw [← hHd,List.length_map];exact hCl
    rw [hHd] at hf
    have e26':=ev26 (a:=H.isEmpty) (b:=false) H H (by omega) (by omega)
    rw [beq_self_eq_true] at e26'
    simp [hf,hHd,lstF,lstC]
    refine kS_ev e26' (by simp [slOf]) rfl (by simp [slOf]) ?_
    simp
    refine kS_ev e39 rfl rfl rfl ?_
    simp
    exact endV_1 rfl (by simp) rfl
end Go.Pv.T

/- The environment is what the program's code says. -/
namespace Go.Pv.T
open Go Go.Pv Go.Proofs

theorem afOk_of {P:Program} {m r:Bool} {f:FuncId} {fn:Func} {af:AF} (h1:P.funcs[f]? = some fn) (h2:compF P m r fn=some af) (h3:(fn.name == "runtime.NumGoroutine")=false) (h4:af.body.dstOk fn.ntmps=true):AfOk P r f af:=by
  unfold compF at h2
  cases hb:fn.body with
  | none=>rw [hb] at h2;cases h2
  | some c =>
    rw [hb,Option.bind_some] at h2
    cases hc:comp P m r c with
    | none=>rw [hc] at h2;cases h2
    | some b =>
      rw [hc,Option.bind_some] at h2
      cases hr:fn.results.toList.mapM (compRes P) with
      | none=>rw [hr] at h2;cases h2
      | some res =>
        rw [hr] at h2
        cases h2
        exact ⟨m,fn,c,h1,hb,hc,hr,h3,h4⟩

theorem okc8:AfOk Tryz.prog false 8 F8:=afOk_of (m:=false) Tryz.func8 (by kernel_rfl) (by kernel_rfl) (by kernel_rfl)
theorem okc14:AfOk Tryz.prog false 14 F14:=afOk_of (m:=false) Tryz.func14 (by kernel_rfl) (by kernel_rfl) (by kernel_rfl)
theorem okc18:AfOk Tryz.prog false 18 F18:=afOk_of (m:=false) Tryz.func18 (by kernel_rfl) (by kernel_rfl) (by kernel_rfl)
theorem okc26:AfOk Tryz.prog false 26 F26:=afOk_of (m:=false) Tryz.func26 (by kernel_rfl) (by kernel_rfl) (by kernel_rfl)
theorem okc27:AfOk Tryz.prog false 27 F27:=afOk_of (m:=true) Tryz.func27 (by kernel_rfl) (by kernel_rfl) (by kernel_rfl)
theorem okc28:AfOk Tryz.prog false 28 F28:=afOk_of (m:=false) Tryz.func28 (by kernel_rfl) (by kernel_rfl) (by kernel_rfl)
theorem okc32:AfOk Tryz.prog false 32 F32:=afOk_of (m:=true) Tryz.func32 (by kernel_rfl) (by kernel_rfl) (by kernel_rfl)
theorem okc33:AfOk Tryz.prog false 33 F33:=afOk_of (m:=false) Tryz.func33 (by kernel_rfl) (by kernel_rfl) (by kernel_rfl)
theorem okc34:AfOk Tryz.prog false 34 F34:=afOk_of (m:=true) Tryz.func34 (by kernel_rfl) (by kernel_rfl) (by kernel_rfl)
theorem okc35:AfOk Tryz.prog false 35 F35:=afOk_of (m:=false) Tryz.func35 (by kernel_rfl) (by kernel_rfl) (by kernel_rfl)
theorem okc36:AfOk Tryz.prog false 36 F36:=afOk_of (m:=true) Tryz.func36 (by kernel_rfl) (by kernel_rfl) (by kernel_rfl)
theorem okc37:AfOk Tryz.prog false 37 F37:=afOk_of (m:=false) Tryz.func37 (by kernel_rfl) (by kernel_rfl) (by kernel_rfl)
theorem okc38:AfOk Tryz.prog false 38 F38:=afOk_of (m:=false) Tryz.func38 (by kernel_rfl) (by kernel_rfl) (by kernel_rfl)
theorem okc39:AfOk Tryz.prog false 39 F39:=afOk_of (m:=false) Tryz.func39 (by kernel_rfl) (by kernel_rfl) (by kernel_rfl)
theorem okc40:AfOk Tryz.prog false 40 F40:=afOk_of (m:=false) Tryz.func40 (by kernel_rfl) (by kernel_rfl) (by kernel_rfl)
theorem okc41:AfOk Tryz.prog false 41 F41:=afOk_of (m:=false) Tryz.func41 (by kernel_rfl) (by kernel_rfl) (by kernel_rfl)
theorem okc42:AfOk Tryz.prog false 42 F42:=afOk_of (m:=false) Tryz.func42 (by kernel_rfl) (by kernel_rfl) (by kernel_rfl)
theorem okc43:AfOk Tryz.prog false 43 F43:=afOk_of (m:=false) Tryz.func43 (by kernel_rfl) (by kernel_rfl) (by kernel_rfl)
theorem okc45:AfOk Tryz.prog false 45 F45:=afOk_of (m:=false) Tryz.func45 (by kernel_rfl) (by kernel_rfl) (by kernel_rfl)
theorem okc47:AfOk Tryz.prog false 47 F47:=afOk_of (m:=false) Tryz.func47 (by kernel_rfl) (by kernel_rfl) (by kernel_rfl)
theorem okc52:AfOk Tryz.prog false 52 F52:=afOk_of (m:=false) Tryz.func52 (by kernel_rfl) (by kernel_rfl) (by kernel_rfl)
theorem okc61:AfOk Tryz.prog false 61 F61:=afOk_of (m:=false) Tryz.func61 (by kernel_rfl) (by kernel_rfl) (by kernel_rfl)
theorem okc62:AfOk Tryz.prog false 62 F62:=afOk_of (m:=false) Tryz.func62 (by kernel_rfl) (by kernel_rfl) (by kernel_rfl)
theorem okc66:AfOk Tryz.prog false 66 F66:=afOk_of (m:=false) Tryz.func66 (by kernel_rfl) (by kernel_rfl) (by kernel_rfl)
theorem okc67:AfOk Tryz.prog false 67 F67:=afOk_of (m:=false) Tryz.func67 (by kernel_rfl) (by kernel_rfl) (by kernel_rfl)
theorem okc70:AfOk Tryz.prog false 70 F70:=afOk_of (m:=false) Tryz.func70 (by kernel_rfl) (by kernel_rfl) (by kernel_rfl)
theorem okc72:AfOk Tryz.prog false 72 F72:=afOk_of (m:=false) Tryz.func72 (by kernel_rfl) (by kernel_rfl) (by kernel_rfl)
theorem okc74:AfOk Tryz.prog false 74 F74:=afOk_of (m:=false) Tryz.func74 (by kernel_rfl) (by kernel_rfl) (by kernel_rfl)
theorem okc77:AfOk Tryz.prog false 77 F77:=afOk_of (m:=false) Tryz.func77 (by kernel_rfl) (by kernel_rfl) (by kernel_rfl)
theorem okc78:AfOk Tryz.prog false 78 F78:=afOk_of (m:=false) Tryz.func78 (by kernel_rfl) (by kernel_rfl) (by kernel_rfl)
theorem okc81:AfOk Tryz.prog false 81 F81:=afOk_of (m:=false) Tryz.func81 (by kernel_rfl) (by kernel_rfl) (by kernel_rfl)
theorem okc83:AfOk Tryz.prog false 83 F83:=afOk_of (m:=false) Tryz.func83 (by kernel_rfl) (by kernel_rfl) (by kernel_rfl)
theorem okc84:AfOk Tryz.prog false 84 F84:=afOk_of (m:=true) Tryz.func84 (by kernel_rfl) (by kernel_rfl) (by kernel_rfl)
theorem okc87:AfOk Tryz.prog false 87 F87:=afOk_of (m:=false) Tryz.func87 (by kernel_rfl) (by kernel_rfl) (by kernel_rfl)
theorem okc88:AfOk Tryz.prog false 88 F88:=afOk_of (m:=false) Tryz.func88 (by kernel_rfl) (by kernel_rfl) (by kernel_rfl)
theorem okc89:AfOk Tryz.prog false 89 F89:=afOk_of (m:=false) Tryz.func89 (by kernel_rfl) (by kernel_rfl) (by kernel_rfl)
theorem okc90:AfOk Tryz.prog false 90 F90:=afOk_of (m:=false) Tryz.func90 (by kernel_rfl) (by kernel_rfl) (by kernel_rfl)
theorem okc100:AfOk Tryz.prog false 100 F100:=afOk_of (m:=false) Tryz.func100 (by kernel_rfl) (by kernel_rfl) (by kernel_rfl)
theorem okc101:AfOk Tryz.prog false 101 F101:=afOk_of (m:=false) Tryz.func101 (by kernel_rfl) (by kernel_rfl) (by kernel_rfl)
theorem okc104:AfOk Tryz.prog false 104 F104:=afOk_of (m:=false) Tryz.func104 (by kernel_rfl) (by kernel_rfl) (by kernel_rfl)
theorem okc105:AfOk Tryz.prog false 105 F105:=afOk_of (m:=true) Tryz.func105 (by kernel_rfl) (by kernel_rfl) (by kernel_rfl)
theorem okc107:AfOk Tryz.prog false 107 F107:=afOk_of (m:=false) Tryz.func107 (by kernel_rfl) (by kernel_rfl) (by kernel_rfl)
theorem okc110:AfOk Tryz.prog false 110 F110:=afOk_of (m:=false) Tryz.func110 (by kernel_rfl) (by kernel_rfl) (by kernel_rfl)
theorem okc111:AfOk Tryz.prog false 111 F111:=afOk_of (m:=false) Tryz.func111 (by kernel_rfl) (by kernel_rfl) (by kernel_rfl)
theorem okc112:AfOk Tryz.prog false 112 F112:=afOk_of (m:=false) Tryz.func112 (by kernel_rfl) (by kernel_rfl) (by kernel_rfl)
theorem okc116:AfOk Tryz.prog false 116 F116:=afOk_of (m:=false) Tryz.func116 (by kernel_rfl) (by kernel_rfl) (by kernel_rfl)
theorem okc118:AfOk Tryz.prog false 118 F118:=afOk_of (m:=false) Tryz.func118 (by kernel_rfl) (by kernel_rfl) (by kernel_rfl)
theorem okc119:AfOk Tryz.prog false 119 F119:=afOk_of (m:=false) Tryz.func119 (by kernel_rfl) (by kernel_rfl) (by kernel_rfl)
theorem okc124:AfOk Tryz.prog false 124 F124:=afOk_of (m:=false) Tryz.func124 (by kernel_rfl) (by kernel_rfl) (by kernel_rfl)
theorem okc126:AfOk Tryz.prog false 126 F126:=afOk_of (m:=false) Tryz.func126 (by kernel_rfl) (by kernel_rfl) (by kernel_rfl)
theorem okc127:AfOk Tryz.prog false 127 F127:=afOk_of (m:=false) Tryz.func127 (by kernel_rfl) (by kernel_rfl) (by kernel_rfl)
theorem okc128:AfOk Tryz.prog false 128 F128:=afOk_of (m:=false) Tryz.func128 (by kernel_rfl) (by kernel_rfl) (by kernel_rfl)
theorem okc129:AfOk Tryz.prog false 129 F129:=afOk_of (m:=false) Tryz.func129 (by kernel_rfl) (by kernel_rfl) (by kernel_rfl)
theorem okc130:AfOk Tryz.prog false 130 F130:=afOk_of (m:=false) Tryz.func130 (by kernel_rfl) (by kernel_rfl) (by kernel_rfl)
theorem okc131:AfOk Tryz.prog false 131 F131:=afOk_of (m:=false) Tryz.func131 (by kernel_rfl) (by kernel_rfl) (by kernel_rfl)
theorem okc132:AfOk Tryz.prog false 132 F132:=afOk_of (m:=false) Tryz.func132 (by kernel_rfl) (by kernel_rfl) (by kernel_rfl)
theorem okc147:AfOk Tryz.prog false 147 F147:=afOk_of (m:=false) Tryz.func147 (by kernel_rfl) (by kernel_rfl) (by kernel_rfl)
theorem okc148:AfOk Tryz.prog false 148 F148:=afOk_of (m:=false) Tryz.func148 (by kernel_rfl) (by kernel_rfl) (by kernel_rfl)
theorem okc151:AfOk Tryz.prog false 151 F151:=afOk_of (m:=false) Tryz.func151 (by kernel_rfl) (by kernel_rfl) (by kernel_rfl)
theorem okc153:AfOk Tryz.prog false 153 F153:=afOk_of (m:=false) Tryz.func153 (by kernel_rfl) (by kernel_rfl) (by kernel_rfl)
theorem okc155:AfOk Tryz.prog false 155 F155:=afOk_of (m:=false) Tryz.func155 (by kernel_rfl) (by kernel_rfl) (by kernel_rfl)
theorem okc163:AfOk Tryz.prog false 163 F163:=afOk_of (m:=false) Tryz.func163 (by kernel_rfl) (by kernel_rfl) (by kernel_rfl)
theorem okc166:AfOk Tryz.prog false 166 F166:=afOk_of (m:=false) Tryz.func166 (by kernel_rfl) (by kernel_rfl) (by kernel_rfl)
theorem okc167:AfOk Tryz.prog false 167 F167:=afOk_of (m:=false) Tryz.func167 (by kernel_rfl) (by kernel_rfl) (by kernel_rfl)
theorem okc168:AfOk Tryz.prog false 168 F168:=afOk_of (m:=false) Tryz.func168 (by kernel_rfl) (by kernel_rfl) (by kernel_rfl)
theorem okc169:AfOk Tryz.prog false 169 F169:=afOk_of (m:=false) Tryz.func169 (by kernel_rfl) (by kernel_rfl) (by kernel_rfl)
theorem okc172:AfOk Tryz.prog false 172 F172:=afOk_of (m:=false) Tryz.func172 (by kernel_rfl) (by kernel_rfl) (by kernel_rfl)
theorem okc173:AfOk Tryz.prog false 173 F173:=afOk_of (m:=false) Tryz.func173 (by kernel_rfl) (by kernel_rfl) (by kernel_rfl)
theorem okc174:AfOk Tryz.prog false 174 F174:=afOk_of (m:=false) Tryz.func174 (by kernel_rfl) (by kernel_rfl) (by kernel_rfl)
theorem okc188:AfOk Tryz.prog false 188 F188:=afOk_of (m:=false) Tryz.func188 (by kernel_rfl) (by kernel_rfl) (by kernel_rfl)
theorem okc189:AfOk Tryz.prog false 189 F189:=afOk_of (m:=false) Tryz.func189 (by kernel_rfl) (by kernel_rfl) (by kernel_rfl)
theorem okc190:AfOk Tryz.prog false 190 F190:=afOk_of (m:=false) Tryz.func190 (by kernel_rfl) (by kernel_rfl) (by kernel_rfl)
theorem okc191:AfOk Tryz.prog false 191 F191:=afOk_of (m:=false) Tryz.func191 (by kernel_rfl) (by kernel_rfl) (by kernel_rfl)
theorem okc192:AfOk Tryz.prog false 192 F192:=afOk_of (m:=false) Tryz.func192 (by kernel_rfl) (by kernel_rfl) (by kernel_rfl)
theorem okc193:AfOk Tryz.prog false 193 F193:=afOk_of (m:=false) Tryz.func193 (by kernel_rfl) (by kernel_rfl) (by kernel_rfl)
theorem okc194:AfOk Tryz.prog false 194 F194:=afOk_of (m:=false) Tryz.func194 (by kernel_rfl) (by kernel_rfl) (by kernel_rfl)
theorem okc195:AfOk Tryz.prog false 195 F195:=afOk_of (m:=false) Tryz.func195 (by kernel_rfl) (by kernel_rfl) (by kernel_rfl)
theorem okc198:AfOk Tryz.prog false 198 F198:=afOk_of (m:=false) Tryz.func198 (by kernel_rfl) (by kernel_rfl) (by kernel_rfl)
theorem okc199:AfOk Tryz.prog false 199 F199:=afOk_of (m:=false) Tryz.func199 (by kernel_rfl) (by kernel_rfl) (by kernel_rfl)
theorem okc201:AfOk Tryz.prog false 201 F201:=afOk_of (m:=false) Tryz.func201 (by kernel_rfl) (by kernel_rfl) (by kernel_rfl)
theorem okc205:AfOk Tryz.prog false 205 F205:=afOk_of (m:=false) Tryz.func205 (by kernel_rfl) (by kernel_rfl) (by kernel_rfl)
theorem okc216:AfOk Tryz.prog false 216 F216:=afOk_of (m:=false) Tryz.func216 (by kernel_rfl) (by kernel_rfl) (by kernel_rfl)
theorem okc224:AfOk Tryz.prog false 224 F224:=afOk_of (m:=false) Tryz.func224 (by kernel_rfl) (by kernel_rfl) (by kernel_rfl)
theorem okc225:AfOk Tryz.prog false 225 F225:=afOk_of (m:=false) Tryz.func225 (by kernel_rfl) (by kernel_rfl) (by kernel_rfl)
theorem okc227:AfOk Tryz.prog false 227 F227:=afOk_of (m:=false) Tryz.func227 (by kernel_rfl) (by kernel_rfl) (by kernel_rfl)
theorem okc228:AfOk Tryz.prog false 228 F228:=afOk_of (m:=false) Tryz.func228 (by kernel_rfl) (by kernel_rfl) (by kernel_rfl)
theorem okc229:AfOk Tryz.prog false 229 F229:=afOk_of (m:=false) Tryz.func229 (by kernel_rfl) (by kernel_rfl) (by kernel_rfl)
theorem okc230:AfOk Tryz.prog false 230 F230:=afOk_of (m:=false) Tryz.func230 (by kernel_rfl) (by kernel_rfl) (by kernel_rfl)
theorem okc231:AfOk Tryz.prog false 231 F231:=afOk_of (m:=false) Tryz.func231 (by kernel_rfl) (by kernel_rfl) (by kernel_rfl)
theorem okc232:AfOk Tryz.prog false 232 F232:=afOk_of (m:=false) Tryz.func232 (by kernel_rfl) (by kernel_rfl) (by kernel_rfl)
theorem okc233:AfOk Tryz.prog false 233 F233:=afOk_of (m:=false) Tryz.func233 (by kernel_rfl) (by kernel_rfl) (by kernel_rfl)
theorem okc234:AfOk Tryz.prog false 234 F234:=afOk_of (m:=false) Tryz.func234 (by kernel_rfl) (by kernel_rfl) (by kernel_rfl)
theorem okc235:AfOk Tryz.prog false 235 F235:=afOk_of (m:=false) Tryz.func235 (by kernel_rfl) (by kernel_rfl) (by kernel_rfl)
theorem okc239:AfOk Tryz.prog false 239 F239:=afOk_of (m:=false) Tryz.func239 (by kernel_rfl) (by kernel_rfl) (by kernel_rfl)
theorem okc247:AfOk Tryz.prog false 247 F247:=afOk_of (m:=false) Tryz.func247 (by kernel_rfl) (by kernel_rfl) (by kernel_rfl)
theorem okc248:AfOk Tryz.prog false 248 F248:=afOk_of (m:=false) Tryz.func248 (by kernel_rfl) (by kernel_rfl) (by kernel_rfl)
theorem okc249:AfOk Tryz.prog false 249 F249:=afOk_of (m:=false) Tryz.func249 (by kernel_rfl) (by kernel_rfl) (by kernel_rfl)
theorem okc250:AfOk Tryz.prog false 250 F250:=afOk_of (m:=false) Tryz.func250 (by kernel_rfl) (by kernel_rfl) (by kernel_rfl)
theorem okc251:AfOk Tryz.prog false 251 F251:=afOk_of (m:=false) Tryz.func251 (by kernel_rfl) (by kernel_rfl) (by kernel_rfl)
theorem okc252:AfOk Tryz.prog false 252 F252:=afOk_of (m:=false) Tryz.func252 (by kernel_rfl) (by kernel_rfl) (by kernel_rfl)
theorem okc253:AfOk Tryz.prog false 253 F253:=afOk_of (m:=false) Tryz.func253 (by kernel_rfl) (by kernel_rfl) (by kernel_rfl)
theorem okc256:AfOk Tryz.prog false 256 F256:=afOk_of (m:=false) Tryz.func256 (by kernel_rfl) (by kernel_rfl) (by kernel_rfl)
theorem okc261:AfOk Tryz.prog false 261 F261:=afOk_of (m:=false) Tryz.func261 (by kernel_rfl) (by kernel_rfl) (by kernel_rfl)
theorem okc262:AfOk Tryz.prog false 262 F262:=afOk_of (m:=false) Tryz.func262 (by kernel_rfl) (by kernel_rfl) (by kernel_rfl)
theorem okc263:AfOk Tryz.prog false 263 F263:=afOk_of (m:=false) Tryz.func263 (by kernel_rfl) (by kernel_rfl) (by kernel_rfl)
theorem okc265:AfOk Tryz.prog false 265 F265:=afOk_of (m:=false) Tryz.func265 (by kernel_rfl) (by kernel_rfl) (by kernel_rfl)
theorem okc267:AfOk Tryz.prog false 267 F267:=afOk_of (m:=false) Tryz.func267 (by kernel_rfl) (by kernel_rfl) (by kernel_rfl)
theorem okc271:AfOk Tryz.prog false 271 F271:=afOk_of (m:=false) Tryz.func271 (by kernel_rfl) (by kernel_rfl) (by kernel_rfl)
theorem okc280:AfOk Tryz.prog false 280 F280:=afOk_of (m:=false) Tryz.func280 (by kernel_rfl) (by kernel_rfl) (by kernel_rfl)
theorem oks18:AfOk Tryz.prog true 18 S18:=afOk_of (m:=true) Tryz.func18 (by kernel_rfl) (by kernel_rfl) (by kernel_rfl)
theorem oks75:AfOk Tryz.prog true 75 S75:=afOk_of (m:=true) Tryz.func75 (by kernel_rfl) (by kernel_rfl) (by kernel_rfl)
theorem oks76:AfOk Tryz.prog true 76 S76:=afOk_of (m:=true) Tryz.func76 (by kernel_rfl) (by kernel_rfl) (by kernel_rfl)
theorem oks82:AfOk Tryz.prog true 82 S82:=afOk_of (m:=true) Tryz.func82 (by kernel_rfl) (by kernel_rfl) (by kernel_rfl)
theorem oks85:AfOk Tryz.prog true 85 S85:=afOk_of (m:=true) Tryz.func85 (by kernel_rfl) (by kernel_rfl) (by kernel_rfl)
theorem oks86:AfOk Tryz.prog true 86 S86:=afOk_of (m:=true) Tryz.func86 (by kernel_rfl) (by kernel_rfl) (by kernel_rfl)
theorem oks102:AfOk Tryz.prog true 102 S102:=afOk_of (m:=true) Tryz.func102 (by kernel_rfl) (by kernel_rfl) (by kernel_rfl)
theorem oks108:AfOk Tryz.prog true 108 S108:=afOk_of (m:=true) Tryz.func108 (by kernel_rfl) (by kernel_rfl) (by kernel_rfl)
theorem oks109:AfOk Tryz.prog true 109 S109:=afOk_of (m:=true) Tryz.func109 (by kernel_rfl) (by kernel_rfl) (by kernel_rfl)
theorem oks113:AfOk Tryz.prog true 113 S113:=afOk_of (m:=true) Tryz.func113 (by kernel_rfl) (by kernel_rfl) (by kernel_rfl)
theorem oks114:AfOk Tryz.prog true 114 S114:=afOk_of (m:=true) Tryz.func114 (by kernel_rfl) (by kernel_rfl) (by kernel_rfl)
theorem oks115:AfOk Tryz.prog true 115 S115:=afOk_of (m:=true) Tryz.func115 (by kernel_rfl) (by kernel_rfl) (by kernel_rfl)
theorem oks117:AfOk Tryz.prog true 117 S117:=afOk_of (m:=true) Tryz.func117 (by kernel_rfl) (by kernel_rfl) (by kernel_rfl)
theorem oks146:AfOk Tryz.prog true 146 S146:=afOk_of (m:=true) Tryz.func146 (by kernel_rfl) (by kernel_rfl) (by kernel_rfl)
theorem oks149:AfOk Tryz.prog true 149 S149:=afOk_of (m:=true) Tryz.func149 (by kernel_rfl) (by kernel_rfl) (by kernel_rfl)
theorem oks150:AfOk Tryz.prog true 150 S150:=afOk_of (m:=true) Tryz.func150 (by kernel_rfl) (by kernel_rfl) (by kernel_rfl)
theorem oks152:AfOk Tryz.prog true 152 S152:=afOk_of (m:=true) Tryz.func152 (by kernel_rfl) (by kernel_rfl) (by kernel_rfl)
theorem oks154:AfOk Tryz.prog true 154 S154:=afOk_of (m:=true) Tryz.func154 (by kernel_rfl) (by kernel_rfl) (by kernel_rfl)
theorem oks156:AfOk Tryz.prog true 156 S156:=afOk_of (m:=true) Tryz.func156 (by kernel_rfl) (by kernel_rfl) (by kernel_rfl)
theorem oks157:AfOk Tryz.prog true 157 S157:=afOk_of (m:=true) Tryz.func157 (by kernel_rfl) (by kernel_rfl) (by kernel_rfl)
theorem oks158:AfOk Tryz.prog true 158 S158:=afOk_of (m:=true) Tryz.func158 (by kernel_rfl) (by kernel_rfl) (by kernel_rfl)
theorem oks159:AfOk Tryz.prog true 159 S159:=afOk_of (m:=true) Tryz.func159 (by kernel_rfl) (by kernel_rfl) (by kernel_rfl)
theorem oks160:AfOk Tryz.prog true 160 S160:=afOk_of (m:=true) Tryz.func160 (by kernel_rfl) (by kernel_rfl) (by kernel_rfl)
theorem oks161:AfOk Tryz.prog true 161 S161:=afOk_of (m:=true) Tryz.func161 (by kernel_rfl) (by kernel_rfl) (by kernel_rfl)
theorem oks162:AfOk Tryz.prog true 162 S162:=afOk_of (m:=true) Tryz.func162 (by kernel_rfl) (by kernel_rfl) (by kernel_rfl)
theorem oks164:AfOk Tryz.prog true 164 S164:=afOk_of (m:=true) Tryz.func164 (by kernel_rfl) (by kernel_rfl) (by kernel_rfl)
theorem oks165:AfOk Tryz.prog true 165 S165:=afOk_of (m:=true) Tryz.func165 (by kernel_rfl) (by kernel_rfl) (by kernel_rfl)
theorem oks175:AfOk Tryz.prog true 175 S175:=afOk_of (m:=true) Tryz.func175 (by kernel_rfl) (by kernel_rfl) (by kernel_rfl)
theorem oks196:AfOk Tryz.prog true 196 S196:=afOk_of (m:=true) Tryz.func196 (by kernel_rfl) (by kernel_rfl) (by kernel_rfl)
theorem oks197:AfOk Tryz.prog true 197 S197:=afOk_of (m:=true) Tryz.func197 (by kernel_rfl) (by kernel_rfl) (by kernel_rfl)
theorem oks200:AfOk Tryz.prog true 200 S200:=afOk_of (m:=true) Tryz.func200 (by kernel_rfl) (by kernel_rfl) (by kernel_rfl)
theorem oks202:AfOk Tryz.prog true 202 S202:=afOk_of (m:=true) Tryz.func202 (by kernel_rfl) (by kernel_rfl) (by kernel_rfl)
theorem oks204:AfOk Tryz.prog true 204 S204:=afOk_of (m:=true) Tryz.func204 (by kernel_rfl) (by kernel_rfl) (by kernel_rfl)
theorem oks217:AfOk Tryz.prog true 217 S217:=afOk_of (m:=true) Tryz.func217 (by kernel_rfl) (by kernel_rfl) (by kernel_rfl)
theorem oks236:AfOk Tryz.prog true 236 S236:=afOk_of (m:=true) Tryz.func236 (by kernel_rfl) (by kernel_rfl) (by kernel_rfl)
theorem oks237:AfOk Tryz.prog true 237 S237:=afOk_of (m:=true) Tryz.func237 (by kernel_rfl) (by kernel_rfl) (by kernel_rfl)
theorem oks238:AfOk Tryz.prog true 238 S238:=afOk_of (m:=true) Tryz.func238 (by kernel_rfl) (by kernel_rfl) (by kernel_rfl)
theorem oks240:AfOk Tryz.prog true 240 S240:=afOk_of (m:=true) Tryz.func240 (by kernel_rfl) (by kernel_rfl) (by kernel_rfl)
theorem oks254:AfOk Tryz.prog true 254 S254:=afOk_of (m:=true) Tryz.func254 (by kernel_rfl) (by kernel_rfl) (by kernel_rfl)
theorem oks255:AfOk Tryz.prog true 255 S255:=afOk_of (m:=true) Tryz.func255 (by kernel_rfl) (by kernel_rfl) (by kernel_rfl)
theorem oks264:AfOk Tryz.prog true 264 S264:=afOk_of (m:=true) Tryz.func264 (by kernel_rfl) (by kernel_rfl) (by kernel_rfl)
theorem oks272:AfOk Tryz.prog true 272 S272:=afOk_of (m:=true) Tryz.func272 (by kernel_rfl) (by kernel_rfl) (by kernel_rfl)
set_option maxRecDepth 100000 in
theorem fcOk_2 {f:FuncId} {af:AF} (h:fc_2 f=some af):AfOk Tryz.prog false f af:=by
  unfold fc_2 at h
  split at h
  · cases h;exact okc253
  · cases h;exact okc256
  · cases h;exact okc261
  · cases h;exact okc262
  · cases h;exact okc263
  · cases h;exact okc265
  · cases h;exact okc267
  · cases h;exact okc271
  · cases h;exact okc280
  · cases h
set_option maxRecDepth 100000 in
theorem fcOk_1 {f:FuncId} {af:AF} (h:fc_1 f=some af):AfOk Tryz.prog false f af:=by
  unfold fc_1 at h
  split at h
  · cases h;exact okc127
  · cases h;exact okc128
  · cases h;exact okc129
  · cases h;exact okc130
  · cases h;exact okc131
  · cases h;exact okc132
  · cases h;exact okc147
  · cases h;exact okc148
  · cases h;exact okc151
  · cases h;exact okc153
  · cases h;exact okc155
  · cases h;exact okc163
  · cases h;exact okc166
  · cases h;exact okc167
  · cases h;exact okc168
  · cases h;exact okc169
  · cases h;exact okc172
  · cases h;exact okc173
  · cases h;exact okc174
  · cases h;exact okc188
  · cases h;exact okc189
  · cases h;exact okc190
  · cases h;exact okc191
  · cases h;exact okc192
  · cases h;exact okc193
  · cases h;exact okc194
  · cases h;exact okc195
  · cases h;exact okc198
  · cases h;exact okc199
  · cases h;exact okc201
  · cases h;exact okc205
  · cases h;exact okc216
  · cases h;exact okc224
  · cases h;exact okc225
  · cases h;exact okc227
  · cases h;exact okc228
  · cases h;exact okc229
  · cases h;exact okc230
  · cases h;exact okc231
  · cases h;exact okc232
  · cases h;exact okc233
  · cases h;exact okc234
  · cases h;exact okc235
  · cases h;exact okc239
  · cases h;exact okc247
  · cases h;exact okc248
  · cases h;exact okc249
  · cases h;exact okc250
  · cases h;exact okc251
  · cases h;exact okc252
  · exact fcOk_2 h
set_option maxRecDepth 100000 in
theorem fcOk_0 {f:FuncId} {af:AF} (h:fc f=some af):AfOk Tryz.prog false f af:=by
  unfold fc at h
  split at h
  · cases h;exact okc8
  · cases h;exact okc14
  · cases h;exact okc18
  · cases h;exact okc26
  · cases h;exact okc27
  · cases h;exact okc28
  · cases h;exact okc32
  · cases h;exact okc33
  · cases h;exact okc34
  · cases h;exact okc35
  · cases h;exact okc36
  · cases h;exact okc37
  · cases h;exact okc38
  · cases h;exact okc39
  · cases h;exact okc40
  · cases h;exact okc41
  · cases h;exact okc42
  · cases h;exact okc43
  · cases h;exact okc45
  · cases h;exact okc47
  · cases h;exact okc52
  · cases h;exact okc61
  · cases h;exact okc62
  · cases h;exact okc66
  · cases h;exact okc67
  · cases h;exact okc70
  · cases h;exact okc72
  · cases h;exact okc74
  · cases h;exact okc77
  · cases h;exact okc78
  · cases h;exact okc81
  · cases h;exact okc83
  · cases h;exact okc84
  · cases h;exact okc87
  · cases h;exact okc88
  · cases h;exact okc89
  · cases h;exact okc90
  · cases h;exact okc100
  · cases h;exact okc101
  · cases h;exact okc104
  · cases h;exact okc105
  · cases h;exact okc107
  · cases h;exact okc110
  · cases h;exact okc111
  · cases h;exact okc112
  · cases h;exact okc116
  · cases h;exact okc118
  · cases h;exact okc119
  · cases h;exact okc124
  · cases h;exact okc126
  · exact fcOk_1 h
set_option maxRecDepth 100000 in
theorem fsOk_0 {f:FuncId} {af:AF} (h:fs f=some af):AfOk Tryz.prog true f af:=by
  unfold fs at h
  split at h
  · cases h;exact oks18
  · cases h;exact oks75
  · cases h;exact oks76
  · cases h;exact oks82
  · cases h;exact oks85
  · cases h;exact oks86
  · cases h;exact oks102
  · cases h;exact oks108
  · cases h;exact oks109
  · cases h;exact oks113
  · cases h;exact oks114
  · cases h;exact oks115
  · cases h;exact oks117
  · cases h;exact oks146
  · cases h;exact oks149
  · cases h;exact oks150
  · cases h;exact oks152
  · cases h;exact oks154
  · cases h;exact oks156
  · cases h;exact oks157
  · cases h;exact oks158
  · cases h;exact oks159
  · cases h;exact oks160
  · cases h;exact oks161
  · cases h;exact oks162
  · cases h;exact oks164
  · cases h;exact oks165
  · cases h;exact oks175
  · cases h;exact oks196
  · cases h;exact oks197
  · cases h;exact oks200
  · cases h;exact oks202
  · cases h;exact oks204
  · cases h;exact oks217
  · cases h;exact oks236
  · cases h;exact oks237
  · cases h;exact oks238
  · cases h;exact oks240
  · cases h;exact oks254
  · cases h;exact oks255
  · cases h;exact oks264
  · cases h;exact oks272
  · cases h
theorem envOk:EnvOk Tryz.prog E:=⟨fun _ _ h=>fcOk_0 h,fun _ _ h=>fsOk_0 h⟩
end Go.Pv.T

/- The row's side, the same for every law of the seat. -/
namespace Go.Pv.T
open Go Go.Pv Go.Proofs Go.ChangeShapes Go.WideShapes Go.ChangeAt Go.RowKit Go.Proofs.YtopjfnbonjmnjaaGreatDoor

theorem own:ownKnob Tryz.prog.godebug=none:=by kernel_rfl
theorem laidOut:laidOutB Tryz.prog=true:=by kernel_rfl
theorem mixed:Tryz.prog.follows .mixedOrders=true:=by kernel_rfl

def laidL:List (String × DataW Unit):=[("unicode/utf8.acceptRanges",Rows.laid_unicode_utf8_acceptRanges),("deemster/event.words",Rows.laid_deemster_event_words),("unicode/utf8.first",Rows.laid_unicode_utf8_first)]

def litVal:V→Value
  | .int k n=>.int k n
  | .str s=>.string ⟨s.toArray⟩
  | _=>.nilFunc
def putCells (h:Array Obj) (g:Nat) (cs:Array Value):Array Obj:=h.modify g fun
    | .cells _ t frozen=>.cells cs t frozen
    | o=>o
def acceptCells:Array Value:=#[.int .u8 128,.int .u8 191,.int .u8 160,.int .u8 191,.int .u8 128,.int .u8 159,.int .u8 144,.int .u8 191,.int .u8 128,.int .u8 143,.int .u8 0,.int .u8 0,.int .u8 0,.int .u8 0,.int .u8 0,.int .u8 0,.int .u8 0,.int .u8 0,.int .u8 0,.int .u8 0,.int .u8 0,.int .u8 0,.int .u8 0,.int .u8 0,.int .u8 0,.int .u8 0,.int .u8 0,.int .u8 0,.int .u8 0,.int .u8 0,.int .u8 0,.int .u8 0]
noncomputable def laidWorld (os:Os):World :=
  let w0:=World.holding Tryz.prog os ⟨#[],#[],[]⟩
  { w0 with heap:=putCells (putCells (putCells w0.heap 0 (words.map litVal).toArray) 1 (utf8first.map litVal).toArray) 2 acceptCells }
set_option maxRecDepth 100000 in
theorem door_met (os:Os) (args:Array Value):laidMetH Tryz.prog laidL ((laidWorld os).forCall (fun _ _=>0) ⟨#[],args,[]⟩).memory:=by
  rw [MakeChecks.laidMetH_plain _ _ _ (by kernel_rfl)]
  exact laidMet_of_run' 8 (by kernel_rfl) (by kernel_rfl)

theorem gWords:Tryz.prog.globalNamed "deemster/event.words" = some 0:=by kernel_rfl
theorem gFirst:Tryz.prog.globalNamed "unicode/utf8.first" = some 1:=by kernel_rfl
theorem tWords:(Tryz.prog.globals[0]?).map (·.type)=some 274:=by kernel_rfl
theorem tFirst:(Tryz.prog.globals[1]?).map (·.type)=some 286:=by kernel_rfl

def cellsI (W:World):IMap:=fun b o=>W.cell? ⟨b,o,none⟩
theorem cellsI_ok (W:World):ImmOk (cellsI W) W:=fun _ _ _ h=>h

def litV:DataW Unit→V
  | .lit (.int k n)=>.int k n
  | .lit (.string s)=>.str s
  | _=>.undef

theorem arr_rep {W:World} {t e:TypeId} {n fuel:Nat} {cs:List Value} {ds:List (DataW Unit)} {p:List MemPlace} (ht:Tryz.prog.underlying t=some (.array n e)) (hc:Tryz.prog.cellsOf e=1)
    (he:Tryz.prog.underlying e=some .string∨∃ k,Tryz.prog.underlying e=some (.int k)) (h:DataW.trod (fun _=>()) Tryz.prog W 0 (fun _=>true) false fuel t cs=some (.agg ds,p)) (I:IMap) :
    ∀ (j:Nat) (d:DataW Unit),ds[j]? = some d→∃ x,cs[j]? = some x∧RepP I x (litV d):=by
  obtain ⟨xs,m,rfl,hx,hlen,hn,hel⟩:=DataW.trod_array ht h
  intro j d hd
  simp only [Prod.mk.injEq,DataW.agg.injEq] at hx
  rw [hx.1,List.getElem?_map] at hd
  cases hy:xs[j]? with
  | none=>simp [hy] at hd
  | some y =>
    rw [hy] at hd
    simp only [Option.map_some,Option.some.injEq] at hd
    have hj:j<n:=by rw [← hn];exact (List.getElem?_eq_some_iff.1 hy).1
    have:=hel j hj
    rw [hc,Nat.mul_one,hy] at this
    have one:∀ c,(cs.drop j).take 1=[c]→cs[j]? = some c:=by
      intro c hcc
      have:=congrArg List.head? hcc
      simpa [List.head?_take,List.head?_drop] using this
    rcases he with he | ⟨k,he⟩
    · obtain ⟨s,e1,e2,_⟩:=DataW.trod_string he this
      refine ⟨_,one _ e1,?_⟩
      rw [← hd,e2]
      exact RepP.str s
    · obtain ⟨s,e1,e2,_⟩:=DataW.trod_int he this
      refine ⟨_,one _ e1,?_⟩
      rw [← hd,e2]
      exact RepP.int k s

theorem gl_rep {W:World} {nm:String} {g:Nat} {cs:Array Value} {ds:List (DataW Unit)} (hg:Tryz.prog.globalNamed nm=some g) (hv:W.var? Tryz.prog nm=some cs) (hp:(ds.map litV).all V.pureLeaf=true)
    (h:∀ (j:Nat) (d:DataW Unit),ds[j]? = some d→∃ x,cs.toList[j]? = some x∧RepP (cellsI W) x (litV d)):RepP (cellsI W) (.pointer (some ⟨g,0,none⟩)) (.eptr (ds.map litV) 0):=by
  have hc:=World.var?_cell hg hv
  refine RepP.eptr g 0 0 (ds.map litV) (fun j=>(cs[j]?).getD .nilFunc) (fun j hj=>?_) (fun j v hj=>?_) (fun j v hj=>?_)
  · rw [List.length_map] at hj
    obtain ⟨x,hx,_⟩:=h j ds[j] (List.getElem?_eq_getElem hj)
    have hx':cs[j]? = some x:=by simpa using hx
    show W.cell? ⟨g,0+j,none⟩=_
    rw [Nat.zero_add,hc j,hx']
    rfl
  · exact List.all_eq_true.1 hp v (List.mem_of_getElem? hj)
  · rw [List.getElem?_map] at hj
    cases hd:ds[j]? with
    | none=>rw [hd] at hj;cases hj
    | some d =>
      rw [hd] at hj
      cases hj
      obtain ⟨x,hx,hr⟩:=h j d hd
      have hx':cs[j]? = some x:=by simpa using hx
      rw [hx']
      exact hr

def aggOf:DataW Unit→List (DataW Unit)
  | .agg l=>l
  | _=>[]
theorem words_eq:(aggOf Rows.laid_deemster_event_words).map litV=words:=by kernel_rfl
theorem first_eq:(aggOf Rows.laid_unicode_utf8_first).map litV=utf8first:=by kernel_rfl
theorem first_agg:Rows.laid_unicode_utf8_first = .agg (aggOf Rows.laid_unicode_utf8_first):=by kernel_rfl
theorem words_pure:((aggOf Rows.laid_deemster_event_words).map litV).all V.pureLeaf=true:=by kernel_rfl
theorem first_pure:((aggOf Rows.laid_unicode_utf8_first).map litV).all V.pureLeaf=true:=by kernel_rfl

theorem all_below {H:Type} {enc:TypeId × Value→H} {W W':World} (hb:Below W.heap.size W W'):∀ {ts:List TypeId} {vs:List Value} {ds:List (DataW H)} {ps:List MemPlace},
    (∀ t∈ts,Tryz.prog.readableRec t=true∧t<Tryz.prog.types.size)→(∀ x∈ps,x.block<W.heap.size) →
    DataW.TrodAll enc Tryz.prog W 0 (fun _=>true) true ts vs ds ps→DataW.TrodAll enc Tryz.prog W' 0 (fun b=>decide (b<W.heap.size)) true ts vs ds ps
  | [],[],[],_,_,_,h=>h
  | t::ts,v::vs,d::ds,_,ht,hlt,⟨p,q,h1,h2,e⟩=>by
    subst e
    exact ⟨p,q,Below.trod laidOut (ht t (List.mem_cons_self ..)).1 (ht t (List.mem_cons_self ..)).2 h1 hb (fun x hx=>hlt x (List.mem_append_left _ hx)),
      all_below hb (fun t' h'=>ht t' (List.mem_cons_of_mem _ h')) (fun x hx=>hlt x (List.mem_append_right _ hx)) h2,rfl⟩
  | [],_::_,_,_,_,_,h=>h.elim
  | [],[],_::_,_,_,_,h=>h.elim
  | _::_,[],_,_,_,_,h=>h.elim
  | _::_,_::_,[],_,_,_,h=>h.elim

theorem post_true {H:Type} {enc:TypeId × Value→H} {fn:Func} {s:ChangeSpec} {W W':World} {args:Array Value} {ds gs:List (DataW H)} {before:List MemPlace} (hW:DataW.Whole enc Tryz.prog fn.params.toList s.vars false W args.toList ds gs before)
    (hv:s.vars=[]) (hr:fn.resultTypes = #[4]) (hs:(s.fn H ds).results=[.lit (.bool true)]) (ha:(s.fn H ds).args=ds) (hvs:(s.fn H ds).vars=[])
    (ht:∀ t∈fn.params.toList,Tryz.prog.readableRec t=true∧t<Tryz.prog.types.size) (hg:W.grownBy W' none):s.post enc Tryz.prog fn false true false false W args (.bool true) W':=by
  have hb:Below W.heap.size W W':=(Below.refl _ W).grown hg (Nat.le_refl _) (fun _ h=>by cases h)
  have hW':=hW
  obtain ⟨p,q,hA,hV,rfl,_,_⟩:=hW
  rw [hv] at hV
  obtain ⟨rfl,rfl⟩:=trodVars_none hV
  have hlt:∀ x∈p,x.block<W.heap.size:=fun x hx=>by simpa using hW'.lt x (List.mem_append_left _ hx)
  refine ⟨ds,[],_,[],p,[],hW',?_,?_,?_,hb.frame _,fun h=>by cases h⟩
  · rw [List.append_nil,hs,hr]
    exact trodAll_mk1 (shut_bool Tryz.underlying4 _)
  · rw [List.append_nil,ha]
    exact all_below hb ht hlt hA
  · rw [List.append_nil,hvs,hv]
    rfl
end Go.Pv.T

/- Data that come in, of whatever plain type, as the interpreter has them. -/
namespace Go.Pv.T
open Go Go.Pv Go.Proofs Go.ChangeShapes Go.WideShapes Go.ChangeAt Go.RowKit

inductive Ty where
  | bool
  | int (k:IntKind)
  | str
  | unit
  | pair (a b:Ty)
  | slice (t:Ty)

def Ty.cells:Ty→Nat
  | .unit=>0
  | .pair a b=>a.cells+b.cells
  | _=>1

inductive Sh:Ty→List V→Prop where
  | bool (b:Bool):Sh .bool [.bool b]
  | int (k:IntKind) (n:Int):Sh (.int k) [.int k n]
  | str (s:List UInt8):Sh .str [.str s]
  | unit:Sh .unit []
  | pair {a b:Ty} {va vb:List V} (ha:Sh a va) (hb:Sh b vb):Sh (.pair a b) (va++vb)
  | nil {t:Ty}:Sh (.slice t) [.sl none true 0 []]
  | slice {t:Ty} (es:List (List V)) (hn:es.length≤maxLen) (h:∀ e∈es,Sh t e):Sh (.slice t) [.sl none false es.length es.flatten]

def fieldsTy (P:Program) (g:TypeId→Option Ty):List Field→Nat→Option Ty
  | [],_=>some .unit
  | f::r,off=>if f.offset=off then (g f.type).bind fun a=>if P.cellsOf f.type=a.cells then (fieldsTy P g r (off+a.cells)).map (.pair a) else none else none
def tyOf (P:Program):Nat→TypeId→Option Ty
  | 0,_=>none
  | n+1,t=>match P.underlying t with
    | some .bool=>some .bool
    | some (.int k)=>some (.int k)
    | some .string=>some .str
    | some (.slice e)=>(tyOf P n e).bind fun ty=>if P.cellsOf e=ty.cells then some (.slice ty) else none
    | some (.struct fs)=>(fieldsTy P (tyOf P n) fs.toList 0).bind fun ty=>if P.cellsOf t=ty.cells then some ty else none
    | _=>none

theorem Sh.len {t:Ty} {vs:List V} (h:Sh t vs):vs.length=t.cells:=by
  induction h with
  | pair _ _ iha ihb=>simp [Ty.cells,iha,ihb]
  | _=>rfl
theorem Sh.pure {t:Ty} {vs:List V} (h:Sh t vs):∀ v∈vs,v.pureLeaf=true:=by
  induction h with
  | pair _ _ iha ihb=>intro v hv;rcases List.mem_append.1 hv with h | h;exact iha v h;exact ihb v h
  | unit=>intro v hv;cases hv
  | _=>intro v hv;rw [List.mem_singleton] at hv;subst hv;rfl

def Reps (I:IMap) (cs:List Value) (vs:List V):Prop:=cs.length=vs.length∧∀ (j:Nat) (x:Value) (v:V),cs[j]? = some x→vs[j]? = some v→RepP I x v

theorem Reps.one {I:IMap} {x:Value} {v:V} (h:RepP I x v):Reps I [x] [v] :=
  ⟨rfl,fun j y u hj hu=>by
    match j,hj,hu with
    | 0,hj,hu=>cases hj;cases hu;exact h
    | j+1,hj,_=>simp at hj⟩

theorem flat_get {α:Type} {sz:Nat} (hs:0<sz):∀ (es:List (List α)),(∀ e∈es,e.length=sz)→∀ j,es.flatten[j]? = (es[j / sz]?).bind fun e=>e[j % sz]?
  | [],_,j=>by simp
  | e::es,h,j=>by
    have he:=h e (List.mem_cons_self ..)
    rw [List.flatten_cons,List.getElem?_append,he]
    split
    · rename_i hlt
      rw [Nat.div_eq_of_lt hlt,Nat.mod_eq_of_lt hlt]
      rfl
    · rename_i hge
      have hj:j=(j - sz)+sz:=by omega
      rw [flat_get hs es (fun e he=>h e (List.mem_cons_of_mem _ he)) (j - sz)]
      conv=>rhs;rw [hj,Nat.add_div_right _ hs,Nat.add_mod_right]
      rfl
theorem flat_len {α:Type} {sz:Nat}:∀ (es:List (List α)),(∀ e∈es,e.length=sz)→es.flatten.length=es.length * sz
  | [],_=>by simp
  | e::es,h=>by
    rw [List.flatten_cons,List.length_append,h e (List.mem_cons_self ..),flat_len es (fun e he=>h e (List.mem_cons_of_mem _ he)),List.length_cons,Nat.succ_mul]
    omega

section
variable {H:Type} {enc:TypeId × Value→H} {W:World} {P:Program}

theorem pick_list {α:Type} {p:Nat→α→Prop}:∀ (n:Nat),(∀ i,i<n→∃ a,p i a)→∃ l:List α,l.length=n∧∀ i a,l[i]? = some a→p i a
  | 0,_=>⟨[],rfl,fun i a h=>by simp at h⟩
  | n+1,h=>by
    obtain ⟨l,h1,h2⟩:=pick_list n (fun i hi=>h i (by omega))
    obtain ⟨a,ha⟩:=h n (by omega)
    refine ⟨l++[a],by simp [h1],fun i b hb=>?_⟩
    rw [List.getElem?_append] at hb
    split at hb
    · exact h2 i b hb
    · rename_i hge
      have:i=n:=by
        have:=(List.getElem?_eq_some_iff.1 hb).1
        simp at this
        omega
      subst this
      simp [h1] at hb
      subst hb
      exact ha

theorem fields_rep {g:TypeId→Option Ty} {n:Nat} {cs:List Value} (ih:∀ t ty,g t=some ty→∀ cs x,DataW.trod enc P W 0 (fun _=>true) true n t cs=some x→∃ vs,Sh ty vs∧Reps (cellsI W) cs vs) :
    ∀ (fs:List Field) (off:Nat) (ty:Ty),fieldsTy P g fs off=some ty→(∀ f∈fs,∃ x,DataW.trod enc P W 0 (fun _=>true) true n f.type ((cs.drop f.offset).take (P.cellsOf f.type))=some x)→cs.length=off+ty.cells →
      ∃ vs,Sh ty vs∧Reps (cellsI W) (cs.drop off) vs
  | [],off,ty,h,_,hl=>by
    simp only [fieldsTy,Option.some.injEq] at h
    subst h
    simp only [Ty.cells,Nat.add_zero] at hl
    exact ⟨[],.unit,by simp [hl],fun j x v _ hv=>by simp at hv⟩
  | f::r,off,ty,h,hx,hl=>by
    simp only [fieldsTy] at h
    split at h
    · rename_i hoff
      cases hg:g f.type with
      | none=>rw [hg] at h;cases h
      | some a =>
        rw [hg,Option.bind_some] at h
        split at h
        · rename_i hc
          cases hr:fieldsTy P g r (off+a.cells) with
          | none=>rw [hr] at h;cases h
          | some b =>
            rw [hr] at h
            cases h
            simp only [Ty.cells] at hl
            obtain ⟨x,hx0⟩:=hx f (List.mem_cons_self ..)
            obtain ⟨va,ha,hra⟩:=ih f.type a hg _ _ hx0
            obtain ⟨vb,hb,hrb⟩:=fields_rep ih r (off+a.cells) b hr (fun f' hf=>hx f' (List.mem_cons_of_mem _ hf)) (by omega)
            refine ⟨va++vb,.pair ha hb,?_,fun j y u hj hu=>?_⟩
            · have:=ha.len;have:=hb.len
              simp only [List.length_drop,List.length_append]
              omega
            · rw [hoff,hc] at hra
              rw [List.getElem?_append] at hu
              rw [ha.len] at hu
              rw [List.getElem?_drop] at hj
              split at hu
              · rename_i hlt
                exact hra.2 j y u (by rw [List.getElem?_take,if_pos hlt,List.getElem?_drop];exact hj) hu
              · rename_i hge
                exact hrb.2 (j - a.cells) y u (by rw [List.getElem?_drop,show off+a.cells+(j - a.cells)=off+j from by omega];exact hj) hu
        · cases h
    · cases h

theorem rep_of:∀ (n:Nat) (t:TypeId) (ty:Ty),tyOf P n t=some ty→∀ (fuel:Nat) (cs:List Value) (x:DataW H × List MemPlace),DataW.trod enc P W 0 (fun _=>true) true fuel t cs=some x→∃ vs,Sh ty vs∧Reps (cellsI W) cs vs
  | 0,_,_,h,_,_,_,_=>by cases h
  | n+1,t,ty,h,fuel,cs,x,hx=>by
    simp only [tyOf] at h
    split at h
    · rename_i ht
      cases h
      obtain ⟨b,rfl,_⟩:=DataW.trod_bool ht hx
      exact ⟨_,.bool b,Reps.one (.bool b)⟩
    · rename_i k ht
      cases h
      obtain ⟨b,rfl,_⟩:=DataW.trod_int ht hx
      exact ⟨_,.int k b,Reps.one (.int k b)⟩
    · rename_i ht
      cases h
      obtain ⟨s,rfl,_⟩:=DataW.trod_string ht hx
      exact ⟨_,.str s.data.toList,Reps.one (.str s)⟩
    · rename_i e ht
      cases he:tyOf P n e with
      | none=>rw [he] at h;cases h
      | some te =>
        rw [he,Option.bind_some] at h
        split at h
        · rename_i hc
          cases h
          rcases DataW.trod_slice ht hx with ⟨rfl,_⟩ | ⟨a,len,cap,elems,rest,m,_,rfl,_,_,hl,hm,hlen,hel,_,_⟩
          · exact ⟨_,.nil,Reps.one .slnil⟩
          · have each:∀ i,i<len→∃ vs,Sh te vs∧∃ c,W.cells? 0 (a.add (i * te.cells)) te.cells=some c∧Reps (cellsI W) c vs:=by
              intro i hi
              have h1:=hel i hi
              rw [List.getElem?_eq_getElem (by omega),hc] at h1
              obtain ⟨c,hc1,hc2⟩:=Option.bind_eq_some_iff.1 h1
              obtain ⟨vs,h3,h4⟩:=rep_of n e te he m c _ hc2
              exact ⟨vs,h3,c,hc1,h4⟩
            obtain ⟨es,h1,h2⟩:=pick_list len each
            have hsh:∀ e∈es,Sh te e:=fun e he=>by
              obtain ⟨i,hi⟩:=List.getElem?_of_mem he
              exact (h2 i e hi).1
            have hsz:∀ e∈es,e.length=te.cells:=fun e he=>(hsh e he).len
            have key:∀ (j:Nat) (v:V),es.flatten[j]? = some v→0<te.cells∧j / te.cells<len∧∃ y,W.cell? ((a.add (j / te.cells * te.cells)).add (j % te.cells))=some y∧RepP (cellsI W) y v∧v.pureLeaf=true:=by
              intro j v hj
              have h0:0<te.cells:=by
                rcases Nat.eq_zero_or_pos te.cells with h | h
                · have:=flat_len es hsz
                  rw [h,Nat.mul_zero] at this
                  rw [List.length_eq_zero_iff.1 this] at hj
                  simp at hj
                · exact h
              rw [flat_get h0 es hsz] at hj
              cases hee:es[j / te.cells]? with
              | none=>rw [hee] at hj;cases hj
              | some e =>
                rw [hee,Option.bind_some] at hj
                have hlt:j / te.cells<len:=by rw [← h1];exact (List.getElem?_eq_some_iff.1 hee).1
                obtain ⟨hse,c,hcc,hrr⟩:=h2 _ e hee
                have hme:=Nat.mod_lt j h0
                have hcell:=(World.cells?_some hcc).2.2 _ hme
                have hclen:c.length=te.cells:=by rw [hrr.1,hse.len]
                rw [List.getElem?_eq_getElem (by omega)] at hcell
                exact ⟨h0,hlt,_,hcell,hrr.2 _ _ v (List.getElem?_eq_getElem (by omega)) hj,hse.pure v (List.mem_of_getElem? hj)⟩
            have spot:es.flatten≠[]→a.spot=none:=by
              intro hne
              obtain ⟨v,hv⟩:∃ v,es.flatten[0]? = some v:=by
                cases hf:es.flatten with
                | nil=>exact absurd hf hne
                | cons v l=>exact ⟨v,rfl⟩
              obtain ⟨h0,_,y,hy,_⟩:=key 0 v hv
              rw [Nat.zero_div,Nat.zero_mod,Nat.zero_mul] at hy
              simpa [Addr.add] using World.cell?_spot hy
            have cellAt:∀ (j:Nat) (v:V),es.flatten[j]? = some v→∃ y,W.cell? ⟨a.block,a.off+j,none⟩=some y∧RepP (cellsI W) y v:=by
              intro j v hj
              obtain ⟨h0,_,y,hy,hr,_⟩:=key j v hj
              have hs:=spot (fun h=>by rw [h] at hj;simp at hj)
              obtain ⟨b,off,sp⟩:=a
              simp only at hs
              subst hs
              rw [add_plain,add_plain] at hy
              refine ⟨y,?_,hr⟩
              rw [← hy,Nat.add_assoc,Nat.div_add_mod']
            rw [← h1] at hl
            refine ⟨_,.slice es (Nat.le_trans hl hm) hsh,Reps.one ?_⟩
            rw [h1] at hl ⊢
            refine RepP.sl a len cap es.flatten (fun j=>(W.cell? ⟨a.block,a.off+j,none⟩).getD .nilFunc) spot hl hm (fun j hj=>?_) (fun j v hj=>?_) (fun j v hj=>?_)
            · obtain ⟨y,hy,_⟩:=cellAt j _ (List.getElem?_eq_getElem hj)
              show W.cell? _=some ((W.cell? _).getD _)
              rw [hy]
              rfl
            · exact (key j v hj).2.2.choose_spec.2.2
            · obtain ⟨y,hy,hr⟩:=cellAt j v hj
              show RepP _ ((W.cell? _).getD _) v
              rw [hy]
              exact hr
        · cases h
    · rename_i fs ht
      cases hf:fieldsTy P (tyOf P n) fs.toList 0 with
      | none=>rw [hf] at h;cases h
      | some b =>
        rw [hf,Option.bind_some] at h
        split at h
        · rename_i hc
          cases h
          obtain ⟨xs,m,rfl,_,hl,hn,hel⟩:=DataW.trod_struct ht hx
          have:=fields_rep (n:=m) (cs:=cs) (fun t ty h cs x hx=>rep_of n t ty h m cs x hx) fs.toList 0 ty hf (fun f hfm=>by
            obtain ⟨i,hi⟩:=List.getElem?_of_mem hfm
            have hi':fs[i]? = some f:=by simpa using hi
            have h1:=hel i f hi'
            have hlt:i<xs.length:=by rw [hn];exact (Array.getElem?_eq_some_iff.1 hi').1
            rw [List.getElem?_eq_getElem hlt] at h1
            exact ⟨_,h1⟩) (by rw [Nat.zero_add,hl,hc])
          simpa using this
        · cases h
    · cases h
end
end Go.Pv.T

/- The laid variables read as the interpreter has them; a call that answers true. -/
namespace Go.Pv.T
open Go Go.Pv Go.Proofs Go.ChangeShapes Go.WideShapes Go.ChangeAt Go.RowKit Go.Proofs.YtopjfnbonjmnjaaGreatDoor

theorem arr2_rep {W:World} {t e:TypeId} {n fuel:Nat} {cs:List Value} {ds:List (DataW Unit)} {p:List MemPlace} {f0 f1:Field} {k0 k1:IntKind} (ht:Tryz.prog.underlying t=some (.array n e)) (hc:Tryz.prog.cellsOf e=2)
    (he:Tryz.prog.underlying e=some (.struct #[f0,f1])) (o0:f0.offset=0) (o1:f1.offset=1) (c0:Tryz.prog.cellsOf f0.type=1) (c1:Tryz.prog.cellsOf f1.type=1)
    (u0:Tryz.prog.underlying f0.type=some (.int k0)) (u1:Tryz.prog.underlying f1.type=some (.int k1)) (h:DataW.trod (fun _=>()) Tryz.prog W 0 (fun _=>true) false fuel t cs=some (.agg ds,p)) (I:IMap) :
    ∀ (j:Nat) (d:DataW Unit),(ds.map aggOf).flatten[j]? = some d→∃ x,cs[j]? = some x∧RepP I x (litV d):=by
  obtain ⟨xs,m,rfl,hx,hlen,hn,hel⟩:=DataW.trod_array ht h
  simp only [Prod.mk.injEq,DataW.agg.injEq] at hx
  have one:∀ (l:List Value) (j:Nat) c,(l.drop j).take 1=[c]→l[j]? = some c:=by
    intro l j c hcc
    have:=congrArg List.head? hcc
    simpa [List.head?_take,List.head?_drop] using this
  have each:∀ (j:Nat) (y:DataW Unit × List MemPlace),xs[j]? = some y→∃ d0 d1 x0 x1,y.1 = .agg [d0,d1]∧cs[j * 2]? = some x0∧RepP I x0 (litV d0)∧cs[j * 2+1]? = some x1∧RepP I x1 (litV d1):=by
    intro j y hy
    have hj:j<n:=by rw [← hn];exact (List.getElem?_eq_some_iff.1 hy).1
    have h2:=hel j hj
    rw [hc,hy] at h2
    obtain ⟨y0,y1,m',e1,hl2,g0,g1⟩:=trod_struct2 he h2
    rw [o0,c0] at g0
    rw [o1,c1] at g1
    obtain ⟨z0,a0,b0,_⟩:=DataW.trod_int u0 g0
    obtain ⟨z1,a1,b1,_⟩:=DataW.trod_int u1 g1
    have q0:=one _ _ _ a0
    have q1:=one _ _ _ a1
    rw [List.getElem?_take,if_pos (by omega),List.getElem?_drop] at q0 q1
    refine ⟨y0.1,y1.1,_,_,by rw [e1],by simpa using q0,?_,q1,?_⟩
    · rw [b0];exact RepP.int k0 z0
    · rw [b1];exact RepP.int k1 z1
  have hds:ds=xs.map (·.1):=hx.1
  have len2:∀ e∈ds.map aggOf,e.length=2:=by
    intro e he
    rw [hds,List.map_map] at he
    obtain ⟨y,hy,rfl⟩:=List.mem_map.1 he
    obtain ⟨j,hj⟩:=List.getElem?_of_mem hy
    obtain ⟨d0,d1,x0,x1,e,_⟩:=each j y hj
    simp only [Function.comp,e,aggOf,List.length_cons,List.length_nil]
  intro k d hd
  rw [flat_get (by decide) _ len2] at hd
  rw [hds,List.map_map,List.getElem?_map] at hd
  cases hy:xs[k / 2]? with
  | none=>rw [hy] at hd;cases hd
  | some y =>
    rw [hy] at hd
    obtain ⟨d0,d1,x0,x1,e,g0,r0,g1,r1⟩:=each _ y hy
    simp only [Option.map_some,Option.bind_some,Function.comp,e,aggOf] at hd
    rcases Nat.mod_two_eq_zero_or_one k with hk | hk
    · rw [hk] at hd
      cases hd
      rw [show k / 2 * 2=k from by omega] at g0
      exact ⟨x0,g0,r0⟩
    · rw [hk] at hd
      cases hd
      rw [show k / 2 * 2+1=k from by omega] at g1
      exact ⟨x1,g1,r1⟩

def accD:List (DataW Unit):=((aggOf Rows.laid_unicode_utf8_acceptRanges).map aggOf).flatten
theorem gAcc:Tryz.prog.globalNamed "unicode/utf8.acceptRanges" = some 2:=by kernel_rfl
theorem acc_eq:accD.map litV=accR:=by kernel_rfl
theorem acc_agg:Rows.laid_unicode_utf8_acceptRanges = .agg (aggOf Rows.laid_unicode_utf8_acceptRanges):=by kernel_rfl
theorem acc_pure:(accD.map litV).all V.pureLeaf=true:=by kernel_rfl
theorem tAcc:(Tryz.prog.globals[2]?).map (·.type)=some 289:=by kernel_rfl

theorem glOk {W:World} (h:laidMetH Tryz.prog laidL W):GlOk E (cellsI W):=by
  rw [MakeChecks.laidMetH_plain _ _ _ (by kernel_rfl)] at h
  obtain ⟨ps,⟨g2,t2,cs2,f2,p2,q2,hg2,ht2,hv2,hd2,⟨g0,t0,cs0,f0,p0,q0,hg0,ht0,hv0,hd0,⟨g1,t1,cs1,f1,p1,q1,hg1,ht1,hv1,hd1,_,_⟩,_⟩,_⟩,_,_⟩:=h
  obtain rfl:=Option.some.inj (gWords.symm.trans hg0)
  obtain rfl:=Option.some.inj (gFirst.symm.trans hg1)
  obtain rfl:=Option.some.inj (tWords.symm.trans ht0)
  obtain rfl:=Option.some.inj (tFirst.symm.trans ht1)
  obtain rfl:=Option.some.inj (gAcc.symm.trans hg2)
  obtain rfl:=Option.some.inj (tAcc.symm.trans ht2)
  intro g cs hcs
  simp only [E] at hcs
  split at hcs
  · cases hcs
    rw [← words_eq]
    exact gl_rep gWords hv0 words_pure (arr_rep Tryz.underlying274 (by kernel_rfl) (Or.inl (by kernel_rfl)) hd0 _)
  · cases hcs
    rw [← first_eq]
    rw [first_agg] at hd1
    exact gl_rep gFirst hv1 first_pure (arr_rep Tryz.underlying286 (by kernel_rfl) (Or.inr ⟨.u8,by kernel_rfl⟩) hd1 _)
  · cases hcs
    rw [← acc_eq]
    rw [acc_agg] at hd2
    exact gl_rep gAcc hv2 acc_pure (arr2_rep (k0:=.u8) (k1:=.u8) Tryz.underlying289 (by kernel_rfl) Tryz.underlying288 rfl rfl (by kernel_rfl) (by kernel_rfl) (by kernel_rfl) (by kernel_rfl) hd2 _)
  · cases hcs


theorem calls_true {f:FuncId} {W:World} {args:Array Value} {vs:List V} (hL:laidMetH Tryz.prog laidL W) (hlen:args.size=vs.length) (hr:∀ (j:Nat) (x:Value) (v:V),args[j]? = some x→vs[j]? = some v→RepP (cellsI W) x v)
    (he:Ev E f vs (.bool true)):Calls Tryz.prog f args W fun e w'=>e = .returned (.bool true)∧W.grownBy w' none:=by
  refine (Ev.sound mixed envOk he W (cellsI W) args (cellsI_ok W) (glOk hL) hlen hr).mono fun e W' ⟨x,τ,I',h1,h2,_,_,_,h3,_⟩=>⟨?_,h2⟩
  rw [h1]
  have h4:RepP I' x (.bool true):=h3
  cases h4
  rfl
end Go.Pv.T

/- Histories and other arguments that come in. -/
namespace Go.Pv.T
open Go Go.Pv Go.Proofs Go.ChangeShapes Go.WideShapes Go.ChangeAt Go.RowKit Go.Proofs.YtopjfnbonjmnjaaGreatDoor

abbrev valTy:Ty:=.pair (.int .i64) (.pair (.int .i64) .unit)
abbrev opTy:Ty:=.pair .bool (.pair (.int .i64) (.pair valTy .unit))
abbrev txnTy:Ty:=.pair (.int .i64) (.pair (.int .i64) (.pair (.slice opTy) .unit))
abbrev histTy:Ty:=.pair (.slice .str) (.pair (.slice .str) (.pair (.slice txnTy) .unit))

theorem sh_slice {α:Type} {t:Ty} {f:α→List V} (hf:∀ e,Sh t e→∃ a,e=f a) {vs:List V} (h:Sh (.slice t) vs):∃ nl l,vs=[slOf nl f l]:=by
  cases h with
  | nil=>exact ⟨true,[],rfl⟩
  | slice es hn h =>
    have all:∀ es:List (List V),(∀ e∈es,Sh t e)→∃ l:List α,es=l.map f:=by
      intro es
      induction es with
      | nil=>intro _;exact ⟨[],rfl⟩
      | cons e es ih =>
        intro h
        obtain ⟨a,rfl⟩:=hf e (h e (List.mem_cons_self ..))
        obtain ⟨l,rfl⟩:=ih (fun e he=>h e (List.mem_cons_of_mem _ he))
        exact ⟨a::l,rfl⟩
    obtain ⟨l,rfl⟩:=all es h
    exact ⟨false,l,by simp [slOf,List.flatMap]⟩
theorem sh_val {vs:List V} (h:Sh valTy vs):∃ v:Val',vs=valC v:=by
  cases h with
  | pair ha hb=>cases ha with
    | int _ k=>cases hb with
      | pair hc hd=>cases hc with
        | int _ n=>cases hd;exact ⟨⟨k,n⟩,rfl⟩
theorem sh_op {vs:List V} (h:Sh opTy vs):∃ o:Op',vs=opC o:=by
  cases h with
  | pair ha hb=>cases ha with
    | bool w=>cases hb with
      | pair hc hd=>cases hc with
        | int _ k=>cases hd with
          | pair he hf =>
            obtain ⟨v,rfl⟩:=sh_val he
            cases hf
            exact ⟨⟨w,k,v⟩,rfl⟩
theorem sh_txn {vs:List V} (h:Sh txnTy vs):∃ t:Txn',vs=txnC t:=by
  cases h with
  | pair ha hb=>cases ha with
    | int _ s=>cases hb with
      | pair hc hd=>cases hc with
        | int _ f=>cases hd with
          | pair he hf =>
            obtain ⟨nl,l,rfl⟩:=sh_slice (f:=opC) (fun e=>sh_op) he
            cases hf
            exact ⟨⟨s,f,nl,l⟩,rfl⟩
theorem sh_str {vs:List V} (h:Sh .str vs):∃ s:List UInt8,vs=strC s:=by
  cases h with
  | str s=>exact ⟨s,rfl⟩
theorem sh_hist {vs:List V} (h:Sh histTy vs):∃ g:Hist',vs=histC g:=by
  cases h with
  | pair ha hb=>cases hb with
    | pair hc hd=>cases hd with
      | pair he hf =>
        obtain ⟨n0,l0,rfl⟩:=sh_slice (f:=strC) (fun e=>sh_str) ha
        obtain ⟨n1,l1,rfl⟩:=sh_slice (f:=strC) (fun e=>sh_str) hc
        obtain ⟨n2,l2,rfl⟩:=sh_slice (f:=txnC) (fun e=>sh_txn) he
        cases hf
        exact ⟨⟨n0,l0,n1,l1,n2,l2⟩,rfl⟩

theorem leaf_of_pure {v:V} (h:v.pureLeaf=true):v.leaf=true:=by cases v <;> first | rfl | cases h

section
variable {H:Type} {enc:TypeId × Value→H} {W:World} {v:Value} {d:DataW H} {p:List MemPlace} {base:Nat}
set_option maxRecDepth 100000 in
theorem struct_arg {t:TypeId} {fs:Array Field} {n:Nat} {ty:Ty} (ht:Tryz.prog.underlying t=some (.struct fs)) (hty:tyOf Tryz.prog n t=some ty) (hval:Value.okWide Tryz.prog W .any base t v)
    (h:DataW.Trod enc Tryz.prog W 0 (fun _=>true) true t v d p):∃ vs,Sh ty vs∧RepP (cellsI W) v (.agg vs):=by
  obtain ⟨cs,rfl,_⟩:=okWide_struct ht hval
  obtain ⟨fuel,hf⟩:=h
  obtain ⟨vs,hs,hr⟩:=rep_of n t ty hty fuel _ _ hf
  refine ⟨vs,hs,RepP.agg cs vs (by simpa [Value.cells] using hr.1) (fun j v hj=>leaf_of_pure (hs.pure v (List.mem_of_getElem? hj))) (fun j x v hx hv=>hr.2 j x v (by simpa [Value.cells] using hx) hv)⟩
set_option maxRecDepth 100000 in
theorem cell_arg {t:TypeId} {n:Nat} {ty:Ty} (hc:v.cells.toList=[v]) (hty:tyOf Tryz.prog n t=some ty)
    (h:DataW.Trod enc Tryz.prog W 0 (fun _=>true) true t v d p):∃ vs,Sh ty vs∧Reps (cellsI W) [v] vs:=by
  obtain ⟨fuel,hf⟩:=h
  rw [hc] at hf
  exact rep_of n t ty hty fuel _ _ hf
theorem trodAll_two {s t:TypeId} {vs:List Value} {ds:List (DataW H)} {p:List MemPlace} (h:DataW.TrodAll enc Tryz.prog W 0 (fun _=>true) true [s,t] vs ds p) :
    ∃ v0 v1 d0 d1 p0 p1,vs=[v0,v1]∧ds=[d0,d1]∧DataW.Trod enc Tryz.prog W 0 (fun _=>true) true s v0 d0 p0∧DataW.Trod enc Tryz.prog W 0 (fun _=>true) true t v1 d1 p1:=by
  match vs,ds,h with
  | [v0,v1],[d0,d1],⟨p0,q,h0,⟨p1,q',h1,_,_⟩,_⟩=>exact ⟨v0,v1,d0,d1,p0,p1,rfl,rfl,h0,h1⟩
  | [],[],h=>exact h.elim
  | [v0],[d0],⟨_,_,_,h,_⟩=>exact h.elim
  | [],_::_,h=>exact h.elim
  | _::_,[],h=>exact h.elim
  | [_],_::_::_,⟨_,_,_,h,_⟩=>exact h.elim
  | _::_::_,[_],⟨_,_,_,h,_⟩=>exact h.elim
  | _::_::_::_,[_,_],⟨_,_,_,⟨_,_,_,h,_⟩,_⟩=>exact h.elim
  | [_,_],_::_::_::_,⟨_,_,_,⟨_,_,_,h,_⟩,_⟩=>exact h.elim
  | _::_::_::_,_::_::_::_,⟨_,_,_,⟨_,_,_,h,_⟩,_⟩=>exact h.elim
theorem read_ok (ts:List TypeId) (h:(ts.all fun t=>Tryz.prog.readableRec t && decide (t<Tryz.prog.types.size))=true) (t:TypeId) (ht:t∈ts):Tryz.prog.readableRec t=true∧t<Tryz.prog.types.size:=by
  have:=List.all_eq_true.1 h t ht
  simpa using this
set_option maxRecDepth 100000 in
theorem hist_arg (hval:Value.okWide Tryz.prog W .any base 25 v) (h:DataW.Trod enc Tryz.prog W 0 (fun _=>true) true 25 v d p):∃ g:Hist',RepP (cellsI W) v (.agg (histC g)):=by
  obtain ⟨vs,hs,hr⟩:=struct_arg (n:=8) (ty:=histTy) Tryz.underlying25 (by kernel_rfl) hval h
  obtain ⟨g,rfl⟩:=sh_hist hs
  exact ⟨g,hr⟩
set_option maxRecDepth 100000 in
theorem ints_arg (hval:Value.okWide Tryz.prog W .any base 32 v) (h:DataW.Trod enc Tryz.prog W 0 (fun _=>true) true 32 v d p):∃ (nl:Bool) (l:List Int),RepP (cellsI W) v (slOf nl intC l):=by
  obtain ⟨a0,len,cap,rfl⟩:=okWide_slice Tryz.underlying32 hval
  obtain ⟨vs,hs,hr⟩:=cell_arg (n:=4) (ty:=.slice (.int .i64)) rfl (by kernel_rfl) h
  obtain ⟨nl,l,rfl⟩:=sh_slice (f:=intC) (fun e he=>by cases he with | int _ k=>exact ⟨k,rfl⟩) hs
  exact ⟨nl,l,hr.2 0 _ _ rfl rfl⟩
end
end Go.Pv.T
