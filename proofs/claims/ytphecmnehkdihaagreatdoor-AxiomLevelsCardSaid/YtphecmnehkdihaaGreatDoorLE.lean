/- Where each member of a map stands: wr.places. -/
import Derived.Test.YtphecmnehkdihaaGreatDoorLD
import Derived.Shelf.Sort.Plain
import Derived.Shelf.Slices.In.SortNone
import Derived.Test.YtphecmnehkdihaaGreatDoorRows
namespace Go.Pv.T
open Go Go.Pv
def idxJ:List (Bool × List Int)→List Int→List Int
 | c::cs,m::ms=>idxI c.2 m 0::idxJ cs ms
 | _,_=>[]
theorem idxJ_len:∀ (C:List (Bool × List Int)) (M:List Int),C.length=M.length→(idxJ C M).length=C.length
 | [],[],_=>rfl
 | c::cs,m::ms,h=>by simp only [idxJ,List.length_cons] at h ⊢;rw [idxJ_len cs ms (by omega)]
 | [],_::_,h=>by simp at h
 | _::_,[],h=>by simp at h
theorem idxJ_at:∀ (C:List (Bool × List Int)) (M:List Int) (i:Nat) (h:i<C.length) (h':i<M.length),(idxJ C M)[i]? = some (idxI (C[i]).2 M[i] 0)
 | c::cs,m::ms,0,_,_=>rfl
 | c::cs,m::ms,i+1,h,h'=>by
  simp only [idxJ,List.getElem?_cons_succ,List.getElem_cons_succ]
  exact idxJ_at cs ms i (by simpa using h) (by simpa using h')
 | [],_,_,h,_=>by simp at h
 | _::_,[],_,_,h=>by simp at h
def placesH (g:Hist') (M:List Int):Option (List Int):=if wholeH g && ((choW g).length == M.length && (idxJ (choW g) M).all fun x=>decide (0≤x)) then some (idxJ (choW g) M) else none
def PlacesR (g:Hist') (r:Option (List Int)) (v:V):Prop:=match r with
 | some J=>TupS [.sl none (choW g).isEmpty (choW g).length ((choW g).flatMap lstC),.sl none false J.length (J.flatMap intC),.bool true] v
 | none=>TupS [.sl none true 0 [],.sl none true 0 [],.bool false] v
theorem choW_len {g:Hist'} (hs:Small g):(choW g).length≤1000000:=by unfold choW;rw [List.length_map];exact readW_len hs
theorem choW_sl {g:Hist'} (_:Small g):∀ x∈choW g,x.1=x.2.isEmpty∧x.2.length≤41:=by
 intro x hx
 unfold choW readW at hx
 split at hx
 ·rename_i hw
  obtain ⟨p,_,rfl⟩:=List.mem_map.1 hx
  have hm:mayH g=true:=by unfold wholeH at hw;simp only [Bool.and_eq_true] at hw;exact hw.1
  exact ⟨rfl,ofH_len hm _ _⟩
 ·simp at hx
theorem ev106 {g:Hist'} (hs:Small g) {b:Bool} (M:List Int) (hM:M.length≤1000000):∃ v,Ev E 106 [.agg (histC g),slOf b intC M] v∧PlacesR g (placesH g M) v:=by
 obtain ⟨vc,evc,hvc⟩:=ev161 hs
 have e83:=ev52 hs
 have hCl:=choW_len hs
 have hCs:=choW_sl hs
 have hnone:∀ {st:St} {P:V→Prop},st.df=[]→st.tm 4 = .sl none true 0 []→st.tm 5 = .sl none true 0 []→st.tm 6 = .bool false→placesH g M=none→kEndE [.t 4,.t 5,.t 6] (PlacesR g (placesH g M)) .ret st:=by
  intro st _ hd h4 h5 h6 hp
  rw [hp]
  exact tupE (ns:=[4,5,6]) (vs:=[.sl none true 0 [],.sl none true 0 [],.bool false]) (fun r h=>h) hd (by simp [h4,h5,h6]) (by simp) (by simp) ⟨outOk_pure rfl,outOk_pure rfl,outOk_pure rfl,trivial⟩
 refine Ev_wpE (af:=F106) rfl (by decide) ?_
 obtain ⟨P,hP⟩:∃ P,PlacesR g (placesH g M)=P:=⟨_,rfl⟩
 have hPn:=fun st h1 h2 h3 h4 h5=>hP ▸ @hnone st (fun _=>True) h1 h2 h3 h4 h5
 rw [hP]
 obtain ⟨C,hC⟩:∃ C,choW g=C:=⟨_,rfl⟩
 rw [hC] at hvc hCl hCs
 simp [F106,histC,objCells]
 refine kS_ev evc (by simp [histC]) rfl (by simp [histC]) ?_
 refine retSl hvc fun tc addc=>?_
 simp [objCells]
 refine kS_ev e83 (by simp [histC]) rfl (by simp [histC]) ?_
 cases hw:wholeH g
 ·simp
  exact hPn _ (by simp) (by simp) (by simp) (by simp) (by simp [placesH,hw])
 by_cases hl:¬ C.length=M.length
 ·have hne:((C.length:Int) != M.length)=true:=by simp;omega
  simp [hne]
  exact hPn _ (by simp) (by simp) (by simp) (by simp) (by simp [placesH,hC,hl])
 have hl:C.length=M.length:=Classical.byContradiction hl
 have hne:((C.length:Int) != M.length)=false:=by simp;omega
 simp [hne]
 refine kS_mkSlO (n:=M.length) (by simp) (by simp) (by omega) (by omega) rfl (by decide) ?_
 simp
 obtain ⟨J,hJ⟩:∃ J,idxJ C M=J:=⟨_,rfl⟩
 have hJl:J.length=M.length:=by rw [← hJ,idxJ_len C M hl];exact hl
 have hJat:=idxJ_at C M
 rw [hJ] at hJat
 have hplaces:placesH g M=if J.all (fun x=>decide (0≤x)) then some J else none:=by
  unfold placesH
  rw [hC,hJ,hw,hl]
  simp
 refine wp_loopUp [(4,6),(9,10),(28,47)] C.length (fun i s=>s.tm 28 = .int .i64 i∧(∃ cs,s.ob 2433=some ⟨1216,.cells cs⟩∧Upto M.length i J cs)∧(J.take i).all (fun x=>decide (0≤x))=true) rfl rfl ⟨by simp,⟨_,by simp,Upto.zero _ _⟩,by simp⟩ ?_
 rintro i s hi ⟨h28,⟨cs,hcs,hU⟩,hall⟩ f
 have f1:s.tm 1=slOf b intC M:=by rw [f.t 1 (by simp)];simp
 have f7:s.tm 7 = .sl tc C.isEmpty C.length (C.flatMap lstC):=by rw [f.t 7 (by simp)];simp
 have f8:s.tm 8 = .osl 2433 1216 0 M.length 1:=by rw [f.t 8 (by simp)];simp
 have f26:s.tm 26 = .sl tc C.isEmpty C.length (C.flatMap lstC):=by rw [f.t 26 (by simp)];simp
 have f27:s.tm 27 = .int .i64 C.length:=by rw [f.t 27 (by simp)];simp
 have fd:s.df=[]:=by rw [f.d];simp
 have fr:s.ro=0:=by rw [f.r];simp
 clear f
 by_cases hlt:i<C.length
 ·have hw':=wrapU hlt (by omega)
  have hlt2:i<M.length:=by omega
  have h1:=lst_at C hlt
  have h2:=int_at M hlt2
  have hix:idxSlV 1 (.sl tc C.isEmpty C.length (C.flatMap lstC)) (.int .i64 (i:Int))=some (.eptr (C.flatMap lstC) (i * 1)):=by
   simp only [idxSlV_sl,flatMap_len lstC_len]
   rw [if_pos (by simp;omega)]
   rfl
  rw [Nat.mul_one] at hix
  have hio:=idxN (l:=2433) (u:=1216) (n:=M.length) (kk:=.i64) (X:=(i:Int)) rfl hlt2
  have e128:=ev127 (a:=(C[i]).1) (C[i]).2 (by have:=(hCs _ (List.getElem_mem hlt)).2;omega) M[i]
  have hji:=hJat i hlt hlt2
  generalize idxI (C[i]).2 M[i] 0=x at *
  have hU2:=hU.set hlt2 hji
  have hget:(splice cs i [.int .i64 x])[i]? = some (.int .i64 x):=by
   rw [hU2.2.1 i (by omega)]
   have hJ':=List.getElem?_eq_some_iff.1 hji
   rw [int_at J hJ'.1,hJ'.2]
  have hcl:=hU.1
  have hle:i+1≤M.length:=hlt2
  simp [h28,f1,f8,f26,f27,hlt,hlt2,hix,idx_slOf intC_len,h1,h2]
  refine kS_ev e128 (by simp [slOf]) rfl (by simp [slOf]) ?_
  simp [hio,hcs,objCells,fr,hcl,hle,f8,hget]
  by_cases hx:x<0
  ·simp [hx]
   refine hPn _ (by simp [fd]) (by simp) (by simp) (by simp) ?_
   rw [hplaces]
   have hm:x∈J:=List.mem_of_getElem? hji
   rw [if_neg]
   rw [List.all_eq_true]
   intro h
   have:=h x hm
   simp at this
   omega
  ·simp [hx,h28,hw']
   refine ⟨hlt,hU2,fun y hy=>?_⟩
   rw [List.take_add_one,hji,List.mem_append] at hy
   rcases hy with hy | hy
   ·simpa using List.all_eq_true.1 hall y hy
   ·simp at hy;omega
 ·have:i=C.length:=by omega
  subst this
  simp [h28,f27]
  rw [List.take_of_length_le (by omega)] at hall
  rw [hl] at hU
  have hcsJ:=hU.whole hJl
  rw [← hP,hplaces,if_pos hall]
  subst hcsJ
  refine tupE (ns:=[4,5,6]) (vs:=[.sl tc C.isEmpty C.length (C.flatMap lstC),.osl 2433 1216 0 M.length 1,.bool true]) (fun r h=>h) (by simp [fd]) (by simp [f7,f8]) (by simp) (by simp) ⟨?_,?_,outOk_pure rfl,trivial⟩
  ·rw [hC];exact outOk_sl rfl (slOut_sl _ _ _ _ _)
  ·rw [hJl];exact outOk_sl rfl (slOut_osl (by simp [hcs]) hU.1 (by simp [fr]) hU.2.2)
end Go.Pv.T

/- Whether a list is a map: the given answer is the reference's. -/
namespace Go.Pv.T
open Go Go.Pv
theorem ev53 {g:Hist'} (hs:Small g) {b:Bool} (M:List Int) (hM:M.length≤1000000):Ev E 53 [.agg (histC g),slOf b intC M] (.bool (placesH g M).isSome):=by
 obtain ⟨v,ev,hv⟩:=ev106 hs (b:=b) M hM
 refine Ev_wpK (af:=F53) rfl ?_
 simp [F53,histC,objCells]
 refine kS_ev ev (by simp [histC,slOf]) rfl (by simp [histC,slOf]) ?_
 cases hp:placesH g M with
 | none =>
  rw [hp] at hv
  refine retSSB hv fun t1 t2 add=>?_
  simp
  exact endV_1 (by simp) (by simp) rfl
 | some J =>
  rw [hp] at hv
  refine retSSB hv fun t1 t2 add=>?_
  simp
  exact endV_1 (by simp) (by simp) rfl
theorem allIn_idx:∀ (C D:List (Bool × List Int)) (M:List Int),C.map (·.2)=D.map (·.2)→allIn D M=((idxJ C M).all (fun x=>decide (0≤x)) && decide (C.length≤M.length))
 | [],[],M,_=>by cases M <;> simp [allIn,idxJ]
 | c::C,d::D,[],_=>by simp [allIn]
 | c::C,d::D,m::M,h=>by
  simp only [List.map_cons,List.cons.injEq] at h
  have h1:=allIn_idx C D M h.2
  have h2:=idxI_neg m c.2 0
  have h3:decide (0≤idxI c.2 m 0)=c.2.contains m:=by
   have:decide (0≤idxI c.2 m 0) = !decide (idxI c.2 m 0<0):=by
    by_cases h:idxI c.2 m 0<0
    ·simp [h];
    ·simp [h];omega
   rw [this,h2,Bool.not_not]
  simp only [allIn,idxJ,List.all_cons,h1,h3,← h.1,List.length_cons,Nat.add_le_add_iff_right]
  rw [Bool.and_assoc]
 | [],_::_,_,h=>by simp at h
 | _::_,[],_,h=>by simp at h
theorem cho_map {g:Hist'} (hw:wholeH g=true):(choW g).map (·.2)=(choR g).map (·.2):=by
 unfold choW choR readW
 rw [if_pos hw]
 simp [List.map_map,Function.comp_def]
theorem cho_len {g:Hist'} (hw:wholeH g=true):(choW g).length=(choR g).length:=by
 have:=congrArg List.length (cho_map hw)
 simpa using this
theorem is_eq (g:Hist') (M:List Int):(placesH g M).isSome=mapR g M:=by
 unfold placesH mapR
 cases hw:wholeH g
 ·simp
 ·rw [allIn_idx _ _ M (cho_map hw),cho_len hw]
  by_cases hl:M.length=(choR g).length
  ·have h1:((choR g).length == M.length)=true:=by simp [hl]
   have h2:(M.length == (choR g).length)=true:=by simp [hl]
   rw [h1,h2]
   simp only [Bool.true_and,hl,Nat.le_refl,decide_true,Bool.and_true]
   split
   ·rename_i h;simp [h]
   ·rename_i h;simp only [Option.isSome_none];simpa using h
  ·have h1:((choR g).length == M.length)=false:=by simp;omega
   have h2:(M.length == (choR g).length)=false:=by simp;omega
   rw [h1,h2]
   simp
end Go.Pv.T

/- WrTells, but for its fixed example. -/
namespace Go.Pv.T
open Go Go.Pv
@[simp] theorem eqVV_bool (ob:Nat→Option Obj') (neg a b:Bool):eqVV ob neg .bool (.bool a) (.bool b)=some (.bool (xor neg (a == b))):=rfl
theorem retHist {ub:Nat} {r:V} {g:Hist'} {K:Delta→Prop} (h:HistR r g)
 (hK:∀ a b c add,K { v:=.agg [.sl a g.sn g.ss.length (g.ss.flatMap strC),.sl b g.kn g.ks.length (g.ks.flatMap strC),.sl c g.tn g.ts.length (g.ts.flatMap txnC)],add:=add }):wpD (retA ub r) K:=by
 obtain ⟨a,b,c,add,hr⟩:=retA_hist1 (ub:=ub) h
 rw [hr,wpD_some]
 exact hK a b c add
theorem take_flat {α:Type} {f:α→List V} {k:Nat} (hf:∀ a,(f a).length=k):∀ (l:List α) (n:Nat),(l.flatMap f).take (n * k)=(l.take n).flatMap f
 | [],n=>by simp
 | a::l,0=>by simp
 | a::l,n+1=>by
  rw [List.flatMap_cons,List.take_succ_cons,List.flatMap_cons,Nat.succ_mul,Nat.add_comm,← hf a,List.take_length_add_append,hf a,take_flat hf l n]
end Go.Pv.T

/- The reference's sorting of values. -/
namespace Go.Pv.T
open Go Go.Pv
section
variable {E:Env} {st:St} {ub:Nat} {K:List FP→St→Prop} {d:Option Nat} {nm:Bool} {r:List AOpr}
theorem nbeq {a b:Nat} (h:a≠b):a.beq b=false:=by
 cases e:a.beq b
 ·rfl
 ·exact absurd (Nat.eq_of_beq_eq_true e) h
@[simp] theorem valC_strip1 (v:Val'):(valC v).map V.strip1=valC v:=rfl
end
theorem sl_head {α:Type} {f:α→List V} {sz:Nat} (hf:∀ a,(f a).length=sz) (t:Option (Nat × Nat)) (nl:Bool) (l:List α) {k:Nat} (hk:k≤l.length):slSlV sz none (some (.int .i64 (k:Int))) (.sl t nl l.length (l.flatMap f))=some (.sl none nl (l.take k).length ((l.take k).flatMap f)):=by
 have h1:(l.take k).length=k:=by rw [List.length_take];omega
 have e:=take_flat hf l k
 have h2:(k:Int)≤l.length:=by omega
 simp [slSlV,bounds,flatMap_len hf,h1,e,h2]
end Go.Pv.T

/- slices.Compact, of values of one's own. -/
namespace Go.Pv.T
open Go Go.Pv
theorem ld2 {ob:Nat→Option Obj'} {l u:Nat} {M:List Val'} {x:Nat} (ho:ob l=some ⟨u,.cells (M.flatMap valC)⟩) (hx:x<M.length):loadV ob (some 2) (.ptr l u (x * 2))=some (.agg (valC M[x])):=by
 have h:=load_val ob M hx
 rw [← h]
 simp only [loadV,objCells,ho,if_true,Option.bind_some]
end Go.Pv.T

/- The reference's Raw, plain. -/
namespace Go.Pv.T
open Go Go.Pv
structure RwS where
 c:List Bool
 d:List Bool
 hop:Bool
 more:Bool
def RwS.left (r:RwS) (g:Hist') (t k:Nat):List Int:=(ofH g t k).filter fun x=>decide (x<0) || !(r.d.getD x.toNat false)
def RwS.sole (r:RwS) (g:Hist') (t:Nat) (l:List Op'):Nat→Bool × List Int
 | 0=>(false,[])
 | k+1=>match l[k]? with
  | some o =>
   if !outerB g t k || o.v.kind == 2 then r.sole g t l k else
   ((r.sole g t l k).1 || (r.left g t k).length == 0,
    if (r.left g t k).length == 1 && decide (0≤(r.left g t k).headD 0) then (r.sole g t l k).2++[(r.left g t k).headD 0] else (r.sole g t l k).2)
  | none=>r.sole g t l k
def RwS.learn (r:RwS) (t:Nat):List Int→RwS
 | []=>r
 | x::xs=>if r.c.getD t false then (if r.c.getD x.toNat false then r.learn t xs else { r with c:=r.c.set x.toNat true,more:=true }.learn t xs) else r
def RwS.fails (r:RwS) (f:Int) (t:Nat):RwS :=
 if f=1 then { r with hop:=true } else if f=3 then (if r.d.getD t false then r else { r with d:=r.d.set t true,more:=true }) else r
def RwS.txn (r:RwS) (g:Hist') (t:Nat) (f:Int) (l:List Op'):RwS :=
 (if (r.sole g t l l.length).1 || !(badH g t).isEmpty then r.fails f t else r).learn t (r.sole g t l l.length).2
def Alike (n:Nat) (s:KnS) (r:RwS):Prop :=
 r.c.length=n∧r.d.length=n∧(∀ i,i<n→r.c.getD i false=decide (0<mcnt s.m i))∧(∀ i,i<n→r.d.getD i false=decide (0<mcnt s.n i))∧s.hop=r.hop∧s.more=r.more∧∀ x:Int,x<0→mcnt s.n x=0
theorem ofH_ne {g:Hist'} {t:Nat} {b x:Int} (h:x∈ofH g t b):x≠t:=by
 unfold ofH at h
 split at h
 ·split at h
  ·simp at h
  ·rename_i o _ _
   unfold ofL ofStart at h
   rcases List.mem_append.1 h with h | h
   ·split at h
    ·simp at h
    ·simp at h;omega
   ·have:=(List.mem_filter.1 h).2
    simp only [Bool.and_eq_true,Bool.not_eq_true',beq_eq_false_iff_ne,ne_eq] at this
    exact this.1
 ·simp at h
theorem left_alike {g:Hist'} {s:KnS} {r:RwS} {t k:Nat} (hd:∀ i,i<g.ts.length→i≠t→r.d.getD i false=decide (0<mcnt s.n i)) (hn:∀ x:Int,x<0→mcnt s.n x=0):s.left g t k=r.left g t k:=by
 unfold KnS.left RwS.left
 refine List.filter_congr fun x hx=>?_
 have hlt:=ofH_lt hx
 have hne:=ofH_ne hx
 by_cases h0:x<0
 ·simp [hn x h0,h0]
 ·obtain ⟨i,rfl⟩:∃ i:Nat,x=i:=⟨x.toNat,by omega⟩
  have:=hd i (by omega) (by omega)
  simp only [Int.toNat_natCast,this,h0,decide_false,Bool.false_or]
theorem Alike.fails {n:Nat} {s:KnS} {r:RwS} (h:Alike n s r) {f:Int} {t:Nat} (ht:t<n) (hp:0≤mcnt s.n t):Alike n (s.fails f t) (r.fails f t):=by
 obtain ⟨h1,h2,h3,h4,h5,h6,h7⟩:=h
 unfold KnS.fails RwS.fails
 by_cases f1:f=1
 ·simp only [f1,if_true]
  exact ⟨h1,h2,h3,h4,rfl,h6,h7⟩
 ·by_cases f3:f=3
  ·rw [if_neg f1,if_neg f1,if_pos f3,if_pos f3]
   unfold KnS.learnN
   by_cases h0:mcnt s.n t=0
   ·have hr:r.d.getD t false=false:=by rw [h4 t ht,h0];rfl
    rw [if_pos h0,hr]
    simp only [Bool.false_eq_true,if_false]
    refine ⟨h1,by simp [h2],h3,fun i hi=>?_,h5,rfl,fun x hx=>?_⟩
    ·simp only [mcnt_set]
     by_cases e:i=t
     ·subst e
      simp [List.getD_eq_getElem?_getD,h2,hi]
     ·have e':¬ (i:Int)=t:=by omega
      have e2:¬ (t:Int)=i:=by omega
      have:=h4 i hi
      simp [e',List.getD_eq_getElem?_getD,Ne.symm e] at this ⊢
      exact this
    ·simp only [mcnt_set]
     rw [if_neg (by omega)]
     exact h7 x hx
   ·have hr:r.d.getD t false=true:=by rw [h4 t ht];simp;omega
    rw [if_neg h0,hr]
    simp only [if_true]
    exact ⟨h1,h2,h3,h4,h5,h6,h7⟩
  ·rw [if_neg f1,if_neg f1,if_neg f3,if_neg f3]
   exact ⟨h1,h2,h3,h4,h5,h6,h7⟩
def RwS.com (r:RwS) (x:Nat):RwS:=if r.c.getD x false then r else { r with c:=r.c.set x true,more:=true }
theorem Alike.learnM {n:Nat} {s:KnS} {r:RwS} (h:Alike n s r) {t:Nat} (ht:t<n) (hp:0≤mcnt s.m t):Alike n (s.learnM t) (r.com t):=by
 obtain ⟨h1,h2,h3,h4,h5,h6,h7⟩:=h
 unfold KnS.learnM RwS.com
 by_cases h0:mcnt s.m t=0
 ·have hr:r.c.getD t false=false:=by rw [h3 t ht,h0];rfl
  rw [if_pos h0,hr]
  simp only [Bool.false_eq_true,if_false]
  refine ⟨by simp [h1],h2,fun i hi=>?_,h4,h5,rfl,h7⟩
  simp only [mcnt_set]
  by_cases e:i=t
  ·subst e
   simp [List.getD_eq_getElem?_getD,h1,hi]
  ·have e':¬ (i:Int)=t:=by omega
   have:=h3 i hi
   simp [e',List.getD_eq_getElem?_getD,Ne.symm e] at this ⊢
   exact this
 ·have hr:r.c.getD t false=true:=by rw [h3 t ht];simp;omega
  rw [if_neg h0,hr]
  simp only [if_true]
  exact ⟨h1,h2,h3,h4,h5,h6,h7⟩
end Go.Pv.T

/- A transaction told in whatever order. -/
namespace Go.Pv.T
open Go Go.Pv
theorem KnS.fails_learnM (s:KnS) (f t x:Int):(s.learnM x).fails f t=(s.fails f t).learnM x:=by
 unfold KnS.fails KnS.learnM KnS.learnN
 by_cases f1:f=1
 ·simp only [f1,if_true]
  split <;> rfl
 ·by_cases f3:f=3
  ·rw [if_neg f1,if_neg f1,if_pos f3,if_pos f3]
   by_cases h0:mcnt s.m x=0 <;> by_cases h1:mcnt s.n t=0 <;> simp [h0,h1]
  ·rw [if_neg f1,if_neg f1,if_neg f3,if_neg f3]
theorem KnS.fails_fails (s:KnS) (f t:Int):(s.fails f t).fails f t=s.fails f t:=by
 unfold KnS.fails KnS.learnN
 by_cases f1:f=1
 ·simp [f1]
 ·by_cases f3:f=3
  ·rw [if_neg f1,if_pos f3]
   by_cases h1:mcnt s.n t=0
   ·simp [h1,f3,mcnt_set]
   ·simp [h1,f3]
  ·simp [f1,f3]
def KnS.learnAll (s:KnS):List Int→KnS
 | []=>s
 | x::xs=>(s.learnM x).learnAll xs
theorem KnS.learnAll_append (s:KnS) (x:Int):∀ xs:List Int,s.learnAll (xs++[x])=(s.learnAll xs).learnM x:=by
 intro xs
 induction xs generalizing s with
 | nil=>rfl
 | cons y ys ih=>exact ih (s.learnM y)
theorem KnS.fails_learnAll (f t:Int):∀ (xs:List Int) (s:KnS),(s.learnAll xs).fails f t=(s.fails f t).learnAll xs
 | [],_=>rfl
 | x::xs,s=>by
  show ((s.learnM x).learnAll xs).fails f t=((s.fails f t).learnM x).learnAll xs
  rw [KnS.fails_learnAll f t xs,KnS.fails_learnM]
theorem KnS.learnM_n (s:KnS) (x:Int):(s.learnM x).n=s.n:=by unfold KnS.learnM;split <;> rfl
theorem KnS.learnAll_n:∀ (xs:List Int) (s:KnS),(s.learnAll xs).n=s.n
 | [],_=>rfl
 | x::xs,s=>(KnS.learnAll_n xs (s.learnM x)).trans (s.learnM_n x)
theorem KnS.learnM_m (s:KnS) {x t:Int} (h:x≠t):mcnt (s.learnM x).m t=mcnt s.m t:=by
 unfold KnS.learnM
 split
 ·simp only [mcnt_set]
  rw [if_neg (Ne.symm h)]
 ·rfl
theorem KnS.learnAll_m {t:Int}:∀ (xs:List Int) (s:KnS),(∀ x∈xs,x≠t)→mcnt (s.learnAll xs).m t=mcnt s.m t
 | [],_,_=>rfl
 | x::xs,s,h=>(KnS.learnAll_m xs (s.learnM x) fun y hy=>h y (List.mem_cons_of_mem _ hy)).trans (s.learnM_m (h x (List.mem_cons_self ..)))
theorem KnS.fails_m (s:KnS) (f t:Int):(s.fails f t).m=s.m:=by
 unfold KnS.fails KnS.learnN
 split
 ·rfl
 ·split
  ·split <;> rfl
  ·rfl
theorem KnS.fails_n (s:KnS) (f t:Int) {x:Int} (h:x≠t):mcnt (s.fails f t).n x=mcnt s.n x:=by
 unfold KnS.fails KnS.learnN
 split
 ·rfl
 ·split
  ·split
   ·simp only [mcnt_set]
    rw [if_neg h]
   ·rfl
  ·rfl
theorem KnS.left_same {g:Hist'} {s s':KnS} {t k:Nat} (h:∀ x:Int,x≠t→mcnt s.n x=mcnt s'.n x):s.left g t k=s'.left g t k:=by
 unfold KnS.left
 refine List.filter_congr fun x hx=>?_
 rw [h x (ofH_ne hx)]
def KnS.told (s:KnS) (g:Hist') (t:Nat) (l:List Op'):Nat→Bool × List Int
 | 0=>(false,[])
 | k+1=>match l[k]? with
  | some o =>
   if o.v.kind == 2 || !outerB g t k then s.told g t l k else
   if (s.left g t k).length=0 then (true,(s.told g t l k).2) else
   if (s.left g t k).length == 1 && decide (0≤(s.left g t k).headD 0) then ((s.told g t l k).1,(s.told g t l k).2++[(s.left g t k).headD 0]) else s.told g t l k
  | none=>s.told g t l k
theorem KnS.left_mem {g:Hist'} {s:KnS} {t k:Nat} (h:(s.left g t k).length≠0):(s.left g t k).headD 0≠t:=by
 cases hl:s.left g t k with
 | nil=>rw [hl] at h;exact absurd rfl h
 | cons x r =>
  have hm:x∈s.left g t k:=by rw [hl];exact List.mem_cons_self ..
  exact ofH_ne (List.mem_filter.1 hm).1
theorem KnS.told_ne {g:Hist'} {s:KnS} {t:Nat} {l:List Op'}:∀ k,∀ x∈(s.told g t l k).2,x≠t
 | 0,x,h=>by simp [KnS.told] at h
 | k+1,x,h=>by
  simp only [KnS.told] at h
  split at h
  ·split at h
   ·exact KnS.told_ne k x h
   ·split at h
    ·exact KnS.told_ne k x h
    ·rename_i h0
     split at h
     ·rcases List.mem_append.1 h with h | h
      ·exact KnS.told_ne k x h
      ·rw [List.mem_singleton.1 h]
       exact KnS.left_mem h0
     ·exact KnS.told_ne k x h
  ·exact KnS.told_ne k x h
theorem KnS.ops_told {g:Hist'} (s:KnS) (f:Int) (t:Nat) (l:List Op'):∀ k,s.ops g f t l k=(if (s.told g t l k).1 then s.fails f t else s).learnAll (if 0<mcnt s.m t then (s.told g t l k).2 else [])
 | 0=>by
  simp only [KnS.ops,KnS.told,Bool.false_eq_true,if_false]
  split <;> rfl
 | k+1=>by
  cases ho:l[k]? with
  | none =>
   simp only [KnS.ops,KnS.told,ho]
   exact KnS.ops_told s f t l k
  | some o =>
   simp only [KnS.ops,KnS.told,ho]
   rw [KnS.ops_told s f t l k]
   have hne:=KnS.told_ne (g:=g) (s:=s) (t:=t) (l:=l) k
   generalize hB:(if (s.told g t l k).1 then s.fails f t else s)=B
   generalize hL:(if 0<mcnt s.m t then (s.told g t l k).2 else [])=L
   have hBn:∀ x:Int,x≠t→mcnt B.n x=mcnt s.n x:=fun x hx=>by
    rw [← hB];split
    ·exact s.fails_n f t hx
    ·rfl
   have hBm:mcnt B.m t=mcnt s.m t:=by
    rw [← hB];split
    ·rw [s.fails_m]
    ·rfl
   have hLne:∀ x∈L,x≠(t:Int):=fun x hx=>by
    rw [← hL] at hx
    split at hx
    ·exact hne x hx
    ·simp at hx
   have hleft:(B.learnAll L).left g t k=s.left g t k:=KnS.left_same fun x hx=>by rw [KnS.learnAll_n];exact hBn x hx
   have hm:mcnt (B.learnAll L).m t=mcnt s.m t:=by rw [KnS.learnAll_m L B hLne];exact hBm
   have hBf:B.fails f t=s.fails f t:=by
    rw [← hB];split
    ·exact s.fails_fails f t
    ·rfl
   unfold KnS.op
   rw [hleft,hm]
   by_cases c0:(o.v.kind == 2 || !outerB g t k)=true
   ·rw [if_pos c0,if_pos c0,hB,hL]
   ·rw [if_neg c0,if_neg c0]
    by_cases c1:(s.left g t k).length=0
    ·rw [if_pos c1,if_pos c1,KnS.fails_learnAll,hBf]
     simp only [if_true]
     rw [hL]
    ·rw [if_neg c1,if_neg c1]
     by_cases c2:((s.left g t k).length == 1 && decide (0≤(s.left g t k).headD 0))=true
     ·rw [if_pos c2]
      simp only [hB]
      simp only [Bool.and_eq_true] at c2
      by_cases c3:0<mcnt s.m t
      ·rw [if_pos (by simp only [c2.1,c2.2,c3,decide_true,Bool.and_self]),if_pos c3,← hL,if_pos c3,KnS.learnAll_append]
      ·rw [if_neg (by simp [c3]),if_neg c3,← hL,if_neg c3]
     ·rw [if_neg c2,hB,hL,if_neg ?_]
      intro h
      simp only [Bool.and_eq_true] at h c2
      exact c2 ⟨h.1,h.2.1⟩
theorem told_sole {g:Hist'} {s:KnS} {r:RwS} {t:Nat} (hd:∀ i,i<g.ts.length→i≠t→r.d.getD i false=decide (0<mcnt s.n i)) (hn:∀ x:Int,x<0→mcnt s.n x=0) (l:List Op'):∀ k,s.told g t l k=r.sole g t l k
 | 0=>rfl
 | k+1=>by
  have ih:=told_sole hd hn l k
  cases ho:l[k]? with
  | none=>simp only [KnS.told,RwS.sole,ho,ih]
  | some o =>
   have hl:=left_alike (k:=k) hd hn
   simp only [KnS.told,RwS.sole,ho,ih,← hl]
   rw [Bool.or_comm (!outerB g t k) (o.v.kind == 2)]
   by_cases c0:(o.v.kind == 2 || !outerB g t k)=true
   ·rw [if_pos c0,if_pos c0]
   ·rw [if_neg c0,if_neg c0]
    by_cases c1:(s.left g t k).length=0
    ·rw [if_pos c1]
     simp [c1]
    ·rw [if_neg c1]
     have c1':((s.left g t k).length == 0)=false:=by simpa using c1
     rw [c1',Bool.or_false]
     split <;> rfl
end Go.Pv.T

/- Both learn the same. -/
namespace Go.Pv.T
open Go Go.Pv
def KnS.Pos (s:KnS):Prop:=∀ x:Int,0≤mcnt s.m x∧0≤mcnt s.n x
theorem KnS.Pos.learnM {s:KnS} (h:s.Pos) (t:Int):(s.learnM t).Pos:=by
 unfold KnS.learnM
 split
 ·intro x
  refine ⟨?_,(h x).2⟩
  simp only [mcnt_set]
  split
  ·decide
  ·exact (h x).1
 ·exact h
theorem KnS.Pos.learnN {s:KnS} (h:s.Pos) (t:Int):(s.learnN t).Pos:=by
 unfold KnS.learnN
 split
 ·intro x
  refine ⟨(h x).1,?_⟩
  simp only [mcnt_set]
  split
  ·decide
  ·exact (h x).2
 ·exact h
theorem KnS.Pos.fails {s:KnS} (h:s.Pos) (f t:Int):(s.fails f t).Pos:=by
 unfold KnS.fails
 split
 ·exact h
 ·split
  ·exact h.learnN t
  ·exact h
theorem KnS.Pos.learnAll:∀ (xs:List Int) {s:KnS},s.Pos→(s.learnAll xs).Pos
 | [],_,h=>h
 | x::xs,_,h=>KnS.Pos.learnAll xs (h.learnM x)
def RwS.comAll (r:RwS):List Int→RwS
 | []=>r
 | x::xs=>(r.com x.toNat).comAll xs
theorem RwS.com_c {r:RwS} {x t:Nat} (h:r.c.getD t false=true):(r.com x).c.getD t false=true:=by
 unfold RwS.com
 split
 ·exact h
 ·rw [List.getD_eq_getElem?_getD] at h
  simp only [List.getD_eq_getElem?_getD,List.getElem?_set]
  split
  ·rename_i e
   subst e
   split
   ·rfl
   ·rename_i e
    rw [List.getElem?_eq_none (by omega)] at h
    cases h
  ·exact h
theorem RwS.learn_all (t:Nat):∀ (xs:List Int) (r:RwS),r.learn t xs=if r.c.getD t false then r.comAll xs else r
 | [],r=>by simp [RwS.learn,RwS.comAll]
 | x::xs,r=>by
  simp only [RwS.learn,RwS.comAll]
  by_cases h:r.c.getD t false=true
  ·rw [if_pos h,if_pos h]
   have hc:=RwS.com_c (x:=x.toNat) h
   unfold RwS.com at hc ⊢
   by_cases h2:r.c.getD x.toNat false=true
   ·rw [if_pos h2,if_pos h2,RwS.learn_all t xs r,if_pos h]
   ·rw [if_neg h2] at hc
    rw [if_neg h2,if_neg h2,RwS.learn_all t xs,if_pos hc]
  ·rw [if_neg h,if_neg h]
theorem Alike.learnAll {n:Nat}:∀ (xs:List Int) {s:KnS} {r:RwS},Alike n s r→s.Pos→(∀ x∈xs,0≤x∧x<n)→Alike n (s.learnAll xs) (r.comAll xs)
 | [],_,_,h,_,_=>h
 | x::xs,s,r,h,hp,hx=>by
  obtain ⟨h0,h1⟩:=hx x (List.mem_cons_self ..)
  have hl:=h.learnM (t:=x.toNat) (by omega) (hp _).1
  have e:((x.toNat:Nat):Int)=x:=Int.toNat_of_nonneg h0
  rw [e] at hl
  exact Alike.learnAll xs hl (hp.learnM x) fun y hy=>hx y (List.mem_cons_of_mem _ hy)
theorem KnS.left_lt {g:Hist'} {s:KnS} {t k:Nat} (h:(s.left g t k).length≠0):(s.left g t k).headD 0<g.ts.length:=by
 cases hl:s.left g t k with
 | nil=>rw [hl] at h;exact absurd rfl h
 | cons x r =>
  have hm:x∈s.left g t k:=by rw [hl];exact List.mem_cons_self ..
  exact ofH_lt (List.mem_filter.1 hm).1
theorem KnS.told_lt {g:Hist'} {s:KnS} {t:Nat} {l:List Op'}:∀ k,∀ x∈(s.told g t l k).2,0≤x∧x<g.ts.length
 | 0,x,h=>by simp [KnS.told] at h
 | k+1,x,h=>by
  simp only [KnS.told] at h
  split at h
  ·split at h
   ·exact KnS.told_lt k x h
   ·split at h
    ·exact KnS.told_lt k x h
    ·rename_i h0
     split at h
     ·rename_i h1
      simp only [Bool.and_eq_true,decide_eq_true_eq] at h1
      rcases List.mem_append.1 h with h | h
      ·exact KnS.told_lt k x h
      ·rw [List.mem_singleton.1 h]
       exact ⟨h1.2,KnS.left_lt h0⟩
     ·exact KnS.told_lt k x h
  ·exact KnS.told_lt k x h
theorem Alike.txn {g:Hist'} {s:KnS} {r:RwS} (h:Alike g.ts.length s r) (hp:s.Pos) {t:Nat} (ht:t<g.ts.length) (f:Int) (l:List Op') :
 Alike g.ts.length (s.txn g t f l) (r.txn g t f l)∧(s.txn g t f l).Pos:=by
 unfold KnS.txn
 rw [KnS.ops_told]
 generalize hs1:(if (badH g t).isEmpty then s else s.fails f t)=s1
 have hn1:∀ x:Int,x≠t→mcnt s1.n x=mcnt s.n x:=fun x hx=>by
  rw [← hs1];split
  ·rfl
  ·exact s.fails_n f t hx
 have hm1:s1.m=s.m:=by
  rw [← hs1];split
  ·rfl
  ·rw [s.fails_m]
 have hsole:=told_sole (s:=s1) (r:=r) (t:=t) (g:=g) (fun i hi hne=>by rw [h.2.2.2.1 i hi,hn1 i (by omega)]) (fun x hx=>by rw [hn1 x (by omega)];exact h.2.2.2.2.2.2 x hx) l l.length
 have hlt:=KnS.told_lt (g:=g) (s:=s1) (t:=t) (l:=l) l.length
 rw [hsole] at hlt
 rw [hsole,hm1]
 unfold RwS.txn
 rw [RwS.learn_all]
 have base:(if (r.sole g t l l.length).1 then s1.fails f t else s1)=if (r.sole g t l l.length).1 || !(badH g t).isEmpty then s.fails f t else s:=by
  rw [← hs1]
  cases (badH g t).isEmpty <;> cases (r.sole g t l l.length).1 <;> simp [KnS.fails_fails]
 rw [base]
 generalize r.sole g t l l.length=q at hlt ⊢
 have hB:Alike g.ts.length (if q.1 || !(badH g t).isEmpty then s.fails f t else s) (if q.1 || !(badH g t).isEmpty then r.fails f t else r)∧(if q.1 || !(badH g t).isEmpty then s.fails f t else s).Pos∧(if q.1 || !(badH g t).isEmpty then s.fails f t else s).m=s.m:=by
  split
  ·exact ⟨h.fails ht (hp _).2,hp.fails f t,s.fails_m f t⟩
  ·exact ⟨h,hp,rfl⟩
 generalize (if q.1 || !(badH g t).isEmpty then s.fails f t else s)=B at hB ⊢
 generalize (if q.1 || !(badH g t).isEmpty then r.fails f t else r)=R at hB ⊢
 obtain ⟨hA,hP,hM⟩:=hB
 have hc:=hA.2.2.1 t ht
 rw [hM] at hc
 by_cases h0:0<mcnt s.m t
 ·have hc':R.c.getD t false=true:=by rw [hc];simp [h0]
  rw [if_pos h0,if_pos hc']
  exact ⟨hA.learnAll _ hP hlt,hP.learnAll _⟩
 ·have hc':¬ R.c.getD t false=true:=by rw [hc];simp [h0]
  rw [if_neg h0,if_neg hc']
  exact ⟨hA,hP⟩
def RwS.round (r:RwS) (g:Hist'):Nat→RwS
 | 0=>{ r with more:=false }
 | i+1=>match g.ts[i]? with
  | some t=>(r.round g i).txn g i t.f t.ops
  | none=>r.round g i
def RwS.iter (g:Hist'):Nat→RwS→RwS
 | 0,r=>r
 | k+1,r=>if r.more then RwS.iter g k (r.round g g.ts.length) else r
theorem Alike.round {g:Hist'} {s:KnS} {r:RwS} (h:Alike g.ts.length s r) (hp:s.Pos):∀ i,i≤g.ts.length→Alike g.ts.length (s.round g i) (r.round g i)∧(s.round g i).Pos
 | 0,_=>⟨⟨h.1,h.2.1,h.2.2.1,h.2.2.2.1,h.2.2.2.2.1,rfl,h.2.2.2.2.2.2⟩,hp⟩
 | i+1,hi=>by
  obtain ⟨hA,hP⟩:=Alike.round h hp i (by omega)
  simp only [KnS.round,RwS.round,List.getElem?_eq_getElem (show i<g.ts.length by omega)]
  exact hA.txn hP (by omega) _ _
theorem Alike.iter {g:Hist'}:∀ (k:Nat) {s:KnS} {r:RwS},Alike g.ts.length s r→s.Pos→Alike g.ts.length (KnS.iter g k s) (RwS.iter g k r)∧(KnS.iter g k s).Pos
 | 0,_,_,h,hp=>⟨h,hp⟩
 | k+1,s,r,h,hp=>by
  simp only [KnS.iter,RwS.iter,← h.2.2.2.2.2.1]
  split
  ·obtain ⟨hA,hP⟩:=Alike.round h hp g.ts.length (Nat.le_refl _)
   exact Alike.iter k hA hP
  ·exact ⟨h,hp⟩
end Go.Pv.T

/- value.Sorted (an observer of a list of values). -/
namespace Go.Pv.T
open Go Go.Pv
@[simp] theorem valC_leafs (v:Val'):(valC v).all V.leaf=true:=rfl
end Go.Pv.T

/- Sorted values: one list alone. -/
namespace Go.Pv.T
open Go Go.Pv
end Go.Pv.T

/- value.Sorted (an observer of a list of values): what it answers, exactly. -/
namespace Go.Pv.T
open Go Go.Pv
end Go.Pv.T

/- What a lost read may have read: the program's walk. -/
namespace Go.Pv.T
open Go Go.Pv
def ValsP (ob:Nat→Option Obj') (p:Nat→Prop) (l:List Val') (v:V):Prop:=∃ u,v = .osl (2 * u+1) u 0 l.length 2∧ob (2 * u+1)=some ⟨u,.cells (l.flatMap valC)⟩∧p u
theorem ValsP.frame {ob ob':Nat→Option Obj'} {p p':Nat→Prop} {l:List Val'} {v:V} (h:ValsP ob p l v) (hf:∀ u,p u→ob' (2 * u+1)=ob (2 * u+1)) (hh:∀ u,p u→p' u):ValsP ob' p' l v:=by
 obtain ⟨u,h2,h3,h4⟩:=h
 exact ⟨u,h2,(hf u h4).trans h3,hh u h4⟩
end Go.Pv.T

/- What a lost read may have read: the reference's list. -/
namespace Go.Pv.T
open Go Go.Pv
end Go.Pv.T

/- WriterOf, but for its fixed example. -/
namespace Go.Pv.T
open Go Go.Pv
end Go.Pv.T

/- A history made whole; plain. -/
namespace Go.Pv.T
open Go Go.Pv
def comB (g:Hist') (cs:List Bool) (i:Nat):Bool:=match g.ts[i]? with
 | some t=>if t.f=3 then cs.getD (numsTo isInfo g.ts i).length false else t.f == 1
 | none=>false
def opR (g:Hist') (lo:List Val') (i k:Nat) (o:Op'):Op':=if o.v.kind=2 then { o with v:=lo.getD (lostAt g i k).length ⟨0,0⟩ } else o
def txnR (g:Hist') (cs:List Bool) (lo:List Val') (i:Nat) (t:Txn'):Txn':={ s:=t.s,f:=if comB g cs i then 1 else 2,nl:=false,ops:=t.ops.mapIdx (opR g lo i) }
def rawH (g:Hist') (cs:List Bool) (lo:List Val'):Hist':=⟨false,g.ss,false,g.ks,g.ts.isEmpty,g.ts.mapIdx (txnR g cs lo)⟩
def loB (v:Val'):Bool:=v.kind == 1 || (v.kind == 0 && v.n == 0)
def hopelessH (g:Hist'):Bool:=(numsTo isCom g.ts g.ts.length).any (fun i=>!(badH g i).isEmpty) || (choR g).any fun c=>c.2.isEmpty
section
variable {g:Hist'} {cs:List Bool} {lo:List Val'}
theorem rawH_len:(rawH g cs lo).ts.length=g.ts.length:=by simp [rawH]
theorem rawH_at {i:Nat} (h:i<g.ts.length):(rawH g cs lo).ts[i]'(by rw [rawH_len];exact h)=txnR g cs lo i g.ts[i]:=by simp [rawH]
theorem rawH_at? (i:Nat):(rawH g cs lo).ts[i]? = (g.ts[i]?).map (txnR g cs lo i):=by simp [rawH]
theorem txnR_len (i:Nat) (t:Txn'):(txnR g cs lo i t).ops.length=t.ops.length:=by simp [txnR]
theorem opR_w (i k:Nat) (o:Op'):(opR g lo i k o).w=o.w:=by unfold opR;split <;> rfl
theorem opR_key (i k:Nat) (o:Op'):(opR g lo i k o).key=o.key:=by unfold opR;split <;> rfl
theorem opR_wk (i k:Nat) (key:Int) (o:Op'):wkB key (opR g lo i k o)=wkB key o:=by unfold wkB;rw [opR_w,opR_key]
theorem opR_same {i k:Nat} {o:Op'} (h:¬ o.v.kind=2):opR g lo i k o=o:=by unfold opR;rw [if_neg h]
theorem loB_val {v:Val'} (h:loB v=true):valB v=true:=by
 unfold loB at h;unfold valB
 revert h
 cases v.kind == 1 <;> cases v.kind == 0 <;> cases v.n == 0 <;> simp
theorem getD_lo (hl:lo.all loB=true) (n:Nat):loB (lo.getD n ⟨0,0⟩)=true:=by
 rw [List.getD_eq_getElem?_getD]
 cases h:lo[n]? with
 | none=>rfl
 | some v=>exact List.all_eq_true.1 hl v (List.mem_of_getElem? h)
theorem opR_val {i k:Nat} {o:Op'} (hl:lo.all loB=true) (h:valB o.v=true):valB (opR g lo i k o).v=true:=by
 unfold opR
 split
 ·exact loB_val (getD_lo hl _)
 ·exact h
theorem map_idx {α β:Type} (f:α→β) (k:Nat→α→α) (h:∀ n x,f (k n x)=f x) (l:List α):(l.mapIdx k).map f=l.map f:=by
 apply List.ext_getElem?
 intro n
 rw [List.getElem?_map,List.getElem?_map,List.getElem?_mapIdx]
 cases l[n]? <;> simp [h]
theorem may_op (hm:mayH g=true) {t:Txn'} {o:Op'} (ht:t∈g.ts) (ho:o∈t.ops):opB g o=true:=by
 unfold mayH at hm
 simp only [Bool.and_eq_true,List.all_eq_true] at hm
 exact hm.2.2.1 o (List.mem_flatMap.2 ⟨t,ht,ho⟩)
theorem rawH_may (hm:mayH g=true) (hl:lo.all loB=true):mayH (rawH g cs lo)=true:=by
 have hop:=fun t o=>@may_op g hm t o
 unfold mayH at hm ⊢
 simp only [Bool.and_eq_true,List.all_eq_true] at hm ⊢
 obtain ⟨h1,h2,h3,h4⟩:=hm
 refine ⟨?_,?_,?_,?_⟩
 ·unfold headsB at h1 ⊢
  rw [rawH_len]
  exact h1
 ·intro x hx
  obtain ⟨i,hi⟩:=List.mem_iff_getElem?.1 hx
  rw [rawH_at?] at hi
  obtain ⟨t,ht,rfl⟩:=Option.map_eq_some_iff.1 hi
  have:=h2 t (List.mem_of_getElem? ht)
  unfold txnB at this ⊢
  rw [txnR_len]
  simp only [Bool.and_eq_true,decide_eq_true_eq] at this ⊢
  refine ⟨this.1,?_,?_,this.2.2.2⟩ <;> (simp only [txnR];split <;> decide)
 ·intro x hx
  unfold opsOf at hx
  rw [List.mem_flatMap] at hx
  obtain ⟨y,hy,hx⟩:=hx
  obtain ⟨i,hi⟩:=List.mem_iff_getElem?.1 hy
  rw [rawH_at?] at hi
  obtain ⟨t,ht,rfl⟩:=Option.map_eq_some_iff.1 hi
  obtain ⟨k,hk⟩:=List.mem_iff_getElem?.1 hx
  simp only [txnR,List.getElem?_mapIdx] at hk
  obtain ⟨o,ho,rfl⟩:=Option.map_eq_some_iff.1 hk
  have:=hop t o (List.mem_of_getElem? ht) (List.mem_of_getElem? ho)
  unfold opB at this ⊢
  simp only [Bool.and_eq_true] at this ⊢
  rw [opR_key,opR_w]
  refine ⟨this.1,opR_val hl this.2.1,?_⟩
  cases hw:o.w
  ·rfl
  ·rw [hw] at this
   have hk1:o.v.kind=1:=by simpa using this.2.2
   rw [opR_same (by omega)]
   simp [hk1]
 ·unfold usedB at h4 ⊢
  have e1:usesS (rawH g cs lo)=usesS g:=map_idx (fun t:Txn'=>t.s) (txnR g cs lo) (fun _ _=>rfl) g.ts
  have e2:usesK (rawH g cs lo)=usesK g:=by
   unfold usesK opsOf
   rw [List.map_flatMap,List.map_flatMap,List.flatMap_def,List.flatMap_def]
   congr 1
   exact map_idx (fun t:Txn'=>t.ops.map (·.key)) (txnR g cs lo) (fun n t=>map_idx (fun o:Op'=>o.key) (opR g lo n) (fun k o=>opR_key n k o) t.ops) g.ts
  rw [e1,e2]
  exact h4
end
end Go.Pv.T

/- Fresh numbers: the program's walk. -/
namespace Go.Pv.T
open Go Go.Pv
theorem mset_cons {α:Type} (k0:Int) (b:α) (m:List (Int × α)) (k:Int) (a:α):mset ((k0,b)::m) k a=if k=k0 then (k,a)::m else (k0,b)::mset m k a:=by
 unfold mset
 rw [mfind]
 by_cases h:k=k0
 ·simp [h]
 ·rw [if_neg h,if_neg h]
  cases mfind m k <;> simp
theorem mval_mset {α:Type} (k:Int) (a:α) (k':Int):∀ m:List (Int × α),(mfind (mset m k a) k').map (·.2)=if k'=k then some a else (mfind m k').map (·.2)
 | []=>by
  by_cases h:k'=k <;> simp [mset,mfind,h]
 | (k0,b)::m=>by
  rw [mset_cons]
  have ih:=mval_mset k a k' m
  by_cases h:k=k0
  ·subst h
   rw [if_pos rfl,mfind,mfind]
   by_cases h':k'=k <;> simp [h']
  ·rw [if_neg h,mfind,mfind]
   by_cases h':k'=k0
   ·subst h'
    simp [show ¬ k'=k from fun e=>h e.symm]
   ·rw [if_neg h',if_neg h']
    simp only [Option.map_map]
    have e:((fun x:Nat × α=>x.2) ∘ fun p:Nat × α=>(p.1+1,p.2))=fun x=>x.2:=rfl
    rw [e]
    exact ih
theorem mcnt_mset (m:List (Int × Int)) (k a k':Int):mcnt (mset m k a) k'=if k'=k then a else mcnt m k':=by
 unfold mcnt
 rw [mval_mset]
 split <;> rfl
def Cnt (m:List (Int × Int)) (L:List Int):Prop:=∀ k,mcnt m k=(L.count k:Nat)
theorem Cnt.nil:Cnt [] []:=fun _=>rfl
theorem Cnt.le {m:List (Int × Int)} {L:List Int} (h:Cnt m L) (k:Int):0≤mcnt m k∧mcnt m k≤L.length:=by
 rw [h k]
 have:=List.count_le_length (a:=k) (l:=L)
 omega
end Go.Pv.T

/- Another value read at one place: what may have written it (plain). -/
namespace Go.Pv.T
open Go Go.Pv
theorem mem_modify {α:Type} {k:α→α} {y:α}:∀ {l:List α} {i:Nat},y∈l.modify i k→y∈l∨∃ x,l[i]? = some x∧y=k x
 | [],i,h=>by simp at h
 | x::l,0,h=>by
  rw [List.modify_cons] at h
  simp only [if_true,List.mem_cons] at h
  rcases h with rfl | h
  ·exact .inr ⟨x,rfl,rfl⟩
  ·exact .inl (List.mem_cons_of_mem _ h)
 | x::l,i+1,h=>by
  rw [List.modify_cons] at h
  simp only [Nat.add_one_ne_zero,if_false,Nat.add_sub_cancel,List.mem_cons] at h
  rcases h with rfl | h
  ·exact .inl (List.mem_cons_self ..)
  ·rcases mem_modify h with h | ⟨z,h1,h2⟩
   ·exact .inl (List.mem_cons_of_mem _ h)
   ·exact .inr ⟨z,by simpa using h1,h2⟩
theorem opAt_of {g:Hist'} {a b:Nat} {t:Txn'} {o:Op'} (hm:mayH g=true) (ht:g.ts[a]? = some t) (ho:t.ops[b]? = some o):opAt g a b=some o:=by
 obtain ⟨h1,h2⟩:=List.getElem?_eq_some_iff.1 ht
 obtain ⟨h3,h4⟩:=List.getElem?_eq_some_iff.1 ho
 unfold opAt
 simp only [Int.toNat_natCast]
 have hg:g.ts.getD a ⟨0,0,true,[]⟩=t:=by rw [getD_lt h1,h2]
 have hlt:b<(g.ts.getD a ⟨0,0,true,[]⟩).ops.length:=by rw [hg];exact h3
 rw [hm,if_pos (by simp only [Bool.true_and,Bool.and_eq_true,decide_eq_true_eq];omega),hg]
 exact ho
end Go.Pv.T

/- A history made whole: what it says of its reads; plain. -/
namespace Go.Pv.T
open Go Go.Pv
section
variable {g:Hist'} {cs:List Bool} {lo:List Val'}
theorem mem_nums {p:Txn'→Bool} {l:List Txn'} {x:Int}:∀ {n:Nat},x∈numsTo p l n ↔ ∃ i:Nat,i<n∧x=i∧∃ t,l[i]? = some t∧p t=true
 | 0=>by simp [numsTo]
 | n+1=>by
  simp only [numsTo,List.mem_append,mem_nums (n:=n)]
  constructor
  ·rintro (⟨i,h1,h2⟩ | h)
   ·exact ⟨i,by omega,h2⟩
   ·cases hn:l[n]? with
    | none=>rw [hn] at h;simp at h
    | some t =>
     rw [hn] at h
     simp only at h
     split at h
     ·rename_i hp
      exact ⟨n,by omega,by simpa using h,t,hn,hp⟩
     ·simp at h
  ·rintro ⟨i,h1,h2,t,ht,hp⟩
   rcases Nat.lt_succ_iff_lt_or_eq.1 h1 with h | h
   ·exact .inl ⟨i,h,h2,t,ht,hp⟩
   ·subst h
    right
    rw [ht]
    simp [hp,h2]
theorem raw_f (i:Nat) (t:Txn'):(txnR g cs lo i t).f=if comB g cs i then 1 else 2:=rfl
theorem raw_rawTo (hm:mayH g=true) {i:Nat} {t:Txn'} (ht:t∈g.ts) (key:Int):∀ n,rawTo key (txnR g cs lo i t).ops n=rawTo key t.ops n
 | 0=>rfl
 | n+1=>by
  rw [rawTo,rawTo,raw_rawTo hm ht key n]
  simp only [txnR,List.getElem?_mapIdx]
  cases ho:t.ops[n]? with
  | none=>rfl
  | some o =>
   simp only [Option.map_some,opR_wk]
   split
   ·rename_i hw
    have hb:=may_op hm ht (List.mem_of_getElem? ho)
    unfold opB at hb
    unfold wkB at hw
    simp only [Bool.and_eq_true] at hw hb
    have hk:o.v.kind=1:=by simpa [hw.1] using hb.2.2
    rw [opR_same (by omega)]
   ·rfl
theorem raw_any {i:Nat} {t:Txn'} (key:Int):(txnR g cs lo i t).ops.any (wkB key)=t.ops.any (wkB key):=by
 have:(txnR g cs lo i t).ops.map (wkB key)=t.ops.map (wkB key):=map_idx (wkB key) (opR g lo i) (fun n x=>opR_wk i n key x) t.ops
 have h:=congrArg (fun l:List Bool=>l.any id) this
 simpa [List.any_map] using h
theorem raw_writers {key x:Int} (h:x∈writersH (rawH g cs lo) key):x∈writersH g key∧∃ i:Nat,x=i∧comB g cs i=true:=by
 unfold writersH at h ⊢
 rw [rawH_len] at h
 obtain ⟨i,h1,h2,t',ht',hp⟩:=mem_nums.1 h
 rw [rawH_at?] at ht'
 obtain ⟨t,ht,rfl⟩:=Option.map_eq_some_iff.1 ht'
 unfold wrB at hp
 rw [raw_any,Bool.and_eq_true,raw_f] at hp
 have hc:comB g cs i=true:=by
  cases hc:comB g cs i
  ·rw [hc] at hp;simp at hp
  ·rfl
 refine ⟨mem_nums.2 ⟨i,h1,h2,t,ht,?_⟩,i,h2,hc⟩
 unfold wrB
 rw [hp.2,Bool.and_true]
 unfold comB at hc
 rw [ht] at hc
 simp only at hc
 split at hc
 ·rename_i hf;simp [hf]
 ·have:t.f=1:=by simpa using hc
  simp [this]
theorem raw_leave (hm:mayH g=true) (hl:lo.all loB=true) (key:Int) {i:Nat} (h:i<g.ts.length):leaveOf (rawH g cs lo) key i=leaveOf g key i:=by
 rw [leaveOf_at (rawH_may hm hl) key (by rw [rawH_len];exact h),leaveOf_at hm key h,rawH_at h,txnR_len,raw_rawTo hm (List.getElem_mem h)]
theorem raw_opAt (hm:mayH g=true) (hl:lo.all loB=true) {i k:Nat} {t:Txn'} {o:Op'} (ht:g.ts[i]? = some t) (ho:t.ops[k]? = some o):opAt (rawH g cs lo) i k=some (opR g lo i k o) :=
 opAt_of (rawH_may hm hl) (t:=txnR g cs lo i t) (by rw [rawH_at?,ht];rfl) (by simp [txnR,ho])
theorem raw_outer (hm:mayH g=true) (hl:lo.all loB=true) {i k:Nat} {t:Txn'} {o:Op'} (ht:g.ts[i]? = some t) (ho:t.ops[k]? = some o):outerB (rawH g cs lo) i k=outerB g i k:=by
 obtain ⟨h1,h2⟩:=List.getElem?_eq_some_iff.1 ht
 unfold outerB ownAt
 rw [raw_opAt hm hl ht ho,opAt_of hm ht ho]
 simp only [opR_w,opR_key,Int.toNat_natCast]
 rw [getD_lt (by rw [rawH_len];exact h1),getD_lt h1,rawH_at h1,raw_rawTo hm (List.getElem_mem h1)]
theorem raw_of (hm:mayH g=true) (hl:lo.all loB=true) {i k:Nat} {t:Txn'} {o:Op'} (ht:g.ts[i]? = some t) (ho:t.ops[k]? = some o) (h2:¬ o.v.kind=2) {x:Int} (h:x∈ofH (rawH g cs lo) i k):x∈ofH g i k∧(x = -1∨∃ j:Nat,x=j∧comB g cs j=true):=by
 unfold ofH at h ⊢
 rw [raw_opAt hm hl ht ho,opR_same h2] at h
 rw [opAt_of hm ht ho]
 simp only at h ⊢
 split at h
 ·simp at h
 ·rename_i hw
  rw [if_neg hw]
  unfold ofL at h ⊢
  rw [List.mem_append] at h ⊢
  rcases h with h | h
  ·refine ⟨.inl h,.inl ?_⟩
   unfold ofStart at h
   split at h
   ·simp at h
   ·simpa using h
  ·obtain ⟨hx,hf⟩:=List.mem_filter.1 h
   obtain ⟨hx',j,rfl,hc⟩:=raw_writers hx
   have hj:j<g.ts.length:=by
    obtain ⟨i',h1,h2,_⟩:=mem_nums.1 hx'
    omega
   refine ⟨.inr (List.mem_filter.2 ⟨hx',?_⟩),.inr ⟨j,rfl,hc⟩⟩
   rw [raw_leave hm hl _ hj] at hf
   exact hf
theorem badTo_mem {ops:List Op'} {x:Int}:∀ {n:Nat},x∈badTo ops n ↔ ∃ k:Nat,k<n∧x=k∧∃ o,ops[k]? = some o∧badO ops k o=true
 | 0=>by simp [badTo]
 | n+1=>by
  simp only [badTo,List.mem_append,badTo_mem (n:=n)]
  constructor
  ·rintro (⟨i,h1,h2⟩ | h)
   ·exact ⟨i,by omega,h2⟩
   ·cases hn:ops[n]? with
    | none=>rw [hn] at h;simp at h
    | some t =>
     rw [hn] at h
     simp only at h
     split at h
     ·rename_i hp
      exact ⟨n,by omega,by simpa using h,t,hn,hp⟩
     ·simp at h
  ·rintro ⟨i,h1,h2,t,ht,hp⟩
   rcases Nat.lt_succ_iff_lt_or_eq.1 h1 with h | h
   ·exact .inl ⟨i,h,h2,t,ht,hp⟩
   ·subst h
    right
    rw [ht]
    simp [hp,h2]
theorem badH_at (hm:mayH g=true) {i:Nat} {t:Txn'} (ht:g.ts[i]? = some t):badH g i=badTo t.ops t.ops.length:=by
 obtain ⟨h1,h2⟩:=List.getElem?_eq_some_iff.1 ht
 unfold badH opsAt
 rw [hm,if_pos (by simp;omega)]
 simp only [Int.toNat_natCast]
 rw [getD_lt h1,h2]
theorem raw_bad (hm:mayH g=true) (hl:lo.all loB=true) {i:Nat} {t:Txn'} (ht:g.ts[i]? = some t) (h:¬ badH g i=[]):¬ badH (rawH g cs lo) i=[]:=by
 rw [badH_at hm ht] at h
 rw [badH_at (rawH_may hm hl) (by rw [rawH_at?,ht];rfl)]
 obtain ⟨x,hx⟩:=List.exists_mem_of_ne_nil _ h
 obtain ⟨k,h1,h2,o,ho,hb⟩:=badTo_mem.1 hx
 have:x∈badTo (txnR g cs lo i t).ops (txnR g cs lo i t).ops.length:=by
  refine badTo_mem.2 ⟨k,by rw [txnR_len];exact h1,h2,opR g lo i k o,by simp [txnR,ho],?_⟩
  have h2k:¬ o.v.kind=2:=by
   unfold badO at hb
   simp only [Bool.and_eq_true] at hb
   simpa using hb.2.1
  rw [opR_same h2k]
  unfold badO at hb ⊢
  rw [raw_rawTo hm (List.mem_of_getElem? ht)]
  exact hb
 intro e
 rw [e] at this
 simp at this
theorem readIn_mem {i:Nat} {p:Int × Int}:∀ {n:Nat},p∈readIn g i n ↔ ∃ k:Nat,k<n∧p=((i:Int),(k:Int))∧outerB g i k=true
 | 0=>by simp [readIn]
 | n+1=>by
  simp only [readIn,List.mem_append,readIn_mem (n:=n)]
  constructor
  ·rintro (⟨k,h1,h2⟩ | h)
   ·exact ⟨k,by omega,h2⟩
   ·split at h
    ·rename_i hp
     exact ⟨n,by omega,by simpa using h,hp⟩
    ·simp at h
  ·rintro ⟨k,h1,h2,hp⟩
   rcases Nat.lt_succ_iff_lt_or_eq.1 h1 with h | h
   ·exact .inl ⟨k,h,h2,hp⟩
   ·subst h
    right
    simp [hp,h2]
theorem readAt_mem {i k:Nat} {t:Txn'} (ht:g.ts[i]? = some t) (hc:isCom t=true) (hk:k<t.ops.length) (ho:outerB g i k=true):∀ {n:Nat},i<n→((i:Int),(k:Int))∈readAt g n
 | 0,h=>by omega
 | n+1,h=>by
  simp only [readAt,List.mem_append]
  rcases Nat.lt_succ_iff_lt_or_eq.1 h with h | h
  ·exact .inl (readAt_mem ht hc hk ho h)
  ·subst h
   right
   rw [ht]
   simp only [hc,if_true]
   exact readIn_mem.2 ⟨k,hk,rfl,ho⟩
end
end Go.Pv.T

/- A world that is against what must be, made whole, is hopeless; plain. -/
namespace Go.Pv.T
open Go Go.Pv
section
variable {g:Hist'} {cs:List Bool} {lo:List Val'}
structure Snd (g:Hist') (cs:List Bool) (s:KnS):Prop where
 m:∀ x:Int,0<mcnt s.m x→∃ i:Nat,x=i∧comB g cs i=true
 n:∀ x:Int,0<mcnt s.n x→∃ i:Nat,x=i∧comB g cs i=false
 h:s.hop=false
theorem Snd.learnM {s:KnS} (h:Snd g cs s) {i:Nat} (hi:comB g cs i=true):Snd g cs (s.learnM i):=by
 unfold KnS.learnM
 split
 ·refine ⟨fun x hx=>?_,h.n,h.h⟩
  simp only [mcnt_set] at hx
  split at hx
  ·rename_i e;exact ⟨i,e,hi⟩
  ·exact h.m x hx
 ·exact h
theorem Snd.learnN {s:KnS} (h:Snd g cs s) {i:Nat} (hi:comB g cs i=false):Snd g cs (s.learnN i):=by
 unfold KnS.learnN
 split
 ·refine ⟨h.m,fun x hx=>?_,h.h⟩
  simp only [mcnt_set] at hx
  split at hx
  ·rename_i e;exact ⟨i,e,hi⟩
  ·exact h.n x hx
 ·exact h
theorem Snd.fails {s:KnS} (h:Snd g cs s) {i:Nat} {t:Txn'} (ht:g.ts[i]? = some t) (hi:comB g cs i=false):Snd g cs (s.fails t.f i):=by
 unfold KnS.fails
 split
 ·rename_i hf
  unfold comB at hi
  rw [ht] at hi
  simp [hf] at hi
 ·split
  ·exact h.learnN hi
  ·exact h
theorem hope (h:hopelessH (rawH g cs lo)=false):(∀ i:Nat,i<g.ts.length→comB g cs i=true→badH (rawH g cs lo) i=[])∧∀ p∈readH (rawH g cs lo),¬ ofH (rawH g cs lo) p.1 p.2=[]:=by
 unfold hopelessH at h
 rw [Bool.or_eq_false_iff,List.any_eq_false,List.any_eq_false] at h
 constructor
 ·intro i hi hc
  have:=h.1 (i:Int) (mem_nums.2 ⟨i,by rw [rawH_len];exact hi,rfl,txnR g cs lo i g.ts[i],by rw [rawH_at?,List.getElem?_eq_getElem hi];rfl,by unfold isCom;rw [raw_f,hc];rfl⟩)
  simpa using this
 ·intro p hp e
  have:=h.2 (false,ofH (rawH g cs lo) p.1 p.2) (List.mem_map.2 ⟨p,hp,rfl⟩)
  simp [e] at this
theorem left_some (hm:mayH g=true) (hl:lo.all loB=true) (hh:hopelessH (rawH g cs lo)=false) {s:KnS} (h:Snd g cs s) {i k:Nat} {t:Txn'} {o:Op'} (ht:g.ts[i]? = some t) (ho:t.ops[k]? = some o) (h2:¬ o.v.kind=2) (hu:outerB g i k=true) (hc:comB g cs i=true) :
 ∃ x∈s.left g i k,x = -1∨∃ j:Nat,x=j∧comB g cs j=true:=by
 have hne:=(hope hh).2 ((i:Int),(k:Int)) (readAt_mem (t:=txnR g cs lo i t) (by rw [rawH_at?,ht];rfl) (by unfold isCom;rw [raw_f,hc];rfl) (by rw [txnR_len];exact (List.getElem?_eq_some_iff.1 ho).1) (by rw [raw_outer hm hl ht ho];exact hu) (by rw [rawH_len];exact (List.getElem?_eq_some_iff.1 ht).1))
 obtain ⟨x,hx⟩:=List.exists_mem_of_ne_nil _ hne
 obtain ⟨h3,h4⟩:=raw_of hm hl ht ho h2 hx
 refine ⟨x,List.mem_filter.2 ⟨h3,?_⟩,h4⟩
 simp only [Bool.not_eq_true',decide_eq_false_iff_not]
 intro hn
 obtain ⟨j,hj,hjc⟩:=h.n x hn
 rcases h4 with e | ⟨j',e,hc'⟩
 ·omega
 ·have:j=j':=by omega
  subst this
  rw [hjc] at hc'
  cases hc'
theorem Snd.op (hm:mayH g=true) (hl:lo.all loB=true) (hh:hopelessH (rawH g cs lo)=false) {s:KnS} (h:Snd g cs s) {i k:Nat} {t:Txn'} {o:Op'} (ht:g.ts[i]? = some t) (ho:t.ops[k]? = some o):Snd g cs (s.op g t.f i k o):=by
 unfold KnS.op
 split
 ·exact h
 ·rename_i hc
  simp only [Bool.or_eq_true,not_or,beq_iff_eq,Bool.not_eq_true',Bool.not_eq_false] at hc
  have key:=left_some hm hl hh h ht ho hc.1 hc.2
  split
  ·rename_i h0
   refine h.fails ht ?_
   cases hci:comB g cs i
   ·rfl
   ·obtain ⟨x,hx,_⟩:=key hci
    have:=List.length_pos_of_mem hx
    omega
  ·split
   ·rename_i h1
    simp only [Bool.and_eq_true,decide_eq_true_eq,beq_iff_eq] at h1
    obtain ⟨i',e,hci⟩:=h.m i h1.2.2
    have:i'=i:=by omega
    subst this
    obtain ⟨x,hx,hx2⟩:=key hci
    obtain ⟨y,hy⟩:=List.length_eq_one_iff.1 h1.1
    rw [hy] at hx h1 ⊢
    have hxy:x=y:=by simpa using hx
    subst hxy
    rcases hx2 with e | ⟨j,e,hj⟩
    ·have:=h1.2.1
     simp only [List.headD_cons] at this
     omega
    ·simp only [List.headD_cons]
     rw [e]
     exact h.learnM hj
   ·exact h
theorem Snd.ops (hm:mayH g=true) (hl:lo.all loB=true) (hh:hopelessH (rawH g cs lo)=false) {s:KnS} (h:Snd g cs s) {i:Nat} {t:Txn'} (ht:g.ts[i]? = some t):∀ n,Snd g cs (s.ops g t.f i t.ops n)
 | 0=>h
 | n+1=>by
  simp only [KnS.ops]
  split
  ·rename_i o ho
   exact (Snd.ops hm hl hh h ht n).op hm hl hh ht ho
  ·exact Snd.ops hm hl hh h ht n
theorem Snd.txn (hm:mayH g=true) (hl:lo.all loB=true) (hh:hopelessH (rawH g cs lo)=false) {s:KnS} (h:Snd g cs s) {i:Nat} {t:Txn'} (ht:g.ts[i]? = some t):Snd g cs (s.txn g i t.f t.ops):=by
 unfold KnS.txn
 refine Snd.ops hm hl hh ?_ ht _
 split
 ·exact h
 ·rename_i hb
  refine h.fails ht ?_
  cases hci:comB g cs i
  ·rfl
  ·have h1:=raw_bad (cs:=cs) hm hl ht (by simpa using hb)
   exact absurd ((hope hh).1 i (List.getElem?_eq_some_iff.1 ht).1 hci) h1
theorem Snd.round (hm:mayH g=true) (hl:lo.all loB=true) (hh:hopelessH (rawH g cs lo)=false) {s:KnS} (h:Snd g cs s):∀ n,Snd g cs (s.round g n)
 | 0=>⟨h.m,h.n,h.h⟩
 | n+1=>by
  simp only [KnS.round]
  split
  ·rename_i t ht
   exact (Snd.round hm hl hh h n).txn hm hl hh ht
  ·exact Snd.round hm hl hh h n
theorem Snd.iter (hm:mayH g=true) (hl:lo.all loB=true) (hh:hopelessH (rawH g cs lo)=false):∀ (n:Nat) {s:KnS},Snd g cs s→Snd g cs (KnS.iter g n s)
 | 0,_,h=>h
 | n+1,s,h=>by
  simp only [KnS.iter]
  split
  ·exact Snd.iter hm hl hh n (h.round hm hl hh _)
  ·exact h
end
end Go.Pv.T

/- Maps of reads: the first, the next, how many, all: plain laws. -/
namespace Go.Pv.T
open Go Go.Pv
abbrev Cs':=List (Bool × List Int)
def hd1 (c:Bool × List Int):Int:=c.2.headD 0
def nextL:Cs'→List Int→Option (List Int)
 | c::cs,m::ms=>match nextL cs ms with
  | some r=>some (m::r)
  | none=>if idxI c.2 m 0+1<c.2.length then some (c.2.getD (idxI c.2 m 0+1).toNat 0::cs.map hd1) else none
 | _,_=>none
end Go.Pv.T

/- Maps of reads: the first, and how many: walks. -/
namespace Go.Pv.T
open Go Go.Pv
end Go.Pv.T

/- Who committed; whether a whole history is hopeless; what it then tells. -/
namespace Go.Pv.T
open Go Go.Pv
end Go.Pv.T

/- Axioms in plain Lean: what goes before what, orders, what a read sees. -/
namespace Go.Pv.T
open Go Go.Pv
def andTo (f:Nat→Bool):Nat→Bool
 | 0=>true
 | k+1=>andTo f k && f k
theorem andTo_iff {f:Nat→Bool}:∀ {n:Nat},andTo f n=true ↔ ∀ k,k<n→f k=true
 | 0=>by simp [andTo]
 | n+1=>by
  rw [andTo,Bool.and_eq_true,andTo_iff]
  constructor
  ·rintro ⟨h,h'⟩ k hk
   rcases Nat.lt_or_ge k n with h1 | h1
   ·exact h k h1
   ·have:k=n:=by omega
    exact this ▸ h'
  ·exact fun h=>⟨fun k hk=>h k (by omega),h n (by omega)⟩
theorem andTo_congr {f f':Nat→Bool} {n:Nat} (h:∀ k,k<n→f k=f' k):andTo f n=andTo f' n:=by
 rw [Bool.eq_iff_iff,andTo_iff,andTo_iff]
 exact ⟨fun a k hk=>h k hk ▸ a k hk,fun a k hk=>(h k hk).symm ▸ a k hk⟩
def filTo (f:Nat→Bool):Nat→List Int
 | 0=>[]
 | k+1=>filTo f k++(if f k then [(k:Int)] else [])
theorem filTo_mem {f:Nat→Bool} {x:Int}:∀ {n:Nat},x∈filTo f n ↔ ∃ k:Nat,k<n∧x=k∧f k=true
 | 0=>by simp [filTo]
 | n+1=>by
  rw [filTo,List.mem_append,filTo_mem]
  constructor
  ·rintro (⟨k,h1,h2,h3⟩ | h)
   ·exact ⟨k,by omega,h2,h3⟩
   ·cases hf:f n
    ·simp [hf] at h
    ·simp [hf] at h;exact ⟨n,by omega,h,hf⟩
  ·rintro ⟨k,h1,h2,h3⟩
   rcases Nat.lt_or_ge k n with h | h
   ·exact .inl ⟨k,h,h2,h3⟩
   ·have:k=n:=by omega
    subst this
    exact .inr (by simp [h3,h2])
def comAt (g:Hist') (a:Nat):Bool:=match g.ts[a]? with | some t=>isCom t | none=>false
def sesAt (g:Hist') (a:Nat):Int:=match g.ts[a]? with | some t=>t.s | none=>0
def thatAt (p:Txn'→Bool) (ts:List Txn') (a:Nat):Bool:=match ts[a]? with | some t=>p t | none=>false
theorem numsTo_fil (p:Txn'→Bool) (ts:List Txn'):∀ n,numsTo p ts n=filTo (thatAt p ts) n
 | 0=>rfl
 | n+1=>by
  rw [numsTo,filTo,numsTo_fil p ts n]
  congr 1
  unfold thatAt
  cases ts[n]? <;> rfl
theorem comAt_lt {g:Hist'} {a:Nat} (h:comAt g a=true):a<g.ts.length:=by
 unfold comAt at h
 cases h':g.ts[a]? with
 | none=>rw [h'] at h;cases h
 | some t=>exact (List.getElem?_eq_some_iff.1 h').1
def comL (g:Hist'):List Int:=numsTo isCom g.ts g.ts.length
theorem comL_mem {g:Hist'} {x:Int}:x∈comL g ↔ ∃ k:Nat,x=k∧comAt g k=true:=by
 rw [comL,numsTo_fil,filTo_mem]
 exact ⟨fun ⟨k,_,h2,h3⟩=>⟨k,h2,h3⟩,fun ⟨k,h2,h3⟩=>⟨k,comAt_lt h3,h2,h3⟩⟩
theorem comH_comL {g:Hist'} (h:wholeH g=true):comH g=comL g:=by rw [comH,if_pos h];rfl
def fromB (R:List (Int × Int)) (M:List Int) (a b:Nat):Bool:=(R.zip M).any fun x=>x.2 == (a:Int) && x.1.1 == (b:Int)
def stepB (g:Hist') (M:List Int) (a b:Nat):Bool:=comAt g a && comAt g b && ((decide (a<b) && sesAt g a == sesAt g b) || fromB (readH g) M a b)
def war (r:Nat→Nat→Bool):Nat→Nat→Nat→Bool
 | 0,b,a=>r a b
 | k+1,b,a=>war r k b a || (war r k b k && war r k k a)
theorem war_trans {r:Nat→Nat→Bool}:∀ {K k:Nat},k<K→∀ {b a:Nat},war r K b k=true→war r K k a=true→war r K b a=true
 | K+1,k,hk,b,a,h1,h2=>by
  simp only [war,Bool.or_eq_true,Bool.and_eq_true] at h1 h2 ⊢
  rcases Nat.lt_or_ge k K with hlt | hge
  ·rcases h1 with h1 | ⟨h1,h1'⟩ <;> rcases h2 with h2 | ⟨h2,h2'⟩
   ·exact .inl (war_trans hlt h1 h2)
   ·exact .inr ⟨war_trans hlt h1 h2,h2'⟩
   ·exact .inr ⟨h1,war_trans hlt h1' h2⟩
   ·exact .inr ⟨h1,h2'⟩
  ·have:k=K:=by omega
   subst this
   rcases h1 with h1 | ⟨h1,h1'⟩ <;> rcases h2 with h2 | ⟨h2,h2'⟩
   ·exact .inr ⟨h1,h2⟩
   ·exact .inr ⟨h1,h2'⟩
   ·exact .inr ⟨h1,h2⟩
   ·exact .inr ⟨h1,h2'⟩
theorem war_one {r:Nat→Nat→Bool} {b a:Nat} (h:r a b=true):∀ K,war r K b a=true
 | 0=>h
 | K+1=>by simp [war,war_one h K]
theorem war_in {r:Nat→Nat→Bool} {p:Nat→Prop} {q:Nat→Prop} (h0:∀ a b,q b→r a b=true→p a) (h1:∀ b,p b→q b):∀ (K:Nat) {b a:Nat},q b→war r K b a=true→p a
 | 0,b,a,hb,h=>h0 a b hb h
 | K+1,b,a,hb,h=>by
  simp only [war,Bool.or_eq_true,Bool.and_eq_true] at h
  rcases h with h | ⟨h,h'⟩
  ·exact war_in h0 h1 K hb h
  ·exact war_in h0 h1 K (h1 _ (war_in h0 h1 K hb h)) h'
def farB (g:Hist') (M:List Int) (t a:Nat):Bool:=war (stepB g M) g.ts.length t a
theorem stepB_com {g:Hist'} {M:List Int} {a b:Nat} (h:stepB g M a b=true):comAt g a=true∧comAt g b=true:=by
 simp only [stepB,Bool.and_eq_true] at h
 exact h.1
theorem farB_com {g:Hist'} {M:List Int} {t a:Nat} (h:farB g M t a=true):comAt g a=true :=
 war_in (r:=stepB g M) (p:=fun a=>comAt g a=true) (q:=fun _=>True) (fun _ _ _ h=>(stepB_com h).1) (fun _ _=>trivial) g.ts.length (b:=t) trivial h
def atO (O:List Int) (t:Int):Int:=idxI O t 0
theorem idxI_or (k:Int):∀ (l:List Int) (n:Nat),idxI l k n = -1∨(n:Int)≤idxI l k n
 | [],n=>.inl rfl
 | x::r,n=>by
  rw [idxI]
  split
  ·exact .inr (Int.le_refl _)
  ·rcases idxI_or k r (n+1) with h | h
   ·exact .inl h
   ·exact .inr (by omega)
theorem atO_ge (O:List Int) (t:Int):-1≤atO O t:=by
 rcases idxI_or t O 0 with h | h <;> unfold atO <;> omega
theorem atO_neg {O:List Int} {t:Int}:atO O t<0 ↔ t ∉ O:=by
 have h:=idxI_neg t O 0
 unfold atO
 constructor
 ·intro h1 h2
  have:O.contains t=true:=by simpa using h2
  rw [this] at h
  simp at h
  omega
 ·intro h1
  have:O.contains t=false:=by simpa using h1
  rw [this] at h
  simpa using h
theorem idxI_inj {a b:Int}:∀ {l:List Int} {n:Nat},0≤idxI l a n→idxI l a n=idxI l b n→a=b
 | [],n,h,_=>by simp [idxI] at h
 | x::r,n,h,h'=>by
  rw [idxI] at h h'
  rw [idxI] at h'
  by_cases h1:a=x
  ·by_cases h2:b=x
   ·rw [h1,h2]
   ·have e1:(a == x)=true:=by simpa using h1
    have e2:(b == x)=false:=by simpa using h2
    rw [e1,e2] at h'
    simp only [if_true,Bool.false_eq_true,if_false] at h'
    rcases idxI_or b r (n+1) with h3 | h3 <;> omega
  ·have e1:(a == x)=false:=by simpa using h1
   by_cases h2:b=x
   ·have e2:(b == x)=true:=by simpa using h2
    rw [e1,e2] at h'
    simp only [if_true,Bool.false_eq_true,if_false] at h'
    rcases idxI_or a r (n+1) with h3 | h3 <;> omega
   ·have e2:(b == x)=false:=by simpa using h2
    rw [e1] at h
    rw [e1,e2] at h'
    simp only [Bool.false_eq_true,if_false] at h h'
    exact idxI_inj h h'
theorem atO_inj {O:List Int} {a b:Int} (ha:a∈O) (h:atO O a=atO O b):a=b:=by
 refine idxI_inj (l:=O) (n:=0) ?_ h
 rcases Int.lt_or_le (idxI O a 0) 0 with h1 | h1
 ·exact absurd ha (atO_neg.1 h1)
 ·exact h1
def keyAt (g:Hist') (p:Int × Int):Int:=match opAt g p.1 p.2 with | some o=>o.key | none=>0
def leavesB (g:Hist') (t key:Int):Bool:=(lastW (opsAt g t).2 key).2
def rcB (R:List (Int × Int)) (M:List Int) (p:Int × Int) (t:Int):Bool:=(R.zip M).any fun x=>x.1.1 == p.1 && (decide (x.1.2<p.2) && x.2 == t)
def seesB (g:Hist') (lvl:Int) (M O:List Int) (p:Int × Int) (t:Nat):Bool :=
 if lvl=1 then rcB (readH g) M p t else if lvl=2 then farB g M p.1.toNat t else if lvl=3 then comAt g t && decide (atO O t<atO O p.1) else false
def seenL (g:Hist') (lvl:Int) (M O:List Int) (p:Int × Int):List Int:=filTo (seesB g lvl M O p) g.ts.length
def okB (g:Hist') (O:List Int) (p:Int × Int) (m t:Int):Bool:=t == m || (!leavesB g t (keyAt g p) || decide (atO O t<atO O m))
def rightB (g:Hist') (lvl:Int) (M O:List Int) (i:Nat):Bool:=match (readH g)[i]?,M[i]? with
 | some p,some m=>decide (m<0∨atO O m<atO O p.1) && (seenL g lvl M O p).all (okB g O p m)
 | _,_=>true
def aheadB (g:Hist') (O:List Int) (b a:Nat):Bool:=!(sesAt g ((comL g).getD a 0).toNat == sesAt g ((comL g).getD b 0).toNat) || decide (atO O ((comL g).getD a 0)<atO O ((comL g).getD b 0))
def sesB (g:Hist') (O:List Int) (b:Nat):Bool:=(badH g ((comL g).getD b 0)).isEmpty && andTo (aheadB g O b) b
def holdsB (g:Hist') (lvl:Int) (M O:List Int):Bool:=andTo (sesB g O) (comL g).length && andTo (rightB g lvl M O) (readH g).length
def orderB (g:Hist') (O:List Int):Bool:=wholeH g && ((comL g).length == O.length && andTo (fun i=>(comL g).contains (O.getD i 0) && !(O.take i).contains (O.getD i 0)) O.length)
def errB (g:Hist') (lvl:Int) (M O:List Int):Int:=if !wholeH g then 4 else if decide (lvl<1∨3<lvl) || (!mapR g M || !orderB g O) then 2 else 0
end Go.Pv.T

/- Axioms in plain Lean: what the given judge finds is what the reference says. -/
namespace Go.Pv.T
open Go Go.Pv
theorem com_f {g:Hist'} (hw:wholeH g=true) {a:Nat} {t:Txn'} (ht:g.ts[a]? = some t) (h2:t.f≠2):comAt g a=true:=by
 unfold wholeH at hw
 simp only [Bool.and_eq_true,List.isEmpty_iff] at hw
 obtain ⟨hm,hi,_⟩:=hw
 have h3:t.f≠3:=fun e=>by
  have:((a:Nat):Int)∈infosH g:=by
   rw [infosH,numsTo_fil,filTo_mem]
   exact ⟨a,(List.getElem?_eq_some_iff.1 ht).1,rfl,by simp [thatAt,ht,isInfo,e]⟩
  rw [hi] at this
  cases this
 unfold mayH at hm
 simp only [Bool.and_eq_true,List.all_eq_true] at hm
 have:=hm.2.1 t (List.mem_of_getElem? ht)
 simp only [txnB,Bool.and_eq_true,decide_eq_true_eq] at this
 simp only [comAt,ht,isCom,beq_iff_eq]
 omega
theorem of_com {g:Hist'} (hw:wholeH g=true) {a b x:Int} (h:x∈ofH g a b):x = -1∨x∈comL g:=by
 unfold ofH at h
 split at h
 ·split at h
  ·cases h
  ·rw [ofL,List.mem_append] at h
   rcases h with h | h
   ·unfold ofStart at h
    split at h
    ·cases h
    ·exact .inl (by simpa using h)
   ·have h1:=(List.mem_filter.1 h).1
    rw [writersH,numsTo_fil,filTo_mem] at h1
    obtain ⟨k,h1,h2,h3⟩:=h1
    refine .inr (comL_mem.2 ⟨k,h2,?_⟩)
    unfold thatAt at h3
    cases ht:g.ts[k]? with
    | none=>rw [ht] at h3;cases h3
    | some t =>
     rw [ht] at h3
     simp only [wrB,Bool.and_eq_true,bne_iff_ne,ne_eq] at h3
     exact com_f hw ht h3.1
 ·cases h
theorem allIn_get:∀ {C:List (Bool × List Int)} {M:List Int} {i:Nat} {c:Bool × List Int},allIn C M=true→C[i]? = some c→∃ m,M[i]? = some m∧m∈c.2
 | [],_,_,_,_,hc=>by simp at hc
 | _::_,[],_,_,h,_=>by simp [allIn] at h
 | d::C,m::M,0,c,h,hc=>by
  simp only [allIn,Bool.and_eq_true] at h
  simp at hc
  subst hc
  exact ⟨m,rfl,by simpa using h.1⟩
 | d::C,m::M,i+1,c,h,hc=>by
  simp only [allIn,Bool.and_eq_true] at h
  simpa using allIn_get h.2 (by simpa using hc)
section
variable {g:Hist'} {M O:List Int}
theorem map_from (h:mapR g M=true) {i:Nat} {p:Int × Int} (hp:(readH g)[i]? = some p):∃ m,M[i]? = some m∧m∈ofH g p.1 p.2:=by
 unfold mapR at h
 simp only [Bool.and_eq_true] at h
 exact allIn_get (c:=(false,ofH g p.1 p.2)) h.2.2 (by simp [choR,hp])
theorem map_len (h:mapR g M=true):M.length=(readH g).length:=by
 unfold mapR at h
 simp only [Bool.and_eq_true,beq_iff_eq] at h
 simpa [choR] using h.2.1
theorem map_whole (h:mapR g M=true):wholeH g=true:=by
 unfold mapR at h
 simp only [Bool.and_eq_true] at h
 exact h.1
theorem map_mem (h:mapR g M=true) {m:Int} (hm:m∈M):m = -1∨m∈comL g:=by
 obtain ⟨i,hi,e⟩:=List.getElem_of_mem hm
 have hi':i<(readH g).length:=by rw [← map_len h];exact hi
 obtain ⟨m',h1,h2⟩:=map_from h (List.getElem?_eq_getElem hi')
 rw [List.getElem?_eq_getElem hi] at h1
 cases h1
 rw [← e]
 exact of_com (map_whole h) h2
theorem readAt_in {p:Int × Int}:∀ {n:Nat},p∈readAt g n→∃ (i k:Nat) (t:Txn'),p=((i:Int),(k:Int))∧g.ts[i]? = some t∧isCom t=true∧k<t.ops.length∧outerB g i k=true
 | 0,h=>by simp [readAt] at h
 | n+1,h=>by
  rw [readAt,List.mem_append] at h
  rcases h with h | h
  ·exact readAt_in h
  ·cases ht:g.ts[n]? with
   | none=>rw [ht] at h;cases h
   | some t =>
    rw [ht] at h
    simp only at h
    split at h
    ·rename_i hc
     obtain ⟨k,h1,h2,h3⟩:=readIn_mem.1 h
     exact ⟨n,k,t,h2,ht,hc,h1,h3⟩
    ·cases h
theorem read_com {p:Int × Int} (h:p∈readH g):p.1∈comL g:=by
 obtain ⟨i,k,t,rfl,ht,hc,_⟩:=readAt_in h
 exact comL_mem.2 ⟨i,rfl,by simp [comAt,ht,hc]⟩
/-! Orders -/
theorem order_len (h:orderB g O=true):(comL g).length=O.length:=by
 unfold orderB at h
 simp only [Bool.and_eq_true,beq_iff_eq] at h
 exact h.2.1
theorem order_at (h:orderB g O=true) {i:Nat} (hi:i<O.length):O[i]∈comL g∧O[i] ∉ O.take i:=by
 unfold orderB at h
 simp only [Bool.and_eq_true] at h
 have:=andTo_iff.1 h.2.2 i hi
 simpa [List.getD_eq_getElem?_getD,List.getElem?_eq_getElem hi] using this
theorem nodup_of:∀ {L:List Int},(∀ i (hi:i<L.length),L[i] ∉ L.take i)→L.Nodup
 | [],_=>List.nodup_nil
 | x::r,h=>by
  rw [List.nodup_cons]
  constructor
  ·intro hx
   obtain ⟨i,hi,e⟩:=List.getElem_of_mem hx
   have:=h (i+1) (by simpa using hi)
   simp [e] at this
  ·refine nodup_of fun i hi hm=>?_
   have:=h (i+1) (by simpa using hi)
   simp [hm] at this
theorem order_nodup (h:orderB g O=true):O.Nodup:=nodup_of fun i hi=>(order_at h hi).2
theorem order_sub (h:orderB g O=true) {x:Int} (hx:x∈O):x∈comL g:=by
 obtain ⟨i,hi,e⟩:=List.getElem_of_mem hx
 exact e ▸ (order_at h hi).1
theorem comL_pw (g:Hist'):(comL g).Pairwise (· < ·):=(numsTo_lt (p:=isCom) (ts:=g.ts) g.ts.length (Nat.le_refl _)).2
theorem comL_nodup (g:Hist'):(comL g).Nodup:=(comL_pw g).imp fun h=>Int.ne_of_lt h
theorem perm_of_sub:∀ {O C:List Int},O.Nodup→(∀ x∈O,x∈C)→C.length=O.length→O.Perm C
 | [],C,_,_,h=>by
  have:C=[]:=List.length_eq_zero_iff.1 h
  rw [this]
 | x::r,C,hn,hs,h=>by
  rw [List.nodup_cons] at hn
  have hx:=hs x (by simp)
  have h1:=List.perm_cons_erase hx
  refine (List.Perm.cons x (perm_of_sub hn.2 (fun y hy=>?_) ?_)).trans h1.symm
  ·have hne:y≠x:=fun e=>hn.1 (e ▸ hy)
   exact (List.mem_erase_of_ne hne).2 (hs y (by simp [hy]))
  ·have:=h1.length_eq
   simp at this h
   omega
theorem order_perm (h:orderB g O=true):O.Perm (comL g):=perm_of_sub (order_nodup h) (fun _=>order_sub h) (order_len h)
theorem order_iff (hw:wholeH g=true):orderB g O=true ↔ O.Perm (comL g):=by
 refine ⟨order_perm,fun h=>?_⟩
 have hn:O.Nodup:=h.nodup_iff.2 (comL_nodup g)
 unfold orderB
 rw [hw,Bool.true_and,Bool.and_eq_true,andTo_iff]
 refine ⟨by rw [h.length_eq];simp,fun i hi=>?_⟩
 have h1:O[i]∈comL g:=h.mem_iff.1 (List.getElem_mem hi)
 have h2:O[i] ∉ O.take i:=fun hm=>by
  obtain ⟨j,hj,e⟩:=List.getElem_of_mem hm
  simp at hj
  rw [List.getElem_take] at e
  exact List.pairwise_iff_getElem.1 hn j i (by omega) hi (by omega) e
 simp [List.getD_eq_getElem?_getD,List.getElem?_eq_getElem hi,h1,h2]
theorem sorted_one:∀ {S C:List Int},S.Perm C→S.Pairwise (·≤·)→C.Pairwise (· < ·)→S=C
 | [],C,h,_,_=>(List.nil_perm.1 h).symm
 | x::r,C,h,hs,hc=>by
  cases C with
  | nil=>exact absurd h.length_eq (by simp)
  | cons y q =>
   rw [List.pairwise_cons] at hs hc
   have hx:x∈y::q:=h.mem_iff.1 (by simp)
   have hy:y∈x::r:=h.mem_iff.2 (by simp)
   have e:x=y:=by
    rcases List.mem_cons.1 hx with h1 | h1
    ·exact h1
    ·rcases List.mem_cons.1 hy with h2 | h2
     ·exact h2.symm
     ·have:=hs.1 y h2
      have:=hc.1 x h1
      omega
   subst e
   rw [sorted_one ((List.perm_cons x).1 h) hs.2 hc.2]
theorem order_sorted (hw:wholeH g=true) {S:List Int} (hp:O.Perm S) (hs:S.Pairwise (·≤·)):(S == comL g)=orderB g O:=by
 rw [Bool.eq_iff_iff,order_iff hw,beq_iff_eq]
 exact ⟨fun e=>e ▸ hp,fun h=>sorted_one (hp.symm.trans h) hs (comL_pw g)⟩
/-! Where each stands -/
theorem idxI_get:∀ {l:List Int} {n k:Nat} (h:k<l.length),l.Nodup→idxI l l[k] n=(n+k:Nat)
 | x::r,n,0,_,_=>by simp [idxI]
 | x::r,n,k+1,h,hn=>by
  rw [List.nodup_cons] at hn
  have hk:k<r.length:=by simpa using h
  have hne:((r[k]) == x)=false:=by
   rw [beq_eq_false_iff_ne]
   exact fun e=>hn.1 (e ▸ List.getElem_mem hk)
  simp only [List.getElem_cons_succ,idxI,hne,Bool.false_eq_true,if_false]
  rw [idxI_get hk hn.2]
  omega
theorem atO_get (hn:O.Nodup) {k:Nat} (h:k<O.length):atO O O[k]=k:=by
 rw [atO,idxI_get h hn,Nat.zero_add]
def atM (O:List Int):Nat→List (Int × Int)
 | 0=>[(-1,-1)]
 | k+1=>mset (atM O k) (O.getD k 0) k
theorem atM_to (hn:O.Nodup) (t:Int):∀ k,k≤O.length→mcnt (atM O k) t=if t∈O.take k then atO O t else if t = -1 then -1 else 0
 | 0,_=>by
  unfold atM mcnt
  by_cases h:t = -1 <;> simp [mfind,h]
 | k+1,h=>by
  have hk:k<O.length:=by omega
  rw [atM,mcnt_mset,atM_to hn t k (by omega)]
  have e:O.getD k 0=O[k]:=by simp [List.getD_eq_getElem?_getD,List.getElem?_eq_getElem hk]
  have hm:t∈O.take (k+1) ↔ t∈O.take k∨t=O[k]:=by
   rw [List.take_add_one,List.getElem?_eq_getElem hk]
   simp only [List.mem_append,Option.toList_some,List.mem_singleton]
  rw [e]
  by_cases h1:t=O[k]
  ·rw [if_pos h1,if_pos (hm.2 (.inr h1)),h1,atO_get hn hk]
  ·rw [if_neg h1]
   by_cases h2:t∈O.take k
   ·rw [if_pos h2,if_pos (hm.2 (.inl h2))]
   ·rw [if_neg h2,if_neg fun h=>(hm.1 h).elim h2 h1]
theorem atM_eq (h:orderB g O=true) {t:Int} (ht:t = -1∨t∈comL g):mcnt (atM O O.length) t=atO O t:=by
 have hneg:(-1:Int) ∉ O:=fun hm=>by
  obtain ⟨k,e,_⟩:=comL_mem.1 (order_sub h hm)
  omega
 rw [atM_to (order_nodup h) t _ (Nat.le_refl _),List.take_length]
 rcases ht with rfl | ht
 ·rw [if_neg hneg,if_pos rfl]
  have h1:=atO_neg.2 hneg
  have h2:=atO_ge O (-1)
  omega
 ·rw [if_pos ((order_perm h).mem_iff.2 ht)]
theorem atO_com (h:orderB g O=true) {t:Int} (ht:t∈comL g):0≤atO O t:=by
 rcases Int.lt_or_le (atO O t) 0 with h1 | h1
 ·exact absurd ((order_perm h).mem_iff.2 ht) (atO_neg.1 h1)
 ·exact h1
theorem atO_one (h:orderB g O=true):atO O (-1) = -1:=by
 have hneg:(-1:Int) ∉ O:=fun hm=>by
  obtain ⟨k,e,_⟩:=comL_mem.1 (order_sub h hm)
  omega
 have h1:=atO_neg.2 hneg
 have h2:=atO_ge O (-1)
 omega
/-! Sessions -/
def sesM (g:Hist') (O:List Int):Nat→List (Int × Int)
 | 0=>[]
 | k+1=>mset (sesM g O k) (sesAt g ((comL g).getD k 0).toNat) (atO O ((comL g).getD k 0))
def sesG (g:Hist') (O:List Int) (k:Nat):Bool:=!((mfind (sesM g O k) (sesAt g ((comL g).getD k 0).toNat)).any fun x=>decide (atO O ((comL g).getD k 0)<x.2)) && (badH g ((comL g).getD k 0)).isEmpty
def SesI (g:Hist') (O:List Int) (n:Nat):Prop:=∀ s,match (mfind (sesM g O n) s).map (·.2) with
 | none=>∀ j,j<n→sesAt g ((comL g).getD j 0).toNat≠s
 | some v=>(∃ j,j<n∧sesAt g ((comL g).getD j 0).toNat=s∧atO O ((comL g).getD j 0)=v)∧∀ j,j<n→sesAt g ((comL g).getD j 0).toNat=s→atO O ((comL g).getD j 0)≤v
theorem sesG_eq (h:orderB g O=true) {n:Nat} (hn:n<(comL g).length) (hi:SesI g O n):sesG g O n=sesB g O n:=by
 unfold sesG sesB
 rw [Bool.and_comm]
 congr 1
 have hi:=hi (sesAt g ((comL g).getD n 0).toNat)
 have hget:∀ j (hj:j<(comL g).length),(comL g).getD j 0=(comL g)[j]:=fun j hj=>by simp [List.getD_eq_getElem?_getD,List.getElem?_eq_getElem hj]
 have hinj:∀ j,j<n→atO O ((comL g).getD j 0)≠atO O ((comL g).getD n 0):=fun j hj e=>by
  rw [hget j (by omega),hget n hn] at e
  have:=atO_inj ((order_perm h).mem_iff.2 (List.getElem_mem (show j<(comL g).length by omega))) e
  have hp:=List.pairwise_iff_getElem.1 (comL_pw g) j n (by omega) hn hj
  omega
 rw [Bool.eq_iff_iff,andTo_iff]
 cases hf:mfind (sesM g O n) (sesAt g ((comL g).getD n 0).toNat) with
 | none =>
  rw [hf] at hi
  simp only [Option.map_none] at hi
  simp only [Option.any_none,Bool.not_false,true_iff]
  intro j hj
  rw [aheadB,beq_eq_false_iff_ne.2 (hi j hj)]
  rfl
 | some x =>
  rw [hf] at hi
  simp only [Option.map_some] at hi
  obtain ⟨⟨j0,h1,h2,h3⟩,h4⟩:=hi
  simp only [Option.any_some,Bool.not_eq_true',decide_eq_false_iff_not,Int.not_lt]
  constructor
  ·intro hle j hj
   by_cases hs:sesAt g ((comL g).getD j 0).toNat=sesAt g ((comL g).getD n 0).toNat
   ·have:=h4 j hj hs
    have:=hinj j hj
    simp only [aheadB,hs,beq_self_eq_true,Bool.not_true,Bool.false_or,decide_eq_true_eq]
    omega
   ·rw [aheadB,beq_eq_false_iff_ne.2 hs]
    rfl
  ·intro ha
   have:=ha j0 h1
   simp only [aheadB,h2,beq_self_eq_true,Bool.not_true,Bool.false_or,decide_eq_true_eq] at this
   omega
theorem sesI_to (h:orderB g O=true):∀ {n:Nat},n≤(comL g).length→andTo (sesB g O) n=true→SesI g O n
 | 0,_,_=>fun s=>by simp [sesM,mfind]
 | n+1,hn,ha=>fun s=>by
  rw [andTo,Bool.and_eq_true] at ha
  have hi:=sesI_to h (n:=n) (by omega) ha.1
  have hb:=ha.2
  unfold sesB at hb
  rw [Bool.and_eq_true,andTo_iff] at hb
  have hi:=hi s
  rw [sesM,mval_mset]
  by_cases hs:s=sesAt g ((comL g).getD n 0).toNat
  ·subst hs
   rw [if_pos rfl]
   refine ⟨⟨n,by omega,rfl,rfl⟩,fun j hj he=>?_⟩
   rcases Nat.lt_succ_iff_lt_or_eq.1 hj with h1 | h1
   ·have:=hb.2 j h1
    simp only [aheadB,he,beq_self_eq_true,Bool.not_true,Bool.false_or,decide_eq_true_eq] at this
    omega
   ·subst h1;exact Int.le_refl _
  ·rw [if_neg hs]
   split at hi
   ·intro j hj
    rcases Nat.lt_succ_iff_lt_or_eq.1 hj with h1 | h1
    ·exact hi j h1
    ·subst h1;exact fun e=>hs e.symm
   ·obtain ⟨⟨j,h1,h2,h3⟩,h4⟩:=hi
    refine ⟨⟨j,by omega,h2,h3⟩,fun j hj he=>?_⟩
    rcases Nat.lt_succ_iff_lt_or_eq.1 hj with h1 | h1
    ·exact h4 j h1 he
    ·subst h1;exact absurd he.symm hs
theorem ses_eq (h:orderB g O=true):∀ {n:Nat},n≤(comL g).length→andTo (sesG g O) n=andTo (sesB g O) n
 | 0,_=>rfl
 | n+1,hn=>by
  have ih:=ses_eq h (n:=n) (by omega)
  rw [andTo,andTo,ih]
  cases ha:andTo (sesB g O) n with
  | false=>rfl
  | true=>rw [sesG_eq h (by omega) (sesI_to h (by omega) ha)]
/-! What reads see -/
def seesG (g:Hist') (lvl:Int) (M O:List Int) (p:Int × Int) (t:Int):Bool:=if lvl=1 then rcB (readH g) M p t else if lvl=2 then farB g M p.1.toNat t.toNat else decide (atO O t<atO O p.1)
def rightG (g:Hist') (lvl:Int) (M O:List Int) (i:Nat):Bool:=match (readH g)[i]?,M[i]? with
 | some p,some m=>decide (atO O m<atO O p.1) && (comL g).all fun t=>!seesG g lvl M O p t || okB g O p m t
 | _,_=>true
def holdsG (g:Hist') (lvl:Int) (M O:List Int):Bool:=andTo (sesG g O) (comL g).length && andTo (rightG g lvl M O) (readH g).length
theorem sees_com (hm:mapR g M=true) {lvl:Int} {p:Int × Int} {t:Nat} (h:seesB g lvl M O p t=true):comAt g t=true:=by
 unfold seesB at h
 split at h
 ·unfold rcB at h
  obtain ⟨x,hx,h1⟩:=List.any_eq_true.1 h
  simp only [Bool.and_eq_true,beq_iff_eq] at h1
  have hm2:=map_mem hm (List.of_mem_zip hx).2
  rw [h1.2.2] at hm2
  rcases hm2 with h2 | h2
  ·omega
  ·obtain ⟨k,e,hc⟩:=comL_mem.1 h2
   have:t=k:=by omega
   exact this ▸ hc
 ·split at h
  ·exact farB_com h
  ·split at h
   ·rw [Bool.and_eq_true] at h;exact h.1
   ·cases h
theorem sees_eq {lvl:Int} (h1:1≤lvl) (h3:lvl≤3) {p:Int × Int} {t:Nat} (hc:comAt g t=true):seesG g lvl M O p t=seesB g lvl M O p t:=by
 unfold seesG seesB
 split
 ·rfl
 ·split
  ·simp
  ·rw [if_pos (by omega),hc,Bool.true_and]
theorem right_eq {lvl:Int} (h1:1≤lvl) (h3:lvl≤3) (hm:mapR g M=true) (ho:orderB g O=true) (i:Nat):rightG g lvl M O i=rightB g lvl M O i:=by
 unfold rightG rightB
 cases hp:(readH g)[i]? with
 | none=>rfl
 | some p =>
  obtain ⟨m,e,hmo⟩:=map_from hm hp
  rw [e]
  simp only
  have hpc:=read_com (List.mem_of_getElem? hp)
  have ha:=atO_com ho hpc
  congr 1
  ·rcases of_com (map_whole hm) hmo with rfl | hmc
   ·rw [atO_one ho]
    have:(-1:Int)<atO O p.1:=by omega
    simp [this]
   ·obtain ⟨k,e,_⟩:=comL_mem.1 hmc
    have:¬ m<0:=by omega
    simp [this]
  ·rw [Bool.eq_iff_iff,List.all_eq_true,List.all_eq_true]
   unfold seenL
   constructor
   ·intro h t ht
    obtain ⟨k,_,rfl,hk⟩:=filTo_mem.1 ht
    have hc:=sees_com hm hk
    have:=h k (comL_mem.2 ⟨k,rfl,hc⟩)
    rw [sees_eq h1 h3 hc,hk] at this
    simpa using this
   ·intro h t ht
    obtain ⟨k,rfl,hc⟩:=comL_mem.1 ht
    rw [sees_eq h1 h3 hc]
    cases hk:seesB g lvl M O p k with
    | false=>rfl
    | true=>simpa using h k (filTo_mem.2 ⟨k,comAt_lt hc,rfl,hk⟩)
theorem holds_eq {lvl:Int} (h1:1≤lvl) (h3:lvl≤3) (hm:mapR g M=true) (ho:orderB g O=true):holdsG g lvl M O=holdsB g lvl M O:=by
 unfold holdsG holdsB
 rw [ses_eq ho (Nat.le_refl _),andTo_congr fun k _=>right_eq h1 h3 hm ho k]
/-! Levels -/
theorem step_at (hm:mapR g M=true) (ho:orderB g O=true) (hs:andTo (sesB g O) (comL g).length=true) (hr:∀ (i:Nat) (p:Int × Int) (m:Int),(readH g)[i]? = some p→M[i]? = some m→m<0∨atO O m<atO O p.1) {a b:Nat} (h:stepB g M a b=true):atO O a<atO O b:=by
 unfold stepB at h
 simp only [Bool.and_eq_true,Bool.or_eq_true,decide_eq_true_eq,beq_iff_eq] at h
 obtain ⟨⟨ca,cb⟩,h⟩:=h
 rcases h with ⟨hab,hse⟩ | h
 ·obtain ⟨i,hi,ei⟩:=List.getElem_of_mem (comL_mem.2 ⟨a,rfl,ca⟩)
  obtain ⟨j,hj,ej⟩:=List.getElem_of_mem (comL_mem.2 ⟨b,rfl,cb⟩)
  have hij:i<j:=by
   rcases Nat.lt_or_ge i j with h | h
   ·exact h
   ·rcases Nat.lt_or_ge j i with h' | h'
    ·have:=List.pairwise_iff_getElem.1 (comL_pw g) j i hj hi h'
     omega
    ·have:i=j:=by omega
     subst this
     omega
  have:=andTo_iff.1 hs j hj
  unfold sesB at this
  rw [Bool.and_eq_true,andTo_iff] at this
  have:=this.2 i hij
  have e1:(comL g).getD i 0=a:=by rw [← ei];simp [List.getD_eq_getElem?_getD,List.getElem?_eq_getElem hi]
  have e2:(comL g).getD j 0=b:=by rw [← ej];simp [List.getD_eq_getElem?_getD,List.getElem?_eq_getElem hj]
  rw [aheadB,e1,e2] at this
  simpa [hse] using this
 ·unfold fromB at h
  obtain ⟨x,hx,h1⟩:=List.any_eq_true.1 h
  simp only [Bool.and_eq_true,beq_iff_eq] at h1
  obtain ⟨i,hi,ei⟩:=List.getElem_of_mem hx
  rw [List.getElem_zip] at ei
  rw [List.length_zip] at hi
  rw [← ei] at h1
  have:=hr i _ _ (List.getElem?_eq_getElem (by omega)) (List.getElem?_eq_getElem (by omega))
  simp only at h1
  rw [h1.1,h1.2] at this
  rcases this with h | h
  ·omega
  ·exact h
theorem far_at (hs:∀ a b:Nat,stepB g M a b=true→atO O a<atO O b) {t a:Nat} (h:farB g M t a=true):atO O a<atO O t :=
 war_in (r:=stepB g M) (p:=fun a=>atO O a<atO O t) (q:=fun a=>atO O (a:Int)≤atO O t) (fun a b hb hab=>Int.lt_of_lt_of_le (hs a b hab) hb) (fun _ h=>Int.le_of_lt h) g.ts.length (b:=t) (Int.le_refl _) h
theorem rights {lvl:Int} (h:andTo (rightB g lvl M O) (readH g).length=true) {i:Nat} {p:Int × Int} {m:Int} (hp:(readH g)[i]? = some p) (hm:M[i]? = some m):(m<0∨atO O m<atO O p.1)∧(seenL g lvl M O p).all (okB g O p m)=true:=by
 have:=andTo_iff.1 h i (List.getElem?_eq_some_iff.1 hp).1
 unfold rightB at this
 rw [hp,hm] at this
 simpa only [Bool.and_eq_true,decide_eq_true_eq] using this
theorem holds_mono {l1 l2:Int} (h:holdsB g l1 M O=true) (hsub:∀ (i:Nat) (p:Int × Int) (m:Int),(readH g)[i]? = some p→M[i]? = some m→∀ t,seesB g l2 M O p t=true→seesB g l1 M O p t=true):holdsB g l2 M O=true:=by
 unfold holdsB at h ⊢
 rw [Bool.and_eq_true] at h ⊢
 refine ⟨h.1,andTo_iff.2 fun i hi=>?_⟩
 have:=andTo_iff.1 h.2 i hi
 unfold rightB at this ⊢
 cases hp:(readH g)[i]? with
 | none=>rfl
 | some p =>
  cases hm:M[i]? with
  | none=>rfl
  | some m =>
   rw [hp,hm] at this
   simp only [Bool.and_eq_true,List.all_eq_true] at this ⊢
   refine ⟨this.1,fun t ht=>?_⟩
   obtain ⟨k,h1,rfl,h3⟩:=filTo_mem.1 ht
   exact this.2 k (filTo_mem.2 ⟨k,h1,rfl,hsub i p m hp hm k h3⟩)
theorem ser_cc (hm:mapR g M=true) (ho:orderB g O=true) (h:holdsB g 3 M O=true):holdsB g 2 M O=true:=by
 refine holds_mono h fun i p m hp he t ht=>?_
 unfold holdsB at h
 rw [Bool.and_eq_true] at h
 have hst:∀ a b:Nat,stepB g M a b=true→atO O a<atO O b:=fun a b=>step_at hm ho h.1 fun i p m h1 h2=>(rights h.2 h1 h2).1
 have hf:farB g M p.1.toNat t=true:=by simpa [seesB] using ht
 have hc:=farB_com hf
 obtain ⟨k,e,_⟩:=comL_mem.1 (read_com (List.mem_of_getElem? hp))
 have:=far_at hst hf
 have e2:((p.1.toNat:Nat):Int)=p.1:=by omega
 rw [e2] at this
 simp [seesB,hc,this]
theorem cc_rc (hm:mapR g M=true) (h:holdsB g 2 M O=true):holdsB g 1 M O=true:=by
 refine holds_mono h fun i p m hp he t ht=>?_
 have hc:=sees_com hm ht
 have hr:rcB (readH g) M p t=true:=by simpa [seesB] using ht
 obtain ⟨k,e,hk⟩:=comL_mem.1 (read_com (List.mem_of_getElem? hp))
 have e2:p.1.toNat=k:=by omega
 have hst:stepB g M t k=true:=by
  unfold stepB
  rw [hc,hk,Bool.true_and,Bool.true_and,Bool.or_eq_true]
  right
  unfold rcB at hr
  unfold fromB
  obtain ⟨x,hx,h1⟩:=List.any_eq_true.1 hr
  simp only [Bool.and_eq_true,beq_iff_eq] at h1
  refine List.any_eq_true.2 ⟨x,hx,?_⟩
  simp [h1.2.2,h1.1,e]
 have:farB g M p.1.toNat t=true:=by rw [e2];exact war_one hst _
 simp [seesB,this]
end
end Go.Pv.T

/- Axioms: the reference's walks: where one stands, what is left, steps. -/
namespace Go.Pv.T
open Go Go.Pv
end Go.Pv.T

/- The reference's sole: an observer of what is doomed. -/
namespace Go.Pv.T
open Go Go.Pv
end Go.Pv.T

/- The reference's Raw, walked. -/
namespace Go.Pv.T
open Go Go.Pv
structure RwAt (g:Hist') (r:RwS) (st:St):Prop where
 cl:r.c.length=g.ts.length
 dl:r.d.length=g.ts.length
 h:st.ob 2=some ⟨0,.cells (histC g)⟩
 c:st.ob 36=some ⟨448,.cells (r.c.map V.bool)⟩
 d:st.ob 44=some ⟨704,.cells (r.d.map V.bool)⟩
 t1:st.tm 1 = .ptr 2 0 0
 t5:st.tm 5 = .osl 36 448 0 g.ts.length 1
 t6:st.tm 6 = .osl 44 704 0 g.ts.length 1
 t8:st.tm 8 = .bool r.hop
 t9:st.tm 9 = .bool r.more
 df:st.df=[]
 ro:st.ro=0
 nx:768≤st.nx
end Go.Pv.T

/- Axioms: the reference's walk: from whom one comes by steps. -/
namespace Go.Pv.T
open Go Go.Pv
section
variable (g:Hist') (M:List Int) (t:Nat)
def fireB (bs:List Bool) (a b:Nat):Bool:=!bs.getD a false && ((b == t || bs.getD b false) && stepB g M a b)
def FarS (bs:List Bool):Prop:=bs.length=g.ts.length∧∀ a,bs.getD a false=true→farB g M t a=true
def FarR (bs0:List Bool) (i j:Nat) (bs:List Bool) (more:Bool):Prop:=FarS g M t bs∧(more=false→bs=bs0∧∀ a b,(a<i∨a=i∧b<j)→b<g.ts.length→fireB g M t bs0 a b=false) ∧
 (more=true→bs.count false+1≤bs0.count false)
end
section
variable {g:Hist'} {M:List Int} {t:Nat}
theorem FarS.fire {bs:List Bool} (h:FarS g M t bs) (ht:t<g.ts.length) {a b:Nat} (hb:b<g.ts.length) (hf:fireB g M t bs a b=true):FarS g M t (bs.set a true):=by
 refine ⟨by simp [h.1],fun x hx=>?_⟩
 unfold fireB at hf
 simp only [Bool.and_eq_true,Bool.or_eq_true,beq_iff_eq] at hf
 by_cases hxa:x=a
 ·subst hxa
  rcases hf.2.1 with rfl | h2
  ·exact war_one hf.2.2 _
  ·exact war_trans hb (h.2 b h2) (war_one hf.2.2 _)
 ·refine h.2 x ?_
  rw [List.getD_eq_getElem?_getD,List.getElem?_set_ne (fun e=>hxa e.symm)] at hx
  simpa [List.getD_eq_getElem?_getD] using hx
theorem count_fire {bs:List Bool} {a:Nat} (ha:a<bs.length) (hf:bs.getD a false=false):(bs.set a true).count false+1=bs.count false:=by
 have e:bs[a]=false:=by simpa [List.getD_eq_getElem?_getD,ha] using hf
 have h1:0<bs.count false:=List.count_pos_iff.2 (e ▸ List.getElem_mem ha)
 rw [List.count_set ha,e]
 simp
 omega
theorem FarR.next {bs0 bs:List Bool} {i j:Nat} {m:Bool} (h:FarR g M t bs0 i j bs m) (ht:t<g.ts.length) (hi:i<g.ts.length) (hj:j<g.ts.length) :
 FarR g M t bs0 i (j+1) (if fireB g M t bs i j then bs.set i true else bs) (m || fireB g M t bs i j):=by
 obtain ⟨h1,h2,h3⟩:=h
 cases hf:fireB g M t bs i j
 ·simp only [Bool.or_false,Bool.false_eq_true,if_false]
  refine ⟨h1,fun hm=>?_,h3⟩
  obtain ⟨rfl,h4⟩:=h2 hm
  refine ⟨rfl,fun a b hab hb=>?_⟩
  rcases hab with hab | ⟨rfl,hab⟩
  ·exact h4 a b (.inl hab) hb
  ·rcases Nat.lt_succ_iff_lt_or_eq.1 hab with h | h
   ·exact h4 a b (.inr ⟨rfl,h⟩) hb
   ·subst h;exact hf
 ·simp only [Bool.or_true,if_true]
  have hfa:bs.getD i false=false:=by
   unfold fireB at hf
   simp only [Bool.and_eq_true,Bool.not_eq_true'] at hf
   exact hf.1
  have hc:=count_fire (by rw [h1.1];exact hi) hfa
  refine ⟨h1.fire ht hj hf,fun hm=>(by cases hm),fun _=>?_⟩
  cases m
  ·rw [(h2 rfl).1] at hc ⊢
   omega
  ·have:=h3 rfl
   omega
theorem FarR.row {bs0 bs:List Bool} {i:Nat} {m:Bool} (h:FarR g M t bs0 i g.ts.length bs m):FarR g M t bs0 (i+1) 0 bs m:=by
 refine ⟨h.1,fun hm=>⟨(h.2.1 hm).1,fun a b hab hb=>(h.2.1 hm).2 a b ?_ hb⟩,h.2.2⟩
 rcases hab with hab | ⟨_,hab⟩
 ·rcases Nat.lt_succ_iff_lt_or_eq.1 hab with h1 | h1
  ·exact .inl h1
  ·exact .inr ⟨h1,hb⟩
 ·omega
end
end Go.Pv.T

/- Axioms: the reference's walk of past. -/
namespace Go.Pv.T
open Go Go.Pv
end Go.Pv.T

/- Axioms: the reference's walk: who is seen. -/
namespace Go.Pv.T
open Go Go.Pv
end Go.Pv.T

/- Axioms: the reference's walk: orders, what is wrong. -/
namespace Go.Pv.T
open Go Go.Pv
theorem comL_len (g:Hist'):(comL g).length≤g.ts.length:=numsTo_len isCom g.ts g.ts.length
end Go.Pv.T

/- Axioms: the reference's walk: does a level hold? -/
namespace Go.Pv.T
open Go Go.Pv
theorem read_op {g:Hist'} (hm:mayH g=true) {q:Nat} (hq:q<(readH g).length):∃ (i k:Nat) (hi:i<g.ts.length) (hk:k<(g.ts[i]).ops.length),(readH g)[q]=((i:Int),(k:Int))∧keyAt g (readH g)[q]=((g.ts[i]).ops[k]).key∧comAt g i=true:=by
 obtain ⟨i,k,t,e,ht,hc,hk,_⟩:=readAt_in (List.getElem_mem hq)
 obtain ⟨hi,rfl⟩:=List.getElem?_eq_some_iff.1 ht
 refine ⟨i,k,hi,hk,e,?_,by simpa [comAt,hi] using hc⟩
 rw [e]
 have:opAt g (i:Int) (k:Int)=some (g.ts[i]).ops[k]:=by
  unfold opAt
  simp [hm,hi,hk,List.getD_eq_getElem?_getD]
 unfold keyAt
 simp only [this]
theorem whole_may {g:Hist'} (h:wholeH g=true):mayH g=true:=by
 unfold wholeH at h
 simp only [Bool.and_eq_true] at h
 exact h.1
end Go.Pv.T

/- The judge: how it lies in memory; whether a read sees a transaction. -/
namespace Go.Pv.T
open Go Go.Pv
def Off (ub key:Nat):Prop:=∀ m,ub≤m→¬ key=2 * m+1
theorem Off.up {ub ub' key:Nat} (h:Off ub key) (hu:ub≤ub'):Off ub' key:=fun m hm=>h m (Nat.le_trans hu hm)
def Was (ub:Nat) (ob ob':Nat→Option Obj'):Prop:=∀ key,Off ub key→ob' key=ob key
theorem Was.trans {ub ub1:Nat} {ob ob1 ob2:Nat→Option Obj'} (h:Was ub ob ob1) (h':Was ub1 ob1 ob2) (hu:ub≤ub1):Was ub ob ob2:=fun key hk=>(h' key (hk.up hu)).trans (h key hk)
theorem Was.refl (ub:Nat) (ob:Nat→Option Obj'):Was ub ob ob:=fun _ _=>rfl
structure JN where
 tr:Option (Nat × Nat)
 nr:Bool
 nm:Bool
 kJ:Nat
 uJ:Nat
 kA:Nat
 uA:Nat
 kP:Nat
 uP:Nat
 rows:List (Nat × Nat)
def farL (g:Hist') (M:List Int) (b:Nat):List Bool:=(List.range g.ts.length).map (farB g M b)
def rowC (n:Nat) (r:Nat × Nat):V:=.osl r.1 r.2 0 n 1
structure Jd (g:Hist') (lvl:Int) (M O:List Int) (N:JN) (ob:Nat→Option Obj') (ub:Nat):Prop where
 j:ob N.kJ=some ⟨N.uJ,.cells [.int .i64 lvl,slOf g.sn strC g.ss,slOf g.kn strC g.ks,slOf g.tn txnC g.ts,.sl N.tr N.nr (readH g).length ((readH g).flatMap placeC),slOf N.nm intC M,.map N.kA N.uA,if lvl=2 then .osl N.kP N.uP 0 g.ts.length 1 else .sl none true 0 []]⟩
 a:∃ ver,ob N.kA=some ⟨N.uA,.mp ver (MP intV (atM O O.length))⟩
 p:lvl=2→ob N.kP=some ⟨N.uP,.cells (N.rows.map (rowC g.ts.length))⟩∧N.rows.length=g.ts.length∧(∀ b (h:b<N.rows.length),ob (N.rows[b]).1=some ⟨(N.rows[b]).2,.cells ((farL g M b).map V.bool)⟩)∧Off ub N.kP∧∀ r∈N.rows,Off ub r.1
 fj:Off ub N.kJ
 fa:Off ub N.kA
 odd:N.kJ % 2=1∧N.kA % 2=1∧(lvl=2→N.kP % 2=1∧∀ r∈N.rows,r.1 % 2=1)
theorem Jd.keep {g:Hist'} {lvl:Int} {M O:List Int} {N:JN} {ob ob':Nat→Option Obj'} {ub ub':Nat} (h:Jd g lvl M O N ob ub) (hw:Was ub ob ob') (hu:ub≤ub'):Jd g lvl M O N ob' ub':=by
 refine ⟨(hw _ h.fj).trans h.j,?_,fun h2=>?_,h.fj.up hu,h.fa.up hu,h.odd⟩
 ·obtain ⟨ver,e⟩:=h.a
  exact ⟨ver,(hw _ h.fa).trans e⟩
 ·obtain ⟨p1,p2,p3,p4,p5⟩:=h.p h2
  exact ⟨(hw _ p4).trans p1,p2,fun b hb=>(hw _ (p5 _ (List.getElem_mem hb))).trans (p3 b hb),p4.up hu,fun r hr=>(p5 r hr).up hu⟩
theorem Jd.map {g:Hist'} {lvl:Int} {M O:List Int} {N:JN} {ob:Nat→Option Obj'} {ub:Nat} (h:Jd g lvl M O N ob ub) (ho:orderB g O=true) {t:Int} (ht:t = -1∨t∈comL g):lookupV ob .int (.int .i64 0) false (.map N.kA N.uA) (.int .i64 t)=some (.int .i64 (atO O t)):=by
 obtain ⟨ver,e⟩:=h.a
 rw [lookupV_MI (atM O O.length) (by simp [objMap,e]),atM_eq ho ht]
theorem idx0 {l u n x sz:Nat} {kk:IntKind} (hx:x<n):idxSlV sz (.osl l u 0 n sz) (.int kk (x:Int))=some (.ptr l u (x * sz)):=by simp [idxSlV,hx]
set_option maxRecDepth 100000 in
theorem evo119 {g:Hist'} {lvl:Int} {M O:List Int} {N:JN} {ob:Nat→Option Obj'} {ub:Nat} (hJ:Jd g lvl M O N ob ub) (hR:(readH g).length≤1000000) (hM:M.length=(readH g).length) (ho:orderB g O=true) {q:Nat} (hq:q<(readH g).length) {t:Nat} (ht:comAt g t=true) (tk:Nat→Bool) (base:Nat) :
 EvO E 119 [.ptr N.kJ N.uJ 0,.int .i64 (q:Int),.int .i64 (t:Int)] ob tk base ub (.bool (seesG g lvl M O (readH g)[q] t)):=by
 refine EvO_wpK (af:=S119) rfl ?_
 have hj:=hJ.j
 have hf:∀ m,ub≤m→¬ N.kJ=2 * m+1:=hJ.fj
 have hlk:=hJ.map ho (.inr (comL_mem.2 ⟨t,rfl,ht⟩))
 obtain ⟨a,ea,ha⟩:=comL_mem.1 (read_com (List.getElem_mem hq))
 have hlk2:=hJ.map ho (.inr (comL_mem.2 ⟨a,rfl,ha⟩))
 have hpa:=fun ob=>place_at (readH g) ob hq
 obtain ⟨p,hp⟩:∃ p,(readH g)[q]=p:=⟨_,rfl⟩
 simp only [hp] at hpa
 rw [hp] at ea ⊢
 simp only [ea] at hpa
 have hix:=idx_sl placeC_len N.tr N.nr (readH g) .i64 hq
 simp (disch:=first | (simp;done) | omega) [S119,objCells,hj,hf,hix,hpa,splice]
 refine ⟨by omega,?_⟩
 have e8:ub+64+64+64+64+64+64+64+64=ub+512:=by omega
 by_cases e1:lvl=1
 ·obtain ⟨c,hc⟩:∃ c,seesG g lvl M O p t=c:=⟨_,rfl⟩
  rw [hc]
  have hc':rcB (readH g) M p t=c:=by rw [← hc,seesG,if_pos e1]
  unfold rcB at hc'
  simp (disch:=first | (simp;done) | omega) [e1,objCells,hj,hf,e8]
  refine wpC_gen fun st hst=>?_
  obtain ⟨u7,hu7⟩:∃ u7,u7=ub+512:=⟨_,rfl⟩
  obtain ⟨k7,hk7⟩:∃ k7,k7=2 * u7+1:=⟨_,rfl⟩
  have g0:st.tm 0 = .ptr N.kJ N.uJ 0:=by rw [hst];simp
  have g2:st.tm 2 = .int .i64 (t:Int):=by rw [hst];simp
  have g7:st.tm 7 = .ptr k7 u7 0:=by rw [hst,hk7,hu7];simp
  have g26:st.tm 26 = .sl N.tr N.nr (readH g).length ((readH g).flatMap placeC):=by rw [hst];simp
  have g27:st.tm 27 = .int .i64 (readH g).length:=by rw [hst];simp
  have g28:st.tm 28 = .int .i64 0:=by rw [hst];simp
  have p7:st.ob k7=some ⟨u7,.cells [.int .i64 (a:Int),.int .i64 p.2]⟩:=by rw [hst,hk7,hu7];simp
  have gn:u7<st.nx:=by rw [hst,hu7];simp
  have gj:Jd g lvl M O N st.ob st.nx:=hJ.keep (fun key hk=>by rw [hst];simp (disch:=first | (simp;done) | omega) [show ∀ m,ub≤m→¬ key=2 * m+1 from hk]) (by omega)
  have gd:st.df=[]:=by rw [hst];simp
  have gr:st.ro=ub:=by rw [hst];simp
  clear hst
  have hR7:ub≤u7:=by omega
  clear hu7 hpa
  refine wp_loopUp [(6,6),(8,9),(28,56)] (readH g).length (fun k x=>x.tm 28 = .int .i64 k∧(((readH g).drop k).zip (M.drop k)).any (fun y=>y.1.1 == p.1 && (decide (y.1.2<p.2) && y.2 == (t:Int)))=c∧Jd g lvl M O N x.ob x.nx∧x.ob k7=some ⟨u7,.cells [.int .i64 (a:Int),.int .i64 p.2]⟩∧u7<x.nx) rfl rfl ⟨by simpa using g28,by simpa using hc',gj,p7,gn⟩ ?_
  rintro k x hk ⟨x28,hany,xj,x7o,xn⟩ f
  have x0:x.tm 0 = .ptr N.kJ N.uJ 0:=by rw [f.t 0 (by simp)];simp [g0]
  have x2:x.tm 2 = .int .i64 (t:Int):=by rw [f.t 2 (by simp)];simp [g2]
  have x7:x.tm 7 = .ptr k7 u7 0:=by rw [f.t 7 (by simp)];simp [g7]
  have x26:x.tm 26 = .sl N.tr N.nr (readH g).length ((readH g).flatMap placeC):=by rw [f.t 26 (by simp)];simp [g26]
  have x27:x.tm 27 = .int .i64 (readH g).length:=by rw [f.t 27 (by simp)];simp [g27]
  have xd:x.df=[]:=by rw [f.d];simp [gd]
  have xr:x.ro=ub:=by rw [f.r];simp [gr]
  clear f
  have f7:∀ m,x.nx≤m→¬ k7=2 * m+1:=fun m hm=>by omega
  have fj:∀ m,x.nx≤m→¬ N.kJ=2 * m+1:=xj.fj
  have oj:=xj.j
  by_cases hkt:k<(readH g).length
  ·have hw:=wrapU hkt (by omega)
   have hkm:k<M.length:=by omega
   have h1:=int_at M hkm
   have h2:=fun ob=>place_at (readH g) ob hkt
   have hix:=idx_sl placeC_len N.tr N.nr (readH g) .i64 hkt
   have hkeep:∀ (ob':Nat→Option Obj') (nx':Nat),Was x.nx x.ob ob'→x.nx≤nx'→Jd g lvl M O N ob' nx':=fun ob' nx' h h'=>xj.keep h h'
   rw [List.drop_eq_getElem_cons hkt,List.drop_eq_getElem_cons hkm,List.zip_cons_cons,List.any_cons,ea] at hany
   have fin:∀ ob':Nat→Option Obj',(∀ key,(∀ m,x.nx≤m→¬ key=2 * m+1)→ob' key=x.ob key)→Was x.nx x.ob ob':=fun _ h=>h
   cases c1:(((readH g)[k]).1 == (a:Int))
   ·rw [c1] at hany
    simp (disch:=first | (simp;done) | omega) [x28,x27,x26,x7,hkt,hix,h2,objCells,splice,x7o,f7,c1,hw,xr]
    refine ⟨by omega,by simpa [ea] using hany,hkeep _ _ (fin _ fun key hk=>by simp (disch:=first | (simp;done) | omega) [hk]) (by omega),by omega⟩
   ·by_cases c2:((readH g)[k]).2<p.2
    ·cases c3:(M[k] == (t:Int))
     ·rw [c1,c3] at hany
      simp (disch:=first | (simp;done) | omega) [x28,x27,x26,x7,x0,x2,hkt,hix,h2,objCells,splice,x7o,f7,fj,oj,c1,c2,c3,hw,xr,idx_slOf intC_len,h1]
      refine ⟨by omega,by simpa [ea] using hany,hkeep _ _ (fin _ fun key hk=>by simp (disch:=first | (simp;done) | omega) [hk]) (by omega),by omega⟩
     ·rw [c1,c3,decide_eq_true c2] at hany
      simp (disch:=first | (simp;done) | omega) [x28,x27,x26,x7,x0,x2,hkt,hix,h2,objCells,splice,x7o,f7,fj,oj,c1,c2,c3,xr,idx_slOf intC_len,h1]
      exact ⟨by omega,endV_1 (by simp [xd]) (by simp [← hany]) rfl⟩
    ·rw [c1,decide_eq_false c2] at hany
     simp (disch:=first | (simp;done) | omega) [x28,x27,x26,x7,hkt,hix,h2,objCells,splice,x7o,f7,c1,c2,hw,xr]
     refine ⟨by omega,by simpa [ea] using hany,hkeep _ _ (fin _ fun key hk=>by simp (disch:=first | (simp;done) | omega) [hk]) (by omega),by omega⟩
  ·have:k=(readH g).length:=by omega
   subst this
   rw [List.drop_length] at hany
   simp [x28,x27]
   exact endV_1 (by simp [xd]) (by simp [← hany]) rfl
 ·have b1:(lvl == 1)=false:=by simpa using e1
  by_cases e2:lvl=2
  ·obtain ⟨p1,p2,p3,p4,p5⟩:=hJ.p e2
   have hc:seesG g lvl M O p t=farB g M a t:=by simp [seesG,e2,ea]
   rw [hc]
   have hal:=comAt_lt ha
   have htl:=comAt_lt ht
   have fP:∀ m,ub≤m→¬ N.kP=2 * m+1:=p4
   have hrow:(N.rows.map (rowC g.ts.length))[a]? = some (.osl (N.rows[a]).1 (N.rows[a]).2 0 g.ts.length 1):=by simp [show a<N.rows.length by omega,rowC]
   have fR:∀ m,ub≤m→¬ (N.rows[a]).1=2 * m+1:=p5 _ (List.getElem_mem (by omega))
   have hcell:=p3 a (by omega)
   have hbit:((farL g M a).map V.bool)[t]? = some (.bool (farB g M a t)):=by simp [farL,htl]
   have hi1:=idx0 (l:=N.kP) (u:=N.uP) (n:=g.ts.length) (sz:=1) (kk:=.i64) hal
   have hi2:=idx0 (l:=(N.rows[a]).1) (u:=(N.rows[a]).2) (n:=g.ts.length) (sz:=1) (kk:=.i64) htl
   rw [Nat.mul_one] at hi1 hi2
   simp (disch:=first | (simp;done) | omega) [e2,objCells,hj,hf,hi1,hi2,fP,p1,hrow,fR,hcell,hbit]
   exact endV_1 (by simp) (by simp) rfl
  ·have b2:(lvl == 2)=false:=by simpa using e2
   have hc:seesG g lvl M O p t=decide (atO O t<atO O a):=by simp [seesG,e1,e2,ea]
   rw [hc]
   obtain ⟨ver,hA⟩:=hJ.a
   have fA:∀ m,ub≤m→¬ N.kA=2 * m+1:=hJ.fa
   have hl:∀ (ob':Nat→Option Obj') (x:Int),ob' N.kA=ob N.kA→(x = -1∨x∈comL g)→lookupV ob' .int (.int .i64 0) false (.map N.kA N.uA) (.int .i64 x)=some (.int .i64 (atO O x)):=fun ob' x h hx=>by
    rw [lookupV_MI (atM O O.length) (by simp [objMap,h,hA]),atM_eq ho hx]
   have hxt:(t:Int) = -1∨(t:Int)∈comL g:=.inr (comL_mem.2 ⟨t,rfl,ht⟩)
   have hxa:(a:Int) = -1∨(a:Int)∈comL g:=.inr (comL_mem.2 ⟨a,rfl,ha⟩)
   simp (disch:=first | (simp;done) | omega) [b1,b2,objCells,hj,hf]
   rw [hl _ _ (by simp (disch:=first | (simp;done) | omega) [fA]) hxt]
   simp (disch:=first | (simp;done) | omega) [objCells,hj,hf]
   rw [hl _ _ (by simp (disch:=first | (simp;done) | omega) [fA]) hxa]
   simp
   exact endV_1 (by simp) (by simp) rfl
end Go.Pv.T

/- The judge: a read is from whom it should be. -/
namespace Go.Pv.T
open Go Go.Pv
theorem beq_off {a b:Nat} (h:¬ a=b):Nat.beq a b=false:=by
 cases e:Nat.beq a b
 ·rfl
 ·exact absurd (Nat.eq_of_beq_eq_true e) h
set_option maxRecDepth 100000 in
theorem evo115 {g:Hist'} (hs:Small g) {lvl:Int} {M O:List Int} {N:JN} {ob:Nat→Option Obj'} {ub:Nat} (hJ:Jd g lvl M O N ob ub) (hmay:mayH g=true) (ho:orderB g O=true) {q:Nat} (hq:q<(readH g).length) {m:Int} (hm:m = -1∨m∈comL g) {t:Nat} (ht:comAt g t=true)
 {kB uB kp up kf uf:Nat} (hB:ob kB=some ⟨uB,.cells [.ptr N.kJ N.uJ 0]⟩) (hp:ob kp=some ⟨up,.cells [.int .i64 ((readH g)[q]).1,.int .i64 ((readH g)[q]).2]⟩) (hf:ob kf=some ⟨uf,.cells [.int .i64 m]⟩) (fB:Off ub kB) (fp:Off ub kp) (ff:Off ub kf) (tk:Nat→Bool) (base:Nat) :
 EvO E 115 [.int .i64 (t:Int),.ptr kB uB 0,.ptr kp up 0,.ptr kf uf 0] ob tk base ub (.bool (okB g O (readH g)[q] m t)):=by
 refine EvO_wpK (af:=S115) rfl ?_
 have hj:=hJ.j
 obtain ⟨ver,hA⟩:=hJ.a
 have gJ:∀ m,ub≤m→¬ N.kJ=2 * m+1:=hJ.fj
 have gA:∀ m,ub≤m→¬ N.kA=2 * m+1:=hJ.fa
 have gB:∀ m,ub≤m→¬ kB=2 * m+1:=fB
 have gp:∀ m,ub≤m→¬ kp=2 * m+1:=fp
 have gf:∀ m,ub≤m→¬ kf=2 * m+1:=ff
 obtain ⟨i,k,hi,hk,e,hkey,_⟩:=read_op hmay hq
 obtain ⟨p,hpe⟩:∃ p,(readH g)[q]=p:=⟨_,rfl⟩
 rw [hpe] at hp e hkey ⊢
 rw [e] at hp
 simp only at hp
 have hl3:(g.ts.flatMap txnC)[i * 3+2]? = some (slOf (g.ts[i]).nl opC (g.ts[i]).ops):=by rw [fld_at txnC_len g.ts hi (by decide:2<3)];rfl
 have hlk:((g.ts[i]).ops.flatMap opC)[k * 4+1]? = some (.int .i64 ((g.ts[i]).ops[k]).key):=by rw [fld_at opC_len (g.ts[i]).ops hk (by decide:1<4)];rfl
 have el:=ev116 hs (t:Int) ((g.ts[i]).ops[k]).key
 have ez:(lastW (opsAt g (t:Int)).2 ((g.ts[i]).ops[k]).key).2=leavesB g t (keyAt g p):=by rw [hkey];rfl
 rw [ez] at el
 have hok:okB g O p m t=((t:Int) == m || (!leavesB g t (keyAt g p) || decide (atO O t<atO O m))):=rfl
 rw [hok]
 have hl:∀ (ob':Nat→Option Obj') (x:Int),ob' N.kA=ob N.kA→(x = -1∨x∈comL g)→lookupV ob' .int (.int .i64 0) false (.map N.kA N.uA) (.int .i64 x)=some (.int .i64 (atO O x)):=fun ob' x h hx=>by
  rw [lookupV_MI (atM O O.length) (by simp [objMap,h,hA]),atM_eq ho hx]
 have hxt:(t:Int) = -1∨(t:Int)∈comL g:=.inr (comL_mem.2 ⟨t,rfl,ht⟩)
 simp (disch:=first | (simp;done) | omega) [S115,objCells,hB,hj,hp,idx_slOf txnC_len,idx_slOf opC_len,hl3,hlk]
 refine kD_ev el (by simp [histC]) rfl (by simp [histC]) ?_
 rw [retA_tupl (by simp [V.plain,valC])]
 generalize (lastW (opsAt g (t:Int)).2 ((g.ts[i]).ops[k]).key).1=rv at *
 generalize leavesB g t (keyAt g p)=rb at *
 simp (disch:=first | (simp;done) | omega) [valC,splice,objCells]
 refine ⟨by omega,?_,?_⟩
 ·have bB:∀ m,ub≤m→Nat.beq kB (2 * m+1)=false:=fun m h=>beq_off (gB m h)
  have bJ:∀ m,ub≤m→Nat.beq N.kJ (2 * m+1)=false:=fun m h=>beq_off (gJ m h)
  have bp:∀ m,ub≤m→Nat.beq kp (2 * m+1)=false:=fun m h=>beq_off (gp m h)
  simp (disch:=first | (simp;done) | omega) [drawOk,indep,disj,fpOf,rdOb,rdTk,lOf,Delta.wo,Delta.wt,bB,bJ,bp]
 cases h1:((t:Int) == m)
 ·cases rb
  ·simp (disch:=first | (simp;done) | omega) [gf,hf,h1]
   exact endV_1 (by simp) (by simp) rfl
  ·simp (disch:=first | (simp;done) | omega) [objCells,gf,hf,h1,gB,hB,gJ,hj]
   rw [hl _ _ (by simp (disch:=first | (simp;done) | omega) [gA]) hxt]
   simp (disch:=first | (simp;done) | omega) [objCells,gf,hf,gB,hB,gJ,hj]
   rw [hl _ _ (by simp (disch:=first | (simp;done) | omega) [gA]) hm]
   simp
   exact endV_1 (by simp) (by simp) rfl
 ·simp (disch:=first | (simp;done) | omega) [gf,hf,h1]
  exact endV_1 (by simp) (by simp) rfl
end Go.Pv.T

/- The judge: going through those that are seen; a read. -/
namespace Go.Pv.T
open Go Go.Pv
set_option maxRecDepth 100000 in
theorem sv72 {Yf:YF} {g:Hist'} (hs:Small g) (hw:wholeH g=true) {lvl:Int} {M O:List Int} {N:JN} {ob:Nat→Option Obj'} {ub:Nat} (hJ:Jd g lvl M O N ob ub) (hM:M.length=(readH g).length) (ho:orderB g O=true) {q:Nat} (hq:q<(readH g).length)
 {f:FuncId} {caps:List V} (hsh:E.sh true f=false) (hcp:(caps.all fun v=>v.strip.pureTop)=false) (pr:Nat→Bool) (hev:∀ t,comAt g t=true→∀ ob' ub' tk base,Was ub ob ob'→ub≤ub'→EvO E f (.int .i64 (t:Int)::caps) ob' tk base ub' (.bool (pr t))) {tk:Nat→Bool} {ro base:Nat} (hro:ro≤ub) :
 ∃ r,EvS E Yf.y 72 [.ptr N.kJ N.uJ 0,.int .i64 (q:Int),.fn (.func f) [] caps] ob tk ro base ub r∧(r.1 = .bool ((comL g).all fun t=>!seesG g lvl M O (readH g)[q] t || pr t.toNat)∧Was ub ob r.2.1∧ub≤r.2.2.2):=by
 have hR:=readH_len hs
 obtain ⟨vc,evc,hvc⟩:=ev71 hs
 rw [comH_comL hw] at hvc
 have hj:=hJ.j
 have hcl:=comL_len g
 have hts:=hs.ts
 refine EvS_wp (af:=S72) rfl (by decide) ?_
 show wpC E Yf S72.body _ (kEndS S72.res _)
 obtain ⟨F,hF⟩:∃ F:Int→Bool,(fun t=>!seesG g lvl M O (readH g)[q] t || pr t.toNat)=F:=⟨_,rfl⟩
 have hFt:∀ t:Nat,F t=(!seesG g lvl M O (readH g)[q] t || pr t):=fun t=>by rw [← hF];simp
 rw [hF]
 simp [S72,objCells,hj]
 refine kS_ev evc (by simp [histC]) rfl (by simp [histC]) ?_
 refine retSl hvc fun tc addc=>?_
 simp
 refine wp_loopUp [(6,6),(8,8),(15,29)] (comL g).length (fun i s=>s.tm 15 = .int .i64 i∧(∀ k,k<i→F ((comL g).getD k 0)=true)∧Was ub ob s.ob∧ub≤s.nx) rfl rfl ⟨by simp,fun k hk=>by omega,fun key hk=>by simp,by simp;omega⟩ ?_
 rintro i s hi ⟨s15,hall,hW,hn⟩ fr
 have s0:s.tm 0 = .ptr N.kJ N.uJ 0:=by rw [fr.t 0 (by simp)];simp
 have s1:s.tm 1 = .int .i64 (q:Int):=by rw [fr.t 1 (by simp)];simp
 have s2:s.tm 2 = .fn (.func f) [] caps:=by rw [fr.t 2 (by simp)];simp
 have s13:s.tm 13 = .sl tc (comL g).isEmpty (comL g).length ((comL g).flatMap intC):=by rw [fr.t 13 (by simp)];simp
 have s14:s.tm 14 = .int .i64 (comL g).length:=by rw [fr.t 14 (by simp)];simp
 have sd:s.df=[]:=by rw [fr.d];simp
 clear fr
 by_cases hlt:i<(comL g).length
 ·have hwk:=wrapU hlt (by omega)
  have ix:idxSlV 1 (.sl tc (comL g).isEmpty (comL g).length ((comL g).flatMap intC)) (.int .i64 (i:Int))=some (.eptr ((comL g).flatMap intC) i):=by have:=idx_sl intC_len tc (comL g).isEmpty (comL g) .i64 hlt;rwa [Nat.mul_one] at this
  have h1:=int_at (comL g) hlt
  obtain ⟨t,et,ht⟩:=comL_mem.1 (List.getElem_mem hlt)
  rw [et] at h1
  have hFi:F ((comL g).getD i 0)=(!seesG g lvl M O (readH g)[q] t || pr t):=by rw [getD_lt hlt,et,hFt]
  have next:F ((comL g).getD i 0)=true→∀ k,k<i+1→F ((comL g).getD k 0)=true:=fun h k hk=>by
   rcases Nat.lt_succ_iff_lt_or_eq.1 hk with h' | h'
   ·exact hall k h'
   ·subst h';exact h
  simp [s15,s14,s13,hlt,ix,h1]
  have hJs:=hJ.keep hW hn
  refine kS_callO (vs:=[.ptr N.kJ N.uJ 0,.int .i64 (q:Int),.int .i64 (t:Int)]) (by simp [s0,s1]) rfl rfl (by simpa using evo119 (hJs.keep (Was.refl _ _) (by omega)) hR hM ho hq ht _ _) ?_
  simp
  cases c1:seesG g lvl M O (readH g)[q] t
  ·rw [c1] at hFi
   simp [s15,hwk,hlt]
   exact ⟨next (by rw [hFi];rfl),fun key hk=>by simpa using hW key hk,by omega⟩
  ·rw [c1] at hFi
   simp only [Bool.not_true,Bool.false_or] at hFi
   simp [s2]
   refine kS_callVO (f:=f) (first:=[]) (captured:=caps) (by simp) hsh (by simpa using hcp) (v:=.bool (pr t)) (by simpa using hev t ht s.ob _ s.tk _ hW (by omega)) ?_
   cases c2:pr t
   ·rw [c2] at hFi
    simp
    refine endS_1 (by simp [sd]) ⟨?_,fun key hk=>by simpa using hW key hk,by simp;omega⟩
    have:(comL g).all F=false:=by
     cases h:(comL g).all F
     ·rfl
     ·have:=List.all_eq_true.1 h _ (List.getElem_mem hlt)
      rw [← getD_lt hlt (d:=0),hFi] at this
      cases this
    simp [this]
   ·rw [c2] at hFi
    simp [s15,hwk,hlt]
    exact ⟨next hFi,fun key hk=>by simpa using hW key hk,by omega⟩
 ·have:i=(comL g).length:=by omega
  subst this
  have hall2:(comL g).all F=true:=by
   rw [List.all_eq_true]
   intro z hz
   obtain ⟨k,hk,e⟩:=List.getElem_of_mem hz
   have:=hall k hk
   rwa [getD_lt hk,e] at this
  simp [s15,s14]
  exact endS_1 (by simp [sd]) ⟨by simp [hall2],fun key hk=>by simpa using hW key hk,by simp;omega⟩
end Go.Pv.T

/- The judge: a read is right. -/
namespace Go.Pv.T
open Go Go.Pv
theorem two_inj {a b:Nat}:(2 * a=2 * b)=(a=b):=propext ⟨fun h=>by omega,fun h=>by rw [h]⟩
theorem ptr_leaf {l u o:Nat}:(V.ptr l u o).leaf=true:=rfl
set_option maxRecDepth 100000 in
theorem evo67 {g:Hist'} (hs:Small g) (hmay:mayH g=true) {lvl:Int} {M O:List Int} {N:JN} {ob:Nat→Option Obj'} {ub:Nat} (hJ:Jd g lvl M O N ob ub) (hm:mapR g M=true) (ho:orderB g O=true) {q:Nat} (hq:q<(readH g).length) (tk:Nat→Bool) (base:Nat) :
 EvO E 67 [.ptr N.kJ N.uJ 0,.int .i64 (q:Int)] ob tk base ub (.bool (rightG g lvl M O q)):=by
 have hR:=readH_len hs
 have hM:=map_len hm
 have hqM:q<M.length:=by omega
 refine EvO_wpK (af:=S67) rfl ?_
 have hj:=hJ.j
 have gJ:∀ m,ub≤m→¬ N.kJ=2 * m+1:=hJ.fj
 obtain ⟨ver,hA⟩:=hJ.a
 have gA:∀ m,ub≤m→¬ N.kA=2 * m+1:=hJ.fa
 have hix:=idx_sl placeC_len N.tr N.nr (readH g) .i64 hq
 have hpa:=fun ob=>place_at (readH g) ob hq
 have hmi:=int_at M hqM
 have hl:∀ (ob':Nat→Option Obj') (x:Int),ob' N.kA=ob N.kA→(x = -1∨x∈comL g)→lookupV ob' .int (.int .i64 0) false (.map N.kA N.uA) (.int .i64 x)=some (.int .i64 (atO O x)):=fun ob' x h hx=>by
  rw [lookupV_MI (atM O O.length) (by simp [objMap,h,hA]),atM_eq ho hx]
 have hx1:M[q] = -1∨M[q]∈comL g:=map_mem hm (List.getElem_mem hqM)
 have hx2:((readH g)[q]).1 = -1∨((readH g)[q]).1∈comL g:=.inr (read_com (List.getElem_mem hq))
 have hr:rightG g lvl M O q=(decide (atO O M[q]<atO O ((readH g)[q]).1) && (comL g).all fun t=>!seesG g lvl M O (readH g)[q] t || okB g O (readH g)[q] M[q] t):=by
  unfold rightG
  rw [List.getElem?_eq_getElem hq,List.getElem?_eq_getElem hqM]
 rw [hr]
 have bJ:∀ m,ub≤m→Nat.beq N.kJ (2 * m+1)=false:=fun m h=>beq_off (gJ m h)
 simp (disch:=first | (simp;done) | omega) [S67,objCells,hj,gJ,hix,hpa,idx_slOf intC_len,hmi,splice,drawOk,indep,disj,fpOf,rdOb,rdTk,lOf,Delta.wo,Delta.wt,bJ,V.cells,Nat.add_assoc,two_inj,ptr_leaf]
 refine ⟨⟨beq_off (by omega),beq_off (by omega),beq_off (by omega),beq_off (by omega)⟩,?_⟩
 rw [hl _ _ (by simp (disch:=first | (simp;done) | omega) [gA]) hx1]
 simp (disch:=first | (simp;done) | omega) [objCells,hj,gJ,Nat.add_assoc,two_inj]
 rw [hl _ _ (by simp (disch:=first | (simp;done) | omega) [gA]) hx2]
 simp
 by_cases hc:atO O M[q]<atO O ((readH g)[q]).1
 ·have h1:¬ atO O ((readH g)[q]).1≤atO O M[q]:=by omega
  simp (disch:=first | (simp;done) | omega) [h1,hc,Nat.add_assoc,objCells,two_inj]
  obtain ⟨pr,hpr⟩:∃ pr:Nat→Bool,pr=fun t:Nat=>okB g O (readH g)[q] M[q] t:=⟨_,rfl⟩
  have hJn:∀ (ob':Nat→Option Obj') (ub':Nat),Was ub ob ob'→ub≤ub'→Jd g lvl M O N ob' ub':=fun _ _ h h'=>hJ.keep h h'
  refine kS_callP (vs:=[.ptr N.kJ N.uJ 0,.int .i64 (q:Int),.fn (.func 115) [] [.ptr (2 * ub+1) ub 0,.ptr (2 * (ub+1024)+1) (ub+1024) 0,.ptr (2 * (ub+1088)+1) (ub+1088) 0]]) (by simp) rfl (sv72 hs (map_whole hm) (hJn _ _ (fun key hk=>by simp (disch:=first | (simp;done) | omega) [show ∀ m,ub≤m→¬ key=2 * m+1 from hk]) (by omega)) hM ho hq rfl rfl pr ?_ (by simp)) ?_
  ·intro t ht ob' ub' tk' base' hW hu
   rw [hpr]
   refine evo115 hs (hJn _ _ ?_ (by omega)) hmay ho hq hx1 ht ((hW _ ?_).trans ?_) ((hW _ ?_).trans ?_) ((hW _ ?_).trans ?_) (fun m hm=>by omega) (fun m hm=>by omega) (fun m hm=>by omega) _ _
   ·exact fun key hk=>(hW key (hk.up (by omega))).trans (by simp (disch:=first | (simp;done) | omega) [show ∀ m,ub≤m→¬ key=2 * m+1 from hk])
   all_goals first | exact fun m hm=>by omega | skip
   all_goals simp (disch:=first | (simp;done) | omega) [two_inj]
  ·rintro v ob1 tk1 ub1 ⟨e1,e2,e3⟩
   simp only at e1 e2 e3
   subst e1
   have e:(comL g).all (fun t=>!seesG g lvl M O (readH g)[q] t || pr t.toNat)=(comL g).all fun t=>!seesG g lvl M O (readH g)[q] t || okB g O (readH g)[q] M[q] t:=by
    rw [Bool.eq_iff_iff,List.all_eq_true,List.all_eq_true]
    refine forall_congr' fun t=>forall_congr' fun ht=>?_
    obtain ⟨n,rfl,_⟩:=comL_mem.1 ht
    rw [hpr];rfl
   rw [e]
   simp
   exact endV_1 (by simp) (by simp) rfl
 ·have h1:atO O ((readH g)[q]).1≤atO O M[q]:=by omega
  simp [h1,hc]
  exact endV_1 (by simp) (by simp) rfl
end Go.Pv.T

/- The judge: the sessions. -/
namespace Go.Pv.T
open Go Go.Pv
theorem andF (f:Nat→Bool) {n k:Nat} (h:k<n) (hf:f k=false):andTo f n=false:=by
 induction n with
 | zero=>omega
 | succ n ih =>
  rw [andTo]
  rcases Nat.lt_succ_iff_lt_or_eq.1 h with h1 | h1
  ·rw [ih h1,Bool.false_and]
  ·rw [← h1,hf,Bool.and_false]
set_option maxRecDepth 100000 in
theorem evo66 {g:Hist'} (hs:Small g) {lvl:Int} {M O:List Int} {N:JN} {ob:Nat→Option Obj'} {ub:Nat} (hJ:Jd g lvl M O N ob ub) (hw:wholeH g=true) (ho:orderB g O=true) (tk:Nat→Bool) (base:Nat) :
 EvO E 66 [.ptr N.kJ N.uJ 0] ob tk base ub (.bool (andTo (sesG g O) (comL g).length)):=by
 refine EvO_wpK (af:=S66) rfl ?_
 have hj:=hJ.j
 have gJ:∀ m,ub≤m→¬ N.kJ=2 * m+1:=hJ.fj
 obtain ⟨vc,evc,hvc⟩:=ev71 hs
 rw [comH_comL hw] at hvc
 have hcl:=comL_len g
 have hts:=hs.ts
 simp (disch:=first | (simp;done) | omega) [S66,objCells,hj,gJ]
 refine kS_ev evc (by simp [histC]) rfl (by simp [histC]) ?_
 refine retSl hvc fun tc addc=>?_
 simp
 refine wpC_gen fun st hst=>?_
 obtain ⟨u3,hu3⟩:∃ u3,u3=ub+64:=⟨_,rfl⟩
 obtain ⟨k3,hk3⟩:∃ k3,k3=2 * u3+1:=⟨_,rfl⟩
 have g0:st.tm 0 = .ptr N.kJ N.uJ 0:=by rw [hst];simp
 have g3:st.tm 3 = .map k3 u3:=by rw [hst,hk3,hu3];simp
 have g14:st.tm 14 = .sl tc (comL g).isEmpty (comL g).length ((comL g).flatMap intC):=by rw [hst];simp
 have g15:st.tm 15 = .int .i64 (comL g).length:=by rw [hst];simp
 have g16:st.tm 16 = .int .i64 0:=by rw [hst];simp
 have gd:st.df=[]:=by rw [hst];simp
 have gr:st.ro=ub:=by rw [hst];simp
 have go:∃ ver,st.ob k3=some ⟨u3,.mp ver (MP intV (sesM g O 0))⟩:=⟨0,by rw [hst,hk3,hu3];simp (disch:=first | (simp;done) | omega) [MP,sesM]⟩
 have gn:u3<st.nx:=by rw [hst,hu3];simp
 have gj:Was ub ob st.ob:=fun key hk=>by rw [hst];simp (disch:=first | (simp;done) | omega) [show ∀ m,ub≤m→¬ key=2 * m+1 from hk]
 clear hst
 have hu3':ub≤u3:=by omega
 clear hu3
 refine wp_loopUp [(2,2),(5,8),(16,64)] (comL g).length (fun k x=>x.tm 16 = .int .i64 k∧andTo (sesG g O) k=true∧Was ub ob x.ob∧(∃ ver,x.ob k3=some ⟨u3,.mp ver (MP intV (sesM g O k))⟩)∧u3<x.nx) rfl rfl ⟨by simpa using g16,rfl,gj,go,gn⟩ ?_
 rintro k x hk ⟨x16,hall,xw,⟨ver,xo⟩,xn⟩ f
 have xj:Jd g lvl M O N x.ob x.nx:=hJ.keep xw (by omega)
 have x0:x.tm 0 = .ptr N.kJ N.uJ 0:=by rw [f.t 0 (by simp)];simp [g0]
 have x3:x.tm 3 = .map k3 u3:=by rw [f.t 3 (by simp)];simp [g3]
 have x14:x.tm 14 = .sl tc (comL g).isEmpty (comL g).length ((comL g).flatMap intC):=by rw [f.t 14 (by simp)];simp [g14]
 have x15:x.tm 15 = .int .i64 (comL g).length:=by rw [f.t 15 (by simp)];simp [g15]
 have xd:x.df=[]:=by rw [f.d];simp [gd]
 have xr:x.ro=ub:=by rw [f.r];simp [gr]
 clear f
 have f3:∀ m,x.nx≤m→¬ k3=2 * m+1:=fun m hm=>by omega
 have fj:∀ m,x.nx≤m→¬ N.kJ=2 * m+1:=xj.fj
 have oj:=xj.j
 by_cases hlt:k<(comL g).length
 ·have hwk:=wrapU hlt (by omega)
  have ix:idxSlV 1 (.sl tc (comL g).isEmpty (comL g).length ((comL g).flatMap intC)) (.int .i64 (k:Int))=some (.eptr ((comL g).flatMap intC) k):=by have:=idx_sl intC_len tc (comL g).isEmpty (comL g) .i64 hlt;rwa [Nat.mul_one] at this
  have h1:=int_at (comL g) hlt
  obtain ⟨t,et,ht⟩:=comL_mem.1 (List.getElem_mem hlt)
  rw [et] at h1
  have hgd:(comL g).getD k 0=(t:Int):=by rw [getD_lt hlt,et]
  have htl:=comAt_lt ht
  have hsl:(g.ts.flatMap txnC)[t * 3]? = some (.int .i64 (sesAt g t)):=by
   have:=fld_at txnC_len g.ts htl (by decide:0<3)
   rw [Nat.add_zero] at this
   rw [this]
   simp [txnC,sesAt,htl]
  have hlk:=lookupV_MP (f:=intV) (ob:=x.ob) (l:=k3) (u:=u3) (z:=.int .i64 0) (ok:=true) (k:=sesAt g t) (sesM g O k) (by simp [objMap,xo])
  obtain ⟨va,hA⟩:=xj.a
  have hat:=xj.map ho (.inr (comL_mem.2 ⟨t,rfl,ht⟩))
  obtain ⟨vb,evb,hvb⟩:=ev114 hs (t:Int)
  have hsg:sesG g O k=(!((mfind (sesM g O k) (sesAt g t)).any fun x=>decide (atO O (t:Int)<x.2)) && (badH g (t:Int)).isEmpty):=by
   unfold sesG
   rw [hgd];rfl
  have hnext:sesM g O (k+1)=mset (sesM g O k) (sesAt g t) (atO O (t:Int)):=by
   rw [sesM,hgd];rfl
  cases hmf:mfind (sesM g O k) (sesAt g t) with
  | none =>
   rw [hmf] at hlk hsg
   simp only [if_true] at hlk
   simp (disch:=first | (simp;done) | omega) [x16,x15,x14,hlt,ix,h1,x0,objCells,oj,idx_slOf txnC_len,hsl,x3,hlk]
   refine kS_ev evb (by simp [histC]) rfl (by simp [histC]) ?_
   refine retSl hvb fun tb addb=>?_
   simp
   by_cases hb:badH g (t:Int)=[]
   ·rw [hb] at hsg ⊢
    simp (disch:=first | (simp;done) | omega) [x3,x0,hat,objCells,oj]
    refine kS_mapSet (f:=intV) (a:=atO O (t:Int)) (ver:=ver) (l:=k3) (u:=u3) (k:=sesAt g t) (sesM g O k) (by simp) (by simp) (by simp [intV]) (by simp [xo]) (by simp [xr];omega) ?_
    simp (disch:=first | (simp;done) | omega) [x16,hlt,hwk,andTo,hall,hsg,hnext]
    exact ⟨fun key hk=>(by simp (disch:=first | (simp;done) | omega) [show ∀ m,ub≤m→¬ key=2 * m+1 from hk,hk3,xw key hk]),by omega⟩
   ·have h0:0<(badH g (t:Int)).length:=List.length_pos_iff.2 hb
    have hb':(badH g (t:Int)).isEmpty=false:=by simpa using hb
    rw [hb',Bool.and_false] at hsg
    simp [h0]
    exact endV_1 (by simp [xd]) (by simp [andF (sesG g O) hlt hsg]) rfl
  | some p =>
   rw [hmf] at hlk hsg
   simp only [if_true,intV] at hlk
   by_cases hp:atO O (t:Int)<p.2
   ·have hsg':sesG g O k=false:=by rw [hsg];simp [hp]
    simp (disch:=first | (simp;done) | omega) [x16,x15,x14,hlt,ix,h1,x0,objCells,oj,idx_slOf txnC_len,hsl,x3,hlk,hat,hp]
    exact endV_1 (by simp [xd]) (by simp [andF (sesG g O) hlt hsg']) rfl
   ·have hp':decide (atO O (t:Int)<p.2)=false:=by simpa using hp
    rw [Option.any_some] at hsg
    simp only [hp'] at hsg
    simp (disch:=first | (simp;done) | omega) [x16,x15,x14,hlt,ix,h1,x0,objCells,oj,idx_slOf txnC_len,hsl,x3,hlk,hat,hp]
    refine kS_ev evb (by simp [histC]) rfl (by simp [histC]) ?_
    refine retSl hvb fun tb addb=>?_
    simp
    by_cases hb:badH g (t:Int)=[]
    ·rw [hb] at hsg ⊢
     simp (disch:=first | (simp;done) | omega) [x3,x0,hat,objCells,oj]
     refine kS_mapSet (f:=intV) (a:=atO O (t:Int)) (ver:=ver) (l:=k3) (u:=u3) (k:=sesAt g t) (sesM g O k) (by simp) (by simp) (by simp [intV]) (by simp [xo]) (by simp [xr];omega) ?_
     simp (disch:=first | (simp;done) | omega) [x16,hlt,hwk,andTo,hall,hsg,hnext]
     exact ⟨fun key hk=>(by simp (disch:=first | (simp;done) | omega) [show ∀ m,ub≤m→¬ key=2 * m+1 from hk,hk3,xw key hk]),by omega⟩
    ·have h0:0<(badH g (t:Int)).length:=List.length_pos_iff.2 hb
     have hb':(badH g (t:Int)).isEmpty=false:=by simpa using hb
     rw [hb',Bool.and_false] at hsg
     simp [h0]
     exact endV_1 (by simp [xd]) (by simp [andF (sesG g O) hlt hsg]) rfl
 ·have:k=(comL g).length:=by omega
  subst this
  simp [x16,x15]
  exact endV_1 (by simp [xd]) (by simp [hall]) rfl
end Go.Pv.T

/- The judge: a table of rows, in memory; what goes before, loop by loop. -/
namespace Go.Pv.T
open Go Go.Pv
structure Mtx (ob:Nat→Option Obj') (lo hi kP uP n:Nat) (rows:List (Nat × Nat)) (f:Nat→Nat→Bool):Prop where
 p:ob kP=some ⟨uP,.cells (rows.map (rowC n)++List.replicate (n - rows.length) (.sl none true 0 []))⟩
 c:∀ b (h:b<rows.length),ob (rows[b]).1=some ⟨(rows[b]).2,.cells ((List.range n).map fun t=>V.bool (f b t))⟩
 k:kP=2 * uP+1∧lo≤uP∧uP<hi
 r:∀ b (h:b<rows.length),(rows[b]).1=2 * (rows[b]).2+1∧uP<(rows[b]).2∧(rows[b]).2<hi
 d:∀ b b' (h:b<rows.length) (h':b'<rows.length),(rows[b]).2=(rows[b']).2→b=b'
theorem Mtx.hi {ob:Nat→Option Obj'} {lo hi kP uP n:Nat} {rows:List (Nat × Nat)} {f:Nat→Nat→Bool} (h:Mtx ob lo hi kP uP n rows f) {ob':Nat→Option Obj'} {hi':Nat} (hu:hi≤hi') (hP:ob' kP=ob kP) (hr:∀ b (hb:b<rows.length),ob' (rows[b]).1=ob (rows[b]).1):Mtx ob' lo hi' kP uP n rows f :=
 ⟨hP.trans h.p,fun b hb=>(hr b hb).trans (h.c b hb),⟨h.k.1,h.k.2.1,by have:=h.k.2.2;omega⟩,fun b hb=>⟨(h.r b hb).1,(h.r b hb).2.1,by have:=(h.r b hb).2.2;omega⟩,h.d⟩
theorem Mtx.offP {ob:Nat→Option Obj'} {lo hi kP uP n:Nat} {rows:List (Nat × Nat)} {f:Nat→Nat→Bool} (h:Mtx ob lo hi kP uP n rows f):Off hi kP:=fun m hm=>by
 have:=h.k
 omega
theorem Mtx.offR {ob:Nat→Option Obj'} {lo hi kP uP n:Nat} {rows:List (Nat × Nat)} {f:Nat→Nat→Bool} (h:Mtx ob lo hi kP uP n rows f) {b:Nat} (hb:b<rows.length):Off hi (rows[b]).1:=fun m hm=>by
 have:=h.r b hb
 omega
theorem Mtx.keep {ob:Nat→Option Obj'} {lo hi kP uP n:Nat} {rows:List (Nat × Nat)} {f:Nat→Nat→Bool} (h:Mtx ob lo hi kP uP n rows f) {ob':Nat→Option Obj'} {hi':Nat} (hu:hi≤hi') (hW:Was hi ob ob'):Mtx ob' lo hi' kP uP n rows f :=
 h.hi hu (hW _ h.offP) fun _ hb=>hW _ (h.offR hb)
theorem Mtx.congr {ob:Nat→Option Obj'} {lo hi kP uP n:Nat} {rows:List (Nat × Nat)} {f f':Nat→Nat→Bool} (h:Mtx ob lo hi kP uP n rows f) (e:∀ b a,b<rows.length→a<n→f b a=f' b a):Mtx ob lo hi kP uP n rows f' :=
 ⟨h.p,fun b hb=>by
  rw [h.c b hb]
  congr 3
  refine List.map_congr_left fun a ha=>?_
  rw [e b a hb (List.mem_range.1 ha)],h.k,h.r,h.d⟩
theorem splice_rng (n t:Nat) (F:Nat→V) (x:V) (h:t<n):splice ((List.range n).map F) t [x]=(List.range n).map fun a=>if a=t then x else F a:=by
 unfold splice
 refine List.ext_getElem (by simp;omega) fun i h1 h2=>?_
 simp only [List.length_cons,List.length_nil,List.getElem_append,List.getElem_map,List.getElem_range,List.length_append,List.length_take,List.length_map,List.length_range,List.getElem_take,List.getElem_drop]
 rcases Nat.lt_trichotomy i t with hi | hi | hi
 ·rw [dif_pos (by omega),dif_pos (by omega),if_neg (by omega)]
 ·subst hi
  rw [dif_pos (by omega),dif_neg (by omega),if_pos rfl]
  simp
 ·rw [dif_neg (by omega),if_neg (by omega)]
  congr 1
  omega
theorem Mtx.set {ob:Nat→Option Obj'} {lo hi kP uP n:Nat} {rows:List (Nat × Nat)} {f:Nat→Nat→Bool} (h:Mtx ob lo hi kP uP n rows f) {b t:Nat} {x:Bool} (hb:b<rows.length) (ht:t<n) {ob':Nat→Option Obj'} {hi':Nat} (hu:hi≤hi')
 (h1:ob' (rows[b]).1=some ⟨(rows[b]).2,.cells (splice ((List.range n).map fun t=>V.bool (f b t)) t [.bool x])⟩) (h2:∀ key,Off hi key→key≠(rows[b]).1→ob' key=ob key):Mtx ob' lo hi' kP uP n rows fun b' a=>if b'=b∧a=t then x else f b' a:=by
 have hk:=h.k
 have hrb:=h.r b hb
 refine ⟨(h2 _ h.offP (by omega)).trans h.p,fun b' hb'=>?_,⟨hk.1,hk.2.1,by omega⟩,fun b' hb'=>⟨(h.r b' hb').1,(h.r b' hb').2.1,by have:=(h.r b' hb').2.2;omega⟩,h.d⟩
 by_cases e:b'=b
 ·subst e
  rw [h1,splice_rng n t _ _ ht]
  congr 3
  refine List.map_congr_left fun a _=>?_
  by_cases e2:a=t <;> simp [e2]
 ·have hne:(rows[b']).1≠(rows[b]).1:=fun e'=>e (h.d b' b hb' hb (by have:=h.r b' hb';omega))
  rw [h2 _ (h.offR hb') hne,h.c b' hb']
  simp [e]
theorem Mtx.row {ob:Nat→Option Obj'} {lo hi kP uP n:Nat} {rows:List (Nat × Nat)} (h:Mtx ob lo hi kP uP n rows fun _ _=>false) (hn:rows.length<n) {ob':Nat→Option Obj'} {u hi':Nat} (h0:hi≤u) (hu:u<hi')
 (hP:ob' kP=some ⟨uP,.cells (splice (rows.map (rowC n)++List.replicate (n - rows.length) (.sl none true 0 [])) rows.length [rowC n (2 * u+1,u)])⟩) (h1:ob' (2 * u+1)=some ⟨u,.cells (repl n [.bool false])⟩) (h2:∀ key,Off hi key→key≠kP→ob' key=ob key) :
 Mtx ob' lo hi' kP uP n (rows++[(2 * u+1,u)]) fun _ _=>false:=by
 have hk:=h.k
 refine ⟨?_,fun b hb=>?_,⟨hk.1,hk.2.1,by omega⟩,fun b hb=>?_,fun b b' hb hb' e=>?_⟩
 ·rw [hP]
  congr 3
  unfold splice
  rw [List.take_left' (by simp),List.drop_append,show n - rows.length=n - (rows++[(2 * u+1,u)]).length+1 by simp;omega,List.replicate_succ]
  simp
 ·rcases Nat.lt_or_ge b rows.length with hlt | hge
  ·rw [List.getElem_append_left hlt]
   have:=h.r b hlt
   rw [h2 _ (h.offR hlt) (by omega),h.c b hlt]
  ·have:b=rows.length:=by simp at hb;omega
   subst this
   rw [List.getElem_concat_length rfl]
   simp only
   rw [h1,repl_false]
   congr 3
   refine List.ext_getElem (by simp) fun i _ _=>by simp
 ·rcases Nat.lt_or_ge b rows.length with hlt | hge
  ·rw [List.getElem_append_left hlt]
   have:=h.r b hlt
   omega
  ·have:b=rows.length:=by simp at hb;omega
   subst this
   rw [List.getElem_concat_length rfl]
   simp only
   exact ⟨trivial,by omega,hu⟩
 ·rcases Nat.lt_or_ge b rows.length with hlt | hge
  ·rcases Nat.lt_or_ge b' rows.length with hlt' | hge'
   ·rw [List.getElem_append_left hlt,List.getElem_append_left hlt'] at e
    exact h.d b b' hlt hlt' e
   ·have:b'=rows.length:=by simp at hb';omega
    subst this
    rw [List.getElem_append_left hlt,List.getElem_concat_length rfl] at e
    have:=h.r b hlt
    simp only at e
    omega
  ·have hbe:b=rows.length:=by simp at hb;omega
   subst hbe
   rcases Nat.lt_or_ge b' rows.length with hlt' | hge'
   ·rw [List.getElem_append_left hlt',List.getElem_concat_length rfl] at e
    have:=h.r b' hlt'
    simp only at e
    omega
   ·simp at hb';omega
/-! What goes before,by loops. -/
def sB (g:Hist') (a b:Nat):Bool:=comAt g a && (comAt g b && (decide (a<b) && sesAt g a == sesAt g b))
def fromTo (g:Hist') (M:List Int) (i a b:Nat):Bool:=(((readH g).zip M).take i).any fun x=>x.2 == (a:Int) && x.1.1 == (b:Int)
theorem stepB_loops {g:Hist'} {M:List Int} (hm:mapR g M=true) (a b:Nat):(sB g a b || fromTo g M (readH g).length a b)=stepB g M a b:=by
 have e:fromTo g M (readH g).length a b=fromB (readH g) M a b:=by
  unfold fromTo fromB
  rw [List.take_of_length_le (by simp;omega)]
 rw [e]
 unfold sB stepB
 cases hf:fromB (readH g) M a b
 ·cases comAt g a <;> cases comAt g b <;> simp
 ·unfold fromB at hf
  obtain ⟨x,hx,h1⟩:=List.any_eq_true.1 hf
  simp only [Bool.and_eq_true,beq_iff_eq] at h1
  have hm2:=map_mem hm (List.of_mem_zip hx).2
  have hr:=read_com (List.of_mem_zip hx).1
  have ha:comAt g a=true:=by
   rcases hm2 with h | h
   ·omega
   ·obtain ⟨k,ek,hk⟩:=comL_mem.1 h
    have:k=a:=by omega
    exact this ▸ hk
  have hb:comAt g b=true:=by
   obtain ⟨k,ek,hk⟩:=comL_mem.1 hr
   have:k=b:=by omega
   exact this ▸ hk
  simp [ha,hb]
def fB (g:Hist') (i b a:Nat):Bool:=sB g a b && decide ((b:Int)∈(comL g).take i)
def fB2 (g:Hist') (i j tb b a:Nat):Bool:=if b=tb then decide ((a:Int)∈(comL g).take j) && sesAt g a == sesAt g tb else fB g i b a
theorem take_iff {g:Hist'} {i:Nat} (h:i<(comL g).length) {x:Int}:x∈(comL g).take i ↔ x∈comL g∧x<(comL g)[i]:=by
 have hp:=List.pairwise_iff_getElem.1 (comL_pw g)
 rw [List.mem_take_iff_getElem]
 constructor
 ·rintro ⟨j,hj,rfl⟩
  exact ⟨List.getElem_mem _,hp j i (by omega) h (by omega)⟩
 ·rintro ⟨hx,hlt⟩
  obtain ⟨j,hj,rfl⟩:=List.mem_iff_getElem.1 hx
  refine ⟨j,?_,rfl⟩
  rcases Nat.lt_trichotomy j i with h1 | h1 | h1
  ·omega
  ·subst h1;omega
  ·have:=hp i j h hj h1
   omega
theorem take_succ_iff {l:List Int} {i:Nat} (h:i<l.length) {x:Int}:x∈l.take (i+1) ↔ x∈l.take i∨x=l[i]:=by
 rw [List.take_succ_eq_append_getElem h,List.mem_append,List.mem_singleton]
theorem fB_zero {g:Hist'} (b a:Nat):fB g 0 b a=false:=by simp [fB]
theorem fB_end {g:Hist'} (b a:Nat):fB g (comL g).length b a=sB g a b:=by
 unfold fB
 cases h:sB g a b
 ·rfl
 ·have:(b:Int)∈comL g:=comL_mem.2 ⟨b,rfl,by simp only [sB,Bool.and_eq_true] at h;exact h.2.1⟩
  simp [this]
theorem fB2_zero {g:Hist'} {i tb:Nat} (hi:i<(comL g).length) (e:(comL g)[i]=(tb:Int)) (b a:Nat):fB2 g i 0 tb b a=fB g i b a:=by
 unfold fB2
 split
 ·subst b
  have:¬ (tb:Int)∈(comL g).take i:=fun h=>by
   have:=((take_iff hi).1 h).2
   omega
  simp [fB,this]
 ·rfl
theorem fB2_step {g:Hist'} {i j tb ta:Nat} (hj:j<(comL g).length) (e:(comL g)[j]=(ta:Int)) (b a:Nat):(if b=tb∧a=ta then sesAt g ta == sesAt g tb else fB2 g i j tb b a)=fB2 g i (j+1) tb b a:=by
 unfold fB2
 by_cases hb:b=tb
 ·subst hb
  by_cases ha:a=ta
  ·subst ha
   have:(a:Int)∈(comL g).take (j+1):=(take_succ_iff hj).2 (.inr e.symm)
   simp [this]
  ·have:(a:Int)∈(comL g).take (j+1) ↔ (a:Int)∈(comL g).take j:=(take_succ_iff hj).trans ⟨fun h=>h.resolve_right fun h'=>ha (by omega),.inl⟩
   simp [ha,this]
 ·simp [hb]
theorem fB2_end {g:Hist'} {i tb:Nat} (hi:i<(comL g).length) (e:(comL g)[i]=(tb:Int)) (b a:Nat):fB2 g i i tb b a=fB g (i+1) b a:=by
 unfold fB2
 have hct:comAt g tb=true:=by
  obtain ⟨k,ek,hk⟩:=comL_mem.1 (List.getElem_mem hi)
  have:k=tb:=by omega
  exact this ▸ hk
 by_cases hb:b=tb
 ·subst hb
  have h1:(b:Int)∈(comL g).take (i+1):=(take_succ_iff hi).2 (.inr e.symm)
  have h2:((a:Int)∈(comL g).take i) ↔ comAt g a=true∧a<b:=by
   rw [take_iff hi,e]
   constructor
   ·rintro ⟨h3,h4⟩
    obtain ⟨k,ek,hk⟩:=comL_mem.1 h3
    have:k=a:=by omega
    exact ⟨this ▸ hk,by omega⟩
   ·rintro ⟨h3,h4⟩
    exact ⟨comL_mem.2 ⟨a,rfl,h3⟩,by omega⟩
  rw [if_pos rfl]
  simp only [fB,sB,h1,h2,hct,decide_true,Bool.and_true,Bool.true_and,Bool.decide_and,Bool.decide_eq_true,Bool.and_assoc]
 ·have h1:(b:Int)∈(comL g).take (i+1) ↔ (b:Int)∈(comL g).take i:=(take_succ_iff hi).trans ⟨fun h=>h.resolve_right fun h'=>hb (by omega),.inl⟩
  simp [hb,fB,h1]
def fC (g:Hist') (M:List Int) (i b a:Nat):Bool:=sB g a b || fromTo g M i a b
theorem fC_zero {g:Hist'} {M:List Int} (b a:Nat):fC g M 0 b a=sB g a b:=by simp [fC,fromTo]
theorem fC_step {g:Hist'} {M:List Int} {i:Nat} (hi:i<(readH g).length) (hM:i<M.length) (b a:Nat):fC g M (i+1) b a=(fC g M i b a || (M[i] == (a:Int) && ((readH g)[i]).1 == (b:Int))):=by
 have hz:i<((readH g).zip M).length:=by simp;omega
 unfold fC fromTo
 rw [List.take_succ_eq_append_getElem hz,List.any_append]
 simp [Bool.or_assoc]
theorem fC_put {g:Hist'} {M:List Int} {i pb ma:Nat} (hi:i<(readH g).length) (hM:i<M.length) (e1:((readH g)[i]).1=(pb:Int)) (e2:M[i]=(ma:Int)) (b a:Nat):(if b=pb∧a=ma then true else fC g M i b a)=fC g M (i+1) b a:=by
 rw [fC_step hi hM,e1,e2]
 by_cases h:b=pb∧a=ma
 ·simp [h.1,h.2]
 ·rw [if_neg h]
  have:((ma:Int) == (a:Int) && (pb:Int) == (b:Int))=false:=by
   rw [Bool.and_eq_false_iff]
   by_cases h1:a=ma
   ·exact .inr (by simp;intro e;exact h ⟨by omega,h1⟩)
   ·exact .inl (by simp;omega)
  rw [this,Bool.or_false]
theorem fC_skip {g:Hist'} {M:List Int} {i:Nat} (hi:i<(readH g).length) (hM:i<M.length) (e2:M[i]<0) (b a:Nat):fC g M i b a=fC g M (i+1) b a:=by
 rw [fC_step hi hM]
 have:(M[i] == (a:Int))=false:=by simp;omega
 rw [this,Bool.false_and,Bool.or_false]
def fD2 (r:Nat→Nat→Bool) (k b0 b a:Nat):Bool:=if b<b0 then war r (k+1) b a else war r k b a
def fD3 (r:Nat→Nat→Bool) (k b0 t0 b a:Nat):Bool:=if b=b0∧a<t0 then war r (k+1) b a else fD2 r k b0 b a
theorem war_self (r:Nat→Nat→Bool) (k a:Nat):war r (k+1) k a=war r k k a:=by
 rw [war]
 cases war r k k a <;> simp
theorem fD2_row (r:Nat→Nat→Bool) (k b0 t0 a:Nat):fD3 r k b0 t0 k a=war r k k a:=by
 unfold fD3 fD2
 split
 ·exact war_self r k a
 ·split
  ·exact war_self r k a
  ·rfl
theorem fD2_at (r:Nat→Nat→Bool) (k b0 a:Nat):fD2 r k b0 b0 a=war r k b0 a:=by simp [fD2]
theorem fD2_skip {r:Nat→Nat→Bool} {k b0:Nat} (h:war r k b0 k=false) (b a:Nat):fD2 r k b0 b a=fD2 r k (b0+1) b a:=by
 unfold fD2
 rcases Nat.lt_trichotomy b b0 with h1 | h1 | h1
 ·rw [if_pos h1,if_pos (by omega)]
 ·subst h1
  rw [if_neg (by omega),if_pos (by omega),war,h,Bool.false_and,Bool.or_false]
 ·rw [if_neg (by omega),if_neg (by omega)]
theorem fD3_zero (r:Nat→Nat→Bool) (k b0 b a:Nat):fD3 r k b0 0 b a=fD2 r k b0 b a:=by simp [fD3]
theorem fD3_at (r:Nat→Nat→Bool) (k b0 t0:Nat):fD3 r k b0 t0 b0 t0=war r k b0 t0:=by simp [fD3,fD2]
theorem fD3_step {r:Nat→Nat→Bool} {k b0 t0:Nat} (h:war r k b0 k=true) (b a:Nat):(if b=b0∧a=t0 then war r k b0 t0 || war r k k t0 else fD3 r k b0 t0 b a)=fD3 r k b0 (t0+1) b a:=by
 unfold fD3
 by_cases hb:b=b0
 ·subst hb
  rcases Nat.lt_trichotomy a t0 with h1 | h1 | h1
  ·rw [if_neg (by omega),if_pos ⟨rfl,h1⟩,if_pos ⟨rfl,by omega⟩]
  ·subst h1
   rw [if_pos ⟨rfl,rfl⟩,if_pos ⟨rfl,by omega⟩,war,h,Bool.true_and]
  ·rw [if_neg (by omega),if_neg (by omega),if_neg (by omega)]
 ·rw [if_neg (by omega),if_neg (by omega),if_neg (by omega)]
theorem fD3_end {r:Nat→Nat→Bool} {k b0 n:Nat} (b:Nat) {a:Nat} (ha:a<n):fD3 r k b0 n b a=fD2 r k (b0+1) b a:=by
 unfold fD3 fD2
 rcases Nat.lt_trichotomy b b0 with h1 | h1 | h1
 ·rw [if_neg (by omega),if_pos h1,if_pos (by omega)]
 ·subst h1
  rw [if_pos ⟨rfl,ha⟩,if_pos (by omega)]
 ·rw [if_neg (by omega),if_neg (by omega),if_neg (by omega)]
theorem fD2_zero (r:Nat→Nat→Bool) (k b a:Nat):fD2 r k 0 b a=war r k b a:=by simp [fD2]
theorem fD2_end {r:Nat→Nat→Bool} {k n b:Nat} (hb:b<n) (a:Nat):fD2 r k n b a=war r (k+1) b a:=by simp [fD2,hb]
end Go.Pv.T

/- The judge: causes. -/
namespace Go.Pv.T
open Go Go.Pv
def jC (g:Hist') (lvl:Int) (M:List Int) (N:JN) (v:V):List V:=[.int .i64 lvl,slOf g.sn strC g.ss,slOf g.kn strC g.ks,slOf g.tn txnC g.ts,.sl N.tr N.nr (readH g).length ((readH g).flatMap placeC),slOf N.nm intC M,.map N.kA N.uA,v]
structure CI (g:Hist') (lvl:Int) (M:List Int) (N:JN) (ob0:Nat→Option Obj') (ub kP uP:Nat) (rows:List (Nat × Nat)) (f:Nat→Nat→Bool) (ob:Nat→Option Obj') (nx:Nat):Prop where
 m:Mtx ob ub nx kP uP g.ts.length rows f
 j:ob N.kJ=some ⟨N.uJ,.cells (jC g lvl M N (.osl kP uP 0 g.ts.length 1))⟩
 w:∀ key,Off ub key→key≠N.kJ→ob key=ob0 key
 fj:Off ub N.kJ
section
variable {g:Hist'} {lvl:Int} {M:List Int} {N:JN} {ob0:Nat→Option Obj'} {ub kP uP:Nat} {rows:List (Nat × Nat)} {f:Nat→Nat→Bool} {ob ob':Nat→Option Obj'} {nx nx':Nat}
theorem CI.le (h:CI g lvl M N ob0 ub kP uP rows f ob nx):ub<nx:=by
 have:=h.m.k
 omega
theorem CI.keep (h:CI g lvl M N ob0 ub kP uP rows f ob nx) (hu:nx≤nx') (hW:Was nx ob ob'):CI g lvl M N ob0 ub kP uP rows f ob' nx' :=
 have hl:=h.le
 ⟨h.m.keep hu hW,(hW _ (h.fj.up (by omega))).trans h.j,fun key hk hne=>(hW _ (hk.up (by omega))).trans (h.w key hk hne),h.fj⟩
theorem CI.congr {f':Nat→Nat→Bool} (h:CI g lvl M N ob0 ub kP uP rows f ob nx) (e:∀ b a,b<rows.length→a<g.ts.length→f b a=f' b a):CI g lvl M N ob0 ub kP uP rows f' ob nx :=
 ⟨h.m.congr e,h.j,h.w,h.fj⟩
theorem CI.set (h:CI g lvl M N ob0 ub kP uP rows f ob nx) {b t:Nat} {x:Bool} (hb:b<rows.length) (ht:t<g.ts.length) (hu:nx≤nx')
 (h1:ob' (rows[b]).1=some ⟨(rows[b]).2,.cells (splice ((List.range g.ts.length).map fun t=>V.bool (f b t)) t [.bool x])⟩) (h2:∀ key,Off nx key→key≠(rows[b]).1→ob' key=ob key):CI g lvl M N ob0 ub kP uP rows (fun b' a=>if b'=b∧a=t then x else f b' a) ob' nx':=by
 have hl:=h.le
 have hk:=h.m.k
 have hr:=h.m.r b hb
 have hne:∀ key,Off ub key→key≠(rows[b]).1:=fun key hk e=>hk (rows[b]).2 (by omega) (by omega)
 exact ⟨h.m.set hb ht hu h1 h2,(h2 _ (h.fj.up (by omega)) (hne _ h.fj)).trans h.j,fun key hk hn=>(h2 _ (hk.up (by omega)) (hne _ hk)).trans (h.w key hk hn),h.fj⟩
theorem CI.row (h:CI g lvl M N ob0 ub kP uP rows (fun _ _=>false) ob nx) (hn:rows.length<g.ts.length) {u:Nat} (h0:nx≤u) (hu:u<nx')
 (hP:ob' kP=some ⟨uP,.cells (splice (rows.map (rowC g.ts.length)++List.replicate (g.ts.length - rows.length) (.sl none true 0 [])) rows.length [rowC g.ts.length (2 * u+1,u)])⟩) (h1:ob' (2 * u+1)=some ⟨u,.cells (repl g.ts.length [.bool false])⟩) (h2:∀ key,Off nx key→key≠kP→ob' key=ob key) :
 CI g lvl M N ob0 ub kP uP (rows++[(2 * u+1,u)]) (fun _ _=>false) ob' nx':=by
 have hl:=h.le
 have hk:=h.m.k
 have hne:∀ key,Off ub key→key≠kP:=fun key hk' e=>hk' uP (by omega) (by omega)
 exact ⟨h.m.row hn h0 hu hP h1 h2,(h2 _ (h.fj.up (by omega)) (hne _ h.fj)).trans h.j,fun key hk' hn'=>(h2 _ (hk'.up (by omega)) (hne _ hk')).trans (h.w key hk' hn'),h.fj⟩
end
theorem row_at {n:Nat} {rows:List (Nat × Nat)} (L:List V) {b:Nat} (h:b<rows.length):(rows.map (rowC n)++L)[b]? = some (.osl (rows[b]).1 (rows[b]).2 0 n 1):=by
 rw [List.getElem?_append_left (by simpa using h),List.getElem?_map,List.getElem?_eq_getElem h]
 rfl
theorem idx1 {l u n x:Nat} {kk:IntKind} (hx:x<n):idxSlV 1 (.osl l u 0 n 1) (.int kk (x:Int))=some (.ptr l u x):=idxN rfl hx
theorem ses_fld {g:Hist'} {t:Nat} (htl:t<g.ts.length):(g.ts.flatMap txnC)[t * 3]? = some (.int .i64 (sesAt g t)):=by
 have:=fld_at txnC_len g.ts htl (by decide:0<3)
 rw [Nat.add_zero] at this
 rw [this]
 simp [txnC,sesAt,htl]
theorem repl_one (n:Nat) (v:V):repl n [v]=List.replicate n v:=by
 unfold repl
 refine List.ext_getElem (by simp) fun i h1 h2=>?_
 simp [Nat.mod_one]
set_option maxRecDepth 100000 in
theorem sv113 {Yf:YF} {g:Hist'} (hs:Small g) (hw:wholeH g=true) {lvl:Int} {M:List Int} (hm:mapR g M=true) {N:JN} {ob:Nat→Option Obj'} {ub:Nat} (hj:ob N.kJ=some ⟨N.uJ,.cells (jC g lvl M N (.sl none true 0 []))⟩) (fj:Off ub N.kJ)
 {tk:Nat→Bool} {ro base:Nat} (hro:ro≤ub) (hrJ:ro≤N.uJ) :
 ∃ r,EvS E Yf.y 113 [.ptr N.kJ N.uJ 0] ob tk ro base ub r∧(r.1 = .tup []∧∃ kP uP rows,rows.length=g.ts.length∧CI g lvl M N ob ub kP uP rows (farB g M) r.2.1 r.2.2.2):=by
 have hR:=readH_len hs
 have hM:=map_len hm
 have hcl:=comL_len g
 have hts:=hs.ts
 obtain ⟨vc,evc,hvc⟩:=ev71 hs
 rw [comH_comL hw] at hvc
 refine EvS_wp (af:=S113) rfl (by decide) ?_
 show wpC E Yf S113.body _ (kEndS S113.res _)
 have hj':=hj
 unfold jC at hj'
 have gJ:∀ m,ub≤m→¬ N.kJ=2 * m+1:=fj
 simp (disch:=first | (simp;done) | omega) [S113,objCells,hj']
 refine kS_mkSlO (n:=g.ts.length) (by simp) (by simp) (by omega) (by omega) rfl (by decide) ?_
 simp (disch:=first | (simp;done) | omega) [objCells,hj',gJ,splice]
 refine ⟨hrJ,?_⟩
 refine wpC_gen fun st hst=>?_
 obtain ⟨uP,huP⟩:∃ u,u=ub+64+64+64+64+64+64+64+64+64:=⟨_,rfl⟩
 obtain ⟨kP,hkP⟩:∃ k,k=2 * uP+1:=⟨_,rfl⟩
 have g0:st.tm 0 = .ptr N.kJ N.uJ 0:=by rw [hst];simp
 have g2:st.tm 2 = .int .i64 g.ts.length:=by rw [hst];simp
 have g30:st.tm 30 = .int .i64 g.ts.length:=by rw [hst];simp
 have g31:st.tm 31 = .int .i64 0:=by rw [hst];simp
 have gd:st.df=[]:=by rw [hst];simp
 have gr:st.ro=ro:=by rw [hst];simp
 have gC:CI g lvl M N ob ub kP uP [] (fun _ _=>false) st.ob st.nx:=by
  refine ⟨⟨?_,fun b h=>absurd h (by simp),⟨hkP,by omega,?_⟩,fun b h=>absurd h (by simp),fun b b' h=>absurd h (by simp)⟩,?_,fun key hk hne=>?_,fj⟩
  ·rw [hst,hkP,huP];simp (disch:=first | (simp;done) | omega) [fun m h=>Ne.symm (gJ m h),repl_one]
  ·rw [hst,huP];simp
  ·rw [hst,hkP,huP];simp [jC]
  ·rw [hst];simp (disch:=first | (simp;done) | omega) [show ∀ m,ub≤m→¬ key=2 * m+1 from hk,hne]
 clear hst
 refine wp_loopUp [(3,3),(31,42)] g.ts.length (fun i x=>x.tm 31 = .int .i64 i∧∃ rows,rows.length=i∧CI g lvl M N ob ub kP uP rows (fun _ _=>false) x.ob x.nx) rfl rfl ⟨by simpa using g31,[],rfl,gC⟩ ?_
 rintro i s hi ⟨s31,rows,hrl,sC⟩ f
 have s0:s.tm 0 = .ptr N.kJ N.uJ 0:=by rw [f.t 0 (by simp)];simp [g0]
 have s2:s.tm 2 = .int .i64 g.ts.length:=by rw [f.t 2 (by simp)];simp [g2]
 have s30:s.tm 30 = .int .i64 g.ts.length:=by rw [f.t 30 (by simp)];simp [g30]
 have sd:s.df=[]:=by rw [f.d];simp [gd]
 have sro:s.ro=ro:=by rw [f.r];simp [gr]
 clear f
 have sj:=sC.j
 have sl:=sC.le
 have fJ:∀ m,s.nx≤m→¬ N.kJ=2 * m+1:=sC.fj.up (by omega)
 have fP:∀ m,s.nx≤m→¬ kP=2 * m+1:=sC.m.offP
 by_cases hlt:i<g.ts.length
 ·have hwk:=wrapU hlt (by omega)
  simp (disch:=first | (simp;done) | omega) [s31,s30,s0,s2,hlt,objCells,sj,jC]
  refine kD_mkSl (n:=g.ts.length) (by simp) (by simp) (by omega) (by omega) rfl (by decide) ?_
  have hix:=idx0 (l:=kP) (u:=uP) (n:=g.ts.length) (sz:=1) (kk:=.i64) hlt
  rw [Nat.mul_one] at hix
  have hp:=sC.m.p
  simp (disch:=first | (simp;done) | omega) [hix,hp,objCells,fP,drawOk,indep,disj,fpOf,rdOb,rdTk,lOf,Delta.wo,Delta.wt]
  have hkk:=sC.m.k
  refine ⟨by omega,by omega,beq_off (fJ _ (by omega)),?_⟩
  simp (disch:=first | (simp;done) | omega) [s31,hwk,hlt]
  obtain ⟨u,hu⟩:∃ u,u=s.nx+64+64+64+64+64+64+64+64+64:=⟨_,rfl⟩
  refine ⟨rows++[(2 * u+1,u)],by simp [hrl],sC.row (by omega) (by omega) (by omega) ?_ ?_ fun key hk hne=>?_⟩
  ·simp (disch:=first | (simp;done) | omega) [← hu]
   rw [hrl];rfl
  ·simp (disch:=first | (simp;done) | omega) [← hu,show ∀ m,s.nx≤m→¬ 2 * m+1=kP from fun m h e=>fP m h e.symm]
  ·simp (disch:=first | (simp;done) | omega) [← hu,show ∀ m,s.nx≤m→¬ key=2 * m+1 from hk,hne]
 ·have:i=g.ts.length:=by omega
  subst this
  clear hi hlt
  simp (disch:=first | (simp;done) | omega) [s31,s30,s0,objCells,sj,jC]
  refine kS_ev evc (by simp [histC]) rfl (by simp [histC]) ?_
  refine retSl hvc fun tc addc=>?_
  simp
  refine wpC_gen fun st hst=>?_
  have g0:st.tm 0 = .ptr N.kJ N.uJ 0:=by rw [hst];simp [s0]
  have g2:st.tm 2 = .int .i64 g.ts.length:=by rw [hst];simp [s2]
  have g4:st.tm 4 = .sl tc (comL g).isEmpty (comL g).length ((comL g).flatMap intC):=by rw [hst];simp
  have g48:st.tm 48 = .sl tc (comL g).isEmpty (comL g).length ((comL g).flatMap intC):=by rw [hst];simp
  have g49:st.tm 49 = .int .i64 (comL g).length:=by rw [hst];simp
  have g50:st.tm 50 = .int .i64 0:=by rw [hst];simp
  have gd:st.df=[]:=by rw [hst];simp [sd]
  have gr:st.ro=ro:=by rw [hst];simp [sro]
  have gC:CI g lvl M N ob ub kP uP rows (fB g 0) st.ob st.nx:=(sC.congr fun b a _ _=>(fB_zero b a).symm).keep (by rw [hst];simp;omega) fun key hk=>by rw [hst];simp
  clear hst s0 s2 s30 s31 sd sro sj sl fJ fP sC
  refine wp_loopUp [(5,6),(8,8),(50,92)] (comL g).length (fun i x=>x.tm 50 = .int .i64 i∧CI g lvl M N ob ub kP uP rows (fB g i) x.ob x.nx) rfl rfl ⟨by simpa using g50,gC⟩ ?_
  rintro i s hi ⟨s50,sC⟩ f
  have s0:s.tm 0 = .ptr N.kJ N.uJ 0:=by rw [f.t 0 (by simp)];simp [g0]
  have s2:s.tm 2 = .int .i64 g.ts.length:=by rw [f.t 2 (by simp)];simp [g2]
  have s4:s.tm 4 = .sl tc (comL g).isEmpty (comL g).length ((comL g).flatMap intC):=by rw [f.t 4 (by simp)];simp [g4]
  have s48:s.tm 48 = .sl tc (comL g).isEmpty (comL g).length ((comL g).flatMap intC):=by rw [f.t 48 (by simp)];simp [g48]
  have s49:s.tm 49 = .int .i64 (comL g).length:=by rw [f.t 49 (by simp)];simp [g49]
  have sd:s.df=[]:=by rw [f.d];simp [gd]
  have sro:s.ro=ro:=by rw [f.r];simp [gr]
  clear f
  by_cases hlt:i<(comL g).length
  ·have hwk:=wrapU hlt (by omega)
   have ix:=idx_sl intC_len tc (comL g).isEmpty (comL g) .i64 hlt
   rw [Nat.mul_one] at ix
   have h1:=int_at (comL g) hlt
   obtain ⟨tb,etb,htb⟩:=comL_mem.1 (List.getElem_mem hlt)
   rw [etb] at h1
   have hsl:=sl_head intC_len tc (comL g).isEmpty (comL g) (k:=i) (by omega)
   have hln:((comL g).take i).length=i:=by simp;omega
   simp (disch:=first | (simp;done) | omega) [s50,s49,s48,s4,hlt,ix,h1,hsl,hln]
   refine wpC_gen fun st hst=>?_
   have t0:st.tm 0 = .ptr N.kJ N.uJ 0:=by rw [hst];simp [s0]
   have t6:st.tm 6 = .int .i64 (tb:Int):=by rw [hst];simp
   have t57:st.tm 57 = .sl none (comL g).isEmpty i (((comL g).take i).flatMap intC):=by rw [hst];simp
   have t58:st.tm 58 = .int .i64 i:=by rw [hst];simp
   have t59:st.tm 59 = .int .i64 0:=by rw [hst];simp
   have t50:st.tm 50 = .int .i64 i:=by rw [hst];simp [s50]
   have td:st.df=[]:=by rw [hst];simp [sd]
   have tr:st.ro=ro:=by rw [hst];simp [sro]
   have tC:CI g lvl M N ob ub kP uP rows (fB2 g i 0 tb) st.ob st.nx:=(sC.congr fun b a _ _=>(fB2_zero hlt etb b a).symm).keep (by rw [hst];simp;omega) fun key hk=>by rw [hst];simp
   clear hst
   refine wp_loopUp [(8,8),(59,91)] i (fun j x=>x.tm 59 = .int .i64 j∧CI g lvl M N ob ub kP uP rows (fB2 g i j tb) x.ob x.nx) rfl rfl ⟨by simpa using t59,tC⟩ ?_
   rintro j x hj ⟨x59,xC⟩ f
   have x0:x.tm 0 = .ptr N.kJ N.uJ 0:=by rw [f.t 0 (by simp)];simp [t0]
   have x6:x.tm 6 = .int .i64 (tb:Int):=by rw [f.t 6 (by simp)];simp [t6]
   have x57:x.tm 57 = .sl none (comL g).isEmpty i (((comL g).take i).flatMap intC):=by rw [f.t 57 (by simp)];simp [t57]
   have x58:x.tm 58 = .int .i64 i:=by rw [f.t 58 (by simp)];simp [t58]
   have x50:x.tm 50 = .int .i64 i:=by rw [f.t 50 (by simp)];simp [t50]
   have xd:x.df=[]:=by rw [f.d];simp [td]
   have xr:x.ro=ro:=by rw [f.r];simp [tr]
   clear f
   by_cases hjt:j<i
   ·have hwj:=wrapU hjt (by omega)
    have jx:=idx_sl intC_len none (comL g).isEmpty ((comL g).take i) .i64 (i:=j) (by omega)
    rw [Nat.mul_one,hln] at jx
    have j1:=int_at ((comL g).take i) (i:=j) (by omega)
    have hjl:j<(comL g).length:=by omega
    obtain ⟨ta,eta,hta⟩:=comL_mem.1 (List.getElem_mem hjl)
    rw [List.getElem_take,eta] at j1
    have htbl:=comAt_lt htb
    have htal:=comAt_lt hta
    have xj:=xC.j
    have xl:=xC.le
    have fJ:∀ m,x.nx≤m→¬ N.kJ=2 * m+1:=xC.fj.up (by omega)
    have fP:∀ m,x.nx≤m→¬ kP=2 * m+1:=xC.m.offP
    have hbr:tb<rows.length:=by omega
    have fR:∀ m,x.nx≤m→¬ (rows[tb]).1=2 * m+1:=xC.m.offR hbr
    have hp:=xC.m.p
    have hcb:=xC.m.c tb hbr
    have hra:=row_at (n:=g.ts.length) (List.replicate (g.ts.length - rows.length) (.sl none true 0 [])) hbr
    have hi1:=idx1 (l:=kP) (u:=uP) (kk:=.i64) htbl
    have hi2:=idx1 (l:=(rows[tb]).1) (u:=(rows[tb]).2) (kk:=.i64) htal
    have hR2:=xC.m.r tb hbr
    have hk2:=xC.m.k
    simp (disch:=first | (simp;done) | omega) [x59,x58,x57,x6,x0,hjt,jx,j1,objCells,xj,jC,hp,hi1,hi2,hcb,idx_slOf txnC_len,ses_fld,rowC]
    refine ⟨by omega,by omega,hwj,?_⟩
    exact (xC.set (x:=sesAt g ta == sesAt g tb) hbr htal (by omega) (by simp) (fun key hk hne=>by simp [hne])).congr fun b a _ _=>fB2_step hjl eta b a
   ·have:j=i:=by omega
    subst this
    simp (disch:=first | (simp;done) | omega) [x59,x58,x50,hlt,hwk]
    exact (xC.congr fun b a _ _=>fB2_end hlt etb b a).keep (by omega) (Was.refl _ _)
  ·have:i=(comL g).length:=by omega
   subst this
   clear hi hlt
   have sj:=sC.j
   have sl:=sC.le
   simp (disch:=first | (simp;done) | omega) [s50,s49,s0,objCells,sj,jC]
   refine wpC_gen fun st hst=>?_
   have g0:st.tm 0 = .ptr N.kJ N.uJ 0:=by rw [hst];simp [s0]
   have g2:st.tm 2 = .int .i64 g.ts.length:=by rw [hst];simp [s2]
   have g96:st.tm 96 = .sl N.tr N.nr (readH g).length ((readH g).flatMap placeC):=by rw [hst];simp
   have g97:st.tm 97 = .int .i64 (readH g).length:=by rw [hst];simp
   have g98:st.tm 98 = .int .i64 0:=by rw [hst];simp
   have gd:st.df=[]:=by rw [hst];simp [sd]
   have gr:st.ro=ro:=by rw [hst];simp [sro]
   have gC:CI g lvl M N ob ub kP uP rows (fC g M 0) st.ob st.nx:=(sC.congr fun b a _ _=>(fB_end b a).trans (fC_zero b a).symm).keep (by rw [hst];simp;omega) fun key hk=>by rw [hst];simp
   clear hst s0 s2 s4 s48 s49 s50 sd sro sj sl sC
   refine wp_loopUp [(9,10),(98,127)] (readH g).length (fun i x=>x.tm 98 = .int .i64 i∧CI g lvl M N ob ub kP uP rows (fC g M i) x.ob x.nx) rfl rfl ⟨by simpa using g98,gC⟩ ?_
   rintro i s hi ⟨s98,sC⟩ f
   have s0:s.tm 0 = .ptr N.kJ N.uJ 0:=by rw [f.t 0 (by simp)];simp [g0]
   have s2:s.tm 2 = .int .i64 g.ts.length:=by rw [f.t 2 (by simp)];simp [g2]
   have s96:s.tm 96 = .sl N.tr N.nr (readH g).length ((readH g).flatMap placeC):=by rw [f.t 96 (by simp)];simp [g96]
   have s97:s.tm 97 = .int .i64 (readH g).length:=by rw [f.t 97 (by simp)];simp [g97]
   have sd:s.df=[]:=by rw [f.d];simp [gd]
   have sro:s.ro=ro:=by rw [f.r];simp [gr]
   clear f
   have sj:=sC.j
   have sl:=sC.le
   have fJ:∀ m,s.nx≤m→¬ N.kJ=2 * m+1:=sC.fj.up (by omega)
   have fP:∀ m,s.nx≤m→¬ kP=2 * m+1:=sC.m.offP
   by_cases hlt:i<(readH g).length
   ·have hwk:=wrapU hlt (by omega)
    have hiM:i<M.length:=by omega
    have hix:=idx_sl placeC_len N.tr N.nr (readH g) .i64 hlt
    have hpa:=fun ob=>place_at (readH g) ob hlt
    have hmi:=int_at M hiM
    obtain ⟨pb,epb,hpb⟩:=comL_mem.1 (read_com (List.getElem_mem hlt))
    simp (disch:=first | (simp;done) | omega) [s98,s97,s96,s0,hlt,hix,hpa,objCells,splice,sj,jC,fJ,idx_slOf intC_len,hmi]
    refine ⟨by omega,?_⟩
    by_cases hge:0≤M[i]
    ·obtain ⟨ma,ema,hma⟩:=comL_mem.1 ((map_mem hm (List.getElem_mem hiM)).resolve_left (by omega))
     rw [ema] at hmi
     have hpbl:=comAt_lt hpb
     have hmal:=comAt_lt hma
     have hbr:pb<rows.length:=by omega
     have fR:∀ m,s.nx≤m→¬ (rows[pb]).1=2 * m+1:=sC.m.offR hbr
     have hp:=sC.m.p
     have hcb:=sC.m.c pb hbr
     have hra:=row_at (n:=g.ts.length) (List.replicate (g.ts.length - rows.length) (.sl none true 0 [])) hbr
     have hi1:=idx1 (l:=kP) (u:=uP) (kk:=.i64) hpbl
     have hi2:=idx1 (l:=(rows[pb]).1) (u:=(rows[pb]).2) (kk:=.i64) hmal
     have hR2:=sC.m.r pb hbr
     have hk2:=sC.m.k
     simp (disch:=first | (simp;done) | omega) [s98,s0,hlt,objCells,sj,jC,fJ,fP,fR,hp,hi1,hi2,hcb,idx_slOf intC_len,hmi,ema,epb,rowC,hwk]
     refine ⟨by omega,by omega,?_⟩
     exact (sC.set (x:=true) hbr hmal (by omega) (by simp (disch:=first | (simp;done) | omega)) (fun key hk hne=>by simp (disch:=first | (simp;done) | omega) [hne,show ∀ m,s.nx≤m→¬ key=2 * m+1 from hk])).congr fun b a _ _=>fC_put hlt hiM epb ema b a
    ·have h0:decide (0≤M[i])=false:=by simpa using hge
     simp (disch:=first | (simp;done) | omega) [hge,s98,hwk,hlt]
     exact (sC.congr fun b a _ _=>fC_skip hlt hiM (by omega) b a).keep (by omega) fun key hk=>by simp (disch:=first | (simp;done) | omega) [show ∀ m,s.nx≤m→¬ key=2 * m+1 from hk]
   ·have:i=(readH g).length:=by omega
    subst this
    clear hi hlt
    simp (disch:=first | (simp;done) | omega) [s98,s97,s2]
    refine wpC_gen fun st hst=>?_
    have g0:st.tm 0 = .ptr N.kJ N.uJ 0:=by rw [hst];simp [s0]
    have g2:st.tm 2 = .int .i64 g.ts.length:=by rw [hst];simp [s2]
    have g128:st.tm 128 = .int .i64 g.ts.length:=by rw [hst];simp
    have g129:st.tm 129 = .int .i64 0:=by rw [hst];simp
    have gd:st.df=[]:=by rw [hst];simp [sd]
    have gr:st.ro=ro:=by rw [hst];simp [sro]
    obtain ⟨R,hR'⟩:∃ R,R=stepB g M:=⟨_,rfl⟩
    have gC:CI g lvl M N ob ub kP uP rows (fun b a=>war R 0 b a) st.ob st.nx:=(sC.congr (f':=fun b a=>war R 0 b a) fun b a _ _=>(stepB_loops hm a b).trans (by rw [hR'];rfl)).keep (by rw [hst];simp;omega) fun key hk=>by rw [hst];simp
    have hfar:(fun b a=>war R g.ts.length b a)=farB g M:=by rw [hR'];rfl
    clear hst s0 s2 s96 s97 s98 sd sro sj sl fJ fP sC hR'
    refine wp_loopUp [(11,14),(129,184)] g.ts.length (fun i x=>x.tm 129 = .int .i64 i∧CI g lvl M N ob ub kP uP rows (fun b a=>war R i b a) x.ob x.nx) rfl rfl ⟨by simpa using g129,gC⟩ ?_
    rintro k s hk ⟨s129,sC⟩ f
    have s0:s.tm 0 = .ptr N.kJ N.uJ 0:=by rw [f.t 0 (by simp)];simp [g0]
    have s2:s.tm 2 = .int .i64 g.ts.length:=by rw [f.t 2 (by simp)];simp [g2]
    have s128:s.tm 128 = .int .i64 g.ts.length:=by rw [f.t 128 (by simp)];simp [g128]
    have sd:s.df=[]:=by rw [f.d];simp [gd]
    have sro:s.ro=ro:=by rw [f.r];simp [gr]
    clear f
    by_cases hkl:k<g.ts.length
    ·have hwk:=wrapU hkl (by omega)
     simp (disch:=first | (simp;done) | omega) [s129,s128,s2,hkl]
     refine wpC_gen fun st hst=>?_
     have t0:st.tm 0 = .ptr N.kJ N.uJ 0:=by rw [hst];simp [s0]
     have t2:st.tm 2 = .int .i64 g.ts.length:=by rw [hst];simp [s2]
     have t11:st.tm 11 = .int .i64 k:=by rw [hst];simp
     have t129:st.tm 129 = .int .i64 k:=by rw [hst];simp [s129]
     have t132:st.tm 132 = .int .i64 g.ts.length:=by rw [hst];simp
     have t133:st.tm 133 = .int .i64 0:=by rw [hst];simp
     have td:st.df=[]:=by rw [hst];simp [sd]
     have tr:st.ro=ro:=by rw [hst];simp [sro]
     have tC:CI g lvl M N ob ub kP uP rows (fD2 R k 0) st.ob st.nx:=(sC.congr fun b a _ _=>(fD2_zero R k b a).symm).keep (by rw [hst];simp;omega) fun key hk=>by rw [hst];simp
     clear hst s0 s2 s128 s129 sd sro sC
     refine wp_loopUp [(12,14),(133,183)] g.ts.length (fun i x=>x.tm 133 = .int .i64 i∧CI g lvl M N ob ub kP uP rows (fD2 R k i) x.ob x.nx) rfl rfl ⟨by simpa using t133,tC⟩ ?_
     rintro b s hb ⟨s133,sC⟩ f
     have s0:s.tm 0 = .ptr N.kJ N.uJ 0:=by rw [f.t 0 (by simp)];simp [t0]
     have s2:s.tm 2 = .int .i64 g.ts.length:=by rw [f.t 2 (by simp)];simp [t2]
     have s11:s.tm 11 = .int .i64 k:=by rw [f.t 11 (by simp)];simp [t11]
     have s129:s.tm 129 = .int .i64 k:=by rw [f.t 129 (by simp)];simp [t129]
     have s132:s.tm 132 = .int .i64 g.ts.length:=by rw [f.t 132 (by simp)];simp [t132]
     have sd:s.df=[]:=by rw [f.d];simp [td]
     have sro:s.ro=ro:=by rw [f.r];simp [tr]
     clear f
     by_cases hbl:b<g.ts.length
     ·have hwb:=wrapU hbl (by omega)
      have sj:=sC.j
      have hp:=sC.m.p
      have hbr:b<rows.length:=by omega
      have hkr:k<rows.length:=by omega
      have hcb:=sC.m.c b hbr
      have hrb:=row_at (n:=g.ts.length) (List.replicate (g.ts.length - rows.length) (.sl none true 0 [])) hbr
      have hrk:=row_at (n:=g.ts.length) (List.replicate (g.ts.length - rows.length) (.sl none true 0 [])) hkr
      have hi1:=idx1 (l:=kP) (u:=uP) (kk:=.i64) hbl
      have hi2:=idx1 (l:=kP) (u:=uP) (kk:=.i64) hkl
      have hi3:=idx1 (l:=(rows[b]).1) (u:=(rows[b]).2) (kk:=.i64) hkl
      have hfb:=fD2_at R k b k
      have hrg:(List.range g.ts.length)[k]? = some k:=List.getElem?_range hkl
      cases hc:war R k b k
      ·rw [hc] at hfb
       simp (disch:=first | (simp;done) | omega) [s133,s132,s0,s11,hbl,objCells,sj,jC,hp,hi1,hi3,hcb,rowC,hfb,hwb,hrg]
       exact (sC.congr fun b' a _ _=>fD2_skip hc b' a).keep (by omega) (Was.refl _ _)
      ·rw [hc] at hfb
       simp (disch:=first | (simp;done) | omega) [s133,s132,s0,s11,hbl,objCells,sj,jC,hp,hi1,hi2,hi3,hcb,rowC,hfb,hrg]
       refine wpC_gen fun st hst=>?_
       have u0:st.tm 0 = .ptr N.kJ N.uJ 0:=by rw [hst];simp [s0]
       have u12:st.tm 12 = .int .i64 b:=by rw [hst];simp
       have u133:st.tm 133 = .int .i64 b:=by rw [hst];simp [s133]
       have u153:st.tm 153 = .osl (rows[k]).1 (rows[k]).2 0 g.ts.length 1:=by rw [hst];simp
       have u154:st.tm 154 = .int .i64 g.ts.length:=by rw [hst];simp
       have u155:st.tm 155 = .int .i64 0:=by rw [hst];simp
       have ud:st.df=[]:=by rw [hst];simp [sd]
       have ur:st.ro=ro:=by rw [hst];simp [sro]
       have uC:CI g lvl M N ob ub kP uP rows (fD3 R k b 0) st.ob st.nx:=(sC.congr fun b' a _ _=>(fD3_zero R k b b' a).symm).keep (by rw [hst];simp;omega) fun key hk=>by rw [hst];simp
       clear hst s0 s2 s11 s129 s132 s133 sd sro sC sj hp hcb hrb hrk hfb
       refine wp_loopUp [(13,14),(155,182)] g.ts.length (fun i x=>x.tm 155 = .int .i64 i∧CI g lvl M N ob ub kP uP rows (fD3 R k b i) x.ob x.nx) rfl rfl ⟨by simpa using u155,uC⟩ ?_
       rintro t s ht ⟨s155,sC⟩ f
       have s0:s.tm 0 = .ptr N.kJ N.uJ 0:=by rw [f.t 0 (by simp)];simp [u0]
       have s12:s.tm 12 = .int .i64 b:=by rw [f.t 12 (by simp)];simp [u12]
       have s133:s.tm 133 = .int .i64 b:=by rw [f.t 133 (by simp)];simp [u133]
       have s153:s.tm 153 = .osl (rows[k]).1 (rows[k]).2 0 g.ts.length 1:=by rw [f.t 153 (by simp)];simp [u153]
       have s154:s.tm 154 = .int .i64 g.ts.length:=by rw [f.t 154 (by simp)];simp [u154]
       have sd:s.df=[]:=by rw [f.d];simp [ud]
       have sro:s.ro=ro:=by rw [f.r];simp [ur]
       clear f
       by_cases htl:t<g.ts.length
       ·have hwt:=wrapU htl (by omega)
        have sj:=sC.j
        have sl:=sC.le
        have hp:=sC.m.p
        have hcb:=sC.m.c b hbr
        have hck:=sC.m.c k hkr
        have hrb:=row_at (n:=g.ts.length) (List.replicate (g.ts.length - rows.length) (.sl none true 0 [])) hbr
        have hi4:=idx1 (l:=(rows[b]).1) (u:=(rows[b]).2) (kk:=.i64) htl
        have hi5:=idx1 (l:=(rows[k]).1) (u:=(rows[k]).2) (kk:=.i64) htl
        have hf1:=fD3_at R k b t
        have hf2:=fD2_row R k b t t
        have hR2:=sC.m.r b hbr
        have hk2:=sC.m.k
        have hrt:(List.range g.ts.length)[t]? = some t:=List.getElem?_range htl
        have stp:∀ v:Bool,v=(war R k b t || war R k k t)→∀ (ob':Nat→Option Obj') (nx':Nat),s.nx≤nx'→ob' (rows[b]).1=some ⟨(rows[b]).2,.cells (splice ((List.range g.ts.length).map fun a=>V.bool (fD3 R k b t b a)) t [.bool v])⟩→(∀ key,Off s.nx key→key≠(rows[b]).1→ob' key=s.ob key)→CI g lvl M N ob ub kP uP rows (fD3 R k b (t+1)) ob' nx' :=
         fun v hv ob' nx' hn h1 h2=>(sC.set hbr htl hn h1 h2).congr fun b' a _ _=>by rw [hv];exact fD3_step hc b' a
        cases hA:war R k b t
        ·rw [hA] at hf1
         simp (disch:=first | (simp;done) | omega) [s155,s154,s153,s12,s0,htl,objCells,sj,jC,hp,hi1,hi4,hi5,hcb,hck,rowC,hf1,hf2,hwt,hrt]
         exact ⟨by omega,by omega,stp _ (by first | (rw [hA];done) | (rw [hA];simp)) _ _ (by omega) (by simp) fun key hk hne=>by simp [hne]⟩
        ·rw [hA] at hf1
         simp (disch:=first | (simp;done) | omega) [s155,s154,s153,s12,s0,htl,objCells,sj,jC,hp,hi1,hi4,hi5,hcb,hck,rowC,hf1,hf2,hwt,hrt]
         exact ⟨by omega,by omega,stp _ (by first | (rw [hA];done) | (rw [hA];simp)) _ _ (by omega) (by simp) fun key hk hne=>by simp [hne]⟩
       ·have:t=g.ts.length:=by omega
        subst this
        simp (disch:=first | (simp;done) | omega) [s155,s154,s133,hbl,hwb]
        exact (sC.congr fun b' a _ ha=>fD3_end b' ha).keep (by omega) (Was.refl _ _)
     ·have:b=g.ts.length:=by omega
      subst this
      simp (disch:=first | (simp;done) | omega) [s133,s132,s129,hkl,hwk]
      exact (sC.congr fun b a hb' _=>fD2_end (by omega) a).keep (by omega) (Was.refl _ _)
    ·have:k=g.ts.length:=by omega
     subst this
     simp (disch:=first | (simp;done) | omega) [s129,s128]
     refine endS_nil (.inl rfl) (by simp [sd]) ⟨rfl,kP,uP,rows,hrl,?_⟩
     rw [← hfar]
     exact sC.keep (by simp) fun key hk=>by simp
end Go.Pv.T

/- The next map: copies that are owned, and the closure. -/
namespace Go.Pv.T
open Go Go.Pv
def Old (ob:Nat→Option Obj') (ub:Nat) (ob':Nat→Option Obj'):Prop:=∀ k,(∀ m,ub≤m→k≠2 * m+1)→ob' k=ob k
def NewAt (ub:Nat) (l:List Int) (v:V) (ob':Nat→Option Obj') (ub':Nat):Prop:=∃ m,ub≤m∧m<ub'∧v = .osl (2 * m+1) m 0 l.length 1∧ob' (2 * m+1)=some ⟨m,.cells (l.flatMap intC)⟩
theorem kS_appendO_id {E:Env} {Yf:YF} {st:St} {ub:Nat} {K:St→Nat→Prop} {d:Option Nat} {nm o:Bool} {sz bytes l u off n z:Nat} {cs:List V} {s x:A} (hs:eval E st.tm s = .osl l u off n z) (hx:slCells st.ob sz (eval E st.tm x)=some []) (ho:st.ob l=some ⟨u,.cells cs⟩)
 (h:kSet K st d ub (.osl l u off n z)):wpStep E Yf ⟨d,.append o sz bytes s x,none,nm⟩ st ub K:=by
 have hoc:objCells st.ob l u=some cs:=by simp [objCells,ho]
 rw [wpStep_of _ rfl rfl]
 simp only [aop,hs,hx,hoc,Option.bind_some,if_true,wpD_one,app_v]
 exact h
@[simp] theorem eqVV_sl (ob:Nat→Option Obj') (neg nl:Bool) (t t':Option (Nat × Nat)) (n:Nat) (cs:List V):eqVV ob neg .sl (.sl t nl n cs) (.sl t' true 0 [])=some (.bool (xor neg nl)):=rfl
def CopyP (ob:Nat→Option Obj') (tk:Nat→Bool) (ub:Nat) (l:List Int) (r:V × (Nat→Option Obj') × (Nat→Bool) × Nat):Prop:=NewAt ub l r.1 r.2.1 r.2.2.2∧Old ob ub r.2.1∧r.2.2.1=tk∧ub≤r.2.2.2
theorem sv68 {Yf:YF} (l:List Int) (hl:l.length≤1000000000) {ob:Nat→Option Obj'} {tk:Nat→Bool} {ro base ub:Nat} (hro:ro≤ub):∃ r,EvS E Yf.y 68 [slOf false intC l] ob tk ro base ub r∧CopyP ob tk ub l r:=by
 refine EvS_wp (af:=S68) rfl (by decide) ?_
 show wpC E Yf S68.body _ (kEndS S68.res _)
 simp [S68,slOf]
 refine kS_buildSlO (cs:=[]) rfl rfl rfl ?_
 simp
 by_cases hn:l=[]
 ·subst hn
  refine kS_appendO_id (l:=2 * (ub+192)+1) (u:=ub+192) (off:=0) (n:=0) (z:=1) (cs:=[]) (by simp) (by simp [slCells]) (by simp) ?_
  simp
  refine endS_1 (by simp) ⟨⟨ub+192,by omega,by simp;try omega,by simp,by simp⟩,fun k hk=>?_,by simp [app_tk0],by simp;try omega⟩
  have:=hk (ub+192) (by omega)
  simp [this]
 ·have hne:l.flatMap intC≠[]:=fun e=>hn (by have:=congrArg List.length e;rw [flatMap_len intC_len] at this;exact List.length_eq_zero_iff.1 (by simpa using this))
  have hd:(l.flatMap intC).length / 1=l.length:=by rw [flatMap_len intC_len];simp
  refine kS_appendO (l:=2 * (ub+192)+1) (u:=ub+192) (n:=0) (cs:=[]) (ys:=l.flatMap intC) (by simp) (by simp [slCells,flatMap_len intC_len]) (by simp) hne (by simp;omega) (by simp) (by decide) (by simp [intC]) (by rw [hd];omega) (by rw [hd];omega) ?_
  rw [hd]
  simp
  refine endS_1 (by simp) ⟨⟨ub+320,by omega,by simp;try omega,by simp,by simp⟩,fun k hk=>?_,by simp [app_tkk],by simp;try omega⟩
  have h1:=hk (ub+192) (by omega)
  have h2:=hk (ub+320) (by omega)
  simp [h1,h2]
theorem sv68n {Yf:YF} {ob:Nat→Option Obj'} {tk:Nat→Bool} {ro base ub:Nat}:∃ r,EvS E Yf.y 68 [.sl none true 0 []] ob tk ro base ub r∧r.1 = .sl none true 0 []∧r.2.1=ob∧r.2.2.1=tk∧ub≤r.2.2.2:=by
 refine EvS_wp (af:=S68) rfl (by decide) ?_
 show wpC E Yf S68.body _ (kEndS S68.res _)
 simp [S68]
 exact endS_1 (by simp) ⟨by simp,by simp,by simp,by simp;omega⟩
end Go.Pv.T

/- Is it an order of who committed? -/
namespace Go.Pv.T
open Go Go.Pv
set_option maxRecDepth 100000 in
theorem evo70 {S C:List Int} {l u:Nat} {t:Option (Nat × Nat)} {nl:Bool} {ob:Nat→Option Obj'} {ub:Nat} (ho:ob l=some ⟨u,.cells (S.flatMap intC)⟩) (hl:Off ub l) (hS:S.length≤1000000000) (hC:C.length≤1000000000) (tk:Nat→Bool) (base:Nat) :
 EvO E 70 [.osl l u 0 S.length 1,.sl t nl C.length (C.flatMap intC)] ob tk base ub (.bool (S == C)):=by
 refine EvO_wpK (af:=S70) rfl ?_
 by_cases hn:S.length=C.length
 ·simp [S70,hn]
  refine wpC_gen fun st hst=>?_
  have g0:st.tm 0 = .osl l u 0 C.length 1:=by rw [hst];simp
  have g1:st.tm 1 = .sl t nl C.length (C.flatMap intC):=by rw [hst];simp
  have g12:st.tm 12 = .int .i64 C.length:=by rw [hst];simp
  have g13:st.tm 13 = .int .i64 0:=by rw [hst];simp
  have gd:st.df=[]:=by rw [hst];simp
  have go:st.ob l=some ⟨u,.cells (S.flatMap intC)⟩:=by rw [hst];simpa using ho
  clear hst
  refine wp_loopUp [(4,5),(13,25)] C.length (fun i x=>x.tm 13 = .int .i64 i∧(∀ k,k<i→S[k]? = C[k]?)∧x.ob l=some ⟨u,.cells (S.flatMap intC)⟩) rfl rfl ⟨by simpa using g13,fun k h=>by omega,go⟩ ?_
  rintro i x hi ⟨x13,hall,xo⟩ f
  have x0:x.tm 0 = .osl l u 0 C.length 1:=by rw [f.t 0 (by simp)];simp [g0]
  have x1:x.tm 1 = .sl t nl C.length (C.flatMap intC):=by rw [f.t 1 (by simp)];simp [g1]
  have x12:x.tm 12 = .int .i64 C.length:=by rw [f.t 12 (by simp)];simp [g12]
  have xd:x.df=[]:=by rw [f.d];simp [gd]
  clear f
  by_cases hlt:i<C.length
  ·have hwk:=wrapU hlt (by omega)
   have h1:=int_at S (i:=i) (by omega)
   have h2:=int_at C hlt
   have hi1:=idx1 (l:=l) (u:=u) (kk:=.i64) hlt
   have hi2:=idx_sl intC_len t nl C .i64 hlt
   rw [Nat.mul_one] at hi2
   by_cases e:S[i]=C[i]
   ·simp [x13,x12,x0,x1,hlt,hi1,hi2,objCells,xo,h1,h2,e,hwk]
    intro k hk
    rcases Nat.lt_succ_iff_lt_or_eq.1 hk with h | h
    ·exact hall k h
    ·subst h;simp [hlt,show k<S.length by omega,e]
   ·have hne:(S == C)=false:=by
     rw [beq_eq_false_iff_ne]
     intro h
     subst h
     exact e rfl
    have e':(S[i] != C[i])=true:=by simpa using e
    simp [x13,x12,x0,x1,hlt,hi1,hi2,objCells,xo,h1,h2,e']
    exact endV_1 (by simp [xd]) (by simp [hne]) rfl
  ·have:i=C.length:=by omega
   subst this
   have he:S=C:=List.ext_getElem? fun k=>by
    rcases Nat.lt_or_ge k C.length with h | h
    ·exact hall k h
    ·rw [List.getElem?_eq_none (by omega),List.getElem?_eq_none h]
   simp [x13,x12]
   exact endV_1 (by simp [xd]) (by simp [he]) rfl
 ·have hne:(S == C)=false:=by
   rw [beq_eq_false_iff_ne]
   intro h
   subst h
   exact hn rfl
  have hn':((S.length:Int) != (C.length:Int))=true:=by simp;omega
  simp [S70,hn']
  exact endV_1 (by simp) (by simp [hne]) rfl
theorem ev70 {nl:Bool} {n:Nat} {cs:List V}:Ev E 70 [.sl none true 0 [],.sl none nl n cs] (.bool (n == 0)):=by
 refine Ev_wpK (af:=F70) rfl ?_
 by_cases hn:n=0
 ·subst hn
  simp [F70]
  refine wpC_gen fun st hst=>?_
  have g12:st.tm 12 = .int .i64 (0:Nat):=by rw [hst];simp
  have g13:st.tm 13 = .int .i64 0:=by rw [hst];simp
  have gd:st.df=[]:=by rw [hst];simp
  clear hst
  refine wp_loopUp [(4,5),(13,25)] 0 (fun i x=>x.tm 13 = .int .i64 i) rfl rfl (by simpa using g13) ?_
  rintro i x hi x13 f
  have x12:x.tm 12 = .int .i64 (0:Nat):=by rw [f.t 12 (by simp)];simp [g12]
  have xd:x.df=[]:=by rw [f.d];simp [gd]
  have:i=0:=by omega
  subst this
  simp [x13,x12]
  exact endV_1 (by simp [xd]) (by simp) rfl
 ·have h0:((0:Int) != (n:Int))=true:=by simp;omega
  simp [F70,h0]
  exact endV_1 rfl (by simp [hn]) rfl
set_option maxRecDepth 100000 in
theorem ev27 {g:Hist'} (hs:Small g) {on:Bool} {O:List Int} (hon:on=true→O=[]) (hO:O.length≤1000000000):Ev E 27 [.agg (histC g),slOf on intC O] (.bool (orderB g O)):=by
 have e52:=ev52 hs
 obtain ⟨vc,evc,hvc⟩:=ev71 hs
 refine Ev_wpK (af:=F27) rfl ?_
 cases hw:wholeH g
 ·rw [hw] at e52
  have hb:orderB g O=false:=by simp [orderB,hw]
  simp [F27,objCells,histC]
  refine kS_ev e52 (by simp [histC]) rfl (by simp [histC]) ?_
  simp [hb]
  exact endV_1 rfl (by simp) rfl
 ·rw [hw] at e52
  rw [comH_comL hw] at hvc
  have hcl:=comL_len g
  have hts:=hs.ts
  simp [F27,objCells,histC]
  refine kS_ev e52 (by simp [histC]) rfl (by simp [histC]) ?_
  simp
  cases on
  ·refine kS_callP (vs:=[slOf false intC O]) (by simp) rfl (sv68 O hO (by simp)) ?_
   rintro v ob1 tk1 ub1 ⟨⟨m,hm1,hm2,hv,hmo⟩,hold,htk,hub⟩
   simp only at hv hmo hold htk hub hm2
   subst hv
   simp
   refine kS_callP (vs:=[.osl (2 * m+1) m 0 O.length 1]) (by simp) rfl (sv69 (sortI_perm O).symm (sortI_pw O) hO hmo (by simp) (fun k hk=>by omega) (by simp)) ?_
   rintro w ob2 tk2 ub2 ⟨h1,h2,h3,h4⟩
   simp only at h1 h2 h3 h4
   have o4:ob2 4=some ⟨0,.cells (histC g)⟩:=by
    rw [h2 4 (by omega) (fun k hk=>by omega)]
    simp
    rw [hold 4 (fun k hk=>by omega)]
    simp [histC]
   simp [objCells,o4,histC]
   refine kS_ev evc (by simp [histC]) rfl (by simp [histC]) ?_
   refine retSl hvc fun tc addc=>?_
   simp
   refine kS_callO (vs:=[.osl (2 * m+1) m 0 O.length 1,.sl tc (comL g).isEmpty (comL g).length ((comL g).flatMap intC)]) (by simp) rfl rfl (by
    have hl:=(sortI_perm O).length_eq
    rw [← hl]
    exact evo70 (by simpa using h1) (fun k hk=>by omega) (by rw [hl];exact hO) (by omega) _ _) ?_
   rw [order_sorted hw (sortI_perm O).symm (sortI_pw O)]
   simp
   exact endV_1 (by simp) (by simp) rfl
  ·have:=hon rfl
   subst this
   refine kS_callP (vs:=[.sl none true 0 []]) (by simp [slOf]) rfl sv68n ?_
   rintro v ob1 tk1 ub1 ⟨h1,h2,h3,h4⟩
   simp only at h1 h2 h3 h4
   subst h1 h2
   simp
   refine kS_callP (vs:=[.sl none true 0 []]) (by simp) rfl sv69n ?_
   rintro w ob2 tk2 ub2 ⟨h1,h2,h5⟩
   simp only at h1 h2 h5
   subst h1
   simp [objCells]
   refine kS_ev evc (by simp [histC]) rfl (by simp [histC]) ?_
   refine retSl hvc fun tc addc=>?_
   simp
   refine kS_ev (ev70 (nl:=(comL g).isEmpty) (n:=(comL g).length) (cs:=(comL g).flatMap intC)) (by simp) rfl (by simp) ?_
   have:=order_sorted (g:=g) (O:=[]) hw (S:=[]) (.refl _) .nil
   rw [← this]
   simp
   exact endV_1 (by simp) (by simp;cases comL g <;> rfl) rfl
end Go.Pv.T

/- The judge is made. -/
namespace Go.Pv.T
open Go Go.Pv
theorem kD_mkMap {st:St} {ub:Nat} {K:List FP→St→Prop} {d:Option Nat} {nm:Bool} {r:List AOpr} (h:kDApp E r K (eval E st.tm) .mkMap st d ub { v:=.map (objName d nm st.fb ub) ub,obs:=[(objName d nm st.fb ub,⟨ub,.mp 0 []⟩)] }):wpDraw E (⟨d,.mkMap,none,nm⟩::r) st ub K:=by
 rw [wpDraw_of rfl]
 simp only [aop,mkObj,wpD_some,name_eq]
 exact h
theorem kD_mapSet {α:Type} {f:α→V} {x y z:A} {l u ver:Nat} {k:Int} {a:α} {st:St} {ub:Nat} {K:List FP→St→Prop} {d:Option Nat} {nm:Bool} {r:List AOpr} (m:List (Int × α)) (hm:eval E st.tm x = .map l u) (hk:eval E st.tm y = .int .i64 k) (hv:(eval E st.tm z).strip=f a)
 (ho:st.ob l=some ⟨u,.mp ver (MP f m)⟩) (hro:st.ro≤u) (h:kDApp E r K (eval E st.tm) (.mapSet .int x y z) st d ub { v:=none',obs:=[(l,⟨u,.mp (ver+1) (MP f (mset m k a))⟩)] }):wpDraw E (⟨d,.mapSet .int x y z,none,nm⟩::r) st ub K:=by
 have hob:objMap st.ob l u=some (MP f m):=by simp [objMap,ho]
 have hver:objVer st.ob l=ver:=by simp [objVer,ho]
 rw [wpDraw_of rfl]
 simp only [aop,hm,hk,isKey,if_true,hob,Option.bind_some,findKey_MP,hver,hv]
 rw [if_pos (by simpa using hro)]
 unfold mset at h
 cases hf:mfind m k with
 | none =>
  rw [hf] at h
  simp only [Option.map_none,wpD_some]
  simpa [MP] using h
 | some p =>
  rw [hf] at h
  simp only [Option.map_some,wpD_some]
  have e:(MP f m).set p.1 (V.int .i64 k,f a)=MP f (m.set p.1 (k,a)):=by simp [MP,List.map_set]
  rw [e]
  exact h
def BegR (g:Hist') (lvl:Int) (M O:List Int) (ob:Nat→Option Obj') (ub:Nat) (r:V × (Nat→Option Obj') × (Nat→Bool) × Nat):Prop :=
 ub≤r.2.2.2∧Was ub ob r.2.1∧if errB g lvl M O=0 then ∃ N,r.1 = .tup [.ptr N.kJ N.uJ 0,.int .i64 0]∧Jd g lvl M O N r.2.1 r.2.2.2 else r.1 = .tup [.nilptr,.int .i64 (errB g lvl M O)]
set_option maxRecDepth 100000 in
theorem sv65 {Yf:YF} {g:Hist'} (hs:Small g) {lvl:Int} {nl on:Bool} {M O:List Int} (hM:M.length≤1000000) (hO:O.length≤1000000) (hon:on=true→O=[]) {ob:Nat→Option Obj'} {tk:Nat→Bool} {ro base ub:Nat} (hro:ro≤ub) :
 ∃ r,EvS E Yf.y 65 [.int .i64 lvl,.agg (histC g),slOf nl intC M,slOf on intC O] ob tk ro base ub r∧BegR g lvl M O ob ub r:=by
 have e52:=ev52 hs
 have e53:=ev53 hs (b:=nl) M hM
 rw [is_eq] at e53
 have e27:=ev27 hs (on:=on) hon (O:=O) (by omega)
 obtain ⟨vr,evr,hvr⟩:=ev86 hs
 refine EvS_wp (af:=S65) rfl (by decide) ?_
 show wpC E Yf S65.body _ (kEndS S65.res _)
 have bad:∀ (st:St) (c:Int),errB g lvl M O=c→c≠0→st.tm 8 = .nilptr→st.tm 9 = .int .i64 c→st.df=[]→ub≤st.nx→Was ub ob st.ob→kEndS [.t 8,.t 9] (BegR g lvl M O ob ub) .ret st:=fun st c h1 h2 h3 h4 h5 h6 h7=>by
  refine endS_2 h5 ⟨h6,h7,?_⟩
  rw [if_neg (by rw [h1];exact h2),h1]
  simp [h3,h4]
 simp (disch:=first | (simp;done) | omega) [S65,objCells,histC]
 refine kS_ev e52 (by simp [histC]) rfl (by simp [histC]) ?_
 cases hw:wholeH g
 ·simp
  refine bad _ 4 (by simp [errB,hw]) (by decide) (by simp) (by simp) (by simp) (by simp;try omega) fun key hk=>by simp (disch:=first | (simp;done) | omega) [show ∀ m,ub≤m→¬ key=2 * m+1 from hk]
 ·rw [hw] at e52
  simp
  by_cases c1:lvl<1
  ·simp [c1]
   refine bad _ 2 (by simp [errB,hw,c1]) (by decide) (by simp) (by simp) (by simp) (by simp;try omega) fun key hk=>by simp (disch:=first | (simp;done) | omega) [show ∀ m,ub≤m→¬ key=2 * m+1 from hk]
  by_cases c2:3<lvl
  ·simp [c1,c2]
   refine bad _ 2 (by simp [errB,hw,c2]) (by decide) (by simp) (by simp) (by simp) (by simp;try omega) fun key hk=>by simp (disch:=first | (simp;done) | omega) [show ∀ m,ub≤m→¬ key=2 * m+1 from hk]
  simp (disch:=first | (simp;done) | omega) [c1,c2,objCells]
  refine kS_ev e53 (by simp [histC,slOf]) rfl (by simp [histC,slOf]) ?_
  cases hm:mapR g M
  ·simp
   refine bad _ 2 (by simp [errB,hw,hm]) (by decide) (by simp) (by simp) (by simp) (by simp;try omega) fun key hk=>by simp (disch:=first | (simp;done) | omega) [show ∀ m,ub≤m→¬ key=2 * m+1 from hk]
  rw [hm] at e53
  simp (disch:=first | (simp;done) | omega) [objCells]
  refine kS_ev e27 (by simp [histC,slOf]) rfl (by simp [histC,slOf]) ?_
  cases ho:orderB g O
  ·simp
   refine bad _ 2 (by simp [errB,hw,ho]) (by decide) (by simp) (by simp) (by simp) (by simp;try omega) fun key hk=>by simp (disch:=first | (simp;done) | omega) [show ∀ m,ub≤m→¬ key=2 * m+1 from hk]
  have he:errB g lvl M O=0:=by simp [errB,hw,hm,ho];omega
  have hrd:readW g=readH g:=by simp [readW,hw]
  rw [hrd] at hvr
  simp (disch:=first | (simp;done) | omega) [objCells]
  refine kD_ev evr (by simp [histC]) rfl (by simp [histC]) ?_
  refine retSl hvr fun tr addr=>?_
  simp (disch:=first | (simp;done) | omega)
  refine kD_mkMap ?_
  simp
  refine kD_mapSet (f:=intV) (a:=(-1:Int)) (ver:=0) (k:=-1) [] rfl rfl rfl (by simp [MP]) (by simp;omega) ?_
  simp (disch:=first | (simp;done) | omega) [splice,V.cells,drawOk,indep,disj,fpOf,rdOb,rdTk,lOf,Delta.wo,Delta.wt,mset,mfind,slOf]
  refine ⟨beq_off (by omega),?_⟩
  refine wpC_gen fun st hst=>?_
  obtain ⟨uA,huA⟩:∃ u,u=ub+1984:=⟨_,rfl⟩
  obtain ⟨uJ,huJ⟩:∃ u,u=ub+2240:=⟨_,rfl⟩
  have g10:st.tm 10 = .ptr (2 * uJ+1) uJ 0:=by rw [hst,huJ];simp [Nat.add_assoc]
  have pJ:st.ob (2 * uJ+1)=some ⟨uJ,.cells [.int .i64 lvl,slOf g.sn strC g.ss,slOf g.kn strC g.ks,slOf g.tn txnC g.ts,.sl tr (readH g).isEmpty (readH g).length ((readH g).flatMap placeC),slOf nl intC M,.map (2 * uA+1) uA,.sl none true 0 []]⟩:=by
   rw [hst,huJ,huA];simp (disch:=first | (simp;done) | omega) [slOf,Nat.add_assoc]
  have pA:st.ob (2 * uA+1)=some ⟨uA,.mp 1 (MP intV (atM O 0))⟩:=by
   rw [hst,huA];simp (disch:=first | (simp;done) | omega) [atM,two_inj,MP,intV,Nat.add_assoc]
  have gn:uJ<st.nx:=by rw [hst,huJ];simp
  have g0:st.tm 0 = .int .i64 lvl:=by rw [hst];simp
  have g45:st.tm 45=slOf on intC O:=by rw [hst];simp [slOf]
  have g46:st.tm 46 = .int .i64 O.length:=by rw [hst];simp
  have g47:st.tm 47 = .int .i64 0:=by rw [hst];simp
  have gd:st.df=[]:=by rw [hst];simp
  have gr:st.ro=ro:=by rw [hst];simp
  have gw:Was ub ob st.ob:=fun key hk=>by rw [hst];simp (disch:=first | (simp;done) | omega) [show ∀ m,ub≤m→¬ key=2 * m+1 from hk]
  clear hst
  obtain ⟨cJ,hcJ⟩:∃ cJ:List V,cJ=[.int .i64 lvl,slOf g.sn strC g.ss,slOf g.kn strC g.ks,slOf g.tn txnC g.ts,.sl tr (readH g).isEmpty (readH g).length ((readH g).flatMap placeC),slOf nl intC M,.map (2 * uA+1) uA,.sl none true 0 []]:=⟨_,rfl⟩
  rw [← hcJ] at pJ
  obtain ⟨ua0,ua1⟩:ub≤uA∧uA<uJ:=by omega
  clear huA huJ
  refine wp_loopUp [(11,12),(47,58)] O.length (fun i x=>x.tm 47 = .int .i64 i∧(∃ ver,x.ob (2 * uA+1)=some ⟨uA,.mp ver (MP intV (atM O i))⟩)∧x.ob (2 * uJ+1)=some ⟨uJ,.cells cJ⟩∧Was ub ob x.ob∧uJ<x.nx) rfl rfl ⟨by simpa using g47,⟨_,pA⟩,pJ,gw,gn⟩ ?_
  rintro i x hi ⟨x47,⟨ver,xA⟩,xJ,xw,xn⟩ f
  have x0:x.tm 0 = .int .i64 lvl:=by rw [f.t 0 (by simp)];simp [g0]
  have x10:x.tm 10 = .ptr (2 * uJ+1) uJ 0:=by rw [f.t 10 (by simp)];simp [g10]
  have x45:x.tm 45=slOf on intC O:=by rw [f.t 45 (by simp)];simp [g45]
  have x46:x.tm 46 = .int .i64 O.length:=by rw [f.t 46 (by simp)];simp [g46]
  have xd:x.df=[]:=by rw [f.d];simp [gd]
  have xr:x.ro=ro:=by rw [f.r];simp [gr]
  clear f
  by_cases hlt:i<O.length
  ·have hwk:=wrapU hlt (by omega)
   have h1:=int_at O hlt
   have hnext:atM O (i+1)=mset (atM O i) O[i] (i:Int):=by
    rw [atM,getD_lt hlt]
   simp (disch:=first | (simp;done) | omega) [x47,x46,x45,x10,hlt,idx_slOf intC_len,h1,objCells,xJ,hcJ]
   refine kS_mapSet (f:=intV) (a:=(i:Int)) (ver:=ver) (l:=2 * uA+1) (u:=uA) (k:=O[i]) (atM O i) (by simp) (by simp) (by simp [intV]) (by simpa using xA) (by simp [xr];omega) ?_
   simp (disch:=first | (simp;done) | omega) [x47,hlt,hwk,hnext,xJ,hcJ,two_inj]
   exact ⟨by omega,fun key hk=>by simp (disch:=first | (simp;done) | omega) [show ∀ m,ub≤m→¬ key=2 * m+1 from hk,xw key hk],by omega⟩
  ·have:i=O.length:=by omega
   subst this
   clear hi hlt
   have fin:∀ (st:St) (N:JN),st.df=[]→st.tm 8 = .ptr N.kJ N.uJ 0→st.tm 9 = .int .i64 0→ub≤st.nx→Was ub ob st.ob→Jd g lvl M O N st.ob st.nx→kEndS [.t 8,.t 9] (BegR g lvl M O ob ub) .ret st:=fun st N h1 h2 h3 h4 h5 h6=>by
    refine endS_2 h1 ⟨h4,h5,?_⟩
    rw [if_pos he]
    exact ⟨N,by simp [h2,h3],h6⟩
   by_cases e2:lvl=2
   ·subst e2
    simp (disch:=first | (simp;done) | omega) [x47,x46,x0,x10]
    refine kS_callP (vs:=[.ptr (2 * uJ+1) uJ 0]) (by simp) rfl (sv113 (lvl:=2) (N:=⟨tr,(readH g).isEmpty,nl,2 * uJ+1,uJ,2 * uA+1,uA,0,0,[]⟩) hs hw hm (by simp [xJ,hcJ,jC]) (fun m hm=>by simp;omega) (by simp [xr];omega) (by simp [xr];omega)) ?_
    rintro v ob1 tk1 ub1 ⟨hv,kP,uP,rows,hrl,hC⟩
    simp only at hv hrl hC
    have hm1:=hC.m
    have hk1:=hm1.k
    have hle:=hC.le
    simp
    refine fin _ ⟨tr,(readH g).isEmpty,nl,2 * uJ+1,uJ,2 * uA+1,uA,kP,uP,rows⟩ (by simp [xd]) (by simp [x10]) (by simp) (by simp;omega) (fun key hk=>?_) ⟨?_,⟨ver,?_⟩,fun _=>⟨?_,by simpa using hrl,fun b hb=>?_,fun m hm=>?_,fun r hr m hm=>?_⟩,fun m hm=>by simp at hm;simp;omega,fun m hm=>by simp at hm;simp;omega,by simp,by simp,fun _=>⟨?_,fun r hr=>?_⟩⟩
    ·have h1:=hC.w key (hk.up (by first | omega | (simp;omega))) (fun e=>hk uJ (by omega) (by simpa using e))
     simp at h1 ⊢
     rw [h1,xw key hk]
    ·simpa [jC] using hC.j
    ·have h1:=hC.w (2 * uA+1) (fun m hm=>by first | omega | (simp at hm;omega)) (by first | omega | (simp;omega))
     simp at h1 ⊢
     rw [h1,xA]
    ·have h1:=hm1.p
     rw [hrl,Nat.sub_self,List.replicate_zero,List.append_nil] at h1
     simpa using h1
    ·have h1:=hm1.c b hb
     rw [farL,List.map_map]
     simpa [Function.comp_def] using h1
    ·exact hm1.offP m (by first | omega | (simp at hm;omega))
    ·obtain ⟨b,hb,rfl⟩:=List.mem_iff_getElem.1 hr
     exact hm1.offR hb m (by first | omega | (simp at hm;omega))
    ·simp;omega
    ·obtain ⟨b,hb,rfl⟩:=List.mem_iff_getElem.1 hr
     have:=(hm1.r b hb).1
     show (rows[b]).1 % 2=1
     omega
   ·have b2:(lvl == 2)=false:=by simpa using e2
    simp (disch:=first | (simp;done) | omega) [x47,x46,x0,x10,b2]
    refine fin _ ⟨tr,(readH g).isEmpty,nl,2 * uJ+1,uJ,2 * uA+1,uA,0,0,[]⟩ (by simp [xd]) (by simp) (by simp) (by simp;omega) (fun key hk=>by simp [xw key hk]) ⟨?_,⟨ver,by simpa using xA⟩,fun h=>absurd h e2,fun m hm=>by simp at hm;simp;omega,fun m hm=>by simp at hm;simp;omega,by simp,by simp,fun h=>absurd h e2⟩
    simp [xJ,hcJ,e2]
end Go.Pv.T

/- Does it hold? -/
namespace Go.Pv.T
open Go Go.Pv
def holdsE (g:Hist') (lvl:Int) (M O:List Int):Bool:=errB g lvl M O == 0 && holdsG g lvl M O
theorem err0 {g:Hist'} {lvl:Int} {M O:List Int} (h:errB g lvl M O=0):wholeH g=true∧1≤lvl∧lvl≤3∧mapR g M=true∧orderB g O=true:=by
 unfold errB at h
 cases h1:wholeH g
 ·simp [h1] at h
 ·cases h2:mapR g M
  ·simp [h1,h2] at h
  ·cases h3:orderB g O
   ·simp [h1,h2,h3] at h
   ·simp [h1,h2,h3] at h
    exact ⟨rfl,by omega,by omega,rfl,rfl⟩
set_option maxRecDepth 100000 in
theorem ev26 {g:Hist'} (hs:Small g) (lvl:Int) {nl on:Bool} {M O:List Int} (hM:M.length≤1000000) (hO:O.length≤1000000) (hon:on=true→O=[]) :
 Ev E 26 [.int .i64 lvl,.agg (histC g),slOf nl intC M,slOf on intC O] (.tup [.bool (holdsE g lvl M O),.int .i64 (errB g lvl M O)]):=by
 refine Ev_wpK (af:=F26) rfl ?_
 simp [F26,objCells,histC]
 refine kS_callP (vs:=[.int .i64 lvl,.agg (histC g),slOf nl intC M,slOf on intC O]) (by simp [histC]) rfl (sv65 hs hM hO hon (by simp)) ?_
 rintro v ob1 tk1 ub1 ⟨hub,hW,hr⟩
 simp only at hub hW hr
 by_cases he:errB g lvl M O=0
 ·rw [if_pos he] at hr
  obtain ⟨N,rfl,hJ⟩:=hr
  obtain ⟨hw,h1,h3,hm,ho⟩:=err0 he
  have hmay:=whole_may hw
  have hR:=readH_len hs
  have hMl:=map_len hm
  have hE:holdsE g lvl M O=(andTo (sesG g O) (comL g).length && andTo (rightG g lvl M O) (readH g).length):=by simp [holdsE,he,holdsG]
  rw [hE,he]
  simp
  refine kS_callO (vs:=[.ptr N.kJ N.uJ 0]) (by simp) rfl rfl (evo66 hs (hJ.keep (Was.refl _ _) (by omega)) hw ho _ _) ?_
  cases hses:andTo (sesG g O) (comL g).length
  ·simp
   exact endV_2 (by simp) (by simp) (by simp) rfl rfl
  ·have hj:=hJ.j
   simp (disch:=first | (simp;done) | omega) [objCells,hj]
   refine wpC_gen fun st hst=>?_
   have g10:st.tm 10 = .ptr N.kJ N.uJ 0:=by rw [hst];simp
   have g11:st.tm 11 = .int .i64 0:=by rw [hst];simp
   have g33:st.tm 33 = .int .i64 (readH g).length:=by rw [hst];simp
   have g34:st.tm 34 = .int .i64 0:=by rw [hst];simp
   have gd:st.df=[]:=by rw [hst];simp
   have gj:Jd g lvl M O N st.ob st.nx:=hJ.keep (fun key hk=>by rw [hst];simp) (by rw [hst];simp;omega)
   clear hst
   refine wp_loopUp [(8,9),(12,12),(34,42)] (readH g).length (fun i x=>x.tm 34 = .int .i64 i∧andTo (rightG g lvl M O) i=true∧Jd g lvl M O N x.ob x.nx) rfl rfl ⟨by simpa using g34,rfl,gj⟩ ?_
   rintro i x hi ⟨x34,hall,xj⟩ f
   have x10:x.tm 10 = .ptr N.kJ N.uJ 0:=by rw [f.t 10 (by simp)];simp [g10]
   have x11:x.tm 11 = .int .i64 0:=by rw [f.t 11 (by simp)];simp [g11]
   have x33:x.tm 33 = .int .i64 (readH g).length:=by rw [f.t 33 (by simp)];simp [g33]
   have xd:x.df=[]:=by rw [f.d];simp [gd]
   clear f
   by_cases hlt:i<(readH g).length
   ·have hwk:=wrapU hlt (by omega)
    simp [x34,x33,x10,hlt]
    refine kS_callO (vs:=[.ptr N.kJ N.uJ 0,.int .i64 (i:Int)]) (by simp) rfl rfl (evo67 hs hmay (xj.keep (Was.refl _ _) (by omega)) hm ho hlt _ _) ?_
    cases hri:rightG g lvl M O i
    ·simp [x11]
     exact endV_2 (by simp [xd]) (by simp [andF _ hlt hri]) (by simp) rfl rfl
    ·simp [x34,hlt,hwk,andTo,hall,hri]
     exact xj.keep (by exact fun _ _=>rfl) (by omega)
   ·have:i=(readH g).length:=by omega
    subst this
    simp [x34,x33,x11]
    exact endV_2 (by simp [xd]) (by simp [hall]) (by simp) rfl rfl
 ·rw [if_neg he] at hr
  subst hr
  have hE:holdsE g lvl M O=false:=by simp [holdsE,he]
  rw [hE]
  have hb:(errB g lvl M O != 0)=true:=by simpa using he
  simp [hb]
  exact endV_2 (by simp) (by simp) (by simp) rfl rfl
end Go.Pv.T

/- A fixed text is read, by the kernel. -/
namespace Go.Pv.T
open Go Go.Pv
def txt29:List UInt8:=[98,101,103,105,110,32,115,10,119,114,105,116,101,32,115,32,120,32,49,10,111,107,32,115,10,98,101,103,105,110,32,115,10,114,101,97,100,32,115,32,120,32,110,105,108,10,111,107,32,115]
def H29:Hist':=⟨false,[[115]],false,[[120]],false,[⟨0,1,false,[⟨true,0,⟨1,1⟩⟩]⟩,⟨0,1,false,[⟨false,0,⟨0,0⟩⟩]⟩]⟩
theorem k57:(callers E 100 noY).d 57 [.str txt29]=some (.tup [(.agg [(.sl (some (0,1)) false 1 [(.str [115])]),(.sl (some (1,1)) false 1 [(.str [120])]),(.sl (some (2,3)) false 2 [(.int .i64 0),(.int .i64 1),(.sl none false 1 [(.bool true),(.int .i64 0),(.int .i64 1),(.int .i64 1)]),(.int .i64 0),(.int .i64 1),(.sl none false 1 [(.bool false),(.int .i64 0),(.int .i64 0),(.int .i64 0)])])]),(.int .i64 0),(.int .i64 0)]):=by kernel_rfl
end Go.Pv.T

/- The fixed example of the axioms. -/
namespace Go.Pv.T
open Go Go.Pv
theorem small29:Small H29:=⟨by decide,by decide,by decide,by decide,by decide,by decide⟩
theorem h29a:holdsE H29 3 [-1] [0,1]=false:=by decide +kernel
theorem h29b:holdsE H29 1 [-1] [0,1]=true:=by decide +kernel
theorem h29c:errB H29 3 [-1] [0,1]=0:=by decide +kernel
theorem h29d:errB H29 1 [-1] [0,1]=0:=by decide +kernel
theorem h29e:orderB H29 [0,1]=true:=by decide +kernel
set_option maxRecDepth 100000 in
theorem ev29:Ev E 29 [] (.bool true):=by
 have e1:=ev26 small29 3 (nl:=false) (on:=false) (M:=[-1]) (O:=[0,1]) (by decide) (by decide) (by simp)
 have e2:=ev26 small29 1 (nl:=false) (on:=false) (M:=[-1]) (O:=[0,1]) (by decide) (by decide) (by simp)
 have e3:=ev27 small29 (on:=false) (O:=[0,1]) (by simp) (by decide)
 rw [h29a,h29c] at e1
 rw [h29b,h29d] at e2
 rw [h29e] at e3
 have e57:Ev E 57 [.str txt29] _:=⟨100,k57⟩
 refine Ev_wpK (af:=F29) rfl ?_
 simp [F29]
 refine kS_ev e57 rfl rfl rfl ?_
 simp [retA,toksRes,V.toks,V.tok,inRes,inTop,inLeaf,Nat.blt,objCells,splice]
 refine kS_buildSl (cs:=[.int .i64 (-1)]) (by simp [splice]) rfl rfl ?_
 try simp
 refine kS_buildSl (cs:=[.int .i64 0,.int .i64 1]) (by simp [splice]) rfl rfl ?_
 simp
 refine kS_ev e1 (by simp [slOf,intC,histC,H29,strC,txnC,opC,V.strip,V.strip1]) rfl (by simp [slOf,intC,histC]) ?_
 rw [retA_tupl (by simp [V.plain])]
 simp [objCells]
 refine kS_buildSl (cs:=[.int .i64 (-1)]) (by simp [splice]) rfl rfl ?_
 try simp
 refine kS_buildSl (cs:=[.int .i64 0,.int .i64 1]) (by simp [splice]) rfl rfl ?_
 simp
 refine kS_ev e2 (by simp [slOf,intC,histC,H29,strC,txnC,opC,V.strip,V.strip1]) rfl (by simp [slOf,intC,histC]) ?_
 rw [retA_tupl (by simp [V.plain])]
 simp [objCells]
 refine kS_buildSl (cs:=[.int .i64 0,.int .i64 1]) (by simp [splice]) rfl rfl ?_
 simp
 refine kS_ev e3 (by simp [slOf,intC,histC,H29,strC,txnC,opC,V.strip,V.strip1]) rfl (by simp [slOf,intC,histC]) ?_
 simp
 exact endV_1 rfl (by simp) rfl
end Go.Pv.T

/- Who commits in a world; may it be. -/
namespace Go.Pv.T
open Go Go.Pv
end Go.Pv.T

/- May a world be? -/
namespace Go.Pv.T
open Go Go.Pv
end Go.Pv.T

/- What a hopeless whole history tells; a world of not too many parts. -/
namespace Go.Pv.T
open Go Go.Pv
section
variable {E:Env} {st:St} {ub:Nat} {K:List FP→St→Prop} {d:Option Nat} {nm:Bool} {r:List AOpr}
end
theorem slSl_any {α:Type} {f:α→List V} {k:Nat} (hf:∀ a,(f a).length=k) (nl:Bool) (l:List α) (n:Nat) (kk:IntKind):slSlV k none (some (.int kk ((min l.length n:Nat):Int))) (slOf nl f l)=some (.sl none nl (min l.length n) ((l.take n).flatMap f)):=by
 have h1:=slSl_to (kk:=kk) (t:=none) (nl:=nl) (sz:=k) (cs:=l.flatMap f) (n:=l.length) (k:=min l.length n) (Nat.min_le_left _ _) (flatMap_len hf _)
 refine Eq.trans h1 ?_
 rw [take_flat hf]
 congr 2
 rcases Nat.le_total l.length n with h | h
 ·rw [Nat.min_eq_left h,List.take_length,List.take_of_length_le h]
 ·rw [Nat.min_eq_right h]
end Go.Pv.T

/- Transactions that are one's own, in a slice that is one's own. -/
namespace Go.Pv.T
open Go Go.Pv
theorem solid_leaf {st:St} {k:Nat} {v:V} (h:v.pureLeaf=true):solid st (k+1) v=some v:=by
 cases v with
 | sl t nl n cs=>cases t with
  | none=>rfl
  | some t=>cases h
 | osl l u a n s=>cases h
 | _=>simp [solid,h]
theorem solid_leafs {st:St} {k:Nat}:∀ {l:List V},l.all V.pureLeaf=true→l.mapM (solid st (k+1))=some l
 | [],_=>rfl
 | v::l,h=>by
  rw [List.all_cons,Bool.and_eq_true] at h
  rw [List.mapM_cons,solid_leaf h.1,solid_leafs h.2]
  rfl
theorem leaf_ops (l:List Op'):(l.flatMap opC).all V.pureLeaf=true:=by
 rw [List.all_flatMap,List.all_eq_true]
 intro t _
 rfl
theorem mapM_app {f:V→Option V}:∀ {l m l' m':List V},l.mapM f=some l'→m.mapM f=some m'→(l++m).mapM f=some (l'++m')
 | [],m,l',m',h,h'=>by
  cases (show some []=some l' from h)
  exact h'
 | v::l,m,l',m',h,h'=>by
  rw [List.mapM_cons] at h
  rw [List.cons_append,List.mapM_cons]
  cases hv:f v with
  | none=>rw [hv] at h;cases h
  | some v' =>
   rw [hv] at h
   cases hl:l.mapM f with
   | none=>rw [hl] at h;cases h
   | some r =>
    rw [hl] at h
    cases (show some (v'::r)=some l' from h)
    rw [mapM_app hl h']
    rfl
def txU (p:Txn' × Nat):List V:=[.int .i64 p.1.s,.int .i64 p.1.f,.osl (2 * p.2+1) p.2 0 p.1.ops.length 4]
@[simp] theorem txU_len (p:Txn' × Nat):(txU p).length=3:=rfl
structure InO (ob:Nat→Option Obj') (lo hi:Nat) (p:Txn' × Nat):Prop where
 nl:p.1.nl=false
 lo:lo≤p.2
 hi:p.2<hi
 ob:∃ X,ob (2 * p.2+1)=some ⟨p.2,.cells X⟩∧p.1.ops.length * 4≤X.length∧X.take (p.1.ops.length * 4)=p.1.ops.flatMap opC
theorem InO.frame {ob ob':Nat→Option Obj'} {lo hi hi':Nat} {p:Txn' × Nat} (h:InO ob lo hi p) (ho:ob' (2 * p.2+1)=ob (2 * p.2+1)) (hh:hi≤hi'):InO ob' lo hi' p :=
 ⟨h.nl,h.lo,by have:=h.hi;omega,by rw [ho];exact h.ob⟩
def TsO (ob:Nat→Option Obj') (lo hi:Nat) (P:List (Txn' × Nat)) (v:V):Prop :=
 (∀ p∈P,InO ob lo hi p)∧((P=[]∧v = .sl none true 0 [])∨(P≠[]∧∃ u,lo≤u∧u<hi∧(∀ p∈P,p.2≠u)∧v = .osl (2 * u+1) u 0 P.length 3∧ob (2 * u+1)=some ⟨u,.cells (P.flatMap txU)⟩))
theorem TsO.frame {ob ob':Nat→Option Obj'} {lo hi hi':Nat} {P:List (Txn' × Nat)} {v:V} (h:TsO ob lo hi P v) (ho:∀ u,lo≤u→u<hi→ob' (2 * u+1)=ob (2 * u+1)) (hh:hi≤hi'):TsO ob' lo hi' P v:=by
 refine ⟨fun p hp=>(h.1 p hp).frame (ho _ (h.1 p hp).lo (h.1 p hp).hi) hh,?_⟩
 rcases h.2 with h2 | ⟨hne,u,h1,h2,h3,h4,h5⟩
 ·exact .inl h2
 ·exact .inr ⟨hne,u,h1,by omega,h3,h4,by rw [ho u h1 h2];exact h5⟩
theorem solid_in {st:St} {lo hi:Nat} {p:Txn' × Nat} (h:InO st.ob lo hi p) (hr:st.ro≤lo):solid st 5 (.osl (2 * p.2+1) p.2 0 p.1.ops.length 4)=some (slOf p.1.nl opC p.1.ops):=by
 obtain ⟨X,h1,h2,h3⟩:=h.ob
 have hlo:=h.lo
 have hoc:objCells st.ob (2 * p.2+1) p.2=some X:=by simp [objCells,h1]
 show ((objCells st.ob (2 * p.2+1) p.2).bind fun cs=>if Nat.ble st.ro p.2=true∧0+p.1.ops.length * 4≤cs.length then (((cs.drop 0).take (p.1.ops.length * 4)).mapM (solid st 4)).map fun cs'=>V.sl none false p.1.ops.length cs' else none)=_
 rw [hoc,Option.bind_some,if_pos ⟨Nat.ble_eq ▸ (by omega),by omega⟩,List.drop_zero,h3,solid_leafs (leaf_ops _),h.nl]
 rfl
theorem solid_txs {st:St} {lo hi:Nat} (hr:st.ro≤lo):∀ {P:List (Txn' × Nat)},(∀ p∈P,InO st.ob lo hi p)→(P.flatMap txU).mapM (solid st 5)=some ((P.map (·.1)).flatMap txnC)
 | [],_=>rfl
 | p::P,h=>by
  rw [List.flatMap_cons,List.map_cons,List.flatMap_cons]
  refine mapM_app ?_ (solid_txs hr fun q hq=>h q (List.mem_cons_of_mem _ hq))
  have:=solid_in (h p (List.mem_cons_self ..)) hr
  show [V.int .i64 p.1.s,.int .i64 p.1.f,.osl (2 * p.2+1) p.2 0 p.1.ops.length 4].mapM (solid st 5)=_
  rw [List.mapM_cons,List.mapM_cons,List.mapM_cons,this]
  rfl
theorem TsO.out {st:St} {lo hi:Nat} {P:List (Txn' × Nat)} {v:V} (h:TsO st.ob lo hi P v) (hr:st.ro≤lo):SlOut st v P.isEmpty P.length ((P.map (·.1)).flatMap txnC):=by
 rcases h.2 with ⟨rfl,rfl⟩ | ⟨hne,u,h1,h2,h3,rfl,h5⟩
 ·exact slOut_sl _ none true 0 []
 ·intro keep i
  have hoc:objCells st.ob (2 * u+1) u=some (P.flatMap txU):=by simp [objCells,h5]
  have hs:solid st 6 (.osl (2 * u+1) u 0 P.length 3)=some (.sl none false P.length ((P.map (·.1)).flatMap txnC)):=by
   show ((objCells st.ob (2 * u+1) u).bind fun cs=>if Nat.ble st.ro u=true∧0+P.length * 3≤cs.length then (((cs.drop 0).take (P.length * 3)).mapM (solid st 5)).map fun cs'=>V.sl none false P.length cs' else none)=_
   rw [hoc,Option.bind_some,if_pos ⟨Nat.ble_eq ▸ (by omega),by rw [flatMap_len txU_len];omega⟩,List.drop_zero,← flatMap_len txU_len P,List.take_length,solid_txs hr h.1]
   rfl
  have he:P.isEmpty=false:=by cases P <;> simp_all
  rw [he]
  refine ⟨_,by simp only [outLeaf,hs,Option.bind_some,hoc,Option.map_some];rfl,?_⟩
  split
  ·exact .inr ⟨_,rfl⟩
  ·exact .inl rfl
section
variable {Yf:YF} {st:St} {ub:Nat} {K:St→Nat→Prop} {d:Nat}
theorem kS_copyO {α:Type} {f:α→List V} {l:List α} {z sz bytes:Nat} {s x:A} (hs:eval E st.tm s = .osl (2 * z+1) z 0 0 sz) (ho:st.ob (2 * z+1)=some ⟨z,.cells []⟩) (hro:st.ro≤z)
 (hx:slCells st.ob sz (eval E st.tm x)=some (l.flatMap f)) (hf:∀ a,(f a).length=sz) (h0:0<sz) (hp:(l.flatMap f).all V.leaf=true) (hb:l.length * bytes≤140737488355328) (hb2:l.length≤140737488355328)
 (h:∀ (s1:St) (u:Nat),(u=z∨u=ub)→s1.ob (2 * u+1)=some ⟨u,.cells (l.flatMap f)⟩→(∀ key,key≠2 * z+1→key≠2 * ub+1→s1.ob key=st.ob key)→(∀ t,s1.tm t=if t=d then .osl (2 * u+1) u 0 l.length sz else st.tm t)→s1.df=st.df→s1.ro=st.ro→s1.fb=st.fb→s1.tk=st.tk→K s1 (ub+64)) :
 wpStep E Yf ⟨some d,.append true sz bytes s x,none,true⟩ st ub K:=by
 cases l with
 | nil =>
  rw [wpStep_of _ rfl rfl]
  simp only [aop,hs,hx,Option.bind_some,List.flatMap_nil,if_true]
  have hoc:objCells st.ob (2 * z+1) z=some []:=by simp [objCells,ho]
  rw [hoc,Option.bind_some,wpD_one]
  show kApp K st (some d) ub _
  rw [kApp_app]
  exact h _ z (.inl rfl) (by simpa using ho) (fun key _ _=>by simp) (fun t=>by rw [app_tm];rfl) rfl rfl rfl (by simp)
 | cons a l =>
  have h1:((a::l).flatMap f).length / sz=(a::l).length:=by rw [flatMap_len hf];exact Nat.mul_div_cancel _ h0
  have hne:(a::l).flatMap f≠[]:=fun e=>by have:=congrArg List.length e;rw [flatMap_len hf] at this;have:=Nat.mul_pos (show 0<(a::l).length by simp) h0;simp_all
  refine kS_appendO (l:=2 * z+1) (u:=z) (n:=0) (cs:=[]) (ys:=(a::l).flatMap f) hs hx ho hne hro (by simp) h0 hp (by rw [h1,Nat.zero_add];exact hb) (by rw [h1,Nat.zero_add];exact hb2) ?_
  rw [kApp_app,h1,Nat.zero_add]
  refine h _ ub (.inr rfl) ?_ (fun key k1 k2=>?_) (fun t=>by rw [app_tm];rfl) rfl rfl rfl ?_
  ·simp [objName]
  ·simp [objName,k1,k2]
  ·rfl
theorem kS_appendTs {lo hi:Nat} {P:List (Txn' × Nat)} {p:Txn' × Nat} {s x:A} (hT:TsO st.ob lo hi P (eval E st.tm s)) (hle:hi≤ub) (hro:st.ro≤lo) (hx:slCells st.ob 3 (eval E st.tm x)=some (txU p)) (hp:InO st.ob hi ub p) (hlh:lo≤hi) (hlen:P.length≤100000)
 (h:∀ (s1:St) (v':V),TsO s1.ob lo (ub+64) (P++[p]) v'→(∀ key,(∀ u,lo≤u→u<hi→key≠2 * u+1)→key≠2 * ub+1→s1.ob key=st.ob key)→(∀ t,s1.tm t=if t=d then v' else st.tm t)→s1.df=st.df→s1.ro=st.ro→s1.fb=st.fb→s1.tk=st.tk→K s1 (ub+64)) :
 wpStep E Yf ⟨some d,.append true 3 40 s x,none,true⟩ st ub K:=by
 have hpl:=hp.lo
 have hph:=hp.hi
 rcases hT.2 with ⟨rfl,h0⟩ | ⟨hne,u,h1,h2,h3,h4,h5⟩
 ·refine kS_appendO_nil (n:=0) (cs:=[]) (ys:=txU p) h0 hx (by simp [txU]) (by decide) rfl (by simp) (by simp) ?_
  rw [kApp_app,show (txU p).length / 3=1 by rw [txU_len]]
  refine h _ (.osl (2 * ub+1) ub 0 1 3) ⟨?_,.inr ⟨by simp,ub,by omega,by omega,?_,by simp,?_⟩⟩ (fun key k1 k2=>?_) (fun t=>by rw [app_tm];rfl) rfl rfl rfl ?_
  ·intro q hq
   simp only [List.nil_append,List.mem_singleton] at hq
   subst hq
   refine ⟨hp.nl,by omega,by omega,?_⟩
   have:¬ 2 * q.2=2 * ub:=by omega
   simpa [objName,app_ob1,this] using hp.ob
  ·intro q hq
   simp only [List.nil_append,List.mem_singleton] at hq
   subst hq
   omega
  ·simp [objName,app_ob1]
  ·simp [objName,app_ob1,k2]
  ·rfl
 ·refine kS_appendO (l:=2 * u+1) (u:=u) (n:=P.length) (cs:=P.flatMap txU) (ys:=txU p) h4 hx h5 (by simp [txU]) (by omega) (by rw [flatMap_len txU_len];omega) (by decide) rfl (by simp;omega) (by simp;omega) ?_
  rw [kApp_app,show (txU p).length / 3=1 by rw [txU_len]]
  refine h _ (.osl (2 * ub+1) ub 0 (P.length+1) 3) ⟨?_,.inr ⟨by simp,ub,by omega,by omega,?_,by simp,?_⟩⟩ (fun key k1 k2=>?_) (fun t=>by rw [app_tm];rfl) rfl rfl rfl ?_
  ·intro q hq
   rw [List.mem_append,List.mem_singleton] at hq
   rcases hq with hq | rfl
   ·have hi:=hT.1 q hq
    refine ⟨hi.nl,hi.lo,by have:=hi.hi;omega,?_⟩
    have e1:¬ 2 * q.2=2 * ub:=by have:=hi.hi;omega
    have e2:¬ 2 * q.2=2 * u:=by have:=h3 q hq;omega
    simpa [objName,e1,e2] using hi.ob
   ·refine ⟨hp.nl,by omega,by omega,?_⟩
    have e1:¬ 2 * q.2=2 * ub:=by omega
    have e2:¬ 2 * q.2=2 * u:=by omega
    simpa [objName,e1,e2] using hp.ob
  ·intro q hq
   rw [List.mem_append,List.mem_singleton] at hq
   rcases hq with hq | rfl
   ·have:=(hT.1 q hq).hi;omega
   ·omega
  ·simp [objName]
   exact List.take_of_length_le (by rw [flatMap_len txU_len];omega)
  ·have e:=k1 u h1 h2
   simp [objName,e,k2]
  ·rfl
end
end Go.Pv.T

/- A history made whole: the reference's walk. -/
namespace Go.Pv.T
open Go Go.Pv
section
variable {E:Env} {st:St} {ub:Nat} {K:List FP→St→Prop} {d:Option Nat} {r:List AOpr}
theorem kD_buildSlO {sz n:Nat} {zero:List V} {parts:List (Nat × Nat × A)} {cs:List V} (hf:fill zero (evalParts (eval E st.tm) parts)=some cs) (hl:cs.length=n * sz) (hp:cs.all V.leaf=true)
 (h:kDApp E r K (eval E st.tm) (.buildSl true sz zero parts n) st d ub { v:=.osl (2 * ub+1) ub 0 n sz,obs:=[(2 * ub+1,⟨ub,.cells cs⟩)] }):wpDraw E (⟨d,.buildSl true sz zero parts n,none,true⟩::r) st ub K:=by
 rw [wpDraw_of rfl]
 simp only [aop,hf,Option.bind_some,if_true]
 rw [if_pos ⟨hl,hp⟩,mkObj,wpD_some]
 exact h
end
theorem isEmpty_len {α β:Type} {l:List α} {m:List β} (h:l.length=m.length):l.isEmpty=m.isEmpty:=by
 cases l <;> cases m <;> simp_all
end Go.Pv.T

/- Few of a history, as one's own: the sessions, the keys. -/
namespace Go.Pv.T
open Go Go.Pv
def StO (ob:Nat→Option Obj') (lo hi:Nat) (l:List (List UInt8)) (v:V):Prop :=
 (l=[]∧v = .sl none true 0 [])∨(l≠[]∧∃ u,lo≤u∧u<hi∧v = .osl (2 * u+1) u 0 l.length 1∧ob (2 * u+1)=some ⟨u,.cells (l.flatMap strC)⟩)
theorem StO.frame {ob ob':Nat→Option Obj'} {lo hi lo' hi':Nat} {l:List (List UInt8)} {v:V} (h:StO ob lo hi l v) (ho:∀ u,lo≤u→u<hi→ob' (2 * u+1)=ob (2 * u+1)) (hl:lo'≤lo) (hh:hi≤hi'):StO ob' lo' hi' l v:=by
 rcases h with h | ⟨hne,u,h1,h2,h3,h4⟩
 ·exact .inl h
 ·exact .inr ⟨hne,u,by omega,by omega,h3,by rw [ho u h1 h2];exact h4⟩
theorem StO.leaf {ob:Nat→Option Obj'} {lo hi:Nat} {l:List (List UInt8)} {v:V} (h:StO ob lo hi l v):v.leaf=true∧v.cells=[v]:=by
 rcases h with ⟨_,rfl⟩ | ⟨_,u,_,_,rfl,_⟩ <;> exact ⟨rfl,rfl⟩
theorem TsO.leaf {ob:Nat→Option Obj'} {lo hi:Nat} {P:List (Txn' × Nat)} {v:V} (h:TsO ob lo hi P v):v.leaf=true∧v.cells=[v]:=by
 rcases h.2 with ⟨_,rfl⟩ | ⟨_,u,_,_,_,rfl,_⟩ <;> exact ⟨rfl,rfl⟩
theorem StO.out {st:St} {lo hi:Nat} {l:List (List UInt8)} {v:V} (h:StO st.ob lo hi l v) (hr:st.ro≤lo):SlOut st v l.isEmpty l.length (l.flatMap strC):=by
 rcases h with ⟨rfl,rfl⟩ | ⟨hne,u,h1,h2,rfl,h4⟩
 ·exact slOut_sl _ none true 0 []
 ·have he:l.isEmpty=false:=by cases l <;> simp_all
  rw [he]
  exact slOut_osl h4 (by rw [flatMap_len strC_len,Nat.mul_one]) (by omega) (by rw [List.all_flatMap,List.all_eq_true];intro _ _;rfl)
theorem app_obks (st:St) (d:Option Nat) (v:V) (l k:Nat) (o':Obj') (ks:List Nat):(st.app d { v:=v,obs:=[(l,o')],kill:=ks }).ob k=if k=l then some o' else if ks.any (Nat.beq k) then none else st.ob k:=by
 simp [St.app,setObs,upd_apply]
theorem kD_appendSt {E:Env} {st:St} {ub:Nat} {K:List FP→St→Prop} {d:Option Nat} {r:List AOpr} {lo hi:Nat} {l:List (List UInt8)} {c:List UInt8} {s x:A} (hS:StO st.ob lo hi l (eval E st.tm s)) (hx:slCells st.ob 1 (eval E st.tm x)=some (strC c)) (hro:st.ro≤lo) (hlen:l.length≤1000)
 (h:∀ ks:List Nat,(∀ k∈ks,∃ u,lo≤u∧u<hi∧k=2 * u+1)→kDApp E r K (eval E st.tm) (.append true 1 16 s x) st d ub { v:=.osl (2 * ub+1) ub 0 (l.length+1) 1,obs:=[(2 * ub+1,⟨ub,.cells ((l++[c]).flatMap strC)⟩)],kill:=ks }) :
 wpDraw E (⟨d,.append true 1 16 s x,none,true⟩::r) st ub K:=by
 rw [wpDraw_of rfl]
 rcases hS with ⟨rfl,h0⟩ | ⟨hne,u,h1,h2,h3,h4⟩
 ·simp only [aop,h0,hx,Option.bind_some]
  rw [if_neg (by simp [strC]),if_pos (show (true && true)=true from rfl),if_pos ⟨by decide,rfl,by simp [strC],by simp [strC]⟩,mkObj,wpD_some]
  have:=h [] (fun k hk=>by cases hk)
  have e:([]++[c]).flatMap strC=strC c:=by simp
  rw [e] at this
  have e2:(strC c).length / 1=1:=by simp [strC]
  rw [e2]
  exact this
 ·have hoc:objCells st.ob (2 * u+1) u=some (l.flatMap strC):=by simp [objCells,h4]
  simp only [aop,h3,hx,Option.bind_some,hoc]
  have hll:(l.flatMap strC).length=l.length:=by rw [flatMap_len strC_len,Nat.mul_one]
  rw [if_neg (by simp [strC]),if_pos ⟨Nat.ble_eq ▸ (by omega),trivial,trivial,by rw [hll];omega,by decide,rfl,by simp [strC];omega,by simp [strC];omega⟩,wpD_some]
  have:=h [2 * u+1] (fun k hk=>by simp only [List.mem_singleton] at hk;exact ⟨u,h1,h2,hk⟩)
  have e:(l++[c]).flatMap strC=(l.flatMap strC).take (l.length * 1)++strC c:=by
   rw [List.take_of_length_le (by rw [hll];omega),List.flatMap_append]
   simp
  rw [e] at this
  have e2:(strC c).length / 1=1:=by simp [strC]
  rw [e2]
  exact this
theorem any_no {ks:List Nat} {key:Nat} (h:∀ k∈ks,key≠k):ks.any (Nat.beq key)=false:=by
 rw [List.any_eq_false]
 intro k hk he
 exact h k hk (Nat.eq_of_beq_eq_true he)
def few1S:C:=tlC (tlC S51.body)
def few2S:C:=tlC few1S
def few3S:C:=tlC few2S
def few4S:C:=tlC few3S
structure FewO (h:Hist') (ob0:Nat→Option Obj') (ub ro:Nat) (s:St) (a b N1 N2:Nat) (Sv Kv Tv:V) (P:List (Txn' × Nat)):Prop where
 t1:s.tm 1 = .ptr (2 * ub+1) ub 0
 t2:s.tm 2 = .ptr (2 * (ub+64)+1) (ub+64) 0
 t3:s.tm 3 = .ptr (2 * (ub+192)+1) (ub+192) 0
 d:s.df=[]
 ro:s.ro=ro
 o1:s.ob (2 * ub+1)=some ⟨ub,.cells (histC h)⟩
 o2:s.ob (2 * (ub+64)+1)=some ⟨ub+64,.cells [.sl none true 0 [],.sl none true 0 [],.sl none true 0 []]⟩
 o3:s.ob (2 * (ub+192)+1)=some ⟨ub+192,.cells [Sv,Kv,Tv]⟩
 gS:StO s.ob (ub+256) N1 (fewS a h.ss) Sv
 gK:StO s.ob N1 N2 (fewS b h.ks) Kv
 gT:TsO s.ob N2 s.nx P Tv
 n0:ub+256≤N1
 n1:N1≤N2
 n2:N2≤s.nx
 fr:∀ key,(∀ m,ub≤m→key≠2 * m+1)→s.ob key=ob0 key
set_option maxRecDepth 100000 in
theorem few0S {h:Hist'} {Yf:YF} {ob:Nat→Option Obj'} {tk:Nat→Bool} {ro base ub:Nat} {Q:Ex→St→Prop} (hro:ro≤ub) (hrest:∀ s,FewO h ob ub ro s 0 0 s.nx s.nx (.sl none true 0 []) (.sl none true 0 []) (.sl none true 0 []) []→wpC E Yf few1S s Q) :
 wpC E Yf S51.body (startS [.agg (histC h)] ob tk ro base ub) Q:=by
 have e:S51.body = .seq (hdC S51.body) (.seq (hdC (tlC S51.body)) few1S):=rfl
 rw [e]
 simp [hdC,tlC,S51,histC,objCells,splice]
 have a1:¬ 2 * ub=2 * (ub+64):=by omega
 have a2:¬ 2 * ub=2 * (ub+64+64+64):=by omega
 have a3:¬ 2 * (ub+64)=2 * (ub+64+64+64):=by omega
 refine ⟨by omega,hrest _ ⟨by simp,by simp,by simp,by simp,by simp,by simp [histC,a1,a2],by simp [a3],by simp,.inl ⟨rfl,rfl⟩,.inl ⟨rfl,rfl⟩,⟨by simp,.inl ⟨rfl,rfl⟩⟩,by simp,Nat.le_refl _,Nat.le_refl _,fun key hk=>?_⟩⟩
 have e1:=hk ub (Nat.le_refl _)
 have e2:=hk (ub+64) (by omega)
 have e3:=hk (ub+64+64+64) (by omega)
 simp [e1,e2,e3]
theorem few1S_eq:few1S = .seq (hdC few1S) few2S:=rfl
set_option maxRecDepth 100000 in
theorem few1O {h:Hist'} {Yf:YF} {ob0:Nat→Option Obj'} {ub ro:Nat} {s0:St} {Q:Ex→St→Prop} (hru:ro≤ub) (hs:FewO h ob0 ub ro s0 0 0 s0.nx s0.nx (.sl none true 0 []) (.sl none true 0 []) (.sl none true 0 []) [])
 (hrest:∀ s Sv,FewO h ob0 ub ro s 25 0 s.nx s.nx Sv (.sl none true 0 []) (.sl none true 0 []) []→wpC E Yf few2S s Q):wpC E Yf few1S s0 Q:=by
 rw [few1S_eq]
 obtain ⟨f1,f2,f3,fd,fr,o1,o2,o3,gS,gK,gT,n0,n1,n2,ff⟩:=hs
 simp [hdC,few1S,tlC,S51]
 refine wp_loopUp [(4,4),(9,37)] 25 (fun i s=>s.tm 4 = .int .i64 i∧i≤h.ss.length∧∃ Sv,FewO h ob0 ub ro s i 0 s.nx s.nx Sv (.sl none true 0 []) (.sl none true 0 []) []) rfl rfl ?_ ?_
 ·refine ⟨by simp,by simp,.sl none true 0 [],⟨by simp [f1],by simp [f2],by simp [f3],by simp [fd],by simp [fr],by simp [o1],by simp [o2],by simp [o3],.inl ⟨rfl,rfl⟩,.inl ⟨rfl,rfl⟩,⟨by simp,.inl ⟨rfl,rfl⟩⟩,by simp;omega,Nat.le_refl _,Nat.le_refl _,fun key hk=>by simp [ff key hk]⟩⟩
 rintro i s hi ⟨h4,hle,Sv,f1,f2,f3,fd,fr,o1,o2,o3,gS,gK,gT,n0,n1,n2,ff⟩ f
 clear f
 have hend:¬ (i<h.ss.length∧i<25)→∀ s':St,(s'.tm 1=s.tm 1∧s'.tm 2=s.tm 2∧s'.tm 3=s.tm 3)→s'.df=s.df→s'.ro=s.ro→s'.ob=s.ob→s.nx≤s'.nx→wpC E Yf few2S s' Q:=by
  intro hx s' ⟨q1,q2,q3⟩ e2 e3 e4 e5
  refine hrest s' Sv ⟨q1.trans f1,q2.trans f2,q3.trans f3,by rw [e2];exact fd,by rw [e3];exact fr,by rw [e4];exact o1,by rw [e4];exact o2,by rw [e4];exact o3,?_,.inl ⟨rfl,rfl⟩,⟨by simp,.inl ⟨rfl,rfl⟩⟩,by omega,Nat.le_refl _,Nat.le_refl _,fun key hk=>by rw [e4];exact ff key hk⟩
  rw [← fewS_end hle hi hx,e4]
  exact gS.frame (fun _ _ _=>rfl) (Nat.le_refl _) e5
 have o1':s.ob (2 * ub+1)=some ⟨ub,.cells [slOf h.sn strC h.ss,slOf h.kn strC h.ks,slOf h.tn txnC h.ts]⟩:=o1
 by_cases hlt:i<h.ss.length
 ·by_cases hl5:i<25
  ·have hw:=wrapU hl5 (by omega)
   have hl5':(i:Int)<25:=by omega
   obtain ⟨c,hc⟩:∃ c,h.ss[i]=c:=⟨_,rfl⟩
   have hsi:=str_at h.ss hlt
   have hsn:=fewS_succ hlt hl5
   rw [hc] at hsi hsn
   have hmn:=min_len c.length 100
   have hst:=slStr_to (l:=c) (kk:=.i64) (Nat.min_le_left c.length 100)
   have htk:=take_min100 c
   rw [htk] at hst
   rw [show ((100:Nat):Int)=100 from rfl] at hmn
   simp [hmn,hst,h4,f1,o1',objCells,hlt,hl5',f3,o3,idx_slOf strC_len,hsi]
   refine kD_buildSlO (cs:=[.str (c.take 100)]) (by simp [splice]) rfl rfl ?_
   simp
   have e24:s.nx≤(s.nx+64+64+64+64+64+64+64+64+64+64+64+64+64+64+64+64+64+64+64+64+64+64+64+64):=by omega
   have e25:s.nx≤(s.nx+64+64+64+64+64+64+64+64+64+64+64+64+64+64+64+64+64+64+64+64+64+64+64+64+64):=by omega
   have e26:(s.nx+64+64+64+64+64+64+64+64+64+64+64+64+64+64+64+64+64+64+64+64+64+64+64+64)<(s.nx+64+64+64+64+64+64+64+64+64+64+64+64+64+64+64+64+64+64+64+64+64+64+64+64+64):=by omega
   have hll:=fewS_len i h.ss
   refine kD_appendSt (lo:=ub+256) (hi:=s.nx) (l:=fewS i h.ss) (c:=c.take 100) ?_ (by simp [slCells,objCells];rfl) (by simp [fr];omega) (by omega) fun ks hks=>?_
   ·simp
    refine gS.frame (fun u h1 h2=>?_) (Nat.le_refl _) (Nat.le_refl _)
    have e1:¬ 2 * u=2 * (s.nx+64+64+64+64+64+64+64+64+64+64+64+64+64+64+64+64+64+64+64+64+64+64+64+64):=by omega
    simp [e1]
   rw [← hsn]
   have hlen:(fewS i h.ss).length+1=(fewS (i+1) h.ss).length:=by rw [hsn];simp
   rw [hlen]
   have hno:∀ key,(∀ u,ub+256≤u→u<s.nx→key≠2 * u+1)→ks.any (Nat.beq key)=false:=fun key hk=>any_no fun k hkk=>by
    obtain ⟨u,h1,h2,h3⟩:=hks k hkk
    rw [h3];exact hk u h1 h2
   have hn1:=hno (2 * ub+1) (fun u _ _=>by omega)
   have hn2:=hno (2 * (ub+64)+1) (fun u _ _=>by omega)
   have hn3:=hno (2 * (ub+192)+1) (fun u _ _=>by omega)
   have w1:¬ 2 * ub=2 * (s.nx+64+64+64+64+64+64+64+64+64+64+64+64+64+64+64+64+64+64+64+64+64+64+64+64+64):=by omega
   have w2:¬ 2 * (ub+64)=2 * (s.nx+64+64+64+64+64+64+64+64+64+64+64+64+64+64+64+64+64+64+64+64+64+64+64+64+64):=by omega
   have w3:¬ 2 * (ub+192)=2 * (s.nx+64+64+64+64+64+64+64+64+64+64+64+64+64+64+64+64+64+64+64+64+64+64+64+64+64):=by omega
   have w4:¬ 2 * ub=2 * (s.nx+64+64+64+64+64+64+64+64+64+64+64+64+64+64+64+64+64+64+64+64+64+64+64+64):=by omega
   have w5:¬ 2 * (ub+64)=2 * (s.nx+64+64+64+64+64+64+64+64+64+64+64+64+64+64+64+64+64+64+64+64+64+64+64+64):=by omega
   have w6:¬ 2 * (ub+192)=2 * (s.nx+64+64+64+64+64+64+64+64+64+64+64+64+64+64+64+64+64+64+64+64+64+64+64+64):=by omega
   have w7:¬ 2 * (s.nx+64+64+64+64+64+64+64+64+64+64+64+64+64+64+64+64+64+64+64+64+64+64+64+64+64)=2 * (ub+192):=by omega
   have w8:¬ 2 * ub=2 * (ub+192):=by omega
   have w9:¬ 2 * (ub+64)=2 * (ub+192):=by omega
   simp [f3,objCells,app_obks,hn3,w3,w6,o3,fr,splice,h4,hw]
   refine ⟨by omega,?_,?_⟩
   ·simp [drawOk,indep,disj,fpOf,rdOb,rdTk,lOf,Delta.wo,Delta.wt]
    exact nbeq (by omega)
   have hne:fewS (i+1) h.ss≠[]:=by rw [hsn];simp
   refine ⟨hl5,by omega,.osl (2 * (s.nx+64+64+64+64+64+64+64+64+64+64+64+64+64+64+64+64+64+64+64+64+64+64+64+64+64)+1) (s.nx+64+64+64+64+64+64+64+64+64+64+64+64+64+64+64+64+64+64+64+64+64+64+64+64+64) 0 (fewS (i+1) h.ss).length 1,⟨by simp [f1],by simp [f2],by simp [f3],by simp [fd],by simp [fr],by simp [app_obks,hn1,w1,w4,w8,o1],by simp [app_obks,hn2,w2,w5,w9,o2],by simp,
    .inr ⟨hne,(s.nx+64+64+64+64+64+64+64+64+64+64+64+64+64+64+64+64+64+64+64+64+64+64+64+64+64),by omega,by simp,rfl,by simp [app_obks,w7]⟩,.inl ⟨rfl,rfl⟩,⟨by simp,.inl ⟨rfl,rfl⟩⟩,by simp;omega,Nat.le_refl _,Nat.le_refl _,fun key hk=>?_⟩⟩
   have k1:=hk (ub+192) (by omega)
   have k2:=hk (s.nx+64+64+64+64+64+64+64+64+64+64+64+64+64+64+64+64+64+64+64+64+64+64+64+64+64) (by omega)
   have k3:=hk (s.nx+64+64+64+64+64+64+64+64+64+64+64+64+64+64+64+64+64+64+64+64+64+64+64+64) (by omega)
   have k4:=hno key (fun u h1 h2=>hk u (by omega))
   simp [app_obks,k1,k2,k3,k4]
   exact ff key hk
  ·have hl5':¬ (i:Int)<25:=by omega
   simp [h4,f1,o1',objCells,hlt,hl5']
   exact hend (by omega) _ ⟨by simp,by simp,by simp⟩ (by simp) (by simp) (by funext k;simp) (by simp;omega)
 ·simp [h4,f1,o1',objCells,hlt]
  exact hend (by omega) _ ⟨by simp,by simp,by simp⟩ (by simp) (by simp) (by funext k;simp) (by simp;omega)
theorem few2S_eq:few2S = .seq (hdC few2S) few3S:=rfl
set_option maxRecDepth 100000 in
theorem few2O {h:Hist'} {Yf:YF} {ob0:Nat→Option Obj'} {ub ro:Nat} {s0:St} {Q:Ex→St→Prop} {N1:Nat} {S0:V} (hru:ro≤ub) (hs:FewO h ob0 ub ro s0 25 0 N1 s0.nx S0 (.sl none true 0 []) (.sl none true 0 []) [])
 (hrest:∀ s Kv,FewO h ob0 ub ro s 25 45 N1 s.nx S0 Kv (.sl none true 0 []) []→wpC E Yf few3S s Q):wpC E Yf few2S s0 Q:=by
 rw [few2S_eq]
 obtain ⟨f1,f2,f3,fd,fr,o1,o2,o3,gS,gK,gT,n0,n1,n2,ff⟩:=hs
 simp [hdC,few2S,few1S,tlC,S51]
 refine wp_loopUp [(5,5),(38,66)] 45 (fun i s=>s.tm 5 = .int .i64 i∧i≤h.ks.length∧∃ Kv,FewO h ob0 ub ro s 25 i N1 s.nx S0 Kv (.sl none true 0 []) []) rfl rfl ?_ ?_
 ·refine ⟨by simp,by simp,.sl none true 0 [],⟨by simp [f1],by simp [f2],by simp [f3],by simp [fd],by simp [fr],by simp [o1],by simp [o2],by simp [o3],gS.frame (fun _ _ _=>by simp) (Nat.le_refl _) (Nat.le_refl _),.inl ⟨rfl,rfl⟩,⟨by simp,.inl ⟨rfl,rfl⟩⟩,n0,by simp;omega,Nat.le_refl _,fun key hk=>by simp [ff key hk]⟩⟩
 rintro i s hi ⟨h4,hle,Kv,f1,f2,f3,fd,fr,o1,o2,o3,gS,gK,gT,n0,n1,n2,ff⟩ f
 clear f
 have hend:¬ (i<h.ks.length∧i<45)→∀ s':St,(s'.tm 1=s.tm 1∧s'.tm 2=s.tm 2∧s'.tm 3=s.tm 3)→s'.df=s.df→s'.ro=s.ro→s'.ob=s.ob→s.nx≤s'.nx→wpC E Yf few3S s' Q:=by
  intro hx s' ⟨q1,q2,q3⟩ e2 e3 e4 e5
  refine hrest s' Kv ⟨q1.trans f1,q2.trans f2,q3.trans f3,by rw [e2];exact fd,by rw [e3];exact fr,by rw [e4];exact o1,by rw [e4];exact o2,by rw [e4];exact o3,by rw [e4];exact gS,?_,⟨by simp,.inl ⟨rfl,rfl⟩⟩,n0,by omega,Nat.le_refl _,fun key hk=>by rw [e4];exact ff key hk⟩
  rw [← fewS_end hle hi hx,e4]
  exact gK.frame (fun _ _ _=>rfl) (Nat.le_refl _) e5
 have o1':s.ob (2 * ub+1)=some ⟨ub,.cells [slOf h.sn strC h.ss,slOf h.kn strC h.ks,slOf h.tn txnC h.ts]⟩:=o1
 by_cases hlt:i<h.ks.length
 ·by_cases hl5:i<45
  ·have hw:=wrapU hl5 (by omega)
   have hl5':(i:Int)<45:=by omega
   obtain ⟨c,hc⟩:∃ c,h.ks[i]=c:=⟨_,rfl⟩
   have hsi:=str_at h.ks hlt
   have hsn:=fewS_succ hlt hl5
   rw [hc] at hsi hsn
   have hmn:=min_len c.length 100
   have hst:=slStr_to (l:=c) (kk:=.i64) (Nat.min_le_left c.length 100)
   have htk:=take_min100 c
   rw [htk] at hst
   rw [show ((100:Nat):Int)=100 from rfl] at hmn
   simp [hmn,hst,h4,f1,o1',objCells,hlt,hl5',f3,o3,idx_slOf strC_len,hsi]
   refine kD_buildSlO (cs:=[.str (c.take 100)]) (by simp [splice]) rfl rfl ?_
   simp
   have e24:s.nx≤(s.nx+64+64+64+64+64+64+64+64+64+64+64+64+64+64+64+64+64+64+64+64+64+64+64+64):=by omega
   have e25:s.nx≤(s.nx+64+64+64+64+64+64+64+64+64+64+64+64+64+64+64+64+64+64+64+64+64+64+64+64+64):=by omega
   have e26:(s.nx+64+64+64+64+64+64+64+64+64+64+64+64+64+64+64+64+64+64+64+64+64+64+64+64)<(s.nx+64+64+64+64+64+64+64+64+64+64+64+64+64+64+64+64+64+64+64+64+64+64+64+64+64):=by omega
   have hll:=fewS_len i h.ks
   refine kD_appendSt (lo:=N1) (hi:=s.nx) (l:=fewS i h.ks) (c:=c.take 100) ?_ (by simp [slCells,objCells];rfl) (by simp [fr];omega) (by omega) fun ks hks=>?_
   ·simp
    refine gK.frame (fun u h1 h2=>?_) (Nat.le_refl _) (Nat.le_refl _)
    have e1:¬ 2 * u=2 * (s.nx+64+64+64+64+64+64+64+64+64+64+64+64+64+64+64+64+64+64+64+64+64+64+64+64):=by omega
    simp [e1]
   rw [← hsn]
   have hlen:(fewS i h.ks).length+1=(fewS (i+1) h.ks).length:=by rw [hsn];simp
   rw [hlen]
   have hno:∀ key,(∀ u,N1≤u→u<s.nx→key≠2 * u+1)→ks.any (Nat.beq key)=false:=fun key hk=>any_no fun k hkk=>by
    obtain ⟨u,h1,h2,h3⟩:=hks k hkk
    rw [h3];exact hk u h1 h2
   have hn1:=hno (2 * ub+1) (fun u _ _=>by omega)
   have hn2:=hno (2 * (ub+64)+1) (fun u _ _=>by omega)
   have hn3:=hno (2 * (ub+192)+1) (fun u _ _=>by omega)
   have w1:¬ 2 * ub=2 * (s.nx+64+64+64+64+64+64+64+64+64+64+64+64+64+64+64+64+64+64+64+64+64+64+64+64+64):=by omega
   have w2:¬ 2 * (ub+64)=2 * (s.nx+64+64+64+64+64+64+64+64+64+64+64+64+64+64+64+64+64+64+64+64+64+64+64+64+64):=by omega
   have w3:¬ 2 * (ub+192)=2 * (s.nx+64+64+64+64+64+64+64+64+64+64+64+64+64+64+64+64+64+64+64+64+64+64+64+64+64):=by omega
   have w4:¬ 2 * ub=2 * (s.nx+64+64+64+64+64+64+64+64+64+64+64+64+64+64+64+64+64+64+64+64+64+64+64+64):=by omega
   have w5:¬ 2 * (ub+64)=2 * (s.nx+64+64+64+64+64+64+64+64+64+64+64+64+64+64+64+64+64+64+64+64+64+64+64+64):=by omega
   have w6:¬ 2 * (ub+192)=2 * (s.nx+64+64+64+64+64+64+64+64+64+64+64+64+64+64+64+64+64+64+64+64+64+64+64+64):=by omega
   have w7:¬ 2 * (s.nx+64+64+64+64+64+64+64+64+64+64+64+64+64+64+64+64+64+64+64+64+64+64+64+64+64)=2 * (ub+192):=by omega
   have w8:¬ 2 * ub=2 * (ub+192):=by omega
   have w9:¬ 2 * (ub+64)=2 * (ub+192):=by omega
   simp [f3,objCells,app_obks,hn3,w3,w6,o3,fr,splice,h4,hw]
   refine ⟨by omega,?_,?_⟩
   ·simp [drawOk,indep,disj,fpOf,rdOb,rdTk,lOf,Delta.wo,Delta.wt]
    exact nbeq (by omega)
   have hne:fewS (i+1) h.ks≠[]:=by rw [hsn];simp
   refine ⟨hl5,by omega,.osl (2 * (s.nx+64+64+64+64+64+64+64+64+64+64+64+64+64+64+64+64+64+64+64+64+64+64+64+64+64)+1) (s.nx+64+64+64+64+64+64+64+64+64+64+64+64+64+64+64+64+64+64+64+64+64+64+64+64+64) 0 (fewS (i+1) h.ks).length 1,⟨by simp [f1],by simp [f2],by simp [f3],by simp [fd],by simp [fr],by simp [app_obks,hn1,w1,w4,w8,o1],by simp [app_obks,hn2,w2,w5,w9,o2],by simp,
    gS.frame (fun u h1 h2=>?_) (Nat.le_refl _) (Nat.le_refl _),.inr ⟨hne,(s.nx+64+64+64+64+64+64+64+64+64+64+64+64+64+64+64+64+64+64+64+64+64+64+64+64+64),by omega,by simp,rfl,by simp [app_obks,w7]⟩,⟨by simp,.inl ⟨rfl,rfl⟩⟩,n0,by first | omega | (simp;omega),Nat.le_refl _,fun key hk=>?_⟩⟩
   ·have k1:¬ 2 * u=2 * (ub+192):=by omega
    have k2:¬ 2 * u=2 * (s.nx+64+64+64+64+64+64+64+64+64+64+64+64+64+64+64+64+64+64+64+64+64+64+64+64+64):=by omega
    have k3:¬ 2 * u=2 * (s.nx+64+64+64+64+64+64+64+64+64+64+64+64+64+64+64+64+64+64+64+64+64+64+64+64):=by omega
    have k4:=hno (2 * u+1) (fun u' _ _=>by omega)
    simp [app_obks,k1,k2,k3,k4]
   have k1:=hk (ub+192) (by omega)
   have k2:=hk (s.nx+64+64+64+64+64+64+64+64+64+64+64+64+64+64+64+64+64+64+64+64+64+64+64+64+64) (by omega)
   have k3:=hk (s.nx+64+64+64+64+64+64+64+64+64+64+64+64+64+64+64+64+64+64+64+64+64+64+64+64) (by omega)
   have k4:=hno key (fun u h1 h2=>hk u (by omega))
   simp [app_obks,k1,k2,k3,k4]
   exact ff key hk
  ·have hl5':¬ (i:Int)<45:=by omega
   simp [h4,f1,o1',objCells,hlt,hl5']
   exact hend (by omega) _ ⟨by simp,by simp,by simp⟩ (by simp) (by simp) (by funext k;simp) (by simp;omega)
 ·simp [h4,f1,o1',objCells,hlt]
  exact hend (by omega) _ ⟨by simp,by simp,by simp⟩ (by simp) (by simp) (by funext k;simp) (by simp;omega)
end Go.Pv.T

/- Few of a history, as one's own: the transactions; whole. -/
namespace Go.Pv.T
open Go Go.Pv
theorem few3S_eq:few3S = .seq (hdC few3S) few4S:=rfl
set_option maxRecDepth 100000 in
theorem few3O {h:Hist'} {Yf:YF} {ob0:Nat→Option Obj'} {ub ro:Nat} {s0:St} {Q:Ex→St→Prop} {N1 N2:Nat} {S0 K0:V} (hru:ro≤ub) (hs:FewO h ob0 ub ro s0 25 45 N1 N2 S0 K0 (.sl none true 0 []) [])
 (hrest:∀ s Tv P,P.map (·.1)=(h.ts.take 45).map fewT→FewO h ob0 ub ro s 25 45 N1 N2 S0 K0 Tv P→wpC E Yf few4S s Q):wpC E Yf few3S s0 Q:=by
 rw [few3S_eq]
 obtain ⟨f1,f2,f3,fd,fr,o1,o2,o3,gS,gK,gT,n0,n1,n2,ff⟩:=hs
 simp [hdC,few3S,few2S,few1S,tlC,S51]
 refine wp_loopUp [(6,7),(67,98)] 45 (fun i s=>s.tm 6 = .int .i64 i∧i≤h.ts.length∧∃ Tv P,P.map (·.1)=(h.ts.take i).map fewT∧FewO h ob0 ub ro s 25 45 N1 N2 S0 K0 Tv P) rfl rfl ?_ ?_
 ·refine ⟨by simp,by simp,.sl none true 0 [],[],by simp,⟨by simp [f1],by simp [f2],by simp [f3],by simp [fd],by simp [fr],by simp [o1],by simp [o2],by simp [o3],gS.frame (fun _ _ _=>by simp) (Nat.le_refl _) (Nat.le_refl _),gK.frame (fun _ _ _=>by simp) (Nat.le_refl _) (Nat.le_refl _),⟨by simp,.inl ⟨rfl,rfl⟩⟩,n0,n1,by simp;omega,fun key hk=>by simp [ff key hk]⟩⟩
 rintro i s hi ⟨h4,hle,Tv,P,hP,f1,f2,f3,fd,fr,o1,o2,o3,gS,gK,gT,n0,n1,n2,ff⟩ f
 clear f
 have hend:¬ (i<h.ts.length∧i<45)→∀ s':St,(s'.tm 1=s.tm 1∧s'.tm 2=s.tm 2∧s'.tm 3=s.tm 3)→s'.df=s.df→s'.ro=s.ro→s'.ob=s.ob→s.nx≤s'.nx→wpC E Yf few4S s' Q:=by
  intro hx s' ⟨q1,q2,q3⟩ e2 e3 e4 e5
  refine hrest s' Tv P (hP.trans (few_end hle hi hx)) ⟨q1.trans f1,q2.trans f2,q3.trans f3,by rw [e2];exact fd,by rw [e3];exact fr,by rw [e4];exact o1,by rw [e4];exact o2,by rw [e4];exact o3,by rw [e4];exact gS,by rw [e4];exact gK,?_,n0,n1,by omega,fun key hk=>by rw [e4];exact ff key hk⟩
  exact gT.frame (fun _ _ _=>by rw [e4]) e5
 have o1':s.ob (2 * ub+1)=some ⟨ub,.cells [slOf h.sn strC h.ss,slOf h.kn strC h.ks,slOf h.tn txnC h.ts]⟩:=o1
 by_cases hlt:i<h.ts.length
 ·by_cases hl5:i<45
  ·have hw:=wrapU hl5 (by omega)
   have hl5':(i:Int)<45:=by omega
   obtain ⟨t,ht⟩:∃ t,h.ts[i]=t:=⟨_,rfl⟩
   have hmn:=min_len t.ops.length 25
   rw [show ((25:Nat):Int)=25 from rfl] at hmn
   have hss:=slSl_any opC_len t.nl t.ops 25 .i64
   have hmm:min t.ops.length 25=(t.ops.take 25).length:=by rw [List.length_take,Nat.min_comm]
   rw [hmm] at hss hmn
   generalize hL:t.ops.take 25=L at *
   have hLl:L.length≤25:=by rw [← hL,List.length_take];omega
   have hlfO:(L.flatMap opC).all V.leaf=true:=by rw [List.all_flatMap,List.all_eq_true];intro _ _;rfl
   obtain ⟨z,hz⟩:∃ z,s.nx=z:=⟨_,rfl⟩
   simp [h4,f1,o1',objCells,hlt,hl5',idx_slOf txnC_len,load_slOf txnC_len,ht,txnC,fr,splice,hz]
   refine ⟨by omega,?_⟩
   refine kS_buildSlO (cs:=[]) rfl rfl rfl ?_
   simp [objCells]
   obtain ⟨zB,hB⟩:∃ y,(z+64+64+64+64+64+64+64+64+64+64+64+64+64+64+64+64)=y:=⟨_,rfl⟩
   obtain ⟨zA,hA⟩:∃ y,(z+64+64+64+64+64+64+64+64+64+64+64+64+64+64)=y:=⟨_,rfl⟩
   have hAB:zB=zA+128:=by omega
   have hA0:z+896=zA:=by omega
   rw [hB,hA]
   have w1:¬ 2 * zA=2 * zB:=by omega
   have w2:¬ 2 * zB=2 * zA:=by omega
   simp [objCells,w1,hmn,hss]
   refine kS_copyO (f:=opC) (l:=L) (z:=zB) (by simp) (by simp) (by simp [fr];omega) (by simp [slOf,slCells,flatMap_len opC_len]) opC_len (by decide) hlfO (by omega) (by omega) ?_
   intro s1 u hu c0 cf ct cd cr cb ck
   have hu1:zB≤u:=by omega
   have hu2:u≤zB+512:=by omega
   have cA:s1.ob (2 * zA+1)=some ⟨zA,.cells [.int .i64 t.s,.int .i64 t.f,slOf t.nl opC t.ops]⟩:=by
    rw [cf _ (by omega) (by omega)];simp [w1]
   have cO:∀ key,key≠2 * zA+1→key≠2 * zB+1→key≠2 * (zB+512)+1→s1.ob key=s.ob key:=by
    intro key k1 k2 k3
    rw [cf _ k2 (by omega)]
    simp [k1,k2]
   have v1:¬ 2 * zA=2 * (ub+192):=by omega
   have v2:¬ 2 * (ub+192)=2 * zA:=by omega
   have c3:s1.ob (2 * (ub+192)+1)=some ⟨ub+192,.cells [S0,K0,Tv]⟩:=(cO _ (by omega) (by omega) (by omega)).trans o3
   have hra:ro≤zA:=by omega
   simp [ct,objCells,cA,cr,fr,splice,f3,c3,v2,hra]
   obtain ⟨p,hp⟩:∃ p,(fewT t,u)=p:=⟨_,rfl⟩
   have hpu:txU p=[.int .i64 t.s,.int .i64 t.f,.osl (2 * u+1) u 0 L.length 4]:=by
    rw [← hp]
    simp [txU,fewT,← hL]
   refine kS_buildSlO (cs:=txU p) (by rw [hpu];simp [splice]) rfl (by rw [hpu];rfl) ?_
   simp
   obtain ⟨zE,hE⟩:∃ y,(zB+64+64+64+64+64+64+64+64+64+64+64+64+64+64)=y:=⟨_,rfl⟩
   have hE0:zB+896=zE:=by omega
   rw [hE]
   have hPl:P.length=i:=by
    have:=congrArg List.length hP
    rw [List.length_map,List.length_map,List.length_take] at this
    omega
   have hp2:p.2=u:=by rw [← hp]
   have hp1:p.1=fewT t:=by rw [← hp]
   have hpo:p.1.ops=L:=by rw [hp1];exact hL
   rw [hz] at gT n2
   have hsame:∀ y,y<z→s1.ob (2 * y+1)=s.ob (2 * y+1):=fun y y2=>cO _ (by omega) (by omega) (by omega)
   refine kS_appendTs (lo:=N2) (hi:=z) (P:=P) (p:=p) ?_ (by omega) (by simp [cr,fr];omega) (by simp [slCells,objCells];rfl) ?_ n2 (by omega) ?_
   ·simp
    refine gT.frame (fun y y1 y2=>?_) (Nat.le_refl _)
    have e1:¬ 2 * y=2 * zE:=by omega
    have e2:¬ 2 * y=2 * zA:=by omega
    simp [e1,e2]
    exact hsame y y2
   ·refine ⟨by rw [hp1];rfl,by rw [hp2];omega,by rw [hp2];omega,L.flatMap opC,?_,?_,?_⟩
    ·rw [hp2]
     have e1:¬ 2 * u=2 * zE:=by omega
     have e2:¬ 2 * u=2 * zA:=by omega
     simp [e1,e2]
     exact c0
    ·rw [hpo,flatMap_len opC_len];exact Nat.le_refl _
    ·rw [hpo,← flatMap_len opC_len,List.take_length]
   intro s4 v4 hT4 x4 xt xd xr xb xk
   obtain ⟨hlf4,hc4⟩:=hT4.leaf
   have x5:∀ y,(y<N2)→s4.ob (2 * y+1)=s.ob (2 * y+1):=by
    intro y hy
    rw [x4 _ (fun y y1 y2=>by omega) (by omega)]
    have e1:¬ 2 * y=2 * zE:=by omega
    have e2:¬ 2 * y=2 * zA:=by omega
    simp [e1,e2]
    exact hsame y (by omega)
   have x3:=(x5 (ub+192) (by omega)).trans o3
   have hP1:(P++[p]).map (·.1)=(h.ts.take (i+1)).map fewT:=by
    rw [List.map_append,hP,List.take_succ_eq_append_getElem hlt,List.map_append,ht,← hp]
    rfl
   simp [xt,ct,f3,objCells,x3,xr,cr,fr,splice,hlf4,hc4,h4,hw]
   have b1:¬ 2 * ub=2 * (ub+192):=by omega
   have b2:¬ 2 * (ub+64)=2 * (ub+192):=by omega
   refine ⟨by omega,hl5,by omega,v4,P++[p],by rw [hP1,List.map_take],⟨by simp [xt,ct,f1],by simp [xt,ct,f2],by simp [xt,ct,f3],by simp [xd,cd,fd],by simp [xr,cr,fr],by simp [b1];exact (x5 ub (by omega)).trans o1,by simp [b2];exact (x5 (ub+64) (by omega)).trans o2,by simp,
    gS.frame (fun y h1 h2=>?_) (Nat.le_refl _) (Nat.le_refl _),gK.frame (fun y h1 h2=>?_) (Nat.le_refl _) (Nat.le_refl _),hT4.frame (fun y h1 h2=>?_) (by simp <;> omega),n0,n1,by simp <;> omega,fun key hk=>?_⟩⟩
   ·have e1:¬ 2 * y=2 * (ub+192):=by omega
    simp [e1]
    exact x5 y (by omega)
   ·have e1:¬ 2 * y=2 * (ub+192):=by omega
    simp [e1]
    exact x5 y (by omega)
   ·have e1:¬ 2 * y=2 * (ub+192):=by omega
    simp [e1]
   ·have e1:=hk (ub+192) (by omega)
    have e2:=hk zE (by omega)
    have e3:=hk zA (by omega)
    simp [e1]
    rw [x4 _ (fun y y1 y2=>hk y (by omega)) (hk _ (by omega))]
    simp [e2,e3]
    exact (cO key e3 (hk zB (by omega)) (hk (zB+512) (by omega))).trans (ff key hk)
  ·have hl5':¬ (i:Int)<45:=by omega
   simp [h4,f1,o1',objCells,hlt,hl5']
   exact hend (by omega) _ ⟨by simp,by simp,by simp⟩ (by simp) (by simp) (by funext k;simp) (by simp;omega)
 ·simp [h4,f1,o1',objCells,hlt]
  exact hend (by omega) _ ⟨by simp,by simp,by simp⟩ (by simp) (by simp) (by funext k;simp) (by simp;omega)
def FewP (h:Hist') (ob:Nat→Option Obj') (ub:Nat) (r:V × (Nat→Option Obj') × (Nat→Bool) × Nat):Prop :=
 ∃ Sv Kv Tv P N1 N2,r.1 = .agg [Sv,Kv,Tv]∧StO r.2.1 (ub+256) N1 (fewS 25 h.ss) Sv∧StO r.2.1 N1 N2 (fewS 45 h.ks) Kv∧TsO r.2.1 N2 r.2.2.2 P Tv∧P.map (·.1)=(h.ts.take 45).map fewT∧ub+256≤N1∧N1≤N2∧N2≤r.2.2.2 ∧
  ∀ key,(∀ m,ub≤m→key≠2 * m+1)→r.2.1 key=ob key
theorem sv51 {Yf:YF} {h:Hist'} {ob:Nat→Option Obj'} {tk:Nat→Bool} {ro base ub:Nat} (hro:ro≤ub):∃ r,EvS E Yf.y 51 [.agg (histC h)] ob tk ro base ub r∧FewP h ob ub r:=by
 refine EvS_wp (af:=S51) rfl (by decide) ?_
 show wpC E Yf S51.body _ (kEndS S51.res _)
 refine few0S hro fun s1 h1=>?_
 refine few1O hro h1 fun s2 Sv h2=>?_
 refine few2O hro h2 fun s3 Kv h3=>?_
 refine few3O hro h3 fun s4 Tv P hP h4=>?_
 obtain ⟨f1,f2,f3,fd,fr,o1,o2,o3,gS,gK,gT,n0,n1,n2,ff⟩:=h4
 obtain ⟨lS,cS⟩:=gS.leaf
 obtain ⟨lK,cK⟩:=gK.leaf
 obtain ⟨lT,cT⟩:=gT.leaf
 have b1:¬ 2 * (ub+192)=2 * (ub+64):=by omega
 have hre:S51.res=[.cell 2 (some 3)]:=rfl
 rw [hre]
 generalize hP':kEndS [.cell 2 (some 3)] (FewP h ob ub)=Q
 simp [few4S,few3S,few2S,few1S,tlC,S51,f2,f3,o2,o3,objCells,fr,splice,lS,lK,lT]
 refine ⟨by omega,?_⟩
 rw [← hP']
 refine ⟨(.agg [Sv,Kv,Tv],_,_,_),by simp [endS,fd,resOf,f2,objCells];exact ⟨rfl,rfl,rfl⟩,Sv,Kv,Tv,P,_,_,rfl,gS.frame (fun y h1 h2=>?_) (Nat.le_refl _) (Nat.le_refl _),gK.frame (fun y h1 h2=>?_) (Nat.le_refl _) (Nat.le_refl _),gT.frame (fun y h1 h2=>?_) ?_,hP,n0,n1,?_,fun key hk=>?_⟩
 ·have e1:¬ 2 * y=2 * (ub+64):=by omega
  simp [e1]
 ·have e1:¬ 2 * y=2 * (ub+64):=by omega
  simp [e1]
 ·have e1:¬ 2 * y=2 * (ub+64):=by omega
  simp [e1]
 ·simp;omega
 ·simp;omega
 ·have e1:=hk (ub+64) (by omega)
  simp [e1]
  exact ff key hk
end Go.Pv.T

/- Few of a history for the greater laws: at most 8 transactions, of at most 6 ops. -/
namespace Go.Pv.T
open Go Go.Pv
def sixT (t:Txn'):Txn':={ t with ops:=t.ops.take 6 }
def few8 (h:Hist'):Hist':=if 8<(fewH h).ts.length then { fewH h with tn:=true,ts:=[] } else { fewH h with ts:=(fewH h).ts.map sixT }
def mixT (P:List (Txn' × Nat)) (i:Nat):List (Txn' × Nat):=P.mapIdx fun j p=>if j<i then (sixT p.1,p.2) else p
theorem mixT_len {P:List (Txn' × Nat)} {i:Nat}:(mixT P i).length=P.length:=by simp [mixT]
theorem mixT_zero {P:List (Txn' × Nat)}:mixT P 0=P:=by
 apply List.ext_getElem?
 intro n
 simp [mixT]
theorem mixT_end {P:List (Txn' × Nat)}:(mixT P P.length).map (·.1)=(P.map (·.1)).map sixT:=by
 apply List.ext_getElem?
 intro n
 simp only [mixT,List.getElem?_map,List.getElem?_mapIdx]
 cases h:P[n]? with
 | none=>rfl
 | some o =>
  have:=(List.getElem?_eq_some_iff.1 h).1
  simp [this]
theorem mixT_at {P:List (Txn' × Nat)} {i:Nat} (h:i<P.length):(mixT P i)[i]'(by rw [mixT_len];exact h)=P[i]:=by simp [mixT]
theorem mixT_step {P:List (Txn' × Nat)} {i:Nat} (h:i<P.length):mixT P (i+1)=(mixT P i).modify i fun p=>(sixT p.1,p.2):=by
 apply List.ext_getElem?
 intro n
 simp only [mixT,List.getElem?_mapIdx,List.getElem?_modify]
 cases hn:P[n]? with
 | none=>simp
 | some o =>
  simp only [Option.map_some,Option.map_eq_map]
  by_cases h3:i=n
  ·subst h3
   simp
  ·simp only [if_neg h3]
   by_cases h1:n<i
   ·rw [if_pos h1,if_pos (by omega)]
   ·rw [if_neg (by omega),if_neg h1]
theorem txU_set:∀ {P:List (Txn' × Nat)} {i:Nat} (h:i<P.length),splice (P.flatMap txU) (i * 3+2) [.osl (2 * (P[i]).2+1) (P[i]).2 0 (sixT (P[i]).1).ops.length 4]=(P.modify i fun p=>(sixT p.1,p.2)).flatMap txU
 | [],_,h=>by simp at h
 | p::P,0,_=>by simp [List.modify_cons,splice,txU,sixT]
 | p::P,i+1,h=>by
  have ih:=txU_set (P:=P) (i:=i) (by simpa using h)
  simp only [List.modify_cons,Nat.add_one_ne_zero,if_false,Nat.add_sub_cancel,List.flatMap_cons,List.getElem_cons_succ]
  rw [← ih]
  have:(i+1) * 3+2=(txU p).length+(i * 3+2):=by simp;omega
  rw [this]
  simp only [splice,Nat.add_assoc]
  rw [List.take_length_add_append,List.drop_length_add_append]
  simp only [List.append_assoc]
theorem InO.six {ob:Nat→Option Obj'} {lo hi:Nat} {p:Txn' × Nat} (h:InO ob lo hi p):InO ob lo hi (sixT p.1,p.2):=by
 obtain ⟨X,h1,h2,h3⟩:=h.ob
 refine ⟨h.nl,h.lo,h.hi,X,h1,?_,?_⟩
 ·simp only [sixT,List.length_take];omega
 ·have e:X.take ((sixT p.1).ops.length * 4)=(X.take (p.1.ops.length * 4)).take ((sixT p.1).ops.length * 4):=by
   rw [List.take_take]
   congr 1
   simp only [sixT,List.length_take]
   omega
  rw [e,h3,take_ops]
  congr 1
  simp only [sixT,List.length_take]
  rcases Nat.le_total p.1.ops.length 6 with h' | h'
  ·rw [Nat.min_eq_right h',List.take_length,List.take_of_length_le h']
  ·rw [Nat.min_eq_left h']
theorem slSl4_to {L u n i:Nat} (h:i≤n):slSlV 4 none (some (.int .i64 (i:Int))) (.osl L u 0 n 4)=some (.osl L u 0 i 4):=by
 simp [slSlV,bounds,h]
theorem TsO.len {ob:Nat→Option Obj'} {lo hi:Nat} {P:List (Txn' × Nat)} {v:V} (h:TsO ob lo hi P v):lenSlV v=some (.int .i64 P.length):=by
 rcases h.2 with ⟨rfl,rfl⟩ | ⟨_,u,_,_,_,rfl,_⟩ <;> rfl
set_option maxRecDepth 100000 in
theorem ev15 (h:Hist'):∃ v,Ev E 15 [.agg (histC h)] v∧HistR v (few8 h):=by
 refine Ev_wpE (af:=F15) rfl (by decide) ?_
 generalize hPP:(kEndE [.cell 2 (some 3)] fun r=>HistR r (few8 h))=PP
 simp [F15,histC,objCells,hPP]
 refine kS_callP (vs:=[.agg (histC h)]) (by simp [histC]) rfl (sv51 (h:=h) (Nat.zero_le _)) ?_
 rintro v ob1 tk1 ub1 ⟨Sv,Kv,Tv,P,N1,N2,hv,gS,gK,gT,hP,n0,n1,n2,ff⟩
 simp only at hv gS gK gT hP n0 n1 n2 ff
 subst hv
 obtain ⟨lS,cS⟩:=gS.leaf
 obtain ⟨lK,cK⟩:=gK.leaf
 obtain ⟨lT,cT⟩:=gT.leaf
 have hTl:=gT.len
 have b1:ob1 1=some ⟨0,.cells (histC h)⟩:=by rw [ff 1 (fun m hm=>by omega)];simp [histC]
 have b2:ob1 129=some ⟨64,.cells [.sl none true 0 [],.sl none true 0 [],.sl none true 0 []]⟩:=by rw [ff 129 (fun m hm=>by omega)];simp
 have e1:(few8 h).ss=fewS 25 h.ss:=by unfold few8;split <;> rfl
 have e2:(few8 h).sn=(fewS 25 h.ss).isEmpty:=by unfold few8;split <;> rfl
 have e3:(few8 h).ks=fewS 45 h.ks:=by unfold few8;split <;> rfl
 have e4:(few8 h).kn=(fewS 45 h.ks).isEmpty:=by unfold few8;split <;> rfl
 have hPl:(fewH h).ts.length=P.length:=by
  show ((h.ts.take 45).map fewT).length=P.length
  rw [← hP,List.length_map]
 simp [b1,objCells,histC,splice]
 generalize hK:kSeq E noYF _ PP=K
 have rest:∀ (s:St) (P':List (Txn' × Nat)) (Tv':V),P'.length≤8→(few8 h).ts=(P'.map (·.1)).map sixT→(few8 h).tn=P'.isEmpty→s.tm 1 = .ptr 1 0 0→s.tm 2 = .ptr 129 64 0→s.df=[]→s.ro=0→s.fb=0→ub1≤s.nx →
  s.ob 1=some ⟨0,.cells [Sv,Kv,Tv']⟩→s.ob 129=some ⟨64,.cells [.sl none true 0 [],.sl none true 0 [],.sl none true 0 []]⟩→StO s.ob (192+256) N1 (fewS 25 h.ss) Sv→StO s.ob N1 N2 (fewS 45 h.ks) Kv→TsO s.ob N2 ub1 P' Tv'→K .nrm s:=by
  intro s P' Tv' hl8 ht8 hn8 g1 g2 gd gr gb gn p1 p2 gS gK gT
  rw [← hK,kSeq_nrm]
  clear hK
  have lT':=gT.leaf
  simp
  refine wp_loopUp [(3,3),(11,37)] P'.length (fun i s=>s.tm 3 = .int .i64 i∧s.ob 1=some ⟨0,.cells [Sv,Kv,Tv']⟩∧s.ob 129=some ⟨64,.cells [.sl none true 0 [],.sl none true 0 [],.sl none true 0 []]⟩∧StO s.ob (192+256) N1 (fewS 25 h.ss) Sv∧StO s.ob N1 N2 (fewS 45 h.ks) Kv∧TsO s.ob N2 ub1 (mixT P' i) Tv') rfl rfl
   ⟨by simp,by simp [p1],by simp [p2],gS.frame (fun _ _ _=>by simp) (Nat.le_refl _) (Nat.le_refl _),gK.frame (fun _ _ _=>by simp) (Nat.le_refl _) (Nat.le_refl _),by rw [mixT_zero];exact gT.frame (fun _ _ _=>by simp) (Nat.le_refl _)⟩ ?_
  clear gS gK
  rintro i s1 hi ⟨h3,o1,o2,gS,gK,gX⟩ f
  have f1:s1.tm 1 = .ptr 1 0 0:=by rw [f.t 1 (by simp)];simp [g1]
  have f2:s1.tm 2 = .ptr 129 64 0:=by rw [f.t 2 (by simp)];simp [g2]
  have fd:s1.df=[]:=by rw [f.d];simp [gd]
  have fb:s1.fb=0:=by rw [f.b];simp [gb]
  have fr:s1.ro=0:=by rw [f.r];simp [gr]
  clear f
  have hXl:=gX.len
  rw [mixT_len] at hXl
  by_cases hlt:i<P'.length
  ·have hw:=wrapU hlt (by omega)
   have hl3:i<(mixT P' i).length:=by rw [mixT_len];exact hlt
   rcases gX.2 with ⟨he,_⟩ | ⟨hne,u,h1,h2,h4,rfl,h5⟩
   ·rw [he] at hl3;simp at hl3
   have hin:=gX.1 (P'[i]) (by rw [← mixT_at hlt];exact List.getElem_mem hl3)
   have hixT:idxSlV 3 (.osl (2 * u+1) u 0 (mixT P' i).length 3) (.int .i64 (i:Int))=some (.ptr (2 * u+1) u (i * 3)):=by simp [idxSlV,hl3]
   have hcell:((mixT P' i).flatMap txU)[i * 3+2]? = some (.osl (2 * (P'[i]).2+1) (P'[i]).2 0 (P'[i]).1.ops.length 4):=by
    rw [fld_at txU_len _ hl3 (by decide:2<3),mixT_at hlt]
    rfl
   have hset:=txU_set (P:=mixT P' i) (i:=i) hl3
   rw [← mixT_step hlt] at hset
   simp only [mixT_at hlt] at hset
   have hmn:=min_len (P'[i]).1.ops.length 6
   rw [show ((6:Nat):Int)=6 from rfl] at hmn
   have hsl:=fun L u=>slSl4_to (L:=L) (u:=u) (n:=(P'[i]).1.ops.length) (i:=min (P'[i]).1.ops.length 6) (Nat.min_le_left _ _)
   have hs6:(sixT (P'[i]).1).ops.length=min (P'[i]).1.ops.length 6:=by simp only [sixT,List.length_take,Nat.min_comm]
   rw [hs6] at hset
   have n1':¬ 2 * u=0:=by omega
   have n2':¬ 2 * u=128:=by omega
   have hlen:i * 3+2+1≤((mixT P' i).flatMap txU).length:=by rw [flatMap_len txU_len];omega
   simp [h3,f1,o1,objCells,hXl,hlt,hixT,h5,hcell,hmn,hsl,fr,n1',n2',hset]
   have hq:∀ q∈mixT P' (i+1),InO s1.ob N2 ub1 q∧q.2≠u:=by
    intro q hq
    rw [mixT_step hlt] at hq
    rcases mem_modify hq with hq | ⟨x,hx,rfl⟩
    ·exact ⟨gX.1 q hq,h4 q hq⟩
    ·have hx':=List.mem_of_getElem? hx
     exact ⟨(gX.1 x hx').six,h4 x hx'⟩
   have hll:(mixT P' (i+1)).length=(mixT P' i).length:=by rw [mixT_len,mixT_len]
   refine ⟨by have:=hlen;simp only [List.length_flatMap,txU_len] at this;exact this,hw,o2,gS.frame (fun y y1 y2=>?_) (Nat.le_refl _) (Nat.le_refl _),gK.frame (fun y y1 y2=>?_) (Nat.le_refl _) (Nat.le_refl _),fun q hqm=>?_,.inr ⟨?_,u,h1,h2,fun q hqm=>(hq q hqm).2,by rw [hll],by simp⟩⟩
   ·have w:¬ 2 * y=2 * u:=by omega
    simp [w]
   ·have w:¬ 2 * y=2 * u:=by omega
    simp [w]
   ·obtain ⟨a,b⟩:=hq q hqm
    have w:¬ 2 * q.2=2 * u:=by omega
    exact a.frame (by simp [w]) (Nat.le_refl _)
   ·intro e
    rw [e] at hll
    simp at hll
    omega
  ·have:i=P'.length:=by omega
   subst this
   simp [h3,f1,o1,objCells,hXl,f2,o2,splice,fr,gS.leaf.1,gK.leaf.1,lT'.1]
   rw [← hPP]
   have hml:(mixT P' P'.length).isEmpty=(few8 h).tn:=by rw [hn8];exact isEmpty_len mixT_len
   refine kE1 (g:=few8 h) (l:=129) (u:=64) (x:=Sv) (y:=Kv) (z:=Tv') (by simp [fd]) (by simp [f2]) (by simp) ?_ ?_ ?_
   ·rw [e1,e2]
    refine StO.out (lo:=192+256) (hi:=N1) (gS.frame (fun y q1 q2=>?_) (Nat.le_refl _) (Nat.le_refl _)) (by simp [fr])
    have w:¬ 2 * y=128:=by omega
    simp [w]
   ·rw [e3,e4]
    refine StO.out (lo:=N1) (hi:=N2) (gK.frame (fun y q1 q2=>?_) (Nat.le_refl _) (Nat.le_refl _)) (by simp [fr])
    have w:¬ 2 * y=128:=by omega
    simp [w]
   ·have hl9:(few8 h).ts.length=(mixT P' P'.length).length:=by rw [ht8,mixT_len];simp
    rw [hl9,← hml,ht8,← mixT_end]
    refine TsO.out (lo:=N2) (hi:=ub1) (gX.frame (fun y q1 q2=>?_) (Nat.le_refl _)) (by simp [fr])
    have w:¬ 2 * y=128:=by omega
    simp [w]
 refine ⟨⟨lS,lK,lT⟩,?_⟩
 simp [hTl]
 have q1:∀ y,192≤y→¬ 2 * y=0:=fun y hy=>by omega
 by_cases h8:8<P.length
 ·have h8':(8:Int)<(P.length:Int):=by omega
  simp [h8',objCells,splice]
  exact rest _ [] (.sl none true 0 []) (by simp) (by unfold few8;rw [if_pos (by rw [hPl];exact h8)];rfl) (by unfold few8;rw [if_pos (by rw [hPl];exact h8)];rfl) (by simp) (by simp) (by simp) (by simp) (by simp) (by simp <;> omega) (by simp) (by simp [b2])
   (gS.frame (fun y y1 y2=>by simp [q1 y (by omega)]) (Nat.le_refl _) (Nat.le_refl _)) (gK.frame (fun y y1 y2=>by simp [q1 y (by omega)]) (Nat.le_refl _) (Nat.le_refl _)) ⟨by simp,.inl ⟨rfl,rfl⟩⟩
 ·have h8':¬ (8:Int)<(P.length:Int):=by omega
  simp [h8']
  exact rest _ P Tv (by omega) (by unfold few8;rw [if_neg (by rw [hPl];exact h8),hP];rfl) (by unfold few8;rw [if_neg (by rw [hPl];exact h8)];show ((h.ts.take 45).map fewT).isEmpty=_;rw [← hP];exact isEmpty_len (by simp)) (by simp) (by simp) (by simp) (by simp) (by simp) (by simp <;> omega) (by simp) (by simp [b2])
   (gS.frame (fun y y1 y2=>by simp [q1 y (by omega)]) (Nat.le_refl _) (Nat.le_refl _)) (gK.frame (fun y y1 y2=>by simp [q1 y (by omega)]) (Nat.le_refl _) (Nat.le_refl _)) (gT.frame (fun y y1 y2=>by simp [q1 y (by omega)]) (Nat.le_refl _))
end Go.Pv.T

/- AxiomHolds. -/
namespace Go.Pv.T
open Go Go.Pv
theorem small8 (h:Hist'):Small (few8 h):=by
 have hs:=small_few h
 unfold few8
 split
 ·exact ⟨hs.ss,hs.sl,hs.ks,hs.kl,by simp,by simp⟩
 ·refine ⟨hs.ss,hs.sl,hs.ks,hs.kl,by simpa using hs.ts,fun t ht=>?_⟩
  simp only [List.mem_map] at ht
  obtain ⟨t',ht',rfl⟩:=ht
  have:=hs.os t' ht'
  simp only [sixT,List.length_take]
  omega
theorem err_is0 {g:Hist'} {lvl:Int} {M O:List Int} (h:errB g lvl M O=0):holdsE g lvl M O=holdsB g lvl M O:=by
 obtain ⟨_,h1,h3,hm,ho⟩:=err0 h
 simp [holdsE,h,holds_eq h1 h3 hm ho]
end Go.Pv.T

/- AxiomLevels. -/
namespace Go.Pv.T
open Go Go.Pv
theorem err_lvl {g:Hist'} {M O:List Int}:errB g 2 M O=errB g 1 M O∧errB g 3 M O=errB g 1 M O:=by simp [errB]
theorem h32 {g:Hist'} {M O:List Int} (h:holdsE g 3 M O=true):holdsE g 2 M O=true:=by
 have h0:errB g 3 M O=0:=by
  unfold holdsE at h
  simp only [Bool.and_eq_true,beq_iff_eq] at h
  exact h.1
 obtain ⟨_,_,_,hm,ho⟩:=err0 h0
 rw [err_is0 h0] at h
 have h0':errB g 2 M O=0:=by rw [err_lvl.1,← err_lvl.2];exact h0
 rw [err_is0 h0']
 exact ser_cc hm ho h
theorem h21 {g:Hist'} {M O:List Int} (h:holdsE g 2 M O=true):holdsE g 1 M O=true:=by
 have h0:errB g 2 M O=0:=by
  unfold holdsE at h
  simp only [Bool.and_eq_true,beq_iff_eq] at h
  exact h.1
 obtain ⟨_,_,_,hm,ho⟩:=err0 h0
 rw [err_is0 h0] at h
 have h0':errB g 1 M O=0:=by rw [← err_lvl.1];exact h0
 rw [err_is0 h0']
 exact cc_rc hm h
set_option maxRecDepth 100000 in
theorem ev7 (h:Hist') {nl on:Bool} {M O:List Int}:Ev E 7 [.agg (histC h),slOf nl intC M,slOf on intC O] (.bool true):=by
 obtain ⟨r,ev,hr⟩:=ev15 h
 have hs:=small8 h
 generalize few8 h=g at *
 have hm1:minmaxV false [.int .i64 (M.length:Int),.int .i64 60]=some (.int .i64 ((min M.length 60:Nat):Int)):=min_len M.length 60
 have hm2:minmaxV false [.int .i64 (O.length:Int),.int .i64 60]=some (.int .i64 ((min O.length 60:Nat):Int)):=min_len O.length 60
 have hk1:min M.length 60≤M.length:=Nat.min_le_left _ _
 have hk2:min O.length 60≤O.length:=Nat.min_le_left _ _
 have hk3:min M.length 60≤60:=Nat.min_le_right _ _
 have hk4:min O.length 60≤60:=Nat.min_le_right _ _
 generalize min M.length 60=k1 at *
 generalize min O.length 60=k2 at *
 have hs1:=sl_head intC_len none nl M hk1
 have hs2:=sl_head intC_len none on O hk2
 have l1:(M.take k1).length≤60:=by rw [List.length_take];omega
 have l2:(O.take k2).length≤60:=by rw [List.length_take];omega
 generalize M.take k1=M' at *
 generalize O.take k2=O' at *
 obtain ⟨vm,evm,hvm⟩:=ev25 nl M' (by omega)
 obtain ⟨vo,evo,hvo⟩:=ev25 on O' (by omega)
 have e1:=ev26 hs 1 (nl:=false) (on:=false) (M:=M') (O:=O') (by omega) (by omega) (by simp)
 have e2:=ev26 hs 2 (nl:=false) (on:=false) (M:=M') (O:=O') (by omega) (by omega) (by simp)
 have e3:=ev26 hs 3 (nl:=false) (on:=false) (M:=M') (O:=O') (by omega) (by omega) (by simp)
 rw [err_lvl.1] at e2
 rw [err_lvl.2] at e3
 have i1:=h32 (g:=g) (M:=M') (O:=O')
 have i2:=h21 (g:=g) (M:=M') (O:=O')
 generalize holdsE g 3 M' O'=x3 at *
 generalize holdsE g 2 M' O'=x2 at *
 generalize holdsE g 1 M' O'=x1 at *
 generalize errB g 1 M' O'=x0 at *
 refine Ev_wpK (af:=F7) rfl ?_
 simp [F7,histC]
 refine kS_ev ev29 (by simp) rfl (by simp) ?_
 simp [objCells]
 refine kD_ev ev (by simp [histC,slOf]) rfl (by simp [histC,slOf]) ?_
 refine retHist hr fun a1 b1 c1 add1=>?_
 simp [hm1,hs1,slOf]
 refine kD_ev evm (by simp [slOf]) rfl (by simp [slOf]) ?_
 refine retSl hvm fun a2 add2=>?_
 simp [hm2,hs2]
 refine kD_ev evo (by simp [slOf]) rfl (by simp [slOf]) ?_
 refine retSl hvo fun a3 add3=>?_
 simp [objCells,splice]
 refine kS_ev e1 (by simp [histC,slOf]) rfl (by simp [histC,slOf]) ?_
 rw [retA_tupl (by simp [V.plain])]
 simp [objCells]
 refine kS_ev e2 (by simp [histC,slOf]) rfl (by simp [histC,slOf]) ?_
 rw [retA_tupl (by simp [V.plain])]
 simp [objCells]
 refine kS_ev e3 (by simp [histC,slOf]) rfl (by simp [histC,slOf]) ?_
 rw [retA_tupl (by simp [V.plain])]
 cases x3
 ·cases x2
  ·simp
   exact endV_1 rfl (by simp) rfl
  ·rw [i2 rfl]
   simp
   exact endV_1 rfl (by simp) rfl
 ·rw [i1 rfl,i2 (i1 rfl)]
  simp
  exact endV_1 rfl (by simp) rfl
end Go.Pv.T

/- slices.Sort at []int: what the kit proves of it, at this program's numbers. -/
namespace Go.Pv.T
open Go Go.Pv Go.Proofs Go.Shelf
def renS:Ren where
 f:=fun x=>match x with
  | 189=>69
  | 125=>118
  | 257=>117
  | 128=>187
  | 129=>188
  | 294=>178
  | 295=>179
  | 296=>180
  | 297=>181
  | 298=>182
  | 299=>183
  | 216=>184
  | 300=>185
  | 301=>186
  | 328=>238
  | 329=>239
  | 330=>240
  | 331=>241
  | 332=>242
  | 215=>243
  | 343=>275
  | n=>n
 t:=fun x=>match x with
  | 28=>26
  | 3=>3
  | 46=>160
  | 0=>0
  | 51=>236
  | 53=>165
  | 4=>4
  | 183=>230
  | 182=>229
  | 131=>157
  | 5=>5
  | 9=>9
  | 218=>275
  | 222=>279
  | 228=>307
  | 229=>304
  | n=>n
 g:=fun x=>x
theorem laysS:Lays.n189 Tryz.prog renS where
 mixed:=by kernel_rfl
 f125:=Tryz.func118.trans (congrArg some (by kernel_rfl))
 f128:=Tryz.func187.trans (congrArg some (by kernel_rfl))
 f129:=Tryz.func188.trans (congrArg some (by kernel_rfl))
 f189:=Tryz.func69.trans (congrArg some (by kernel_rfl))
 f215:=Tryz.func243.trans (congrArg some (by kernel_rfl))
 f216:=Tryz.func184.trans (congrArg some (by kernel_rfl))
 f257:=Tryz.func117.trans (congrArg some (by kernel_rfl))
 f294:=Tryz.func178.trans (congrArg some (by kernel_rfl))
 f295:=Tryz.func179.trans (congrArg some (by kernel_rfl))
 f296:=Tryz.func180.trans (congrArg some (by kernel_rfl))
 f297:=Tryz.func181.trans (congrArg some (by kernel_rfl))
 f298:=Tryz.func182.trans (congrArg some (by kernel_rfl))
 f299:=Tryz.func183.trans (congrArg some (by kernel_rfl))
 f300:=Tryz.func185.trans (congrArg some (by kernel_rfl))
 f301:=Tryz.func186.trans (congrArg some (by kernel_rfl))
 f328:=Tryz.func238.trans (congrArg some (by kernel_rfl))
 f329:=Tryz.func239.trans (congrArg some (by kernel_rfl))
 f330:=Tryz.func240.trans (congrArg some (by kernel_rfl))
 f331:=Tryz.func241.trans (congrArg some (by kernel_rfl))
 f332:=Tryz.func242.trans (congrArg some (by kernel_rfl))
 f343:=Tryz.func275.trans (congrArg some (by kernel_rfl))
 t0:=Tryz.underlying0
 a0:=Tryz.isAgg0
 z0:=Tryz.sizeOf0
 v0:=Tryz.zeroValue0
 t3:=Tryz.underlying3
 a3:=Tryz.isAgg3
 z3:=Tryz.sizeOf3
 v3:=Tryz.zeroValue3
 t4:=Tryz.underlying4
 a4:=Tryz.isAgg4
 z4:=Tryz.sizeOf4
 v4:=Tryz.zeroValue4
 t5:=Tryz.underlying5
 a5:=Tryz.isAgg5
 z5:=Tryz.sizeOf5
 v5:=Tryz.zeroValue5
 t9:=Tryz.underlying9
 a9:=Tryz.isAgg9
 z9:=Tryz.sizeOf9
 v9:=Tryz.zeroValue9
 t28:=Tryz.underlying26
 a28:=Tryz.isAgg26
 z28:=Tryz.sizeOf26
 v28:=Tryz.zeroValue26
 t46:=Tryz.underlying160
 a46:=Tryz.isAgg160
 z46:=Tryz.sizeOf160
 v46:=Tryz.zeroValue160
 t51:=Tryz.underlying236
 a51:=Tryz.isAgg236
 z51:=Tryz.sizeOf236
 v51:=Tryz.zeroValue236
 t53:=Tryz.underlying165
 a53:=Tryz.isAgg165
 z53:=Tryz.sizeOf165
 v53:=Tryz.zeroValue165
 t131:=Tryz.underlying157
 a131:=Tryz.isAgg157
 z131:=Tryz.sizeOf157
 v131:=Tryz.zeroValue157
 t182:=Tryz.underlying229
 a182:=Tryz.isAgg229
 z182:=Tryz.sizeOf229
 v182:=Tryz.zeroValue229
 t183:=Tryz.underlying230
 a183:=Tryz.isAgg230
 z183:=Tryz.sizeOf230
 v183:=Tryz.zeroValue230
 t218:=Tryz.underlying275
 a218:=Tryz.isAgg275
 z218:=Tryz.sizeOf275
 v218:=Tryz.zeroValue275
 t222:=Tryz.underlying279
 a222:=Tryz.isAgg279
 z222:=Tryz.sizeOf279
 v222:=Tryz.zeroValue279
 t228:=Tryz.underlying307
 a228:=Tryz.isAgg307
 z228:=Tryz.sizeOf307
 v228:=Tryz.zeroValue307
 t229:=Tryz.underlying304
 a229:=Tryz.isAgg304
 z229:=Tryz.sizeOf304
 v229:=Tryz.zeroValue304
theorem sortLaw:SortLaw Tryz.prog 69:=by
 refine ⟨⟨Tryz.f69,_,Tryz.func69,rfl,by kernel_rfl⟩,fun p cap w=>?_,fun blk off cap zs w h1 h2 h3=>?_⟩
 ·exact Any.slices_Sort_int_none laysS p cap w
 ·exact Any.slices_Sort_int laysS blk off cap zs w h1 h2 h3
end Go.Pv.T
