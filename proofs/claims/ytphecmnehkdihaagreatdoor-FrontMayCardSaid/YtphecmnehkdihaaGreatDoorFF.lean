/- Axioms: the reference's walk of past. -/
import Derived.Test.YtphecmnehkdihaaGreatDoorFE
import Derived.Shelf.Sort.Plain
import Derived.Shelf.Slices.In.SortNone
import Derived.Test.YtphecmnehkdihaaGreatDoorRows
import Derived.WalkKit
import Derived.Test.YtphecmnehkdihaaGreatDoorTie
import Derived.ProofKit
import Derived.LaidMore
import Derived.OpenShut
import Derived.Stop.Joined
import Derived.SizedLaws
import Derived.Carry
import Derived.Handed
set_option maxRecDepth 100000
namespace Go.Pv.T
open Go Go.Pv
end Go.Pv.T
namespace Go.Pv.T
open Go Go.Pv
end Go.Pv.T
namespace Go.Pv.T
open Go Go.Pv
theorem jhg (g:Hist'):(comL g).length≤g.ts.length:=JQ JV g.ts g.ts.length
theorem jkf {g:Hist'} (hm:X7 g=true) {q:Nat} (hq:q<(readH g).length):∃ (i k:Nat) (hi:i<g.ts.length) (hk:k<(g.ts[i]).ops.length),(readH g)[q]=((i:Int),(k:Int))∧jao g (readH g)[q]=((g.ts[i]).ops[k]).key∧JI g i=true:=by
 obtain ⟨i,k,t,e,ht,hc,hk,_⟩:=jdk (List.getElem_mem hq)
 obtain ⟨hi,rfl⟩:=List.getElem?_eq_some_iff.1 ht
 refine ⟨i,k,hi,hk,e,?_,by simpa [JI,hi] using hc⟩
 rw [e]
 have:opAt g (i:Int) (k:Int)=some (g.ts[i]).ops[k]:=by
  unfold opAt
  simp [hm,hi,hk,List.getD_eq_getElem?_getD]
 unfold jao
 simp only [this]
theorem Ym {g:Hist'} (h:JE g=true):X7 g=true:=by
 unfold JE at h
 simp only [Bool.and_eq_true] at h
 exact h.1
def Off (ub key:Nat):Prop:=∀ m,ub≤m→¬ key=2 * m+1
theorem Off.up {ub ub' key:Nat} (h:Off ub key) (hu:ub≤ub'):Off ub' key:=fun m hm=>h m (Nat.le_trans hu hm)
theorem Off.new {ub m:Nat} (h:m<ub):Off ub (2 * m+1):=fun k hk e=>by omega
def Was (ub:Nat) (ob ob':ZO):Prop:=∀ key,Off ub key→ob' key=ob key
theorem Was.trans {ub ub1:Nat} {ob ob1 ob2:ZO} (h:Was ub ob ob1) (h':Was ub1 ob1 ob2) (hu:ub≤ub1):Was ub ob ob2:=fun key hk=>(h' key (hk.up hu)).trans (h key hk)
theorem Was.refl (ub:Nat) (ob:ZO):Was ub ob ob:=fun _ _=>rfl
structure JN where
 tr:Option (Nat × Nat)
 nr:Bool
 nm:Bool
 kJ:Nat
 uJ:Nat
 kA:Nat
 uA:Nat
 kP:Nat
 uP:Nat
 rows:List (Nat × Nat)
def farL (g:Hist') (M:List Int) (b:Nat):List Bool:=(List.range g.ts.length).map (j2m g M b)
def rowC (n:Nat) (r:Nat × Nat):V:=.osl r.1 r.2 0 n 1
structure Jd (g:Hist') (lvl:Int) (M O:List Int) (N:JN) (ob:ZO) (ub:Nat):Prop where
 j:ob N.kJ=some ⟨N.uJ,.cells [.int .i64 lvl,jK g.sn JF g.ss,jK g.kn JF g.ks,jK g.tn jk g.ts,.sl N.tr N.nr (readH g).length ((readH g).flatMap jG),jK N.nm intC M,.map N.kA N.uA,if lvl=2 then .osl N.kP N.uP 0 g.ts.length 1 else .sl none true 0 []]⟩
 a:∃ ver,ob N.kA=some ⟨N.uA,.mp ver (MP ja0 (atM O O.length))⟩
 p:lvl=2→ob N.kP=some ⟨N.uP,.cells (N.rows.map (rowC g.ts.length))⟩∧N.rows.length=g.ts.length∧(∀ b (h:b<N.rows.length),ob (N.rows[b]).1=some ⟨(N.rows[b]).2,.cells ((farL g M b).map V.bool)⟩)∧Off ub N.kP∧∀ r∈N.rows,Off ub r.1
 fj:Off ub N.kJ
 fa:Off ub N.kA
 odd:N.kJ % 2=1∧N.kA % 2=1∧(lvl=2→N.kP % 2=1∧∀ r∈N.rows,r.1 % 2=1)
theorem Jd.keep {g:Hist'} {lvl:Int} {M O:List Int} {N:JN} {ob ob':ZO} {ub ub':Nat} (h:Jd g lvl M O N ob ub) (hw:Was ub ob ob') (hu:ub≤ub'):Jd g lvl M O N ob' ub':=by
 refine ⟨(hw _ h.fj).trans h.j,?_,fun h2=>?_,h.fj.up hu,h.fa.up hu,h.odd⟩
 ·obtain ⟨ver,e⟩:=h.a
  exact ⟨ver,(hw _ h.fa).trans e⟩
 ·obtain ⟨p1,p2,p3,p4,p5⟩:=h.p h2
  exact ⟨(hw _ p4).trans p1,p2,fun b hb=>(hw _ (p5 _ (List.getElem_mem hb))).trans (p3 b hb),p4.up hu,fun r hr=>(p5 r hr).up hu⟩
theorem Jd.map {g:Hist'} {lvl:Int} {M O:List Int} {N:JN} {ob:ZO} {ub:Nat} (h:Jd g lvl M O N ob ub) (ho:X0 g O=true) {t:Int} (ht:t = -1∨t∈comL g):XY ob .int (.int .i64 0) false (.map N.kA N.uA) (.int .i64 t)=some (.int .i64 (atO O t)):=by
 obtain ⟨ver,e⟩:=h.a
 rw [QC (atM O O.length) (by simp [jR,e]),atM_eq ho ht]
theorem j86 {l u n x sz:Nat} {kk:IntKind} (hx:x<n):Jk sz (.osl l u 0 n sz) (.int kk (x:Int))=some (.ptr l u (x * sz)):=by simp [Jk,hx]
theorem XD {a b:Nat} (h:¬ a=b):Nat.beq a b=false:=by
 cases e:Nat.beq a b
 ·rfl
 ·exact absurd (Nat.eq_of_beq_eq_true e) h
end Go.Pv.T
namespace Go.Pv.T
open Go Go.Pv
end Go.Pv.T
namespace Go.Pv.T
open Go Go.Pv
theorem two_inj {a b:Nat}:(2 * a=2 * b)=(a=b):=propext ⟨fun h=>by omega,fun h=>by rw [h]⟩
theorem jvs {l u o:Nat}:(V.ptr l u o).leaf=true:=rfl
def rdC (r:Int × Int × Int):List V:=[.int .i64 r.1,.int .i64 r.2.1,.int .i64 r.2.2]
theorem jkh (r:Int × Int × Int):(rdC r).length=3:=rfl
structure WN where
 kW:Nat
 uW:Nat
 kR:Nat
 uR:Nat
 kA:Nat
 uA:Nat
 kL:Nat
 uL:Nat
 kS:Nat
 uS:Nat
 kP:Nat
 uP:Nat
def wC (g:Hist') (lvl:Int) (N:WN):List V:=[.int .i64 lvl,jK g.sn JF g.ss,jK g.kn JF g.ks,jK g.tn jk g.ts,.map N.kR N.uR,.map N.kA N.uA,.map N.kL N.uL,.map N.kS N.uS,.map N.kP N.uP]
structure Fix (N:WN) (ub key:Nat):Prop where
 a:key≠N.kA
 l:key≠N.kL
 s:key≠N.kS
 p:key≠N.kP
 f:Off ub key
 o:key % 2=1
def RowV (N:WN) (ob:ZO) (ub:Nat) (v:V) (rs:List (Int × Int × Int)):Prop :=
 (v = .sl none true 0 []∧rs=[])∨∃ l u,v = .osl l u 0 rs.length 3∧ob l=some ⟨u,.cells (rs.flatMap rdC)⟩∧Fix N ub l
def InM (N:WN) (ob:ZO) (ub:Nat) (v:V) (L:List Int):Prop :=
 (v = .nilmap∧L=[])∨∃ l u ver m,v = .map l u∧ob l=some ⟨u,.mp ver (MP ja0 m)⟩∧(∀ a,a∈m.map (·.1) ↔ a∈L)∧Fix N ub l
def mapV (p:Nat × Nat):V:=.map p.1 p.2
def rowV (p:Nat × Nat × Nat):V:=.osl p.1 p.2.1 0 p.2.2 3
structure Wk (g:Hist') (lvl:Int) (M:List Int) (N:WN) (A L S:List (Int × Int)) (P:Int→List Int) (ob:ZO) (ub:Nat):Prop where
 w:ob N.kW=some ⟨N.uW,.cells (wC g lvl N)⟩
 r:∃ ver mr,ob N.kR=some ⟨N.uR,.mp ver (MP rowV mr)⟩∧∀ t,RowV N ob ub (((jf mr t).map fun p=>rowV p.2).getD (.sl none true 0 [])) (rdsT g M t)
 a:∃ ver,ob N.kA=some ⟨N.uA,.mp ver (MP ja0 A)⟩
 l:∃ ver,ob N.kL=some ⟨N.uL,.mp ver (MP ja0 L)⟩
 s:∃ ver,ob N.kS=some ⟨N.uS,.mp ver (MP ja0 S)⟩
 p:∃ ver mp,ob N.kP=some ⟨N.uP,.mp ver (MP mapV mp)⟩∧∀ t,InM N ob ub (((jf mp t).map fun p=>mapV p.2).getD .nilmap) (P t)
 fw:Fix N ub N.kW
 fr:Fix N ub N.kR
 fa:Off ub N.kA
 fl:Off ub N.kL
 fs:Off ub N.kS
 fp:Off ub N.kP
 odd:N.kA % 2=1∧N.kL % 2=1∧N.kS % 2=1∧N.kP % 2=1
 ne:N.kA≠N.kL∧N.kA≠N.kS∧N.kA≠N.kP∧N.kL≠N.kS∧N.kL≠N.kP∧N.kS≠N.kP
section
variable {g:Hist'} {lvl:Int} {M:List Int} {N:WN} {A L S:List (Int × Int)} {P:Int→List Int} {ob ob':ZO} {ub ub':Nat}
theorem Fix.up {key:Nat} (h:Fix N ub key) (hu:ub≤ub'):Fix N ub' key:=⟨h.a,h.l,h.s,h.p,h.f.up hu,h.o⟩
theorem RowV.keep {v:V} {rs:List (Int × Int × Int)} (h:RowV N ob ub v rs) (hw:∀ key,Fix N ub key→ob' key=ob key) (hu:ub≤ub'):RowV N ob' ub' v rs:=by
 rcases h with h | ⟨l,u,h1,h2,h3⟩
 ·exact .inl h
 ·exact .inr ⟨l,u,h1,(hw _ h3).trans h2,h3.up hu⟩
theorem InM.keep {v:V} {l:List Int} (h:InM N ob ub v l) (hw:∀ key,Fix N ub key→ob' key=ob key) (hu:ub≤ub'):InM N ob' ub' v l:=by
 rcases h with h | ⟨l,u,ver,m,h1,h2,h3,h4⟩
 ·exact .inl h
 ·exact .inr ⟨l,u,ver,m,h1,(hw _ h4).trans h2,h3,h4.up hu⟩
theorem Wk.keep (h:Wk g lvl M N A L S P ob ub) (hw:∀ key,Off ub key→key % 2=1→ob' key=ob key) (hu:ub≤ub'):Wk g lvl M N A L S P ob' ub':=by
 have hf:∀ key,Fix N ub key→ob' key=ob key:=fun key hk=>hw key hk.f hk.o
 obtain ⟨o1,o2,o3,o4⟩:=h.odd
 obtain ⟨rv,mr,r1,r2⟩:=h.r
 obtain ⟨av,a1⟩:=h.a
 obtain ⟨lv,l1⟩:=h.l
 obtain ⟨sv,s1⟩:=h.s
 obtain ⟨pv,mp,p1,p2⟩:=h.p
 exact ⟨(hf _ h.fw).trans h.w,⟨rv,mr,(hf _ h.fr).trans r1,fun t=>(r2 t).keep hf hu⟩,⟨av,(hw _ h.fa o1).trans a1⟩,⟨lv,(hw _ h.fl o2).trans l1⟩,⟨sv,(hw _ h.fs o3).trans s1⟩,
  ⟨pv,mp,(hw _ h.fp o4).trans p1,fun t=>(p2 t).keep hf hu⟩,h.fw.up hu,h.fr.up hu,h.fa.up hu,h.fl.up hu,h.fs.up hu,h.fp.up hu,h.odd,h.ne⟩
theorem Wk.at (h:Wk g lvl M N A L S P ob ub) {ob':ZO} (e:ob' N.kA=ob N.kA) (t:Int):XY ob' .int (.int .i64 0) false (.map N.kA N.uA) (.int .i64 t)=some (.int .i64 (X9 A t)):=by
 obtain ⟨ver,h1⟩:=h.a
 exact QC A (by simp [jR,e,h1])
theorem Off.ne {key:Nat} (h:Off ub key):∀ m,ub≤m→¬ key=2 * m+1:=h
end
end Go.Pv.T
namespace Go.Pv.T
abbrev R3:Type:=Option (List Nat) × Bool × List Nat
def loopM (rec:Nat→List Nat→List Nat→R3) (nx:Nat→Nat→Bool) (w:Nat) (done:List Nat):List Nat→List Nat→R3
 | [],vis=>(none,false,vis)
 | t::r,vis=>if w.testBit t || (!nx w t || vis.contains (w ||| 1 <<< t)) then loopM rec nx w done r vis else
  match rec (w ||| 1 <<< t) (done++[t]) vis with
  | (none,false,v)=>loopM rec nx w done r v
  | x=>x
def onM (nx:Nat→Nat→Bool) (C:List Nat) (most:Int):Nat→Nat→List Nat→List Nat→R3
 | 0,w,done,vis=>if (vis.length:Int)=most then (none,true,vis) else (some done,false,vis++[w])
 | n+1,w,done,vis=>if (vis.length:Int)=most then (none,true,vis) else loopM (onM nx C most n) nx w done C (vis++[w])
theorem jjo (w t a:Nat):(w ||| 1 <<< t).testBit a=(w.testBit a || decide (t=a)):=by
 rw [Nat.testBit_or,Nat.one_shiftLeft,Nat.testBit_two_pow]
def cnt (C:List Nat) (w:Nat):Nat:=(C.filter fun t=>w.testBit t).length
theorem jzc {w t:Nat}:∀ {C:List Nat},C.Nodup→t∈C→w.testBit t=false→cnt C (w ||| 1 <<< t)=cnt C w+1
 | [],_,h,_=>by cases h
 | c::C,hn,h,hw=>by
  rw [List.nodup_cons] at hn
  unfold cnt
  rw [List.filter_cons,List.filter_cons]
  by_cases e:t=c
  ·subst e
   have:(C.filter fun a=>(w ||| 1 <<< t).testBit a)=C.filter fun a=>w.testBit a:=by
    refine List.filter_congr fun a ha=>?_
    have:t≠a:=fun e=>hn.1 (e ▸ ha)
    rw [jjo];simp [this]
   rw [this,jjo]
   simp [hw]
  ·have h':t∈C:=by
    rcases List.mem_cons.1 h with h | h
    ·exact absurd h e
    ·exact h
   have ih:=jzc hn.2 h' hw
   unfold cnt at ih
   rw [jjo]
   simp only [e,decide_false,Bool.or_false]
   split
   ·simp only [List.length_cons,ih]
   ·exact ih
def j0x (nx:Nat→Nat→Bool):Nat→List Nat→Bool
 | _,[]=>true
 | w,t::r=>!w.testBit t && (nx w t && j0x nx (w ||| 1 <<< t) r)
def Full (nx:Nat→Nat→Bool) (C:List Nat) (w:Nat) (L:List Nat):Prop:=(∀ t∈L,t∈C)∧cnt C w+L.length=C.length∧j0x nx w L=true
def Dead (nx:Nat→Nat→Bool) (C:List Nat) (w:Nat):Prop:=∀ L,¬ Full nx C w L
def j8l:List Nat→List Nat→Bool
 | a::l,b::m=>if a=b then j8l l m else decide (a<b)
 | _,_=>false
section
variable {nx:Nat→Nat→Bool} {C:List Nat} {most:Int}
theorem Full.cons {w t:Nat} {L:List Nat} (hn:C.Nodup) (h:Full nx C w (t::L)):t∈C∧w.testBit t=false∧nx w t=true∧Full nx C (w ||| 1 <<< t) L:=by
 obtain ⟨h1,h2,h3⟩:=h
 simp only [j0x,Bool.and_eq_true,Bool.not_eq_true'] at h3
 have ht:=h1 t (List.mem_cons_self ..)
 refine ⟨ht,h3.1,h3.2.1,fun a ha=>h1 a (List.mem_cons_of_mem _ ha),?_,h3.2.2⟩
 rw [jzc hn ht h3.1]
 simp only [List.length_cons] at h2
 omega
structure Found (nx:Nat→Nat→Bool) (C:List Nat) (w:Nat) (done vis:List Nat) (r:R3):Prop where
 sub:∀ v∈vis,v∈r.2.2
 no:r.1=none→r.2.1=false→Dead nx C w∧∀ v∈r.2.2,v∈vis∨Dead nx C v
 yes:∀ l,r.1=some l→r.2.1=false∧∃ L,l=done++L∧Full nx C w L∧∀ L',Full nx C w L'→j8l L' L=false
end
end Go.Pv.T
namespace Go.Pv.T
open Go Go.Pv
def setC (w:Nat):List V:=[.int .u64 w,.int .u64 0,.int .u64 0,.int .u64 0,.int .u64 0,.int .u64 0,.int .u64 0,.int .u64 0]
theorem jh8:setC 0=j4p:=rfl
theorem jld {n:Nat} (h:n<64):IntKind.i64.wrap ((n:Int) / 64)=0:=by
 rw [show (n:Int) / 64=0 by omega];rfl
theorem jlc {n:Nat} (h:n<64):(n:Int).tmod 64=n:=Int.tmod_eq_of_lt (by omega) (by omega)
theorem jzy {w n:Nat} (hn:n<64):Xz .shr (.int .u64 (w:Int)) (.int .i64 (n:Int))=some (.int .u64 ((w >>> n:Nat):Int)):=by
 simp only [Xz,Q6]
 rw [if_neg (by omega)]
 congr 2
 rw [Int.toNat_natCast,show IntKind.u64.bits=64 from rfl,Nat.min_eq_left (Nat.le_of_lt hn),Nat.shiftRight_eq_div_pow,Int.fdiv_eq_ediv_of_nonneg _ (Int.le_of_lt (Int.pow_pos (by decide)))]
 simp
theorem jgi {n:Nat} (h:n<64):Xz .shl (.int .u64 1) (.int .i64 (n:Int))=some (.int .u64 ((1 <<< n:Nat):Int)):=by
 have hp:2 ^ n<2 ^ 64:=Nat.pow_lt_pow_right (by decide) h
 have:=jqd (a:=1) (k:=n) rfl (by omega) (by omega)
 rw [Nat.one_shiftLeft]
 rw [Nat.one_mul] at this
 exact this
theorem j24 (w n:Nat):((((w >>> n) &&& 1:Nat):Int) == 1)=w.testBit n:=by
 rw [Nat.testBit,Nat.and_comm 1,Nat.and_one_is_mod]
 rcases Nat.mod_two_eq_zero_or_one (w >>> n) with h | h <;> rw [h] <;> rfl
theorem j37 {w n:Nat} (hw:w<2 ^ 64):w >>> n<2 ^ 64:=by
 rw [Nat.shiftRight_eq_div_pow]
 exact Nat.lt_of_le_of_lt (Nat.div_le_self _ _) hw
theorem jmt {n:Nat} (h:n<64):1 <<< n<2 ^ 64:=by
 rw [Nat.one_shiftLeft]
 exact Nat.pow_lt_pow_right (by decide) h
theorem or_lt {w n:Nat} (hw:w<2 ^ 64) (h:n<64):w ||| 1 <<< n<2 ^ 64:=Nat.or_lt_two_pow hw (jmt h)
def jpi (w n:Nat):Nat:=(BitVec.ofNat 64 w &&& ~~~ BitVec.ofNat 64 (1 <<< n)).toNat
theorem jxx {w n:Nat} (hw:w<2 ^ 64) (hn:n<64) (h:w.testBit n=false):jpi (w ||| 1 <<< n) n=w:=by
 unfold jpi
 refine Nat.eq_of_testBit_eq fun i=>?_
 rw [BitVec.testBit_toNat,BitVec.getLsbD_and,BitVec.getLsbD_not,BitVec.getLsbD_ofNat,BitVec.getLsbD_ofNat,jjo,Nat.one_shiftLeft,Nat.testBit_two_pow]
 by_cases hi:i<64
 ·by_cases e:n=i
  ·subst e
   simp [h]
  ·simp [hi,e]
 ·have:w.testBit i=false:=Nat.testBit_lt_two_pow (Nat.lt_of_lt_of_le hw (Nat.pow_le_pow_right (by decide) (by omega)))
  simp [hi,this]
theorem jn4 {a b:Nat}:Xz .andNot (.int .u64 (a:Int)) (.int .u64 (b:Int))=some (.int .u64 (((BitVec.ofNat 64 a &&& ~~~ BitVec.ofNat 64 b).toNat:Nat):Int)):=by
 simp only [Xz,XJ,if_true]
 rw [show IntKind.u64.bits=64 from rfl,BitVec.ofInt_natCast,BitVec.ofInt_natCast,IntKind.wrap_u64]
 congr 2
 have:=(BitVec.ofNat 64 a &&& ~~~ BitVec.ofNat 64 b).isLt
 omega
@[simp] theorem eqVV_pn (ob:ZO) (neg:Bool) (l u o:Nat):juk ob neg .ptr (.ptr l u o) .nilptr=some (.bool (xor neg false)):=rfl
@[simp] theorem idxArr0 (k u:Nat):Wu 8 1 (.ptr k u 0) (.int .i64 0)=some (.ptr k u 0):=rfl
section
variable {ob:ZO} {ub k u w n:Nat}
theorem ev189 (hn:n<500):Ev E 189 [.int .i64 (n:Int)] (.bool true):=by
 refine jT (af:=F189) rfl ?_
 simp [F189]
 exact j3 (by simp) (by simp;omega) rfl
theorem jts (hn:n<500) (tk:Nat→Bool) (base:Nat):EvO E 128 [.ptr k u 0,.int .i64 (n:Int)] ob tk base ub (.int .i64 0):=by
 refine JU (af:=S128) rfl ?_
 simp [S128]
 refine jX (ev189 hn) (by simp) rfl (by simp) ?_
 simp
 exact j3 (by simp) (by simp) rfl
theorem jjj (hk:ob k=some ⟨u,.cells (setC w)⟩) (ho:Off ub k) (hn:n<64) (hw:w<2 ^ 64) (tk:Nat→Bool) (base:Nat):EvO E 124 [.ptr k u 0,.int .i64 (n:Int)] ob tk base ub (.bool (w.testBit n)):=by
 refine JU (af:=S124) rfl ?_
 have g:=ho.ne
 simp [S124]
 refine JA (vs:=[.ptr k u 0,.int .i64 n]) (by simp) rfl rfl (jts (by omega) _ _) ?_
 have h1:=jzy (w:=w) hn
 have h2:=jj6 (m:=1) (b:=1) rfl (j37 (n:=n) hw) (by decide)
 have h3:=j24 w n
 generalize w >>> n &&& 1=z at h2 h3
 generalize w >>> n=q at h1 h2
 simp (disch:=first | (simp;done) | omega) [jld hn,jlc hn,j1,g,hk,setC,h1,h2,h3]
 exact j3 (by simp) (by simp) rfl
def PutR (ob:ZO) (ub k u w:Nat) (r:V × (ZO) × (Nat→Bool) × Nat):Prop :=
 r.1 = .int .i64 0∧(∀ key,Off ub key→r.2.1 key=if key=k then some ⟨u,.cells (setC w)⟩ else ob key)∧ub≤r.2.2.2
theorem sv81 {Yf:YF} {tk:Nat→Bool} {ro base:Nat} (hk:ob k=some ⟨u,.cells (setC w)⟩) (ho:Off ub k) (hro:ro≤u) (hn:n<64) (hw:w<2 ^ 64) :
 ∃ r,EvS E Yf.y 81 [.ptr k u 0,.int .i64 (n:Int)] ob tk ro base ub r∧PutR ob ub k u (w ||| 1 <<< n) r:=by
 refine Wa (af:=S81) rfl (by decide) ?_
 show wpC E Yf S81.body _ (Qn S81.res _)
 have g:=ho.ne
 simp [S81]
 refine JA (vs:=[.ptr k u 0,.int .i64 n]) (by simp) rfl rfl (jts (by omega) _ _) ?_
 have h1:=jgi hn
 have h2:=jhz hw (jmt hn)
 generalize w ||| 1 <<< n=z at h2 ⊢
 generalize 1 <<< n=q at h1 h2
 simp (disch:=first | (simp;done) | omega) [jld hn,jlc hn,j1,g,hk,setC,h1,h2,j7]
 refine ⟨hro,Q0 (by simp) ⟨by simp,fun key hk=>?_,by simp;omega⟩⟩
 have g:=hk.ne
 simp (disch:=first | (simp;done) | omega) [g,j5,setC]
theorem sv125 {Yf:YF} {tk:Nat→Bool} {ro base:Nat} (hk:ob k=some ⟨u,.cells (setC w)⟩) (ho:Off ub k) (hro:ro≤u) (hn:n<64) :
 ∃ r,EvS E Yf.y 125 [.ptr k u 0,.int .i64 (n:Int)] ob tk ro base ub r∧PutR ob ub k u (jpi w n) r:=by
 refine Wa (af:=S125) rfl (by decide) ?_
 show wpC E Yf S125.body _ (Qn S125.res _)
 have g:=ho.ne
 simp [S125]
 refine JA (vs:=[.ptr k u 0,.int .i64 n]) (by simp) rfl rfl (jts (by omega) _ _) ?_
 have h1:=jgi hn
 have h2:=jn4 (a:=w) (b:=1 <<< n)
 rw [show (BitVec.ofNat 64 w &&& ~~~ BitVec.ofNat 64 (1 <<< n)).toNat=jpi w n from rfl] at h2
 generalize jpi w n=z at h2 ⊢
 generalize 1 <<< n=q at h1 h2
 simp (disch:=first | (simp;done) | omega) [jld hn,jlc hn,j1,g,hk,setC,h1,h2,j7]
 refine ⟨hro,Q0 (by simp) ⟨by simp,fun key hk=>?_,by simp;omega⟩⟩
 have g:=hk.ne
 simp (disch:=first | (simp;done) | omega) [g,j5,setC]
def NewR (ob:ZO) (ub:Nat) (r:V × (ZO) × (Nat→Bool) × Nat):Prop :=
 ∃ m,ub≤m∧m<r.2.2.2∧r.1 = .ptr (2 * m+1) m 0∧∀ key,r.2.1 key=if key=2 * m+1 then some ⟨m,.cells (setC 0)⟩ else ob key
theorem j4a {Yf:YF} {tk:Nat→Bool} {ro base:Nat}:∃ r,EvS E Yf.y 78 [.sl none true 0 []] ob tk ro base ub r∧NewR ob ub r:=by
 refine Wa (af:=S78) rfl (by decide) ?_
 show wpC E Yf S78.body _ (Qn S78.res _)
 simp [S78,V.cells]
 refine ⟨1,?_⟩
 simp
 exact Q0 (by simp) ⟨ub+128,by omega,by simp,by simp,fun key=>by simp [setC,j5,Nat.add_assoc]⟩
end
def jdz (g:Hist') (M:List Int) (s:Nat→Bool) (t:Nat):Bool :=
 XS (fun a=>!JI g a || (!(sesAt g a == sesAt g t) || s a)) t && ((readH g).zip M).all fun x =>
  if x.1.1=(t:Int) then decide (x.2<0) || s x.2.toNat else s x.1.1.toNat || (!(decide (x.2<0) || s x.2.toNat) || !Xx g t (jao g x.1))
def nxM (g:Hist') (M:List Int) (w t:Nat):Bool:=jdz g M (fun a=>w.testBit a) t
def comN (g:Hist'):List Nat:=(comL g).map Int.toNat
def ints (L:List Nat):List Int:=L.map fun a:Nat=>(a:Int)
theorem Q2 (g:Hist'):ints (comN g)=comL g:=by
 unfold ints comN
 rw [List.map_map]
 refine (List.map_congr_left fun x hx=>?_).trans (List.map_id _)
 obtain ⟨k,rfl,_⟩:=comL_mem.1 hx
 simp
theorem comN_mem {g:Hist'} {a:Nat}:a∈comN g ↔ JI g a=true:=by
 unfold comN
 rw [List.mem_map]
 constructor
 ·rintro ⟨x,hx,rfl⟩
  obtain ⟨k,rfl,hk⟩:=comL_mem.1 hx
  simpa using hk
 ·exact fun h=>⟨a,comL_mem.2 ⟨a,rfl,h⟩,by simp⟩
theorem jtx (g:Hist'):(comN g).Pairwise (· < ·):=by
 have h:=jll g
 rw [← Q2] at h
 unfold ints at h
 rw [List.pairwise_map] at h
 exact h.imp fun h=>by omega
theorem jhf (g:Hist'):(comN g).length=(comL g).length:=by simp [comN]
def Js (w:Nat) (L:List Nat):Nat:=L.foldl (fun w t=>w ||| 1 <<< t) w
theorem jnq (a:Nat):∀ (L:List Nat) (w:Nat),(Js w L).testBit a=(w.testBit a || L.contains a)
 | [],w=>by simp [Js]
 | x::r,w=>by
  have:=jnq a r (w ||| 1 <<< x)
  unfold Js at this ⊢
  rw [List.foldl_cons,this,jjo,List.contains_cons,Bool.or_assoc]
  congr 2
  rw [Bool.eq_iff_iff,decide_eq_true_eq,beq_iff_eq]
  exact eq_comm
section
variable {g:Hist'} {M:List Int} {O:List Int}
theorem jdy {s s':Nat→Bool} {t:Nat} (h:∀ a,s a=s' a):jdz g M s t=jdz g M s' t:=by
 have:s=s':=funext h
 rw [this]
end
def jd (w:Nat):List Nat:=(List.range 9).filter fun i=>w.testBit i
def jsl (w:Nat):Nat:=(jd w).headD 0
theorem bitsUp_mem {w a:Nat}:a∈jd w ↔ a<9∧w.testBit a=true:=by simp [jd]
theorem jer:jd 0=[]:=rfl
theorem j8q:((List.range 512).all fun w=>w == 0 || (jd w == jsl w::jd (w &&& (w - 1)) && decide (w &&& (w - 1)<512)))=true:=by kernel_rfl
theorem jjn {w:Nat} (hw:w<512) (h:w≠0):jd w=jsl w::jd (w &&& (w - 1))∧w &&& (w - 1)<512:=by
 have:=List.all_eq_true.1 j8q w (List.mem_range.2 hw)
 simpa [h] using this
theorem k190:((List.range 512).all fun w=>w == 0 || (match (callers E 2 noY).d 190 [.int .u64 (w:Nat)] with | some r=>V.eqb r (.int .i64 (jsl w:Nat)) | none=>false))=true:=by kernel_rfl
theorem ev190 {w:Nat} (hw:w<512) (h:w≠0):Ev E 190 [.int .u64 (w:Nat)] (.int .i64 (jsl w:Nat)):=by
 have:=List.all_eq_true.1 k190 w (List.mem_range.2 hw)
 simp only [beq_iff_eq,Bool.or_eq_true,h,false_or] at this
 split at this
 ·rename_i r hr
  exact ⟨2,by rw [hr,Wy _ _ this]⟩
 ·cases this
theorem j8i {w:Nat} (hw:w<512) (h:w≠0):jsl w<9:=by
 have:jsl w∈jd w:=by rw [(jjn hw h).1];exact List.mem_cons_self ..
 exact (bitsUp_mem.1 this).1
theorem jhi (w:Nat):(jd w).length≤9:=by
 unfold jd
 exact Nat.le_trans (List.length_filter_le _ _) (by simp)
theorem j0h {w i:Nat} (h:i<8):(setC w)[i]? = some (.int .u64 (if i=0 then w else 0:Nat)):=by
 match i,h with
 | 0,_=>rfl
 | 1,_=>rfl
 | 2,_=>rfl
 | 3,_=>rfl
 | 4,_=>rfl
 | 5,_=>rfl
 | 6,_=>rfl
 | 7,_=>rfl
section
variable {ob:ZO} {ub k u w:Nat}
theorem jy8 (hk:ob k=some ⟨u,.cells (setC w)⟩) (ho:Off ub k) (hw:w<512) (tk:Nat→Bool) (base:Nat):EvO E 130 [.ptr k u 0] ob tk base ub (jjb (ints (jd w))):=by
 refine JU (af:=S130) rfl ?_
 have g:=ho.ne
 have hl8:(setC w).length=8:=rfl
 simp [S130,j1,hk,hl8]
 refine JM fun st hst=>?_
 have g3:st.tm 3 = .sl none true 0 []:=by rw [hst];simp
 have g11:st.tm 11 = .agg (setC w):=by rw [hst];simp [setC]
 have g12:st.tm 12 = .int .i64 0:=by rw [hst];simp
 have gd:st.df=[]:=by rw [hst];simp
 have gr:st.ro=ub:=by rw [hst];simp
 have gn:ub≤st.nx:=by rw [hst];simp;omega
 clear hst
 obtain ⟨n0,hn0⟩:∃ n,n=st.nx:=⟨_,rfl⟩
 obtain ⟨P,hP⟩:∃ P:Nat→Nat→Prop,P=fun hi u=>ub≤u∧u<hi:=⟨_,rfl⟩
 obtain ⟨J,hJ⟩:∃ J:Nat→St→Prop,J=fun i s=>s.tm 12 = .int .i64 i∧IntsO s.ob (P s.nx) (if i=0 then [] else ints (jd w)) (s.tm 3)∧ub≤s.nx:=⟨_,rfl⟩
 refine jE [(3,5),(12,30)] 8 J rfl rfl (by rw [hJ];exact ⟨by simpa using g12,.inl ⟨rfl,g3⟩,gn⟩) ?_
 intro i s hi hJs f
 rw [hJ] at hJs
 obtain ⟨s12,sI,sn⟩:=hJs
 have s11:s.tm 11 = .agg (setC w):=by rw [f.t 11 (by simp)];simp [g11]
 have sd:s.df=[]:=by rw [f.d];simp [gd]
 have sr:s.ro=ub:=by rw [f.r];simp [gr]
 clear f
 by_cases hlt:i<8
 ·have hwk:=J6 hlt (by decide)
  have hix:jef none 8 1 (.agg (setC w)) (.int .i64 (i:Int))=some (.int .u64 (if i=0 then w else 0:Nat)):=by
   have:=j0h (w:=w) hlt
   have h2:(i:Int)<8:=by omega
   simp [jef,h2,Y4,this]
  have h2:(i:Int)<8:=by omega
  generalize hx0:(if i=0 then w else 0:Nat)=x0 at hix
  simp [s12,s11,h2,hix]
  refine JM fun st hst=>?_
  have t3:st.tm 3=s.tm 3:=by rw [hst];simp
  have t4:st.tm 4 = .int .i64 i:=by rw [hst];simp [s12]
  have t5:st.tm 5 = .int .u64 x0:=by rw [hst];simp
  have t12:st.tm 12 = .int .i64 i:=by rw [hst];simp [s12]
  have td:st.df=[]:=by rw [hst];simp [sd]
  have tr:st.ro=ub:=by rw [hst];simp [sr]
  have to:st.ob=s.ob:=by rw [hst];simp
  have tn:s.nx≤st.nx:=by rw [hst];simp;omega
  clear hst
  obtain ⟨J2,hJ2⟩:∃ J2:Nat→St→Prop,J2=fun n s=>∃ x L,n=(jd x).length∧x<512∧(x=0∨i=0)∧s.tm 5 = .int .u64 (x:Nat)∧L++ints (jd x)=ints (jd w)∧IntsO s.ob (P s.nx) L (s.tm 3)∧ub≤s.nx:=⟨_,rfl⟩
  refine YS (n:=(jd x0).length) [(3,3),(5,5),(16,29)] J2 rfl rfl ?_ ?_
  ·rw [hJ2]
   by_cases hi0:i=0
   ·rw [if_pos hi0] at hx0 sI
    subst hx0
    refine ⟨w,[],rfl,hw,.inr hi0,t5,rfl,?_,by omega⟩
    rw [to,t3]
    exact sI.frame (fun _ _=>rfl) fun u hu=>by rw [hP] at hu ⊢;exact ⟨hu.1,by have:=hu.2;omega⟩
   ·rw [if_neg hi0] at hx0 sI
    subst hx0
    refine ⟨0,ints (jd w),rfl,by decide,.inl rfl,t5,by simp [jer,ints],?_,by omega⟩
    rw [to,t3]
    exact sI.frame (fun _ _=>rfl) fun u hu=>by rw [hP] at hu ⊢;exact ⟨hu.1,by have:=hu.2;omega⟩
  ·intro n q hq f
   rw [hJ2] at hq
   obtain ⟨x,L,rfl,hx,hxi,q5,hL,qI,qn⟩:=hq
   have q4:q.tm 4 = .int .i64 i:=by rw [f.t 4 (by simp)];simp [t4]
   have q12:q.tm 12 = .int .i64 i:=by rw [f.t 12 (by simp)];simp [t12]
   have qd:q.df=[]:=by rw [f.d];simp [td]
   have qr:q.ro=ub:=by rw [f.r];simp [tr]
   clear f
   by_cases h0:x=0
   ·subst h0
    simp [q5,q12,hwk,hlt]
    rw [hJ]
    rw [jer,show ints []=[] from rfl,List.append_nil] at hL
    subst hL
    refine ⟨by simp,?_,by simp;omega⟩
    simp
    exact qI.frame (fun _ _=>rfl) fun u hu=>by rw [hP] at hu ⊢;exact ⟨hu.1,by have:=hu.2;simp at this ⊢;omega⟩
   ·have hi0:i=0:=hxi.resolve_left h0
    subst hi0
    obtain ⟨e1,e2⟩:=jjn hx h0
    have ex:((x:Int) != 0)=true:=by simp;omega
    have hlow:=j8i hx h0
    have hsub:IntKind.u64.wrap ((x:Int) - 1)=((x - 1:Nat):Int):=by
     rw [IntKind.wrap_u64]
     omega
    have hand:=jj6 (a:=x) (b:=x - 1) (m:=((x - 1:Nat):Int)) rfl (by omega) (by omega)
    generalize x &&& (x - 1)=y at hand e1 e2
    rw [← hsub] at hand
    have hz:IntKind.i64.wrap ((jsl x:Nat):Int)=((jsl x:Nat):Int):=J7 (by omega) (by omega)
    have hlen:L.length≤9:=by
     have h1:=congrArg List.length hL
     have h2:=jhi w
     simp [ints] at h1
     omega
    simp [q5,q4,ex]
    refine jX (ev190 hx h0) (by simp) rfl (by simp) ?_
    simp [hz,show IntKind.i64.wrap 0=0 from rfl]
    refine Xb (cs:=[.int .i64 ((jsl x:Nat):Int)]) (by simp [j7]) rfl rfl ?_
    simp
    refine jbm (p:=P q.nx) (l:=L) (z:=((jsl x:Nat):Int)) (X:=2 * (q.nx+512)+1) (uX:=q.nx+512) (by simp) (qI.frame (fun u hu=>?_) fun _ h=>h) (by simp [Nat.add_assoc]) (by simp [Nat.add_assoc]) (fun u hu=>by rw [hP] at hu;simp [qr];exact hu.1) (by omega) fun kl hkl=>?_
    ·rw [hP] at hu
     have:=hu.2
     simp (disch:=first | (simp;done) | omega) [two_inj]
     intro e
     omega
    simp [q5,hand]
    refine ⟨(jd y).length,by rw [e1];simp,?_⟩
    rw [hJ2]
    refine ⟨y,L++[((jsl x:Nat):Int)],rfl,e2,.inr rfl,by simp,by rw [← hL,e1];simp [ints],.inr ⟨by simp,q.nx+576,by simp [Nat.add_assoc],by simp [Nat.add_assoc,jlr],?_⟩,by simp;omega⟩
    rw [hP]
    simp
    omega
 ·have:i=8:=by omega
  subst this
  simp [s12]
  exact Wq (by simp [sd]) (by simp) sI (fun u hu=>by rw [hP] at hu;simp [sr];exact hu.1)
end
structure FN where
 kF:Nat
 uF:Nat
 kA:Nat
 uA:Nat
 kW:Nat
 uW:Nat
 kV:Nat
 uV:Nat
def je4:Option (Nat × Nat)→V
 | none=>.nilptr
 | some p=>.ptr p.1 p.2 0
def fdC (g:Hist') (N:FN) (rv al ov:V) (most:Int) (sp:Bool):List V:=[jK g.sn JF g.ss,jK g.kn JF g.ks,jK g.tn jk g.ts,rv,.map N.kA N.uA,.map N.kW N.uW,al,.map N.kV N.uV,.int .i64 most,.bool sp,ov]
structure FixF (N:FN) (n0 key:Nat):Prop where
 f:key≠N.kF
 v:key≠N.kV
 o:Off n0 key
def RowF (N:FN) (n0:Nat) (ob:ZO) (v:V) (rs:List (Int × Int × Int)):Prop:=(v = .sl none true 0 []∧rs=[])∨∃ l u,v = .osl l u 0 rs.length 3∧ob l=some ⟨u,.cells (rs.flatMap rdC)⟩∧FixF N n0 l
def SetsF (N:FN) (n0:Nat) (ob:ZO) (k u:Nat) (C:List Nat) (f:Nat→Nat):Prop :=
 FixF N n0 k∧∃ ver m,ob k=some ⟨u,.mp ver (MK .i64 je4 m)⟩∧∀ t∈C,∃ l u,Qj m (t:Int) none=some (l,u)∧ob l=some ⟨u,.cells (setC (f t))⟩∧FixF N n0 l
structure Fd (N:FN) (rv:V) (rs:List (Int × Int × Int)) (C:List Nat) (fA fW:Nat→Nat) (n0:Nat) (ob:ZO):Prop where
 r:RowF N n0 ob rv rs
 a:SetsF N n0 ob N.kA N.uA C fA
 w:SetsF N n0 ob N.kW N.uW C fW
theorem RowF.keep {N:FN} {n0:Nat} {ob ob':ZO} {v:V} {rs:List (Int × Int × Int)} (h:RowF N n0 ob v rs) (hw:∀ key,FixF N n0 key→ob' key=ob key):RowF N n0 ob' v rs:=by
 rcases h with h | ⟨l,u,h1,h2,h3⟩
 ·exact .inl h
 ·exact .inr ⟨l,u,h1,(hw _ h3).trans h2,h3⟩
theorem SetsF.keep {N:FN} {n0:Nat} {ob ob':ZO} {k u:Nat} {C:List Nat} {f:Nat→Nat} (h:SetsF N n0 ob k u C f) (hw:∀ key,FixF N n0 key→ob' key=ob key):SetsF N n0 ob' k u C f:=by
 obtain ⟨h0,ver,m,h1,h2⟩:=h
 refine ⟨h0,ver,m,(hw _ h0).trans h1,fun t ht=>?_⟩
 obtain ⟨l,u,h3,h4,h5⟩:=h2 t ht
 exact ⟨l,u,h3,(hw _ h5).trans h4,h5⟩
theorem Fd.keep {N:FN} {rv:V} {rs:List (Int × Int × Int)} {C:List Nat} {fA fW:Nat→Nat} {n0:Nat} {ob ob':ZO} (h:Fd N rv rs C fA fW n0 ob) (hw:∀ key,FixF N n0 key→ob' key=ob key):Fd N rv rs C fA fW n0 ob' :=
 ⟨h.r.keep hw,h.a.keep hw,h.w.keep hw⟩
theorem SetsF.at {N:FN} {n0:Nat} {ob:ZO} {k u:Nat} {C:List Nat} {f:Nat→Nat} (h:SetsF N n0 ob k u C f) {t:Nat} (ht:t∈C):∃ l v,(∀ ob':ZO,ob' k=ob k→XY ob' .int .nilptr false (.map k u) (.int .i64 (t:Int))=some (.ptr l v 0))∧ob l=some ⟨v,.cells (setC (f t))⟩∧FixF N n0 l:=by
 obtain ⟨_,ver,m,h1,h2⟩:=h
 obtain ⟨l,v,h3,h4,h5⟩:=h2 t ht
 refine ⟨l,v,fun ob' e=>?_,h4,h5⟩
 rw [jbj (q:=.i64) (f:=je4) m (by simp [jR,e,h1])]
 unfold Qj at h3
 cases hm:jf m (t:Int) with
 | none=>rw [hm] at h3;cases h3
 | some p =>
  rw [hm] at h3
  simp only at h3
  simp [h3,je4]
def ja3 (w:Nat) (x:Int):Bool:=decide (x<0) || w.testBit x.toNat
def barB (w t W:Nat) (r:Int × Int × Int):Bool:=if r.1=t then !ja3 w r.2.1 else !w.testBit r.1.toNat && (ja3 w r.2.1 && W.testBit r.2.2.toNat)
def jwd (rs:List (Int × Int × Int)) (fA fW:Nat→Nat) (w t:Nat):Bool:=(jd (fA t)).all (fun a=>w.testBit a) && !(rs.any (barB w t (fW t)))
def RdOk (r:Int × Int × Int):Prop:=(0≤r.1∧r.1<64)∧r.2.1<64∧0≤r.2.2∧r.2.2<64
section
variable {ob:ZO} {ub k u w:Nat}
theorem jy7 (hk:ob k=some ⟨u,.cells (setC w)⟩) (ho:Off ub k) (hw:w<2 ^ 64) {x:Int} (hx:x<64) (tk:Nat→Bool) (base:Nat):EvO E 134 [.ptr k u 0,.int .i64 x] ob tk base ub (.bool (ja3 w x)):=by
 refine JU (af:=S134) rfl ?_
 unfold ja3
 by_cases h:x<0
 ·simp [S134,h]
  exact j3 (by simp) (by simp) rfl
 ·obtain ⟨n,rfl⟩:∃ n:Nat,x=n:=⟨x.toNat,by omega⟩
  simp [S134,h]
  refine JA (vs:=[.ptr k u 0,.int .i64 n]) (by simp) rfl rfl (jjj hk (ho.up (by omega)) (by omega) hw _ _) ?_
  simp
  exact j3 (by simp) (by simp) rfl
theorem j9n {kb vb:Nat} (hb:ob kb=some ⟨vb,.cells [.ptr k u 0]⟩) (hk:ob k=some ⟨u,.cells (setC w)⟩) (fb:Off ub kb) (ho:Off ub k) (hw:w<2 ^ 64) {a:Nat} (ha:a<64) (tk:Nat→Bool) (base:Nat):EvO E 131 [.int .i64 (a:Int),.ptr kb vb 0] ob tk base ub (.bool (!w.testBit a)):=by
 refine JU (af:=S131) rfl ?_
 simp [S131,j1,hb]
 refine JA (vs:=[.ptr k u 0,.int .i64 a]) (by simp) rfl rfl (jjj hk (ho.up (by omega)) ha hw _ _) ?_
 simp
 exact j3 (by simp) (by simp) rfl
theorem j2o {p:Int→Bool} {gf:FuncId} {c1 c2:Nat} (hs:E.sh true gf=false) {t:Option (Nat × Nat)} {nl:Bool} {L:List Int} (hl:L.length≤1000000000)
 (hp:∀ r∈L,∀ (tk:Nat→Bool) (base ub':Nat),ub≤ub'→EvO E gf [.int .i64 r,.ptr c1 c2 0] ob tk base ub' (.bool (p r))) (tk:Nat→Bool) (base:Nat):EvO E 147 [.sl t nl L.length (L.flatMap intC),.fn (.func gf) [] [.ptr c1 c2 0]] ob tk base ub (.int .i64 (QW p L)):=by
 refine JU (af:=S147) rfl ?_
 simp [S147]
 refine jE [(4,5),(8,18)] L.length (fun i s=>s.tm 8 = .int .i64 i∧s.ob=ob∧ub≤s.nx∧∀ j (hj:j<L.length),j<i→p L[j]=false) rfl rfl ⟨by simp,by simp,by simp;omega,fun _ _ h=>by omega⟩ ?_
 rintro i s hi ⟨h8,ho,hn,hb⟩ f
 have h0:s.tm 0 = .sl t nl L.length (L.flatMap intC):=by rw [f.t 0 (by simp)];simp
 have h1:s.tm 1 = .fn (.func gf) [] [.ptr c1 c2 0]:=by rw [f.t 1 (by simp)];simp
 have h7:s.tm 7 = .int .i64 L.length:=by rw [f.t 7 (by simp)];simp
 have hd:s.df=[]:=by rw [f.d];simp
 clear f
 by_cases hlt:i<L.length
 ·have hw:=J6 hlt hl
  have hix:=W0 jH t nl L .i64 hlt
  have hia:=XI L hlt
  simp [h0,h1,h7,h8,hlt,hix,hia]
  refine Wp (f:=gf) (first:=[]) (captured:=[.ptr c1 c2 0]) (by simp) hs (by simp [V.strip,V.pureTop,V.pureLeaf]) (v:=.bool (p L[i])) (by simpa [ho] using hp L[i] (List.getElem_mem hlt) _ _ _ (by omega)) ?_
  cases hpi:p L[i]
  ·simp [h8,hw]
   refine ⟨hlt,ho,by omega,?_⟩
   intro j hj hji
   rcases Nat.lt_succ_iff_lt_or_eq.1 hji with h | rfl
   ·exact hb j hj h
   ·exact hpi
  ·simp
   refine j3 (by simpa using hd) ?_ rfl
   simp
   rw [YZ hlt hpi hb]
 ·have:i=L.length:=by omega
  subst this
  simp [h7,h8]
  refine j3 (by simpa using hd) ?_ rfl
  simp [WP (fun j hj=>hb j hj hj)]
theorem j9o {p:Int→Bool} {gf:FuncId} {c1 c2:Nat} (hs:E.sh true gf=false) {t:Option (Nat × Nat)} {nl:Bool} {L:List Int} (hl:L.length≤1000000000)
 (hp:∀ r∈L,∀ (tk:Nat→Bool) (base ub':Nat),ub≤ub'→EvO E gf [.int .i64 r,.ptr c1 c2 0] ob tk base ub' (.bool (p r))) (tk:Nat→Bool) (base:Nat):EvO E 129 [.sl t nl L.length (L.flatMap intC),.fn (.func gf) [] [.ptr c1 c2 0]] ob tk base ub (.bool (L.any p)):=by
 refine JU (af:=S129) rfl ?_
 simp [S129]
 refine JA (vs:=[.sl t nl L.length (L.flatMap intC),.fn (.func gf) [] [.ptr c1 c2 0]]) (by simp) rfl (by rw [List.all_cons,Bool.and_eq_false_iff];exact .inr rfl) (j2o hs hl (fun r hr tk base ub' h=>hp r hr tk base ub' (by omega)) _ _) ?_
 simp
 exact j3 rfl (by simp [QG]) rfl
variable {N:FN} {n0:Nat}
theorem j9k {p:Int × Int × Int→Bool} {gf:FuncId} {c1 c2 c3 c4 c5 c6:Nat} (hs:E.sh true gf=false) {v:V} {rs:List (Int × Int × Int)} (hv:RowF N n0 ob v rs) (hl:rs.length≤1000000000)
 (hp:∀ r∈rs,∀ (tk:Nat→Bool) (base ub':Nat),ub≤ub'→EvO E gf [.agg (rdC r),.ptr c1 c2 0,.ptr c3 c4 0,.ptr c5 c6 0] ob tk base ub' (.bool (p r))) (tk:Nat→Bool) (base:Nat):EvO E 191 [v,.fn (.func gf) [] [.ptr c1 c2 0,.ptr c3 c4 0,.ptr c5 c6 0]] ob tk base ub (.int .i64 (QW p rs)):=by
 refine JU (af:=S191) rfl ?_
 have hlen:jan v=some (.int .i64 rs.length):=by
  rcases hv with ⟨rfl,rfl⟩ | ⟨l,u,rfl,_⟩ <;> rfl
 have hat:∀ i,(h:i<rs.length)→∃ q,Jk 3 v (.int .i64 (i:Int))=some q∧QQ ob (some 3) q=some (.agg (rdC rs[i])):=by
  intro i h
  rcases hv with ⟨rfl,rfl⟩ | ⟨l,u,rfl,ho,_⟩
  ·simp at h
  ·refine ⟨_,j86 h,?_⟩
   have:=Xe jkh rs i h
   have hlf:=jA jkh rs
   simp only [QQ,j1,ho,if_true,Option.bind_some,Yv]
   rw [if_pos (by rw [hlf];omega),this]
 simp [S191,hlen]
 refine jE [(4,5),(8,18)] rs.length (fun i s=>s.tm 8 = .int .i64 i∧s.ob=ob∧ub≤s.nx∧∀ j (hj:j<rs.length),j<i→p rs[j]=false) rfl rfl ⟨by simp,by simp,by simp;omega,fun _ _ h=>by omega⟩ ?_
 rintro i s hi ⟨h8,ho,hn,hb⟩ f
 have h0:s.tm 0=v:=by rw [f.t 0 (by simp)];simp
 have h1:s.tm 1 = .fn (.func gf) [] [.ptr c1 c2 0,.ptr c3 c4 0,.ptr c5 c6 0]:=by rw [f.t 1 (by simp)];simp
 have h7:s.tm 7 = .int .i64 rs.length:=by rw [f.t 7 (by simp)];simp
 have hd:s.df=[]:=by rw [f.d];simp
 clear f
 by_cases hlt:i<rs.length
 ·have hw:=J6 hlt hl
  obtain ⟨q,hq1,hq2⟩:=hat i hlt
  simp [h0,h1,h7,h8,hlt,hq1,ho,hq2]
  refine Wp (f:=gf) (first:=[]) (captured:=[.ptr c1 c2 0,.ptr c3 c4 0,.ptr c5 c6 0]) (by simp) hs (by simp [V.strip,V.pureTop,V.pureLeaf]) (v:=.bool (p rs[i])) (by simpa [ho] using hp rs[i] (List.getElem_mem hlt) _ _ _ (by omega)) ?_
  cases hpi:p rs[i]
  ·simp [h8,hw]
   refine ⟨hlt,ho,by omega,?_⟩
   intro j hj hji
   rcases Nat.lt_succ_iff_lt_or_eq.1 hji with h | rfl
   ·exact hb j hj h
   ·exact hpi
  ·simp
   refine j3 (by simpa using hd) ?_ rfl
   simp
   rw [YZ hlt hpi hb]
 ·have:i=rs.length:=by omega
  subst this
  simp [h7,h8]
  refine j3 (by simpa using hd) ?_ rfl
  simp [WP (fun j hj=>hb j hj hj)]
theorem j9m {p:Int × Int × Int→Bool} {gf:FuncId} {c1 c2 c3 c4 c5 c6:Nat} (hs:E.sh true gf=false) {v:V} {rs:List (Int × Int × Int)} (hv:RowF N n0 ob v rs) (hl:rs.length≤1000000000)
 (hp:∀ r∈rs,∀ (tk:Nat→Bool) (base ub':Nat),ub≤ub'→EvO E gf [.agg (rdC r),.ptr c1 c2 0,.ptr c3 c4 0,.ptr c5 c6 0] ob tk base ub' (.bool (p r))) (tk:Nat→Bool) (base:Nat):EvO E 132 [v,.fn (.func gf) [] [.ptr c1 c2 0,.ptr c3 c4 0,.ptr c5 c6 0]] ob tk base ub (.bool (rs.any p)):=by
 refine JU (af:=S132) rfl ?_
 simp [S132]
 refine JA (vs:=[v,.fn (.func gf) [] [.ptr c1 c2 0,.ptr c3 c4 0,.ptr c5 c6 0]]) (by simp) rfl (by rw [List.all_cons,Bool.and_eq_false_iff];exact .inr rfl) (j9k (N:=N) (n0:=n0) hs (hv.keep (fun _ _=>rfl)) hl (fun r hr tk base ub' h=>hp r hr tk base ub' (by omega)) _ _) ?_
 simp
 exact j3 rfl (by simp [QG]) rfl
end
section
variable {ob:ZO} {ub kS uS w n0 t:Nat} {N:FN} {g:Hist'} {rv al ov:V} {most:Int} {sp:Bool} {rs:List (Int × Int × Int)} {C:List Nat} {fA fW:Nat→Nat}
theorem j9l (hd:Fd N rv rs C fA fW n0 ob) (hF:ob N.kF=some ⟨N.uF,.cells (fdC g N rv al ov most sp)⟩) (oF:Off ub N.kF) (hS:ob kS=some ⟨uS,.cells (setC w)⟩) (oS:Off ub kS) (hn:n0≤ub) (hw:w<2 ^ 64) (ht:t∈C) (hW:fW t<2 ^ 64)
 {kt vt ks vs kf vf:Nat} (bt:ob kt=some ⟨vt,.cells [.int .i64 (t:Int)]⟩) (bs:ob ks=some ⟨vs,.cells [.ptr kS uS 0]⟩) (bf:ob kf=some ⟨vf,.cells [.ptr N.kF N.uF 0]⟩) (ot:Off ub kt) (os:Off ub ks) (of:Off ub kf) {r:Int × Int × Int} (hr:RdOk r) (tk:Nat→Bool) (base:Nat) :
 EvO E 133 [.agg (rdC r),.ptr kt vt 0,.ptr ks vs 0,.ptr kf vf 0] ob tk base ub (.bool (barB w t (fW t) r)):=by
 refine JU (af:=S133) rfl ?_
 have g1:=ot.ne
 have g2:=os.ne
 have g3:=of.ne
 have g4:=oF.ne
 have g5:=oS.ne
 obtain ⟨⟨r1,r2⟩,r3,r4,r5⟩:=hr
 obtain ⟨a,ha⟩:∃ a:Nat,r.1=a:=⟨r.1.toNat,by omega⟩
 obtain ⟨b,hb⟩:∃ b:Nat,r.2.2=b:=⟨r.2.2.toNat,by omega⟩
 unfold barB
 have hoS:∀ m,ub≤m→(upd ob (2 * m+1) (some ⟨m,.cells (rdC r)⟩)) kS=some ⟨uS,.cells (setC w)⟩:=fun m hm=>by rw [J1 _ _ (g5 m hm)];exact hS
 by_cases h0:r.1=t
 ·simp (disch:=first | (simp;done) | omega) [S133,j1,rdC,V.cells,bt,g1,bs,g2,h0]
  refine JA (vs:=[.ptr kS uS 0,.int .i64 r.2.1]) (by simp) rfl rfl (jy7 (w:=w) (by simp (disch:=first | (simp;done) | omega) [g5,hS]) (oS.up (by omega)) hw r3 _ _) ?_
  simp
  exact j3 (by simp) (by simp) rfl
 ·have h0':(r.1 == (t:Int))=false:=by simpa using h0
  simp (disch:=first | (simp;done) | omega) [S133,j1,rdC,V.cells,bt,g1,bs,g2,h0']
  have q1:0≤r.1:=r1
  refine jd8 (vs:=[.ptr kS uS 0,.int .i64 r.1]) (by simp) rfl rfl (by rw [ha];exact jjj (w:=w) (n:=a) (by simp (disch:=first | (simp;done) | omega) [g5,hS]) (oS.up (by first | omega | (simp;omega))) (by omega) hw _ _) (Jg rfl) ?_
  have ea:r.1.toNat=a:=by omega
  have eb:r.2.2.toNat=b:=by omega
  rw [ea,eb,if_neg h0]
  obtain ⟨l,v,hlk,hl,fl⟩:=hd.w.at ht
  have gW:=hd.w.1.o.up hn
  have gl:=(fl.o.up hn)
  cases hb1:w.testBit a
  ·simp (disch:=first | (simp;done) | omega) [j1,rdC,bs,g2]
   refine jd8 (vs:=[.ptr kS uS 0,.int .i64 r.2.1]) (by simp) rfl rfl (jy7 (w:=w) (by simp (disch:=first | (simp;done) | omega) [g5,hS]) (oS.up (by first | omega | (simp;omega))) hw r3 _ _) (Jg rfl) ?_
   cases hb2:ja3 w r.2.1
   ·simp (disch:=first | (simp;done) | omega)
    exact j3 (by simp) (by simp) rfl
   ·simp (disch:=first | (simp;done) | omega) [j1,rdC,bf,g3,hF,g4,fdC,bt,g1]
    rw [hlk _ (by simp (disch:=first | (simp;done) | omega) [gW.ne])]
    simp (disch:=first | (simp;done) | omega) [j1,rdC]
    refine JA (vs:=[.ptr l v 0,.int .i64 r.2.2]) (by simp) rfl rfl (by rw [hb];exact jjj (w:=fW t) (n:=b) (by simp (disch:=first | (simp;done) | omega) [gl.ne,hl]) (gl.up (by first | omega | (simp;omega))) (by omega) hW _ _) ?_
    simp
    exact j3 (by simp) (by simp) rfl
  ·simp (disch:=first | (simp;done) | omega)
   exact j3 (by simp) (by simp) rfl
theorem j9f (hd:Fd N rv rs C fA fW n0 ob) (hF:ob N.kF=some ⟨N.uF,.cells (fdC g N rv al ov most sp)⟩) (oF:Off ub N.kF) (hS:ob kS=some ⟨uS,.cells (setC w)⟩) (oS:Off ub kS) (hn:n0≤ub) (hw:w<2 ^ 64) (ht:t∈C) (hA:fA t<512) (hW:fW t<2 ^ 64)
 (hrs:∀ r∈rs,RdOk r) (hl:rs.length≤1000000) (tk:Nat→Bool) (base:Nat):EvO E 82 [.ptr N.kF N.uF 0,.ptr kS uS 0,.int .i64 (t:Int)] ob tk base ub (.bool (jwd rs fA fW w t)):=by
 refine JU (af:=S82) rfl ?_
 have g4:=oF.ne
 have g5:=oS.ne
 have gA:=(hd.a.1.o.up hn)
 obtain ⟨l,v,hlk,hl',fl⟩:=hd.a.at ht
 have gl:=fl.o.up hn
 simp (disch:=first | (simp;done) | omega) [S82,j1,V.cells,two_inj,hF,g4,fdC,jvs,Nat.add_assoc]
 rw [hlk _ (by simp (disch:=first | (simp;done) | omega) [gA.ne])]
 simp (disch:=first | (simp;done) | omega) [j1]
 refine j10 (vs:=[.ptr l v 0]) (l:=ints (jd (fA t))) (by simp) rfl rfl ⟨_,jy8 (w:=fA t) (by simp (disch:=first | (simp;done) | omega) [gl.ne,hl']) (gl.up (by first | omega | (simp;omega))) hA _ _,numR_intsV _⟩ fun tt nl add=>?_
 simp (disch:=first | (simp;done) | omega)
 have hlen:(ints (jd (fA t))).length≤1000000000:=by
  have:=jhi (fA t)
  simp only [ints,List.length_map]
  omega
 refine JA (vs:=[.sl tt nl (ints (jd (fA t))).length ((ints (jd (fA t))).flatMap intC),.fn (.func 131) [] [.ptr (2 * (ub+64)+1) (ub+64) 0]]) (by simp) rfl (by rw [List.all_cons,Bool.and_eq_false_iff];exact .inr rfl) (j9o (p:=fun x=>!w.testBit x.toNat) rfl hlen (fun x hx tk base ub' h=>?_) _ _) ?_
 ·unfold ints at hx
  obtain ⟨a,ha,rfl⟩:=List.mem_map.1 hx
  have:=(bitsUp_mem.1 ha).1
  exact j9n (w:=w) (k:=kS) (u:=uS) (by simp (disch:=first | (simp;done) | omega) [two_inj,Nat.add_assoc]) (by simp (disch:=first | (simp;done) | omega) [g5,hS]) (Off.new (by first | omega | (simp at h;omega))) (oS.up (by first | omega | (simp at h;omega))) hw (by omega) tk base
 have eall:((ints (jd (fA t))).any fun x=>!w.testBit x.toNat) = !(jd (fA t)).all fun a=>w.testBit a:=by
  unfold ints
  rw [List.any_map,List.not_all_eq_any_not]
  rfl
 rw [eall]
 unfold jwd
 cases hall:(jd (fA t)).all fun a=>w.testBit a
 ·simp
  exact j3 (by simp) (by simp) rfl
 ·simp (disch:=first | (simp;done) | omega) [j1,two_inj,hF,g4,fdC,Nat.add_assoc]
  refine JA (vs:=[rv,.fn (.func 133) [] [.ptr (2 * (ub+128)+1) (ub+128) 0,.ptr (2 * (ub+64)+1) (ub+64) 0,.ptr (2 * ub+1) ub 0]]) (by simp) rfl (by rw [List.all_cons,Bool.and_eq_false_iff];exact .inr rfl)
   (j9m (N:=N) (n0:=n0) (p:=barB w t (fW t)) rfl (hd.r.keep fun key h=>?_) (by omega) (fun r hr tk base ub' h=>j9l (g:=g) (kS:=kS) (uS:=uS) (rv:=rv) (al:=al) (ov:=ov) (most:=most) (sp:=sp) (n0:=n0) (hd.keep fun key h=>?_) ?_ (oF.up ?_) ?_ (oS.up ?_) ?_ hw ht hW ?_ ?_ ?_ (Off.new ?_) (Off.new ?_) (Off.new ?_) (hrs r hr) tk base) _ _) ?_
  ·simp (disch:=first | (simp;done) | omega) [(h.o.up hn).ne]
  ·simp (disch:=first | (simp;done) | omega) [(h.o.up hn).ne]
  ·simp (disch:=first | (simp;done) | omega) [g4,hF]
  ·first | omega | (simp at h;omega)
  ·simp (disch:=first | (simp;done) | omega) [g5,hS]
  ·first | omega | (simp at h;omega)
  ·first | omega | (simp at h;omega)
  ·simp (disch:=first | (simp;done) | omega) [two_inj,Nat.add_assoc]
  ·simp (disch:=first | (simp;done) | omega) [two_inj,Nat.add_assoc]
  ·simp (disch:=first | (simp;done) | omega) [two_inj,Nat.add_assoc]
  ·first | omega | (simp at h;omega)
  ·first | omega | (simp at h;omega)
  ·first | omega | (simp at h;omega)
  ·simp
   exact j3 (by simp) (by simp) rfl
end
theorem j8p:((List.range 512).all fun w=>Js 0 (jd w) == w)=true:=by kernel_rfl
theorem jzs {w:Nat} (hw:w<512):Js 0 (jd w)=w:=by
 simpa using List.all_eq_true.1 j8p w (List.mem_range.2 hw)
theorem jpp {L:List Nat} {i:Nat} (h:i<L.length) (w:Nat):Js w (L.take (i+1))=Js w (L.take i) ||| 1 <<< L[i]:=by
 unfold Js
 rw [List.take_succ_eq_append_getElem h,List.foldl_append]
 rfl
theorem Ya:∀ {L:List Nat} {w:Nat},w<2 ^ 64→(∀ a∈L,a<64)→Js w L<2 ^ 64
 | [],_,hw,_=>hw
 | a::L,w,hw,h=>Ya (L:=L) (or_lt hw (h a (List.mem_cons_self ..))) fun b hb=>h b (List.mem_cons_of_mem _ hb)
theorem QF (L:List Nat):(ints L).length=L.length:=by simp [ints]
theorem j2b (L:List Nat) {i:Nat} (h:i<(ints L).length):(ints L)[i]=((L[i]'(by simpa [ints] using h):Nat):Int):=by simp [ints]
section
variable {ob:ZO} {ub k u w:Nat}
theorem jy9 (hk:ob k=some ⟨u,.cells (setC w)⟩) (ho:Off ub k) (hw:w<512) (tk:Nat→Bool) (base:Nat):EvO E 123 [.ptr k u 0] ob tk base ub (.int .u64 (w:Nat)):=by
 refine JU (af:=S123) rfl ?_
 have hlen:=jhi w
 simp [S123]
 obtain ⟨nl,hsl⟩:=numR_intsV (ints (jd w))
 refine JA (vs:=[.ptr k u 0]) (by simp) rfl rfl (jy8 hk (ho.up (by first | omega | (simp;omega))) hw _ _) ?_
 refine Wb hsl fun tt add=>?_
 simp
 refine jE [(3,5),(9,17)] (jd w).length (fun i s=>s.tm 9 = .int .i64 i∧s.tm 3 = .int .u64 (Js 0 ((jd w).take i):Nat)) rfl rfl ⟨by simp,by simp [Js]⟩ ?_
 rintro i s hi ⟨h9,h3⟩ f
 have h7:s.tm 7 = .sl tt nl (ints (jd w)).length ((ints (jd w)).flatMap intC):=by rw [f.t 7 (by simp)];simp
 have h8:s.tm 8 = .int .i64 (ints (jd w)).length:=by rw [f.t 8 (by simp)];simp
 have hd:s.df=[]:=by rw [f.d];simp
 clear f
 by_cases hlt:i<(jd w).length
 ·have hlt':i<(ints (jd w)).length:=by rw [QF];exact hlt
  have hwk:=J6 hlt' (by rw [QF];omega)
  have hix:=W0 jH tt nl (ints (jd w)) .i64 hlt'
  have hia:=XI (ints (jd w)) hlt'
  have hb:=(bitsUp_mem.1 (List.getElem_mem hlt)).1
  rw [j2b] at hia
  have e1:=jgi (n:=(jd w)[i]) (by omega)
  have e2:=jhz (a:=Js 0 ((jd w).take i)) (b:=1 <<< (jd w)[i]) (Ya (by decide) fun a ha=>by have:=(bitsUp_mem.1 (List.mem_of_mem_take ha)).1;omega) (jmt (by omega))
  rw [← jpp hlt] at e2
  generalize 1 <<< (jd w)[i]=p1 at e1 e2
  generalize hp2:Js 0 ((jd w).take (i+1))=p2 at e2
  generalize Js 0 ((jd w).take i)=p3 at e2 h3
  simp [h7,h8,h9,h3,hlt',hix,hia,e1,e2,hwk]
  exact ⟨hlt,by rw [hp2]⟩
 ·have:i=(jd w).length:=by omega
  subst this
  rw [List.take_length,jzs hw] at h3
  simp [h8,h9,QF,h3]
  exact j3 (by simpa using hd) (by simp) rfl
end
end Go.Pv.T
namespace Go.Pv.T
open Go Go.Pv
end Go.Pv.T
namespace Go.Pv.T
open Go Go.Pv
structure Mtx (ob:ZO) (lo hi kP uP n:Nat) (rows:List (Nat × Nat)) (f:Nat→Nat→Bool):Prop where
 p:ob kP=some ⟨uP,.cells (rows.map (rowC n)++List.replicate (n - rows.length) (.sl none true 0 []))⟩
 c:∀ b (h:b<rows.length),ob (rows[b]).1=some ⟨(rows[b]).2,.cells ((List.range n).map fun t=>V.bool (f b t))⟩
 k:kP=2 * uP+1∧lo≤uP∧uP<hi
 r:∀ b (h:b<rows.length),(rows[b]).1=2 * (rows[b]).2+1∧uP<(rows[b]).2∧(rows[b]).2<hi
 d:∀ b b' (h:b<rows.length) (h':b'<rows.length),(rows[b]).2=(rows[b']).2→b=b'
theorem Mtx.hi {ob:ZO} {lo hi kP uP n:Nat} {rows:List (Nat × Nat)} {f:Nat→Nat→Bool} (h:Mtx ob lo hi kP uP n rows f) {ob':ZO} {hi':Nat} (hu:hi≤hi') (hP:ob' kP=ob kP) (hr:∀ b (hb:b<rows.length),ob' (rows[b]).1=ob (rows[b]).1):Mtx ob' lo hi' kP uP n rows f :=
 ⟨hP.trans h.p,fun b hb=>(hr b hb).trans (h.c b hb),⟨h.k.1,h.k.2.1,by have:=h.k.2.2;omega⟩,fun b hb=>⟨(h.r b hb).1,(h.r b hb).2.1,by have:=(h.r b hb).2.2;omega⟩,h.d⟩
theorem Mtx.offP {ob:ZO} {lo hi kP uP n:Nat} {rows:List (Nat × Nat)} {f:Nat→Nat→Bool} (h:Mtx ob lo hi kP uP n rows f):Off hi kP:=fun m hm=>by
 have:=h.k
 omega
theorem Mtx.offR {ob:ZO} {lo hi kP uP n:Nat} {rows:List (Nat × Nat)} {f:Nat→Nat→Bool} (h:Mtx ob lo hi kP uP n rows f) {b:Nat} (hb:b<rows.length):Off hi (rows[b]).1:=fun m hm=>by
 have:=h.r b hb
 omega
theorem Mtx.keep {ob:ZO} {lo hi kP uP n:Nat} {rows:List (Nat × Nat)} {f:Nat→Nat→Bool} (h:Mtx ob lo hi kP uP n rows f) {ob':ZO} {hi':Nat} (hu:hi≤hi') (hW:Was hi ob ob'):Mtx ob' lo hi' kP uP n rows f :=
 h.hi hu (hW _ h.offP) fun _ hb=>hW _ (h.offR hb)
theorem Mtx.congr {ob:ZO} {lo hi kP uP n:Nat} {rows:List (Nat × Nat)} {f f':Nat→Nat→Bool} (h:Mtx ob lo hi kP uP n rows f) (e:∀ b a,b<rows.length→a<n→f b a=f' b a):Mtx ob lo hi kP uP n rows f' :=
 ⟨h.p,fun b hb=>by
  rw [h.c b hb]
  congr 3
  refine List.map_congr_left fun a ha=>?_
  rw [e b a hb (List.mem_range.1 ha)],h.k,h.r,h.d⟩
theorem jn6 (n t:Nat) (F:Nat→V) (x:V) (h:t<n):j7 ((List.range n).map F) t [x]=(List.range n).map fun a=>if a=t then x else F a:=by
 unfold j7
 refine List.ext_getElem (by simp;omega) fun i h1 h2=>?_
 simp only [List.length_cons,List.length_nil,List.getElem_append,List.getElem_map,List.getElem_range,List.length_append,List.length_take,List.length_map,List.length_range,List.getElem_take,List.getElem_drop]
 rcases Nat.lt_trichotomy i t with hi | hi | hi
 ·rw [dif_pos (by omega),dif_pos (by omega),if_neg (by omega)]
 ·subst hi
  rw [dif_pos (by omega),dif_neg (by omega),if_pos rfl]
  simp
 ·rw [dif_neg (by omega),if_neg (by omega)]
  congr 1
  omega
theorem Mtx.set {ob:ZO} {lo hi kP uP n:Nat} {rows:List (Nat × Nat)} {f:Nat→Nat→Bool} (h:Mtx ob lo hi kP uP n rows f) {b t:Nat} {x:Bool} (hb:b<rows.length) (ht:t<n) {ob':ZO} {hi':Nat} (hu:hi≤hi')
 (h1:ob' (rows[b]).1=some ⟨(rows[b]).2,.cells (j7 ((List.range n).map fun t=>V.bool (f b t)) t [.bool x])⟩) (h2:∀ key,Off hi key→key≠(rows[b]).1→ob' key=ob key):Mtx ob' lo hi' kP uP n rows fun b' a=>if b'=b∧a=t then x else f b' a:=by
 have hk:=h.k
 have hrb:=h.r b hb
 refine ⟨(h2 _ h.offP (by omega)).trans h.p,fun b' hb'=>?_,⟨hk.1,hk.2.1,by omega⟩,fun b' hb'=>⟨(h.r b' hb').1,(h.r b' hb').2.1,by have:=(h.r b' hb').2.2;omega⟩,h.d⟩
 by_cases e:b'=b
 ·subst e
  rw [h1,jn6 n t _ _ ht]
  congr 3
  refine List.map_congr_left fun a _=>?_
  by_cases e2:a=t <;> simp [e2]
 ·have hne:(rows[b']).1≠(rows[b]).1:=fun e'=>e (h.d b' b hb' hb (by have:=h.r b' hb';omega))
  rw [h2 _ (h.offR hb') hne,h.c b' hb']
  simp [e]
/-! What goes before,by loops. -/
def sB (g:Hist') (a b:Nat):Bool:=JI g a && (JI g b && (decide (a<b) && sesAt g a == sesAt g b))
def jC (g:Hist') (lvl:Int) (M:List Int) (N:JN) (v:V):List V:=[.int .i64 lvl,jK g.sn JF g.ss,jK g.kn JF g.ks,jK g.tn jk g.ts,.sl N.tr N.nr (readH g).length ((readH g).flatMap jG),jK N.nm intC M,.map N.kA N.uA,v]
structure CI (g:Hist') (lvl:Int) (M:List Int) (N:JN) (ob0:ZO) (ub kP uP:Nat) (rows:List (Nat × Nat)) (f:Nat→Nat→Bool) (ob:ZO) (nx:Nat):Prop where
 m:Mtx ob ub nx kP uP g.ts.length rows f
 j:ob N.kJ=some ⟨N.uJ,.cells (jC g lvl M N (.osl kP uP 0 g.ts.length 1))⟩
 w:∀ key,Off ub key→key≠N.kJ→ob key=ob0 key
 fj:Off ub N.kJ
section
variable {g:Hist'} {lvl:Int} {M:List Int} {N:JN} {ob0:ZO} {ub kP uP:Nat} {rows:List (Nat × Nat)} {f:Nat→Nat→Bool} {ob ob':ZO} {nx nx':Nat}
theorem CI.le (h:CI g lvl M N ob0 ub kP uP rows f ob nx):ub<nx:=by
 have:=h.m.k
 omega
theorem CI.keep (h:CI g lvl M N ob0 ub kP uP rows f ob nx) (hu:nx≤nx') (hW:Was nx ob ob'):CI g lvl M N ob0 ub kP uP rows f ob' nx' :=
 have hl:=h.le
 ⟨h.m.keep hu hW,(hW _ (h.fj.up (by omega))).trans h.j,fun key hk hne=>(hW _ (hk.up (by omega))).trans (h.w key hk hne),h.fj⟩
theorem CI.congr {f':Nat→Nat→Bool} (h:CI g lvl M N ob0 ub kP uP rows f ob nx) (e:∀ b a,b<rows.length→a<g.ts.length→f b a=f' b a):CI g lvl M N ob0 ub kP uP rows f' ob nx :=
 ⟨h.m.congr e,h.j,h.w,h.fj⟩
theorem CI.set (h:CI g lvl M N ob0 ub kP uP rows f ob nx) {b t:Nat} {x:Bool} (hb:b<rows.length) (ht:t<g.ts.length) (hu:nx≤nx')
 (h1:ob' (rows[b]).1=some ⟨(rows[b]).2,.cells (j7 ((List.range g.ts.length).map fun t=>V.bool (f b t)) t [.bool x])⟩) (h2:∀ key,Off nx key→key≠(rows[b]).1→ob' key=ob key):CI g lvl M N ob0 ub kP uP rows (fun b' a=>if b'=b∧a=t then x else f b' a) ob' nx':=by
 have hl:=h.le
 have hk:=h.m.k
 have hr:=h.m.r b hb
 have hne:∀ key,Off ub key→key≠(rows[b]).1:=fun key hk e=>hk (rows[b]).2 (by omega) (by omega)
 exact ⟨h.m.set hb ht hu h1 h2,(h2 _ (h.fj.up (by omega)) (hne _ h.fj)).trans h.j,fun key hk hn=>(h2 _ (hk.up (by omega)) (hne _ hk)).trans (h.w key hk hn),h.fj⟩
end
@[simp] theorem eqVV_sl (ob:ZO) (neg nl:Bool) (t t':Option (Nat × Nat)) (n:Nat) (cs:List V):juk ob neg .sl (.sl t nl n cs) (.sl t' true 0 [])=some (.bool (xor neg nl)):=rfl
end Go.Pv.T
namespace Go.Pv.T
open Go Go.Pv
end Go.Pv.T
namespace Go.Pv.T
open Go Go.Pv
theorem jha {st:St} {ub:Nat} {K:List FP→St→Prop} {d:Option Nat} {nm:Bool} {r:List AOpr} (h:WM E r K (eval E st.tm) .mkMap st d ub { v:=.map (jL d nm st.fb ub) ub,obs:=[(jL d nm st.fb ub,⟨ub,.mp 0 []⟩)] }):jF E (⟨d,.mkMap,none,nm⟩::r) st ub K:=by
 rw [JD rfl]
 simp only [aop,Jc,jN,X2]
 exact h
end Go.Pv.T
namespace Go.Pv.T
open Go Go.Pv
end Go.Pv.T
namespace Go.Pv.T
open Go Go.Pv
end Go.Pv.T
namespace Go.Pv.T
open Go Go.Pv
section
variable {E:Env} {st:St} {ub:Nat} {K:List FP→St→Prop} {d:Option Nat} {nm:Bool} {r:List AOpr}
end
theorem jvd {α:Type} {f:α→List V} {k:Nat} (hf:∀ a,(f a).length=k) (nl:Bool) (l:List α) (n:Nat) (kk:IntKind):Qy k none (some (.int kk ((min l.length n:Nat):Int))) (jK nl f l)=some (.sl none nl (min l.length n) ((l.take n).flatMap f)):=by
 have h1:=jqq (kk:=kk) (t:=none) (nl:=nl) (sz:=k) (cs:=l.flatMap f) (n:=l.length) (k:=min l.length n) (Nat.min_le_left _ _) (jA hf _)
 refine Eq.trans h1 ?_
 rw [jc5 hf]
 congr 2
 rcases Nat.le_total l.length n with h | h
 ·rw [Nat.min_eq_left h,List.take_length,List.take_of_length_le h]
 ·rw [Nat.min_eq_right h]
theorem jn7 {st:St} {k:Nat} {v:V} (h:v.pureLeaf=true):Ji st (k+1) v=some v:=by
 cases v with
 | sl t nl n cs=>cases t with
  | none=>rfl
  | some t=>cases h
 | osl l u a n s=>cases h
 | _=>simp [Ji,h]
theorem jc8 {st:St} {k:Nat}:∀ {l:List V},l.all V.pureLeaf=true→l.mapM (Ji st (k+1))=some l
 | [],_=>rfl
 | v::l,h=>by
  rw [List.all_cons,Bool.and_eq_true] at h
  rw [List.mapM_cons,jn7 h.1,jc8 h.2]
  rfl
theorem jwm (l:List Op'):(l.flatMap opC).all V.pureLeaf=true:=by
 rw [List.all_flatMap,List.all_eq_true]
 intro t _
 rfl
theorem jm2 {f:V→Option V}:∀ {l m l' m':List V},l.mapM f=some l'→m.mapM f=some m'→(l++m).mapM f=some (l'++m')
 | [],m,l',m',h,h'=>by
  cases (show some []=some l' from h)
  exact h'
 | v::l,m,l',m',h,h'=>by
  rw [List.mapM_cons] at h
  rw [List.cons_append,List.mapM_cons]
  cases hv:f v with
  | none=>rw [hv] at h;cases h
  | some v' =>
   rw [hv] at h
   cases hl:l.mapM f with
   | none=>rw [hl] at h;cases h
   | some r =>
    rw [hl] at h
    cases (show some (v'::r)=some l' from h)
    rw [jm2 hl h']
    rfl
def txU (p:Txn' × Nat):List V:=[.int .i64 p.1.s,.int .i64 p.1.f,.osl (2 * p.2+1) p.2 0 p.1.ops.length 4]
@[simp] theorem WB (p:Txn' × Nat):(txU p).length=3:=rfl
structure InO (ob:ZO) (lo hi:Nat) (p:Txn' × Nat):Prop where
 nl:p.1.nl=false
 lo:lo≤p.2
 hi:p.2<hi
 ob:∃ X,ob (2 * p.2+1)=some ⟨p.2,.cells X⟩∧p.1.ops.length * 4≤X.length∧X.take (p.1.ops.length * 4)=p.1.ops.flatMap opC
theorem InO.frame {ob ob':ZO} {lo hi hi':Nat} {p:Txn' × Nat} (h:InO ob lo hi p) (ho:ob' (2 * p.2+1)=ob (2 * p.2+1)) (hh:hi≤hi'):InO ob' lo hi' p :=
 ⟨h.nl,h.lo,by have:=h.hi;omega,by rw [ho];exact h.ob⟩
def TsO (ob:ZO) (lo hi:Nat) (P:List (Txn' × Nat)) (v:V):Prop :=
 (∀ p∈P,InO ob lo hi p)∧((P=[]∧v = .sl none true 0 [])∨(P≠[]∧∃ u,lo≤u∧u<hi∧(∀ p∈P,p.2≠u)∧v = .osl (2 * u+1) u 0 P.length 3∧ob (2 * u+1)=some ⟨u,.cells (P.flatMap txU)⟩))
theorem TsO.frame {ob ob':ZO} {lo hi hi':Nat} {P:List (Txn' × Nat)} {v:V} (h:TsO ob lo hi P v) (ho:∀ u,lo≤u→u<hi→ob' (2 * u+1)=ob (2 * u+1)) (hh:hi≤hi'):TsO ob' lo hi' P v:=by
 refine ⟨fun p hp=>(h.1 p hp).frame (ho _ (h.1 p hp).lo (h.1 p hp).hi) hh,?_⟩
 rcases h.2 with h2 | ⟨hne,u,h1,h2,h3,h4,h5⟩
 ·exact .inl h2
 ·exact .inr ⟨hne,u,h1,by omega,h3,h4,by rw [ho u h1 h2];exact h5⟩
theorem jvc {st:St} {lo hi:Nat} {p:Txn' × Nat} (h:InO st.ob lo hi p) (hr:st.ro≤lo):Ji st 5 (.osl (2 * p.2+1) p.2 0 p.1.ops.length 4)=some (jK p.1.nl opC p.1.ops):=by
 obtain ⟨X,h1,h2,h3⟩:=h.ob
 have hlo:=h.lo
 have hoc:j1 st.ob (2 * p.2+1) p.2=some X:=by simp [j1,h1]
 show ((j1 st.ob (2 * p.2+1) p.2).bind fun cs=>if Nat.ble st.ro p.2=true∧0+p.1.ops.length * 4≤cs.length then (((cs.drop 0).take (p.1.ops.length * 4)).mapM (Ji st 4)).map fun cs'=>V.sl none false p.1.ops.length cs' else none)=_
 rw [hoc,Option.bind_some,if_pos ⟨Nat.ble_eq ▸ (by omega),by omega⟩,List.drop_zero,h3,jc8 (jwm _),h.nl]
 rfl
theorem jh4 {st:St} {lo hi:Nat} (hr:st.ro≤lo):∀ {P:List (Txn' × Nat)},(∀ p∈P,InO st.ob lo hi p)→(P.flatMap txU).mapM (Ji st 5)=some ((P.map (·.1)).flatMap jk)
 | [],_=>rfl
 | p::P,h=>by
  rw [List.flatMap_cons,List.map_cons,List.flatMap_cons]
  refine jm2 ?_ (jh4 hr fun q hq=>h q (List.mem_cons_of_mem _ hq))
  have:=jvc (h p (List.mem_cons_self ..)) hr
  show [V.int .i64 p.1.s,.int .i64 p.1.f,.osl (2 * p.2+1) p.2 0 p.1.ops.length 4].mapM (Ji st 5)=_
  rw [List.mapM_cons,List.mapM_cons,List.mapM_cons,this]
  rfl
theorem TsO.out {st:St} {lo hi:Nat} {P:List (Txn' × Nat)} {v:V} (h:TsO st.ob lo hi P v) (hr:st.ro≤lo):jex st v P.isEmpty P.length ((P.map (·.1)).flatMap jk):=by
 rcases h.2 with ⟨rfl,rfl⟩ | ⟨hne,u,h1,h2,h3,rfl,h5⟩
 ·exact jcl _ none true 0 []
 ·intro keep i
  have hoc:j1 st.ob (2 * u+1) u=some (P.flatMap txU):=by simp [j1,h5]
  have hs:Ji st 6 (.osl (2 * u+1) u 0 P.length 3)=some (.sl none false P.length ((P.map (·.1)).flatMap jk)):=by
   show ((j1 st.ob (2 * u+1) u).bind fun cs=>if Nat.ble st.ro u=true∧0+P.length * 3≤cs.length then (((cs.drop 0).take (P.length * 3)).mapM (Ji st 5)).map fun cs'=>V.sl none false P.length cs' else none)=_
   rw [hoc,Option.bind_some,if_pos ⟨Nat.ble_eq ▸ (by omega),by rw [jA WB];omega⟩,List.drop_zero,← jA WB P,List.take_length,jh4 hr h.1]
   rfl
  have he:P.isEmpty=false:=by cases P <;> simp_all
  rw [he]
  refine ⟨_,by simp only [jp,hs,Option.bind_some,hoc,Option.map_some];rfl,?_⟩
  split
  ·exact .inr ⟨_,rfl⟩
  ·exact .inl rfl
section
variable {Yf:YF} {st:St} {ub:Nat} {K:St→Nat→Prop} {d:Nat}
theorem jwy {α:Type} {f:α→List V} {l:List α} {z sz bytes:Nat} {s x:A} (hs:eval E st.tm s = .osl (2 * z+1) z 0 0 sz) (ho:st.ob (2 * z+1)=some ⟨z,.cells []⟩) (hro:st.ro≤z)
 (hx:jM st.ob sz (eval E st.tm x)=some (l.flatMap f)) (hf:∀ a,(f a).length=sz) (h0:0<sz) (hp:(l.flatMap f).all V.leaf=true) (hb:l.length * bytes≤140737488355328) (hb2:l.length≤140737488355328)
 (h:∀ (s1:St) (u:Nat),(u=z∨u=ub)→s1.ob (2 * u+1)=some ⟨u,.cells (l.flatMap f)⟩→(∀ key,key≠2 * z+1→key≠2 * ub+1→s1.ob key=st.ob key)→(∀ t,s1.tm t=if t=d then .osl (2 * u+1) u 0 l.length sz else st.tm t)→s1.df=st.df→s1.ro=st.ro→s1.fb=st.fb→s1.tk=st.tk→K s1 (ub+64)) :
 j8 E Yf ⟨some d,.append true sz bytes s x,none,true⟩ st ub K:=by
 cases l with
 | nil =>
  rw [jS _ rfl rfl]
  simp only [aop,hs,hx,Option.bind_some,List.flatMap_nil,if_true]
  have hoc:j1 st.ob (2 * z+1) z=some []:=by simp [j1,ho]
  rw [hoc,Option.bind_some,We]
  show Qp K st (some d) ub _
  rw [jaq]
  exact h _ z (.inl rfl) (by simpa using ho) (fun key _ _=>by simp) (fun t=>by rw [jjp];rfl) rfl rfl rfl (by simp)
 | cons a l =>
  have h1:((a::l).flatMap f).length / sz=(a::l).length:=by rw [jA hf];exact Nat.mul_div_cancel _ h0
  have hne:(a::l).flatMap f≠[]:=fun e=>by have:=congrArg List.length e;rw [jA hf] at this;have:=Nat.mul_pos (show 0<(a::l).length by simp) h0;simp_all
  refine QD (l:=2 * z+1) (u:=z) (n:=0) (cs:=[]) (ys:=(a::l).flatMap f) hs hx ho hne hro (by simp) h0 hp (by rw [h1,Nat.zero_add];exact hb) (by rw [h1,Nat.zero_add];exact hb2) ?_
  rw [jaq,h1,Nat.zero_add]
  refine h _ ub (.inr rfl) ?_ (fun key k1 k2=>?_) (fun t=>by rw [jjp];rfl) rfl rfl rfl ?_
  ·simp [jL]
  ·simp [jL,k1,k2]
  ·rfl
theorem jk7 {lo hi:Nat} {P:List (Txn' × Nat)} {p:Txn' × Nat} {s x:A} (hT:TsO st.ob lo hi P (eval E st.tm s)) (hle:hi≤ub) (hro:st.ro≤lo) (hx:jM st.ob 3 (eval E st.tm x)=some (txU p)) (hp:InO st.ob hi ub p) (hlh:lo≤hi) (hlen:P.length≤100000)
 (h:∀ (s1:St) (v':V),TsO s1.ob lo (ub+64) (P++[p]) v'→(∀ key,(∀ u,lo≤u→u<hi→key≠2 * u+1)→key≠2 * ub+1→s1.ob key=st.ob key)→(∀ t,s1.tm t=if t=d then v' else st.tm t)→s1.df=st.df→s1.ro=st.ro→s1.fb=st.fb→s1.tk=st.tk→K s1 (ub+64)) :
 j8 E Yf ⟨some d,.append true 3 40 s x,none,true⟩ st ub K:=by
 have hpl:=hp.lo
 have hph:=hp.hi
 rcases hT.2 with ⟨rfl,h0⟩ | ⟨hne,u,h1,h2,h3,h4,h5⟩
 ·refine Yi (n:=0) (cs:=[]) (ys:=txU p) h0 hx (by simp [txU]) (by decide) rfl (by simp) (by simp) ?_
  rw [jaq,show (txU p).length / 3=1 by rw [WB]]
  refine h _ (.osl (2 * ub+1) ub 0 1 3) ⟨?_,.inr ⟨by simp,ub,by omega,by omega,?_,by simp,?_⟩⟩ (fun key k1 k2=>?_) (fun t=>by rw [jjp];rfl) rfl rfl rfl ?_
  ·intro q hq
   simp only [List.nil_append,List.mem_singleton] at hq
   subst hq
   refine ⟨hp.nl,by omega,by omega,?_⟩
   have:¬ 2 * q.2=2 * ub:=by omega
   simpa [jL,Jt,this] using hp.ob
  ·intro q hq
   simp only [List.nil_append,List.mem_singleton] at hq
   subst hq
   omega
  ·simp [jL,Jt]
  ·simp [jL,Jt,k2]
  ·rfl
 ·refine QD (l:=2 * u+1) (u:=u) (n:=P.length) (cs:=P.flatMap txU) (ys:=txU p) h4 hx h5 (by simp [txU]) (by omega) (by rw [jA WB];omega) (by decide) rfl (by simp;omega) (by simp;omega) ?_
  rw [jaq,show (txU p).length / 3=1 by rw [WB]]
  refine h _ (.osl (2 * ub+1) ub 0 (P.length+1) 3) ⟨?_,.inr ⟨by simp,ub,by omega,by omega,?_,by simp,?_⟩⟩ (fun key k1 k2=>?_) (fun t=>by rw [jjp];rfl) rfl rfl rfl ?_
  ·intro q hq
   rw [List.mem_append,List.mem_singleton] at hq
   rcases hq with hq | rfl
   ·have hi:=hT.1 q hq
    refine ⟨hi.nl,hi.lo,by have:=hi.hi;omega,?_⟩
    have e1:¬ 2 * q.2=2 * ub:=by have:=hi.hi;omega
    have e2:¬ 2 * q.2=2 * u:=by have:=h3 q hq;omega
    simpa [jL,e1,e2] using hi.ob
   ·refine ⟨hp.nl,by omega,by omega,?_⟩
    have e1:¬ 2 * q.2=2 * ub:=by omega
    have e2:¬ 2 * q.2=2 * u:=by omega
    simpa [jL,e1,e2] using hp.ob
  ·intro q hq
   rw [List.mem_append,List.mem_singleton] at hq
   rcases hq with hq | rfl
   ·have:=(hT.1 q hq).hi;omega
   ·omega
  ·simp [jL]
   exact List.take_of_length_le (by rw [jA WB];omega)
  ·have e:=k1 u h1 h2
   simp [jL,e,k2]
  ·rfl
end
section
variable {E:Env} {st:St} {ub:Nat} {K:List FP→St→Prop} {d:Option Nat} {r:List AOpr}
theorem Qo {sz n:Nat} {zero:List V} {parts:List (Nat × Nat × A)} {cs:List V} (hf:fill zero (jo (eval E st.tm) parts)=some cs) (hl:cs.length=n * sz) (hp:cs.all V.leaf=true)
 (h:WM E r K (eval E st.tm) (.buildSl true sz zero parts n) st d ub { v:=.osl (2 * ub+1) ub 0 n sz,obs:=[(2 * ub+1,⟨ub,.cells cs⟩)] }):jF E (⟨d,.buildSl true sz zero parts n,none,true⟩::r) st ub K:=by
 rw [JD rfl]
 simp only [aop,hf,Option.bind_some,if_true]
 rw [if_pos ⟨hl,hp⟩,Jc,jN]
 exact h
end
theorem jea {α β:Type} {l:List α} {m:List β} (h:l.length=m.length):l.isEmpty=m.isEmpty:=by
 cases l <;> cases m <;> simp_all
def StO (ob:ZO) (lo hi:Nat) (l:List (List UInt8)) (v:V):Prop :=
 (l=[]∧v = .sl none true 0 [])∨(l≠[]∧∃ u,lo≤u∧u<hi∧v = .osl (2 * u+1) u 0 l.length 1∧ob (2 * u+1)=some ⟨u,.cells (l.flatMap JF)⟩)
theorem StO.frame {ob ob':ZO} {lo hi lo' hi':Nat} {l:List (List UInt8)} {v:V} (h:StO ob lo hi l v) (ho:∀ u,lo≤u→u<hi→ob' (2 * u+1)=ob (2 * u+1)) (hl:lo'≤lo) (hh:hi≤hi'):StO ob' lo' hi' l v:=by
 rcases h with h | ⟨hne,u,h1,h2,h3,h4⟩
 ·exact .inl h
 ·exact .inr ⟨hne,u,by omega,by omega,h3,by rw [ho u h1 h2];exact h4⟩
theorem StO.leaf {ob:ZO} {lo hi:Nat} {l:List (List UInt8)} {v:V} (h:StO ob lo hi l v):v.leaf=true∧v.cells=[v]:=by
 rcases h with ⟨_,rfl⟩ | ⟨_,u,_,_,rfl,_⟩ <;> exact ⟨rfl,rfl⟩
theorem TsO.leaf {ob:ZO} {lo hi:Nat} {P:List (Txn' × Nat)} {v:V} (h:TsO ob lo hi P v):v.leaf=true∧v.cells=[v]:=by
 rcases h.2 with ⟨_,rfl⟩ | ⟨_,u,_,_,_,rfl,_⟩ <;> exact ⟨rfl,rfl⟩
theorem StO.out {st:St} {lo hi:Nat} {l:List (List UInt8)} {v:V} (h:StO st.ob lo hi l v) (hr:st.ro≤lo):jex st v l.isEmpty l.length (l.flatMap JF):=by
 rcases h with ⟨rfl,rfl⟩ | ⟨hne,u,h1,h2,rfl,h4⟩
 ·exact jcl _ none true 0 []
 ·have he:l.isEmpty=false:=by cases l <;> simp_all
  rw [he]
  exact jh5 h4 (by rw [jA Y3,Nat.mul_one]) (by omega) (by rw [List.all_flatMap,List.all_eq_true];intro _ _;rfl)
theorem jt (st:St) (d:Option Nat) (v:V) (l k:Nat) (o':Obj') (ks:List Nat):(st.app d { v:=v,obs:=[(l,o')],kill:=ks }).ob k=if k=l then some o' else if ks.any (Nat.beq k) then none else st.ob k:=by
 simp [St.app,JJ,j5]
theorem jd9 {E:Env} {st:St} {ub:Nat} {K:List FP→St→Prop} {d:Option Nat} {r:List AOpr} {lo hi:Nat} {l:List (List UInt8)} {c:List UInt8} {s x:A} (hS:StO st.ob lo hi l (eval E st.tm s)) (hx:jM st.ob 1 (eval E st.tm x)=some (JF c)) (hro:st.ro≤lo) (hlen:l.length≤1000)
 (h:∀ ks:List Nat,(∀ k∈ks,∃ u,lo≤u∧u<hi∧k=2 * u+1)→WM E r K (eval E st.tm) (.append true 1 16 s x) st d ub { v:=.osl (2 * ub+1) ub 0 (l.length+1) 1,obs:=[(2 * ub+1,⟨ub,.cells ((l++[c]).flatMap JF)⟩)],kill:=ks }) :
 jF E (⟨d,.append true 1 16 s x,none,true⟩::r) st ub K:=by
 rw [JD rfl]
 rcases hS with ⟨rfl,h0⟩ | ⟨hne,u,h1,h2,h3,h4⟩
 ·simp only [aop,h0,hx,Option.bind_some]
  rw [if_neg (by simp [JF]),if_pos (show (true && true)=true from rfl),if_pos ⟨by decide,rfl,by simp [JF],by simp [JF]⟩,Jc,jN]
  have:=h [] (fun k hk=>by cases hk)
  have e:([]++[c]).flatMap JF=JF c:=by simp
  rw [e] at this
  have e2:(JF c).length / 1=1:=by simp [JF]
  rw [e2]
  exact this
 ·have hoc:j1 st.ob (2 * u+1) u=some (l.flatMap JF):=by simp [j1,h4]
  simp only [aop,h3,hx,Option.bind_some,hoc]
  have hll:(l.flatMap JF).length=l.length:=by rw [jA Y3,Nat.mul_one]
  rw [if_neg (by simp [JF]),if_pos ⟨Nat.ble_eq ▸ (by omega),trivial,trivial,by rw [hll];omega,by decide,rfl,by simp [JF];omega,by simp [JF];omega⟩,jN]
  have:=h [2 * u+1] (fun k hk=>by simp only [List.mem_singleton] at hk;exact ⟨u,h1,h2,hk⟩)
  have e:(l++[c]).flatMap JF=(l.flatMap JF).take (l.length * 1)++JF c:=by
   rw [List.take_of_length_le (by rw [hll];omega),List.flatMap_append]
   simp
  rw [e] at this
  have e2:(JF c).length / 1=1:=by simp [JF]
  rw [e2]
  exact this
theorem jzi {ks:List Nat} {key:Nat} (h:∀ k∈ks,key≠k):ks.any (Nat.beq key)=false:=by
 rw [List.any_eq_false]
 intro k hk he
 exact h k hk (Nat.eq_of_beq_eq_true he)
def jfb:C:=tlC (tlC S51.body)
def jfa:C:=tlC jfb
def jhe:C:=tlC jfa
def jxq:C:=tlC jhe
structure FewO (h:Hist') (ob0:ZO) (ub ro:Nat) (s:St) (a b N1 N2:Nat) (Sv Kv Tv:V) (P:List (Txn' × Nat)):Prop where
 t1:s.tm 1 = .ptr (2 * ub+1) ub 0
 t2:s.tm 2 = .ptr (2 * (ub+64)+1) (ub+64) 0
 t3:s.tm 3 = .ptr (2 * (ub+192)+1) (ub+192) 0
 d:s.df=[]
 ro:s.ro=ro
 o1:s.ob (2 * ub+1)=some ⟨ub,.cells (j2 h)⟩
 o2:s.ob (2 * (ub+64)+1)=some ⟨ub+64,.cells [.sl none true 0 [],.sl none true 0 [],.sl none true 0 []]⟩
 o3:s.ob (2 * (ub+192)+1)=some ⟨ub+192,.cells [Sv,Kv,Tv]⟩
 gS:StO s.ob (ub+256) N1 (Y9 a h.ss) Sv
 gK:StO s.ob N1 N2 (Y9 b h.ks) Kv
 gT:TsO s.ob N2 s.nx P Tv
 n0:ub+256≤N1
 n1:N1≤N2
 n2:N2≤s.nx
 fr:∀ key,(∀ m,ub≤m→key≠2 * m+1)→s.ob key=ob0 key
theorem few0S {h:Hist'} {Yf:YF} {ob:ZO} {tk:Nat→Bool} {ro base ub:Nat} {Q:Ex→St→Prop} (hro:ro≤ub) (hrest:∀ s,FewO h ob ub ro s 0 0 s.nx s.nx (.sl none true 0 []) (.sl none true 0 []) (.sl none true 0 []) []→wpC E Yf jfb s Q) :
 wpC E Yf S51.body (Jz [.agg (j2 h)] ob tk ro base ub) Q:=by
 have e:S51.body = .seq (hdC S51.body) (.seq (hdC (tlC S51.body)) jfb):=rfl
 rw [e]
 simp [hdC,tlC,S51,j2,j1,j7]
 have a1:¬ 2 * ub=2 * (ub+64):=by omega
 have a2:¬ 2 * ub=2 * (ub+64+64+64):=by omega
 have a3:¬ 2 * (ub+64)=2 * (ub+64+64+64):=by omega
 refine ⟨by omega,hrest _ ⟨by simp,by simp,by simp,by simp,by simp,by simp [j2,a1,a2],by simp [a3],by simp,.inl ⟨rfl,rfl⟩,.inl ⟨rfl,rfl⟩,⟨by simp,.inl ⟨rfl,rfl⟩⟩,by simp,Nat.le_refl _,Nat.le_refl _,fun key hk=>?_⟩⟩
 have e1:=hk ub (Nat.le_refl _)
 have e2:=hk (ub+64) (by omega)
 have e3:=hk (ub+64+64+64) (by omega)
 simp [e1,e2,e3]
theorem jxt:jfb = .seq (hdC jfb) jfa:=rfl
theorem few1O {h:Hist'} {Yf:YF} {ob0:ZO} {ub ro:Nat} {s0:St} {Q:Ex→St→Prop} (hru:ro≤ub) (hs:FewO h ob0 ub ro s0 0 0 s0.nx s0.nx (.sl none true 0 []) (.sl none true 0 []) (.sl none true 0 []) [])
 (hrest:∀ s Sv,FewO h ob0 ub ro s 25 0 s.nx s.nx Sv (.sl none true 0 []) (.sl none true 0 []) []→wpC E Yf jfa s Q):wpC E Yf jfb s0 Q:=by
 rw [jxt]
 obtain ⟨f1,f2,f3,fd,fr,o1,o2,o3,gS,gK,gT,n0,n1,n2,ff⟩:=hs
 simp [hdC,jfb,tlC,S51]
 refine jE [(4,4),(9,37)] 25 (fun i s=>s.tm 4 = .int .i64 i∧i≤h.ss.length∧∃ Sv,FewO h ob0 ub ro s i 0 s.nx s.nx Sv (.sl none true 0 []) (.sl none true 0 []) []) rfl rfl ?_ ?_
 ·refine ⟨by simp,by simp,.sl none true 0 [],⟨by simp [f1],by simp [f2],by simp [f3],by simp [fd],by simp [fr],by simp [o1],by simp [o2],by simp [o3],.inl ⟨rfl,rfl⟩,.inl ⟨rfl,rfl⟩,⟨by simp,.inl ⟨rfl,rfl⟩⟩,by simp;omega,Nat.le_refl _,Nat.le_refl _,fun key hk=>by simp [ff key hk]⟩⟩
 rintro i s hi ⟨h4,hle,Sv,f1,f2,f3,fd,fr,o1,o2,o3,gS,gK,gT,n0,n1,n2,ff⟩ f
 clear f
 have hend:¬ (i<h.ss.length∧i<25)→∀ s':St,(s'.tm 1=s.tm 1∧s'.tm 2=s.tm 2∧s'.tm 3=s.tm 3)→s'.df=s.df→s'.ro=s.ro→s'.ob=s.ob→s.nx≤s'.nx→wpC E Yf jfa s' Q:=by
  intro hx s' ⟨q1,q2,q3⟩ e2 e3 e4 e5
  refine hrest s' Sv ⟨q1.trans f1,q2.trans f2,q3.trans f3,by rw [e2];exact fd,by rw [e3];exact fr,by rw [e4];exact o1,by rw [e4];exact o2,by rw [e4];exact o3,?_,.inl ⟨rfl,rfl⟩,⟨by simp,.inl ⟨rfl,rfl⟩⟩,by omega,Nat.le_refl _,Nat.le_refl _,fun key hk=>by rw [e4];exact ff key hk⟩
  rw [← jnm hle hi hx,e4]
  exact gS.frame (fun _ _ _=>rfl) (Nat.le_refl _) e5
 have o1':s.ob (2 * ub+1)=some ⟨ub,.cells [jK h.sn JF h.ss,jK h.kn JF h.ks,jK h.tn jk h.ts]⟩:=o1
 by_cases hlt:i<h.ss.length
 ·by_cases hl5:i<25
  ·have hw:=J6 hl5 (by omega)
   have hl5':(i:Int)<25:=by omega
   obtain ⟨c,hc⟩:∃ c,h.ss[i]=c:=⟨_,rfl⟩
   have hsi:=jfh h.ss hlt
   have hsn:=jji hlt hl5
   rw [hc] at hsi hsn
   have hmn:=jbe c.length 100
   have hst:=jme (l:=c) (kk:=.i64) (Nat.min_le_left c.length 100)
   have htk:=jc4 c
   rw [htk] at hst
   rw [show ((100:Nat):Int)=100 from rfl] at hmn
   simp [hmn,hst,h4,f1,o1',j1,hlt,hl5',f3,o3,j6 Y3,hsi]
   refine Qo (cs:=[.str (c.take 100)]) (by simp [j7]) rfl rfl ?_
   simp
   have e24:s.nx≤(s.nx+64+64+64+64+64+64+64+64+64+64+64+64+64+64+64+64+64+64+64+64+64+64+64+64):=by omega
   have e25:s.nx≤(s.nx+64+64+64+64+64+64+64+64+64+64+64+64+64+64+64+64+64+64+64+64+64+64+64+64+64):=by omega
   have e26:(s.nx+64+64+64+64+64+64+64+64+64+64+64+64+64+64+64+64+64+64+64+64+64+64+64+64)<(s.nx+64+64+64+64+64+64+64+64+64+64+64+64+64+64+64+64+64+64+64+64+64+64+64+64+64):=by omega
   have hll:=jnk i h.ss
   refine jd9 (lo:=ub+256) (hi:=s.nx) (l:=Y9 i h.ss) (c:=c.take 100) ?_ (by simp [jM,j1];rfl) (by simp [fr];omega) (by omega) fun ks hks=>?_
   ·simp
    refine gS.frame (fun u h1 h2=>?_) (Nat.le_refl _) (Nat.le_refl _)
    have e1:¬ 2 * u=2 * (s.nx+64+64+64+64+64+64+64+64+64+64+64+64+64+64+64+64+64+64+64+64+64+64+64+64):=by omega
    simp [e1]
   rw [← hsn]
   have hlen:(Y9 i h.ss).length+1=(Y9 (i+1) h.ss).length:=by rw [hsn];simp
   rw [hlen]
   have hno:∀ key,(∀ u,ub+256≤u→u<s.nx→key≠2 * u+1)→ks.any (Nat.beq key)=false:=fun key hk=>jzi fun k hkk=>by
    obtain ⟨u,h1,h2,h3⟩:=hks k hkk
    rw [h3];exact hk u h1 h2
   have hn1:=hno (2 * ub+1) (fun u _ _=>by omega)
   have hn2:=hno (2 * (ub+64)+1) (fun u _ _=>by omega)
   have hn3:=hno (2 * (ub+192)+1) (fun u _ _=>by omega)
   have w1:¬ 2 * ub=2 * (s.nx+64+64+64+64+64+64+64+64+64+64+64+64+64+64+64+64+64+64+64+64+64+64+64+64+64):=by omega
   have w2:¬ 2 * (ub+64)=2 * (s.nx+64+64+64+64+64+64+64+64+64+64+64+64+64+64+64+64+64+64+64+64+64+64+64+64+64):=by omega
   have w3:¬ 2 * (ub+192)=2 * (s.nx+64+64+64+64+64+64+64+64+64+64+64+64+64+64+64+64+64+64+64+64+64+64+64+64+64):=by omega
   have w4:¬ 2 * ub=2 * (s.nx+64+64+64+64+64+64+64+64+64+64+64+64+64+64+64+64+64+64+64+64+64+64+64+64):=by omega
   have w5:¬ 2 * (ub+64)=2 * (s.nx+64+64+64+64+64+64+64+64+64+64+64+64+64+64+64+64+64+64+64+64+64+64+64+64):=by omega
   have w6:¬ 2 * (ub+192)=2 * (s.nx+64+64+64+64+64+64+64+64+64+64+64+64+64+64+64+64+64+64+64+64+64+64+64+64):=by omega
   have w7:¬ 2 * (s.nx+64+64+64+64+64+64+64+64+64+64+64+64+64+64+64+64+64+64+64+64+64+64+64+64+64)=2 * (ub+192):=by omega
   have w8:¬ 2 * ub=2 * (ub+192):=by omega
   have w9:¬ 2 * (ub+64)=2 * (ub+192):=by omega
   simp [f3,j1,jt,hn3,w3,w6,o3,fr,j7,h4,hw]
   refine ⟨by omega,?_,?_⟩
   ·simp [XV,jbo,jfd,jch,rdOb,rdTk,lOf,Delta.wo,Delta.wt]
    exact nbeq (by omega)
   have hne:Y9 (i+1) h.ss≠[]:=by rw [hsn];simp
   refine ⟨hl5,by omega,.osl (2 * (s.nx+64+64+64+64+64+64+64+64+64+64+64+64+64+64+64+64+64+64+64+64+64+64+64+64+64)+1) (s.nx+64+64+64+64+64+64+64+64+64+64+64+64+64+64+64+64+64+64+64+64+64+64+64+64+64) 0 (Y9 (i+1) h.ss).length 1,⟨by simp [f1],by simp [f2],by simp [f3],by simp [fd],by simp [fr],by simp [jt,hn1,w1,w4,w8,o1],by simp [jt,hn2,w2,w5,w9,o2],by simp,
    .inr ⟨hne,(s.nx+64+64+64+64+64+64+64+64+64+64+64+64+64+64+64+64+64+64+64+64+64+64+64+64+64),by omega,by simp,rfl,by simp [jt,w7]⟩,.inl ⟨rfl,rfl⟩,⟨by simp,.inl ⟨rfl,rfl⟩⟩,by simp;omega,Nat.le_refl _,Nat.le_refl _,fun key hk=>?_⟩⟩
   have k1:=hk (ub+192) (by omega)
   have k2:=hk (s.nx+64+64+64+64+64+64+64+64+64+64+64+64+64+64+64+64+64+64+64+64+64+64+64+64+64) (by omega)
   have k3:=hk (s.nx+64+64+64+64+64+64+64+64+64+64+64+64+64+64+64+64+64+64+64+64+64+64+64+64) (by omega)
   have k4:=hno key (fun u h1 h2=>hk u (by omega))
   simp [jt,k1,k2,k3,k4]
   exact ff key hk
  ·have hl5':¬ (i:Int)<25:=by omega
   simp [h4,f1,o1',j1,hlt,hl5']
   exact hend (by omega) _ ⟨by simp,by simp,by simp⟩ (by simp) (by simp) (by funext k;simp) (by simp;omega)
 ·simp [h4,f1,o1',j1,hlt]
  exact hend (by omega) _ ⟨by simp,by simp,by simp⟩ (by simp) (by simp) (by funext k;simp) (by simp;omega)
theorem jxs:jfa = .seq (hdC jfa) jhe:=rfl
theorem few2O {h:Hist'} {Yf:YF} {ob0:ZO} {ub ro:Nat} {s0:St} {Q:Ex→St→Prop} {N1:Nat} {S0:V} (hru:ro≤ub) (hs:FewO h ob0 ub ro s0 25 0 N1 s0.nx S0 (.sl none true 0 []) (.sl none true 0 []) [])
 (hrest:∀ s Kv,FewO h ob0 ub ro s 25 45 N1 s.nx S0 Kv (.sl none true 0 []) []→wpC E Yf jhe s Q):wpC E Yf jfa s0 Q:=by
 rw [jxs]
 obtain ⟨f1,f2,f3,fd,fr,o1,o2,o3,gS,gK,gT,n0,n1,n2,ff⟩:=hs
 simp [hdC,jfa,jfb,tlC,S51]
 refine jE [(5,5),(38,66)] 45 (fun i s=>s.tm 5 = .int .i64 i∧i≤h.ks.length∧∃ Kv,FewO h ob0 ub ro s 25 i N1 s.nx S0 Kv (.sl none true 0 []) []) rfl rfl ?_ ?_
 ·refine ⟨by simp,by simp,.sl none true 0 [],⟨by simp [f1],by simp [f2],by simp [f3],by simp [fd],by simp [fr],by simp [o1],by simp [o2],by simp [o3],gS.frame (fun _ _ _=>by simp) (Nat.le_refl _) (Nat.le_refl _),.inl ⟨rfl,rfl⟩,⟨by simp,.inl ⟨rfl,rfl⟩⟩,n0,by simp;omega,Nat.le_refl _,fun key hk=>by simp [ff key hk]⟩⟩
 rintro i s hi ⟨h4,hle,Kv,f1,f2,f3,fd,fr,o1,o2,o3,gS,gK,gT,n0,n1,n2,ff⟩ f
 clear f
 have hend:¬ (i<h.ks.length∧i<45)→∀ s':St,(s'.tm 1=s.tm 1∧s'.tm 2=s.tm 2∧s'.tm 3=s.tm 3)→s'.df=s.df→s'.ro=s.ro→s'.ob=s.ob→s.nx≤s'.nx→wpC E Yf jhe s' Q:=by
  intro hx s' ⟨q1,q2,q3⟩ e2 e3 e4 e5
  refine hrest s' Kv ⟨q1.trans f1,q2.trans f2,q3.trans f3,by rw [e2];exact fd,by rw [e3];exact fr,by rw [e4];exact o1,by rw [e4];exact o2,by rw [e4];exact o3,by rw [e4];exact gS,?_,⟨by simp,.inl ⟨rfl,rfl⟩⟩,n0,by omega,Nat.le_refl _,fun key hk=>by rw [e4];exact ff key hk⟩
  rw [← jnm hle hi hx,e4]
  exact gK.frame (fun _ _ _=>rfl) (Nat.le_refl _) e5
 have o1':s.ob (2 * ub+1)=some ⟨ub,.cells [jK h.sn JF h.ss,jK h.kn JF h.ks,jK h.tn jk h.ts]⟩:=o1
 by_cases hlt:i<h.ks.length
 ·by_cases hl5:i<45
  ·have hw:=J6 hl5 (by omega)
   have hl5':(i:Int)<45:=by omega
   obtain ⟨c,hc⟩:∃ c,h.ks[i]=c:=⟨_,rfl⟩
   have hsi:=jfh h.ks hlt
   have hsn:=jji hlt hl5
   rw [hc] at hsi hsn
   have hmn:=jbe c.length 100
   have hst:=jme (l:=c) (kk:=.i64) (Nat.min_le_left c.length 100)
   have htk:=jc4 c
   rw [htk] at hst
   rw [show ((100:Nat):Int)=100 from rfl] at hmn
   simp [hmn,hst,h4,f1,o1',j1,hlt,hl5',f3,o3,j6 Y3,hsi]
   refine Qo (cs:=[.str (c.take 100)]) (by simp [j7]) rfl rfl ?_
   simp
   have e24:s.nx≤(s.nx+64+64+64+64+64+64+64+64+64+64+64+64+64+64+64+64+64+64+64+64+64+64+64+64):=by omega
   have e25:s.nx≤(s.nx+64+64+64+64+64+64+64+64+64+64+64+64+64+64+64+64+64+64+64+64+64+64+64+64+64):=by omega
   have e26:(s.nx+64+64+64+64+64+64+64+64+64+64+64+64+64+64+64+64+64+64+64+64+64+64+64+64)<(s.nx+64+64+64+64+64+64+64+64+64+64+64+64+64+64+64+64+64+64+64+64+64+64+64+64+64):=by omega
   have hll:=jnk i h.ks
   refine jd9 (lo:=N1) (hi:=s.nx) (l:=Y9 i h.ks) (c:=c.take 100) ?_ (by simp [jM,j1];rfl) (by simp [fr];omega) (by omega) fun ks hks=>?_
   ·simp
    refine gK.frame (fun u h1 h2=>?_) (Nat.le_refl _) (Nat.le_refl _)
    have e1:¬ 2 * u=2 * (s.nx+64+64+64+64+64+64+64+64+64+64+64+64+64+64+64+64+64+64+64+64+64+64+64+64):=by omega
    simp [e1]
   rw [← hsn]
   have hlen:(Y9 i h.ks).length+1=(Y9 (i+1) h.ks).length:=by rw [hsn];simp
   rw [hlen]
   have hno:∀ key,(∀ u,N1≤u→u<s.nx→key≠2 * u+1)→ks.any (Nat.beq key)=false:=fun key hk=>jzi fun k hkk=>by
    obtain ⟨u,h1,h2,h3⟩:=hks k hkk
    rw [h3];exact hk u h1 h2
   have hn1:=hno (2 * ub+1) (fun u _ _=>by omega)
   have hn2:=hno (2 * (ub+64)+1) (fun u _ _=>by omega)
   have hn3:=hno (2 * (ub+192)+1) (fun u _ _=>by omega)
   have w1:¬ 2 * ub=2 * (s.nx+64+64+64+64+64+64+64+64+64+64+64+64+64+64+64+64+64+64+64+64+64+64+64+64+64):=by omega
   have w2:¬ 2 * (ub+64)=2 * (s.nx+64+64+64+64+64+64+64+64+64+64+64+64+64+64+64+64+64+64+64+64+64+64+64+64+64):=by omega
   have w3:¬ 2 * (ub+192)=2 * (s.nx+64+64+64+64+64+64+64+64+64+64+64+64+64+64+64+64+64+64+64+64+64+64+64+64+64):=by omega
   have w4:¬ 2 * ub=2 * (s.nx+64+64+64+64+64+64+64+64+64+64+64+64+64+64+64+64+64+64+64+64+64+64+64+64):=by omega
   have w5:¬ 2 * (ub+64)=2 * (s.nx+64+64+64+64+64+64+64+64+64+64+64+64+64+64+64+64+64+64+64+64+64+64+64+64):=by omega
   have w6:¬ 2 * (ub+192)=2 * (s.nx+64+64+64+64+64+64+64+64+64+64+64+64+64+64+64+64+64+64+64+64+64+64+64+64):=by omega
   have w7:¬ 2 * (s.nx+64+64+64+64+64+64+64+64+64+64+64+64+64+64+64+64+64+64+64+64+64+64+64+64+64)=2 * (ub+192):=by omega
   have w8:¬ 2 * ub=2 * (ub+192):=by omega
   have w9:¬ 2 * (ub+64)=2 * (ub+192):=by omega
   simp [f3,j1,jt,hn3,w3,w6,o3,fr,j7,h4,hw]
   refine ⟨by omega,?_,?_⟩
   ·simp [XV,jbo,jfd,jch,rdOb,rdTk,lOf,Delta.wo,Delta.wt]
    exact nbeq (by omega)
   have hne:Y9 (i+1) h.ks≠[]:=by rw [hsn];simp
   refine ⟨hl5,by omega,.osl (2 * (s.nx+64+64+64+64+64+64+64+64+64+64+64+64+64+64+64+64+64+64+64+64+64+64+64+64+64)+1) (s.nx+64+64+64+64+64+64+64+64+64+64+64+64+64+64+64+64+64+64+64+64+64+64+64+64+64) 0 (Y9 (i+1) h.ks).length 1,⟨by simp [f1],by simp [f2],by simp [f3],by simp [fd],by simp [fr],by simp [jt,hn1,w1,w4,w8,o1],by simp [jt,hn2,w2,w5,w9,o2],by simp,
    gS.frame (fun u h1 h2=>?_) (Nat.le_refl _) (Nat.le_refl _),.inr ⟨hne,(s.nx+64+64+64+64+64+64+64+64+64+64+64+64+64+64+64+64+64+64+64+64+64+64+64+64+64),by omega,by simp,rfl,by simp [jt,w7]⟩,⟨by simp,.inl ⟨rfl,rfl⟩⟩,n0,by first | omega | (simp;omega),Nat.le_refl _,fun key hk=>?_⟩⟩
   ·have k1:¬ 2 * u=2 * (ub+192):=by omega
    have k2:¬ 2 * u=2 * (s.nx+64+64+64+64+64+64+64+64+64+64+64+64+64+64+64+64+64+64+64+64+64+64+64+64+64):=by omega
    have k3:¬ 2 * u=2 * (s.nx+64+64+64+64+64+64+64+64+64+64+64+64+64+64+64+64+64+64+64+64+64+64+64+64):=by omega
    have k4:=hno (2 * u+1) (fun u' _ _=>by omega)
    simp [jt,k1,k2,k3,k4]
   have k1:=hk (ub+192) (by omega)
   have k2:=hk (s.nx+64+64+64+64+64+64+64+64+64+64+64+64+64+64+64+64+64+64+64+64+64+64+64+64+64) (by omega)
   have k3:=hk (s.nx+64+64+64+64+64+64+64+64+64+64+64+64+64+64+64+64+64+64+64+64+64+64+64+64) (by omega)
   have k4:=hno key (fun u h1 h2=>hk u (by omega))
   simp [jt,k1,k2,k3,k4]
   exact ff key hk
  ·have hl5':¬ (i:Int)<45:=by omega
   simp [h4,f1,o1',j1,hlt,hl5']
   exact hend (by omega) _ ⟨by simp,by simp,by simp⟩ (by simp) (by simp) (by funext k;simp) (by simp;omega)
 ·simp [h4,f1,o1',j1,hlt]
  exact hend (by omega) _ ⟨by simp,by simp,by simp⟩ (by simp) (by simp) (by funext k;simp) (by simp;omega)
def rdsF (g:Hist') (M:List Int):List (Int × Int × Int):=((readH g).zip M).map fun x=>(x.1.1,x.2,jao g x.1)
theorem jgr {g:Hist'} {M:List Int} (h:M.length=(readH g).length):(rdsF g M).length=(readH g).length:=by simp [rdsF,h]
theorem j0q {g:Hist'} {M:List Int} {i:Nat} (h1:i<(readH g).length) (h2:i<M.length):(rdsF g M)[i]? = some ((readH g)[i].1,M[i],jao g (readH g)[i]):=by
 unfold rdsF
 rw [List.getElem?_map,show ((readH g).zip M)[i]? = some ((readH g)[i],M[i]) from List.getElem?_zip_eq_some.2 ⟨List.getElem?_eq_getElem h1,List.getElem?_eq_getElem h2⟩]
 rfl
def YQ (g:Hist') (t a:Nat):Bool:=sesAt g a == sesAt g t
def W5 (g:Hist') (t i:Nat):Nat:=Js 0 ((List.range i).filter fun key=>Xx g t key)
def RowG (ob:ZO) (lo hi:Nat) (v:V) (rs:List (Int × Int × Int)):Prop:=(v = .sl none true 0 []∧rs=[])∨∃ u,v = .osl (2 * u+1) u 0 rs.length 3∧ob (2 * u+1)=some ⟨u,.cells (rs.flatMap rdC)⟩∧lo≤u∧u<hi
theorem RowG.frame {ob ob':ZO} {lo hi hi':Nat} {v:V} {rs:List (Int × Int × Int)} (h:RowG ob lo hi v rs) (hf:∀ u,lo≤u→u<hi→ob' (2 * u+1)=ob (2 * u+1)) (hh:hi≤hi'):RowG ob' lo hi' v rs:=by
 rcases h with h | ⟨u,h1,h2,h3,h4⟩
 ·exact .inl h
 ·exact .inr ⟨u,h1,(hf u h3 h4).trans h2,h3,by omega⟩
theorem jo9 {v:V} {rs:List (Int × Int × Int)} {r:Int × Int × Int} {s x:A} {st:St} {lo hi ub:Nat} {K:List FP→St→Prop} {d:Option Nat} {q:List AOpr} (hs:eval E st.tm s=v) (hv:RowG st.ob lo hi v rs) (hro:st.ro≤lo)
 (hx:jM st.ob 3 (eval E st.tm x)=some (rdC r)) (hl:rs.length≤1000000)
 (h:∀ kill:List Nat,(kill=[]∨∃ u,v = .osl (2 * u+1) u 0 rs.length 3∧kill=[2 * u+1]∧lo≤u∧u<hi)→WM E q K (eval E st.tm) (.append true 3 24 s x) st d ub { v:=.osl (2 * ub+1) ub 0 (rs.length+1) 3,obs:=[(2 * ub+1,⟨ub,.cells ((rs++[r]).flatMap rdC)⟩)],kill:=kill }):jF E (⟨d,.append true 3 24 s x,none,true⟩::q) st ub K:=by
 have hne:rdC r≠[]:=by simp [rdC]
 have hlf:(rdC r).all V.leaf=true:=rfl
 have hfl:=jA jkh rs
 rw [JD rfl]
 rcases hv with ⟨rfl,rfl⟩ | ⟨u,rfl,ho,h1,h2⟩
 ·simp only [aop,hs,hx,Option.bind_some,if_neg hne,Bool.and_self,if_true,X2,jdw]
  rw [if_pos ⟨by decide,hlf,by simp [rdC],by simp [rdC]⟩]
  simp only [Jc,jN]
  have:=h [] (.inl rfl)
  simpa [rdC] using this
 ·have hoc:j1 st.ob (2 * u+1) u=some (rs.flatMap rdC):=by simp [j1,ho]
  simp only [aop,hs,hx,hoc,Option.bind_some,if_neg hne,X2,jdw]
  rw [if_pos ⟨Nat.ble_eq ▸ (by omega),trivial,trivial,by omega,by decide,hlf,by simp [rdC];omega,by simp [rdC];omega⟩,jN]
  have:=h [2 * u+1] (.inr ⟨u,rfl,rfl,h1,h2⟩)
  rw [show (rs.flatMap rdC).take (rs.length * 3)=rs.flatMap rdC from List.take_of_length_le (by omega)]
  simpa [rdC,List.flatMap_append] using this
theorem jov {α:Type} (m:List (Int × α)) (k:Int) (a:α):∃ i,jf (YD m k a) k=some (i,a):=by
 have:=Wn k a k m
 rw [if_pos rfl] at this
 cases h:jf (YD m k a) k with
 | none=>rw [h] at this;cases this
 | some p =>
  rw [h] at this
  simp only [Option.map_some,Option.some.injEq] at this
  exact ⟨p.1,by rw [← this]⟩
theorem jow {α:Type} (m:List (Int × α)) (k k':Int) (a z:α):Qj (YD m k a) k' z=if k'=k then a else Qj m k' z:=by
 rw [jm0,jm0,Wn]
 split <;> rfl
theorem j8j {ob:ZO} {l u:Nat} {k:Int} {m:List (Int × Option (Nat × Nat))} {p:Nat × Nat} (h:jR ob l u=some (MK .i64 je4 (YD m k (some p)))):XY ob .int .nilptr false (.map l u) (.int .i64 k)=some (.ptr p.1 p.2 0):=by
 rw [jbj (q:=.i64) (f:=je4) _ h]
 obtain ⟨i,hi⟩:=jov m k (some p)
 rw [hi]
 rfl
theorem jek (p:Nat→Bool) (L:List Nat) (x:Nat):Js 0 ((L++[x]).filter p)=if p x then Js 0 (L.filter p) ||| 1 <<< x else Js 0 (L.filter p):=by
 rw [List.filter_append,List.filter_cons,List.filter_nil]
 cases p x
 ·simp
 ·rw [if_pos rfl,if_pos rfl,Js,List.foldl_append]
  rfl
theorem je9 {L:List Nat} (h:L.Pairwise (· < ·)) {j t:Nat} (hj:j<L.length) (ht:t=L[j]) (p:Nat→Bool):L.filter (fun a=>decide (a<t) && p a)=(L.take j).filter p:=by
 subst ht
 have hp:=List.pairwise_iff_getElem.1 h
 have e:L.filter (fun a=>decide (a<L[j]) && p a)=(L.take j++L.drop j).filter (fun a=>decide (a<L[j]) && p a):=by rw [List.take_append_drop]
 rw [e,List.filter_append]
 have h1:(L.drop j).filter (fun a=>decide (a<L[j]) && p a)=[]:=by
  rw [List.filter_eq_nil_iff]
  intro a ha
  obtain ⟨i,hi,rfl⟩:=List.getElem_of_mem ha
  rw [List.length_drop] at hi
  rw [List.getElem_drop]
  have:¬ L[j+i]<L[j]:=by
   rcases Nat.eq_zero_or_pos i with h0 | h0
   ·subst h0;simp
   ·have:=hp j (j+i) hj (by omega) (by omega)
    omega
  simp [this]
 rw [h1,List.append_nil]
 refine List.filter_congr fun a ha=>?_
 obtain ⟨i,hi,rfl⟩:=List.getElem_of_mem ha
 rw [List.length_take] at hi
 rw [List.getElem_take]
 simp [hp i j (by omega) hj (by omega)]
structure SB (ob:ZO) (lo hi k u:Nat) (T:List Nat) (v f:Nat→Nat):Prop where
 m:∃ m,ob k=some ⟨u,.mp (2 * T.length) (MK .i64 je4 m)⟩∧∀ t∈T,Qj m (t:Int) none=some (2 * v t+1,v t)
 s:∀ t∈T,ob (2 * v t+1)=some ⟨v t,.cells (setC (f t))⟩∧lo≤v t∧v t<hi
theorem SB.snoc {ob ob':ZO} {lo hi hi' k u t x:Nat} {T:List Nat} {v f:Nat→Nat} {m:List (Int × Option (Nat × Nat))} (h:SB ob lo hi k u T v f) (hm:∀ z∈T,Qj m (z:Int) none=some (2 * v z+1,v z))
 (hk:ob' k=some ⟨u,.mp (2 * (T.length+1)) (MK .i64 je4 (YD m (t:Int) (some (2 * x+1,x))))⟩) (hs:∀ z∈T,ob' (2 * v z+1)=ob (2 * v z+1)) (hx:ob' (2 * x+1)=some ⟨x,.cells (setC (f t))⟩) (h1:lo≤x) (h2:x<hi') (h3:hi≤hi') (ht:t ∉ T) :
 SB ob' lo hi' k u (T++[t]) (fun z=>if z=t then x else v z) f:=by
 refine ⟨⟨_,by rw [List.length_append];exact hk,fun z hz=>?_⟩,fun z hz=>?_⟩
 ·rw [jow]
  by_cases e:z=t
  ·subst e
   simp
  ·have e2:¬ (z:Int)=t:=by omega
   rw [if_neg e2,if_neg e]
   rcases List.mem_append.1 hz with hz | hz
   ·exact hm z hz
   ·exact absurd (List.mem_singleton.1 hz) e
 ·by_cases e:z=t
  ·subst e
   simp only [if_true]
   exact ⟨hx,h1,h2⟩
  ·rcases List.mem_append.1 hz with hz | hz
   ·simp only [if_neg e]
    obtain ⟨q1,q2,q3⟩:=h.s z hz
    exact ⟨(hs z hz).trans q1,q2,by omega⟩
   ·exact absurd (List.mem_singleton.1 hz) e
theorem jxu {T:List Nat} {vA vW:Nat→Nat} {t a w hi:Nat} (h:∀ z∈T,∀ z'∈T,vA z≠vW z') (h1:∀ z∈T,vA z<hi) (h2:∀ z∈T,vW z<hi) (ha:hi≤a) (hw:hi≤w) (hne:a≠w) :
 ∀ z∈T++[t],∀ z'∈T++[t],(if z=t then a else vA z)≠(if z'=t then w else vW z'):=by
 intro z hz z' hz'
 have m:∀ {y},y∈T++[t]→¬ y=t→y∈T:=fun hy e=>by
  rcases List.mem_append.1 hy with h | h
  ·exact h
  ·exact absurd (List.mem_singleton.1 h) e
 by_cases e:z=t
 ·by_cases e':z'=t
  ·rw [if_pos e,if_pos e'];exact hne
  ·rw [if_pos e,if_neg e']
   have:=h2 z' (m hz' e')
   omega
 ·by_cases e':z'=t
  ·rw [if_neg e,if_pos e']
   have:=h1 z (m hz e)
   omega
  ·rw [if_neg e,if_neg e']
   exact h z (m hz e) z' (m hz' e')
theorem jna {T:List Nat} {v:Nat→Nat} {t a hi:Nat} (h:∀ z∈T,∀ z'∈T,v z=v z'→z=z') (h1:∀ z∈T,v z<hi) (ha:hi≤a) :
 ∀ z∈T++[t],∀ z'∈T++[t],(if z=t then a else v z)=(if z'=t then a else v z')→z=z':=by
 intro z hz z' hz' heq
 have m:∀ {y},y∈T++[t]→¬ y=t→y∈T:=fun hy e=>by
  rcases List.mem_append.1 hy with h | h
  ·exact h
  ·exact absurd (List.mem_singleton.1 h) e
 by_cases e:z=t
 ·by_cases e':z'=t
  ·rw [e,e']
  ·rw [if_pos e,if_neg e'] at heq
   have:=h1 z' (m hz' e')
   omega
 ·by_cases e':z'=t
  ·rw [if_neg e,if_pos e'] at heq
   have:=h1 z (m hz e)
   omega
  ·rw [if_neg e,if_neg e'] at heq
   exact h z (m hz e) z' (m hz' e') heq
def WZ (g:Hist') (t:Nat):Nat:=Js 0 ((comN g).filter fun a=>decide (a<t) && YQ g t a)
def W6 (g:Hist') (t:Nat):Nat:=W5 g t g.ks.length
theorem SB.sets {N:FN} {ob ob':ZO} {lo hi n0 k u:Nat} {T:List Nat} {v f:Nat→Nat} (h:SB ob lo hi k u T v f) (h0:FixF N n0 k) (hk:ob' k=ob k) (hs:∀ z∈T,ob' (2 * v z+1)=ob (2 * v z+1)∧FixF N n0 (2 * v z+1)):SetsF N n0 ob' k u T f:=by
 obtain ⟨m,h1,h2⟩:=h.m
 exact ⟨h0,_,m,hk.trans h1,fun t ht=>⟨_,_,h2 t ht,(hs t ht).1.trans (h.s t ht).1,(hs t ht).2⟩⟩
def BegF (g:Hist') (M:List Int) (ob:ZO) (ub:Nat) (r:V × (ZO) × (Nat→Bool) × Nat):Prop :=
 ub≤r.2.2.2∧Was ub ob r.2.1∧∃ (N:FN) (rv:V) (tc:Option (Nat × Nat)),r.1 = .ptr N.kF N.uF 0∧r.2.1 N.kF=some ⟨N.uF,.cells (fdC g N rv (.sl tc (comL g).isEmpty (comL g).length ((comL g).flatMap intC)) (.sl none true 0 []) 0 false)⟩ ∧
  Fd N rv (rdsF g M) (comN g) (WZ g) (W6 g) r.2.2.2 r.2.1∧r.2.1 N.kV=some ⟨N.uV,.mp 0 (MK .u64 ja0 [])⟩∧Off r.2.2.2 N.kF∧Off r.2.2.2 N.kV∧N.kF≠N.kV∧ub≤N.uF∧ub≤N.uV
section
variable {g:Hist'} {M:List Int}
set_option maxHeartbeats 4000000 in
theorem sv76 {Yf:YF} (hs:Small g) (hm:Qk g M=true) {nl:Bool} {ob:ZO} {tk:Nat→Bool} {ro base ub:Nat} (hro:ro≤ub) :
 ∃ r,EvS E Yf.y 76 [.agg (j2 g),jK nl intC M] ob tk ro base ub r∧BegF g M ob ub r:=by
 have hw:=Xq hm
 have hM:=jd0 hm
 have hR:=Yu hs
 have hmay:=Ym hw
 obtain ⟨vr,evr,hvr⟩:=ev86 hs
 have hrd:ja9 g=readH g:=by simp [ja9,hw]
 rw [hrd] at hvr
 obtain ⟨vc,evc,hvc⟩:=ev71 hs
 rw [jty hw] at hvc
 refine Wa (af:=S76) rfl (by decide) ?_
 show wpC E Yf S76.body _ (Qn S76.res _)
 simp (disch:=first | (simp;done) | omega) [S76,j1,j2,V.cells,Nat.add_assoc]
 refine jha ?_
 simp (disch:=first | (simp;done) | omega)
 refine jha ?_
 simp (disch:=first | (simp;done) | omega) [j1,two_inj,Nat.add_assoc]
 refine X8 evc (by simp [j2,jK]) rfl (by simp [j2,jK]) ?_
 refine Wb hvc fun tc addc=>?_
 simp (disch:=first | (simp;done) | omega)
 refine jha ?_
 simp (disch:=first | (simp;done) | omega) [j7,V.cells,XV,jbo,jfd,jch,rdOb,rdTk,lOf,Delta.wo,Delta.wt,jK,Nat.add_assoc]
 refine ⟨⟨XD (by omega),XD (by omega),XD (by omega),XD (by omega),XD (by omega),XD (by omega),XD (by omega),XD (by omega),XD (by omega)⟩,?_⟩
 simp (disch:=first | (simp;done) | omega) [j1,two_inj]
 refine jX evr (by simp [j2,jK]) rfl (by simp [j2,jK]) ?_
 refine Wb hvr fun tr addr=>?_
 simp (disch:=first | (simp;done) | omega)
 refine JM fun st hst=>?_
 obtain ⟨uA,hA1⟩:∃ u,u=ub+192:=⟨_,rfl⟩
 obtain ⟨uW,hW1⟩:∃ u,u=ub+256:=⟨_,rfl⟩
 obtain ⟨uV,hV1⟩:∃ u,u=ub+448:=⟨_,rfl⟩
 obtain ⟨uF,hF1⟩:∃ u,u=ub+576:=⟨_,rfl⟩
 obtain ⟨N,hN⟩:∃ N:FN,N=⟨2 * uF+1,uF,2 * uA+1,uA,2 * uW+1,uW,2 * uV+1,uV⟩:=⟨_,rfl⟩
 obtain ⟨al,hal⟩:∃ al:V,al = .sl tc (comL g).isEmpty (comL g).length ((comL g).flatMap intC):=⟨_,rfl⟩
 have g1:st.tm 1=jK nl intC M:=by rw [hst];simp [jK]
 have g2:st.tm 2 = .ptr (2 * ub+1) ub 0:=by rw [hst];simp
 have g5:st.tm 5 = .ptr (2 * uF+1) uF 0:=by rw [hst,hF1];simp
 have g24:st.tm 24 = .sl tr (readH g).isEmpty (readH g).length ((readH g).flatMap jG):=by rw [hst];simp
 have g25:st.tm 25 = .int .i64 (readH g).length:=by rw [hst];simp
 have g26:st.tm 26 = .int .i64 0:=by rw [hst];simp
 have gd:st.df=[]:=by rw [hst];simp
 have gr:st.ro=ro:=by rw [hst];simp
 have gn:uF<st.nx:=by rw [hst,hF1];simp
 have gw:Was ub ob st.ob:=fun key hk=>by rw [hst];simp (disch:=first | (simp;done) | omega) [show ∀ m,ub≤m→¬ key=2 * m+1 from hk]
 have pB:st.ob (2 * ub+1)=some ⟨ub,.cells (j2 g)⟩:=by rw [hst];simp (disch:=first | (simp;done) | omega) [two_inj,j2,jK]
 have pF:st.ob (2 * uF+1)=some ⟨uF,.cells (fdC g N (.sl none true 0 []) al (.sl none true 0 []) 0 false)⟩:=by rw [hst,hN,hF1,hA1,hW1,hV1,hal];simp (disch:=first | (simp;done) | omega) [fdC,jK]
 have pA:st.ob (2 * uA+1)=some ⟨uA,.mp 0 (MK .i64 je4 [])⟩:=by rw [hst,hA1];simp (disch:=first | (simp;done) | omega) [two_inj,MK]
 have pW:st.ob (2 * uW+1)=some ⟨uW,.mp 0 (MK .i64 je4 [])⟩:=by rw [hst,hW1];simp (disch:=first | (simp;done) | omega) [two_inj,MK]
 have pV:st.ob (2 * uV+1)=some ⟨uV,.mp 0 (MK .u64 ja0 [])⟩:=by rw [hst,hV1];simp (disch:=first | (simp;done) | omega) [two_inj,MK]
 clear hst
 obtain ⟨o1,o2,o3,o4⟩:ub<uA∧uA<uW∧uW<uV∧uV<uF:=by omega
 clear hA1 hW1 hV1 hF1
 obtain ⟨ob1,hob1⟩:∃ o,o=st.ob:=⟨_,rfl⟩
 obtain ⟨n0,hn0⟩:∃ n,n=st.nx:=⟨_,rfl⟩
 rw [← hob1] at gw pB pF pA pW pV
 rw [← hn0] at gn
 have hfl:=jgr (g:=g) hM
 obtain ⟨J,hJ⟩:∃ J:Nat→St→Prop,J=fun i s=>s.tm 26 = .int .i64 i∧(∃ rv,s.ob (2 * uF+1)=some ⟨uF,.cells (fdC g N rv al (.sl none true 0 []) 0 false)⟩∧RowG s.ob n0 s.nx rv ((rdsF g M).take i))∧(∀ key,Off n0 key→key≠2 * uF+1→s.ob key=ob1 key)∧n0≤s.nx:=⟨_,rfl⟩
 refine jE [(6,7),(26,59)] (readH g).length J rfl rfl (by
  rw [hJ]
  exact ⟨by simpa using g26,⟨_,by rw [← hob1];exact pF,.inl ⟨rfl,rfl⟩⟩,fun key _ _=>by rw [hob1],by omega⟩) ?_
 clear pF
 intro i s hi hJs f
 rw [hJ] at hJs
 obtain ⟨s26,⟨rv,sF,sR⟩,sw,sn⟩:=hJs
 have s1:s.tm 1=jK nl intC M:=by rw [f.t 1 (by simp)];simp [g1]
 have s2:s.tm 2 = .ptr (2 * ub+1) ub 0:=by rw [f.t 2 (by simp)];simp [g2]
 have s5:s.tm 5 = .ptr (2 * uF+1) uF 0:=by rw [f.t 5 (by simp)];simp [g5]
 have s24:s.tm 24 = .sl tr (readH g).isEmpty (readH g).length ((readH g).flatMap jG):=by rw [f.t 24 (by simp)];simp [g24]
 have s25:s.tm 25 = .int .i64 (readH g).length:=by rw [f.t 25 (by simp)];simp [g25]
 have sd:s.df=[]:=by rw [f.d];simp [gd]
 have sr:s.ro=ro:=by rw [f.r];simp [gr]
 clear f
 have qB:s.ob (2 * ub+1)=some ⟨ub,.cells (j2 g)⟩:=by rw [sw _ (Off.new (by omega)) (by omega)];exact pB
 have nB:∀ m,s.nx≤m→¬ ub=m:=fun m hm=>by omega
 have nF:∀ m,s.nx≤m→¬ uF=m:=fun m hm=>by omega
 by_cases hlt:i<(readH g).length
 ·have hwk:=J6 hlt (by omega)
  have hiM:i<M.length:=by omega
  obtain ⟨a,k,ha,hk,e,hkey,hc⟩:=jkf hmay hlt
  have hix:=W0 Jv tr (readH g).isEmpty (readH g) .i64 hlt
  have hpa:=fun ob=>jcn (readH g) ob hlt
  have hrd1:=j0q hlt hiM
  simp only [e] at hpa hrd1
  have hmi:=XI M hiM
  have hl3:(g.ts.flatMap jk)[a * 3+2]? = some (jK (g.ts[a]).nl opC (g.ts[a]).ops):=by rw [jg j9 g.ts ha (by decide:2<3)];rfl
  have hlk:((g.ts[a]).ops.flatMap opC)[k * 4+1]? = some (.int .i64 ((g.ts[a]).ops[k]).key):=by rw [jg jJ (g.ts[a]).ops hk (by decide:1<4)];rfl
  simp (disch:=first | (simp;done) | omega) [s26,s25,s24,s5,hlt,hix,hpa,j1,j7,two_inj,nF,sF,fdC]
  refine ⟨by first | omega | (simp [sr];omega),?_⟩
  simp (disch:=first | (simp;done) | omega) [j1,j7,two_inj,nB,qB,s1,s2,j2,j6 j9,j6 jJ,j6 jH,hl3,hlk,hmi,Nat.add_assoc]
  obtain ⟨key,hkey'⟩:∃ key,key=jao g (readH g)[i]:=⟨_,rfl⟩
  rw [← hkey'] at hkey
  rw [← hkey]
  refine Qo (cs:=rdC ((a:Int),M[i],key)) (by simp [j7,rdC]) rfl rfl ?_
  simp
  refine jo9 (lo:=n0) (hi:=s.nx) (rs:=(rdsF g M).take i) (r:=((a:Int),M[i],key)) (v:=rv) (by simp) ?_ ?_ ?_ ?_ fun kill hkill=>?_
  ·refine sR.frame (fun u h1 h2=>?_) (Nat.le_refl _)
   have h3:∀ m,s.nx≤m→¬ u=m:=fun m hm=>by omega
   simp (disch:=first | (simp;done) | omega) [two_inj,h3]
  ·first | omega | (simp [sr];omega)
  ·simp [jM,j1,rdC]
  ·rw [List.length_take]
   omega
  have hk0:∀ key,Off n0 key→kill.any (Nat.beq key)=false:=fun key hkey=>by
   rcases hkill with rfl | ⟨u,h,rfl,h1,h2⟩
   ·rfl
   ·simp only [List.any_cons,List.any_nil,Bool.or_false]
    exact XD (hkey u h1)
  have hk1:∀ m,s.nx≤m→kill.any (Nat.beq (2 * m+1))=false:=fun m hm=>by
   rcases hkill with rfl | ⟨u,h,rfl,h1,h2⟩
   ·rfl
   ·simp only [List.any_cons,List.any_nil,Bool.or_false]
    exact XD (by omega)
  have hkF:=hk0 (2 * uF+1) (Off.new (by omega))
  generalize hcs:List.flatMap rdC (List.take i (rdsF g M)++[(((a:Nat):Int),M[i],key)])=cs56
  simp (disch:=first | (simp;done) | omega) [j1,two_inj,nF,sF,fdC,hkF,jt,j7,XV,jbo,jfd,jch,rdOb,rdTk,lOf,Delta.wo,Delta.wt,List.any_append]
  refine ⟨by first | omega | (simp [sr];omega),XD (by omega),?_⟩
  simp [s26,hwk,hlt]
  rw [hJ]
  refine ⟨by simp,⟨.osl (2 * (s.nx+2048)+1) (s.nx+2048) 0 (((rdsF g M).take i).length+1) 3,?_,.inr ⟨s.nx+2048,?_,?_,by omega,by first | omega | (simp;done) | (simp;omega)⟩⟩,fun key hk hne=>?_,by first | omega | (simp;done) | (simp;omega)⟩
  ·simp (disch:=first | (simp;done) | omega) [fdC]
  ·rw [List.length_take,List.length_take]
   congr 1
   omega
  ·have hg2:(rdsF g M)[i]'(by omega)=(((a:Nat):Int),M[i],key):=by
    obtain ⟨_,h2⟩:=List.getElem?_eq_some_iff.1 hrd1
    rw [h2,hkey',e]
   rw [List.take_succ_eq_append_getElem (by omega),hg2,hcs]
   simp (disch:=first | (simp;done) | omega) [jt,two_inj,show ¬ s.nx+2048=uF from by omega]
  ·have f1:=hk.ne
   simp (disch:=first | (simp;done) | omega) [jt,f1,hne,hk0 key hk,sw key hk hne]
 ·have:i=(readH g).length:=by omega
  subst this
  clear hlt hi
  rw [List.take_of_length_le (by omega)] at sR
  have eB:=qB
  simp (disch:=first | (simp;done) | omega) [s26,s25,s5,j1,sF,fdC,two_inj]
  rw [hal]
  simp
  refine JM fun st hst=>?_
  have g2:st.tm 2 = .ptr (2 * ub+1) ub 0:=by rw [hst];simp [s2]
  have g5:st.tm 5 = .ptr (2 * uF+1) uF 0:=by rw [hst];simp [s5]
  have g63:st.tm 63 = .sl tc (comL g).isEmpty (comL g).length ((comL g).flatMap intC):=by rw [hst];simp
  have g64:st.tm 64 = .int .i64 (comL g).length:=by rw [hst];simp
  have g65:st.tm 65 = .int .i64 0:=by rw [hst];simp
  have gd:st.df=[]:=by rw [hst];simp [sd]
  have gr:st.ro=ro:=by rw [hst];simp [sr]
  have go:st.ob=s.ob:=by rw [hst];simp
  have gn2:s.nx≤st.nx:=by rw [hst];simp;omega
  clear hst
  obtain ⟨ob2,hob2⟩:∃ o,o=st.ob:=⟨_,rfl⟩
  obtain ⟨n1,hn1⟩:∃ n,n=st.nx:=⟨_,rfl⟩
  rw [← go,← hob2] at sF sR sw qB
  have qA:ob2 (2 * uA+1)=some ⟨uA,.mp 0 (MK .i64 je4 [])⟩:=by rw [sw _ (Off.new (by omega)) (by omega)];exact pA
  have qW:ob2 (2 * uW+1)=some ⟨uW,.mp 0 (MK .i64 je4 [])⟩:=by rw [sw _ (Off.new (by omega)) (by omega)];exact pW
  have qV:ob2 (2 * uV+1)=some ⟨uV,.mp 0 (MK .u64 ja0 [])⟩:=by rw [sw _ (Off.new (by omega)) (by omega)];exact pV
  have gw2:Was ub ob ob2:=fun key hk=>by rw [sw key (hk.up (by omega)) (hk uF (by omega))];exact gw key hk
  have sR2:RowG ob2 n0 n1 rv (rdsF g M):=sR.frame (fun _ _ _=>rfl) (by omega)
  have hn01:n0≤n1:=by omega
  clear sw pA pW pV sR gw go gn2 sn s26 s1 s2 s5 s24 s25 sd sr nB nF eB
  obtain ⟨J2,hJ2⟩:∃ J2:Nat→St→Prop,J2=fun i s=>s.tm 65 = .int .i64 i∧(∀ key,Off n1 key→key≠2 * uA+1→key≠2 * uW+1→s.ob key=ob2 key)∧n1≤s.nx ∧
   ∃ vA vW,SB s.ob n1 s.nx (2 * uA+1) uA ((comN g).take i) vA (WZ g)∧SB s.ob n1 s.nx (2 * uW+1) uW ((comN g).take i) vW (W6 g)∧(∀ t∈(comN g).take i,∀ t'∈(comN g).take i,vA t≠vW t') ∧
    (∀ t∈(comN g).take i,∀ t'∈(comN g).take i,vA t=vA t'→t=t')∧∀ t∈(comN g).take i,∀ t'∈(comN g).take i,vW t=vW t'→t=t':=⟨_,rfl⟩
  refine jE [(8,9),(11,14),(65,142)] (comL g).length J2 rfl rfl (by
   rw [hJ2]
   exact ⟨by simpa using g65,fun key _ _ _=>by rw [hob2],by omega,fun _=>0,fun _=>0,⟨⟨[],by rw [← hob2];exact qA,fun t h=>(by cases h)⟩,fun t h=>(by cases h)⟩,⟨⟨[],by rw [← hob2];exact qW,fun t h=>(by cases h)⟩,fun t h=>(by cases h)⟩,fun t h=>(by cases h),fun t h=>(by cases h),fun t h=>(by cases h)⟩) ?_
  intro i s hi hJs f
  rw [hJ2] at hJs
  obtain ⟨s65,sw,sn,vA,vW,sA,sW,hAW,hAA,hWW⟩:=hJs
  have s2:s.tm 2 = .ptr (2 * ub+1) ub 0:=by rw [f.t 2 (by simp)];simp [g2]
  have s5:s.tm 5 = .ptr (2 * uF+1) uF 0:=by rw [f.t 5 (by simp)];simp [g5]
  have s63:s.tm 63 = .sl tc (comL g).isEmpty (comL g).length ((comL g).flatMap intC):=by rw [f.t 63 (by simp)];simp [g63]
  have s64:s.tm 64 = .int .i64 (comL g).length:=by rw [f.t 64 (by simp)];simp [g64]
  have sd:s.df=[]:=by rw [f.d];simp [gd]
  have sr:s.ro=ro:=by rw [f.r];simp [gr]
  clear f
  have hcl:=jhf g
  by_cases hlt:i<(comL g).length
  ·have hltN:i<(comN g).length:=by omega
   have hts:=hs.ts
   have hcts:(comN g).length≤1000:=by
    have:=jhg g
    omega
   have hK:jk2=1000000000000:=rfl
   have hwk:=J6 hlt (by omega)
   obtain ⟨t,ht⟩:∃ t,t=(comN g)[i]:=⟨_,rfl⟩
   have hti:(comL g)[i]=(t:Int):=by
    have h1:(comL g)[i]? = (ints (comN g))[i]?:=by rw [Q2]
    rw [List.getElem?_eq_getElem hlt] at h1
    unfold ints at h1
    rw [List.getElem?_map,List.getElem?_eq_getElem hltN] at h1
    simpa [ht] using h1
   have hix:=W0 jH tc (comL g).isEmpty (comL g) .i64 hlt
   have hia:=XI (comL g) hlt
   rw [hti] at hia
   obtain ⟨mA,hmA,hmA2⟩:=sA.m
   obtain ⟨mW,hmW,hmW2⟩:=sW.m
   have hTl:((comN g).take i).length=i:=by rw [List.length_take];omega
   rw [hTl] at hmA hmW
   have xF:s.ob (2 * uF+1)=some ⟨uF,.cells (fdC g N rv al (.sl none true 0 []) 0 false)⟩:=by rw [sw _ (Off.new (by omega)) (by omega) (by omega)];exact sF
   have xB:s.ob (2 * ub+1)=some ⟨ub,.cells (j2 g)⟩:=by rw [sw _ (Off.new (by omega)) (by omega) (by omega)];exact qB
   have nB:∀ m,s.nx≤m→¬ ub=m:=fun m hm=>by omega
   have nF:∀ m,s.nx≤m→¬ uF=m:=fun m hm=>by omega
   have nA:∀ m,s.nx≤m→¬ uA=m:=fun m hm=>by omega
   have nW:∀ m,s.nx≤m→¬ uW=m:=fun m hm=>by omega
   have nWA:¬ uW=uA:=by omega
   have hNk:N.kA=2 * uA+1∧N.uA=uA∧N.kW=2 * uW+1∧N.uW=uW:=by rw [hN];exact ⟨rfl,rfl,rfl,rfl⟩
   simp (disch:=first | (simp;done) | omega) [s65,s64,s63,s5,hlt,hix,hia,j1,xF,fdC,hNk]
   refine jy1 (by simp) rfl rfl rfl ?_
   simp
   refine jy1 (by simp) rfl rfl rfl ?_
   simp
   refine jf6 (q:=.i64) (f:=je4) (a:=none) (ver:=2 * i) (k:=(t:Int)) (l:=2 * uA+1) (u:=uA) mA (by simp) (by simp) rfl (by simp (disch:=first | (simp;done) | omega) [two_inj,nA,hmA]) (by first | omega | (simp [sr];omega)) (by omega) ?_
   simp
   refine ji7 (q:=.i64) (f:=je4) (a:=some (2 * (s.nx+1024)+1,s.nx+1024)) (ver:=2 * i+1) (k:=(t:Int)) (l:=2 * uA+1) (u:=uA) (YD mA (t:Int) (Qj mA (t:Int) none)) (by simp) (by simp) (by simp [je4,V.strip]) (jsb mA t _) (by simp) (by first | omega | (simp [sr];omega)) (by omega) ?_
   rw [jmy]
   simp
   refine jf6 (q:=.i64) (f:=je4) (a:=none) (ver:=2 * i) (k:=(t:Int)) (l:=2 * uW+1) (u:=uW) mW (by simp) (by simp) rfl (by simp (disch:=first | (simp;done) | omega) [two_inj,nW,hmW,nWA]) (by first | omega | (simp [sr];omega)) (by omega) ?_
   simp
   refine ji7 (q:=.i64) (f:=je4) (a:=some (2 * (s.nx+1088)+1,s.nx+1088)) (ver:=2 * i+1) (k:=(t:Int)) (l:=2 * uW+1) (u:=uW) (YD mW (t:Int) (Qj mW (t:Int) none)) (by simp) (by simp) (by simp [je4,V.strip]) (jsb mW t _) (by simp) (by first | omega | (simp [sr];omega)) (by omega) ?_
   rw [jmy]
   simp
   refine ⟨jwe (by simp (disch:=first | (simp;done) | omega) [jr8,jou,Wm,jfd,jch,rdOb,rdTk,lOf,Delta.wo,Delta.wt,s5,j1,xF,fdC,hNk,two_inj];and_intros <;> exact XD (by omega)),?_⟩
   have hsl:Qy 1 none (some (.int .i64 (i:Int))) (.sl tc (comL g).isEmpty (comL g).length ((comL g).flatMap intC))=some (.sl none (comL g).isEmpty i (((comL g).take i).flatMap intC)):=by
    rw [jkb jH tc _ (comL g) (show i≤_ by omega),List.length_take,Nat.min_eq_left (by omega)]
   have nFW:¬ uF=uW:=by omega
   have nFA:¬ uF=uA:=by omega
   simp (disch:=first | (simp;done) | omega) [s5,j1,xF,fdC,two_inj,nF,nFW,nFA]
   rw [hal,hsl]
   simp
   refine JM fun st hst=>?_
   obtain ⟨ua,hua⟩:∃ u,u=s.nx+1024:=⟨_,rfl⟩
   obtain ⟨uw,huw⟩:∃ u,u=s.nx+1088:=⟨_,rfl⟩
   have g2:st.tm 2 = .ptr (2 * ub+1) ub 0:=by rw [hst];simp [s2]
   have g5:st.tm 5 = .ptr (2 * uF+1) uF 0:=by rw [hst];simp [s5]
   have g9:st.tm 9 = .int .i64 t:=by rw [hst];simp
   have g65:st.tm 65 = .int .i64 i:=by rw [hst];simp [s65]
   have g91:st.tm 91 = .sl none (comL g).isEmpty i (((comL g).take i).flatMap intC):=by rw [hst];simp
   have g92:st.tm 92 = .int .i64 i:=by rw [hst];simp
   have g93:st.tm 93 = .int .i64 0:=by rw [hst];simp
   have g63:st.tm 63 = .sl tc (comL g).isEmpty (comL g).length ((comL g).flatMap intC):=by rw [hst];simp [s63]
   have g64:st.tm 64 = .int .i64 (comL g).length:=by rw [hst];simp [s64]
   have gd:st.df=[]:=by rw [hst];simp [sd]
   have gr:st.ro=ro:=by rw [hst];simp [sr]
   have gn:uw<st.nx:=by rw [hst,huw];simp
   have gw:∀ key,Off s.nx key→key≠2 * uA+1→key≠2 * uW+1→st.ob key=s.ob key:=fun key hk h1 h2=>by rw [hst];simp (disch:=first | (simp;done) | omega) [hk.ne,h1,h2]
   have pa:st.ob (2 * ua+1)=some ⟨ua,.cells (setC 0)⟩:=by rw [hst,hua];simp (disch:=first | (simp;done) | omega) [two_inj,Nat.add_assoc,jh8,show ¬ s.nx+1024=uA by omega,show ¬ s.nx+1024=uW by omega]
   have pw:st.ob (2 * uw+1)=some ⟨uw,.cells (setC 0)⟩:=by rw [hst,huw];simp (disch:=first | (simp;done) | omega) [two_inj,Nat.add_assoc,jh8,show ¬ s.nx+1088=uA by omega,show ¬ s.nx+1088=uW by omega]
   have pA:st.ob (2 * uA+1)=some ⟨uA,.mp (2 * (i+1)) (MK .i64 je4 (YD mA (t:Int) (some (2 * ua+1,ua))))⟩:=by rw [hst,hua];simp (disch:=first | (simp;done) | omega) [two_inj,Nat.add_assoc,show ¬ uA=uW by omega,Nat.mul_add]
   have pW:st.ob (2 * uW+1)=some ⟨uW,.mp (2 * (i+1)) (MK .i64 je4 (YD mW (t:Int) (some (2 * uw+1,uw))))⟩:=by rw [hst,huw];simp (disch:=first | (simp;done) | omega) [two_inj,Nat.add_assoc,Nat.mul_add]
   clear hst
   obtain ⟨ob3,hob3⟩:∃ o,o=st.ob:=⟨_,rfl⟩
   obtain ⟨n3,hn3⟩:∃ n,n=st.nx:=⟨_,rfl⟩
   rw [← hob3] at gw pa pw pA pW
   rw [← hn3] at gn
   have hhd:XK g=true:=by
    unfold X7 at hmay
    simp only [Bool.and_eq_true] at hmay
    exact hmay.1
   unfold XK at hhd
   simp only [Bool.and_eq_true,decide_eq_true_eq] at hhd
   obtain ⟨_,_,_,hks,htl⟩:=hhd
   have hcom:∀ {x:Nat},x∈comN g→x<g.ts.length:=fun h=>Jy (comN_mem.1 h)
   have htt:t<g.ts.length:=hcom (ht ▸ List.getElem_mem hltN)
   have hses:∀ {x:Nat} (h:x<g.ts.length),(g.ts.flatMap jk)[x * 3]? = some (.int .i64 (sesAt g x)):=fun {x} h=>by
    have:=jg j9 g.ts h (by decide:0<3)
    rw [Nat.add_zero] at this
    rw [this]
    simp [jk,sesAt,h]
   obtain ⟨J3,hJ3⟩:∃ J3:Nat→St→Prop,J3=fun j s=>s.tm 93 = .int .i64 j∧s.ob (2 * ua+1)=some ⟨ua,.cells (setC (Js 0 (((comN g).take j).filter (YQ g t))))⟩∧(∀ key,Off n3 key→key≠2 * ua+1→s.ob key=ob3 key)∧n3≤s.nx:=⟨_,rfl⟩
   refine jE [(11,11),(93,118)] i J3 rfl rfl (by
    rw [hJ3]
    exact ⟨by simpa using g93,by rw [← hob3];exact pa,fun key _ _=>by rw [hob3],by omega⟩) ?_
   intro j q hj hJq f
   rw [hJ3] at hJq
   obtain ⟨q93,qa,qw,qn⟩:=hJq
   have q2:q.tm 2 = .ptr (2 * ub+1) ub 0:=by rw [f.t 2 (by simp)];simp [g2]
   have q5:q.tm 5 = .ptr (2 * uF+1) uF 0:=by rw [f.t 5 (by simp)];simp [g5]
   have q9:q.tm 9 = .int .i64 t:=by rw [f.t 9 (by simp)];simp [g9]
   have q91:q.tm 91 = .sl none (comL g).isEmpty i (((comL g).take i).flatMap intC):=by rw [f.t 91 (by simp)];simp [g91]
   have q92:q.tm 92 = .int .i64 i:=by rw [f.t 92 (by simp)];simp [g92]
   have q63:q.tm 63 = .sl tc (comL g).isEmpty (comL g).length ((comL g).flatMap intC):=by rw [f.t 63 (by simp)];simp [g63]
   have q64:q.tm 64 = .int .i64 (comL g).length:=by rw [f.t 64 (by simp)];simp [g64]
   have q65:q.tm 65 = .int .i64 i:=by rw [f.t 65 (by simp)];simp [g65]
   have qd:q.df=[]:=by rw [f.d];simp [gd]
   have qr:q.ro=ro:=by rw [f.r];simp [gr]
   clear f
   have zF:q.ob (2 * uF+1)=some ⟨uF,.cells (fdC g N rv al (.sl none true 0 []) 0 false)⟩:=by rw [qw _ (Off.new (by omega)) (by omega),gw _ (Off.new (by omega)) (by omega) (by omega)];exact xF
   have zB:q.ob (2 * ub+1)=some ⟨ub,.cells (j2 g)⟩:=by rw [qw _ (Off.new (by omega)) (by omega),gw _ (Off.new (by omega)) (by omega) (by omega)];exact xB
   by_cases hjl:j<i
   ·have hjN:j<(comN g).length:=by omega
    obtain ⟨x,hx⟩:∃ x,x=(comN g)[j]:=⟨_,rfl⟩
    have hxl:x<g.ts.length:=hcom (hx ▸ List.getElem_mem hjN)
    have hji:(comL g)[j]'(by omega)=(x:Int):=by
     have h1:(comL g)[j]? = (ints (comN g))[j]?:=by rw [Q2]
     rw [List.getElem?_eq_getElem (show j<(comL g).length by omega)] at h1
     unfold ints at h1
     rw [List.getElem?_map,List.getElem?_eq_getElem hjN] at h1
     simpa [hx] using h1
    have hjl':j<((comL g).take i).length:=by rw [List.length_take];omega
    have hlT:((comL g).take i).length=i:=by rw [List.length_take];omega
    have hjx:=W0 jH none (comL g).isEmpty ((comL g).take i) .i64 hjl'
    have hja:=XI ((comL g).take i) hjl'
    rw [List.getElem_take,hji] at hja
    rw [hlT] at hjx
    have hwj:=J6 hjl (by omega)
    have hse1:=hses hxl
    have hse2:=hses htt
    simp (disch:=first | (simp;done) | omega) [q93,q92,q91,q9,q2,hjl,hjx,hja,j1,zB,j2,j6 j9,hse1,hse2]
    have hstep:Js 0 (((comN g).take (j+1)).filter (YQ g t))=if sesAt g x == sesAt g t then Js 0 (((comN g).take j).filter (YQ g t)) ||| 1 <<< x else Js 0 (((comN g).take j).filter (YQ g t)):=by
     rw [List.take_succ_eq_append_getElem hjN,← hx,jek]
     rfl
    cases hsm:sesAt g x == sesAt g t
    ·simp [q93,hwj,hjl]
     rw [hJ3]
     rw [hsm] at hstep
     refine ⟨by simp,by rw [hstep];simpa using qa,fun key hk hne=>by simp [qw key hk hne],by first | omega | (simp;done) | (simp;omega)⟩
    ·rw [hsm,if_pos rfl] at hstep
     have hbl:Js 0 (((comN g).take j).filter (YQ g t))<2 ^ 64:=Ya (by decide) fun y hy=>by
      have:=hcom (List.mem_of_mem_take (List.mem_filter.1 hy).1)
      omega
     simp (disch:=first | (simp;done) | omega) [q5,q9,j1,zF,fdC,hNk]
     rw [j8j (p:=(2 * ua+1,ua)) (k:=(t:Int)) (m:=mA) (by simp [jR];rw [qw _ (Off.new (by omega)) (by omega),pA];simp)]
     simp
     refine JL (vs:=[.ptr (2 * ua+1) ua 0,.int .i64 x]) (by simp) rfl (sv81 (w:=Js 0 (((comN g).take j).filter (YQ g t))) (by simpa using qa) (Off.new (by first | omega | (simp;done) | (simp;omega))) (by first | omega | (simp [qr];omega)) (by omega) hbl) ?_
     rintro v ob4 tk4 ub4 ⟨r1,r2,r3⟩
     simp only at r1 r2 r3
     simp [q93,hwj,hjl]
     rw [hJ3]
     refine ⟨by simp,?_,fun key hk hne=>?_,by first | omega | (simp;done) | (simp;omega)⟩
     ·simp
      rw [r2 _ (Off.new (by first | omega | (simp;done) | (simp;omega))),if_pos rfl,hstep]
     ·simp
      rw [r2 key (hk.up (by first | omega | (simp;done) | (simp;omega))),if_neg hne]
      simp [qw key hk hne]
   ·have:j=i:=by omega
    subst this
    clear hjl hj
    simp (disch:=first | (simp;done) | omega) [q93,q92,q2,j1,zB,j2]
    refine JM fun st hst=>?_
    have g2:st.tm 2 = .ptr (2 * ub+1) ub 0:=by rw [hst];simp [q2]
    have g5:st.tm 5 = .ptr (2 * uF+1) uF 0:=by rw [hst];simp [q5]
    have g9:st.tm 9 = .int .i64 t:=by rw [hst];simp [q9]
    have g65:st.tm 65 = .int .i64 j:=by rw [hst];simp [q65]
    have g121:st.tm 121 = .int .i64 g.ks.length:=by rw [hst];simp [jK]
    have g122:st.tm 122 = .int .i64 0:=by rw [hst];simp
    have g63:st.tm 63 = .sl tc (comL g).isEmpty (comL g).length ((comL g).flatMap intC):=by rw [hst];simp [q63]
    have g64:st.tm 64 = .int .i64 (comL g).length:=by rw [hst];simp [q64]
    have gd:st.df=[]:=by rw [hst];simp [qd]
    have gr:st.ro=ro:=by rw [hst];simp [qr]
    have go:st.ob=q.ob:=by rw [hst];simp
    have gn4:q.nx≤st.nx:=by rw [hst];simp;omega
    clear hst
    obtain ⟨ob5,hob5⟩:∃ o,o=st.ob:=⟨_,rfl⟩
    obtain ⟨n5,hn5⟩:∃ n,n=st.nx:=⟨_,rfl⟩
    rw [← go,← hob5] at qa qw zF zB
    obtain ⟨J5,hJ5⟩:∃ J5:Nat→St→Prop,J5=fun k s=>s.tm 122 = .int .i64 k∧s.ob (2 * uw+1)=some ⟨uw,.cells (setC (W5 g t k))⟩∧(∀ key,Off n5 key→key≠2 * uw+1→s.ob key=ob5 key)∧n5≤s.nx:=⟨_,rfl⟩
    refine jE [(12,14),(122,141)] g.ks.length J5 rfl rfl (by
     rw [hJ5]
     exact ⟨by simpa using g122,by rw [← hob5,qw _ (Off.new (by omega)) (by omega)];exact pw,fun key _ _=>by rw [hob5],by omega⟩) ?_
    intro k y hk hJy f
    rw [hJ5] at hJy
    obtain ⟨y122,yw,yk,yn⟩:=hJy
    have y2:y.tm 2 = .ptr (2 * ub+1) ub 0:=by rw [f.t 2 (by simp)];simp [g2]
    have y5:y.tm 5 = .ptr (2 * uF+1) uF 0:=by rw [f.t 5 (by simp)];simp [g5]
    have y9:y.tm 9 = .int .i64 t:=by rw [f.t 9 (by simp)];simp [g9]
    have y65:y.tm 65 = .int .i64 j:=by rw [f.t 65 (by simp)];simp [g65]
    have y121:y.tm 121 = .int .i64 g.ks.length:=by rw [f.t 121 (by simp)];simp [g121]
    have yd:y.df=[]:=by rw [f.d];simp [gd]
    have yr:y.ro=ro:=by rw [f.r];simp [gr]
    clear f
    have wF:y.ob (2 * uF+1)=some ⟨uF,.cells (fdC g N rv al (.sl none true 0 []) 0 false)⟩:=by rw [yk _ (Off.new (by omega)) (by omega)];exact zF
    have wB:y.ob (2 * ub+1)=some ⟨ub,.cells (j2 g)⟩:=by rw [yk _ (Off.new (by omega)) (by omega)];exact zB
    by_cases hkl:k<g.ks.length
    ·have hwk2:=J6 hkl (by omega)
     have el:=j9z hs t k
     have ez:(Ql (Xo g t).2 (k:Int)).2=Xx g t k:=rfl
     rw [ez] at el
     simp (disch:=first | (simp;done) | omega) [y122,y121,y9,y2,hkl,j1,wB,j2]
     refine jX el (by simp [j2]) rfl (by simp [j2]) ?_
     rw [X6 (by simp [V.plain,JB])]
     simp (disch:=first | (simp;done) | omega) [JB,j1,j7]
     refine ⟨by first | omega | (simp [yr];omega),?_⟩
     have hstep:W5 g t (k+1)=if Xx g t k then W5 g t k ||| 1 <<< k else W5 g t k:=by
      unfold W5
      rw [List.range_succ,jek]
     cases hlv:Xx g t k
     ·simp [y122,hwk2,hkl]
      rw [hJ5]
      rw [hlv] at hstep
      refine ⟨by simp,by rw [hstep];simp (disch:=first | (simp;done) | omega) [two_inj,yw,show ∀ m,y.nx≤m→¬ uw=m from fun m hm=>by omega],fun key hk hne=>by simp (disch:=first | (simp;done) | omega) [hk.ne,yk key hk hne],by first | omega | (simp;done) | (simp;omega)⟩
     ·rw [hlv,if_pos rfl] at hstep
      have hbl:W5 g t k<2 ^ 64:=Ya (by decide) fun z hz=>by
       have:=List.mem_range.1 (List.mem_filter.1 hz).1
       omega
      have nuw:∀ m,y.nx≤m→¬ uw=m:=fun m hm=>by omega
      have nW5:∀ m,y.nx≤m→¬ uW=m:=fun m hm=>by omega
      have nF5:∀ m,y.nx≤m→¬ uF=m:=fun m hm=>by omega
      simp (disch:=first | (simp;done) | omega) [y5,y9,j1,wF,fdC,hNk,two_inj,nF5]
      rw [j8j (p:=(2 * uw+1,uw)) (k:=(t:Int)) (m:=mW) (by simp (disch:=first | (simp;done) | omega) [jR,two_inj,nW5];rw [yk _ (Off.new (by omega)) (by omega),qw _ (Off.new (by omega)) (by omega),pW];simp)]
      simp
      refine JL (vs:=[.ptr (2 * uw+1) uw 0,.int .i64 k]) (by simp) rfl (sv81 (w:=W5 g t k) (by simp (disch:=first | (simp;done) | omega) [two_inj,nuw,yw]) (Off.new (by first | omega | (simp;done) | (simp;omega))) (by first | omega | (simp [yr];omega)) (by omega) hbl) ?_
      rintro v ob4 tk4 ub4 ⟨r1,r2,r3⟩
      simp only at r1 r2 r3
      simp [y122,hwk2,hkl]
      rw [hJ5]
      refine ⟨by simp,?_,fun key hk hne=>?_,by first | omega | (simp;done) | (simp;omega)⟩
      ·simp
       rw [r2 _ (Off.new (by first | omega | (simp;done) | (simp;omega))),if_pos rfl,hstep]
      ·simp
       rw [r2 key (hk.up (by first | omega | (simp;done) | (simp;omega))),if_neg hne]
       simp (disch:=first | (simp;done) | omega) [hk.ne,yk key hk hne]
    ·have:k=g.ks.length:=by omega
     subst this
     have hchain:∀ key,Off s.nx key→key≠2 * uA+1→key≠2 * uW+1→y.ob key=s.ob key:=fun key hk h1 h2=>by
      rw [yk key (hk.up (by omega)) (hk uw (by omega)),qw key (hk.up (by omega)) (hk ua (by omega)),gw key hk h1 h2]
     have hA9:y.ob (2 * uA+1)=some ⟨uA,.mp (2 * (j+1)) (MK .i64 je4 (YD mA (t:Int) (some (2 * ua+1,ua))))⟩:=by rw [yk _ (Off.new (by omega)) (by omega),qw _ (Off.new (by omega)) (by omega),pA]
     have hW9:y.ob (2 * uW+1)=some ⟨uW,.mp (2 * (j+1)) (MK .i64 je4 (YD mW (t:Int) (some (2 * uw+1,uw))))⟩:=by rw [yk _ (Off.new (by omega)) (by omega),qw _ (Off.new (by omega)) (by omega),pW]
     have ha9:y.ob (2 * ua+1)=some ⟨ua,.cells (setC (WZ g t))⟩:=by
      rw [yk _ (Off.new (by omega)) (by omega),qa]
      unfold WZ
      rw [je9 (jtx g) hltN ht]
     simp [y122,y121,y65,hwk,hlt]
     rw [hJ2]
     have eT:(comN g).take (j+1)=(comN g).take j++[t]:=by rw [List.take_succ_eq_append_getElem hltN,ht]
     have htT:t ∉ (comN g).take j:=fun h=>by
      obtain ⟨i,hi,e⟩:=List.getElem_of_mem h
      rw [List.length_take] at hi
      rw [List.getElem_take] at e
      have:=List.pairwise_iff_getElem.1 (jtx g) i j (by omega) hltN (by omega)
      omega
     refine ⟨by simp,fun key hk h1 h2=>?_,by first | omega | (simp;done) | (simp;omega),fun z=>if z=t then ua else vA z,fun z=>if z=t then uw else vW z,?_,?_,?_,?_,?_⟩
     ·simp
      rw [hchain key (hk.up (by omega)) h1 h2]
      exact sw key hk h1 h2
     ·rw [eT]
      refine sA.snoc hmA2 (by rw [hTl];simpa using hA9) (fun z hz=>?_) (by simpa using ha9) (by omega) (by first | omega | (simp;done) | (simp;omega)) (by first | omega | (simp;done) | (simp;omega)) htT
      have:=(sA.s z hz).2
      simp
      exact hchain _ (Off.new (by omega)) (by omega) (by omega)
     ·rw [eT]
      refine sW.snoc hmW2 (by rw [hTl];simpa using hW9) (fun z hz=>?_) (by simpa [W6] using yw) (by omega) (by first | omega | (simp;done) | (simp;omega)) (by first | omega | (simp;done) | (simp;omega)) htT
      have:=(sW.s z hz).2
      simp
      exact hchain _ (Off.new (by omega)) (by omega) (by omega)
     ·rw [eT]
      exact jxu hAW (fun z hz=>(sA.s z hz).2.2) (fun z hz=>(sW.s z hz).2.2) (by omega) (by omega) (by omega)
     ·rw [eT]
      exact jna hAA (fun z hz=>(sA.s z hz).2.2) (by omega)
     ·rw [eT]
      exact jna hWW (fun z hz=>(sW.s z hz).2.2) (by omega)
  ·have:i=(comL g).length:=by omega
   subst this
   rw [List.take_of_length_le (by omega)] at sA sW hAW hAA hWW
   simp [s65,s64,s5]
   have xF:s.ob (2 * uF+1)=some ⟨uF,.cells (fdC g N rv al (.sl none true 0 []) 0 false)⟩:=by rw [sw _ (Off.new (by omega)) (by omega) (by omega)];exact sF
   have xV:s.ob (2 * uV+1)=some ⟨uV,.mp 0 (MK .u64 ja0 [])⟩:=by rw [sw _ (Off.new (by omega)) (by omega) (by omega)];exact qV
   have hNk:N.kF=2 * uF+1∧N.uF=uF∧N.kA=2 * uA+1∧N.uA=uA∧N.kW=2 * uW+1∧N.uW=uW∧N.kV=2 * uV+1∧N.uV=uV:=by rw [hN];exact ⟨rfl,rfl,rfl,rfl,rfl,rfl,rfl,rfl⟩
   obtain ⟨k1,k2,k3,k4,k5,k6,k7,k8⟩:=hNk
   have hfix:∀ u n,u<n→u≠uF→u≠uV→FixF N n (2 * u+1):=fun u n h1 h2 h3=>⟨by rw [k1];omega,by rw [k7];omega,Off.new h1⟩
   refine Q0 (by simp [sd]) ⟨by first | omega | (simp;done) | (simp;omega),fun key hk=>?_,N,rv,tc,by simp [k1,k2],by rw [k1,k2,← hal];simpa using xF,⟨?_,?_,?_⟩,by rw [k7,k8];simpa using xV,by rw [k1];exact Off.new (by first | omega | (simp;done) | (simp;omega)),by rw [k7];exact Off.new (by first | omega | (simp;done) | (simp;omega)),by rw [k1,k7];omega,by rw [k2];omega,by rw [k8];omega⟩
   ·simp
    rw [sw key (hk.up (by omega)) (hk uA (by omega)) (hk uW (by omega))]
    exact gw2 key hk
   ·rcases sR2 with h | ⟨u,h1,h2,h3,h4⟩
    ·exact .inl h
    ·refine .inr ⟨2 * u+1,u,h1,?_,hfix u _ (by first | omega | (simp;done) | (simp;omega)) (by omega) (by omega)⟩
     simp
     rw [sw _ (Off.new (by omega)) (by omega) (by omega)]
     exact h2
   ·rw [k3,k4]
    refine sA.sets (hfix uA _ (by first | omega | (simp;done) | (simp;omega)) (by omega) (by omega)) (by simp) fun z hz=>?_
    have:=(sA.s z hz).2
    exact ⟨by simp,hfix _ _ (by first | omega | (simp;done) | (simp;omega)) (by omega) (by omega)⟩
   ·rw [k5,k6]
    refine sW.sets (hfix uW _ (by first | omega | (simp;done) | (simp;omega)) (by omega) (by omega)) (by simp) fun z hz=>?_
    have:=(sW.s z hz).2
    exact ⟨by simp,hfix _ _ (by first | omega | (simp;done) | (simp;omega)) (by omega) (by omega)⟩
end
section
variable {g:Hist'} {M:List Int}
theorem jmk (hmay:X7 g=true) {i:Nat} (hi:i<(readH g).length):∃ k:Nat,jao g (readH g)[i]=k∧k<g.ks.length:=by
 obtain ⟨a,b,ha,hb,e,hk,hc⟩:=jkf hmay hi
 unfold X7 at hmay
 simp only [Bool.and_eq_true,List.all_eq_true] at hmay
 have:=hmay.2.2.1 (g.ts[a].ops[b]) (by
  unfold Qg
  exact List.mem_flatMap.2 ⟨g.ts[a],List.getElem_mem ha,List.getElem_mem hb⟩)
 simp only [opB,Y0,Bool.and_eq_true,decide_eq_true_eq] at this
 exact ⟨(jao g (readH g)[i]).toNat,by rw [hk];omega,by rw [hk];omega⟩
theorem jg2 (hmay:X7 g=true):g.ks.length≤40∧g.ts.length≤40:=by
 unfold X7 at hmay
 simp only [Bool.and_eq_true] at hmay
 have h:=hmay.1
 unfold XK at h
 simp only [Bool.and_eq_true,decide_eq_true_eq] at h
 exact ⟨h.2.2.2.1,h.2.2.2.2⟩
theorem j0p (hm:Qk g M=true) {r:Int × Int × Int} (hr:r∈rdsF g M):∃ (i:Nat) (p:Int × Int) (m:Int),(readH g)[i]? = some p∧M[i]? = some m∧r=(p.1,m,jao g p):=by
 unfold rdsF at hr
 obtain ⟨⟨p,m⟩,hx,rfl⟩:=List.mem_map.1 hr
 obtain ⟨i,hi⟩:=List.mem_iff_getElem?.1 hx
 obtain ⟨h1,h2⟩:=List.getElem?_zip_eq_some.1 hi
 exact ⟨i,p,m,h1,h2,rfl⟩
theorem jyp (hm:Qk g M=true):∀ r∈rdsF g M,RdOk r:=fun r hr=>by
 obtain ⟨i,p,m,h1,h2,rfl⟩:=j0p hm hr
 have hmay:=Ym (Xq hm)
 have hl:=jg2 hmay
 obtain ⟨hi,rfl⟩:=List.getElem?_eq_some_iff.1 h1
 obtain ⟨k,hk,hk2⟩:=jmk hmay hi
 obtain ⟨a,ea,ha⟩:=comL_mem.1 (jgq (List.getElem_mem hi))
 have:=Jy ha
 refine ⟨⟨by omega,by omega⟩,?_,by show 0≤jao g _;omega,by show jao g _<64;omega⟩
 show m<64
 rcases jk1 hm (List.mem_of_getElem? h2) with h | h
 ·omega
 ·obtain ⟨b,eb,hb⟩:=comL_mem.1 h
  have:=Jy hb
  omega
theorem jcu (p:Nat→Bool) (L:List Nat) (a:Nat):(Js 0 (L.filter p)).testBit a=decide (a∈L∧p a=true):=by
 rw [jnq,Nat.zero_testBit,Bool.false_or,Bool.eq_iff_iff,List.contains_iff_mem,List.mem_filter,decide_eq_true_eq]
theorem jr6 (hm:Qk g M=true) (h8:g.ts.length≤8) (w t:Nat):jwd (rdsF g M) (WZ g) (W6 g) w t=jdz g M (fun a=>w.testBit a) t:=by
 have hmay:=Ym (Xq hm)
 unfold jwd jdz
 congr 1
 ·rw [Bool.eq_iff_iff,List.all_eq_true,andTo_iff]
  constructor
  ·intro h a ha
   by_cases hc:JI g a=true
   ·by_cases hse:sesAt g a=sesAt g t
    ·have hlt:=Jy hc
     have:=h a (bitsUp_mem.2 ⟨by omega,by unfold WZ;rw [jcu,decide_eq_true_eq];exact ⟨comN_mem.2 hc,by simp [YQ,hse,ha]⟩⟩)
     simp [this]
    ·simp [hse]
   ·simp [hc]
  ·intro h a ha
   have hb:=(bitsUp_mem.1 ha).2
   unfold WZ at hb
   rw [jcu,decide_eq_true_eq] at hb
   obtain ⟨h1,h2⟩:=hb
   simp only [YQ,Bool.and_eq_true,decide_eq_true_eq,beq_iff_eq] at h2
   have:=h a h2.1
   simpa [comN_mem.1 h1,h2.2] using this
 ·rw [List.not_any_eq_all_not,rdsF,List.all_map,Bool.eq_iff_iff,List.all_eq_true,List.all_eq_true]
  refine forall_congr' fun x=>forall_congr' fun hx=>?_
  obtain ⟨p,m⟩:=x
  obtain ⟨i,hi⟩:=List.mem_iff_getElem?.1 hx
  obtain ⟨h1,h2⟩:=List.getElem?_zip_eq_some.1 hi
  obtain ⟨hi',rfl⟩:=List.getElem?_eq_some_iff.1 h1
  obtain ⟨k,hk,hk2⟩:=jmk hmay hi'
  have hW:(W6 g t).testBit k=Xx g t k:=by
   unfold W6 W5
   rw [jcu,Bool.eq_iff_iff,decide_eq_true_eq,List.mem_range]
   exact ⟨fun h=>h.2,fun h=>⟨hk2,h⟩⟩
  simp only [Function.comp,barB,hk,Int.toNat_natCast,hW,ja3]
  split
  ·cases decide (m<0) <;> cases w.testBit m.toNat <;> rfl
  ·cases w.testBit (readH g)[i].1.toNat <;> cases decide (m<0) <;> cases w.testBit m.toNat <;> cases Xx g t k <;> rfl
end
def jjz (vis:List Nat):List (Int × Int):=vis.map fun v:Nat=>((v:Int),(1:Int))
theorem jl4 (y:Nat):∀ vis:List Nat,(match jf (jjz vis) (y:Int) with | some p=>ja0 p.2 | none=>V.int .i64 0) = .int .i64 (if vis.contains y then 1 else 0)
 | []=>rfl
 | v::vis=>by
  have ih:=jl4 y vis
  unfold jjz at ih ⊢
  rw [List.map_cons,jf,List.contains_cons]
  by_cases h:y=v
  ·subst h
   simp [ja0]
  ·have h1:¬ (y:Int)=v:=by omega
   have h2:(y == v)=false:=by simpa using h
   rw [if_neg h1,h2,Bool.false_or,← ih]
   cases jf (vis.map fun v:Nat=>((v:Int),(1:Int))) (y:Int) <;> rfl
theorem jzu {w:Nat} {vis:List Nat} (h:w ∉ vis):YD (jjz vis) (w:Int) 1=jjz (vis++[w]):=by
 have:jf (jjz vis) (w:Int)=none:=by
  rw [mfind_none]
  unfold jjz
  rw [List.map_map,List.mem_map]
  rintro ⟨v,hv,e⟩
  have e2:(v:Int)=w:=by simpa using e
  have:v=w:=by omega
  exact h (this ▸ hv)
 unfold YD
 rw [this]
 simp [jjz]
theorem jl3 {ob:ZO} {l u:Nat} {vis:List Nat} {y:Nat} (h:jR ob l u=some (MK .u64 ja0 (jjz vis))):XY ob .int (.int .i64 0) false (.map l u) (.int .u64 (y:Int))=some (.int .i64 (if vis.contains y then 1 else 0)):=by
 rw [jbj (q:=.u64) (f:=ja0) _ h,← jl4 y vis]
 cases jf (jjz vis) (y:Int) <;> rfl
def OrdV (ob:ZO) (lo hi:Nat) (ov:V) (done:List Nat):Prop :=
 (ov = .sl none true 0 []∧done=[])∨∃ u cs,ov = .osl (2 * u+1) u 0 done.length 1∧ob (2 * u+1)=some ⟨u,.cells ((ints done).flatMap intC++cs)⟩∧lo≤u∧u<hi
theorem OrdV.frame {ob ob':ZO} {lo hi hi':Nat} {ov:V} {done:List Nat} (h:OrdV ob lo hi ov done) (hf:∀ u,lo≤u→u<hi→ob' (2 * u+1)=ob (2 * u+1)) (hh:hi≤hi'):OrdV ob' lo hi' ov done:=by
 rcases h with h | ⟨u,cs,h1,h2,h3,h4⟩
 ·exact .inl h
 ·exact .inr ⟨u,cs,h1,(hf u h3 h4).trans h2,h3,by omega⟩
structure OnC where
 g:Hist'
 M:List Int
 N:FN
 rv:V
 tc:Option (Nat × Nat)
 most:Int
 n0:Nat
 n1:Nat
 uS:Nat
def OnC.al (c:OnC):V:=.sl c.tc (comL c.g).isEmpty (comL c.g).length ((comL c.g).flatMap intC)
structure OnC.Ok (c:OnC):Prop where
 m:Qk c.g c.M=true
 l:c.g.ts.length≤8
 f:Off c.n0 c.N.kF
 v:Off c.n0 c.N.kV
 fv:c.N.kF≠c.N.kV
 s:c.n0≤c.uS∧c.uS<c.n1
 r:(rdsF c.g c.M).length≤1000000
structure OnS (c:OnC) (w:Nat) (done vis:List Nat) (sp:Bool) (ob:ZO) (ub:Nat):Prop where
 f:∃ ov,ob c.N.kF=some ⟨c.N.uF,.cells (fdC c.g c.N c.rv c.al ov c.most sp)⟩∧OrdV ob c.n1 ub ov done
 d:Fd c.N c.rv (rdsF c.g c.M) (comN c.g) (WZ c.g) (W6 c.g) c.n0 ob
 v:∃ ver,ob c.N.kV=some ⟨c.N.uV,.mp ver (MK .u64 ja0 (jjz vis))⟩
 s:ob (2 * c.uS+1)=some ⟨c.uS,.cells (setC w)⟩
def OnC.Rest (c:OnC) (ob ob':ZO):Prop:=∀ key,Off c.n1 key→key≠c.N.kF→key≠c.N.kV→key≠2 * c.uS+1→ob' key=ob key
theorem OnC.Ok.fix {c:OnC} (h:c.Ok) {key:Nat} (hk:FixF c.N c.n0 key):Off c.n1 key∧key≠c.N.kF∧key≠c.N.kV∧key≠2 * c.uS+1:=by
 have:=h.s
 exact ⟨hk.o.up (by omega),hk.f,hk.v,hk.o c.uS this.1⟩
def OnR (c:OnC) (w:Nat) (done:List Nat) (R:R3) (ob:ZO) (ub:Nat) (r:V × (ZO) × (Nat→Bool) × Nat):Prop :=
 r.1 = .bool R.1.isSome∧ub≤r.2.2.2∧c.Rest ob r.2.1∧∃ w' done',OnS c w' done' R.2.2 R.2.1 r.2.1 r.2.2.2∧(∀ l,R.1=some l→done'=l)∧(R.1=none→R.2.1=false→w'=w∧done'=done)
theorem jes {k:Nat}:∀ {L:List Nat} {w:Nat},w<2 ^ k→(∀ a∈L,a<k)→Js w L<2 ^ k
 | [],_,hw,_=>hw
 | a::L,w,hw,h=>by
  refine jes (L:=L) (w:=w ||| 1 <<< a) (Nat.or_lt_two_pow hw ?_) fun b hb=>h b (List.mem_cons_of_mem _ hb)
  rw [Nat.one_shiftLeft]
  exact Nat.pow_lt_pow_right (by decide) (h a (List.mem_cons_self ..))
section
variable {c:OnC}
theorem j98 (hc:c.Ok) {t:Nat} (h:t∈comN c.g):t<8:=by
 have:=Jy (comN_mem.1 h)
 have:=hc.l
 omega
theorem jx7 (hc:c.Ok) (t:Nat):WZ c.g t<512:=by
 have:WZ c.g t<2 ^ 9:=jes (by decide) fun a ha=>by
  have:=j98 hc (List.mem_filter.1 ha).1
  omega
 exact this
theorem jpz (hc:c.Ok) (t:Nat):W6 c.g t<2 ^ 64:=Ya (by decide) fun a ha=>by
 have:=List.mem_range.1 (List.mem_filter.1 ha).1
 have:=(jg2 (Ym (Xq hc.m))).1
 omega
end
def OnP (c:OnC) (n:Nat):Prop:=∀ (Yf:YF) (w:Nat) (done vis:List Nat) (ob:ZO) (tk:Nat→Bool) (ro base ub:Nat),OnS c w done vis false ob ub→done.length+n=(comN c.g).length→w<256→w ∉ vis→c.n1≤ub→ro≤c.n1→ro≤c.N.uF→ro≤c.N.uV→ro≤c.uS →
 ∃ r,EvS E Yf.y 77 [.ptr c.N.kF c.N.uF 0,.ptr (2 * c.uS+1) c.uS 0] ob tk ro base ub r∧OnR c w done (onM (nxM c.g c.M) (comN c.g) c.most n w done vis) ob ub r
theorem jrn {nx:Nat→Nat→Bool} {C:List Nat} {most:Int} {w:Nat} {done vis:List Nat} (h:(vis.length:Int)=most):∀ n,onM nx C most n w done vis=(none,true,vis)
 | 0=>by rw [onM,if_pos h]
 | n+1=>by rw [onM,if_pos h]
theorem ji5 {F:Env} {Yf:YF} {lo hi t ub:Nat} {ov:V} {done:List Nat} {s x:A} {st:St} {K:St→Nat→Prop} {d:Option Nat} (hs:eval F st.tm s=ov) (hO:OrdV st.ob lo hi ov done) (hro:st.ro≤lo) (hx:jM st.ob 1 (eval F st.tm x)=some [.int .i64 (t:Int)]) (hl:done.length≤1000)
 (h:∀ kl:List Nat,(kl=[]∨∃ u,lo≤u∧u<hi∧kl=[2 * u+1])→Qp K st d ub { v:=.osl (2 * ub+1) ub 0 (done.length+1) 1,obs:=[(2 * ub+1,⟨ub,.cells ((ints (done++[t])).flatMap intC)⟩)],kill:=kl }):j8 F Yf ⟨d,.append true 1 8 s x,none,true⟩ st ub K:=by
 rcases hO with ⟨rfl,rfl⟩ | ⟨u,cs,rfl,hob,h1,h2⟩
 ·refine Yi hs hx (by simp) (by decide) rfl (by simp) (by simp) ?_
  simpa [intC,jL,ints] using h [] (.inl rfl)
 ·have hlen:((ints done).flatMap intC).length=done.length:=by rw [jA jH,QF];omega
  refine QD (cs:=(ints done).flatMap intC++cs) hs hx hob (by simp) (by omega) (by rw [List.length_append];omega) (by decide) rfl (by simp;omega) (by simp;omega) ?_
  have:=h [2 * u+1] (.inr ⟨u,h1,h2,rfl⟩)
  rw [Nat.mul_one,List.take_left' hlen]
  simpa [intC,jL,ints] using this
section
variable {c:OnC}
theorem OnS.upd {w:Nat} {done vis vis':List Nat} {sp:Bool} {ob ob':ZO} {ub ub':Nat} (h:OnS c w done vis sp ob ub) (hc:c.Ok) (hn:c.n1≤ub) (hu:ub≤ub') (hk:∀ key,Off ub key→key≠c.N.kV→ob' key=ob key) (hV:∃ ver,ob' c.N.kV=some ⟨c.N.uV,.mp ver (MK .u64 ja0 (jjz vis'))⟩):OnS c w done vis' sp ob' ub':=by
 obtain ⟨ov,hF,hO⟩:=h.f
 have gS:=hc.s
 refine ⟨⟨ov,(hk _ (hc.f.up (by omega)) hc.fv).trans hF,hO.frame (fun u h1 h2=>hk _ (Off.new h2) fun e=>hc.v u (by omega) e.symm) hu⟩,h.d.keep fun key h=>hk _ (h.o.up (by omega)) h.v,hV,(hk _ (Off.new (by omega)) fun e=>hc.v c.uS gS.1 e.symm).trans h.s⟩
theorem OnS.keep {w:Nat} {done vis:List Nat} {sp:Bool} {ob ob':ZO} {ub ub':Nat} (h:OnS c w done vis sp ob ub) (hc:c.Ok) (hn:c.n1≤ub) (hu:ub≤ub') (hk:∀ key,Off ub key→ob' key=ob key):OnS c w done vis sp ob' ub':=by
 obtain ⟨ver,hV⟩:=h.v
 have gS:=hc.s
 exact h.upd hc hn hu (fun key h _=>hk key h) ⟨ver,(hk _ (hc.v.up (by omega))).trans hV⟩
set_option maxHeartbeats 4000000 in
theorem jrm (hc:c.Ok) (n:Nat) (ih:∀ k,n=k+1→OnP c k):OnP c n:=by
 intro Yf w done vis ob tk ro base ub hS hdn hw hwv hn1 ho1 ho2 ho3 ho4
 obtain ⟨ov,hF,hO⟩:=hS.f
 obtain ⟨ver,hV⟩:=hS.v
 have hKS:=hS.s
 have gS:=hc.s
 have oF:=(hc.f.up (show c.n0≤ub by omega)).ne
 have oV:=(hc.v.up (show c.n0≤ub by omega)).ne
 have nS:∀ m,ub≤m→¬ c.uS=m:=fun m hm=>by omega
 have fv:=hc.fv
 have fs:c.N.kF≠2 * c.uS+1:=hc.f c.uS gS.1
 have vs:c.N.kV≠2 * c.uS+1:=hc.v c.uS gS.1
 have hvl:(jjz vis).length=vis.length:=by simp [jjz]
 refine Wa (af:=S77) rfl (by decide) ?_
 show wpC E Yf S77.body _ (Qn S77.res _)
 simp (disch:=first | (simp;done) | omega) [S77,j1,hF,fdC,jR,hV,hvl]
 by_cases hmost:(vis.length:Int)=c.most
 ·simp (disch:=first | (simp;done) | omega) [hmost,j1,hF,fdC,j7]
  refine ⟨ho2,Q0 (by simp) ?_⟩
  rw [jrn hmost]
  refine ⟨by simp,by simp;omega,fun key hk h1 h2 h3=>by simp [h1],w,done,⟨⟨ov,by simp [fdC],hO.frame (fun u h1 h2=>?_) (by simp;omega)⟩,hS.d.keep fun key hk=>by simp [hk.f],⟨ver,by simp [Ne.symm fv,hV]⟩,by simp [Ne.symm fs,hKS]⟩,fun l h=>(by cases h),fun _ h=>(by cases h)⟩
  have:2 * u+1≠c.N.kF:=fun e=>hc.f u (by omega) e.symm
  simp [this]
 have hmost':((vis.length:Int) == c.most)=false:=by simpa using hmost
 have hwc:vis.contains w=false:=by simpa using hwv
 simp (disch:=first | (simp;done) | omega) [hmost',j1,hF,fdC]
 refine jd8 (vs:=[.ptr (2 * c.uS+1) c.uS 0]) (by simp) rfl rfl (jy9 (w:=w) (by simpa using hKS) (Off.new (by first | omega | (simp;done) | (simp;omega))) (by omega) _ _) (Jg rfl) ?_
 simp
 rw [jl3 (vis:=vis) (y:=w) (by simp [jR,hV]),hwc,if_neg (by decide)]
 simp [show IntKind.i64.wrap 1=1 from rfl]
 refine jo5 (q:=.u64) (f:=ja0) (a:=1) (ver:=ver) (k:=(w:Int)) (l:=c.N.kV) (u:=c.N.uV) (jjz vis) (by simp) (by simp) (by simp [ja0,V.strip]) (by simp [hV]) (by simpa using ho3) ?_
 rw [jzu hwv]
 simp
 have hlen:∀ ob':ZO,jan ov=some (.int .i64 (done.length:Nat)):=fun _=>by
  rcases hO with ⟨rfl,rfl⟩ | ⟨u,cs,rfl,_⟩ <;> rfl
 have hcl:=jhf c.g
 simp (disch:=first | (simp;done) | omega) [j1,hF,fdC,OnC.al,fv,hlen ob]
 by_cases h0:n=0
 ·subst h0
  have e0:(done.length:Int)=(comL c.g).length:=by omega
  simp [e0]
  refine Q0 (by simp) ?_
  rw [onM,if_neg hmost]
  refine ⟨by simp,by first | omega | (simp;done) | (simp;omega),fun key hk h1 h2 h3=>by simp [h2],w,done,hS.upd hc hn1 (by first | omega | (simp;done) | (simp;omega)) (fun key hk h=>by simp [h]) ⟨ver+1,by simp⟩,fun l h=>by cases h;rfl,fun h=>by cases h⟩
 ·obtain ⟨k,rfl⟩:∃ k,n=k+1:=⟨n - 1,by omega⟩
  have e0:((done.length:Int) == (comL c.g).length)=false:=by simp;omega
  simp [e0]
  simp (disch:=first | (simp;done) | omega) [j1,hF,fdC,OnC.al,fv]
  refine JM fun st hst=>?_
  have g0:st.tm 0 = .ptr c.N.kF c.N.uF 0:=by rw [hst];simp
  have g1:st.tm 1 = .ptr (2 * c.uS+1) c.uS 0:=by rw [hst];simp
  have g42:st.tm 42 = .sl c.tc (comL c.g).isEmpty (comL c.g).length ((comL c.g).flatMap intC):=by rw [hst];simp
  have g43:st.tm 43 = .int .i64 (comL c.g).length:=by rw [hst];simp
  have g44:st.tm 44 = .int .i64 0:=by rw [hst];simp
  have gd:st.df=[]:=by rw [hst];simp
  have gr:st.ro=ro:=by rw [hst];simp
  have gn:ub≤st.nx:=by rw [hst];simp;omega
  have gO:OnS c w done (vis++[w]) false st.ob st.nx:=hS.upd hc hn1 gn (fun key hk h=>by rw [hst];simp [h]) ⟨ver+1,by rw [hst];simp⟩
  have gR:c.Rest ob st.ob:=fun key hk h1 h2 h3=>by rw [hst];simp [h2]
  clear hst
  obtain ⟨R,hR⟩:∃ R,R=loopM (onM (nxM c.g c.M) (comN c.g) c.most k) (nxM c.g c.M) w done (comN c.g) (vis++[w]):=⟨_,rfl⟩
  have hon:onM (nxM c.g c.M) (comN c.g) c.most (k+1) w done vis=R:=by rw [onM,if_neg hmost,hR]
  rw [hon]
  obtain ⟨J,hJ⟩:∃ J:Nat→St→Prop,J=fun i s=>s.tm 44 = .int .i64 i∧(∃ vis,OnS c w done vis false s.ob s.nx∧R=loopM (onM (nxM c.g c.M) (comN c.g) c.most k) (nxM c.g c.M) w done ((comN c.g).drop i) vis)∧c.Rest ob s.ob∧ub≤s.nx:=⟨_,rfl⟩
  refine jE [(4,4),(6,6),(44,108)] (comL c.g).length J rfl rfl (by rw [hJ];exact ⟨by simpa using g44,⟨_,gO,hR⟩,gR,gn⟩) ?_
  clear gO gR gn hF hV hO hS hKS hR hon hlen
  intro i s hi hJs f
  rw [hJ] at hJs
  obtain ⟨s44,⟨vis,sS,sR⟩,sw,sn⟩:=hJs
  have s0:s.tm 0 = .ptr c.N.kF c.N.uF 0:=by rw [f.t 0 (by simp)];simp [g0]
  have s1:s.tm 1 = .ptr (2 * c.uS+1) c.uS 0:=by rw [f.t 1 (by simp)];simp [g1]
  have s42:s.tm 42 = .sl c.tc (comL c.g).isEmpty (comL c.g).length ((comL c.g).flatMap intC):=by rw [f.t 42 (by simp)];simp [g42]
  have s43:s.tm 43 = .int .i64 (comL c.g).length:=by rw [f.t 43 (by simp)];simp [g43]
  have sd:s.df=[]:=by rw [f.d];simp [gd]
  have sr:s.ro=ro:=by rw [f.r];simp [gr]
  clear f
  by_cases hlt:i<(comL c.g).length
  ·have hltN:i<(comN c.g).length:=by omega
   obtain ⟨t,ht⟩:∃ t,t=(comN c.g)[i]:=⟨_,rfl⟩
   have htm:t∈comN c.g:=ht ▸ List.getElem_mem hltN
   have ht8:=j98 hc htm
   have hti:(comL c.g)[i]=(t:Int):=by
    have h1:(comL c.g)[i]? = (ints (comN c.g))[i]?:=by rw [Q2]
    rw [List.getElem?_eq_getElem hlt] at h1
    unfold ints at h1
    rw [List.getElem?_map,List.getElem?_eq_getElem hltN] at h1
    simpa [ht] using h1
   have hll:=hc.l
   have hcl2:=jhg c.g
   have hwk:=J6 hlt (by omega)
   have hix:=W0 jH c.tc (comL c.g).isEmpty (comL c.g) .i64 hlt
   have hia:=XI (comL c.g) hlt
   rw [hti] at hia
   rw [List.drop_eq_getElem_cons hltN,← ht,loopM] at sR
   obtain ⟨ov,hF,hO⟩:=sS.f
   obtain ⟨ver,hV⟩:=sS.v
   have hKS:=sS.s
   simp (disch:=first | (simp;done) | omega) [s44,s43,s42,s1,hlt,hix,hia]
   refine jd8 (vs:=[.ptr (2 * c.uS+1) c.uS 0,.int .i64 t]) (by simp) rfl rfl (jjj (w:=w) (n:=t) (by simpa using hKS) (Off.new (by first | omega | (simp;done) | (simp;omega))) (by omega) (by omega) _ _) (Jg rfl) ?_
   have hnext:=jr6 hc.m hc.l w t
   have hskip:(w.testBit t || (!nxM c.g c.M w t || vis.contains (w ||| 1 <<< t)))=true→R=loopM (onM (nxM c.g c.M) (comN c.g) c.most k) (nxM c.g c.M) w done ((comN c.g).drop (i+1)) vis:=fun h=>by rw [sR,if_pos h]
   cases hb:w.testBit t
   ·simp (disch:=first | (simp;done) | omega) [s0,s1]
    refine jd8 (vs:=[.ptr c.N.kF c.N.uF 0,.ptr (2 * c.uS+1) c.uS 0,.int .i64 t]) (by simp) rfl rfl (j9f (g:=c.g) (rv:=c.rv) (al:=c.al) (ov:=ov) (most:=c.most) (sp:=false) (n0:=c.n0) (w:=w) (t:=t) (sS.d.keep fun _ _=>by simp) (by simpa using hF) (hc.f.up (by first | omega | (simp;done) | (simp;omega))) (by simpa using hKS) (Off.new (by first | omega | (simp;done) | (simp;omega))) (by first | omega | (simp;done) | (simp;omega)) (by omega) htm (jx7 hc t) (jpz hc t) (jyp hc.m) hc.r _ _) (Jg rfl) ?_
    rw [hnext]
    rw [show jdz c.g c.M (fun a=>w.testBit a) t=nxM c.g c.M w t from rfl]
    cases hx:nxM c.g c.M w t
    ·simp (disch:=first | (simp;done) | omega) [s44,hwk,hlt]
     rw [hJ]
     exact ⟨by simp,⟨vis,sS.keep hc (by omega) (by first | omega | (simp;done) | (simp;omega)) fun key _=>by simp,hskip (by simp [hx])⟩,fun key hk h1 h2 h3=>by simpa using sw key hk h1 h2 h3,by first | omega | (simp;done) | (simp;omega)⟩
    ·simp (disch:=first | (simp;done) | omega) [s0,s1,j1,hF,fdC]
     refine jd8 (vs:=[.ptr (2 * c.uS+1) c.uS 0]) (by simp) rfl rfl (jy9 (w:=w) (by simpa using hKS) (Off.new (by first | omega | (simp;done) | (simp;omega))) (by omega) _ _) (Jg rfl) ?_
     have e1:=jgi (n:=t) (by omega)
     have e2:=jhz (a:=w) (b:=1 <<< t) (by omega) (jmt (by omega))
     generalize hp1:1 <<< t=p1 at e1 e2 hskip sR
     generalize hp2:w ||| p1=p2 at e2 hskip sR
     simp (disch:=first | (simp;done) | omega) [e1,e2]
     rw [jl3 (vis:=vis) (y:=p2) (by simp [jR,hV])]
     cases hv:vis.contains p2
     ·have hR2:(∀ l sp v,onM (nxM c.g c.M) (comN c.g) c.most k p2 (done++[t]) vis=(some l,sp,v)→R=(some l,sp,v))∧(∀ v,onM (nxM c.g c.M) (comN c.g) c.most k p2 (done++[t]) vis=(none,true,v)→R=(none,true,v)) ∧
       ∀ v,onM (nxM c.g c.M) (comN c.g) c.most k p2 (done++[t]) vis=(none,false,v)→R=loopM (onM (nxM c.g c.M) (comN c.g) c.most k) (nxM c.g c.M) w done ((comN c.g).drop (i+1)) v:=by
       rw [sR,if_neg (by rw [hb,hx,hv];simp)]
       exact ⟨fun l sp v h=>by rw [h],fun v h=>by rw [h],fun v h=>by rw [h]⟩
      have hp2':w ||| 1 <<< t=p2:=by rw [hp1];exact hp2
      simp
      refine JL (vs:=[.ptr (2 * c.uS+1) c.uS 0,.int .i64 t]) (by simp [s1]) rfl (sv81 (w:=w) (by simpa using hKS) (Off.new (by first | omega | (simp;done) | (simp;omega))) (by first | omega | (simp [sr];omega)) (by omega) (by omega)) ?_
      rintro v1 ob1 tk1 ub1 ⟨r1,r2,r3⟩
      simp only at r1 r2 r3
      rw [hp2'] at r2
      have q1:s.nx≤ub1:=by first | omega | (simp at r3;omega)
      have q2:∀ key,Off s.nx key→ob1 key=if key=2 * c.uS+1 then some ⟨c.uS,.cells (setC p2)⟩ else s.ob key:=fun key hk=>by
       rw [r2 key (hk.up (by first | omega | (simp;done) | (simp;omega)))]
       simp
      clear r1 r2 r3
      have hF1:ob1 c.N.kF=some ⟨c.N.uF,.cells (fdC c.g c.N c.rv c.al ov c.most false)⟩:=by rw [q2 _ (hc.f.up (by omega)),if_neg fs];exact hF
      simp (disch:=first | (simp;done) | omega) [s0,j1,hF1,fdC]
      refine Xb (cs:=[.int .i64 (t:Int)]) (by simp [j7]) rfl rfl ?_
      simp
      refine ji5 (lo:=c.n1) (hi:=s.nx) (done:=done) (t:=t) (ov:=ov) (by simp) (hO.frame (fun u h1 h2=>?_) (Nat.le_refl _)) (by simpa [sr] using ho1) (by simp [jM,j1]) (by omega) fun kl hkl=>?_
      ·have h3:∀ m,s.nx≤m→¬ u=m:=fun m hm=>by omega
       simp (disch:=first | (simp;done) | omega) [two_inj,h3]
       rw [q2 _ (Off.new h2),if_neg (by omega)]
      have hkF:kl.any (Nat.beq c.N.kF)=false:=by
       rcases hkl with rfl | ⟨u,h1,h2,rfl⟩
       ·rfl
       ·simp only [List.any_cons,List.any_nil,Bool.or_false]
        exact XD (hc.f u (by omega))
      have hk1:∀ key,Off c.n1 key→kl.any (Nat.beq key)=false:=fun key hk=>by
       rcases hkl with rfl | ⟨u,h1,h2,rfl⟩
       ·rfl
       ·simp only [List.any_cons,List.any_nil,Bool.or_false]
        exact XD (hk u h1)
      generalize hcs:List.flatMap intC (ints (done++[t]))=cs9
      simp (disch:=first | (simp;done) | omega) [j1,hF1,fdC,hkF,j7,jt,oF]
      refine ⟨by simpa [sr] using ho2,?_⟩
      simp (disch:=first | (simp;done) | omega) [s0,s1]
      refine JL (vs:=[.ptr c.N.kF c.N.uF 0,.ptr (2 * c.uS+1) c.uS 0]) (by simp) rfl (ih k rfl Yf p2 (done++[t]) vis _ _ _ _ _ ?_ (by simp;omega) ?_ (by simpa using hv) (by first | omega | (simp;done) | (simp;omega)) (by simpa [sr] using ho1) (by simpa [sr] using ho2) (by simpa [sr] using ho3) (by simpa [sr] using ho4)) ?_
      ·have nkF:¬ 2 * (ub1+448)+1=c.N.kF:=fun e=>oF (ub1+448) (by omega) e.symm
       refine ⟨⟨.osl (2 * (ub1+448)+1) (ub1+448) 0 (done.length+1) 1,by simp [fdC,Nat.add_assoc],.inr ⟨ub1+448,[],by simp,?_,by omega,by first | omega | (simp;done) | (simp;omega)⟩⟩,sS.d.keep fun key hk=>?_,⟨ver,?_⟩,?_⟩
       ·simp (disch:=first | (simp;done) | omega) [jt,Nat.add_assoc,nkF,hcs]
       ·obtain ⟨f1,f2,f3,f4⟩:=hc.fix hk
        have f5:=(f1.up (show c.n1≤ub by omega)).ne
        simp (disch:=first | (simp;done) | omega) [jt,f2,f5,hk1 key f1]
        rw [q2 key (f1.up (by omega)),if_neg f4]
       ·have f1:=hc.v.up (show c.n0≤c.n1 by omega)
        have f5:=(f1.up (show c.n1≤ub by omega)).ne
        simp (disch:=first | (simp;done) | omega) [jt,Ne.symm fv,f5,hk1 _ f1]
        rw [q2 _ (f1.up (by omega)),if_neg vs]
        exact hV
       ·have f1:Off c.n1 (2 * c.uS+1):=Off.new gS.2
        have f5:=(f1.up (show c.n1≤ub by omega)).ne
        simp (disch:=first | (simp;done) | omega) [jt,Ne.symm fs,f5,hk1 _ f1,two_inj,nS]
        rw [q2 _ (f1.up (by omega)),if_pos rfl]
      ·have:w ||| 1 <<< t<2 ^ 8:=Nat.or_lt_two_pow hw (by rw [Nat.one_shiftLeft];exact Nat.pow_lt_pow_right (by decide) ht8)
       rw [hp2'] at this
       exact this
      ·rintro v2 ob2 tk2 ub2 ⟨r1,r2,r3,w',done',r4,r5,r6⟩
       simp only at r1 r2 r3 r4
       have q3:ub1≤ub2:=by first | omega | (simp at r2;omega)
       have hrest:c.Rest ob ob2:=fun key hk h1 h2 h3=>by
        rw [r3 key hk h1 h2 h3,← sw key hk h1 h2 h3]
        have f5:=(hk.up (show c.n1≤ub by omega)).ne
        simp (disch:=first | (simp;done) | omega) [jt,h1,f5,hk1 key hk]
        rw [q2 key (hk.up (by omega)),if_neg h3]
       clear r2 r3
       rcases hon2:onM (nxM c.g c.M) (comN c.g) c.most k p2 (done++[t]) vis with ⟨o,sp,vv⟩
       rw [hon2] at r1 r4 r5 r6 hR2
       obtain ⟨h1,h2,h3⟩:=hR2
       obtain ⟨ov2,hF2,hO2⟩:=r4.f
       cases o with
       | some l =>
        rw [r1]
        simp
        refine Q0 (by simp [sd]) ?_
        rw [h1 l sp vv rfl]
        exact ⟨by simp,by first | omega | (simp;done) | (simp;omega),fun key hk h1 h2 h3=>by simpa using hrest key hk h1 h2 h3,w',done',r4.keep hc (by omega) (by first | omega | (simp;done) | (simp;omega)) fun key _=>by simp,r5,fun h=>by cases h⟩
       | none =>
        rw [r1]
        cases sp with
        | true =>
         simp (disch:=first | (simp;done) | omega) [s0,j1,hF2,fdC]
         refine Q0 (by simp [sd]) ?_
         rw [h2 vv rfl]
         exact ⟨by simp,by first | omega | (simp;done) | (simp;omega),fun key hk h1 h2 h3=>by simpa using hrest key hk h1 h2 h3,w',done',r4.keep hc (by omega) (by first | omega | (simp;done) | (simp;omega)) fun key _=>by simp,fun l h=>(by cases h),fun _ h=>by cases h⟩
        | false =>
         obtain ⟨rfl,rfl⟩:=r6 rfl rfl
         rcases hO2 with ⟨_,h⟩ | ⟨u,cs,rfl,hob,hu1,hu2⟩
         ·exact absurd h (by simp)
         have hwm:IntKind.i64.wrap (done.length:Int)=(done.length:Int):=J7 (by omega) (by omega)
         have hsl:Qy 1 none (some (.int .i64 (done.length:Int))) (.osl (2 * u+1) u 0 (done.length+1) 1)=some (.osl (2 * u+1) u 0 done.length 1):=by
          have h1:(done.length:Int)≤(done.length:Int)+1:=by omega
          simp [Qy,X1,h1]
         simp (disch:=first | (simp;done) | omega) [s0,j1,hF2,fdC,hwm,hsl,j7]
         refine ⟨by simpa [sr] using ho2,?_⟩
         simp (disch:=first | (simp;done) | omega) [s1]
         have hS2:=r4.s
         refine JL (vs:=[.ptr (2 * c.uS+1) c.uS 0,.int .i64 t]) (by simp) rfl (sv125 (w:=w') (by simpa [Ne.symm fs] using hS2) (Off.new (by first | omega | (simp;done) | (simp;omega))) (by first | omega | (simp [sr];omega)) (by omega)) ?_
         rintro v3 ob3 tk3 ub3 ⟨r7,r8,r9⟩
         simp only at r7 r8 r9
         have q4:ub2≤ub3:=by first | omega | (simp at r9;omega)
         have hdw:jpi w' t=w:=by rw [← hp2'];exact jxx (by omega) (by omega) hb
         rw [hdw] at r8
         have q5:∀ key,Off ub2 key→ob3 key=if key=2 * c.uS+1 then some ⟨c.uS,.cells (setC w)⟩ else if key=c.N.kF then some ⟨c.N.uF,.cells (fdC c.g c.N c.rv c.al (.osl (2 * u+1) u 0 done.length 1) c.most false)⟩ else ob2 key:=fun key hk=>by
          rw [r8 key (hk.up (by first | omega | (simp;done) | (simp;omega)))]
          simp [fdC]
         clear r7 r8 r9
         simp [s44,hwk,hlt]
         rw [hJ]
         obtain ⟨ver3,hV3⟩:=r4.v
         refine ⟨by simp,⟨vv,⟨⟨.osl (2 * u+1) u 0 done.length 1,?_,.inr ⟨u,.int .i64 (t:Int)::cs,rfl,?_,hu1,by first | omega | (simp;done) | (simp;omega)⟩⟩,r4.d.keep fun key hk=>?_,⟨ver3,?_⟩,?_⟩,h3 vv rfl⟩,fun key hk h1 h2 h3=>?_,by first | omega | (simp;done) | (simp;omega)⟩
         ·simp
          rw [q5 _ (hc.f.up (by omega)),if_neg fs,if_pos rfl]
         ·simp
          rw [q5 _ (Off.new (by omega)),if_neg (by omega),if_neg (fun e=>hc.f u (by omega) e.symm),hob]
          simp [ints,intC]
         ·obtain ⟨f1,f2,f3,f4⟩:=hc.fix hk
          simp
          rw [q5 key (f1.up (by omega)),if_neg f4,if_neg f2]
         ·simp
          rw [q5 _ (hc.v.up (by omega)),if_neg vs,if_neg (Ne.symm fv)]
          exact hV3
         ·simp
          rw [q5 _ (Off.new (by omega)),if_pos rfl]
         ·simp
          rw [q5 key (hk.up (by omega)),if_neg h3,if_neg h1]
          exact hrest key hk h1 h2 h3
     ·simp [s44,hwk,hlt]
      rw [hJ]
      exact ⟨by simp,⟨vis,sS.keep hc (by omega) (by first | omega | (simp;done) | (simp;omega)) fun key _=>by simp,hskip (by rw [hv];simp)⟩,fun key hk h1 h2 h3=>by simpa using sw key hk h1 h2 h3,by first | omega | (simp;done) | (simp;omega)⟩
   ·simp (disch:=first | (simp;done) | omega) [s44,hwk,hlt]
    rw [hJ]
    exact ⟨by simp,⟨vis,sS.keep hc (by omega) (by first | omega | (simp;done) | (simp;omega)) fun key _=>by simp,hskip (by simp [hb])⟩,fun key hk h1 h2 h3=>by simpa using sw key hk h1 h2 h3,by first | omega | (simp;done) | (simp;omega)⟩
  ·have:i=(comL c.g).length:=by omega
   subst this
   rw [List.drop_of_length_le (by omega),loopM] at sR
   simp [s44,s43]
   refine Q0 (by simp [sd]) ?_
   rw [sR]
   exact ⟨by simp,by first | omega | (simp;done) | (simp;omega),fun key hk h1 h2 h3=>by simpa using sw key hk h1 h2 h3,w,done,sS.keep hc (by omega) (by first | omega | (simp;done) | (simp;omega)) fun key _=>by simp,fun l h=>(by cases h),fun _ _=>⟨rfl,rfl⟩⟩
theorem sv77 (hc:c.Ok) (n:Nat):OnP c n:=by
 induction n with
 | zero=>exact jrm hc 0 fun k h=>by omega
 | succ n ih =>
  refine jrm hc (n+1) fun k h=>?_
  have:k=n:=by omega
  exact this ▸ ih
end
def jeh (g:Hist') (M:List Int) (most:Int):R3:=onM (nxM g M) (comN g) most (comN g).length 0 [] []
section
variable {g:Hist'} {M:List Int} {most:Int}
end
def jto (g:Hist') (M:List Int) (most:Int):List Int × Int × Int :=
 if !JE g then ([],0,4) else if !Qk g M || decide (most<0) then ([],0,2) else
  if (jeh g M most).2.1 then ([],(jeh g M most).2.2.length,13) else match (jeh g M most).1 with
   | none=>([],(jeh g M most).2.2.length,3)
   | some l=>(ints l,(jeh g M most).2.2.length,0)
def jud (r:List Int × Int × Int) (v:V):Prop:=∃ nl,(nl=true→r.1=[])∧j30 [.sl none nl r.1.length (r.1.flatMap intC),.int .i64 r.2.1,.int .i64 r.2.2] v
theorem jrd {st:St} {lo hi:Nat} {ov:V} {done:List Nat} (h:OrdV st.ob lo hi ov done) (hro:st.ro≤lo):∃ nl,(nl=true→done=[])∧jx9 st ov (.sl none nl done.length ((ints done).flatMap intC)):=by
 rcases h with ⟨rfl,rfl⟩ | ⟨u,cs,rfl,hob,h1,_⟩
 ·exact ⟨true,fun _=>rfl,Jh rfl⟩
 ·refine ⟨false,fun h=>(by cases h),jgu rfl fun keep i=>?_⟩
  have hlen:((ints done).flatMap intC).length=done.length:=by rw [jA jH,QF];omega
  have hoc:j1 st.ob (2 * u+1) u=some ((ints done).flatMap intC++cs):=by simp [j1,hob]
  have hs:Ji st 6 (.osl (2 * u+1) u 0 done.length 1)=some (.sl none false done.length ((ints done).flatMap intC)):=by
   show ((j1 st.ob (2 * u+1) u).bind fun cs=>if Nat.ble st.ro u=true∧0+done.length * 1≤cs.length then (((cs.drop 0).take (done.length * 1)).mapM (Ji st 5)).map fun cs'=>V.sl none false done.length cs' else none)=_
   rw [hoc,Option.bind_some,if_pos ⟨Nat.ble_eq ▸ (by omega),by rw [List.length_append];omega⟩,List.drop_zero,Nat.mul_one,List.take_left' hlen,ja5]
   rfl
  simp only [jp,hs,Option.bind_some,hoc,Option.map_some]
  refine ⟨_,rfl,?_⟩
  split
  ·exact .inr ⟨1,rfl⟩
  ·exact .inl rfl
theorem Wv {st:St} {n e:Int} (hd:st.df=[]) (h6:st.tm 6 = .sl none true 0 []) (h7:st.tm 7 = .int .i64 n) (h8:st.tm 8 = .int .i64 e):je7 [.t 6,.t 7,.t 8] (jud ([],n,e)) .ret st :=
 tupE (ns:=[6,7,8]) (vs:=[.sl none true 0 [],.int .i64 n,.int .i64 e]) (ls:=[.sl none true 0 [],.int .i64 n,.int .i64 e]) (fun r h=>⟨true,fun _=>rfl,h⟩) hd (by simp [h6,h7,h8]) (by simp) (by simp) ⟨Jh rfl,Jh rfl,Jh rfl,trivial⟩
theorem jtn {st:St} {lo hi:Nat} {ov:V} {l:List Nat} {n e:Int} (hd:st.df=[]) (h6:st.tm 6=ov) (h7:st.tm 7 = .int .i64 n) (h8:st.tm 8 = .int .i64 e) (hO:OrdV st.ob lo hi ov l) (hro:st.ro≤lo):je7 [.t 6,.t 7,.t 8] (jud (ints l,n,e)) .ret st:=by
 obtain ⟨nl,h1,h2⟩:=jrd hO hro
 refine tupE (ns:=[6,7,8]) (vs:=[ov,.int .i64 n,.int .i64 e]) (ls:=[.sl none nl l.length ((ints l).flatMap intC),.int .i64 n,.int .i64 e]) (fun r h=>⟨nl,fun h=>by rw [h1 h];rfl,?_⟩) hd (by simp [h6,h7,h8]) (by simp) (by simp) ⟨h2,Jh rfl,Jh rfl,trivial⟩
 rw [QF]
 exact h
section
variable {g:Hist'} {M:List Int}
set_option maxHeartbeats 4000000 in
theorem ev34 (hs:Small g) (h8:g.ts.length≤8) {mn:Bool} (hM:M.length≤1000000) (most:Int):∃ v,Ev E 34 [.agg (j2 g),jK mn intC M,.int .i64 most] v∧jud (jto g M most) v:=by
 have e52:=ev52 hs
 have e53:=ev53 hs (b:=mn) M hM
 rw [j84] at e53
 refine YP (af:=F34) rfl (by decide) ?_
 simp (disch:=first | (simp;done) | omega) [F34,j1,j2]
 refine jX e52 (by simp [j2]) rfl (by simp [j2]) ?_
 unfold jto
 cases hw:JE g
 ·simp
  exact Wv (by simp) (by simp) (by simp) (by simp)
 simp (disch:=first | (simp;done) | omega) [j1,jK]
 refine jX e53 (by simp [j2,jK]) rfl (by simp [j2,jK]) ?_
 cases hm:Qk g M
 ·simp (disch:=first | (simp;done) | omega)
  exact Wv (by simp) (by simp) (by simp) (by simp)
 by_cases hmo:most<0
 ·simp (disch:=first | (simp;done) | omega) [hmo]
  exact Wv (by simp) (by simp) (by simp) (by simp)
 simp (disch:=first | (simp;done) | omega) [hmo,j1]
 refine JL (vs:=[.agg (j2 g),jK mn intC M]) (by simp [j2,jK]) rfl (sv76 hs hm (by first | omega | (simp;done) | (simp;omega))) ?_
 rintro v1 ob1 tk1 ub1 ⟨b1,b2,N,rv,tc,b3,b4,b5,b6,b7,b8,b9,b10,b11⟩
 simp only at b1 b2 b3 b4 b5 b6 b7 b8
 subst b3
 simp (disch:=first | (simp;done) | omega) [j1,b4,fdC,j7]
 refine JL (vs:=[.sl none true 0 []]) (by simp) rfl j4a ?_
 rintro v2 ob2 tk2 ub2 ⟨m,m1,m2,m3,m4⟩
 simp only at m1 m2 m3 m4
 subst m3
 have hub:ub1≤m:=by first | omega | (simp at m1;omega)
 have hR:=Yu hs
 have hml:=jd0 hm
 obtain ⟨c,hcd⟩:∃ c:OnC,c=⟨g,M,N,rv,tc,most,ub1,ub2,m⟩:=⟨_,rfl⟩
 have hc:c.Ok:=by
  rw [hcd]
  exact ⟨hm,h8,b7,b8,b9,⟨hub,m2⟩,by rw [jgr hml];omega⟩
 have n1:N.kF≠2 * m+1:=b7 m hub
 have n2:N.kV≠2 * m+1:=b8 m hub
 have q2:∀ key,Off ub1 key→ob2 key=if key=N.kF then some ⟨N.uF,.cells (fdC g N rv (.sl tc (comL g).isEmpty (comL g).length ((comL g).flatMap intC)) (.sl none true 0 []) most false)⟩ else ob1 key:=fun key hk=>by
  rw [m4 key,if_neg (hk m hub)]
  simp [fdC]
 have hS:OnS c 0 [] [] false ob2 ub2:=by
  rw [hcd]
  refine ⟨⟨.sl none true 0 [],by show ob2 N.kF=_;rw [q2 _ b7,if_pos rfl];rfl,.inl ⟨rfl,rfl⟩⟩,b5.keep fun key hk=>by rw [q2 key hk.o,if_neg hk.f],⟨0,by show ob2 N.kV=_;rw [q2 _ b8,if_neg (Ne.symm b9)];exact b6⟩,by rw [m4,if_pos rfl]⟩
 clear m4
 simp
 refine JL (vs:=[.ptr N.kF N.uF 0,.ptr (2 * m+1) m 0]) (by simp) rfl (by
  have h:=sv77 hc (comN g).length Y5 0 [] [] ob2 tk2 0
  rw [hcd] at h hS
  exact h _ ub2 hS (by simp) (by decide) (by simp) (Nat.le_refl _) (Nat.zero_le _) (Nat.zero_le _) (Nat.zero_le _) (Nat.zero_le _)) ?_
 rintro v3 ob3 tk3 ub3 ⟨r1,r2,r3,w',done',r4,r5,r6⟩
 simp only at r1 r2 r4
 rw [show onM (nxM g M) (comN g) most (comN g).length 0 [] []=jeh g M most from rfl] at r1 r4 r5 r6
 obtain ⟨ov3,hF3,hO3⟩:=r4.f
 obtain ⟨ver3,hV3⟩:=r4.v
 simp only at hF3 hV3 hO3
 generalize jeh g M most=R at r1 r4 r5 r6 hF3 hV3 ⊢
 obtain ⟨o,sp,vis⟩:=R
 simp only at r1 r5 r6 hF3 hV3
 have hvl:(jjz vis).length=vis.length:=by simp [jjz]
 rw [r1]
 cases sp with
 | true =>
  simp (disch:=first | (simp;done) | omega) [j1,jR,hF3,hV3,fdC,hvl]
  exact Wv (by simp) (by simp) (by simp) (by simp)
 | false =>
  cases o with
  | none =>
   simp (disch:=first | (simp;done) | omega) [j1,jR,hF3,hV3,fdC,hvl]
   exact Wv (by simp) (by simp) (by simp) (by simp)
  | some l =>
   have:=r5 l rfl
   subst this
   simp (disch:=first | (simp;done) | omega) [j1,jR,hF3,hV3,fdC,hvl]
   exact jtn (by simp) (by simp) (by simp) (by simp) (hO3.frame (fun _ _ _=>by simp) (Nat.le_refl _)) (by simp)
end
def inS (S:List Int) (a:Nat):Bool:=S.contains (a:Int)
def j3t (g:Hist') (M S:List Int) (t:Int):Bool:=Qk g M && (decide (0≤t) && (JI g t.toNat && (!S.contains t && jdz g M (fun a=>JI g a && S.contains (a:Int)) t.toNat)))
theorem ev80 {a:Bool} (l:List Int) (hl:l.length≤1000000000) (k:Int):Ev E 80 [jK a intC l,.int .i64 k] (.bool (l.contains k)):=by
 refine jT (af:=F80) rfl ?_
 simp [F80]
 refine jX (j9x (a:=a) l hl k) (by simp [jK]) rfl (by simp [jK]) ?_
 have:=jcs k l 0
 simp
 refine j3 (by simp) ?_ rfl
 have h2:decide (0≤idxI l k 0)=l.contains k:=by
  cases h:l.contains k <;> rw [h] at this <;> simp at this ⊢ <;> omega
 simp [h2]
section
variable {g:Hist'} {M:List Int}
set_option maxHeartbeats 4000000 in
theorem ev37 (hs:Small g) (h8:g.ts.length≤8) {mn sn:Bool} (hM:M.length≤1000000) {S:List Int} (hS:S.length≤1000000) (t:Int):Ev E 37 [.agg (j2 g),jK mn intC M,jK sn intC S,.int .i64 t] (.bool (j3t g M S t)):=by
 have e53:=ev53 hs (b:=mn) M hM
 rw [j84] at e53
 refine jT (af:=F37) rfl ?_
 simp (disch:=first | (simp;done) | omega) [F37,j1,j2,jK]
 refine jX e53 (by simp [j2,jK]) rfl (by simp [j2,jK]) ?_
 unfold j3t
 cases hm:Qk g M
 ·simp (disch:=first | (simp;done) | omega)
  exact j3 (by simp) (by simp) rfl
 by_cases h0:t<0
 ·simp (disch:=first | (simp;done) | omega) [h0]
  exact j3 (by simp) (by simp;omega) rfl
 obtain ⟨n,rfl⟩:∃ n:Nat,t=n:=⟨t.toNat,by omega⟩
 have h0':((n:Int)<0)=False:=by simp
 have e80:=ev80 (a:=sn) S (by omega)
 have e1:(decide (0≤(n:Int)))=true:=by simp
 rw [e1,Int.toNat_natCast]
 obtain ⟨P,hP⟩:∃ P:Nat→Bool,P=fun a=>JI g a && S.contains (a:Int):=⟨_,rfl⟩
 rw [← hP]
 by_cases hn:n<g.ts.length
 ·have hn':((g.ts.length:Int)≤n)=False:=by simp;omega
  have hf:=jg j9 g.ts hn (by decide:1<3)
  have hf2:(g.ts.flatMap jk)[n * 3+1]? = some (.int .i64 (g.ts[n]).f):=by rw [hf];rfl
  have hix:=j6 j9 g.tn g.ts .i64 hn
  unfold jK at hix
  have hcm:JI g n=JV g.ts[n]:=by simp [JI,hn]
  simp (disch:=first | (simp;done) | omega) [j1,hn',h0',hix,hf2]
  cases hc:JV g.ts[n]
  ·have hc':(g.ts[n]).f≠1:=by simpa [JV] using hc
   have hc2:((g.ts[n]).f != 1)=true:=by simpa using hc'
   simp (disch:=first | (simp;done) | omega) [hc2,hcm,hc]
   exact j3 (by simp) (by simp) rfl
  ·have hc':(g.ts[n]).f=1:=by simpa [JV] using hc
   simp (disch:=first | (simp;done) | omega) [hc',hcm,hc]
   refine jX (e80 n) (by simp [jK]) rfl (by simp [jK]) ?_
   cases hS2:S.contains (n:Int)
   ·have hS3:¬ (n:Int)∈S:=by simpa using hS2
    simp (disch:=first | (simp;done) | omega) [j1]
    refine JL (vs:=[.agg (j2 g),jK mn intC M]) (by simp [j2,jK]) rfl (sv76 hs hm (by first | omega | (simp;done) | (simp;omega))) ?_
    rintro v1 ob1 tk1 ub1 ⟨b1,b2,N,rv,tc,b3,b4,b5,b6,b7,b8,b9,b10,b11⟩
    simp only at b1 b2 b3 b4 b5 b6 b7 b8
    subst b3
    simp
    refine JL (vs:=[.sl none true 0 []]) (by simp) rfl j4a ?_
    rintro v2 ob2 tk2 ub2 ⟨m,m1,m2,m3,m4⟩
    simp only at m1 m2 m3 m4
    subst m3
    have hub:ub1≤m:=by first | omega | (simp at m1;omega)
    have hF2:ob2 N.kF=some ⟨N.uF,.cells (fdC g N rv (.sl tc (comL g).isEmpty (comL g).length ((comL g).flatMap intC)) (.sl none true 0 []) 0 false)⟩:=by rw [m4,if_neg (b7 m hub)];exact b4
    simp (disch:=first | (simp;done) | omega) [j1,hF2,fdC]
    refine JM fun st hst=>?_
    have g2:st.tm 2=jK sn intC S:=by rw [hst];simp [jK]
    have g3:st.tm 3 = .int .i64 n:=by rw [hst];simp
    have g9:st.tm 9 = .ptr N.kF N.uF 0:=by rw [hst];simp
    have g10:st.tm 10 = .ptr (2 * m+1) m 0:=by rw [hst];simp
    have g49:st.tm 49 = .sl tc (comL g).isEmpty (comL g).length ((comL g).flatMap intC):=by rw [hst];simp
    have g50:st.tm 50 = .int .i64 (comL g).length:=by rw [hst];simp
    have g51:st.tm 51 = .int .i64 0:=by rw [hst];simp
    have gd:st.df=[]:=by rw [hst];simp
    have gr:st.ro=0:=by rw [hst];simp
    have go:st.ob=ob2:=by rw [hst];simp
    have gn:ub2≤st.nx:=by rw [hst];simp;omega
    clear hst
    have pS:ob2 (2 * m+1)=some ⟨m,.cells (setC 0)⟩:=by rw [m4,if_pos rfl]
    have pR:∀ key,Off ub1 key→ob2 key=ob1 key:=fun key hk=>by rw [m4,if_neg (hk m hub)];simp
    clear m4
    have hll:=jhg g
    have hcl:=jhf g
    obtain ⟨J,hJ⟩:∃ J:Nat→St→Prop,J=fun i s=>s.tm 51 = .int .i64 i∧s.ob (2 * m+1)=some ⟨m,.cells (setC (Js 0 (((comN g).take i).filter (inS S))))⟩∧(∀ key,Off ub2 key→key≠2 * m+1→s.ob key=ob2 key)∧ub2≤s.nx:=⟨_,rfl⟩
    refine jE [(12,12),(51,61)] (comL g).length J rfl rfl (by rw [hJ];exact ⟨by simpa using g51,by rw [go];exact pS,fun key _ _=>by rw [go],gn⟩) ?_
    intro i s hi hJs f
    rw [hJ] at hJs
    obtain ⟨s51,sS,sw,sn'⟩:=hJs
    have s2:s.tm 2=jK sn intC S:=by rw [f.t 2 (by simp)];simp [g2]
    have s3:s.tm 3 = .int .i64 n:=by rw [f.t 3 (by simp)];simp [g3]
    have s9:s.tm 9 = .ptr N.kF N.uF 0:=by rw [f.t 9 (by simp)];simp [g9]
    have s10:s.tm 10 = .ptr (2 * m+1) m 0:=by rw [f.t 10 (by simp)];simp [g10]
    have s49:s.tm 49 = .sl tc (comL g).isEmpty (comL g).length ((comL g).flatMap intC):=by rw [f.t 49 (by simp)];simp [g49]
    have s50:s.tm 50 = .int .i64 (comL g).length:=by rw [f.t 50 (by simp)];simp [g50]
    have sd:s.df=[]:=by rw [f.d];simp [gd]
    have sr:s.ro=0:=by rw [f.r];simp [gr]
    clear f
    by_cases hlt:i<(comL g).length
    ·have hltN:i<(comN g).length:=by omega
     obtain ⟨x,hx⟩:∃ x,x=(comN g)[i]:=⟨_,rfl⟩
     have hx8:x<g.ts.length:=Jy (comN_mem.1 (hx ▸ List.getElem_mem hltN))
     have hxi:(comL g)[i]=(x:Int):=by
      have h1:(comL g)[i]? = (ints (comN g))[i]?:=by rw [Q2]
      rw [List.getElem?_eq_getElem hlt] at h1
      unfold ints at h1
      rw [List.getElem?_map,List.getElem?_eq_getElem hltN] at h1
      simpa [hx] using h1
     have hwk:=J6 hlt (by omega)
     have hix2:=W0 jH tc (comL g).isEmpty (comL g) .i64 hlt
     have hia:=XI (comL g) hlt
     rw [hxi] at hia
     have hstep:Js 0 (((comN g).take (i+1)).filter (inS S))=if inS S x then Js 0 (((comN g).take i).filter (inS S)) ||| 1 <<< x else Js 0 (((comN g).take i).filter (inS S)):=by
      rw [List.take_succ_eq_append_getElem hltN,← hx,jek]
     simp (disch:=first | (simp;done) | omega) [s51,s50,s49,s2,hlt,hix2,hia]
     refine jX (e80 x) (by simp [jK]) rfl (by simp [jK]) ?_
     rw [show S.contains (x:Int)=inS S x from rfl]
     cases hSx:inS S x
     ·rw [hSx] at hstep
      simp [s51,hwk,hlt]
      rw [hJ]
      exact ⟨by simp,by rw [hstep];simpa using sS,fun key hk hne=>by simpa using sw key hk hne,by first | omega | (simp;done) | (simp;omega)⟩
     ·rw [hSx,if_pos rfl] at hstep
      have hbl:Js 0 (((comN g).take i).filter (inS S))<2 ^ 64:=Ya (by decide) fun a ha=>by
       have:=Jy (comN_mem.1 (List.mem_of_mem_take (List.mem_filter.1 ha).1))
       omega
      simp [s10]
      refine JL (vs:=[.ptr (2 * m+1) m 0,.int .i64 x]) (by simp) rfl (sv81 (w:=Js 0 (((comN g).take i).filter (inS S))) (by simpa using sS) (Off.new (by first | omega | (simp;done) | (simp;omega))) (by first | omega | (simp [sr];done) | (simp [sr];omega)) (by omega) hbl) ?_
      rintro v3 ob3 tk3 ub3 ⟨r1,r2,r3⟩
      simp only at r1 r2 r3
      simp [s51,hwk,hlt]
      rw [hJ]
      refine ⟨by simp,?_,fun key hk hne=>?_,by first | omega | (simp;done) | (simp;omega)⟩
      ·simp
       rw [r2 _ (Off.new (by first | omega | (simp;done) | (simp;omega))),if_pos rfl,hstep]
      ·simp
       rw [r2 key (hk.up (by first | omega | (simp;done) | (simp;omega))),if_neg hne]
       simp [sw key hk hne]
    ·have:i=(comL g).length:=by omega
     subst this
     rw [List.take_of_length_le (by omega)] at sS
     obtain ⟨w,hw⟩:∃ w,w=Js 0 ((comN g).filter (inS S)):=⟨_,rfl⟩
     rw [← hw] at sS
     have hw8:w<2 ^ 64:=hw ▸ Ya (by decide) fun a ha=>by
      have:=Jy (comN_mem.1 (List.mem_filter.1 ha).1)
      omega
     have hwP:∀ a,w.testBit a=P a:=fun a=>by
      rw [hw,jcu,hP,Bool.eq_iff_iff,decide_eq_true_eq,Bool.and_eq_true,comN_mem]
      rfl
     simp [s51,s50,s9,s10,s3]
     have hn8:n∈comN g:=comN_mem.2 (by rw [hcm,hc])
     have hA:WZ g n<512:=by
      have:WZ g n<2 ^ 9:=jes (by decide) fun a ha=>by
       have:=Jy (comN_mem.1 (List.mem_filter.1 ha).1)
       omega
      exact this
     have hW2:W6 g n<2 ^ 64:=Ya (by decide) fun a ha=>by
      have:=List.mem_range.1 (List.mem_filter.1 ha).1
      have:=(jg2 (Ym (Xq hm))).1
      omega
     have hR:=Yu hs
     have hml:=jd0 hm
     refine JA (vs:=[.ptr N.kF N.uF 0,.ptr (2 * m+1) m 0,.int .i64 n]) (by simp) rfl rfl (j9f (g:=g) (rv:=rv) (al:=.sl tc (comL g).isEmpty (comL g).length ((comL g).flatMap intC)) (ov:=.sl none true 0 []) (most:=0) (sp:=false) (n0:=ub1) (w:=w) (t:=n) (b5.keep fun key hk=>?_) ?_ (b7.up (by first | omega | (simp;done) | (simp;omega))) (by simpa using sS) (Off.new (by first | omega | (simp;done) | (simp;omega))) (by first | omega | (simp;done) | (simp;omega)) hw8 hn8 hA hW2 (jyp hm) (by rw [jgr hml];omega) _ _) ?_
     ·simp
      rw [sw _ (hk.o.up (by omega)) (hk.o m hub),pR _ hk.o]
     ·simp
      rw [sw _ (b7.up (by omega)) (b7 m hub),pR _ b7]
      exact b4
     ·rw [jr6 hm h8,jdy hwP]
      simp
      exact j3 (by simp [sd]) (by simp [hS3]) rfl
   ·have hS3:(n:Int)∈S:=by simpa using hS2
    simp (disch:=first | (simp;done) | omega)
    exact j3 (by simp) (by simp [hS3]) rfl
 ·have hn':(g.ts.length:Int)≤n:=by omega
  have hc:JI g n=false:=by simp [JI,hn]
  simp (disch:=first | (simp;done) | omega) [j1,hn',h0',hc]
  exact j3 (by simp) (by simp) rfl
end
theorem joz {g:Hist'} (hmay:X7 g=true) {t:Nat} (ht:t<g.ts.length) (key:Int):Xx g t key=(g.ts[t]).ops.any (wkB key):=by
 unfold Xx
 rw [jsq]
 have h1:(t:Int)<g.ts.length:=by omega
 simp [Xo,hmay,h1,List.getD_eq_getElem?_getD,ht]
theorem ev135 (t:Txn') (ht:t.ops.length≤1000000) (key:Int):Ev E 135 [.agg (jk t),.int .i64 key] (.bool (t.ops.any (wkB key))):=by
 refine jT (af:=F135) rfl ?_
 simp [F135,jk,j1]
 refine jE [(4,28)] t.ops.length (fun i s=>s.tm 5 = .int .i64 i∧s.ob 4=some ⟨0,.cells (jk t)⟩∧∀ j (hj:j<t.ops.length),j<i→wkB key t.ops[j]=false) rfl rfl ⟨by simp,by simp [jk],fun _ _ h=>by omega⟩ ?_
 rintro i s hi ⟨h5,h4,hb⟩ f
 have h1:s.tm 1 = .int .i64 key:=by rw [f.t 1 (by simp)];simp
 have h2:s.tm 2 = .ptr 4 0 0:=by rw [f.t 2 (by simp)];simp
 have hd:s.df=[]:=by rw [f.d];simp
 clear f
 by_cases hlt:i<t.ops.length
 ·have hwk:=J6 hlt (by omega)
  have e0:(t.ops.flatMap opC)[i * 4]? = some (.bool (t.ops[i]).w):=by
   have:=jg jJ t.ops hlt (by decide:0<4)
   rw [Nat.add_zero] at this
   rw [this];rfl
  have e1:(t.ops.flatMap opC)[i * 4+1]? = some (.int .i64 (t.ops[i]).key):=by rw [jg jJ t.ops hlt (by decide:1<4)];rfl
  have hw:wkB key t.ops[i]=((t.ops[i]).w && (t.ops[i]).key == key):=rfl
  simp (disch:=first | (simp;done) | omega) [h5,h2,h1,j1,h4,jk,hlt,j6 jJ,e0,e1]
  cases hww:(t.ops[i]).w
  ·simp [h5,hwk,hlt]
   refine ⟨by simp [h4,jk],fun j hj hji=>?_⟩
   rcases Nat.lt_succ_iff_lt_or_eq.1 hji with h | rfl
   ·exact hb j hj h
   ·rw [hw,hww];rfl
  ·cases hkk:((t.ops[i]).key == key)
   ·simp (disch:=first | (simp;done) | omega) [h5,h2,h1,j1,h4,jk,hlt,j6 jJ,e1,hkk,hwk]
    intro j hj hji
    rcases Nat.lt_succ_iff_lt_or_eq.1 hji with h | rfl
    ·exact hb j hj h
    ·rw [hw,hww,hkk];rfl
   ·simp (disch:=first | (simp;done) | omega) [h5,h2,h1,j1,h4,jk,hlt,j6 jJ,e1,hkk]
    refine j3 (by simp [hd]) ?_ rfl
    have:t.ops.any (wkB key)=true:=List.any_eq_true.2 ⟨_,List.getElem_mem hlt,by rw [hw,hww,hkk];rfl⟩
    simp [this]
 ·have:i=t.ops.length:=by omega
  subst this
  simp (disch:=first | (simp;done) | omega) [h5,h2,j1,h4,jk,jK]
  refine j3 (by simp [hd]) ?_ rfl
  have:t.ops.any (wkB key)=false:=by
   rw [List.any_eq_false]
   intro x hx
   obtain ⟨j,hj,rfl⟩:=List.getElem_of_mem hx
   simp [hb j hj hj]
  simp [this]
def mrkC (n:Nat) (s:Nat→Bool):List V:=(List.range n).map fun a=>V.bool (s a)
theorem jsc {n:Nat} {s:Nat→Bool} {a:Nat} (h:a<n):(mrkC n s)[a]? = some (.bool (s a)):=by simp [mrkC,h]
theorem jg0 (n:Nat) (s:Nat→Bool):(mrkC n s).length=n:=by simp [mrkC]
section
variable {g:Hist'} {M:List Int} {ob:ZO} {ub k u:Nat} {st:Nat→Bool}
def seB (g:Hist') (s:Nat→Bool) (t a:Nat):Bool:=!JI g a || (!(sesAt g a == sesAt g t) || s a)
def rdsB (g:Hist') (s:Nat→Bool) (t:Nat) (x:(Int × Int) × Int):Bool:=if x.1.1=(t:Int) then decide (x.2<0) || s x.2.toNat else s x.1.1.toNat || (!(decide (x.2<0) || s x.2.toNat) || !Xx g t (jao g x.1))
theorem jr7 (s:Nat→Bool) (t:Nat):jdz g M s t=(XS (seB g s t) t && ((readH g).zip M).all (rdsB g s t)):=rfl
set_option maxHeartbeats 4000000 in
theorem evo83 (hs:Small g) (hm:Qk g M=true) {mn:Bool} (hk:ob k=some ⟨u,.cells (mrkC g.ts.length st)⟩) (ho:Off ub k) {t:Nat} (ht:t<g.ts.length) (tk:Nat→Bool) (base:Nat) :
 EvO E 83 [.agg (j2 g),jK mn intC M,.osl k u 0 g.ts.length 1,.int .i64 (t:Int)] ob tk base ub (.bool (jdz g M st t)):=by
 refine JU (af:=S83) rfl ?_
 have gk:=ho.ne
 have hmay:=Ym (Xq hm)
 have hml:=jd0 hm
 have hR:=Yu hs
 have hts:=hs.ts
 have hse:∀ {x:Nat} (h:x<g.ts.length),(g.ts.flatMap jk)[x * 3]? = some (.int .i64 (sesAt g x)):=fun {x} h=>by
  have:=jg j9 g.ts h (by decide:0<3)
  rw [Nat.add_zero] at this
  rw [this]
  simp [jk,sesAt,h]
 have hfa:∀ {x:Nat} (h:x<g.ts.length),(g.ts.flatMap jk)[x * 3+1]? = some (.int .i64 (g.ts[x]).f):=fun {x} h=>by rw [jg j9 g.ts h (by decide:1<3)];rfl
 simp (disch:=first | (simp;done) | omega) [S83,j2,V.cells]
 refine JM fun st1 hst=>?_
 have g0:st1.tm 1=jK mn intC M:=by rw [hst];simp
 have g2:st1.tm 2 = .osl k u 0 g.ts.length 1:=by rw [hst];simp
 have g3:st1.tm 3 = .int .i64 t:=by rw [hst];simp
 have g4:st1.tm 4 = .ptr (2 * ub+1) ub 0:=by rw [hst];simp
 have g9:st1.tm 9 = .int .i64 0:=by rw [hst];simp
 have gd:st1.df=[]:=by rw [hst];simp
 have gr:st1.ro=ub:=by rw [hst];simp
 have gB:st1.ob (2 * ub+1)=some ⟨ub,.cells (j2 g)⟩:=by rw [hst];simp [j2]
 have gK:st1.ob k=some ⟨u,.cells (mrkC g.ts.length st)⟩:=by rw [hst];simp (disch:=first | (simp;done) | omega) [gk,hk]
 have gn:ub<st1.nx:=by rw [hst];simp;omega
 clear hst
 rw [jr7]
 refine jE [(8,9),(14,47)] t (fun i s=>s.tm 9 = .int .i64 i∧s.ob=st1.ob∧st1.nx≤s.nx∧XS (seB g st t) i=true) rfl rfl ⟨by simpa using g9,rfl,Nat.le_refl _,rfl⟩ ?_
 rintro i s hi ⟨s9,so,sn,hand⟩ f
 have s1:s.tm 1=jK mn intC M:=by rw [f.t 1 (by simp)];simp [g0]
 have s2:s.tm 2 = .osl k u 0 g.ts.length 1:=by rw [f.t 2 (by simp)];simp [g2]
 have s3:s.tm 3 = .int .i64 t:=by rw [f.t 3 (by simp)];simp [g3]
 have s4:s.tm 4 = .ptr (2 * ub+1) ub 0:=by rw [f.t 4 (by simp)];simp [g4]
 have sd:s.df=[]:=by rw [f.d];simp [gd]
 have sr:s.ro=ub:=by rw [f.r];simp [gr]
 clear f
 by_cases hlt:i<t
 ·have hwk:=J6 hlt (by omega)
  have hil:i<g.ts.length:=by omega
  have f1:=hfa hil
  have f2:=hse hil
  have f3:=hse ht
  have f4:=jsc (s:=st) hil
  have hcm:JI g i=((g.ts[i]).f == 1):=by simp [JI,hil,JV]
  have hstep:XS (seB g st t) (i+1)=seB g st t i:=by rw [XS,hand,Bool.true_and]
  have hix:=j86 (l:=k) (u:=u) (sz:=1) (kk:=.i64) hil
  unfold seB at hstep
  rw [hcm] at hstep
  simp (disch:=first | (simp;done) | omega) [s9,s3,s4,j1,so,gB,j2,hlt,j6 j9,f1]
  cases c1:((g.ts[i]).f == 1)
  ·rw [c1] at hstep
   simp (disch:=first | (simp;done) | omega) [s9,hwk,hlt,so]
   exact ⟨by omega,hstep⟩
  ·cases c2:(sesAt g i == sesAt g t)
   ·rw [c1,c2] at hstep
    simp (disch:=first | (simp;done) | omega) [s9,s3,s4,j1,so,gB,j2,hlt,j6 j9,f2,f3,c2,hwk]
    exact ⟨by omega,hstep⟩
   ·cases c3:st i
    ·rw [c1,c2,c3] at hstep
     simp (disch:=first | (simp;done) | omega) [s9,s3,s4,s2,j1,so,gB,gK,j2,hlt,j6 j9,f2,f3,c2,hix,f4,c3]
     refine j3 (by simp [sd]) ?_ rfl
     have:XS (seB g st t) t=false:=jlv hlt (by unfold seB;rw [hcm,c1,c2,c3];rfl)
     simp [this]
    ·rw [c1,c2,c3] at hstep
     simp (disch:=first | (simp;done) | omega) [s9,s3,s4,s2,j1,so,gB,gK,j2,hlt,j6 j9,f2,f3,c2,hix,f4,c3,hwk]
     exact ⟨by omega,hstep⟩
 ·have e:t=i:=by omega
  subst e
  rw [hand,Bool.true_and]
  obtain ⟨vr,evr,hvr⟩:=ev31 hs
  simp (disch:=first | (simp;done) | omega) [s9,s3,s4,j1,so,gB,j2]
  refine jX evr (by simp [j2,jK]) rfl (by simp [j2,jK]) ?_
  refine Wb hvr fun tr addr=>?_
  simp
  refine JM fun st2 hst=>?_
  have g1:st2.tm 1=jK mn intC M:=by rw [hst];simp [s1]
  have g2:st2.tm 2 = .osl k u 0 g.ts.length 1:=by rw [hst];simp [s2]
  have g3:st2.tm 3 = .int .i64 t:=by rw [hst];simp [s3]
  have g4:st2.tm 4 = .ptr (2 * ub+1) ub 0:=by rw [hst];simp [s4]
  have g10:st2.tm 10 = .sl tr false (readH g).length ((readH g).flatMap jG):=by rw [hst];simp
  have g11:st2.tm 11 = .int .i64 0:=by rw [hst];simp
  have gd:st2.df=[]:=by rw [hst];simp [sd]
  have gr:st2.ro=ub:=by rw [hst];simp [sr]
  have go:st2.ob=st1.ob:=by rw [hst];simp [so]
  have gn2:st1.nx≤st2.nx:=by rw [hst];simp;omega
  clear hst
  obtain ⟨J,hJ⟩:∃ J:Nat→St→Prop,J=fun j s=>s.tm 11 = .int .i64 j∧s.ob (2 * ub+1)=some ⟨ub,.cells (j2 g)⟩∧s.ob k=some ⟨u,.cells (mrkC g.ts.length st)⟩∧st1.nx≤s.nx∧∀ x∈((readH g).zip M).take j,rdsB g st t x=true:=⟨_,rfl⟩
  refine jE [(8,8),(11,13),(50,116)] (readH g).length J rfl rfl (by rw [hJ];exact ⟨by simpa using g11,by rw [go];exact gB,by rw [go];exact gK,gn2,fun x h=>by simp at h⟩) ?_
  intro j q hj hJq f
  rw [hJ] at hJq
  obtain ⟨q11,qB,qK,qn,qall⟩:=hJq
  have q1:q.tm 1=jK mn intC M:=by rw [f.t 1 (by simp)];simp [g1]
  have q2:q.tm 2 = .osl k u 0 g.ts.length 1:=by rw [f.t 2 (by simp)];simp [g2]
  have q3:q.tm 3 = .int .i64 t:=by rw [f.t 3 (by simp)];simp [g3]
  have q4:q.tm 4 = .ptr (2 * ub+1) ub 0:=by rw [f.t 4 (by simp)];simp [g4]
  have q10:q.tm 10 = .sl tr false (readH g).length ((readH g).flatMap jG):=by rw [f.t 10 (by simp)];simp [g10]
  have qd:q.df=[]:=by rw [f.d];simp [gd]
  have qr:q.ro=ub:=by rw [f.r];simp [gr]
  clear f
  have nB:∀ m,q.nx≤m→¬ ub=m:=fun m hm=>by omega
  by_cases hlt:j<(readH g).length
  ·have hwk:=J6 hlt (by omega)
   have hjM:j<M.length:=by omega
   obtain ⟨a,kk,ha,hkk,e,hkey,hc⟩:=jkf hmay hlt
   have hix:=W0 Jv tr false (readH g) .i64 hlt
   have hpa:=fun ob=>jcn (readH g) ob hlt
   have hmi:=XI M hjM
   have hxz:j<((readH g).zip M).length:=by simp;omega
   have hx:((readH g).zip M)[j]=((readH g)[j],M[j]):=by simp
   simp only [e] at hpa hx
   rw [e] at hkey
   have hl3:(g.ts.flatMap jk)[a * 3+2]? = some (jK (g.ts[a]).nl opC (g.ts[a]).ops):=by rw [jg j9 g.ts ha (by decide:2<3)];rfl
   have hlk:((g.ts[a]).ops.flatMap opC)[kk * 4+1]? = some (.int .i64 ((g.ts[a]).ops[kk]).key):=by rw [jg jJ (g.ts[a]).ops hkk (by decide:1<4)];rfl
   have hia:=j86 (l:=k) (u:=u) (sz:=1) (kk:=.i64) ha
   have hsa:=jsc (s:=st) ha
   have nK:=fun m (hm:ub≤m)=>gk m hm
   have hnext:rdsB g st t (((a:Int),(kk:Int)),M[j])=true→∀ x∈((readH g).zip M).take (j+1),rdsB g st t x=true:=fun h x hxm=>by
    rw [List.take_succ_eq_append_getElem hxz,List.mem_append,List.mem_singleton,hx] at hxm
    rcases hxm with h1 | rfl
    ·exact qall x h1
    ·exact h
   have hstop:rdsB g st t (((a:Int),(kk:Int)),M[j])=false→((readH g).zip M).all (rdsB g st t)=false:=fun h=>by
    rw [List.all_eq_false]
    exact ⟨_,List.getElem_mem hxz,by rw [hx,h];simp⟩
   simp (disch:=first | (simp;done) | omega) [q11,q10,q1,hlt,hix,hpa,j1,j7,j6 jH,hmi]
   refine ⟨by first | omega | (simp [qr];done) | (simp [qr];omega),?_⟩
   have hlw:∀ key,Xx g t key=(g.ts[t]).ops.any (wkB key):=fun key=>joz hmay ht key
   have e135:=fun key=>ev135 g.ts[t] (by have:=hs.os _ (List.getElem_mem ht);omega) key
   have hft:=Xe j9 g.ts t ht
   have hrd:∀ b,(decide (M[j]<0) || st (M[j]).toNat)=b→rdsB g st t (((a:Int),(kk:Int)),M[j])=if (a:Int)=t then b else st a || (!b || !(g.ts[t]).ops.any (wkB ((g.ts[a]).ops[kk]).key)):=fun b hb=>by
    unfold rdsB
    simp only [hb,Int.toNat_natCast,hkey,hlw]
   obtain ⟨b,hb⟩:∃ b,(decide (M[j]<0) || st (M[j]).toNat)=b:=⟨_,rfl⟩
   have hrd:=hrd b hb
   have hcase:(M[j]<0∧b=true)∨∃ y:Nat,M[j]=y∧y<g.ts.length∧st y=b:=by
    by_cases hm0:M[j]<0
    ·exact .inl ⟨hm0,by rw [← hb];simp [hm0]⟩
    ·obtain ⟨y,hy⟩:∃ y:Nat,M[j]=y:=⟨(M[j]).toNat,by omega⟩
     refine .inr ⟨y,hy,?_,?_⟩
     ·rcases jk1 hm (List.getElem_mem hjM) with h | h
      ·omega
      ·obtain ⟨z,ez,hz⟩:=comL_mem.1 h
       have:=Jy hz
       omega
     ·have:¬ (y:Int)<0:=by omega
      rw [← hb,hy]
      simp [this]
   have hlen:((List.take (j+1) ((readH g).zip M)))=((readH g).zip M).take (j+1):=rfl
   rcases hcase with ⟨hm0,hbt⟩ | ⟨y,hy,hyl,hby⟩
   case' inl=>simp (disch:=first | (simp;done) | omega) [hm0,q3,j1]
   case' inr =>
    have hiy:=j86 (l:=k) (u:=u) (sz:=1) (kk:=.i64) hyl
    have hsy:=jsc (s:=st) hyl
    rw [hby] at hsy
    have hm0':((y:Int)<0)=False:=by simp
    rw [hy] at hmi
    simp (disch:=first | (simp;done) | omega) [hy,hm0',q11,hlt,q1,q2,q3,j1,j6 jH,hmi,hiy,qK,hsy,nK]
   all_goals cases b
   all_goals try contradiction
   case inr.false =>
    cases c1:((a:Int) == (t:Int))
    ·have c1':¬ (a:Int)=t:=by simpa using c1
     have c1n:((a:Int) != (t:Int))=true:=by simpa using c1
     rw [if_neg c1'] at hrd
     cases c2:st a
     all_goals
      rw [c2] at hsa
      rw [c2] at hrd
      simp only [Bool.not_false,Bool.true_or,Bool.or_true] at hrd
      simp (disch:=first | (simp;done) | omega) [c1n,q2,q3,j1,hia,qK,hsa,nK,q11,hwk,hlt]
      rw [hJ]
      exact ⟨by simp,by simp (disch:=first | (simp;done) | omega) [qB,two_inj,nB],by simp (disch:=first | (simp;done) | omega) [qK,nK],by first | omega | (simp;done) | (simp;omega),hnext hrd⟩
    ·have c1':(a:Int)=t:=by simpa using c1
     have c1n:((a:Int) != (t:Int))=false:=by simpa using c1
     rw [if_pos c1'] at hrd
     simp (disch:=first | (simp;done) | omega) [c1n,j1]
     refine j3 (by simp [qd]) ?_ rfl
     simp [hstop hrd]
   all_goals
    cases c1:((a:Int) == (t:Int))
    ·have c1':¬ (a:Int)=t:=by simpa using c1
     have c1n:((a:Int) != (t:Int))=true:=by simpa using c1
     rw [if_neg c1'] at hrd
     cases c2:st a
     ·rw [c2] at hsa
      rw [c2,Bool.false_or,Bool.not_true,Bool.false_or] at hrd
      simp (disch:=first | (simp;done) | omega) [c1n,q2,q3,q4,j1,hia,qK,hsa,nK,qB,two_inj,nB,j2,hl3,hlk,j6 j9,j6 jJ,hft]
      refine ⟨by simp [List.map_const'];omega,?_⟩
      refine jX (e135 ((g.ts[a]).ops[kk]).key) (by simp [jk]) rfl (by simp [jk]) ?_
      cases c3:(g.ts[t]).ops.any (wkB ((g.ts[a]).ops[kk]).key)
      ·rw [c3] at hrd
       simp (disch:=first | (simp;done) | omega) [q11,hwk,hlt]
       rw [hJ]
       exact ⟨by simp,by simp (disch:=first | (simp;done) | omega) [qB,two_inj,nB],by simp (disch:=first | (simp;done) | omega) [qK,nK],by first | omega | (simp;done) | (simp;omega),hnext hrd⟩
      ·rw [c3] at hrd
       simp (disch:=first | (simp;done) | omega)
       refine j3 (by simp [qd]) ?_ rfl
       simp [hstop hrd]
     ·rw [c2] at hsa
      rw [c2,Bool.true_or] at hrd
      simp (disch:=first | (simp;done) | omega) [c1n,q2,q3,j1,hia,qK,hsa,nK,q11,hwk,hlt]
      rw [hJ]
      exact ⟨by simp,by simp (disch:=first | (simp;done) | omega) [qB,two_inj,nB],by simp (disch:=first | (simp;done) | omega) [qK,nK],by first | omega | (simp;done) | (simp;omega),hnext hrd⟩
    ·have c1':(a:Int)=t:=by simpa using c1
     have c1n:((a:Int) != (t:Int))=false:=by simpa using c1
     rw [if_pos c1'] at hrd
     simp (disch:=first | (simp;done) | omega) [c1n,q3,j1,q11,hwk,hlt]
     rw [hJ]
     exact ⟨by simp,by simp (disch:=first | (simp;done) | omega) [qB,two_inj,nB],by simp (disch:=first | (simp;done) | omega) [qK,nK],by first | omega | (simp;done) | (simp;omega),hnext hrd⟩
  ·have:j=(readH g).length:=by omega
   subst this
   simp [q11,q10]
   refine j3 (by simp [qd]) ?_ rfl
   have:((readH g).zip M).all (rdsB g st t)=true:=by
    rw [List.all_eq_true]
    intro x hx
    refine qall x ?_
    rw [List.take_of_length_le (by simp;omega)]
    exact hx
   simp [this]
end
def upTo (g:Hist') (S:List Int) (i a:Nat):Bool:=decide (a<i) && (JI g a && inS S a)
theorem jqc (g:Hist') (S:List Int):mrkC g.ts.length (upTo g S 0)=(List.replicate g.ts.length false).map V.bool:=by
 apply List.ext_getElem
 ·simp [mrkC]
 ·intro i h1 h2
  simp [mrkC,upTo]
theorem ju1 (g:Hist') (S:List Int) {i:Nat} (hi:i<g.ts.length):(mrkC g.ts.length (upTo g S i)).set i (.bool (JI g i && inS S i))=mrkC g.ts.length (upTo g S (i+1)):=by
 apply List.ext_getElem
 ·simp [mrkC]
 ·intro j h1 h2
  rw [List.getElem_set]
  by_cases hj:i=j
  ·subst hj
   simp [mrkC,upTo]
  ·have:(j<i+1) ↔ j<i:=by omega
   simp [mrkC,upTo,hj,this]
section
variable {g:Hist'} {M:List Int}
set_option maxHeartbeats 4000000 in
theorem ev38 (hs:Small g) {mn sn:Bool} (hM:M.length≤1000000) {S:List Int} (hS:S.length≤1000000) (t:Int):Ev E 38 [.agg (j2 g),jK mn intC M,jK sn intC S,.int .i64 t] (.bool (j3t g M S t)):=by
 have e22:=ev22 hs (b:=mn) M (by omega)
 refine jT (af:=F38) rfl ?_
 simp (disch:=first | (simp;done) | omega) [F38,j1,j2,jK]
 refine jX e22 (by simp [j2,jK]) rfl (by simp [j2,jK]) ?_
 unfold j3t
 cases hm:Qk g M
 ·simp (disch:=first | (simp;done) | omega)
  exact j3 (by simp) (by simp) rfl
 by_cases h0:t<0
 ·simp (disch:=first | (simp;done) | omega) [h0]
  exact j3 (by simp) (by simp;omega) rfl
 obtain ⟨n,rfl⟩:∃ n:Nat,t=n:=⟨t.toNat,by omega⟩
 have h0':((n:Int)<0)=False:=by simp
 have e80:=fun k=>ev62 (a:=sn) S (by omega) k
 have e1:(decide (0≤(n:Int)))=true:=by simp
 rw [e1,Int.toNat_natCast]
 obtain ⟨P,hP⟩:∃ P:Nat→Bool,P=fun a=>JI g a && S.contains (a:Int):=⟨_,rfl⟩
 rw [← hP]
 by_cases hn:n<g.ts.length
 ·have hn':((g.ts.length:Int)≤n)=False:=by simp;omega
  have hf:=jg j9 g.ts hn (by decide:1<3)
  have hf2:(g.ts.flatMap jk)[n * 3+1]? = some (.int .i64 (g.ts[n]).f):=by rw [hf];rfl
  have hix:=j6 j9 g.tn g.ts .i64 hn
  unfold jK at hix
  have hcm:JI g n=JV g.ts[n]:=by simp [JI,hn]
  simp (disch:=first | (simp;done) | omega) [j1,hn',h0',hix,hf2]
  cases hc:JV g.ts[n]
  ·have hc':(g.ts[n]).f≠1:=by simpa [JV] using hc
   have hc2:((g.ts[n]).f != 1)=true:=by simpa using hc'
   simp (disch:=first | (simp;done) | omega) [hc2,hcm,hc]
   exact j3 (by simp) (by simp) rfl
  ·have hc':(g.ts[n]).f=1:=by simpa [JV] using hc
   simp (disch:=first | (simp;done) | omega) [hc',hcm,hc]
   refine jX (e80 n) (by simp [jK]) rfl (by simp [jK]) ?_
   cases hS2:S.contains (n:Int)
   ·have hS3:¬ (n:Int)∈S:=by simpa using hS2
    simp (disch:=first | (simp;done) | omega) [j1]
    have hts:=hs.ts
    refine jws (n:=g.ts.length) (by simp) (by simp) (by omega) (by omega) (by omega) rfl (by decide) ?_
    rw [jfp,← jqc g S]
    simp
    refine JM fun st1 hst=>?_
    obtain ⟨u,g9,gK⟩:∃ u,st1.tm 9 = .osl 86 u 0 g.ts.length 1∧st1.ob 86=some ⟨u,.cells (mrkC g.ts.length (upTo g S 0))⟩:=⟨_,by rw [hst];simp;rfl,by rw [hst];simp⟩
    have g1:st1.tm 1=jK mn intC M:=by rw [hst];simp [jK]
    have g2:st1.tm 2=jK sn intC S:=by rw [hst];simp [jK]
    have g3:st1.tm 3 = .int .i64 n:=by rw [hst];simp
    have g4:st1.tm 4 = .ptr 8 0 0:=by rw [hst];simp
    have g10:st1.tm 10 = .int .i64 0:=by rw [hst];simp
    have gB:st1.ob 8=some ⟨0,.cells (j2 g)⟩:=by rw [hst];simp [j2,jK]
    have gd:st1.df=[]:=by rw [hst];simp
    have gr:st1.ro=0:=by rw [hst];simp
    clear hst
    refine jE [(10,10),(44,65)] g.ts.length (fun i s=>s.tm 10 = .int .i64 i∧s.ob 8=some ⟨0,.cells (j2 g)⟩∧s.ob 86=some ⟨u,.cells (mrkC g.ts.length (upTo g S i))⟩) rfl rfl ⟨by simpa using g10,gB,gK⟩ ?_
    rintro i s hi ⟨s10,sB,sK⟩ f
    have s1:s.tm 1=jK mn intC M:=by rw [f.t 1 (by simp)];simp [g1]
    have s2:s.tm 2=jK sn intC S:=by rw [f.t 2 (by simp)];simp [g2]
    have s3:s.tm 3 = .int .i64 n:=by rw [f.t 3 (by simp)];simp [g3]
    have s4:s.tm 4 = .ptr 8 0 0:=by rw [f.t 4 (by simp)];simp [g4]
    have s9:s.tm 9 = .osl 86 u 0 g.ts.length 1:=by rw [f.t 9 (by simp)];simp [g9]
    have sd:s.df=[]:=by rw [f.d];simp [gd]
    have sr:s.ro=0:=by rw [f.r];simp [gr]
    clear f
    by_cases hlt:i<g.ts.length
    ·have hwk:=J6 hlt (by omega)
     have f1:(g.ts.flatMap jk)[i * 3+1]? = some (.int .i64 (g.ts[i]).f):=by rw [jg j9 g.ts hlt (by decide:1<3)];rfl
     have hcmi:JI g i=((g.ts[i]).f == 1):=by simp [JI,hlt,JV]
     have hia:=j86 (l:=86) (u:=u) (sz:=1) (kk:=.i64) hlt
     have hst:=ju1 g S hlt
     rw [hcmi] at hst
     simp (disch:=first | (simp;done) | omega) [s10,s4,s9,j1,sB,j2,hlt,j6 j9,f1]
     cases c1:((g.ts[i]).f == 1)
     ·rw [c1,Bool.false_and] at hst
      simp (disch:=first | (simp;done) | omega) [s10,s9,hia,j1,sK,hwk,hlt,j7]
      refine ⟨by omega,by rw [jg0];omega,by simpa [j2] using sB,?_⟩
      rw [← hst,List.set_eq_take_append_cons_drop,if_pos (by rw [jg0];exact hlt)]
     ·rw [c1,Bool.true_and] at hst
      simp (disch:=first | (simp;done) | omega) [s10,s2]
      refine jX (e80 i) (by simp [jK]) rfl (by simp [jK]) ?_
      rw [show S.contains (i:Int)=inS S i from rfl]
      simp (disch:=first | (simp;done) | omega) [s10,s9,hia,j1,sK,hwk,hlt,j7]
      refine ⟨by omega,by rw [jg0];omega,by simpa [j2] using sB,?_⟩
      rw [← hst,List.set_eq_take_append_cons_drop,if_pos (by rw [jg0];exact hlt)]
    ·have:i=g.ts.length:=by omega
     subst this
     simp (disch:=first | (simp;done) | omega) [s10,s4,s9,s1,s3,j1,sB,j2]
     refine JA (vs:=[.agg (j2 g),jK mn intC M,.osl 86 u 0 g.ts.length 1,.int .i64 n]) (by simp [j2]) rfl (by simp [V.strip,V.strip1,V.pureTop,V.pureLeaf]) (evo83 hs hm (by simpa using sK) (fun m _=>by omega) hn _ _) ?_
     have hPe:jdz g M (upTo g S g.ts.length) n=jdz g M P n:=jdy fun a=>by
      rw [hP]
      show upTo g S g.ts.length a=(JI g a && inS S a)
      unfold upTo
      cases hca:JI g a
      ·simp
      ·simp [Jy hca]
     rw [hPe]
     simp
     exact j3 (by simp [sd]) (by simp [hS3]) rfl
   ·have hS3:(n:Int)∈S:=by simpa using hS2
    simp (disch:=first | (simp;done) | omega)
    exact j3 (by simp) (by simp [hS3]) rfl
 ·have hn':(g.ts.length:Int)≤n:=by omega
  have hc:JI g n=false:=by simp [JI,hn]
  simp (disch:=first | (simp;done) | omega) [j1,hn',h0',hc]
  exact j3 (by simp) (by simp) rfl
end
def j38:List UInt8:=[98,101,103,105,110,32,115,10,114,101,97,100,32,115,32,120,32,110,105,108,10,111,107,32,115]
def H20:Hist':=⟨false,[[115]],false,[[120]],false,[⟨0,1,false,[⟨false,0,⟨0,0⟩⟩]⟩]⟩
theorem k20:(callers E 100 noY).d 57 [.str j38]=some (.tup [(.agg [(.sl (some (0,1)) false 1 [(.str [115])]),(.sl (some (1,1)) false 1 [(.str [120])]),(.sl (some (2,3)) false 1 [(.int .i64 0),(.int .i64 1),(.sl none false 1 [(.bool false),(.int .i64 0),(.int .i64 0),(.int .i64 0)])])]),(.int .i64 0),(.int .i64 0)]):=by kernel_rfl
def jjc (g:Hist') (lvl:Int) (M O:List Int):Bool:=jtu g lvl M O == 0 && jtl g lvl M O
theorem err0 {g:Hist'} {lvl:Int} {M O:List Int} (h:jtu g lvl M O=0):JE g=true∧1≤lvl∧lvl≤3∧Qk g M=true∧X0 g O=true:=by
 unfold jtu at h
 cases h1:JE g
 ·simp [h1] at h
 ·cases h2:Qk g M
  ·simp [h1,h2] at h
  ·cases h3:X0 g O
   ·simp [h1,h2,h3] at h
   ·simp [h1,h2,h3] at h
    exact ⟨rfl,by omega,by omega,rfl,rfl⟩
end Go.Pv.T
namespace Go.Pv.T
open Go Go.Pv
end Go.Pv.T
namespace Go.Pv.T
open Go Go.Pv
end Go.Pv.T
namespace Go.Pv.T
open Go Go.Pv
theorem jxr:jhe = .seq (hdC jhe) jxq:=rfl
theorem few3O {h:Hist'} {Yf:YF} {ob0:ZO} {ub ro:Nat} {s0:St} {Q:Ex→St→Prop} {N1 N2:Nat} {S0 K0:V} (hru:ro≤ub) (hs:FewO h ob0 ub ro s0 25 45 N1 N2 S0 K0 (.sl none true 0 []) [])
 (hrest:∀ s Tv P,P.map (·.1)=(h.ts.take 45).map fewT→FewO h ob0 ub ro s 25 45 N1 N2 S0 K0 Tv P→wpC E Yf jxq s Q):wpC E Yf jhe s0 Q:=by
 rw [jxr]
 obtain ⟨f1,f2,f3,fd,fr,o1,o2,o3,gS,gK,gT,n0,n1,n2,ff⟩:=hs
 simp [hdC,jhe,jfa,jfb,tlC,S51]
 refine jE [(6,7),(67,98)] 45 (fun i s=>s.tm 6 = .int .i64 i∧i≤h.ts.length∧∃ Tv P,P.map (·.1)=(h.ts.take i).map fewT∧FewO h ob0 ub ro s 25 45 N1 N2 S0 K0 Tv P) rfl rfl ?_ ?_
 ·refine ⟨by simp,by simp,.sl none true 0 [],[],by simp,⟨by simp [f1],by simp [f2],by simp [f3],by simp [fd],by simp [fr],by simp [o1],by simp [o2],by simp [o3],gS.frame (fun _ _ _=>by simp) (Nat.le_refl _) (Nat.le_refl _),gK.frame (fun _ _ _=>by simp) (Nat.le_refl _) (Nat.le_refl _),⟨by simp,.inl ⟨rfl,rfl⟩⟩,n0,n1,by simp;omega,fun key hk=>by simp [ff key hk]⟩⟩
 rintro i s hi ⟨h4,hle,Tv,P,hP,f1,f2,f3,fd,fr,o1,o2,o3,gS,gK,gT,n0,n1,n2,ff⟩ f
 clear f
 have hend:¬ (i<h.ts.length∧i<45)→∀ s':St,(s'.tm 1=s.tm 1∧s'.tm 2=s.tm 2∧s'.tm 3=s.tm 3)→s'.df=s.df→s'.ro=s.ro→s'.ob=s.ob→s.nx≤s'.nx→wpC E Yf jxq s' Q:=by
  intro hx s' ⟨q1,q2,q3⟩ e2 e3 e4 e5
  refine hrest s' Tv P (hP.trans (j2k hle hi hx)) ⟨q1.trans f1,q2.trans f2,q3.trans f3,by rw [e2];exact fd,by rw [e3];exact fr,by rw [e4];exact o1,by rw [e4];exact o2,by rw [e4];exact o3,by rw [e4];exact gS,by rw [e4];exact gK,?_,n0,n1,by omega,fun key hk=>by rw [e4];exact ff key hk⟩
  exact gT.frame (fun _ _ _=>by rw [e4]) e5
 have o1':s.ob (2 * ub+1)=some ⟨ub,.cells [jK h.sn JF h.ss,jK h.kn JF h.ks,jK h.tn jk h.ts]⟩:=o1
 by_cases hlt:i<h.ts.length
 ·by_cases hl5:i<45
  ·have hw:=J6 hl5 (by omega)
   have hl5':(i:Int)<45:=by omega
   obtain ⟨t,ht⟩:∃ t,h.ts[i]=t:=⟨_,rfl⟩
   have hmn:=jbe t.ops.length 25
   rw [show ((25:Nat):Int)=25 from rfl] at hmn
   have hss:=jvd jJ t.nl t.ops 25 .i64
   have hmm:min t.ops.length 25=(t.ops.take 25).length:=by rw [List.length_take,Nat.min_comm]
   rw [hmm] at hss hmn
   generalize hL:t.ops.take 25=L at *
   have hLl:L.length≤25:=by rw [← hL,List.length_take];omega
   have hlfO:(L.flatMap opC).all V.leaf=true:=by rw [List.all_flatMap,List.all_eq_true];intro _ _;rfl
   obtain ⟨z,hz⟩:∃ z,s.nx=z:=⟨_,rfl⟩
   simp [h4,f1,o1',j1,hlt,hl5',j6 j9,jj j9,ht,jk,fr,j7,hz]
   refine ⟨by omega,?_⟩
   refine Xb (cs:=[]) rfl rfl rfl ?_
   simp [j1]
   obtain ⟨zB,hB⟩:∃ y,(z+64+64+64+64+64+64+64+64+64+64+64+64+64+64+64+64)=y:=⟨_,rfl⟩
   obtain ⟨zA,hA⟩:∃ y,(z+64+64+64+64+64+64+64+64+64+64+64+64+64+64)=y:=⟨_,rfl⟩
   have hAB:zB=zA+128:=by omega
   have hA0:z+896=zA:=by omega
   rw [hB,hA]
   have w1:¬ 2 * zA=2 * zB:=by omega
   have w2:¬ 2 * zB=2 * zA:=by omega
   simp [j1,w1,hmn,hss]
   refine jwy (f:=opC) (l:=L) (z:=zB) (by simp) (by simp) (by simp [fr];omega) (by simp [jK,jM,jA jJ]) jJ (by decide) hlfO (by omega) (by omega) ?_
   intro s1 u hu c0 cf ct cd cr cb ck
   have hu1:zB≤u:=by omega
   have hu2:u≤zB+512:=by omega
   have cA:s1.ob (2 * zA+1)=some ⟨zA,.cells [.int .i64 t.s,.int .i64 t.f,jK t.nl opC t.ops]⟩:=by
    rw [cf _ (by omega) (by omega)];simp [w1]
   have cO:∀ key,key≠2 * zA+1→key≠2 * zB+1→key≠2 * (zB+512)+1→s1.ob key=s.ob key:=by
    intro key k1 k2 k3
    rw [cf _ k2 (by omega)]
    simp [k1,k2]
   have v1:¬ 2 * zA=2 * (ub+192):=by omega
   have v2:¬ 2 * (ub+192)=2 * zA:=by omega
   have c3:s1.ob (2 * (ub+192)+1)=some ⟨ub+192,.cells [S0,K0,Tv]⟩:=(cO _ (by omega) (by omega) (by omega)).trans o3
   have hra:ro≤zA:=by omega
   simp [ct,j1,cA,cr,fr,j7,f3,c3,v2,hra]
   obtain ⟨p,hp⟩:∃ p,(fewT t,u)=p:=⟨_,rfl⟩
   have hpu:txU p=[.int .i64 t.s,.int .i64 t.f,.osl (2 * u+1) u 0 L.length 4]:=by
    rw [← hp]
    simp [txU,fewT,← hL]
   refine Xb (cs:=txU p) (by rw [hpu];simp [j7]) rfl (by rw [hpu];rfl) ?_
   simp
   obtain ⟨zE,hE⟩:∃ y,(zB+64+64+64+64+64+64+64+64+64+64+64+64+64+64)=y:=⟨_,rfl⟩
   have hE0:zB+896=zE:=by omega
   rw [hE]
   have hPl:P.length=i:=by
    have:=congrArg List.length hP
    rw [List.length_map,List.length_map,List.length_take] at this
    omega
   have hp2:p.2=u:=by rw [← hp]
   have hp1:p.1=fewT t:=by rw [← hp]
   have hpo:p.1.ops=L:=by rw [hp1];exact hL
   rw [hz] at gT n2
   have hsame:∀ y,y<z→s1.ob (2 * y+1)=s.ob (2 * y+1):=fun y y2=>cO _ (by omega) (by omega) (by omega)
   refine jk7 (lo:=N2) (hi:=z) (P:=P) (p:=p) ?_ (by omega) (by simp [cr,fr];omega) (by simp [jM,j1];rfl) ?_ n2 (by omega) ?_
   ·simp
    refine gT.frame (fun y y1 y2=>?_) (Nat.le_refl _)
    have e1:¬ 2 * y=2 * zE:=by omega
    have e2:¬ 2 * y=2 * zA:=by omega
    simp [e1,e2]
    exact hsame y y2
   ·refine ⟨by rw [hp1];rfl,by rw [hp2];omega,by rw [hp2];omega,L.flatMap opC,?_,?_,?_⟩
    ·rw [hp2]
     have e1:¬ 2 * u=2 * zE:=by omega
     have e2:¬ 2 * u=2 * zA:=by omega
     simp [e1,e2]
     exact c0
    ·rw [hpo,jA jJ];exact Nat.le_refl _
    ·rw [hpo,← jA jJ,List.take_length]
   intro s4 v4 hT4 x4 xt xd xr xb xk
   obtain ⟨hlf4,hc4⟩:=hT4.leaf
   have x5:∀ y,(y<N2)→s4.ob (2 * y+1)=s.ob (2 * y+1):=by
    intro y hy
    rw [x4 _ (fun y y1 y2=>by omega) (by omega)]
    have e1:¬ 2 * y=2 * zE:=by omega
    have e2:¬ 2 * y=2 * zA:=by omega
    simp [e1,e2]
    exact hsame y (by omega)
   have x3:=(x5 (ub+192) (by omega)).trans o3
   have hP1:(P++[p]).map (·.1)=(h.ts.take (i+1)).map fewT:=by
    rw [List.map_append,hP,List.take_succ_eq_append_getElem hlt,List.map_append,ht,← hp]
    rfl
   simp [xt,ct,f3,j1,x3,xr,cr,fr,j7,hlf4,hc4,h4,hw]
   have b1:¬ 2 * ub=2 * (ub+192):=by omega
   have b2:¬ 2 * (ub+64)=2 * (ub+192):=by omega
   refine ⟨by omega,hl5,by omega,v4,P++[p],by rw [hP1,List.map_take],⟨by simp [xt,ct,f1],by simp [xt,ct,f2],by simp [xt,ct,f3],by simp [xd,cd,fd],by simp [xr,cr,fr],by simp [b1];exact (x5 ub (by omega)).trans o1,by simp [b2];exact (x5 (ub+64) (by omega)).trans o2,by simp,
    gS.frame (fun y h1 h2=>?_) (Nat.le_refl _) (Nat.le_refl _),gK.frame (fun y h1 h2=>?_) (Nat.le_refl _) (Nat.le_refl _),hT4.frame (fun y h1 h2=>?_) (by simp <;> omega),n0,n1,by simp <;> omega,fun key hk=>?_⟩⟩
   ·have e1:¬ 2 * y=2 * (ub+192):=by omega
    simp [e1]
    exact x5 y (by omega)
   ·have e1:¬ 2 * y=2 * (ub+192):=by omega
    simp [e1]
    exact x5 y (by omega)
   ·have e1:¬ 2 * y=2 * (ub+192):=by omega
    simp [e1]
   ·have e1:=hk (ub+192) (by omega)
    have e2:=hk zE (by omega)
    have e3:=hk zA (by omega)
    simp [e1]
    rw [x4 _ (fun y y1 y2=>hk y (by omega)) (hk _ (by omega))]
    simp [e2,e3]
    exact (cO key e3 (hk zB (by omega)) (hk (zB+512) (by omega))).trans (ff key hk)
  ·have hl5':¬ (i:Int)<45:=by omega
   simp [h4,f1,o1',j1,hlt,hl5']
   exact hend (by omega) _ ⟨by simp,by simp,by simp⟩ (by simp) (by simp) (by funext k;simp) (by simp;omega)
 ·simp [h4,f1,o1',j1,hlt]
  exact hend (by omega) _ ⟨by simp,by simp,by simp⟩ (by simp) (by simp) (by funext k;simp) (by simp;omega)
def FewP (h:Hist') (ob:ZO) (ub:Nat) (r:V × (ZO) × (Nat→Bool) × Nat):Prop :=
 ∃ Sv Kv Tv P N1 N2,r.1 = .agg [Sv,Kv,Tv]∧StO r.2.1 (ub+256) N1 (Y9 25 h.ss) Sv∧StO r.2.1 N1 N2 (Y9 45 h.ks) Kv∧TsO r.2.1 N2 r.2.2.2 P Tv∧P.map (·.1)=(h.ts.take 45).map fewT∧ub+256≤N1∧N1≤N2∧N2≤r.2.2.2 ∧
  ∀ key,(∀ m,ub≤m→key≠2 * m+1)→r.2.1 key=ob key
theorem sv51 {Yf:YF} {h:Hist'} {ob:ZO} {tk:Nat→Bool} {ro base ub:Nat} (hro:ro≤ub):∃ r,EvS E Yf.y 51 [.agg (j2 h)] ob tk ro base ub r∧FewP h ob ub r:=by
 refine Wa (af:=S51) rfl (by decide) ?_
 show wpC E Yf S51.body _ (Qn S51.res _)
 refine few0S hro fun s1 h1=>?_
 refine few1O hro h1 fun s2 Sv h2=>?_
 refine few2O hro h2 fun s3 Kv h3=>?_
 refine few3O hro h3 fun s4 Tv P hP h4=>?_
 obtain ⟨f1,f2,f3,fd,fr,o1,o2,o3,gS,gK,gT,n0,n1,n2,ff⟩:=h4
 obtain ⟨lS,cS⟩:=gS.leaf
 obtain ⟨lK,cK⟩:=gK.leaf
 obtain ⟨lT,cT⟩:=gT.leaf
 have b1:¬ 2 * (ub+192)=2 * (ub+64):=by omega
 have hre:S51.res=[.cell 2 (some 3)]:=rfl
 rw [hre]
 generalize hP':Qn [.cell 2 (some 3)] (FewP h ob ub)=Q
 simp [jxq,jhe,jfa,jfb,tlC,S51,f2,f3,o2,o3,j1,fr,j7,lS,lK,lT]
 refine ⟨by omega,?_⟩
 rw [← hP']
 refine ⟨(.agg [Sv,Kv,Tv],_,_,_),by simp [jph,fd,jv,f2,j1];exact ⟨rfl,rfl,rfl⟩,Sv,Kv,Tv,P,_,_,rfl,gS.frame (fun y h1 h2=>?_) (Nat.le_refl _) (Nat.le_refl _),gK.frame (fun y h1 h2=>?_) (Nat.le_refl _) (Nat.le_refl _),gT.frame (fun y h1 h2=>?_) ?_,hP,n0,n1,?_,fun key hk=>?_⟩
 ·have e1:¬ 2 * y=2 * (ub+64):=by omega
  simp [e1]
 ·have e1:¬ 2 * y=2 * (ub+64):=by omega
  simp [e1]
 ·have e1:¬ 2 * y=2 * (ub+64):=by omega
  simp [e1]
 ·simp;omega
 ·simp;omega
 ·have e1:=hk (ub+64) (by omega)
  simp [e1]
  exact ff key hk
def ja6 (t:Txn'):Txn':={ t with ops:=t.ops.take 6 }
def QI (h:Hist'):Hist':=if 8<(jb9 h).ts.length then { jb9 h with tn:=true,ts:=[] } else { jb9 h with ts:=(jb9 h).ts.map ja6 }
def mixT (P:List (Txn' × Nat)) (i:Nat):List (Txn' × Nat):=P.mapIdx fun j p=>if j<i then (ja6 p.1,p.2) else p
theorem WK {P:List (Txn' × Nat)} {i:Nat}:(mixT P i).length=P.length:=by simp [mixT]
theorem jsd {P:List (Txn' × Nat)}:mixT P 0=P:=by
 apply List.ext_getElem?
 intro n
 simp [mixT]
theorem jwg {P:List (Txn' × Nat)}:(mixT P P.length).map (·.1)=(P.map (·.1)).map ja6:=by
 apply List.ext_getElem?
 intro n
 simp only [mixT,List.getElem?_map,List.getElem?_mapIdx]
 cases h:P[n]? with
 | none=>rfl
 | some o =>
  have:=(List.getElem?_eq_some_iff.1 h).1
  simp [this]
theorem jk0 {P:List (Txn' × Nat)} {i:Nat} (h:i<P.length):(mixT P i)[i]'(by rw [WK];exact h)=P[i]:=by simp [mixT]
theorem jiw {P:List (Txn' × Nat)} {i:Nat} (_:i<P.length):mixT P (i+1)=(mixT P i).modify i fun p=>(ja6 p.1,p.2):=by
 apply List.ext_getElem?
 intro n
 simp only [mixT,List.getElem?_mapIdx,List.getElem?_modify]
 cases hn:P[n]? with
 | none=>simp
 | some o =>
  simp only [Option.map_some,Option.map_eq_map]
  by_cases h3:i=n
  ·subst h3
   simp
  ·simp only [if_neg h3]
   by_cases h1:n<i
   ·rw [if_pos h1,if_pos (by omega)]
   ·rw [if_neg (by omega),if_neg h1]
theorem jqe:∀ {P:List (Txn' × Nat)} {i:Nat} (h:i<P.length),j7 (P.flatMap txU) (i * 3+2) [.osl (2 * (P[i]).2+1) (P[i]).2 0 (ja6 (P[i]).1).ops.length 4]=(P.modify i fun p=>(ja6 p.1,p.2)).flatMap txU
 | [],_,h=>by simp at h
 | p::P,0,_=>by simp [List.modify_cons,j7,txU,ja6]
 | p::P,i+1,h=>by
  have ih:=jqe (P:=P) (i:=i) (by simpa using h)
  simp only [List.modify_cons,Nat.add_one_ne_zero,if_false,Nat.add_sub_cancel,List.flatMap_cons,List.getElem_cons_succ]
  rw [← ih]
  have:(i+1) * 3+2=(txU p).length+(i * 3+2):=by simp;omega
  rw [this]
  simp only [j7,Nat.add_assoc]
  rw [List.take_length_add_append,List.drop_length_add_append]
  simp only [List.append_assoc]
theorem InO.six {ob:ZO} {lo hi:Nat} {p:Txn' × Nat} (h:InO ob lo hi p):InO ob lo hi (ja6 p.1,p.2):=by
 obtain ⟨X,h1,h2,h3⟩:=h.ob
 refine ⟨h.nl,h.lo,h.hi,X,h1,?_,?_⟩
 ·simp only [ja6,List.length_take];omega
 ·have e:X.take ((ja6 p.1).ops.length * 4)=(X.take (p.1.ops.length * 4)).take ((ja6 p.1).ops.length * 4):=by
   rw [List.take_take]
   congr 1
   simp only [ja6,List.length_take]
   omega
  rw [e,h3,ju4]
  congr 1
  simp only [ja6,List.length_take]
  rcases Nat.le_total p.1.ops.length 6 with h' | h'
  ·rw [Nat.min_eq_right h',List.take_length,List.take_of_length_le h']
  ·rw [Nat.min_eq_left h']
theorem jve {L u n i:Nat} (h:i≤n):Qy 4 none (some (.int .i64 (i:Int))) (.osl L u 0 n 4)=some (.osl L u 0 i 4):=by
 simp [Qy,X1,h]
theorem TsO.len {ob:ZO} {lo hi:Nat} {P:List (Txn' × Nat)} {v:V} (h:TsO ob lo hi P v):jan v=some (.int .i64 P.length):=by
 rcases h.2 with ⟨rfl,rfl⟩ | ⟨_,u,_,_,_,rfl,_⟩ <;> rfl
theorem ev15 (h:Hist'):∃ v,Ev E 15 [.agg (j2 h)] v∧jpv v (QI h):=by
 refine YP (af:=F15) rfl (by decide) ?_
 generalize hPP:(je7 [.cell 2 (some 3)] fun r=>jpv r (QI h))=PP
 simp [F15,j2,j1,hPP]
 refine JL (vs:=[.agg (j2 h)]) (by simp [j2]) rfl (sv51 (h:=h) (Nat.zero_le _)) ?_
 rintro v ob1 tk1 ub1 ⟨Sv,Kv,Tv,P,N1,N2,hv,gS,gK,gT,hP,n0,n1,n2,ff⟩
 simp only at hv gS gK gT hP n0 n1 n2 ff
 subst hv
 obtain ⟨lS,cS⟩:=gS.leaf
 obtain ⟨lK,cK⟩:=gK.leaf
 obtain ⟨lT,cT⟩:=gT.leaf
 have hTl:=gT.len
 have b1:ob1 1=some ⟨0,.cells (j2 h)⟩:=by rw [ff 1 (fun m hm=>by omega)];simp [j2]
 have b2:ob1 129=some ⟨64,.cells [.sl none true 0 [],.sl none true 0 [],.sl none true 0 []]⟩:=by rw [ff 129 (fun m hm=>by omega)];simp
 have e1:(QI h).ss=Y9 25 h.ss:=by unfold QI;split <;> rfl
 have e2:(QI h).sn=(Y9 25 h.ss).isEmpty:=by unfold QI;split <;> rfl
 have e3:(QI h).ks=Y9 45 h.ks:=by unfold QI;split <;> rfl
 have e4:(QI h).kn=(Y9 45 h.ks).isEmpty:=by unfold QI;split <;> rfl
 have hPl:(jb9 h).ts.length=P.length:=by
  show ((h.ts.take 45).map fewT).length=P.length
  rw [← hP,List.length_map]
 simp [b1,j1,j2,j7]
 generalize hK:jui E Y5 _ PP=K
 have rest:∀ (s:St) (P':List (Txn' × Nat)) (Tv':V),P'.length≤8→(QI h).ts=(P'.map (·.1)).map ja6→(QI h).tn=P'.isEmpty→s.tm 1 = .ptr 1 0 0→s.tm 2 = .ptr 129 64 0→s.df=[]→s.ro=0→s.fb=0→ub1≤s.nx →
  s.ob 1=some ⟨0,.cells [Sv,Kv,Tv']⟩→s.ob 129=some ⟨64,.cells [.sl none true 0 [],.sl none true 0 [],.sl none true 0 []]⟩→StO s.ob (192+256) N1 (Y9 25 h.ss) Sv→StO s.ob N1 N2 (Y9 45 h.ks) Kv→TsO s.ob N2 ub1 P' Tv'→K .nrm s:=by
  intro s P' Tv' hl8 ht8 hn8 g1 g2 gd gr gb gn p1 p2 gS gK gT
  rw [← hK,jg8]
  clear hK
  have lT':=gT.leaf
  simp
  refine jE [(3,3),(11,37)] P'.length (fun i s=>s.tm 3 = .int .i64 i∧s.ob 1=some ⟨0,.cells [Sv,Kv,Tv']⟩∧s.ob 129=some ⟨64,.cells [.sl none true 0 [],.sl none true 0 [],.sl none true 0 []]⟩∧StO s.ob (192+256) N1 (Y9 25 h.ss) Sv∧StO s.ob N1 N2 (Y9 45 h.ks) Kv∧TsO s.ob N2 ub1 (mixT P' i) Tv') rfl rfl
   ⟨by simp,by simp [p1],by simp [p2],gS.frame (fun _ _ _=>by simp) (Nat.le_refl _) (Nat.le_refl _),gK.frame (fun _ _ _=>by simp) (Nat.le_refl _) (Nat.le_refl _),by rw [jsd];exact gT.frame (fun _ _ _=>by simp) (Nat.le_refl _)⟩ ?_
  clear gS gK
  rintro i s1 hi ⟨h3,o1,o2,gS,gK,gX⟩ f
  have f1:s1.tm 1 = .ptr 1 0 0:=by rw [f.t 1 (by simp)];simp [g1]
  have f2:s1.tm 2 = .ptr 129 64 0:=by rw [f.t 2 (by simp)];simp [g2]
  have fd:s1.df=[]:=by rw [f.d];simp [gd]
  have fb:s1.fb=0:=by rw [f.b];simp [gb]
  have fr:s1.ro=0:=by rw [f.r];simp [gr]
  clear f
  have hXl:=gX.len
  rw [WK] at hXl
  by_cases hlt:i<P'.length
  ·have hw:=J6 hlt (by omega)
   have hl3:i<(mixT P' i).length:=by rw [WK];exact hlt
   rcases gX.2 with ⟨he,_⟩ | ⟨hne,u,h1,h2,h4,rfl,h5⟩
   ·rw [he] at hl3;simp at hl3
   have hin:=gX.1 (P'[i]) (by rw [← jk0 hlt];exact List.getElem_mem hl3)
   have hixT:Jk 3 (.osl (2 * u+1) u 0 (mixT P' i).length 3) (.int .i64 (i:Int))=some (.ptr (2 * u+1) u (i * 3)):=by simp [Jk,hl3]
   have hcell:((mixT P' i).flatMap txU)[i * 3+2]? = some (.osl (2 * (P'[i]).2+1) (P'[i]).2 0 (P'[i]).1.ops.length 4):=by
    rw [jg WB _ hl3 (by decide:2<3),jk0 hlt]
    rfl
   have hset:=jqe (P:=mixT P' i) (i:=i) hl3
   rw [← jiw hlt] at hset
   simp only [jk0 hlt] at hset
   have hmn:=jbe (P'[i]).1.ops.length 6
   rw [show ((6:Nat):Int)=6 from rfl] at hmn
   have hsl:=fun L u=>jve (L:=L) (u:=u) (n:=(P'[i]).1.ops.length) (i:=min (P'[i]).1.ops.length 6) (Nat.min_le_left _ _)
   have hs6:(ja6 (P'[i]).1).ops.length=min (P'[i]).1.ops.length 6:=by simp only [ja6,List.length_take,Nat.min_comm]
   rw [hs6] at hset
   have n1':¬ 2 * u=0:=by omega
   have n2':¬ 2 * u=128:=by omega
   have hlen:i * 3+2+1≤((mixT P' i).flatMap txU).length:=by rw [jA WB];omega
   simp [h3,f1,o1,j1,hXl,hlt,hixT,h5,hcell,hmn,hsl,fr,n1',n2',hset]
   have hq:∀ q∈mixT P' (i+1),InO s1.ob N2 ub1 q∧q.2≠u:=by
    intro q hq
    rw [jiw hlt] at hq
    rcases jf1 hq with hq | ⟨x,hx,rfl⟩
    ·exact ⟨gX.1 q hq,h4 q hq⟩
    ·have hx':=List.mem_of_getElem? hx
     exact ⟨(gX.1 x hx').six,h4 x hx'⟩
   have hll:(mixT P' (i+1)).length=(mixT P' i).length:=by rw [WK,WK]
   refine ⟨by have:=hlen;simp only [List.length_flatMap,WB] at this;exact this,hw,o2,gS.frame (fun y y1 y2=>?_) (Nat.le_refl _) (Nat.le_refl _),gK.frame (fun y y1 y2=>?_) (Nat.le_refl _) (Nat.le_refl _),fun q hqm=>?_,.inr ⟨?_,u,h1,h2,fun q hqm=>(hq q hqm).2,by rw [hll],by simp⟩⟩
   ·have w:¬ 2 * y=2 * u:=by omega
    simp [w]
   ·have w:¬ 2 * y=2 * u:=by omega
    simp [w]
   ·obtain ⟨a,b⟩:=hq q hqm
    have w:¬ 2 * q.2=2 * u:=by omega
    exact a.frame (by simp [w]) (Nat.le_refl _)
   ·intro e
    rw [e] at hll
    simp at hll
    omega
  ·have:i=P'.length:=by omega
   subst this
   simp [h3,f1,o1,j1,hXl,f2,o2,j7,fr,gS.leaf.1,gK.leaf.1,lT'.1]
   rw [← hPP]
   have hml:(mixT P' P'.length).isEmpty=(QI h).tn:=by rw [hn8];exact jea WK
   refine kE1 (g:=QI h) (l:=129) (u:=64) (x:=Sv) (y:=Kv) (z:=Tv') (by simp [fd]) (by simp [f2]) (by simp) ?_ ?_ ?_
   ·rw [e1,e2]
    refine StO.out (lo:=192+256) (hi:=N1) (gS.frame (fun y q1 q2=>?_) (Nat.le_refl _) (Nat.le_refl _)) (by simp [fr])
    have w:¬ 2 * y=128:=by omega
    simp [w]
   ·rw [e3,e4]
    refine StO.out (lo:=N1) (hi:=N2) (gK.frame (fun y q1 q2=>?_) (Nat.le_refl _) (Nat.le_refl _)) (by simp [fr])
    have w:¬ 2 * y=128:=by omega
    simp [w]
   ·have hl9:(QI h).ts.length=(mixT P' P'.length).length:=by rw [ht8,WK];simp
    rw [hl9,← hml,ht8,← jwg]
    refine TsO.out (lo:=N2) (hi:=ub1) (gX.frame (fun y q1 q2=>?_) (Nat.le_refl _)) (by simp [fr])
    have w:¬ 2 * y=128:=by omega
    simp [w]
 refine ⟨⟨lS,lK,lT⟩,?_⟩
 simp [hTl]
 have q1:∀ y,192≤y→¬ 2 * y=0:=fun y hy=>by omega
 by_cases h8:8<P.length
 ·have h8':(8:Int)<(P.length:Int):=by omega
  simp [h8',j1,j7]
  exact rest _ [] (.sl none true 0 []) (by simp) (by unfold QI;rw [if_pos (by rw [hPl];exact h8)];rfl) (by unfold QI;rw [if_pos (by rw [hPl];exact h8)];rfl) (by simp) (by simp) (by simp) (by simp) (by simp) (by simp <;> omega) (by simp) (by simp [b2])
   (gS.frame (fun y y1 y2=>by simp [q1 y (by omega)]) (Nat.le_refl _) (Nat.le_refl _)) (gK.frame (fun y y1 y2=>by simp [q1 y (by omega)]) (Nat.le_refl _) (Nat.le_refl _)) ⟨by simp,.inl ⟨rfl,rfl⟩⟩
 ·have h8':¬ (8:Int)<(P.length:Int):=by omega
  simp [h8']
  exact rest _ P Tv (by omega) (by unfold QI;rw [if_neg (by rw [hPl];exact h8),hP];rfl) (by unfold QI;rw [if_neg (by rw [hPl];exact h8)];show ((h.ts.take 45).map fewT).isEmpty=_;rw [← hP];exact jea (by simp)) (by simp) (by simp) (by simp) (by simp) (by simp) (by simp <;> omega) (by simp) (by simp [b2])
   (gS.frame (fun y y1 y2=>by simp [q1 y (by omega)]) (Nat.le_refl _) (Nat.le_refl _)) (gK.frame (fun y y1 y2=>by simp [q1 y (by omega)]) (Nat.le_refl _) (Nat.le_refl _)) (gT.frame (fun y y1 y2=>by simp [q1 y (by omega)]) (Nat.le_refl _))
theorem j4j (h:Hist'):Small (QI h):=by
 have hs:=jqp h
 unfold QI
 split
 ·exact ⟨hs.ss,hs.sl,hs.ks,hs.kl,by simp,by simp⟩
 ·refine ⟨hs.ss,hs.sl,hs.ks,hs.kl,by simpa using hs.ts,fun t ht=>?_⟩
  simp only [List.mem_map] at ht
  obtain ⟨t',ht',rfl⟩:=ht
  have:=hs.os t' ht'
  simp only [ja6,List.length_take]
  omega
theorem jxp (h:Hist'):QI (QI h)=QI h:=by
 have e1:Y9 25 (jb9 h).ss=(jb9 h).ss:=jnl 25 h.ss
 have e2:Y9 45 (jb9 h).ks=(jb9 h).ks:=jnl 45 h.ks
 by_cases c:8<(jb9 h).ts.length
 ·have e:QI h = { jb9 h with tn:=true,ts:=[] }:=by unfold QI;rw [if_pos c]
  have e0:jb9 { jb9 h with tn:=true,ts:=[] } = { jb9 h with tn:=true,ts:=[] }:=by
   show Hist'.mk _ _ _ _ _ _=_
   simp only [e1,e2]
   rfl
  rw [e]
  unfold QI
  rw [e0]
  rfl
 ·have e:QI h = { jb9 h with ts:=(jb9 h).ts.map ja6 }:=by unfold QI;rw [if_neg c]
  have e3:(((jb9 h).ts.map ja6).take 45).map fewT=(jb9 h).ts.map ja6:=by
   show ((((h.ts.take 45).map fewT).map ja6).take 45).map fewT=((h.ts.take 45).map fewT).map ja6
   rw [← List.map_take,← List.map_take,List.take_take,List.map_map,List.map_map,List.map_map]
   refine List.map_congr_left fun t _=>?_
   simp [fewT,ja6,List.take_take]
  have e0:jb9 { jb9 h with ts:=(jb9 h).ts.map ja6 } = { jb9 h with ts:=(jb9 h).ts.map ja6 }:=by
   show Hist'.mk _ _ _ _ _ _=_
   simp only [e1,e2,e3]
   simp [jb9]
   cases h.ts <;> simp
  rw [e]
  unfold QI
  rw [e0]
  have c':¬ 8<((jb9 h).ts.map ja6).length:=by simpa using c
  simp only
  rw [if_neg c',List.map_map]
  congr 1
  refine List.map_congr_left fun t _=>?_
  simp [ja6,List.take_take]
theorem jtt {g:Hist'} {lvl:Int} {M O:List Int} (h:jtu g lvl M O=0):jjc g lvl M O=jat g lvl M O:=by
 obtain ⟨_,h1,h3,hm,ho⟩:=err0 h
 simp [jjc,h,jxh h1 h3 hm ho]
theorem err_lvl {g:Hist'} {M O:List Int}:jtu g 2 M O=jtu g 1 M O∧jtu g 3 M O=jtu g 1 M O:=by simp [jtu]
theorem h32 {g:Hist'} {M O:List Int} (h:jjc g 3 M O=true):jjc g 2 M O=true:=by
 have h0:jtu g 3 M O=0:=by
  unfold jjc at h
  simp only [Bool.and_eq_true,beq_iff_eq] at h
  exact h.1
 obtain ⟨_,_,_,hm,ho⟩:=err0 h0
 rw [jtt h0] at h
 have h0':jtu g 2 M O=0:=by rw [err_lvl.1,← err_lvl.2];exact h0
 rw [jtt h0']
 exact j4q hm ho h
theorem f20:Small H20:=⟨by decide,by decide,by decide,by decide,by decide,by decide⟩
theorem f20a:jto H20 [-1] 9=([0],2,0):=by decide +kernel
theorem f20b:j3t H20 [-1] [] 0=true:=by decide +kernel
set_option maxHeartbeats 1000000 in
theorem ev36:Ev E 36 [] (.bool true):=by
 obtain ⟨v,e1,nl,hn,hv⟩:=ev34 f20 (by decide) (mn:=false) (M:=[-1]) (by decide) 9
 rw [f20a] at hn hv
 obtain rfl:nl=false:=by cases nl;rfl;cases hn rfl
 have e2:=ev37 f20 (by decide) (mn:=false) (sn:=true) (M:=[-1]) (by decide) (S:=[]) (by decide) 0
 rw [f20b] at e2
 have e57:Ev E 57 [.str j38] _:=⟨100,k20⟩
 refine jT (af:=F36) rfl ?_
 simp [F36]
 refine jX e57 rfl rfl rfl ?_
 simp [Y1,toksRes,V.toks,V.tok,jbq,jbp,Y2,Nat.blt,j1,j7]
 refine jU (cs:=[.int .i64 (-1)]) (by simp [j7]) rfl rfl ?_
 simp [j7]
 refine jX e1 (by simp [jK,intC,j2,H20,JF,jk,opC,V.strip,V.strip1]) rfl (by simp [jK,intC,j2]) ?_
 refine jyn hv rfl fun ws add hws=>?_
 obtain ⟨x,y,z,rfl,h1,h2,h3⟩:=map3 hws
 obtain ⟨t1,rfl⟩:=jc6 h1
 obtain rfl:=jfg h2
 obtain rfl:=jfg h3
 have e3:=ev32 (a:=false) (b:=false) [0] [0] (by decide) (by decide)
 rw [show (([0]:List Int) == [0])=true from rfl] at e3
 simp
 refine jU (cs:=[.int .i64 0]) (by simp [j7]) rfl rfl ?_
 simp [j7]
 refine jX e3 (by simp [jK,intC,V.strip,V.strip1]) rfl (by simp [jK,intC]) ?_
 simp [j1,j7]
 refine jU (cs:=[.int .i64 (-1)]) (by simp [j7]) rfl rfl ?_
 simp [j7]
 refine jX e2 (by simp [jK,intC,j2,H20,JF,jk,opC,V.strip,V.strip1]) rfl (by simp [jK,intC,j2]) ?_
 simp
 exact j3 rfl (by simp) rfl
theorem j2l (h:Hist'):(QI h).ts.length≤8:=by
 unfold QI
 split
 ·simp
 ·rename_i h8
  simp only [List.length_map]
  omega
set_option maxHeartbeats 1000000 in
theorem ev10 (h:Hist') {nl on:Bool} (M O:List Int) (t:Int):Ev E 10 [.agg (j2 h),jK nl intC M,jK on intC O,.int .i64 t] (.bool true):=by
 obtain ⟨r,ev,hr⟩:=ev15 h
 obtain ⟨r2,ev2,hr2⟩:=ev15 (QI h)
 rw [jxp] at hr2
 have hs:=j4j h
 have h8:=j2l h
 generalize QI h=g at *
 have hm1:Qi false [.int .i64 (M.length:Int),.int .i64 60]=some (.int .i64 ((min M.length 60:Nat):Int)):=jbe M.length 60
 have hm2:Qi false [.int .i64 (O.length:Int),.int .i64 60]=some (.int .i64 ((min O.length 60:Nat):Int)):=jbe O.length 60
 have hk1:min M.length 60≤M.length:=Nat.min_le_left _ _
 have hk2:min O.length 60≤O.length:=Nat.min_le_left _ _
 have hk3:min M.length 60≤60:=Nat.min_le_right _ _
 have hk4:min O.length 60≤60:=Nat.min_le_right _ _
 generalize min M.length 60=k1 at *
 generalize min O.length 60=k2 at *
 have hs1:=jkb jH none nl M hk1
 have hs2:=jkb jH none on O hk2
 have l1:(M.take k1).length≤60:=by rw [List.length_take];omega
 have l2:(O.take k2).length≤60:=by rw [List.length_take];omega
 generalize M.take k1=M' at *
 generalize O.take k2=O' at *
 obtain ⟨vm,evm,hvm⟩:=ev25 nl M' (by omega)
 obtain ⟨vo,evo,hvo⟩:=ev25 on O' (by omega)
 obtain ⟨vm2,evm2,hvm2⟩:=ev25 false M' (by omega)
 obtain ⟨vo2,evo2,hvo2⟩:=ev25 false O' (by omega)
 have e37:=ev37 hs h8 (mn:=false) (sn:=false) (M:=M') (by omega) (S:=O') (by omega) t
 have e38:=ev38 hs (mn:=false) (sn:=false) (M:=M') (by omega) (S:=O') (by omega) t
 generalize j3t g M' O' t=x0 at *
 refine jT (af:=F10) rfl ?_
 simp [F10,j2,j1]
 refine X8 ev (by simp [j2,jK]) rfl (by simp [j2,jK]) ?_
 refine jq0 hr fun a1 b1 c1 add1=>?_
 simp [hm1,hs1,jK]
 refine X8 evm (by simp [jK]) rfl (by simp [jK]) ?_
 refine Wb hvm fun a2 add2=>?_
 simp [hm2,hs2]
 refine X8 evo (by simp [jK]) rfl (by simp [jK]) ?_
 refine Wb hvo fun a3 add3=>?_
 simp [j1,j7]
 refine X8 ev2 (by simp [j2,jK]) rfl (by simp [j2,jK]) ?_
 refine jq0 hr2 fun a4 b4 c4 add4=>?_
 simp [j1]
 refine X8 evm2 (by simp [jK]) rfl (by simp [jK]) ?_
 refine Wb hvm2 fun a5 add5=>?_
 simp
 refine X8 evo2 (by simp [jK]) rfl (by simp [jK]) ?_
 refine Wb hvo2 fun a6 add6=>?_
 simp
 refine X8 e37 (by simp [j2,jK]) rfl (by simp [j2,jK]) ?_
 simp [j1]
 refine X8 e38 (by simp [j2,jK]) rfl (by simp [j2,jK]) ?_
 simp
 refine X8 ev36 (by simp) rfl (by simp) ?_
 simp
 exact j3 rfl (by simp) rfl
end Go.Pv.T
namespace Go.Pv.T
open Go Go.Pv Go.Proofs Go.Shelf
def renS:Ren where
 f:=fun x=>match x with
  | 189=>69
  | 125=>118
  | 257=>117
  | 128=>187
  | 129=>188
  | 294=>178
  | 295=>179
  | 296=>180
  | 297=>181
  | 298=>182
  | 299=>183
  | 216=>184
  | 300=>185
  | 301=>186
  | 328=>238
  | 329=>239
  | 330=>240
  | 331=>241
  | 332=>242
  | 215=>243
  | 343=>275
  | n=>n
 t:=fun x=>match x with
  | 28=>26
  | 3=>3
  | 46=>160
  | 0=>0
  | 51=>236
  | 53=>165
  | 4=>4
  | 183=>230
  | 182=>229
  | 131=>157
  | 5=>5
  | 9=>9
  | 218=>275
  | 222=>279
  | 228=>307
  | 229=>304
  | n=>n
 g:=fun x=>x
theorem j8o:Lays.n189 Tryz.prog renS where
 mixed:=by kernel_rfl
 f125:=Tryz.func118.trans (congrArg some (by kernel_rfl))
 f128:=Tryz.func187.trans (congrArg some (by kernel_rfl))
 f129:=Tryz.func188.trans (congrArg some (by kernel_rfl))
 f189:=Tryz.func69.trans (congrArg some (by kernel_rfl))
 f215:=Tryz.func243.trans (congrArg some (by kernel_rfl))
 f216:=Tryz.func184.trans (congrArg some (by kernel_rfl))
 f257:=Tryz.func117.trans (congrArg some (by kernel_rfl))
 f294:=Tryz.func178.trans (congrArg some (by kernel_rfl))
 f295:=Tryz.func179.trans (congrArg some (by kernel_rfl))
 f296:=Tryz.func180.trans (congrArg some (by kernel_rfl))
 f297:=Tryz.func181.trans (congrArg some (by kernel_rfl))
 f298:=Tryz.func182.trans (congrArg some (by kernel_rfl))
 f299:=Tryz.func183.trans (congrArg some (by kernel_rfl))
 f300:=Tryz.func185.trans (congrArg some (by kernel_rfl))
 f301:=Tryz.func186.trans (congrArg some (by kernel_rfl))
 f328:=Tryz.func238.trans (congrArg some (by kernel_rfl))
 f329:=Tryz.func239.trans (congrArg some (by kernel_rfl))
 f330:=Tryz.func240.trans (congrArg some (by kernel_rfl))
 f331:=Tryz.func241.trans (congrArg some (by kernel_rfl))
 f332:=Tryz.func242.trans (congrArg some (by kernel_rfl))
 f343:=Tryz.func275.trans (congrArg some (by kernel_rfl))
 t0:=Tryz.underlying0
 a0:=Tryz.isAgg0
 z0:=Tryz.sizeOf0
 v0:=Tryz.zeroValue0
 t3:=Tryz.underlying3
 a3:=Tryz.isAgg3
 z3:=Tryz.sizeOf3
 v3:=Tryz.zeroValue3
 t4:=Tryz.underlying4
 a4:=Tryz.isAgg4
 z4:=Tryz.sizeOf4
 v4:=Tryz.zeroValue4
 t5:=Tryz.underlying5
 a5:=Tryz.isAgg5
 z5:=Tryz.sizeOf5
 v5:=Tryz.zeroValue5
 t9:=Tryz.underlying9
 a9:=Tryz.isAgg9
 z9:=Tryz.sizeOf9
 v9:=Tryz.zeroValue9
 t28:=Tryz.underlying26
 a28:=Tryz.isAgg26
 z28:=Tryz.sizeOf26
 v28:=Tryz.zeroValue26
 t46:=Tryz.underlying160
 a46:=Tryz.isAgg160
 z46:=Tryz.sizeOf160
 v46:=Tryz.zeroValue160
 t51:=Tryz.underlying236
 a51:=Tryz.isAgg236
 z51:=Tryz.sizeOf236
 v51:=Tryz.zeroValue236
 t53:=Tryz.underlying165
 a53:=Tryz.isAgg165
 z53:=Tryz.sizeOf165
 v53:=Tryz.zeroValue165
 t131:=Tryz.underlying157
 a131:=Tryz.isAgg157
 z131:=Tryz.sizeOf157
 v131:=Tryz.zeroValue157
 t182:=Tryz.underlying229
 a182:=Tryz.isAgg229
 z182:=Tryz.sizeOf229
 v182:=Tryz.zeroValue229
 t183:=Tryz.underlying230
 a183:=Tryz.isAgg230
 z183:=Tryz.sizeOf230
 v183:=Tryz.zeroValue230
 t218:=Tryz.underlying275
 a218:=Tryz.isAgg275
 z218:=Tryz.sizeOf275
 v218:=Tryz.zeroValue275
 t222:=Tryz.underlying279
 a222:=Tryz.isAgg279
 z222:=Tryz.sizeOf279
 v222:=Tryz.zeroValue279
 t228:=Tryz.underlying307
 a228:=Tryz.isAgg307
 z228:=Tryz.sizeOf307
 v228:=Tryz.zeroValue307
 t229:=Tryz.underlying304
 a229:=Tryz.isAgg304
 z229:=Tryz.sizeOf304
 v229:=Tryz.zeroValue304
theorem jqm:jlz Tryz.prog 69:=by
 refine ⟨⟨Tryz.f69,_,Tryz.func69,rfl,by kernel_rfl⟩,fun p cap w=>?_,fun blk off cap zs w h1 h2 h3=>?_⟩
 ·exact Any.slices_Sort_int_none j8o p cap w
 ·exact Any.slices_Sort_int j8o blk off cap zs w h1 h2 h3
end Go.Pv.T
namespace Go.Pv.T
open Go Go.Pv Go.Proofs
theorem j1a (p:Option Addr) (cap:Nat) (w:World):Calls Tryz.prog 78 #[.slice p 0 cap] w fun e w'=>e = .returned (.pointer (some ⟨w.heap.size,0,none⟩))∧∃ t,w'=w.alloc (.cells #[.int .u64 0,.int .u64 0,.int .u64 0,.int .u64 0,.int .u64 0,.int .u64 0,.int .u64 0,.int .u64 0] t):=by
 go_enter Tryz.func78,Tryz.ntmps78
 go_wp2
 refine wp_loop_rounds 1 ?_
 rw [rounds_succ]
 go_wp2
 go_ret
 exact ⟨rfl,_,rfl⟩
theorem mkLaw:j3j Tryz.prog 78 j4p:=by
 refine ⟨⟨_,_,Tryz.func78,rfl,by kernel_rfl⟩,fun p cap w=>(j1a p cap w).mono ?_⟩
 rintro e w' ⟨rfl,t,rfl⟩
 refine ⟨rfl,_,t,rfl,rfl,fun j x v hx hv=>?_⟩
 match j with
 | 0 | 1 | 2 | 3 | 4 | 5 | 6 | 7 =>
  simp [j4p] at hx hv
  subst hx hv
  exact ⟨rfl,fun I=>.int _ _⟩
 | j+8=>simp [j4p] at hv
abbrev Jzz:=jY Tryz.prog false
theorem j4 {P:Program} {r:Bool} {f:FuncId} {fn:Func} {af:AF} (h1:P.funcs[f]? = some fn) (m:Bool:=false) (h2:j2w P m r fn=some af:=by kernel_rfl) (h3:(fn.name == "runtime.NumGoroutine")=false:=by kernel_rfl) (h4:af.body.dstOk fn.ntmps=true:=by kernel_rfl):jY P r f af:=by
  unfold j2w at h2
  cases hb:fn.body with
  | none=>rw [hb] at h2;cases h2
  | some c =>
    rw [hb,Option.bind_some] at h2
    cases hc:comp P m r c with
    | none=>rw [hc] at h2;cases h2
    | some b =>
      rw [hc,Option.bind_some] at h2
      cases hr:fn.results.toList.mapM (YM P) with
      | none=>rw [hr] at h2;cases h2
      | some res =>
        rw [hr] at h2
        cases h2
        exact ⟨m,fn,c,h1,hb,hc,hr,h3,h4⟩
theorem j56:Jzz 307 F307:=j4 Tryz.func307
theorem j55:Jzz 320 F320:=j4 Tryz.func320
theorem j7k:Jzz 173 F173:=j4 Tryz.func173
theorem j7j:Jzz 174 F174:=j4 Tryz.func174
theorem j7i:Jzz 175 F175:=j4 Tryz.func175
theorem j7h:Jzz 176 F176:=j4 Tryz.func176
theorem j7g:Jzz 177 F177:=j4 Tryz.func177
theorem j7f:Jzz 188 F188:=j4 Tryz.func188
theorem j7e:Jzz 189 F189:=j4 Tryz.func189
theorem j7d:Jzz 190 F190:=j4 Tryz.func190
theorem j7c:Jzz 212 F212:=j4 Tryz.func212
theorem j7b:Jzz 214 F214:=j4 Tryz.func214
theorem j7a:Jzz 216 F216:=j4 Tryz.func216
theorem j69:Jzz 217 F217:=j4 (m:=true) Tryz.func217
theorem j68:Jzz 223 F223:=j4 Tryz.func223
theorem j67:Jzz 224 F224:=j4 Tryz.func224
theorem j66:Jzz 225 F225:=j4 Tryz.func225
theorem j65:Jzz 226 F226:=j4 Tryz.func226
theorem j64:Jzz 227 F227:=j4 Tryz.func227
theorem j63:Jzz 228 F228:=j4 Tryz.func228
theorem j62:Jzz 229 F229:=j4 Tryz.func229
theorem j61:Jzz 230 F230:=j4 Tryz.func230
theorem j60:Jzz 233 F233:=j4 Tryz.func233
theorem j6z:Jzz 234 F234:=j4 Tryz.func234
theorem j6y:Jzz 235 F235:=j4 Tryz.func235
theorem j6x:Jzz 236 F236:=j4 Tryz.func236
theorem j6w:Jzz 251 F251:=j4 Tryz.func251
theorem j6v:Jzz 252 F252:=j4 Tryz.func252
theorem j6u:Jzz 253 F253:=j4 Tryz.func253
theorem j6t:Jzz 254 F254:=j4 Tryz.func254
theorem j6s:Jzz 258 F258:=j4 Tryz.func258
theorem j6r:Jzz 259 F259:=j4 Tryz.func259
theorem j6q:Jzz 261 F261:=j4 Tryz.func261
theorem j6p:Jzz 262 F262:=j4 Tryz.func262
theorem j6o:Jzz 263 F263:=j4 Tryz.func263
theorem j6n:Jzz 264 F264:=j4 Tryz.func264
theorem j6m:Jzz 265 F265:=j4 Tryz.func265
theorem j6l:Jzz 266 F266:=j4 Tryz.func266
theorem j6k:Jzz 267 F267:=j4 Tryz.func267
theorem j6j:Jzz 268 F268:=j4 Tryz.func268
theorem j6i:Jzz 269 F269:=j4 Tryz.func269
theorem j6h:Jzz 273 F273:=j4 Tryz.func273
theorem j6g:Jzz 280 F280:=j4 Tryz.func280
theorem j6f:Jzz 281 F281:=j4 Tryz.func281
theorem j6e:Jzz 284 F284:=j4 Tryz.func284
theorem j6d:Jzz 285 F285:=j4 Tryz.func285
theorem j6c:Jzz 286 F286:=j4 Tryz.func286
theorem j6b:Jzz 288 F288:=j4 Tryz.func288
theorem j6a:Jzz 289 F289:=j4 Tryz.func289
theorem j59:Jzz 293 F293:=j4 Tryz.func293
theorem j58:Jzz 300 F300:=j4 Tryz.func300
theorem j57:Jzz 304 F304:=j4 Tryz.func304
theorem okc10:Jzz 10 F10:=j4 Tryz.func10
theorem okc15:Jzz 15 F15:=j4 (m:=true) Tryz.func15
theorem okc21:Jzz 21 F21:=j4 Tryz.func21
theorem okc22:Jzz 22 F22:=j4 Tryz.func22
theorem okc25:Jzz 25 F25:=j4 Tryz.func25
theorem okc31:Jzz 31 F31:=j4 Tryz.func31
theorem okc32:Jzz 32 F32:=j4 Tryz.func32
theorem okc34:Jzz 34 F34:=j4 (m:=true) Tryz.func34
theorem okc36:Jzz 36 F36:=j4 Tryz.func36
theorem okc37:Jzz 37 F37:=j4 (m:=true) Tryz.func37
theorem okc38:Jzz 38 F38:=j4 Tryz.func38
theorem okc52:Jzz 52 F52:=j4 Tryz.func52
theorem okc53:Jzz 53 F53:=j4 Tryz.func53
theorem okc57:Jzz 57 F57:=j4 Tryz.func57
theorem okc58:Jzz 58 F58:=j4 (m:=true) Tryz.func58
theorem okc59:Jzz 59 F59:=j4 Tryz.func59
theorem okc60:Jzz 60 F60:=j4 Tryz.func60
theorem okc61:Jzz 61 F61:=j4 Tryz.func61
theorem okc62:Jzz 62 F62:=j4 Tryz.func62
theorem okc71:Jzz 71 F71:=j4 Tryz.func71
theorem okc74:Jzz 74 F74:=j4 Tryz.func74
theorem okc80:Jzz 80 F80:=j4 Tryz.func80
theorem okc84:Jzz 84 F84:=j4 Tryz.func84
theorem okc86:Jzz 86 F86:=j4 Tryz.func86
theorem j8a:Jzz 103 F103:=j4 Tryz.func103
theorem j79:Jzz 104 F104:=j4 Tryz.func104
theorem j78:Jzz 105 F105:=j4 Tryz.func105
theorem j77:Jzz 106 F106:=j4 (m:=true) Tryz.func106
theorem j76:Jzz 108 F108:=j4 Tryz.func108
theorem j75:Jzz 109 F109:=j4 (m:=true) Tryz.func109
theorem j74:Jzz 110 F110:=j4 Tryz.func110
theorem j73:Jzz 112 F112:=j4 Tryz.func112
theorem j72:Jzz 116 F116:=j4 Tryz.func116
theorem j71:Jzz 118 F118:=j4 Tryz.func118
theorem j70:Jzz 120 F120:=j4 Tryz.func120
theorem j7z:Jzz 121 F121:=j4 Tryz.func121
theorem j7y:Jzz 127 F127:=j4 Tryz.func127
theorem j7x:Jzz 135 F135:=j4 Tryz.func135
theorem j7w:Jzz 136 F136:=j4 Tryz.func136
theorem j7v:Jzz 152 F152:=j4 Tryz.func152
theorem j7u:Jzz 155 F155:=j4 Tryz.func155
theorem j7t:Jzz 157 F157:=j4 Tryz.func157
theorem j7s:Jzz 158 F158:=j4 Tryz.func158
theorem j7r:Jzz 159 F159:=j4 Tryz.func159
theorem j7q:Jzz 160 F160:=j4 Tryz.func160
theorem j7p:Jzz 161 F161:=j4 Tryz.func161
theorem j7o:Jzz 166 F166:=j4 Tryz.func166
theorem j7n:Jzz 167 F167:=j4 Tryz.func167
theorem j7m:Jzz 170 F170:=j4 Tryz.func170
theorem j7l:Jzz 172 F172:=j4 Tryz.func172
theorem j9a {f:FuncId} {af:AF} (h:fc_2 f=some af):Jzz f af:=by
  unfold fc_2 at h
  split at h
  · cases h;exact j56
  · cases h;exact j55
  · cases h
theorem j9b {f:FuncId} {af:AF} (h:fc_1 f=some af):Jzz f af:=by
  unfold fc_1 at h
  split at h
  · cases h;exact j7k
  · cases h;exact j7j
  · cases h;exact j7i
  · cases h;exact j7h
  · cases h;exact j7g
  · cases h;exact j7f
  · cases h;exact j7e
  · cases h;exact j7d
  · cases h;exact j7c
  · cases h;exact j7b
  · cases h;exact j7a
  · cases h;exact j69
  · cases h;exact j68
  · cases h;exact j67
  · cases h;exact j66
  · cases h;exact j65
  · cases h;exact j64
  · cases h;exact j63
  · cases h;exact j62
  · cases h;exact j61
  · cases h;exact j60
  · cases h;exact j6z
  · cases h;exact j6y
  · cases h;exact j6x
  · cases h;exact j6w
  · cases h;exact j6v
  · cases h;exact j6u
  · cases h;exact j6t
  · cases h;exact j6s
  · cases h;exact j6r
  · cases h;exact j6q
  · cases h;exact j6p
  · cases h;exact j6o
  · cases h;exact j6n
  · cases h;exact j6m
  · cases h;exact j6l
  · cases h;exact j6k
  · cases h;exact j6j
  · cases h;exact j6i
  · cases h;exact j6h
  · cases h;exact j6g
  · cases h;exact j6f
  · cases h;exact j6e
  · cases h;exact j6d
  · cases h;exact j6c
  · cases h;exact j6b
  · cases h;exact j6a
  · cases h;exact j59
  · cases h;exact j58
  · cases h;exact j57
  · exact j9a h
theorem fcOk {f:FuncId} {af:AF} (h:fc f=some af):Jzz f af:=by
  unfold fc at h
  split at h
  · cases h;exact okc10
  · cases h;exact okc15
  · cases h;exact okc21
  · cases h;exact okc22
  · cases h;exact okc25
  · cases h;exact okc31
  · cases h;exact okc32
  · cases h;exact okc34
  · cases h;exact okc36
  · cases h;exact okc37
  · cases h;exact okc38
  · cases h;exact okc52
  · cases h;exact okc53
  · cases h;exact okc57
  · cases h;exact okc58
  · cases h;exact okc59
  · cases h;exact okc60
  · cases h;exact okc61
  · cases h;exact okc62
  · cases h;exact okc71
  · cases h;exact okc74
  · cases h;exact okc80
  · cases h;exact okc84
  · cases h;exact okc86
  · cases h;exact j8a
  · cases h;exact j79
  · cases h;exact j78
  · cases h;exact j77
  · cases h;exact j76
  · cases h;exact j75
  · cases h;exact j74
  · cases h;exact j73
  · cases h;exact j72
  · cases h;exact j71
  · cases h;exact j70
  · cases h;exact j7z
  · cases h;exact j7y
  · cases h;exact j7x
  · cases h;exact j7w
  · cases h;exact j7v
  · cases h;exact j7u
  · cases h;exact j7t
  · cases h;exact j7s
  · cases h;exact j7r
  · cases h;exact j7q
  · cases h;exact j7p
  · cases h;exact j7o
  · cases h;exact j7n
  · cases h;exact j7m
  · cases h;exact j7l
  · exact j9b h
theorem oks51:jY Tryz.prog true 51 S51:=j4 (m:=true) Tryz.func51
theorem oks76:jY Tryz.prog true 76 S76:=j4 (m:=true) Tryz.func76
theorem oks77:jY Tryz.prog true 77 S77:=j4 (m:=true) Tryz.func77
theorem oks78:jY Tryz.prog true 78 S78:=j4 (m:=true) Tryz.func78
theorem oks81:jY Tryz.prog true 81 S81:=j4 (m:=true) Tryz.func81
theorem oks82:jY Tryz.prog true 82 S82:=j4 (m:=true) Tryz.func82
theorem oks83:jY Tryz.prog true 83 S83:=j4 (m:=true) Tryz.func83
theorem j54:jY Tryz.prog true 111 S111:=j4 (m:=true) Tryz.func111
theorem j53:jY Tryz.prog true 123 S123:=j4 (m:=true) Tryz.func123
theorem j52:jY Tryz.prog true 124 S124:=j4 (m:=true) Tryz.func124
theorem j51:jY Tryz.prog true 125 S125:=j4 (m:=true) Tryz.func125
theorem j50:jY Tryz.prog true 128 S128:=j4 (m:=true) Tryz.func128
theorem j5z:jY Tryz.prog true 129 S129:=j4 (m:=true) Tryz.func129
theorem j5y:jY Tryz.prog true 130 S130:=j4 (m:=true) Tryz.func130
theorem j5x:jY Tryz.prog true 131 S131:=j4 (m:=true) Tryz.func131
theorem j5w:jY Tryz.prog true 132 S132:=j4 (m:=true) Tryz.func132
theorem j5v:jY Tryz.prog true 133 S133:=j4 (m:=true) Tryz.func133
theorem j5u:jY Tryz.prog true 134 S134:=j4 (m:=true) Tryz.func134
theorem j5t:jY Tryz.prog true 147 S147:=j4 (m:=true) Tryz.func147
theorem j5s:jY Tryz.prog true 153 S153:=j4 (m:=true) Tryz.func153
theorem j5r:jY Tryz.prog true 154 S154:=j4 (m:=true) Tryz.func154
theorem j5q:jY Tryz.prog true 156 S156:=j4 (m:=true) Tryz.func156
theorem j5p:jY Tryz.prog true 168 S168:=j4 (m:=true) Tryz.func168
theorem j5o:jY Tryz.prog true 169 S169:=j4 (m:=true) Tryz.func169
theorem j5n:jY Tryz.prog true 171 S171:=j4 (m:=true) Tryz.func171
theorem j5m:jY Tryz.prog true 191 S191:=j4 (m:=true) Tryz.func191
theorem j5l:jY Tryz.prog true 213 S213:=j4 (m:=true) Tryz.func213
theorem j5k:jY Tryz.prog true 215 S215:=j4 (m:=true) Tryz.func215
theorem j5j:jY Tryz.prog true 231 S231:=j4 (m:=true) Tryz.func231
theorem j5i:jY Tryz.prog true 232 S232:=j4 (m:=true) Tryz.func232
theorem j5h:jY Tryz.prog true 237 S237:=j4 (m:=true) Tryz.func237
theorem j5g:jY Tryz.prog true 255 S255:=j4 (m:=true) Tryz.func255
theorem j5f:jY Tryz.prog true 270 S270:=j4 (m:=true) Tryz.func270
theorem j5e:jY Tryz.prog true 271 S271:=j4 (m:=true) Tryz.func271
theorem j5d:jY Tryz.prog true 272 S272:=j4 (m:=true) Tryz.func272
theorem j5c:jY Tryz.prog true 274 S274:=j4 (m:=true) Tryz.func274
theorem j5b:jY Tryz.prog true 291 S291:=j4 (m:=true) Tryz.func291
theorem j5a:jY Tryz.prog true 292 S292:=j4 (m:=true) Tryz.func292
theorem j49:jY Tryz.prog true 294 S294:=j4 (m:=true) Tryz.func294
theorem j48:jY Tryz.prog true 295 S295:=j4 (m:=true) Tryz.func295
theorem j47:jY Tryz.prog true 296 S296:=j4 (m:=true) Tryz.func296
theorem j46:jY Tryz.prog true 303 S303:=j4 (m:=true) Tryz.func303
theorem j45:jY Tryz.prog true 305 S305:=j4 (m:=true) Tryz.func305
theorem j44:jY Tryz.prog true 312 S312:=j4 (m:=true) Tryz.func312
theorem fsOk {f:FuncId} {af:AF} (h:fs f=some af):jY Tryz.prog true f af:=by
  unfold fs at h
  split at h
  · cases h;exact oks51
  · cases h;exact oks76
  · cases h;exact oks77
  · cases h;exact oks78
  · cases h;exact oks81
  · cases h;exact oks82
  · cases h;exact oks83
  · cases h;exact j54
  · cases h;exact j53
  · cases h;exact j52
  · cases h;exact j51
  · cases h;exact j50
  · cases h;exact j5z
  · cases h;exact j5y
  · cases h;exact j5x
  · cases h;exact j5w
  · cases h;exact j5v
  · cases h;exact j5u
  · cases h;exact j5t
  · cases h;exact j5s
  · cases h;exact j5r
  · cases h;exact j5q
  · cases h;exact j5p
  · cases h;exact j5o
  · cases h;exact j5n
  · cases h;exact j5m
  · cases h;exact j5l
  · cases h;exact j5k
  · cases h;exact j5j
  · cases h;exact j5i
  · cases h;exact j5h
  · cases h;exact j5g
  · cases h;exact j5f
  · cases h;exact j5e
  · cases h;exact j5d
  · cases h;exact j5c
  · cases h;exact j5b
  · cases h;exact j5a
  · cases h;exact j49
  · cases h;exact j48
  · cases h;exact j47
  · cases h;exact j46
  · cases h;exact j45
  · cases h;exact j44
  · cases h
theorem envOk:EnvOk Tryz.prog E:=⟨fun _ _ h=>fcOk h,fun _ _ h=>fsOk h,fun f h=>by
  have e:f=69:=by simpa [E,srl] using h
  subst e;exact jqm,fun f cs h=>by
  simp only [E] at h
  split at h
  · cases h;exact mkLaw
  · cases h⟩
end Go.Pv.T
namespace Go.Pv.T
open Go Go.Pv Go.Proofs Go.ChangeShapes Go.WideShapes Go.ChangeAt Go.RowKit Go.Proofs.YtphecmnehkdihaaGreatDoor
theorem own:ownKnob Tryz.prog.godebug=none:=by kernel_rfl
theorem jsr:laidOutB Tryz.prog=true:=by kernel_rfl
theorem mixed:Tryz.prog.follows .mixedOrders=true:=by kernel_rfl
def jo0:List (String × DataW Unit):=[("math/bits.deBruijn64tab",Rows.laid_math_bits_deBruijn64tab),("unicode/utf8.acceptRanges",Rows.laid_unicode_utf8_acceptRanges),("deemster/event.words",Rows.laid_deemster_event_words),("unicode/utf8.first",Rows.laid_unicode_utf8_first)]
def jsn:V→Value
  | .int k n=>.int k n
  | .str s=>.string ⟨s.toArray⟩
  | _=>.nilFunc
def putCells (h:Array Obj) (g:Nat) (cs:Array Value):Array Obj:=h.modify g fun
    | .cells _ t frozen=>.cells cs t frozen
    | o=>o
def jly:Array Value:=#[.int .u8 128,.int .u8 191,.int .u8 160,.int .u8 191,.int .u8 128,.int .u8 159,.int .u8 144,.int .u8 191,.int .u8 128,.int .u8 143,.int .u8 0,.int .u8 0,.int .u8 0,.int .u8 0,.int .u8 0,.int .u8 0,.int .u8 0,.int .u8 0,.int .u8 0,.int .u8 0,.int .u8 0,.int .u8 0,.int .u8 0,.int .u8 0,.int .u8 0,.int .u8 0,.int .u8 0,.int .u8 0,.int .u8 0,.int .u8 0,.int .u8 0,.int .u8 0]
noncomputable def laidWorld (os:Os):World :=
  let w0:=World.holding Tryz.prog os ⟨#[],#[],[]⟩
  { w0 with heap:=putCells (putCells (putCells (putCells w0.heap 0 (bruij.map jsn).toArray) 1 (words.map jsn).toArray) 2 (utf8first.map jsn).toArray) 3 jly }
theorem jxy (os:Os) (args:Array Value):laidMetH Tryz.prog jo0 ((laidWorld os).forCall (fun _ _=>0) ⟨#[],args,[]⟩).memory:=by
  rw [MakeChecks.laidMetH_plain _ _ _ (by kernel_rfl)]
  exact laidMet_of_run' 8 (by kernel_rfl) (by kernel_rfl)
theorem gWords:Tryz.prog.globalNamed "deemster/event.words" = some 1:=by kernel_rfl
theorem gFirst:Tryz.prog.globalNamed "unicode/utf8.first" = some 2:=by kernel_rfl
theorem gBruij:Tryz.prog.globalNamed "math/bits.deBruijn64tab" = some 0:=by kernel_rfl
theorem tBruij:(Tryz.prog.globals[0]?).map (·.type)=some 281:=by kernel_rfl
theorem tWords:(Tryz.prog.globals[1]?).map (·.type)=some 300:=by kernel_rfl
theorem tFirst:(Tryz.prog.globals[2]?).map (·.type)=some 319:=by kernel_rfl
def Xv (W:World):IMap:=fun b o=>W.cell? ⟨b,o,none⟩
theorem jt1 (W:World):jjx (Xv W) W:=fun _ _ _ h=>h
def jj0:DataW Unit→V
  | .lit (.int k n)=>.int k n
  | .lit (.string s)=>.str s
  | _=>.undef
theorem jlq     {W:World} {t e:TypeId} {n fuel:Nat} {cs:List Value} {ds:List (DataW Unit)} {p:List MemPlace} (ht:Tryz.prog.underlying t=some (.array n e)) (hc:Tryz.prog.cellsOf e=1)
    (he:Tryz.prog.underlying e=some .string∨∃ k,Tryz.prog.underlying e=some (.int k)) (h:DataW.trod (fun _=>()) Tryz.prog W 0 (fun _=>true) false fuel t cs=some (.agg ds,p)) (I:IMap) :
    ∀ (j:Nat) (d:DataW Unit),ds[j]? = some d→∃ x,cs[j]? = some x∧RepP I x (jj0 d):=by
  obtain ⟨xs,m,rfl,hx,hlen,hn,hel⟩:=DataW.trod_array ht h
  intro j d hd
  simp only [Prod.mk.injEq,DataW.agg.injEq] at hx
  rw [hx.1,List.getElem?_map] at hd
  cases hy:xs[j]? with
  | none=>simp [hy] at hd
  | some y =>
    rw [hy] at hd
    simp only [Option.map_some,Option.some.injEq] at hd
    have hj:j<n:=by rw [← hn];exact (List.getElem?_eq_some_iff.1 hy).1
    have:=hel j hj
    rw [hc,Nat.mul_one,hy] at this
    have one:∀ c,(cs.drop j).take 1=[c]→cs[j]? = some c:=by
      intro c hcc
      have:=congrArg List.head? hcc
      simpa [List.head?_take,List.head?_drop] using this
    rcases he with he | ⟨k,he⟩
    · obtain ⟨s,e1,e2,_⟩:=DataW.trod_string he this
      refine ⟨_,one _ e1,?_⟩
      rw [← hd,e2]
      exact RepP.str s
    · obtain ⟨s,e1,e2,_⟩:=DataW.trod_int he this
      refine ⟨_,one _ e1,?_⟩
      rw [← hd,e2]
      exact RepP.int k s
theorem jne    {W:World} {nm:String} {g:Nat} {cs:Array Value} {ds:List (DataW Unit)} (hg:Tryz.prog.globalNamed nm=some g) (hv:W.var? Tryz.prog nm=some cs) (hp:(ds.map jj0 ).all V.pureLeaf=true)
    (h:∀ (j:Nat) (d:DataW Unit),ds[j]? = some d→∃ x,cs.toList[j]? = some x∧RepP (Xv W) x (jj0 d)):RepP (Xv W) (.pointer (some ⟨g,0,none⟩)) (.eptr (ds.map jj0) 0):=by
  have hc:=World.var?_cell hg hv
  refine RepP.eptr g 0 0 (ds.map jj0) (fun j=>(cs[j]?).getD .nilFunc) (fun j hj=>?_) (fun j v hj=>?_) (fun j v hj=>?_)
  · rw [List.length_map] at hj
    obtain ⟨x,hx,_⟩:=h j ds[j] (List.getElem?_eq_getElem hj)
    have hx':cs[j]? = some x:=by simpa using hx
    show W.cell? ⟨g,0+j,none⟩=_
    rw [Nat.zero_add,hc j,hx']
    rfl
  · exact List.all_eq_true.1 hp v (List.mem_of_getElem? hj)
  · rw [List.getElem?_map] at hj
    cases hd:ds[j]? with
    | none=>rw [hd] at hj;cases hj
    | some d =>
      rw [hd] at hj
      cases hj
      obtain ⟨x,hx,hr⟩:=h j d hd
      have hx':cs[j]? = some x:=by simpa using hx
      rw [hx']
      exact hr
def aggOf:DataW Unit→List (DataW Unit)
  | .agg l=>l
  | _=>[]
theorem ju0:(aggOf Rows.laid_deemster_event_words).map jj0=words:=by kernel_rfl
theorem jx3:(aggOf Rows.laid_math_bits_deBruijn64tab).map jj0=bruij:=by kernel_rfl
theorem jt5:Rows.laid_math_bits_deBruijn64tab = .agg (aggOf Rows.laid_math_bits_deBruijn64tab):=by kernel_rfl
theorem jpo:((aggOf Rows.laid_math_bits_deBruijn64tab).map jj0).all V.pureLeaf=true:=by kernel_rfl
theorem jxn:(aggOf Rows.laid_unicode_utf8_first).map jj0=utf8first:=by kernel_rfl
theorem jtp:Rows.laid_unicode_utf8_first = .agg (aggOf Rows.laid_unicode_utf8_first):=by kernel_rfl
theorem jn2:((aggOf Rows.laid_deemster_event_words).map jj0).all V.pureLeaf=true:=by kernel_rfl
theorem jpe:((aggOf Rows.laid_unicode_utf8_first).map jj0).all V.pureLeaf=true:=by kernel_rfl
theorem jjr       {H:Type} {enc:TypeId × Value→H} {W W':World} (hb:Below W.heap.size W W'):∀ {ts:List TypeId} {vs:List Value} {ds:List (DataW H)} {ps:List MemPlace},
    (∀ t∈ts,Tryz.prog.readableRec t=true∧t<Tryz.prog.types.size)→(∀ x∈ps,x.block<W.heap.size) →
    DataW.TrodAll enc Tryz.prog W 0 (fun _=>true) true ts vs ds ps→DataW.TrodAll enc Tryz.prog W' 0 (fun b=>decide (b<W.heap.size)) true ts vs ds ps
  | [],[],[],_,_,_,h=>h
  | t::ts,v::vs,d::ds,_,ht,hlt,⟨p,q,h1,h2,e⟩=>by
    subst e
    exact ⟨p,q,Below.trod jsr (ht t (List.mem_cons_self ..)).1 (ht t (List.mem_cons_self ..)).2 h1 hb (fun x hx=>hlt x (List.mem_append_left _ hx)),
      jjr hb (fun t' h'=>ht t' (List.mem_cons_of_mem _ h')) (fun x hx=>hlt x (List.mem_append_right _ hx)) h2,rfl⟩
  | [],_::_,_,_,_,_,h=>h.elim
  | [],[],_::_,_,_,_,h=>h.elim
  | _::_,[],_,_,_,_,h=>h.elim
  | _::_,_::_,[],_,_,_,h=>h.elim
theorem jq9       {H:Type} {enc:TypeId × Value→H} {fn:Func} {s:ChangeSpec} {W W':World} {args:Array Value} {ds gs:List (DataW H)} {before:List MemPlace} (hW:DataW.Whole enc Tryz.prog fn.params.toList s.vars false W args.toList ds gs before)
    (hv:s.vars=[]) (hr:fn.resultTypes = #[4]) (hs:(s.fn H ds).results=[.lit (.bool true)]) (ha:(s.fn H ds).args=ds) (hvs:(s.fn H ds).vars=[])
    (ht:∀ t∈fn.params.toList,Tryz.prog.readableRec t=true∧t<Tryz.prog.types.size) (hg:W.grownBy W' none):s.post enc Tryz.prog fn false true false false W args (.bool true) W':=by
  have hb:Below W.heap.size W W':=(Below.refl _ W).grown hg (Nat.le_refl _) (fun _ h=>by cases h)
  have hW':=hW
  obtain ⟨p,q,hA,hV,rfl,_,_⟩:=hW
  rw [hv] at hV
  obtain ⟨rfl,rfl⟩:=trodVars_none hV
  have hlt:∀ x∈p,x.block<W.heap.size:=fun x hx=>by simpa using hW'.lt x (List.mem_append_left _ hx)
  refine ⟨ds,[],_,[],p,[],hW',?_,?_,?_,hb.frame _,fun h=>by cases h⟩
  · rw [List.append_nil,hs,hr]
    exact trodAll_mk1 (shut_bool Tryz.underlying4 _)
  · rw [List.append_nil,ha]
    exact jjr hb ht hlt hA
  · rw [List.append_nil,hvs,hv]
    rfl
end Go.Pv.T
namespace Go.Pv.T
open Go Go.Pv Go.Proofs Go.ChangeShapes Go.WideShapes Go.ChangeAt Go.RowKit
inductive Ty where
 | bool
 | int (k:IntKind)
 | str
 | unit
 | pair (a b:Ty)
 | slice (t:Ty)
def Ty.cells:Ty→Nat
 | .unit=>0
 | .pair a b=>a.cells+b.cells
 | _=>1
inductive Sh:Ty→List V→Prop where
 | bool (b:Bool):Sh .bool [.bool b]
 | int (k:IntKind) (n:Int):Sh (.int k) [.int k n]
 | str (s:List UInt8):Sh .str [.str s]
 | unit:Sh .unit []
 | pair {a b:Ty} {va vb:List V} (ha:Sh a va) (hb:Sh b vb):Sh (.pair a b) (va++vb)
 | nil {t:Ty}:Sh (.slice t) [.sl none true 0 []]
 | slice {t:Ty} (es:List (List V)) (hn:es.length≤maxLen) (h:∀ e∈es,Sh t e):Sh (.slice t) [.sl none false es.length es.flatten]
def WQ (P:Program) (g:TypeId→Option Ty):List Field→Nat→Option Ty
 | [],_=>some .unit
 | f::r,off=>if f.offset=off then (g f.type).bind fun a=>if P.cellsOf f.type=a.cells then (WQ P g r (off+a.cells)).map (.pair a) else none else none
def jye (P:Program):Nat→TypeId→Option Ty
 | 0,_=>none
 | n+1,t=>match P.underlying t with
  | some .bool=>some .bool
  | some (.int k)=>some (.int k)
  | some .string=>some .str
  | some (.slice e)=>(jye P n e).bind fun ty=>if P.cellsOf e=ty.cells then some (.slice ty) else none
  | some (.struct fs)=>(WQ P (jye P n) fs.toList 0).bind fun ty=>if P.cellsOf t=ty.cells then some ty else none
  | _=>none
theorem Sh.len {t:Ty} {vs:List V} (h:Sh t vs):vs.length=t.cells:=by
 induction h with
 | pair _ _ iha ihb=>simp [Ty.cells,iha,ihb]
 | _=>rfl
theorem Sh.pure {t:Ty} {vs:List V} (h:Sh t vs):∀ v∈vs,v.pureLeaf=true:=by
 induction h with
 | pair _ _ iha ihb=>intro v hv;rcases List.mem_append.1 hv with h | h;exact iha v h;exact ihb v h
 | unit=>intro v hv;cases hv
 | _=>intro v hv;rw [List.mem_singleton] at hv;subst hv;rfl
def Reps (I:IMap) (cs:List Value) (vs:List V):Prop:=cs.length=vs.length∧∀ (j:Nat) (x:Value) (v:V),cs[j]? = some x→vs[j]? = some v→RepP I x v
theorem Reps.one {I:IMap} {x:Value} {v:V} (h:RepP I x v):Reps I [x] [v] :=
 ⟨rfl,fun j y u hj hu=>by
  match j,hj,hu with
  | 0,hj,hu=>cases hj;cases hu;exact h
  | j+1,hj,_=>simp at hj⟩
theorem jhd {α:Type} {sz:Nat} (hs:0<sz):∀ (es:List (List α)),(∀ e∈es,e.length=sz)→∀ j,es.flatten[j]? = (es[j / sz]?).bind fun e=>e[j % sz]?
 | [],_,j=>by simp
 | e::es,h,j=>by
  have he:=h e (List.mem_cons_self ..)
  rw [List.flatten_cons,List.getElem?_append,he]
  split
  ·rename_i hlt
   rw [Nat.div_eq_of_lt hlt,Nat.mod_eq_of_lt hlt]
   rfl
  ·rename_i hge
   have hj:j=(j - sz)+sz:=by omega
   rw [jhd hs es (fun e he=>h e (List.mem_cons_of_mem _ he)) (j - sz)]
   conv=>rhs;rw [hj,Nat.add_div_right _ hs,Nat.add_mod_right]
   rfl
theorem jnj {α:Type} {sz:Nat}:∀ (es:List (List α)),(∀ e∈es,e.length=sz)→es.flatten.length=es.length * sz
 | [],_=>by simp
 | e::es,h=>by
  rw [List.flatten_cons,List.length_append,h e (List.mem_cons_self ..),jnj es (fun e he=>h e (List.mem_cons_of_mem _ he)),List.length_cons,Nat.succ_mul]
  omega
section
variable {H:Type} {enc:TypeId × Value→H} {W:World} {P:Program}
theorem jih {α:Type} {p:Nat→α→Prop}:∀ (n:Nat),(∀ i,i<n→∃ a,p i a)→∃ l:List α,l.length=n∧∀ i a,l[i]? = some a→p i a
 | 0,_=>⟨[],rfl,fun i a h=>by simp at h⟩
 | n+1,h=>by
  obtain ⟨l,h1,h2⟩:=jih n (fun i hi=>h i (by omega))
  obtain ⟨a,ha⟩:=h n (by omega)
  refine ⟨l++[a],by simp [h1],fun i b hb=>?_⟩
  rw [List.getElem?_append] at hb
  split at hb
  ·exact h2 i b hb
  ·rename_i hge
   have:i=n:=by
    have:=(List.getElem?_eq_some_iff.1 hb).1
    simp at this
    omega
   subst this
   simp [h1] at hb
   subst hb
   exact ha
theorem jf9 {g:TypeId→Option Ty} {n:Nat} {cs:List Value} (ih:∀ t ty,g t=some ty→∀ cs x,DataW.trod enc P W 0 (fun _=>true) true n t cs=some x→∃ vs,Sh ty vs∧Reps (Xv W) cs vs) :
 ∀ (fs:List Field) (off:Nat) (ty:Ty),WQ P g fs off=some ty→(∀ f∈fs,∃ x,DataW.trod enc P W 0 (fun _=>true) true n f.type ((cs.drop f.offset).take (P.cellsOf f.type))=some x)→cs.length=off+ty.cells →
  ∃ vs,Sh ty vs∧Reps (Xv W) (cs.drop off) vs
 | [],off,ty,h,_,hl=>by
  simp only [WQ,Option.some.injEq] at h
  subst h
  simp only [Ty.cells,Nat.add_zero] at hl
  exact ⟨[],.unit,by simp [hl],fun j x v _ hv=>by simp at hv⟩
 | f::r,off,ty,h,hx,hl=>by
  simp only [WQ] at h
  split at h
  ·rename_i hoff
   cases hg:g f.type with
   | none=>rw [hg] at h;cases h
   | some a =>
    rw [hg,Option.bind_some] at h
    split at h
    ·rename_i hc
     cases hr:WQ P g r (off+a.cells) with
     | none=>rw [hr] at h;cases h
     | some b =>
      rw [hr] at h
      cases h
      simp only [Ty.cells] at hl
      obtain ⟨x,hx0⟩:=hx f (List.mem_cons_self ..)
      obtain ⟨va,ha,hra⟩:=ih f.type a hg _ _ hx0
      obtain ⟨vb,hb,hrb⟩:=jf9 ih r (off+a.cells) b hr (fun f' hf=>hx f' (List.mem_cons_of_mem _ hf)) (by omega)
      refine ⟨va++vb,.pair ha hb,?_,fun j y u hj hu=>?_⟩
      ·have:=ha.len;have:=hb.len
       simp only [List.length_drop,List.length_append]
       omega
      ·rw [hoff,hc] at hra
       rw [List.getElem?_append] at hu
       rw [ha.len] at hu
       rw [List.getElem?_drop] at hj
       split at hu
       ·rename_i hlt
        exact hra.2 j y u (by rw [List.getElem?_take,if_pos hlt,List.getElem?_drop];exact hj) hu
       ·rename_i hge
        exact hrb.2 (j - a.cells) y u (by rw [List.getElem?_drop,show off+a.cells+(j - a.cells)=off+j from by omega];exact hj) hu
    ·cases h
  ·cases h
theorem jmi:∀ (n:Nat) (t:TypeId) (ty:Ty),jye P n t=some ty→∀ (fuel:Nat) (cs:List Value) (x:DataW H × List MemPlace),DataW.trod enc P W 0 (fun _=>true) true fuel t cs=some x→∃ vs,Sh ty vs∧Reps (Xv W) cs vs
 | 0,_,_,h,_,_,_,_=>by cases h
 | n+1,t,ty,h,fuel,cs,x,hx=>by
  simp only [jye] at h
  split at h
  ·rename_i ht
   cases h
   obtain ⟨b,rfl,_⟩:=DataW.trod_bool ht hx
   exact ⟨_,.bool b,Reps.one (.bool b)⟩
  ·rename_i k ht
   cases h
   obtain ⟨b,rfl,_⟩:=DataW.trod_int ht hx
   exact ⟨_,.int k b,Reps.one (.int k b)⟩
  ·rename_i ht
   cases h
   obtain ⟨s,rfl,_⟩:=DataW.trod_string ht hx
   exact ⟨_,.str s.data.toList,Reps.one (.str s)⟩
  ·rename_i e ht
   cases he:jye P n e with
   | none=>rw [he] at h;cases h
   | some te =>
    rw [he,Option.bind_some] at h
    split at h
    ·rename_i hc
     cases h
     rcases DataW.trod_slice ht hx with ⟨rfl,_⟩ | ⟨a,len,cap,elems,rest,m,_,rfl,_,_,hl,hm,hlen,hel,_,_⟩
     ·exact ⟨_,.nil,Reps.one .slnil⟩
     ·have each:∀ i,i<len→∃ vs,Sh te vs∧∃ c,W.cells? 0 (a.add (i * te.cells)) te.cells=some c∧Reps (Xv W) c vs:=by
       intro i hi
       have h1:=hel i hi
       rw [List.getElem?_eq_getElem (by omega),hc] at h1
       obtain ⟨c,hc1,hc2⟩:=Option.bind_eq_some_iff.1 h1
       obtain ⟨vs,h3,h4⟩:=jmi n e te he m c _ hc2
       exact ⟨vs,h3,c,hc1,h4⟩
      obtain ⟨es,h1,h2⟩:=jih len each
      have hsh:∀ e∈es,Sh te e:=fun e he=>by
       obtain ⟨i,hi⟩:=List.getElem?_of_mem he
       exact (h2 i e hi).1
      have hsz:∀ e∈es,e.length=te.cells:=fun e he=>(hsh e he).len
      have key:∀ (j:Nat) (v:V),es.flatten[j]? = some v→0<te.cells∧j / te.cells<len∧∃ y,W.cell? ((a.add (j / te.cells * te.cells)).add (j % te.cells))=some y∧RepP (Xv W) y v∧v.pureLeaf=true:=by
       intro j v hj
       have h0:0<te.cells:=by
        rcases Nat.eq_zero_or_pos te.cells with h | h
        ·have:=jnj es hsz
         rw [h,Nat.mul_zero] at this
         rw [List.length_eq_zero_iff.1 this] at hj
         simp at hj
        ·exact h
       rw [jhd h0 es hsz] at hj
       cases hee:es[j / te.cells]? with
       | none=>rw [hee] at hj;cases hj
       | some e =>
        rw [hee,Option.bind_some] at hj
        have hlt:j / te.cells<len:=by rw [← h1];exact (List.getElem?_eq_some_iff.1 hee).1
        obtain ⟨hse,c,hcc,hrr⟩:=h2 _ e hee
        have hme:=Nat.mod_lt j h0
        have hcell:=(World.cells?_some hcc).2.2 _ hme
        have hclen:c.length=te.cells:=by rw [hrr.1,hse.len]
        rw [List.getElem?_eq_getElem (by omega)] at hcell
        exact ⟨h0,hlt,_,hcell,hrr.2 _ _ v (List.getElem?_eq_getElem (by omega)) hj,hse.pure v (List.mem_of_getElem? hj)⟩
      have spot:es.flatten≠[]→a.spot=none:=by
       intro hne
       obtain ⟨v,hv⟩:∃ v,es.flatten[0]? = some v:=by
        cases hf:es.flatten with
        | nil=>exact absurd hf hne
        | cons v l=>exact ⟨v,rfl⟩
       obtain ⟨h0,_,y,hy,_⟩:=key 0 v hv
       rw [Nat.zero_div,Nat.zero_mod,Nat.zero_mul] at hy
       simpa [Addr.add] using World.cell?_spot hy
      have cellAt:∀ (j:Nat) (v:V),es.flatten[j]? = some v→∃ y,W.cell? ⟨a.block,a.off+j,none⟩=some y∧RepP (Xv W) y v:=by
       intro j v hj
       obtain ⟨h0,_,y,hy,hr,_⟩:=key j v hj
       have hs:=spot (fun h=>by rw [h] at hj;simp at hj)
       obtain ⟨b,off,sp⟩:=a
       simp only at hs
       subst hs
       rw [add_plain,add_plain] at hy
       refine ⟨y,?_,hr⟩
       rw [← hy,Nat.add_assoc,Nat.div_add_mod']
      rw [← h1] at hl
      refine ⟨_,.slice es (Nat.le_trans hl hm) hsh,Reps.one ?_⟩
      rw [h1] at hl ⊢
      refine RepP.sl a len cap es.flatten (fun j=>(W.cell? ⟨a.block,a.off+j,none⟩).getD .nilFunc) spot hl hm (fun j hj=>?_) (fun j v hj=>?_) (fun j v hj=>?_)
      ·obtain ⟨y,hy,_⟩:=cellAt j _ (List.getElem?_eq_getElem hj)
       show W.cell? _=some ((W.cell? _).getD _)
       rw [hy]
       rfl
      ·exact (key j v hj).2.2.choose_spec.2.2
      ·obtain ⟨y,hy,hr⟩:=cellAt j v hj
       show RepP _ ((W.cell? _).getD _) v
       rw [hy]
       exact hr
    ·cases h
  ·rename_i fs ht
   cases hf:WQ P (jye P n) fs.toList 0 with
   | none=>rw [hf] at h;cases h
   | some b =>
    rw [hf,Option.bind_some] at h
    split at h
    ·rename_i hc
     cases h
     obtain ⟨xs,m,rfl,_,hl,hn,hel⟩:=DataW.trod_struct ht hx
     have:=jf9 (n:=m) (cs:=cs) (fun t ty h cs x hx=>jmi n t ty h m cs x hx) fs.toList 0 ty hf (fun f hfm=>by
      obtain ⟨i,hi⟩:=List.getElem?_of_mem hfm
      have hi':fs[i]? = some f:=by simpa using hi
      have h1:=hel i f hi'
      have hlt:i<xs.length:=by rw [hn];exact (Array.getElem?_eq_some_iff.1 hi').1
      rw [List.getElem?_eq_getElem hlt] at h1
      exact ⟨_,h1⟩) (by rw [Nat.zero_add,hl,hc])
     simpa using this
    ·cases h
  ·cases h
end
end Go.Pv.T
