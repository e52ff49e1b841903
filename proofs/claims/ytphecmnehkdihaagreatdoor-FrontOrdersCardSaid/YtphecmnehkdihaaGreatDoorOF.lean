/- The walker: how it lies in memory; does a transaction leave something of a key, does it stand behind? -/
import Derived.Test.YtphecmnehkdihaaGreatDoorOE
import Derived.Shelf.Sort.Plain
import Derived.Shelf.Slices.In.SortNone
import Derived.Test.YtphecmnehkdihaaGreatDoorRows
import Derived.WalkKit
set_option maxRecDepth 100000
namespace Go.Pv.T
open Go Go.Pv
def rdC (r:Int × Int × Int):List V:=[.int .i64 r.1,.int .i64 r.2.1,.int .i64 r.2.2]
theorem jk2 (r:Int × Int × Int):(rdC r).length=3:=rfl
structure WN where
 kW:Nat
 uW:Nat
 kR:Nat
 uR:Nat
 kA:Nat
 uA:Nat
 kL:Nat
 uL:Nat
 kS:Nat
 uS:Nat
 kP:Nat
 uP:Nat
def wC (g:Hist') (lvl:Int) (N:WN):List V:=[.int .i64 lvl,jN g.sn JL g.ss,jN g.kn JL g.ks,jN g.tn jl g.ts,.map N.kR N.uR,.map N.kA N.uA,.map N.kL N.uL,.map N.kS N.uS,.map N.kP N.uP]
structure Fix (N:WN) (ub key:Nat):Prop where
 a:key≠N.kA
 l:key≠N.kL
 s:key≠N.kS
 p:key≠N.kP
 f:Off ub key
 o:key % 2=1
def RowV (N:WN) (ob:ZO) (ub:Nat) (v:V) (rs:List (Int × Int × Int)):Prop :=
 (v=.sl none true 0 []∧rs=[])∨∃l u,v=.osl l u 0 rs.length 3∧ob l=some ⟨u,.cells (rs.flatMap rdC)⟩∧Fix N ub l
def InM (N:WN) (ob:ZO) (ub:Nat) (v:V) (L:List Int):Prop :=
 (v=.nilmap∧L=[])∨∃l u ver m,v=.map l u∧ob l=some ⟨u,.mp ver (MP jbl m)⟩∧(∀a,a∈m.map (·.1) ↔ a∈L)∧Fix N ub l
def mapV (p:Nat × Nat):V:=.map p.1 p.2
def rowV (p:Nat × Nat × Nat):V:=.osl p.1 p.2.1 0 p.2.2 3
structure Wk (g:Hist') (lvl:Int) (M:List Int) (N:WN) (A L S:List (Int × Int)) (P:Int→List Int) (ob:ZO) (ub:Nat):Prop where
 w:ob N.kW=some ⟨N.uW,.cells (wC g lvl N)⟩
 r:∃ver mr,ob N.kR=some ⟨N.uR,.mp ver (MP rowV mr)⟩∧∀t,RowV N ob ub (((jg mr t).map fun p=>rowV p.2).getD (.sl none true 0 [])) (rdsT g M t)
 a:∃ver,ob N.kA=some ⟨N.uA,.mp ver (MP jbl A)⟩
 l:∃ver,ob N.kL=some ⟨N.uL,.mp ver (MP jbl L)⟩
 s:∃ver,ob N.kS=some ⟨N.uS,.mp ver (MP jbl S)⟩
 p:∃ver mp,ob N.kP=some ⟨N.uP,.mp ver (MP mapV mp)⟩∧∀t,InM N ob ub (((jg mp t).map fun p=>mapV p.2).getD .nilmap) (P t)
 fw:Fix N ub N.kW
 fr:Fix N ub N.kR
 fa:Off ub N.kA
 fl:Off ub N.kL
 fs:Off ub N.kS
 fp:Off ub N.kP
 odd:N.kA % 2=1∧N.kL % 2=1∧N.kS % 2=1∧N.kP % 2=1
 ne:N.kA≠N.kL∧N.kA≠N.kS∧N.kA≠N.kP∧N.kL≠N.kS∧N.kL≠N.kP∧N.kS≠N.kP
section
variable {g:Hist'}{lvl:Int}{M:List Int}{N:WN}{A L S:List (Int × Int)}{P:Int→List Int}{ob ob':ZO}{ub ub':Nat}
theorem Fix.up {key:Nat}(h:Fix N ub key) (hu:ub≤ub'):Fix N ub' key:=⟨h.a,h.l,h.s,h.p,h.f.up hu,h.o⟩
theorem RowV.keep {v:V}{rs:List (Int × Int × Int)}(h:RowV N ob ub v rs) (hw:∀key,Fix N ub key→ob' key=ob key) (hu:ub≤ub'):RowV N ob' ub' v rs:=by
 rcases h with h|⟨l,u,h1,h2,h3⟩
 ·exact .inl h
 ·exact .inr ⟨l,u,h1,(hw _ h3).trans h2,h3.up hu⟩
theorem InM.keep {v:V}{l:List Int}(h:InM N ob ub v l) (hw:∀key,Fix N ub key→ob' key=ob key) (hu:ub≤ub'):InM N ob' ub' v l:=by
 rcases h with h|⟨l,u,ver,m,h1,h2,h3,h4⟩
 ·exact .inl h
 ·exact .inr ⟨l,u,ver,m,h1,(hw _ h4).trans h2,h3,h4.up hu⟩
theorem Wk.keep (h:Wk g lvl M N A L S P ob ub) (hw:∀key,Off ub key→key % 2=1→ob' key=ob key) (hu:ub≤ub'):Wk g lvl M N A L S P ob' ub':=by
 have hf:∀key,Fix N ub key→ob' key=ob key:=fun key hk=>hw key hk.f hk.o
 obtain⟨o1,o2,o3,o4⟩:=h.odd
 obtain⟨rv,mr,r1,r2⟩:=h.r
 obtain⟨av,a1⟩:=h.a
 obtain⟨lv,l1⟩:=h.l
 obtain⟨sv,s1⟩:=h.s
 obtain⟨pv,mp,p1,p2⟩:=h.p
 exact⟨(hf _ h.fw).trans h.w,⟨rv,mr,(hf _ h.fr).trans r1,fun t=>(r2 t).keep hf hu⟩,⟨av,(hw _ h.fa o1).trans a1⟩,⟨lv,(hw _ h.fl o2).trans l1⟩,⟨sv,(hw _ h.fs o3).trans s1⟩,
  ⟨pv,mp,(hw _ h.fp o4).trans p1,fun t=>(p2 t).keep hf hu⟩,h.fw.up hu,h.fr.up hu,h.fa.up hu,h.fl.up hu,h.fs.up hu,h.fp.up hu,h.odd,h.ne⟩
theorem Wk.at (h:Wk g lvl M N A L S P ob ub) {ob':ZO}(e:ob' N.kA=ob N.kA) (t:Int):Xe ob' .int (.int .i64 0) false (.map N.kA N.uA) (.int .i64 t)=some (.int .i64 (XE A t)):=by
 obtain⟨ver,h1⟩:=h.a
 exact QS A (by simp[jR,e,h1])
theorem Off.ne {key:Nat}(h:Off ub key):∀m,ub≤m→¬ key=2*m+1:=h
end
end Go.Pv.T
namespace Go.Pv.T
abbrev R3:Type:=Option (List Nat) × Bool × List Nat
def loopM (rec:Nat→List Nat→List Nat→R3) (nx:Nat→Nat→Bool) (w:Nat) (done:List Nat):List Nat→List Nat→R3
 | [],vis=>(none,false,vis)
 | t::r,vis=>if w.testBit t || (!nx w t || vis.contains (w ||| 1 <<< t)) then loopM rec nx w done r vis else
  match rec (w ||| 1 <<< t) (done++[t]) vis with
  | (none,false,v)=>loopM rec nx w done r v
  | x=>x
def onM (nx:Nat→Nat→Bool) (C:List Nat) (most:Int):Nat→Nat→List Nat→List Nat→R3
 | 0,w,done,vis=>if (vis.length:Int)=most then (none,true,vis) else (some done,false,vis++[w])
 | n+1,w,done,vis=>if (vis.length:Int)=most then (none,true,vis) else loopM (onM nx C most n) nx w done C (vis++[w])
theorem jfb (w t a:Nat):(w ||| 1 <<< t).testBit a=(w.testBit a || decide (t=a)):=by
 rw[Nat.testBit_or,Nat.one_shiftLeft,Nat.testBit_two_pow]
def cnt (C:List Nat) (w:Nat):Nat:=(C.filter fun t=>w.testBit t).length
theorem joh {w t:Nat}:∀ {C:List Nat},C.Nodup→t∈C→w.testBit t=false→cnt C (w ||| 1 <<< t)=cnt C w+1
 | [],_,h,_=>by cases h
 | c::C,hn,h,hw=>by
  rw[List.nodup_cons]at hn
  unfold cnt
  rw[List.filter_cons,List.filter_cons]
  by_cases e:t=c
  ·subst e
   have:(C.filter fun a=>(w ||| 1 <<< t).testBit a)=C.filter fun a=>w.testBit a:=by
    refine List.filter_congr fun a ha=>?_
    have:t≠a:=fun e=>hn.1 (e▸ha)
    rw[jfb];simp[this]
   rw[this,jfb]
   simp[hw]
  ·have h':t∈C:=by
    rcases List.mem_cons.1 h with h|h
    ·exact absurd h e
    ·exact h
   have ih:=joh hn.2 h' hw
   unfold cnt at ih
   rw[jfb]
   simp only[e,decide_false,Bool.or_false]
   split
   ·simp only[List.length_cons,ih]
   ·exact ih
def jpb (nx:Nat→Nat→Bool):Nat→List Nat→Bool
 | _,[]=>true
 | w,t::r=>!w.testBit t && (nx w t && jpb nx (w ||| 1 <<< t) r)
def Full (nx:Nat→Nat→Bool) (C:List Nat) (w:Nat) (L:List Nat):Prop:=(∀t∈L,t∈C)∧cnt C w+L.length=C.length∧jpb nx w L=true
def j0l (nx:Nat→Nat→Bool) (C:List Nat) (w:Nat):Prop:=∀L,¬ Full nx C w L
def j2g:List Nat→List Nat→Bool
 | a::l,b::m=>if a=b then j2g l m else decide (a<b)
 | _,_=>false
section
variable {nx:Nat→Nat→Bool}{C:List Nat}{most:Int}
theorem Full.cons {w t:Nat}{L:List Nat}(hn:C.Nodup) (h:Full nx C w (t::L)):t∈C∧w.testBit t=false∧nx w t=true∧Full nx C (w ||| 1 <<< t) L:=by
 obtain⟨h1,h2,h3⟩:=h
 simp only[jpb,Bool.and_eq_true,Bool.not_eq_true']at h3
 have ht:=h1 t (List.mem_cons_self ..)
 refine⟨ht,h3.1,h3.2.1,fun a ha=>h1 a (List.mem_cons_of_mem _ ha),?_,h3.2.2⟩
 rw[joh hn ht h3.1]
 simp only[List.length_cons]at h2
 omega
structure Found (nx:Nat→Nat→Bool) (C:List Nat) (w:Nat) (done vis:List Nat) (r:R3):Prop where
 sub:∀v∈vis,v∈r.2.2
 no:r.1=none→r.2.1=false→j0l nx C w∧∀v∈r.2.2,v∈vis∨j0l nx C v
 yes:∀l,r.1=some l→r.2.1=false∧∃L,l=done++L∧Full nx C w L∧∀L',Full nx C w L'→j2g L' L=false
theorem jb2 {n:Nat}(hn:C.Nodup) (hC:C.Pairwise (· < ·)) {w:Nat}{done:List Nat}(hw:cnt C w+(n+1)=C.length) {vis0:List Nat}
 (ih:∀w done vis,cnt C w+n=C.length→(∀v∈vis,j0l nx C v∨cnt C v<cnt C w)→Found nx C w done vis (onM nx C most n w done vis)) :
 ∀ (r pre vis:List Nat),C=pre++r→(∀v∈vis0,v∈vis)→(∀v∈vis,j0l nx C v∨cnt C v≤cnt C w)→(∀v∈vis,v∈vis0∨v=w∨j0l nx C v)→(∀t∈pre,w.testBit t=false→nx w t=true→j0l nx C (w ||| 1 <<< t)) →
  Found nx C w done vis0 (loopM (onM nx C most n) nx w done r vis)
 | [],pre,vis,e,h0,h1,h2,h3=>by
  have hd:j0l nx C w:=fun L hL=>by
   cases L with
   | nil=>
    have:=hL.2.1
    simp at this
    omega
   | cons t L=>
    obtain⟨a,b,c,d⟩:=hL.cons hn
    rw[e,List.append_nil]at a
    exact h3 t a b c L d
  refine⟨h0,fun _ _=>⟨hd,fun v hv=>?_⟩,fun l h=>by cases h⟩
  rcases h2 v hv with h|h|h
  ·exact .inl h
  ·exact .inr (h▸hd)
  ·exact .inr h
 | t::r,pre,vis,e,h0,h1,h2,h3=>by
  have ht:t∈C:=by rw[e];simp
  have e':C=(pre++[t])++r:=by rw[e];simp
  rw[loopM]
  split
  ·rename_i hc
   refine jb2 hn hC hw ih r (pre++[t]) vis e' h0 h1 h2 fun a ha hb hx=>?_
   rcases List.mem_append.1 ha with h|h
   ·exact h3 a h hb hx
   ·have:=List.mem_singleton.1 h
    subst this
    simp only[hb,hx,Bool.not_true,Bool.false_or,List.contains_eq_mem,decide_eq_true_eq]at hc
    rcases h1 _ hc with h|h
    ·exact h
    ·rw[joh hn ht hb]at h
     omega
  ·rename_i hc
   simp only[Bool.or_eq_true,Bool.not_eq_true',not_or,Bool.not_eq_true,Bool.not_eq_false,List.contains_eq_mem,decide_eq_false_iff_not]at hc
   obtain⟨hb,hx,hv⟩:=hc
   have hcnt:=joh hn ht hb
   have hF:=ih (w ||| 1 <<< t) (done++[t]) vis zO fun v hv=>(h1 v hv).imp id fun h=>by omega
   rcases hr:onM nx C most n (w ||| 1 <<< t) (done++[t]) vis with⟨o,sp,v⟩
   rw[hr]at hF
   cases o with
   | some l=>
    simp only
    obtain⟨f1,L,f2,f3,f4⟩:=hF.yes l rfl
    refine⟨fun x hx=>hF.sub x (h0 x hx),fun h=>(by cases h),fun l' h=>?_⟩
    cases h
    refine⟨f1,t::L,by rw[f2];simp,⟨fun a ha=>?_,?_,?_⟩,fun L' hL'=>?_⟩
    ·rcases List.mem_cons.1 ha with h|h
     ·exact h▸ht
     ·exact f3.1 a h
    ·have:=f3.2.1
     simp only[List.length_cons]
     omega
    ·simp[jpb,hb,hx,f3.2.2]
    ·cases L' with
     | nil=>rfl
     | cons a L'=>
      obtain⟨q1,q2,q3,q4⟩:=hL'.cons hn
      rw[j2g]
      split
      ·rename_i ea
       subst ea
       exact f4 L' q4
      ·rename_i ea
       rw[decide_eq_false_iff_not]
       intro hlt
       have:a∈pre:=by
        rw[e]at q1
        rcases List.mem_append.1 q1 with h|h
        ·exact h
        ·rcases List.mem_cons.1 h with h|h
         ·exact absurd h ea
         ·rw[e]at hC
          have:=List.rel_of_pairwise_cons (List.pairwise_append.1 hC).2.1 h
          omega
       exact h3 a this q2 q3 L' q4
   | none=>
    cases sp with
    | true=>exact⟨fun x hx=>hF.sub x (h0 x hx),fun _ h=>(by cases h),fun l h=>(by cases h)⟩
    | false=>
     simp only
     obtain⟨f1,f2⟩:=hF.no rfl rfl
     refine jb2 hn hC hw ih r (pre++[t]) v e' (fun x hx=>hF.sub x (h0 x hx)) (fun x hx=>?_) (fun x hx=>?_) fun a ha hb hx=>?_
     ·rcases f2 x hx with h|h
      ·exact h1 x h
      ·exact .inl h
     ·rcases f2 x hx with h|h
      ·exact h2 x h
      ·exact .inr (.inr h)
     ·rcases List.mem_append.1 ha with h|h
      ·exact h3 a h hb hx
      ·have:=List.mem_singleton.1 h
       subst this
       exact f1
theorem jnj (hn:C.Nodup) (hC:C.Pairwise (· < ·)):∀ (n w:Nat) (done vis:List Nat),cnt C w+n=C.length→(∀v∈vis,j0l nx C v∨cnt C v<cnt C w)→Found nx C w done vis (onM nx C most n w done vis)
 | 0,w,done,vis,hw,hv=>by
  rw[onM]
  split
  ·exact⟨fun _ h=>h,fun _ h=>(by cases h),fun l h=>(by cases h)⟩
  ·refine⟨fun v h=>List.mem_append.2 (.inl h),fun h=>(by cases h),fun l h=>?_⟩
   cases h
   refine⟨rfl,[],zS,⟨fun _ h=>(by cases h),by simpa using hw,rfl⟩,fun L' hL'=>?_⟩
   cases L' <;> rfl
 | n+1,w,done,vis,hw,hv=>by
  rw[onM]
  split
  ·exact⟨fun _ h=>h,fun _ h=>(by cases h),fun l h=>(by cases h)⟩
  ·refine jb2 hn hC hw (jnj hn hC n) C [] (vis++[w]) rfl (fun v h=>List.mem_append.2 (.inl h)) (fun v h=>?_) (fun v h=>?_) fun t h=>by cases h
   ·rcases List.mem_append.1 h with h|h
    ·exact(hv v h).imp id Nat.le_of_lt
    ·rw[List.mem_singleton.1 h];exact .inr (Nat.le_refl _)
   ·rcases List.mem_append.1 h with h|h
    ·exact .inl h
    ·exact .inr (.inl (List.mem_singleton.1 h))
theorem jto:∀ {O C:List Nat},O.Nodup→(∀x∈O,x∈C)→O.length≤C.length
 | [],_,_,_=>Nat.zero_le _
 | x::r,C,hn,hs=>by
  rw[List.nodup_cons]at hn
  have hx:=hs x (List.mem_cons_self ..)
  have:=jto (O:=r) (C:=C.erase x) hn.2 fun y hy=>(List.mem_erase_of_ne fun(e:y=x)=>hn.1 (e▸hy)).2 (hs y (List.mem_cons_of_mem _ hy))
  rw[List.length_erase_of_mem hx]at this
  have hp:0<C.length:=List.length_pos_of_mem hx
  simp only[List.length_cons]
  omega
end
end Go.Pv.T
namespace Go.Pv.T
open Go Go.Pv
def setC (w:Nat):List V:=[.int .u64 w,.int .u64 0,.int .u64 0,.int .u64 0,.int .u64 0,.int .u64 0,.int .u64 0,.int .u64 0]
theorem jiu:setC 0=j5u:=rfl
theorem jl0 {n:Nat}(h:n<64):IntKind.i64.wrap ((n:Int) / 64)=0:=by
 rw[show(n:Int) / 64=0 by omega];rfl
theorem jlz {n:Nat}(h:n<64):(n:Int).tmod 64=n:=Int.tmod_eq_of_lt zO zO
theorem j0z {w n:Nat}(hn:n<64):Y9 .shr (.int .u64 (w:Int)) (.int .i64 (n:Int))=some (.int .u64 ((w >>> n:Nat):Int)):=by
 simp only[Y9,QN]
 rw[if_neg zO]
 congr 2
 rw[Int.toNat_natCast,show IntKind.u64.bits=64 from rfl,Nat.min_eq_left (Nat.le_of_lt hn),Nat.shiftRight_eq_div_pow,Int.fdiv_eq_ediv_of_nonneg _ (Int.le_of_lt (Int.pow_pos (by decide)))]
 simp
theorem jg2 {n:Nat}(h:n<64):Y9 .shl (.int .u64 1) (.int .i64 (n:Int))=some (.int .u64 ((1 <<< n:Nat):Int)):=by
 have hp:2 ^ n<2 ^ 64:=Nat.pow_lt_pow_right (by decide) h
 have:=jrb (a:=1) (k:=n) rfl zO zO
 rw[Nat.one_shiftLeft]
 rw[Nat.one_mul]at this
 exact this
theorem j39 (w n:Nat):((((w >>> n) &&& 1:Nat):Int) == 1)=w.testBit n:=by
 rw[Nat.testBit,Nat.and_comm 1,Nat.and_one_is_mod]
 rcases Nat.mod_two_eq_zero_or_one (w >>> n) with h|h <;> rw[h] <;> rfl
theorem j5c {w n:Nat}(hw:w<2 ^ 64):w >>> n<2 ^ 64:=by
 rw[Nat.shiftRight_eq_div_pow]
 exact Nat.lt_of_le_of_lt (Nat.div_le_self _ _) hw
theorem jni {n:Nat}(h:n<64):1 <<< n<2 ^ 64:=by
 rw[Nat.one_shiftLeft]
 exact Nat.pow_lt_pow_right (by decide) h
theorem or_lt {w n:Nat}(hw:w<2 ^ 64) (h:n<64):w ||| 1 <<< n<2 ^ 64:=Nat.or_lt_two_pow hw (jni h)
def jqf (w n:Nat):Nat:=(BitVec.ofNat 64 w &&& ~~~ BitVec.ofNat 64 (1 <<< n)).toNat
theorem jyz {w n:Nat}(hw:w<2 ^ 64) (_:n<64) (h:w.testBit n=false):jqf (w ||| 1 <<< n) n=w:=by
 unfold jqf
 refine Nat.eq_of_testBit_eq fun i=>?_
 rw[BitVec.testBit_toNat,BitVec.getLsbD_and,BitVec.getLsbD_not,BitVec.getLsbD_ofNat,BitVec.getLsbD_ofNat,jfb,Nat.one_shiftLeft,Nat.testBit_two_pow]
 by_cases hi:i<64
 ·by_cases e:n=i
  ·subst e
   simp[h]
  ·simp[hi,e]
 ·have:w.testBit i=false:=Nat.testBit_lt_two_pow (Nat.lt_of_lt_of_le hw (Nat.pow_le_pow_right (by decide) zO))
  simp[hi,this]
theorem joy {a b:Nat}:Y9 .andNot (.int .u64 (a:Int)) (.int .u64 (b:Int))=some (.int .u64 (((BitVec.ofNat 64 a &&& ~~~ BitVec.ofNat 64 b).toNat:Nat):Int)):=by
 simp only[Y9,XQ,if_true]
 rw[show IntKind.u64.bits=64 from rfl,BitVec.ofInt_natCast,BitVec.ofInt_natCast,IntKind.wrap_u64]
 congr 2
 have:=(BitVec.ofNat 64 a &&& ~~~ BitVec.ofNat 64 b).isLt
 omega
@[simp] theorem eqVV_pn (ob:ZO) (neg:Bool) (l u o:Nat):jvj ob neg .ptr (.ptr l u o) .nilptr=some (.bool (xor neg false)):=rfl
@[simp] theorem idxArr0 (k u:Nat):QE 8 1 (.ptr k u 0) (.int .i64 0)=some (.ptr k u 0):=rfl
section
variable {ob:ZO}{ub k u w n:Nat}
theorem ev189 (hn:n<500):Ev E 189 [.int .i64 (n:Int)] (.bool true):=by
 refine jU (af:=F189) rfl ?_
 simp[F189]
 exact j4 zS (by simp;omega) rfl
theorem jur (hn:n<500) (tk:Nat→Bool) (base:Nat):EvO E 128 [.ptr k u 0,.int .i64 (n:Int)] ob tk base ub (.int .i64 0):=by
 refine JR (af:=S128) rfl ?_
 simp[S128]
 refine jV (ev189 hn) zS rfl zS ?_
 simp
 exact j4 zS zS rfl
theorem jj8 (hk:ob k=some ⟨u,.cells (setC w)⟩) (ho:Off ub k) (hn:n<64) (hw:w<2 ^ 64) (tk:Nat→Bool) (base:Nat):EvO E 124 [.ptr k u 0,.int .i64 (n:Int)] ob tk base ub (.bool (w.testBit n)):=by
 refine JR (af:=S124) rfl ?_
 have g:=ho.ne
 simp[S124]
 refine J7 (vs:=[.ptr k u 0,.int .i64 n]) zS rfl rfl (jur zO _ _) ?_
 have h1:=j0z (w:=w) hn
 have h2:=jkt (m:=1) (b:=1) rfl (j5c (n:=n) hw) (by decide)
 have h3:=j39 w n
 generalize w >>> n &&& 1=z at h2 h3
 generalize w >>> n=q at h1 h2
 simp(disch:=first|(simp;done)|omega) [jl0 hn,jlz hn,j1,hk,setC,h1,h2,h3]
 exact j4 zS zS rfl
def PutR (ob:ZO) (ub k u w:Nat) (r:V × (ZO) × (Nat→Bool) × Nat):Prop :=
 r.1=.int .i64 0∧(∀key,Off ub key→r.2.1 key=if key=k then some ⟨u,.cells (setC w)⟩ else ob key)∧ub≤r.2.2.2
theorem sv81 {Yf:YF}{tk:Nat→Bool}{ro base:Nat}(hk:ob k=some ⟨u,.cells (setC w)⟩) (ho:Off ub k) (hro:ro≤u) (hn:n<64) (hw:w<2 ^ 64) :
 ∃r,EvS E Yf.y 81 [.ptr k u 0,.int .i64 (n:Int)] ob tk ro base ub r∧PutR ob ub k u (w ||| 1 <<< n) r:=by
 refine Yb (af:=S81) rfl (by decide) ?_
 show wpC E Yf S81.body _ (We S81.res _)
 have g:=ho.ne
 simp[S81]
 refine J7 (vs:=[.ptr k u 0,.int .i64 n]) zS rfl rfl (jur zO _ _) ?_
 have h1:=jg2 hn
 have h2:=jin hw (jni hn)
 generalize w ||| 1 <<< n=z at h2 ⊢
 generalize 1 <<< n=q at h1 h2
 simp(disch:=first|(simp;done)|omega) [jl0 hn,jlz hn,j1,hk,setC,h1,h2,j6]
 refine⟨hro,YX zS ⟨zS,fun key hk=>?_,by simp;omega⟩⟩
 have g:=hk.ne
 simp(disch:=first|(simp;done)|omega) [setC]
theorem sv125 {Yf:YF}{tk:Nat→Bool}{ro base:Nat}(hk:ob k=some ⟨u,.cells (setC w)⟩) (ho:Off ub k) (hro:ro≤u) (hn:n<64) :
 ∃r,EvS E Yf.y 125 [.ptr k u 0,.int .i64 (n:Int)] ob tk ro base ub r∧PutR ob ub k u (jqf w n) r:=by
 refine Yb (af:=S125) rfl (by decide) ?_
 show wpC E Yf S125.body _ (We S125.res _)
 have g:=ho.ne
 simp[S125]
 refine J7 (vs:=[.ptr k u 0,.int .i64 n]) zS rfl rfl (jur zO _ _) ?_
 have h1:=jg2 hn
 have h2:=joy (a:=w) (b:=1 <<< n)
 rw[show(BitVec.ofNat 64 w &&& ~~~ BitVec.ofNat 64 (1 <<< n)).toNat=jqf w n from rfl]at h2
 generalize jqf w n=z at h2 ⊢
 generalize 1 <<< n=q at h1 h2
 simp(disch:=first|(simp;done)|omega) [jl0 hn,jlz hn,j1,hk,setC,h1,h2,j6]
 refine⟨hro,YX zS ⟨zS,fun key hk=>?_,by simp;omega⟩⟩
 have g:=hk.ne
 simp(disch:=first|(simp;done)|omega) [setC]
def NewR (ob:ZO) (ub:Nat) (r:V × (ZO) × (Nat→Bool) × Nat):Prop :=
 ∃m,ub≤m∧m<r.2.2.2∧r.1=.ptr (2*m+1) m 0∧∀key,r.2.1 key=if key=2*m+1 then some ⟨m,.cells (setC 0)⟩ else ob key
theorem j5f {Yf:YF}{tk:Nat→Bool}{ro base:Nat}:∃r,EvS E Yf.y 78 [.sl none true 0 []] ob tk ro base ub r∧NewR ob ub r:=by
 refine Yb (af:=S78) rfl (by decide) ?_
 show wpC E Yf S78.body _ (We S78.res _)
 simp[S78,V.cells]
 refine⟨1,?_⟩
 simp
 exact YX zS ⟨ub+128,zO,zS,zS,fun key=>by simp[setC,Nat.add_assoc]⟩
end
def jfo (g:Hist') (M:List Int) (s:Nat→Bool) (t:Nat):Bool :=
 XS (fun a=>!X4 g a || (!(sesAt g a == sesAt g t) || s a)) t && ((readH g).zip M).all fun x=>
  if x.1.1=(t:Int) then decide (x.2<0) || s x.2.toNat else s x.1.1.toNat || (!(decide (x.2<0) || s x.2.toNat) || !Y6 g t (ja6 g x.1))
def nxM (g:Hist') (M:List Int) (w t:Nat):Bool:=jfo g M (fun a=>w.testBit a) t
def comN (g:Hist'):List Nat:=(comL g).map Int.toNat
def ints (L:List Nat):List Int:=L.map fun a:Nat=>(a:Int)
theorem QK (g:Hist'):ints (comN g)=comL g:=by
 unfold ints comN
 rw[List.map_map]
 refine(List.map_congr_left fun x hx=>?_).trans (List.map_id _)
 obtain⟨k,rfl,_⟩:=comL_mem.1 hx
 simp
theorem comN_mem {g:Hist'}{a:Nat}:a∈comN g ↔ X4 g a=true:=by
 unfold comN
 rw[List.mem_map]
 constructor
 ·rintro⟨x,hx,rfl⟩
  obtain⟨k,rfl,hk⟩:=comL_mem.1 hx
  simpa using hk
 ·exact fun h=>⟨a,comL_mem.2 ⟨a,rfl,h⟩,zS⟩
theorem jh3 (g:Hist'):(comN g).Pairwise (· < ·):=by
 have h:=jh4 g
 rw[← QK]at h
 unfold ints at h
 rw[List.pairwise_map]at h
 exact h.imp fun h=>by omega
theorem jqk (g:Hist'):(comN g).Nodup:=(jh3 g).imp fun h=>Nat.ne_of_lt h
theorem Wm (g:Hist'):(comN g).length=(comL g).length:=by simp[comN]
def Jw (w:Nat) (L:List Nat):Nat:=L.foldl (fun w t=>w ||| 1 <<< t) w
theorem joj (a:Nat):∀ (L:List Nat) (w:Nat),(Jw w L).testBit a=(w.testBit a || L.contains a)
 | [],w=>by simp[Jw]
 | x::r,w=>by
  have:=joj a r (w ||| 1 <<< x)
  unfold Jw at this ⊢
  rw[List.foldl_cons,this,jfb,List.contains_cons,Bool.or_assoc]
  congr 2
  rw[Bool.eq_iff_iff,decide_eq_true_eq,beq_iff_eq]
  exact eq_comm
section
variable {g:Hist'}{M:List Int}{O:List Int}
theorem jli {s s':Nat→Bool}{t:Nat}(h:∀a,s a=s' a):jfo g M s t=jfo g M s' t:=by
 have:s=s':=funext h
 rw[this]
end
def je (w:Nat):List Nat:=(List.range 9).filter fun i=>w.testBit i
def jtl (w:Nat):Nat:=(je w).headD 0
theorem bitsUp_mem {w a:Nat}:a∈je w ↔ a<9∧w.testBit a=true:=by simp[je]
theorem je9:je 0=[]:=rfl
theorem j9w:((List.range 512).all fun w=>w == 0 || (je w == jtl w::je (w &&& (w - 1)) && decide (w &&& (w - 1)<512)))=true:=by kernel_rfl
theorem jkb {w:Nat}(hw:w<512) (h:w≠0):je w=jtl w::je (w &&& (w - 1))∧w &&& (w - 1)<512:=by
 have:=List.all_eq_true.1 j9w w (List.mem_range.2 hw)
 simpa[h] using this
theorem k190:((List.range 512).all fun w=>w == 0 || (match (callers E 2 noY).d 190 [.int .u64 (w:Nat)] with|some r=>V.eqb r (.int .i64 (jtl w:Nat))|none=>false))=true:=by kernel_rfl
theorem ev190 {w:Nat}(hw:w<512) (h:w≠0):Ev E 190 [.int .u64 (w:Nat)] (.int .i64 (jtl w:Nat)):=by
 have:=List.all_eq_true.1 k190 w (List.mem_range.2 hw)
 simp only[beq_iff_eq,Bool.or_eq_true,h,false_or]at this
 split at this
 ·rename_i r hr
  exact⟨2,by rw[hr,QH _ _ this]⟩
 ·cases this
theorem j9p {w:Nat}(hw:w<512) (h:w≠0):jtl w<9:=by
 have:jtl w∈je w:=by rw[(jkb hw h).1];exact List.mem_cons_self ..
 exact(bitsUp_mem.1 this).1
theorem jh6 (w:Nat):(je w).length≤9:=by
 unfold je
 exact Nat.le_trans (List.length_filter_le _ _) zS
theorem j1i {w i:Nat}(h:i<8):(setC w)[i]? = some (.int .u64 (if i=0 then w else 0:Nat)):=by
 match i,h with
 | 0,_=>rfl
 | 1,_=>rfl
 | 2,_=>rfl
 | 3,_=>rfl
 | 4,_=>rfl
 | 5,_=>rfl
 | 6,_=>rfl
 | 7,_=>rfl
section
variable {ob:ZO}{ub k u w:Nat}
theorem jz9 (hk:ob k=some ⟨u,.cells (setC w)⟩) (ho:Off ub k) (hw:w<512) (tk:Nat→Bool) (base:Nat):EvO E 130 [.ptr k u 0] ob tk base ub (jjy (ints (je w))):=by
 refine JR (af:=S130) rfl ?_
 have g:=ho.ne
 have hl8:(setC w).length=8:=rfl
 simp[S130,j1,hk,hl8]
 refine JS fun st hst=>?_
 have g3:st.tm 3=.sl none true 0 []:=by rw[hst];simp
 have g11:st.tm 11=.agg (setC w):=by rw[hst];simp[setC]
 have g12:st.tm 12=.int .i64 0:=by rw[hst];simp
 have gd:st.df=[]:=by rw[hst];simp
 have gr:st.ro=ub:=by rw[hst];simp
 have gn:ub≤st.nx:=by rw[hst];simp;omega
 clear hst
 obtain⟨n0,hn0⟩:∃n,n=st.nx:=⟨_,rfl⟩
 obtain⟨P,hP⟩:∃P:Nat→Nat→Prop,P=fun hi u=>ub≤u∧u<hi:=⟨_,rfl⟩
 obtain⟨J,hJ⟩:∃J:Nat→St→Prop,J=fun i s=>s.tm 12=.int .i64 i∧IntsO s.ob (P s.nx) (if i=0 then [] else ints (je w)) (s.tm 3)∧ub≤s.nx:=⟨_,rfl⟩
 refine jE [(3,5),(12,30)] 8 J rfl rfl (by rw[hJ];exact⟨by simpa using g12,.inl ⟨rfl,g3⟩,gn⟩) ?_
 intro i s hi hJs f
 rw[hJ]at hJs
 obtain⟨s12,sI,sn⟩:=hJs
 have s11:s.tm 11=.agg (setC w):=by rw[f.t 11 zS];simp[g11]
 have sd:s.df=[]:=by rw[f.d];simp[gd]
 have sr:s.ro=ub:=by rw[f.r];simp[gr]
 clear f
 by_cases hlt:i<8
 ·have hwk:=J0 hlt (by decide)
  have hix:jey none 8 1 (.agg (setC w)) (.int .i64 (i:Int))=some (.int .u64 (if i=0 then w else 0:Nat)):=by
   have:=j1i (w:=w) hlt
   have h2:(i:Int)<8:=by omega
   simp[jey,h2,YH,this]
  have h2:(i:Int)<8:=by omega
  generalize hx0:(if i=0 then w else 0:Nat)=x0 at hix
  simp[s12,s11,h2,hix]
  refine JS fun st hst=>?_
  have t3:st.tm 3=s.tm 3:=by rw[hst];simp
  have t4:st.tm 4=.int .i64 i:=by rw[hst];simp
  have t5:st.tm 5=.int .u64 x0:=by rw[hst];simp
  have t12:st.tm 12=.int .i64 i:=by rw[hst];simp[s12]
  have td:st.df=[]:=by rw[hst];simp[sd]
  have tr:st.ro=ub:=by rw[hst];simp[sr]
  have to:st.ob=s.ob:=by rw[hst];simp
  have tn:s.nx≤st.nx:=by rw[hst];simp;omega
  clear hst
  obtain⟨J2,hJ2⟩:∃J2:Nat→St→Prop,J2=fun n s=>∃x L,n=(je x).length∧x<512∧(x=0∨i=0)∧s.tm 5=.int .u64 (x:Nat)∧L++ints (je x)=ints (je w)∧IntsO s.ob (P s.nx) L (s.tm 3)∧ub≤s.nx:=⟨_,rfl⟩
  refine Ye (n:=(je x0).length) [(3,3),(5,5),(16,29)] J2 rfl rfl ?_ ?_
  ·rw[hJ2]
   by_cases hi0:i=0
   ·rw[if_pos hi0]at hx0 sI
    subst hx0
    refine⟨w,[],rfl,hw,.inr hi0,t5,rfl,?_,zO⟩
    rw[to,t3]
    exact sI.frame (fun _ _=>rfl) fun u hu=>by rw[hP]at hu ⊢;exact⟨hu.1,by have:=hu.2;omega⟩
   ·rw[if_neg hi0]at hx0 sI
    subst hx0
    refine⟨0,ints (je w),rfl,by decide,.inl rfl,t5,by simp[je9,ints],?_,zO⟩
    rw[to,t3]
    exact sI.frame (fun _ _=>rfl) fun u hu=>by rw[hP]at hu ⊢;exact⟨hu.1,by have:=hu.2;omega⟩
  ·intro n q hq f
   rw[hJ2]at hq
   obtain⟨x,L,rfl,hx,hxi,q5,hL,qI,qn⟩:=hq
   have q4:q.tm 4=.int .i64 i:=by rw[f.t 4 zS];simp[t4]
   have q12:q.tm 12=.int .i64 i:=by rw[f.t 12 zS];simp[t12]
   have qd:q.df=[]:=by rw[f.d];simp[td]
   have qr:q.ro=ub:=by rw[f.r];simp[tr]
   clear f
   by_cases h0:x=0
   ·subst h0
    simp[q5,q12,hwk,hlt]
    rw[hJ]
    rw[je9,show ints []=[] from rfl,List.append_nil]at hL
    subst hL
    refine⟨zS,?_,by simp;omega⟩
    simp
    exact qI.frame (fun _ _=>rfl) fun u hu=>by rw[hP]at hu ⊢;exact⟨hu.1,by have:=hu.2;simp at this ⊢;omega⟩
   ·have hi0:i=0:=hxi.resolve_left h0
    subst hi0
    obtain⟨e1,e2⟩:=jkb hx h0
    have ex:((x:Int) != 0)=true:=by simp;omega
    have hlow:=j9p hx h0
    have hsub:IntKind.u64.wrap ((x:Int) - 1)=((x - 1:Nat):Int):=by
     rw[IntKind.wrap_u64]
     omega
    have hand:=jkt (a:=x) (b:=x - 1) (m:=((x - 1:Nat):Int)) rfl zO zO
    generalize x &&& (x - 1)=y at hand e1 e2
    rw[← hsub]at hand
    have hz:IntKind.i64.wrap ((jtl x:Nat):Int)=((jtl x:Nat):Int):=jy zO zO
    have hlen:L.length≤9:=by
     have h1:=congrArg List.length hL
     have h2:=jh6 w
     simp[ints]at h1
     omega
    simp[q5,q4,ex]
    refine jV (ev190 hx h0) zS rfl zS ?_
    simp[hz,show IntKind.i64.wrap 0=0 from rfl]
    refine JO (cs:=[.int .i64 ((jtl x:Nat):Int)]) (by simp[j6]) rfl rfl ?_
    simp
    refine jb6 (p:=P q.nx) (l:=L) (z:=((jtl x:Nat):Int)) (X:=2*(q.nx+512)+1) (uX:=q.nx+512) zS (qI.frame (fun u hu=>?_) fun _ h=>h) (by simp[Nat.add_assoc]) (by simp[Nat.add_assoc]) (fun u hu=>by rw[hP]at hu;simp[qr];exact hu.1) zO fun kl hkl=>?_
    ·rw[hP]at hu
     have:=hu.2
     simp(disch:=first|(simp;done)|omega) [two_inj]
     intro e
     omega
    simp[q5,hand]
    refine⟨(je y).length,by rw[e1];simp,?_⟩
    rw[hJ2]
    refine⟨y,L++[((jtl x:Nat):Int)],rfl,e2,.inr rfl,zS,by rw[← hL,e1];simp[ints],.inr ⟨zS,q.nx+576,by simp[Nat.add_assoc],by simp[Nat.add_assoc,jmd],?_⟩,by simp;omega⟩
    rw[hP]
    simp
    omega
 ·have:i=8:=by omega
  subst this
  simp[s12]
  exact Q9 (by simp[sd]) zS sI (fun u hu=>by rw[hP]at hu;simp[sr];exact hu.1)
end
structure FN where
 kF:Nat
 uF:Nat
 kA:Nat
 uA:Nat
 kW:Nat
 uW:Nat
 kV:Nat
 uV:Nat
def jfn:Option (Nat × Nat)→V
 | none=>.nilptr
 | some p=>.ptr p.1 p.2 0
def fdC (g:Hist') (N:FN) (rv al ov:V) (most:Int) (sp:Bool):List V:=[jN g.sn JL g.ss,jN g.kn JL g.ks,jN g.tn jl g.ts,rv,.map N.kA N.uA,.map N.kW N.uW,al,.map N.kV N.uV,.int .i64 most,.bool sp,ov]
structure FixF (N:FN) (n0 key:Nat):Prop where
 f:key≠N.kF
 v:key≠N.kV
 o:Off n0 key
def RowF (N:FN) (n0:Nat) (ob:ZO) (v:V) (rs:List (Int × Int × Int)):Prop:=(v=.sl none true 0 []∧rs=[])∨∃l u,v=.osl l u 0 rs.length 3∧ob l=some ⟨u,.cells (rs.flatMap rdC)⟩∧FixF N n0 l
def SetsF (N:FN) (n0:Nat) (ob:ZO) (k u:Nat) (C:List Nat) (f:Nat→Nat):Prop :=
 FixF N n0 k∧∃ver m,ob k=some ⟨u,.mp ver (MK .i64 jfn m)⟩∧∀t∈C,∃l u,jae m (t:Int) none=some (l,u)∧ob l=some ⟨u,.cells (setC (f t))⟩∧FixF N n0 l
structure Fd (N:FN) (rv:V) (rs:List (Int × Int × Int)) (C:List Nat) (fA fW:Nat→Nat) (n0:Nat) (ob:ZO):Prop where
 r:RowF N n0 ob rv rs
 a:SetsF N n0 ob N.kA N.uA C fA
 w:SetsF N n0 ob N.kW N.uW C fW
theorem RowF.keep {N:FN}{n0:Nat}{ob ob':ZO}{v:V}{rs:List (Int × Int × Int)}(h:RowF N n0 ob v rs) (hw:∀key,FixF N n0 key→ob' key=ob key):RowF N n0 ob' v rs:=by
 rcases h with h|⟨l,u,h1,h2,h3⟩
 ·exact .inl h
 ·exact .inr ⟨l,u,h1,(hw _ h3).trans h2,h3⟩
theorem SetsF.keep {N:FN}{n0:Nat}{ob ob':ZO}{k u:Nat}{C:List Nat}{f:Nat→Nat}(h:SetsF N n0 ob k u C f) (hw:∀key,FixF N n0 key→ob' key=ob key):SetsF N n0 ob' k u C f:=by
 obtain⟨h0,ver,m,h1,h2⟩:=h
 refine⟨h0,ver,m,(hw _ h0).trans h1,fun t ht=>?_⟩
 obtain⟨l,u,h3,h4,h5⟩:=h2 t ht
 exact⟨l,u,h3,(hw _ h5).trans h4,h5⟩
theorem Fd.keep {N:FN}{rv:V}{rs:List (Int × Int × Int)}{C:List Nat}{fA fW:Nat→Nat}{n0:Nat}{ob ob':ZO}(h:Fd N rv rs C fA fW n0 ob) (hw:∀key,FixF N n0 key→ob' key=ob key):Fd N rv rs C fA fW n0 ob' :=
 ⟨h.r.keep hw,h.a.keep hw,h.w.keep hw⟩
theorem SetsF.at {N:FN}{n0:Nat}{ob:ZO}{k u:Nat}{C:List Nat}{f:Nat→Nat}(h:SetsF N n0 ob k u C f) {t:Nat}(ht:t∈C):∃l v,(∀ob':ZO,ob' k=ob k→Xe ob' .int .nilptr false (.map k u) (.int .i64 (t:Int))=some (.ptr l v 0))∧ob l=some ⟨v,.cells (setC (f t))⟩∧FixF N n0 l:=by
 obtain⟨_,ver,m,h1,h2⟩:=h
 obtain⟨l,v,h3,h4,h5⟩:=h2 t ht
 refine⟨l,v,fun ob' e=>?_,h4,h5⟩
 rw[jb3 (q:=.i64) (f:=jfn) m (by simp[jR,e,h1])]
 unfold jae at h3
 cases hm:jg m (t:Int) with
 | none=>rw[hm]at h3;cases h3
 | some p=>
  rw[hm]at h3
  simp only at h3
  simp[h3,jfn]
def jbp (w:Nat) (x:Int):Bool:=decide (x<0) || w.testBit x.toNat
def barB (w t W:Nat) (r:Int × Int × Int):Bool:=if r.1=t then !jbp w r.2.1 else !w.testBit r.1.toNat && (jbp w r.2.1 && W.testBit r.2.2.toNat)
def jxa (rs:List (Int × Int × Int)) (fA fW:Nat→Nat) (w t:Nat):Bool:=(je (fA t)).all (fun a=>w.testBit a) && !(rs.any (barB w t (fW t)))
def RdOk (r:Int × Int × Int):Prop:=(0≤r.1∧r.1<64)∧r.2.1<64∧0≤r.2.2∧r.2.2<64
section
variable {ob:ZO}{ub k u w:Nat}
theorem jz8 (hk:ob k=some ⟨u,.cells (setC w)⟩) (ho:Off ub k) (hw:w<2 ^ 64) {x:Int}(hx:x<64) (tk:Nat→Bool) (base:Nat):EvO E 134 [.ptr k u 0,.int .i64 x] ob tk base ub (.bool (jbp w x)):=by
 refine JR (af:=S134) rfl ?_
 unfold jbp
 by_cases h:x<0
 ·simp[S134,h]
  exact j4 zS zS rfl
 ·obtain⟨n,rfl⟩:∃n:Nat,x=n:=⟨x.toNat,zO⟩
  simp[S134,h]
  refine J7 (vs:=[.ptr k u 0,.int .i64 n]) zS rfl rfl (jj8 hk (ho.up zO) zO hw _ _) ?_
  simp
  exact j4 zS zS rfl
theorem evo131 {kb vb:Nat}(hb:ob kb=some ⟨vb,.cells [.ptr k u 0]⟩) (hk:ob k=some ⟨u,.cells (setC w)⟩) (_:Off ub kb) (ho:Off ub k) (hw:w<2 ^ 64) {a:Nat}(ha:a<64) (tk:Nat→Bool) (base:Nat):EvO E 131 [.int .i64 (a:Int),.ptr kb vb 0] ob tk base ub (.bool (!w.testBit a)):=by
 refine JR (af:=S131) rfl ?_
 simp[S131,j1,hb]
 refine J7 (vs:=[.ptr k u 0,.int .i64 a]) zS rfl rfl (jj8 hk (ho.up zO) ha hw _ _) ?_
 simp
 exact j4 zS zS rfl
theorem j3r {p:Int→Bool}{gf:FuncId}{c1 c2:Nat}(hs:E.sh true gf=false) {t:Option (Nat × Nat)}{nl:Bool}{L:List Int}(hl:L.length≤1000000000)
 (hp:∀r∈L,∀ (tk:Nat→Bool) (base ub':Nat),ub≤ub'→EvO E gf [.int .i64 r,.ptr c1 c2 0] ob tk base ub' (.bool (p r))) (tk:Nat→Bool) (base:Nat):EvO E 147 [.sl t nl L.length (L.flatMap intC),.fn (.func gf) [] [.ptr c1 c2 0]] ob tk base ub (.int .i64 (Qo p L)):=by
 refine JR (af:=S147) rfl ?_
 simp[S147]
 refine jE [(4,5),(8,18)] L.length (fun i s=>s.tm 8=.int .i64 i∧s.ob=ob∧ub≤s.nx∧∀j (hj:j<L.length),j<i→p L[j]=false) rfl rfl ⟨zS,zS,by simp;omega,fun _ _ h=>by omega⟩ ?_
 rintro i s hi ⟨h8,ho,hn,hb⟩ f
 have h0:s.tm 0=.sl t nl L.length (L.flatMap intC):=by rw[f.t 0 zS];simp
 have h1:s.tm 1=.fn (.func gf) [] [.ptr c1 c2 0]:=by rw[f.t 1 zS];simp
 have h7:s.tm 7=.int .i64 L.length:=by rw[f.t 7 zS];simp
 have hd:s.df=[]:=by rw[f.d];simp
 clear f
 by_cases hlt:i<L.length
 ·have hw:=J0 hlt hl
  have hix:=WD jG t nl L .i64 hlt
  have hia:=XP L hlt
  simp[h0,h1,h7,h8,hlt,hix,hia]
  refine Q8 (f:=gf) (first:=[]) (captured:=[.ptr c1 c2 0]) zS hs (by simp[V.strip,V.pureTop,V.pureLeaf]) (v:=.bool (p L[i])) (by simpa[ho] using hp L[i] (List.getElem_mem hlt) _ _ _ zO) ?_
  cases hpi:p L[i]
  ·simp[h8,hw]
   refine⟨hlt,ho,zO,?_⟩
   intro j hj hji
   rcases Nat.lt_succ_iff_lt_or_eq.1 hji with h|rfl
   ·exact hb j hj h
   ·exact hpi
  ·simp
   refine j4 (by simpa using hd) ?_ rfl
   simp
   rw[Yl hlt hpi hb]
 ·have:i=L.length:=by omega
  subst this
  simp[h7,h8]
  refine j4 (by simpa using hd) ?_ rfl
  simp[Wg (fun j hj=>hb j hj hj)]
theorem evo129 {p:Int→Bool}{gf:FuncId}{c1 c2:Nat}(hs:E.sh true gf=false) {t:Option (Nat × Nat)}{nl:Bool}{L:List Int}(hl:L.length≤1000000000)
 (hp:∀r∈L,∀ (tk:Nat→Bool) (base ub':Nat),ub≤ub'→EvO E gf [.int .i64 r,.ptr c1 c2 0] ob tk base ub' (.bool (p r))) (tk:Nat→Bool) (base:Nat):EvO E 129 [.sl t nl L.length (L.flatMap intC),.fn (.func gf) [] [.ptr c1 c2 0]] ob tk base ub (.bool (L.any p)):=by
 refine JR (af:=S129) rfl ?_
 simp[S129]
 refine J7 (vs:=[.sl t nl L.length (L.flatMap intC),.fn (.func gf) [] [.ptr c1 c2 0]]) zS rfl (by rw[List.all_cons,Bool.and_eq_false_iff];exact .inr rfl) (j3r hs hl (fun r hr tk base ub' h=>hp r hr tk base ub' zO) _ _) ?_
 simp
 exact j4 rfl (by simp[QV]) rfl
variable {N:FN}{n0:Nat}
theorem evo191 {p:Int × Int × Int→Bool}{gf:FuncId}{c1 c2 c3 c4 c5 c6:Nat}(hs:E.sh true gf=false) {v:V}{rs:List (Int × Int × Int)}(hv:RowF N n0 ob v rs) (hl:rs.length≤1000000000)
 (hp:∀r∈rs,∀ (tk:Nat→Bool) (base ub':Nat),ub≤ub'→EvO E gf [.agg (rdC r),.ptr c1 c2 0,.ptr c3 c4 0,.ptr c5 c6 0] ob tk base ub' (.bool (p r))) (tk:Nat→Bool) (base:Nat):EvO E 191 [v,.fn (.func gf) [] [.ptr c1 c2 0,.ptr c3 c4 0,.ptr c5 c6 0]] ob tk base ub (.int .i64 (Qo p rs)):=by
 refine JR (af:=S191) rfl ?_
 have hlen:Q7 v=some (.int .i64 rs.length):=by
  rcases hv with⟨rfl,rfl⟩|⟨l,u,rfl,_⟩ <;> rfl
 have hat:∀i,(h:i<rs.length)→∃q,Jn 3 v (.int .i64 (i:Int))=some q∧Qh ob (some 3) q=some (.agg (rdC rs[i])):=by
  intro i h
  rcases hv with⟨rfl,rfl⟩|⟨l,u,rfl,ho,_⟩
  ·simp at h
  ·refine⟨_,jyg h,?_⟩
   have:=Xk jk2 rs i h
   have hlf:=j9 jk2 rs
   simp only[Qh,j1,ho,if_true,Option.bind_some,W5]
   rw[if_pos (by rw[hlf];omega),this]
 simp[S191,hlen]
 refine jE [(4,5),(8,18)] rs.length (fun i s=>s.tm 8=.int .i64 i∧s.ob=ob∧ub≤s.nx∧∀j (hj:j<rs.length),j<i→p rs[j]=false) rfl rfl ⟨zS,zS,by simp;omega,fun _ _ h=>by omega⟩ ?_
 rintro i s hi ⟨h8,ho,hn,hb⟩ f
 have h0:s.tm 0=v:=by rw[f.t 0 zS];simp
 have h1:s.tm 1=.fn (.func gf) [] [.ptr c1 c2 0,.ptr c3 c4 0,.ptr c5 c6 0]:=by rw[f.t 1 zS];simp
 have h7:s.tm 7=.int .i64 rs.length:=by rw[f.t 7 zS];simp
 have hd:s.df=[]:=by rw[f.d];simp
 clear f
 by_cases hlt:i<rs.length
 ·have hw:=J0 hlt hl
  obtain⟨q,hq1,hq2⟩:=hat i hlt
  simp[h0,h1,h7,h8,hlt,hq1,ho,hq2]
  refine Q8 (f:=gf) (first:=[]) (captured:=[.ptr c1 c2 0,.ptr c3 c4 0,.ptr c5 c6 0]) zS hs (by simp[V.strip,V.pureTop,V.pureLeaf]) (v:=.bool (p rs[i])) (by simpa[ho] using hp rs[i] (List.getElem_mem hlt) _ _ _ zO) ?_
  cases hpi:p rs[i]
  ·simp[h8,hw]
   refine⟨hlt,ho,zO,?_⟩
   intro j hj hji
   rcases Nat.lt_succ_iff_lt_or_eq.1 hji with h|rfl
   ·exact hb j hj h
   ·exact hpi
  ·simp
   refine j4 (by simpa using hd) ?_ rfl
   simp
   rw[Yl hlt hpi hb]
 ·have:i=rs.length:=by omega
  subst this
  simp[h7,h8]
  refine j4 (by simpa using hd) ?_ rfl
  simp[Wg (fun j hj=>hb j hj hj)]
theorem evo132 {p:Int × Int × Int→Bool}{gf:FuncId}{c1 c2 c3 c4 c5 c6:Nat}(hs:E.sh true gf=false) {v:V}{rs:List (Int × Int × Int)}(hv:RowF N n0 ob v rs) (hl:rs.length≤1000000000)
 (hp:∀r∈rs,∀ (tk:Nat→Bool) (base ub':Nat),ub≤ub'→EvO E gf [.agg (rdC r),.ptr c1 c2 0,.ptr c3 c4 0,.ptr c5 c6 0] ob tk base ub' (.bool (p r))) (tk:Nat→Bool) (base:Nat):EvO E 132 [v,.fn (.func gf) [] [.ptr c1 c2 0,.ptr c3 c4 0,.ptr c5 c6 0]] ob tk base ub (.bool (rs.any p)):=by
 refine JR (af:=S132) rfl ?_
 simp[S132]
 refine J7 (vs:=[v,.fn (.func gf) [] [.ptr c1 c2 0,.ptr c3 c4 0,.ptr c5 c6 0]]) zS rfl (by rw[List.all_cons,Bool.and_eq_false_iff];exact .inr rfl) (evo191 (N:=N) (n0:=n0) hs (hv.keep (fun _ _=>rfl)) hl (fun r hr tk base ub' h=>hp r hr tk base ub' zO) _ _) ?_
 simp
 exact j4 rfl (by simp[QV]) rfl
end
section
variable {ob:ZO}{ub kS uS w n0 t:Nat}{N:FN}{g:Hist'}{rv al ov:V}{most:Int}{sp:Bool}{rs:List (Int × Int × Int)}{C:List Nat}{fA fW:Nat→Nat}
theorem evo133 (hd:Fd N rv rs C fA fW n0 ob) (hF:ob N.kF=some ⟨N.uF,.cells (fdC g N rv al ov most sp)⟩) (oF:Off ub N.kF) (hS:ob kS=some ⟨uS,.cells (setC w)⟩) (oS:Off ub kS) (hn:n0≤ub) (hw:w<2 ^ 64) (ht:t∈C) (hW:fW t<2 ^ 64)
 {kt vt ks vs kf vf:Nat}(bt:ob kt=some ⟨vt,.cells [.int .i64 (t:Int)]⟩) (bs:ob ks=some ⟨vs,.cells [.ptr kS uS 0]⟩) (bf:ob kf=some ⟨vf,.cells [.ptr N.kF N.uF 0]⟩) (ot:Off ub kt) (os:Off ub ks) (of:Off ub kf) {r:Int × Int × Int}(hr:RdOk r) (tk:Nat→Bool) (base:Nat) :
 EvO E 133 [.agg (rdC r),.ptr kt vt 0,.ptr ks vs 0,.ptr kf vf 0] ob tk base ub (.bool (barB w t (fW t) r)):=by
 refine JR (af:=S133) rfl ?_
 have g1:=ot.ne
 have g2:=os.ne
 have g3:=of.ne
 have g4:=oF.ne
 have g5:=oS.ne
 obtain⟨⟨r1,r2⟩,r3,r4,r5⟩:=hr
 obtain⟨a,ha⟩:∃a:Nat,r.1=a:=⟨r.1.toNat,zO⟩
 obtain⟨b,hb⟩:∃b:Nat,r.2.2=b:=⟨r.2.2.toNat,zO⟩
 unfold barB
 have hoS:∀m,ub≤m→(upd ob (2*m+1) (some ⟨m,.cells (rdC r)⟩)) kS=some ⟨uS,.cells (setC w)⟩:=fun m hm=>by rw[J9 _ _ (g5 m hm)];exact hS
 by_cases h0:r.1=t
 ·simp(disch:=first|(simp;done)|omega) [S133,j1,rdC,V.cells,bt,g1,bs,g2,h0]
  refine J7 (vs:=[.ptr kS uS 0,.int .i64 r.2.1]) zS rfl rfl (jz8 (w:=w) (by simp(disch:=first|(simp;done)|omega) [g5,hS]) (oS.up zO) hw r3 _ _) ?_
  simp
  exact j4 zS zS rfl
 ·have h0':(r.1 == (t:Int))=false:=by simpa using h0
  simp(disch:=first|(simp;done)|omega) [S133,j1,rdC,V.cells,bt,g1,bs,g2,h0']
  have q1:0≤r.1:=r1
  refine jer (vs:=[.ptr kS uS 0,.int .i64 r.1]) zS rfl rfl (by rw[ha];exact jj8 (w:=w) (n:=a) (by simp(disch:=first|(simp;done)|omega) [g5,hS]) (oS.up (by first|omega|(simp;omega))) zO hw _ _) (Jk rfl) ?_
  have ea:r.1.toNat=a:=by omega
  have eb:r.2.2.toNat=b:=by omega
  rw[ea,eb,if_neg h0]
  obtain⟨l,v,hlk,hl,fl⟩:=hd.w.at ht
  have gW:=hd.w.1.o.up hn
  have gl:=(fl.o.up hn)
  cases hb1:w.testBit a
  ·simp(disch:=first|(simp;done)|omega) [j1,bs,g2]
   refine jer (vs:=[.ptr kS uS 0,.int .i64 r.2.1]) zS rfl rfl (jz8 (w:=w) (by simp(disch:=first|(simp;done)|omega) [g5,hS]) (oS.up (by first|omega|(simp;omega))) hw r3 _ _) (Jk rfl) ?_
   cases hb2:jbp w r.2.1
   ·simp(disch:=first|(simp;done)|omega)
    exact j4 zS zS rfl
   ·simp(disch:=first|(simp;done)|omega) [j1,bf,g3,hF,g4,fdC,bt,g1]
    rw[hlk _ (by simp(disch:=first|(simp;done)|omega) [gW.ne])]
    simp(disch:=first|(simp;done)|omega) [j1]
    refine J7 (vs:=[.ptr l v 0,.int .i64 r.2.2]) zS rfl rfl (by rw[hb];exact jj8 (w:=fW t) (n:=b) (by simp(disch:=first|(simp;done)|omega) [gl.ne,hl]) (gl.up (by first|omega|(simp;omega))) zO hW _ _) ?_
    simp
    exact j4 zS zS rfl
  ·simp(disch:=first|(simp;done)|omega)
   exact j4 zS zS rfl
theorem evo82 (hd:Fd N rv rs C fA fW n0 ob) (hF:ob N.kF=some ⟨N.uF,.cells (fdC g N rv al ov most sp)⟩) (oF:Off ub N.kF) (hS:ob kS=some ⟨uS,.cells (setC w)⟩) (oS:Off ub kS) (hn:n0≤ub) (hw:w<2 ^ 64) (ht:t∈C) (hA:fA t<512) (hW:fW t<2 ^ 64)
 (hrs:∀r∈rs,RdOk r) (hl:rs.length≤1000000) (tk:Nat→Bool) (base:Nat):EvO E 82 [.ptr N.kF N.uF 0,.ptr kS uS 0,.int .i64 (t:Int)] ob tk base ub (.bool (jxa rs fA fW w t)):=by
 refine JR (af:=S82) rfl ?_
 have g4:=oF.ne
 have g5:=oS.ne
 have gA:=(hd.a.1.o.up hn)
 obtain⟨l,v,hlk,hl',fl⟩:=hd.a.at ht
 have gl:=fl.o.up hn
 simp(disch:=first|(simp;done)|omega) [S82,j1,V.cells,two_inj,hF,g4,fdC,jwp,Nat.add_assoc]
 rw[hlk _ (by simp(disch:=first|(simp;done)|omega) [gA.ne])]
 simp(disch:=first|(simp;done)|omega)
 refine j23 (vs:=[.ptr l v 0]) (l:=ints (je (fA t))) zS rfl rfl ⟨_,jz9 (w:=fA t) (by simp(disch:=first|(simp;done)|omega) [gl.ne,hl']) (gl.up (by first|omega|(simp;omega))) hA _ _,numR_intsV _⟩ fun tt nl add=>?_
 simp(disch:=first|(simp;done)|omega)
 have hlen:(ints (je (fA t))).length≤1000000000:=by
  have:=jh6 (fA t)
  simp only[ints,List.length_map]
  omega
 refine J7 (vs:=[.sl tt nl (ints (je (fA t))).length ((ints (je (fA t))).flatMap intC),.fn (.func 131) [] [.ptr (2*(ub+64)+1) (ub+64) 0]]) zS rfl (by rw[List.all_cons,Bool.and_eq_false_iff];exact .inr rfl) (evo129 (p:=fun x=>!w.testBit x.toNat) rfl hlen (fun x hx tk base ub' h=>?_) _ _) ?_
 ·unfold ints at hx
  obtain⟨a,ha,rfl⟩:=List.mem_map.1 hx
  have:=(bitsUp_mem.1 ha).1
  exact evo131 (w:=w) (k:=kS) (u:=uS) (by simp(disch:=first|(simp;done)|omega) [two_inj,Nat.add_assoc]) (by simp(disch:=first|(simp;done)|omega) [g5,hS]) (Off.new (by first|omega|(simp at h;omega))) (oS.up (by first|omega|(simp at h;omega))) hw zO tk base
 have eall:((ints (je (fA t))).any fun x=>!w.testBit x.toNat) = !(je (fA t)).all fun a=>w.testBit a:=by
  unfold ints
  rw[List.any_map,List.not_all_eq_any_not]
  rfl
 rw[eall]
 unfold jxa
 cases hall:(je (fA t)).all fun a=>w.testBit a
 ·simp
  exact j4 zS zS rfl
 ·simp(disch:=first|(simp;done)|omega) [j1,two_inj,hF,g4,fdC,Nat.add_assoc]
  refine J7 (vs:=[rv,.fn (.func 133) [] [.ptr (2*(ub+128)+1) (ub+128) 0,.ptr (2*(ub+64)+1) (ub+64) 0,.ptr (2*ub+1) ub 0]]) zS rfl (by rw[List.all_cons,Bool.and_eq_false_iff];exact .inr rfl)
   (evo132 (N:=N) (n0:=n0) (p:=barB w t (fW t)) rfl (hd.r.keep fun key h=>?_) zO (fun r hr tk base ub' h=>evo133 (g:=g) (kS:=kS) (uS:=uS) (rv:=rv) (al:=al) (ov:=ov) (most:=most) (sp:=sp) (n0:=n0) (hd.keep fun key h=>?_) ?_ (oF.up ?_) ?_ (oS.up ?_) ?_ hw ht hW ?_ ?_ ?_ (Off.new ?_) (Off.new ?_) (Off.new ?_) (hrs r hr) tk base) _ _) ?_
  ·simp(disch:=first|(simp;done)|omega) [(h.o.up hn).ne]
  ·simp(disch:=first|(simp;done)|omega) [(h.o.up hn).ne]
  ·simp(disch:=first|(simp;done)|omega) [g4,hF]
  ·first|omega|(simp at h;omega)
  ·simp(disch:=first|(simp;done)|omega) [g5,hS]
  ·first|omega|(simp at h;omega)
  ·first|omega|(simp at h;omega)
  ·simp(disch:=first|(simp;done)|omega)
  ·simp(disch:=first|(simp;done)|omega) [two_inj]
  ·simp(disch:=first|(simp;done)|omega) [two_inj]
  ·first|omega|(simp at h;omega)
  ·first|omega|(simp at h;omega)
  ·first|omega|(simp at h;omega)
  ·simp
   exact j4 zS zS rfl
end
theorem j9v:((List.range 512).all fun w=>Jw 0 (je w) == w)=true:=by kernel_rfl
theorem j0t {w:Nat}(hw:w<512):Jw 0 (je w)=w:=by
 simpa using List.all_eq_true.1 j9v w (List.mem_range.2 hw)
theorem jqo {L:List Nat}{i:Nat}(h:i<L.length) (w:Nat):Jw w (L.take (i+1))=Jw w (L.take i) ||| 1 <<< L[i]:=by
 unfold Jw
 rw[List.take_succ_eq_append_getElem h,List.foldl_append]
 rfl
theorem Ym:∀ {L:List Nat}{w:Nat},w<2 ^ 64→(∀a∈L,a<64)→Jw w L<2 ^ 64
 | [],_,hw,_=>hw
 | a::L,_,hw,h=>Ym (L:=L) (or_lt hw (h a (List.mem_cons_self ..))) fun b hb=>h b (List.mem_cons_of_mem _ hb)
theorem Xp (L:List Nat):(ints L).length=L.length:=by simp[ints]
theorem j3e (L:List Nat) {i:Nat}(h:i<(ints L).length):(ints L)[i]=((L[i]'(by simpa[ints] using h):Nat):Int):=by simp[ints]
section
variable {ob:ZO}{ub k u w:Nat}
theorem j0a (hk:ob k=some ⟨u,.cells (setC w)⟩) (ho:Off ub k) (hw:w<512) (tk:Nat→Bool) (base:Nat):EvO E 123 [.ptr k u 0] ob tk base ub (.int .u64 (w:Nat)):=by
 refine JR (af:=S123) rfl ?_
 have hlen:=jh6 w
 simp[S123]
 obtain⟨nl,hsl⟩:=numR_intsV (ints (je w))
 refine J7 (vs:=[.ptr k u 0]) zS rfl rfl (jz9 hk (ho.up (by first|omega|(simp;omega))) hw _ _) ?_
 refine Qg hsl fun tt add=>?_
 simp
 refine jE [(3,5),(9,17)] (je w).length (fun i s=>s.tm 9=.int .i64 i∧s.tm 3=.int .u64 (Jw 0 ((je w).take i):Nat)) rfl rfl ⟨zS,by simp[Jw]⟩ ?_
 rintro i s hi ⟨h9,h3⟩ f
 have h7:s.tm 7=.sl tt nl (ints (je w)).length ((ints (je w)).flatMap intC):=by rw[f.t 7 zS];simp
 have h8:s.tm 8=.int .i64 (ints (je w)).length:=by rw[f.t 8 zS];simp
 have hd:s.df=[]:=by rw[f.d];simp
 clear f
 by_cases hlt:i<(je w).length
 ·have hlt':i<(ints (je w)).length:=by rw[Xp];exact hlt
  have hwk:=J0 hlt' (by rw[Xp];omega)
  have hix:=WD jG tt nl (ints (je w)) .i64 hlt'
  have hia:=XP (ints (je w)) hlt'
  have hb:=(bitsUp_mem.1 (List.getElem_mem hlt)).1
  rw[j3e]at hia
  have e1:=jg2 (n:=(je w)[i]) zO
  have e2:=jin (a:=Jw 0 ((je w).take i)) (b:=1 <<< (je w)[i]) (Ym (by decide) fun a ha=>by have:=(bitsUp_mem.1 (List.mem_of_mem_take ha)).1;omega) (jni zO)
  rw[← jqo hlt]at e2
  generalize 1 <<< (je w)[i]=p1 at e1 e2
  generalize hp2:Jw 0 ((je w).take (i+1))=p2 at e2
  generalize Jw 0 ((je w).take i)=p3 at e2 h3
  simp[h7,h8,h9,h3,hlt',hix,hia,e1,e2,hwk]
  exact⟨hlt,by rw[hp2]⟩
 ·have:i=(je w).length:=by omega
  subst this
  rw[List.take_length,j0t hw]at h3
  simp[h8,h9,Xp,h3]
  exact j4 (by simpa using hd) zS rfl
end
end Go.Pv.T
namespace Go.Pv.T
open Go Go.Pv
end Go.Pv.T
namespace Go.Pv.T
open Go Go.Pv
structure Mtx (ob:ZO) (lo hi kP uP n:Nat) (rows:List (Nat × Nat)) (f:Nat→Nat→Bool):Prop where
 p:ob kP=some ⟨uP,.cells (rows.map (rowC n)++List.replicate (n - rows.length) (.sl none true 0 []))⟩
 c:∀b (h:b<rows.length),ob (rows[b]).1=some ⟨(rows[b]).2,.cells ((List.range n).map fun t=>V.bool (f b t))⟩
 k:kP=2*uP+1∧lo≤uP∧uP<hi
 r:∀b (h:b<rows.length),(rows[b]).1=2*(rows[b]).2+1∧uP<(rows[b]).2∧(rows[b]).2<hi
 d:∀b b' (h:b<rows.length) (h':b'<rows.length),(rows[b]).2=(rows[b']).2→b=b'
theorem Mtx.hi {ob:ZO}{lo hi kP uP n:Nat}{rows:List (Nat × Nat)}{f:Nat→Nat→Bool}(h:Mtx ob lo hi kP uP n rows f) {ob':ZO}{hi':Nat}(hu:hi≤hi') (hP:ob' kP=ob kP) (hr:∀b (hb:b<rows.length),ob' (rows[b]).1=ob (rows[b]).1):Mtx ob' lo hi' kP uP n rows f :=
 ⟨hP.trans h.p,fun b hb=>(hr b hb).trans (h.c b hb),⟨h.k.1,h.k.2.1,by have:=h.k.2.2;omega⟩,fun b hb=>⟨(h.r b hb).1,(h.r b hb).2.1,by have:=(h.r b hb).2.2;omega⟩,h.d⟩
theorem Mtx.offP {ob:ZO}{lo hi kP uP n:Nat}{rows:List (Nat × Nat)}{f:Nat→Nat→Bool}(h:Mtx ob lo hi kP uP n rows f):Off hi kP:=fun m hm=>by
 have:=h.k
 omega
theorem Mtx.offR {ob:ZO}{lo hi kP uP n:Nat}{rows:List (Nat × Nat)}{f:Nat→Nat→Bool}(h:Mtx ob lo hi kP uP n rows f) {b:Nat}(hb:b<rows.length):Off hi (rows[b]).1:=fun m hm=>by
 have:=h.r b hb
 omega
theorem Mtx.keep {ob:ZO}{lo hi kP uP n:Nat}{rows:List (Nat × Nat)}{f:Nat→Nat→Bool}(h:Mtx ob lo hi kP uP n rows f) {ob':ZO}{hi':Nat}(hu:hi≤hi') (hW:Was hi ob ob'):Mtx ob' lo hi' kP uP n rows f :=
 h.hi hu (hW _ h.offP) fun _ hb=>hW _ (h.offR hb)
theorem Mtx.congr {ob:ZO}{lo hi kP uP n:Nat}{rows:List (Nat × Nat)}{f f':Nat→Nat→Bool}(h:Mtx ob lo hi kP uP n rows f) (e:∀b a,b<rows.length→a<n→f b a=f' b a):Mtx ob lo hi kP uP n rows f' :=
 ⟨h.p,fun b hb=>by
  rw[h.c b hb]
  congr 3
  refine List.map_congr_left fun a ha=>?_
  rw[e b a hb (List.mem_range.1 ha)],h.k,h.r,h.d⟩
theorem jo0 (n t:Nat) (F:Nat→V) (x:V) (h:t<n):j6 ((List.range n).map F) t [x]=(List.range n).map fun a=>if a=t then x else F a:=by
 unfold j6
 refine List.ext_getElem (by simp;omega) fun i h1 h2=>?_
 simp only[List.length_cons,List.length_nil,List.getElem_append,List.getElem_map,List.getElem_range,List.length_append,List.length_take,List.length_map,List.length_range,List.getElem_take,List.getElem_drop]
 rcases Nat.lt_trichotomy i t with hi|hi|hi
 ·rw[dif_pos zO,dif_pos zO,if_neg zO]
 ·subst hi
  rw[dif_pos zO,dif_neg zO,if_pos rfl]
  simp
 ·rw[dif_neg zO,if_neg zO]
  congr 1
  omega
theorem Mtx.set {ob:ZO}{lo hi kP uP n:Nat}{rows:List (Nat × Nat)}{f:Nat→Nat→Bool}(h:Mtx ob lo hi kP uP n rows f) {b t:Nat}{x:Bool}(hb:b<rows.length) (ht:t<n) {ob':ZO}{hi':Nat}(hu:hi≤hi')
 (h1:ob' (rows[b]).1=some ⟨(rows[b]).2,.cells (j6 ((List.range n).map fun t=>V.bool (f b t)) t [.bool x])⟩) (h2:∀key,Off hi key→key≠(rows[b]).1→ob' key=ob key):Mtx ob' lo hi' kP uP n rows fun b' a=>if b'=b∧a=t then x else f b' a:=by
 have hk:=h.k
 have hrb:=h.r b hb
 refine⟨(h2 _ h.offP zO).trans h.p,fun b' hb'=>?_,⟨hk.1,hk.2.1,zO⟩,fun b' hb'=>⟨(h.r b' hb').1,(h.r b' hb').2.1,by have:=(h.r b' hb').2.2;omega⟩,h.d⟩
 by_cases e:b'=b
 ·subst e
  rw[h1,jo0 n t _ _ ht]
  congr 3
  refine List.map_congr_left fun a _=>?_
  by_cases e2:a=t <;> simp[e2]
 ·have hne:(rows[b']).1≠(rows[b]).1:=fun e'=>e (h.d b' b hb' hb (by have:=h.r b' hb';omega))
  rw[h2 _ (h.offR hb') hne,h.c b' hb']
  simp[e]
/-! What goes before,by loops. -/
def jC (g:Hist') (lvl:Int) (M:List Int) (N:JN) (v:V):List V:=[.int .i64 lvl,jN g.sn JL g.ss,jN g.kn JL g.ks,jN g.tn jl g.ts,.sl N.tr N.nr (readH g).length ((readH g).flatMap jH),jN N.nm intC M,.map N.kA N.uA,v]
structure CI (g:Hist') (lvl:Int) (M:List Int) (N:JN) (ob0:ZO) (ub kP uP:Nat) (rows:List (Nat × Nat)) (f:Nat→Nat→Bool) (ob:ZO) (nx:Nat):Prop where
 m:Mtx ob ub nx kP uP g.ts.length rows f
 j:ob N.kJ=some ⟨N.uJ,.cells (jC g lvl M N (.osl kP uP 0 g.ts.length 1))⟩
 w:∀key,Off ub key→key≠N.kJ→ob key=ob0 key
 fj:Off ub N.kJ
section
variable {g:Hist'}{lvl:Int}{M:List Int}{N:JN}{ob0:ZO}{ub kP uP:Nat}{rows:List (Nat × Nat)}{f:Nat→Nat→Bool}{ob ob':ZO}{nx nx':Nat}
theorem CI.le (h:CI g lvl M N ob0 ub kP uP rows f ob nx):ub<nx:=by
 have:=h.m.k
 omega
theorem CI.keep (h:CI g lvl M N ob0 ub kP uP rows f ob nx) (hu:nx≤nx') (hW:Was nx ob ob'):CI g lvl M N ob0 ub kP uP rows f ob' nx' :=
 have hl:=h.le
 ⟨h.m.keep hu hW,(hW _ (h.fj.up zO)).trans h.j,fun key hk hne=>(hW _ (hk.up zO)).trans (h.w key hk hne),h.fj⟩
theorem CI.congr {f':Nat→Nat→Bool}(h:CI g lvl M N ob0 ub kP uP rows f ob nx) (e:∀b a,b<rows.length→a<g.ts.length→f b a=f' b a):CI g lvl M N ob0 ub kP uP rows f' ob nx :=
 ⟨h.m.congr e,h.j,h.w,h.fj⟩
theorem CI.set (h:CI g lvl M N ob0 ub kP uP rows f ob nx) {b t:Nat}{x:Bool}(hb:b<rows.length) (ht:t<g.ts.length) (hu:nx≤nx')
 (h1:ob' (rows[b]).1=some ⟨(rows[b]).2,.cells (j6 ((List.range g.ts.length).map fun t=>V.bool (f b t)) t [.bool x])⟩) (h2:∀key,Off nx key→key≠(rows[b]).1→ob' key=ob key):CI g lvl M N ob0 ub kP uP rows (fun b' a=>if b'=b∧a=t then x else f b' a) ob' nx':=by
 have hl:=h.le
 have hk:=h.m.k
 have hr:=h.m.r b hb
 have hne:∀key,Off ub key→key≠(rows[b]).1:=fun key hk e=>hk (rows[b]).2 zO zO
 exact⟨h.m.set hb ht hu h1 h2,(h2 _ (h.fj.up zO) (hne _ h.fj)).trans h.j,fun key hk hn=>(h2 _ (hk.up zO) (hne _ hk)).trans (h.w key hk hn),h.fj⟩
end
def Old (ob:ZO) (ub:Nat) (ob':ZO):Prop:=∀k,(∀m,ub≤m→k≠2*m+1)→ob' k=ob k
def NewAt (ub:Nat) (l:List Int) (v:V) (ob':ZO) (ub':Nat):Prop:=∃m,ub≤m∧m<ub'∧v=.osl (2*m+1) m 0 l.length 1∧ob' (2*m+1)=some ⟨m,.cells (l.flatMap intC)⟩
theorem ja8 {E:Env}{Yf:YF}{st:St}{ub:Nat}{K:St→Nat→Prop}{d:Option Nat}{nm o:Bool}{sz bytes l u off n z:Nat}{cs:List V}{s x:A}(hs:eval E st.tm s=.osl l u off n z) (hx:jI st.ob sz (eval E st.tm x)=some []) (ho:st.ob l=some ⟨u,.cells cs⟩)
 (h:QT K st d ub (.osl l u off n z)):j8 E Yf ⟨d,.append o sz bytes s x,none,nm⟩ st ub K:=by
 have hoc:j1 st.ob l u=some cs:=by simp[j1,ho]
 rw[jT _ rfl rfl]
 simp only[aop,hs,hx,hoc,Option.bind_some,if_true,Yo,Qj]
 exact h
@[simp] theorem eqVV_sl (ob:ZO) (neg nl:Bool) (t t':Option (Nat × Nat)) (n:Nat) (cs:List V):jvj ob neg .sl (.sl t nl n cs) (.sl t' true 0 [])=some (.bool (xor neg nl)):=rfl
def CopyP (ob:ZO) (tk:Nat→Bool) (ub:Nat) (l:List Int) (r:V × (ZO) × (Nat→Bool) × Nat):Prop:=NewAt ub l r.1 r.2.1 r.2.2.2∧Old ob ub r.2.1∧r.2.2.1=tk∧ub≤r.2.2.2
theorem sv25 {Yf:YF}(b:Bool) (l:List Int) (hl:l.length≤1000000000) {ob:ZO}{tk:Nat→Bool}{ro base ub:Nat}(hro:ro≤ub):∃r,EvS E Yf.y 25 [jN b intC l] ob tk ro base ub r∧CopyP ob tk ub l r:=by
 refine Yb (af:=S25) rfl (by decide) ?_
 show wpC E Yf S25.body _ (We S25.res _)
 simp[S25]
 refine JO (cs:=[]) rfl rfl rfl ?_
 simp
 by_cases hn:l=[]
 ·subst hn
  refine ja8 (l:=2*(ub+64)+1) (u:=ub+64) (off:=0) (n:=0) (z:=1) (cs:=[]) zS (by simp[Wx jG]) zS ?_
  simp
  refine YX zS ⟨⟨ub+64,zO,by simp;try omega,zS,zS⟩,fun k hk=>?_,by simp[JG],by simp;try omega⟩
  have:=hk (ub+64) zO
  simp[this]
 ·have hne:l.flatMap intC≠[]:=fun e=>hn (by have:=congrArg List.length e;rw[j9 jG]at this;exact List.length_eq_zero_iff.1 (by simpa using this))
  have hd:(l.flatMap intC).length / 1=l.length:=by rw[j9 jG];simp
  refine XN (l:=2*(ub+64)+1) (u:=ub+64) (n:=0) (cs:=[]) (ys:=l.flatMap intC) zS (by simp[Wx jG]) zS hne (by simp;omega) zS (by decide) (by simp[intC]) (by rw[hd];omega) (by rw[hd];omega) ?_
  rw[hd]
  simp
  refine YX zS ⟨⟨ub+192,zO,by simp;try omega,zS,zS⟩,fun k hk=>?_,by simp[ju7],by simp;try omega⟩
  have h1:=hk (ub+64) zO
  have h2:=hk (ub+192) zO
  simp[h1,h2]
end Go.Pv.T
namespace Go.Pv.T
open Go Go.Pv
end Go.Pv.T
namespace Go.Pv.T
open Go Go.Pv
theorem jhx {st:St}{ub:Nat}{K:List FP→St→Prop}{d:Option Nat}{nm:Bool}{r:List AOpr}(h:YS E r K (eval E st.tm) .mkMap st d ub { v:=.map (jL d nm st.fb ub) ub,obs:=[(jL d nm st.fb ub,⟨ub,.mp 0 []⟩)] }):jF E (⟨d,.mkMap,none,nm⟩::r) st ub K:=by
 rw[jt rfl]
 simp only[aop,Jh,jM,Jq]
 exact h
end Go.Pv.T
namespace Go.Pv.T
open Go Go.Pv
end Go.Pv.T
namespace Go.Pv.T
open Go Go.Pv
end Go.Pv.T
namespace Go.Pv.T
open Go Go.Pv
section
variable {E:Env}{st:St}{ub:Nat}{K:List FP→St→Prop}{d:Option Nat}{nm:Bool}{r:List AOpr}
end
theorem jwb {α:Type}{f:α→List V}{k:Nat}(hf:∀a,(f a).length=k) (nl:Bool) (l:List α) (n:Nat) (kk:IntKind):jaq k none (some (.int kk ((min l.length n:Nat):Int))) (jN nl f l)=some (.sl none nl (min l.length n) ((l.take n).flatMap f)):=by
 have h1:=jrp (kk:=kk) (t:=none) (nl:=nl) (sz:=k) (cs:=l.flatMap f) (n:=l.length) (k:=min l.length n) (Nat.min_le_left _ _) (j9 hf _)
 refine Eq.trans h1 ?_
 rw[jdt hf]
 congr 2
 rcases Nat.le_total l.length n with h|h
 ·rw[Nat.min_eq_left h,List.take_length,List.take_of_length_le h]
 ·rw[Nat.min_eq_right h]
theorem jo1 {st:St}{k:Nat}{v:V}(h:v.pureLeaf=true):Jm st (k+1) v=some v:=by
 cases v with
 | sl t nl n cs=>cases t with
  | none=>rfl
  | some t=>cases h
 | osl l u a n s=>cases h
 | _=>simp[Jm,h]
theorem jdv {st:St}{k:Nat}:∀ {l:List V},l.all V.pureLeaf=true→l.mapM (Jm st (k+1))=some l
 | [],_=>rfl
 | v::l,h=>by
  rw[List.all_cons,Bool.and_eq_true]at h
  rw[List.mapM_cons,jo1 h.1,jdv h.2]
  rfl
theorem jxj (l:List Op'):(l.flatMap opC).all V.pureLeaf=true:=by
 rw[List.all_flatMap,List.all_eq_true]
 intro t _
 rfl
theorem jnt {f:V→Option V}:∀ {l m l' m':List V},l.mapM f=some l'→m.mapM f=some m'→(l++m).mapM f=some (l'++m')
 | [],m,l',m',h,h'=>by
  cases (show some []=some l' from h)
  exact h'
 | v::l,m,l',m',h,h'=>by
  rw[List.mapM_cons]at h
  rw[List.cons_append,List.mapM_cons]
  cases hv:f v with
  | none=>rw[hv]at h;cases h
  | some v'=>
   rw[hv]at h
   cases hl:l.mapM f with
   | none=>rw[hl]at h;cases h
   | some r=>
    rw[hl]at h
    cases (show some (v'::r)=some l' from h)
    rw[jnt hl h']
    rfl
def txU (p:Txn' × Nat):List V:=[.int .i64 p.1.s,.int .i64 p.1.f,.osl (2*p.2+1) p.2 0 p.1.ops.length 4]
@[simp] theorem WR (p:Txn' × Nat):(txU p).length=3:=rfl
structure InO (ob:ZO) (lo hi:Nat) (p:Txn' × Nat):Prop where
 nl:p.1.nl=false
 lo:lo≤p.2
 hi:p.2<hi
 ob:∃X,ob (2*p.2+1)=some ⟨p.2,.cells X⟩∧p.1.ops.length*4≤X.length∧X.take (p.1.ops.length*4)=p.1.ops.flatMap opC
theorem InO.frame {ob ob':ZO}{lo hi hi':Nat}{p:Txn' × Nat}(h:InO ob lo hi p) (ho:ob' (2*p.2+1)=ob (2*p.2+1)) (hh:hi≤hi'):InO ob' lo hi' p :=
 ⟨h.nl,h.lo,by have:=h.hi;omega,by rw[ho];exact h.ob⟩
def TsO (ob:ZO) (lo hi:Nat) (P:List (Txn' × Nat)) (v:V):Prop :=
 (∀p∈P,InO ob lo hi p)∧((P=[]∧v=.sl none true 0 [])∨(P≠[]∧∃u,lo≤u∧u<hi∧(∀p∈P,p.2≠u)∧v=.osl (2*u+1) u 0 P.length 3∧ob (2*u+1)=some ⟨u,.cells (P.flatMap txU)⟩))
theorem TsO.frame {ob ob':ZO}{lo hi hi':Nat}{P:List (Txn' × Nat)}{v:V}(h:TsO ob lo hi P v) (ho:∀u,lo≤u→u<hi→ob' (2*u+1)=ob (2*u+1)) (hh:hi≤hi'):TsO ob' lo hi' P v:=by
 refine⟨fun p hp=>(h.1 p hp).frame (ho _ (h.1 p hp).lo (h.1 p hp).hi) hh,?_⟩
 rcases h.2 with h2|⟨hne,u,h1,h2,h3,h4,h5⟩
 ·exact .inl h2
 ·exact .inr ⟨hne,u,h1,zO,h3,h4,by rw[ho u h1 h2];exact h5⟩
theorem jwa {st:St}{lo hi:Nat}{p:Txn' × Nat}(h:InO st.ob lo hi p) (hr:st.ro≤lo):Jm st 5 (.osl (2*p.2+1) p.2 0 p.1.ops.length 4)=some (jN p.1.nl opC p.1.ops):=by
 obtain⟨X,h1,h2,h3⟩:=h.ob
 have hlo:=h.lo
 have hoc:j1 st.ob (2*p.2+1) p.2=some X:=by simp[j1,h1]
 show((j1 st.ob (2*p.2+1) p.2).bind fun cs=>if Nat.ble st.ro p.2=true∧0+p.1.ops.length*4≤cs.length then (((cs.drop 0).take (p.1.ops.length*4)).mapM (Jm st 4)).map fun cs'=>V.sl none false p.1.ops.length cs' else none)=_
 rw[hoc,Option.bind_some,if_pos ⟨Nat.ble_eq▸zO,zO⟩,List.drop_zero,h3,jdv (jxj _),h.nl]
 rfl
theorem jir {st:St}{lo hi:Nat}(hr:st.ro≤lo):∀ {P:List (Txn' × Nat)},(∀p∈P,InO st.ob lo hi p)→(P.flatMap txU).mapM (Jm st 5)=some ((P.map (·.1)).flatMap jl)
 | [],_=>rfl
 | p::P,h=>by
  rw[List.flatMap_cons,List.map_cons,List.flatMap_cons]
  refine jnt ?_ (jir hr fun q hq=>h q (List.mem_cons_of_mem _ hq))
  have:=jwa (h p (List.mem_cons_self ..)) hr
  show[V.int .i64 p.1.s,.int .i64 p.1.f,.osl (2*p.2+1) p.2 0 p.1.ops.length 4].mapM (Jm st 5)=_
  rw[List.mapM_cons,List.mapM_cons,List.mapM_cons,this]
  rfl
theorem TsO.out {st:St}{lo hi:Nat}{P:List (Txn' × Nat)}{v:V}(h:TsO st.ob lo hi P v) (hr:st.ro≤lo):jfh st v P.isEmpty P.length ((P.map (·.1)).flatMap jl):=by
 rcases h.2 with⟨rfl,rfl⟩|⟨hne,u,h1,h2,h3,rfl,h5⟩
 ·exact jc8 _ none true 0 []
 ·intro keep i
  have hoc:j1 st.ob (2*u+1) u=some (P.flatMap txU):=by simp[j1,h5]
  have hs:Jm st 6 (.osl (2*u+1) u 0 P.length 3)=some (.sl none false P.length ((P.map (·.1)).flatMap jl)):=by
   show((j1 st.ob (2*u+1) u).bind fun cs=>if Nat.ble st.ro u=true∧0+P.length*3≤cs.length then (((cs.drop 0).take (P.length*3)).mapM (Jm st 5)).map fun cs'=>V.sl none false P.length cs' else none)=_
   rw[hoc,Option.bind_some,if_pos ⟨Nat.ble_eq▸zO,by rw[j9 WR];omega⟩,List.drop_zero,← j9 WR P,List.take_length,jir hr h.1]
   rfl
  have he:P.isEmpty=false:=by cases P <;> simp_all
  rw[he]
  refine⟨_,by simp only[jr,hs,Option.bind_some,hoc,Option.map_some];rfl,?_⟩
  split
  ·exact .inr ⟨_,rfl⟩
  ·exact .inl rfl
section
variable {Yf:YF}{st:St}{ub:Nat}{K:St→Nat→Prop}{d:Nat}
theorem jxu {α:Type}{f:α→List V}{l:List α}{z sz bytes:Nat}{s x:A}(hs:eval E st.tm s=.osl (2*z+1) z 0 0 sz) (ho:st.ob (2*z+1)=some ⟨z,.cells []⟩) (hro:st.ro≤z)
 (hx:jI st.ob sz (eval E st.tm x)=some (l.flatMap f)) (hf:∀a,(f a).length=sz) (h0:0<sz) (hp:(l.flatMap f).all V.leaf=true) (hb:l.length*bytes≤140737488355328) (hb2:l.length≤140737488355328)
 (h:∀ (s1:St) (u:Nat),(u=z∨u=ub)→s1.ob (2*u+1)=some ⟨u,.cells (l.flatMap f)⟩→(∀key,key≠2*z+1→key≠2*ub+1→s1.ob key=st.ob key)→(∀t,s1.tm t=if t=d then .osl (2*u+1) u 0 l.length sz else st.tm t)→s1.df=st.df→s1.ro=st.ro→s1.fb=st.fb→s1.tk=st.tk→K s1 (ub+64)) :
 j8 E Yf ⟨some d,.append true sz bytes s x,none,true⟩ st ub K:=by
 cases l with
 | nil=>
  rw[jT _ rfl rfl]
  simp only[aop,hs,hx,Option.bind_some,List.flatMap_nil,if_true]
  have hoc:j1 st.ob (2*z+1) z=some []:=by simp[j1,ho]
  rw[hoc,Option.bind_some,Yo]
  show jaj K st (some d) ub _
  rw[jba]
  exact h _ z (.inl rfl) (by simpa using ho) (fun key _ _=>by simp) (fun t=>by rw[jkc];rfl) rfl rfl rfl zS
 | cons a l=>
  have h1:((a::l).flatMap f).length / sz=(a::l).length:=by rw[j9 hf];exact Nat.mul_div_cancel _ h0
  have hne:(a::l).flatMap f≠[]:=fun e=>by have:=congrArg List.length e;rw[j9 hf]at this;have:=Nat.mul_pos (show 0<(a::l).length by simp) h0;simp_all
  refine XN (l:=2*z+1) (u:=z) (n:=0) (cs:=[]) (ys:=(a::l).flatMap f) hs hx ho hne hro zS h0 hp (by rw[h1,Nat.zero_add];exact hb) (by rw[h1,Nat.zero_add];exact hb2) ?_
  rw[jba,h1,Nat.zero_add]
  refine h _ ub (.inr rfl) ?_ (fun key k1 k2=>?_) (fun t=>by rw[jkc];rfl) rfl rfl rfl ?_
  ·simp[jL]
  ·simp[jL,k1,k2]
  ·rfl
theorem jlt {lo hi:Nat}{P:List (Txn' × Nat)}{p:Txn' × Nat}{s x:A}(hT:TsO st.ob lo hi P (eval E st.tm s)) (hle:hi≤ub) (hro:st.ro≤lo) (hx:jI st.ob 3 (eval E st.tm x)=some (txU p)) (hp:InO st.ob hi ub p) (hlh:lo≤hi) (hlen:P.length≤100000)
 (h:∀ (s1:St) (v':V),TsO s1.ob lo (ub+64) (P++[p]) v'→(∀key,(∀u,lo≤u→u<hi→key≠2*u+1)→key≠2*ub+1→s1.ob key=st.ob key)→(∀t,s1.tm t=if t=d then v' else st.tm t)→s1.df=st.df→s1.ro=st.ro→s1.fb=st.fb→s1.tk=st.tk→K s1 (ub+64)) :
 j8 E Yf ⟨some d,.append true 3 40 s x,none,true⟩ st ub K:=by
 have hpl:=hp.lo
 have hph:=hp.hi
 rcases hT.2 with⟨rfl,h0⟩|⟨hne,u,h1,h2,h3,h4,h5⟩
 ·refine Yu (n:=0) (cs:=[]) (ys:=txU p) h0 hx (by simp[txU]) (by decide) rfl zS zS ?_
  rw[jba,show(txU p).length / 3=1 by rw[WR]]
  refine h _ (.osl (2*ub+1) ub 0 1 3) ⟨?_,.inr ⟨zS,ub,zO,zO,?_,zS,?_⟩⟩ (fun key k1 k2=>?_) (fun t=>by rw[jkc];rfl) rfl rfl rfl ?_
  ·intro q hq
   simp only[List.nil_append,List.mem_singleton]at hq
   subst hq
   refine⟨hp.nl,zO,zO,?_⟩
   have:¬ 2*q.2=2*ub:=by omega
   simpa[jL,Jy,this] using hp.ob
  ·intro q hq
   simp only[List.nil_append,List.mem_singleton]at hq
   subst hq
   omega
  ·simp[jL,Jy]
  ·simp[jL,Jy,k2]
  ·rfl
 ·refine XN (l:=2*u+1) (u:=u) (n:=P.length) (cs:=P.flatMap txU) (ys:=txU p) h4 hx h5 (by simp[txU]) zO (by rw[j9 WR];omega) (by decide) rfl (by simp;omega) (by simp;omega) ?_
  rw[jba,show(txU p).length / 3=1 by rw[WR]]
  refine h _ (.osl (2*ub+1) ub 0 (P.length+1) 3) ⟨?_,.inr ⟨zS,ub,zO,zO,?_,zS,?_⟩⟩ (fun key k1 k2=>?_) (fun t=>by rw[jkc];rfl) rfl rfl rfl ?_
  ·intro q hq
   rw[List.mem_append,List.mem_singleton]at hq
   rcases hq with hq|rfl
   ·have hi:=hT.1 q hq
    refine⟨hi.nl,hi.lo,by have:=hi.hi;omega,?_⟩
    have e1:¬ 2*q.2=2*ub:=by have:=hi.hi;omega
    have e2:¬ 2*q.2=2*u:=by have:=h3 q hq;omega
    simpa[jL,e1,e2] using hi.ob
   ·refine⟨hp.nl,zO,zO,?_⟩
    have e1:¬ 2*q.2=2*ub:=by omega
    have e2:¬ 2*q.2=2*u:=by omega
    simpa[jL,e1,e2] using hp.ob
  ·intro q hq
   rw[List.mem_append,List.mem_singleton]at hq
   rcases hq with hq|rfl
   ·have:=(hT.1 q hq).hi;omega
   ·omega
  ·simp[jL]
   exact List.take_of_length_le (by rw[j9 WR];omega)
  ·have e:=k1 u h1 h2
   simp[jL,e,k2]
  ·rfl
end
section
variable {E:Env}{st:St}{ub:Nat}{K:List FP→St→Prop}{d:Option Nat}{r:List AOpr}
theorem Xh {sz n:Nat}{zero:List V}{parts:List (Nat × Nat × A)}{cs:List V}(hf:fill zero (jq (eval E st.tm) parts)=some cs) (hl:cs.length=n*sz) (hp:cs.all V.leaf=true)
 (h:YS E r K (eval E st.tm) (.buildSl true sz zero parts n) st d ub { v:=.osl (2*ub+1) ub 0 n sz,obs:=[(2*ub+1,⟨ub,.cells cs⟩)] }):jF E (⟨d,.buildSl true sz zero parts n,none,true⟩::r) st ub K:=by
 rw[jt rfl]
 simp only[aop,hf,Option.bind_some,if_true]
 rw[if_pos ⟨hl,hp⟩,Jh,jM]
 exact h
end
theorem jet {α β:Type}{l:List α}{m:List β}(h:l.length=m.length):l.isEmpty=m.isEmpty:=by
 cases l <;> cases m <;> simp_all
def StO (ob:ZO) (lo hi:Nat) (l:List (List UInt8)) (v:V):Prop :=
 (l=[]∧v=.sl none true 0 [])∨(l≠[]∧∃u,lo≤u∧u<hi∧v=.osl (2*u+1) u 0 l.length 1∧ob (2*u+1)=some ⟨u,.cells (l.flatMap JL)⟩)
theorem StO.frame {ob ob':ZO}{lo hi lo' hi':Nat}{l:List (List UInt8)}{v:V}(h:StO ob lo hi l v) (ho:∀u,lo≤u→u<hi→ob' (2*u+1)=ob (2*u+1)) (hl:lo'≤lo) (hh:hi≤hi'):StO ob' lo' hi' l v:=by
 rcases h with h|⟨hne,u,h1,h2,h3,h4⟩
 ·exact .inl h
 ·exact .inr ⟨hne,u,zO,zO,h3,by rw[ho u h1 h2];exact h4⟩
theorem StO.leaf {ob:ZO}{lo hi:Nat}{l:List (List UInt8)}{v:V}(h:StO ob lo hi l v):v.leaf=true∧v.cells=[v]:=by
 rcases h with⟨_,rfl⟩|⟨_,u,_,_,rfl,_⟩ <;> exact⟨rfl,rfl⟩
theorem TsO.leaf {ob:ZO}{lo hi:Nat}{P:List (Txn' × Nat)}{v:V}(h:TsO ob lo hi P v):v.leaf=true∧v.cells=[v]:=by
 rcases h.2 with⟨_,rfl⟩|⟨_,u,_,_,_,rfl,_⟩ <;> exact⟨rfl,rfl⟩
theorem StO.out {st:St}{lo hi:Nat}{l:List (List UInt8)}{v:V}(h:StO st.ob lo hi l v) (hr:st.ro≤lo):jfh st v l.isEmpty l.length (l.flatMap JL):=by
 rcases h with⟨rfl,rfl⟩|⟨hne,u,h1,h2,rfl,h4⟩
 ·exact jc8 _ none true 0 []
 ·have he:l.isEmpty=false:=by cases l <;> simp_all
  rw[he]
  exact jis h4 (by rw[j9 YG,Nat.mul_one]) zO (by rw[List.all_flatMap,List.all_eq_true];intro _ _;rfl)
theorem jZ (st:St) (d:Option Nat) (v:V) (l k:Nat) (o':Obj') (ks:List Nat):(st.app d { v:=v,obs:=[(l,o')],kill:=ks }).ob k=if k=l then some o' else if ks.any (Nat.beq k) then none else st.ob k:=by
 simp[St.app,JK,j5]
theorem jes {E:Env}{st:St}{ub:Nat}{K:List FP→St→Prop}{d:Option Nat}{r:List AOpr}{lo hi:Nat}{l:List (List UInt8)}{c:List UInt8}{s x:A}(hS:StO st.ob lo hi l (eval E st.tm s)) (hx:jI st.ob 1 (eval E st.tm x)=some (JL c)) (hro:st.ro≤lo) (hlen:l.length≤1000)
 (h:∀ks:List Nat,(∀k∈ks,∃u,lo≤u∧u<hi∧k=2*u+1)→YS E r K (eval E st.tm) (.append true 1 16 s x) st d ub { v:=.osl (2*ub+1) ub 0 (l.length+1) 1,obs:=[(2*ub+1,⟨ub,.cells ((l++[c]).flatMap JL)⟩)],kill:=ks }) :
 jF E (⟨d,.append true 1 16 s x,none,true⟩::r) st ub K:=by
 rw[jt rfl]
 rcases hS with⟨rfl,h0⟩|⟨hne,u,h1,h2,h3,h4⟩
 ·simp only[aop,h0,hx,Option.bind_some]
  rw[if_neg (by simp[JL]),if_pos (show(true && true)=true from rfl),if_pos ⟨by decide,rfl,by simp[JL],by simp[JL]⟩,Jh,jM]
  have:=h [] (fun k hk=>by cases hk)
  have e:([]++[c]).flatMap JL=JL c:=by simp
  rw[e]at this
  have e2:(JL c).length / 1=1:=by simp[JL]
  rw[e2]
  exact this
 ·have hoc:j1 st.ob (2*u+1) u=some (l.flatMap JL):=by simp[j1,h4]
  simp only[aop,h3,hx,Option.bind_some,hoc]
  have hll:(l.flatMap JL).length=l.length:=by rw[j9 YG,Nat.mul_one]
  rw[if_neg (by simp[JL]),if_pos ⟨Nat.ble_eq▸zO,trivial,trivial,by rw[hll];omega,by decide,rfl,by simp[JL];omega,by simp[JL];omega⟩,jM]
  have:=h [2*u+1] (fun k hk=>by simp only[List.mem_singleton]at hk;exact⟨u,h1,h2,hk⟩)
  have e:(l++[c]).flatMap JL=(l.flatMap JL).take (l.length*1)++JL c:=by
   rw[List.take_of_length_le (by rw[hll];omega),List.flatMap_append]
   simp
  rw[e]at this
  have e2:(JL c).length / 1=1:=by simp[JL]
  rw[e2]
  exact this
theorem j0i {ks:List Nat}{key:Nat}(h:∀k∈ks,key≠k):ks.any (Nat.beq key)=false:=by
 rw[List.any_eq_false]
 intro k hk he
 exact h k hk (Nat.eq_of_beq_eq_true he)
def jfu:C:=tlC (tlC S51.body)
def jft:C:=tlC jfu
def jh2:C:=tlC jft
def jyr:C:=tlC jh2
structure FewO (h:Hist') (ob0:ZO) (ub ro:Nat) (s:St) (a b N1 N2:Nat) (Sv Kv Tv:V) (P:List (Txn' × Nat)):Prop where
 t1:s.tm 1=.ptr (2*ub+1) ub 0
 t2:s.tm 2=.ptr (2*(ub+64)+1) (ub+64) 0
 t3:s.tm 3=.ptr (2*(ub+192)+1) (ub+192) 0
 d:s.df=[]
 ro:s.ro=ro
 o1:s.ob (2*ub+1)=some ⟨ub,.cells (j2 h)⟩
 o2:s.ob (2*(ub+64)+1)=some ⟨ub+64,.cells [.sl none true 0 [],.sl none true 0 [],.sl none true 0 []]⟩
 o3:s.ob (2*(ub+192)+1)=some ⟨ub+192,.cells [Sv,Kv,Tv]⟩
 gS:StO s.ob (ub+256) N1 (YM a h.ss) Sv
 gK:StO s.ob N1 N2 (YM b h.ks) Kv
 gT:TsO s.ob N2 s.nx P Tv
 n0:ub+256≤N1
 n1:N1≤N2
 n2:N2≤s.nx
 fr:∀key,(∀m,ub≤m→key≠2*m+1)→s.ob key=ob0 key
theorem few0S {h:Hist'}{Yf:YF}{ob:ZO}{tk:Nat→Bool}{ro base ub:Nat}{Q:Ex→St→Prop}(hro:ro≤ub) (hrest:∀s,FewO h ob ub ro s 0 0 s.nx s.nx (.sl none true 0 []) (.sl none true 0 []) (.sl none true 0 []) []→wpC E Yf jfu s Q) :
 wpC E Yf S51.body (X5 [.agg (j2 h)] ob tk ro base ub) Q:=by
 have e:S51.body=.seq (hdC S51.body) (.seq (hdC (tlC S51.body)) jfu):=rfl
 rw[e]
 simp[hdC,tlC,S51,j2,j1,j6]
 have a1:¬ 2*ub=2*(ub+64):=by omega
 have a2:¬ 2*ub=2*(ub+64+64+64):=by omega
 have a3:¬ 2*(ub+64)=2*(ub+64+64+64):=by omega
 refine⟨zO,hrest _ ⟨zS,zS,zS,zS,zS,by simp[j2,a1,a2],by simp[a3],zS,.inl ⟨rfl,rfl⟩,.inl ⟨rfl,rfl⟩,⟨zS,.inl ⟨rfl,rfl⟩⟩,zS,Nat.le_refl _,Nat.le_refl _,fun key hk=>?_⟩⟩
 have e1:=hk ub (Nat.le_refl _)
 have e2:=hk (ub+64) zO
 have e3:=hk (ub+64+64+64) zO
 simp[e1,e2,e3]
theorem jyu:jfu=.seq (hdC jfu) jft:=rfl
theorem few1O {h:Hist'}{Yf:YF}{ob0:ZO}{ub ro:Nat}{s0:St}{Q:Ex→St→Prop}(hru:ro≤ub) (hs:FewO h ob0 ub ro s0 0 0 s0.nx s0.nx (.sl none true 0 []) (.sl none true 0 []) (.sl none true 0 []) [])
 (hrest:∀s Sv,FewO h ob0 ub ro s 25 0 s.nx s.nx Sv (.sl none true 0 []) (.sl none true 0 []) []→wpC E Yf jft s Q):wpC E Yf jfu s0 Q:=by
 rw[jyu]
 obtain⟨f1,f2,f3,fd,fr,o1,o2,o3,gS,gK,gT,n0,n1,n2,ff⟩:=hs
 simp[hdC,jfu,tlC,S51]
 refine jE [(4,4),(9,37)] 25 (fun i s=>s.tm 4=.int .i64 i∧i≤h.ss.length∧∃Sv,FewO h ob0 ub ro s i 0 s.nx s.nx Sv (.sl none true 0 []) (.sl none true 0 []) []) rfl rfl ?_ ?_
 ·refine⟨zS,zS,.sl none true 0 [],⟨by simp[f1],by simp[f2],by simp[f3],by simp[fd],by simp[fr],by simp[o1],by simp[o2],by simp[o3],.inl ⟨rfl,rfl⟩,.inl ⟨rfl,rfl⟩,⟨zS,.inl ⟨rfl,rfl⟩⟩,by simp;omega,Nat.le_refl _,Nat.le_refl _,fun key hk=>by simp[ff key hk]⟩⟩
 rintro i s hi ⟨h4,hle,Sv,f1,f2,f3,fd,fr,o1,o2,o3,gS,gK,gT,n0,n1,n2,ff⟩ f
 clear f
 have hend:¬ (i<h.ss.length∧i<25)→∀s':St,(s'.tm 1=s.tm 1∧s'.tm 2=s.tm 2∧s'.tm 3=s.tm 3)→s'.df=s.df→s'.ro=s.ro→s'.ob=s.ob→s.nx≤s'.nx→wpC E Yf jft s' Q:=by
  intro hx s' ⟨q1,q2,q3⟩ e2 e3 e4 e5
  refine hrest s' Sv ⟨q1.trans f1,q2.trans f2,q3.trans f3,by rw[e2];exact fd,by rw[e3];exact fr,by rw[e4];exact o1,by rw[e4];exact o2,by rw[e4];exact o3,?_,.inl ⟨rfl,rfl⟩,⟨zS,.inl ⟨rfl,rfl⟩⟩,zO,Nat.le_refl _,Nat.le_refl _,fun key hk=>by rw[e4];exact ff key hk⟩
  rw[← joc hle hi hx,e4]
  exact gS.frame (fun _ _ _=>rfl) (Nat.le_refl _) e5
 have o1':s.ob (2*ub+1)=some ⟨ub,.cells [jN h.sn JL h.ss,jN h.kn JL h.ks,jN h.tn jl h.ts]⟩:=o1
 by_cases hlt:i<h.ss.length
 ·by_cases hl5:i<25
  ·have hw:=J0 hl5 zO
   have hl5':(i:Int)<25:=by omega
   obtain⟨c,hc⟩:∃c,h.ss[i]=c:=⟨_,rfl⟩
   have hsi:=jfz h.ss hlt
   have hsn:=jj7 hlt hl5
   rw[hc]at hsi hsn
   have hmn:=jei c.length 100
   have hst:=jmz (l:=c) (kk:=.i64) (Nat.min_le_left c.length 100)
   have htk:=jds c
   rw[htk]at hst
   rw[show((100:Nat):Int)=100 from rfl]at hmn
   simp[hmn,hst,h4,f1,o1',j1,hlt,hl5',f3,o3,j7 YG,hsi]
   refine Xh (cs:=[.str (c.take 100)]) (by simp[j6]) rfl rfl ?_
   simp
   have e24:s.nx≤(s.nx+64+64+64+64+64+64+64+64+64+64+64+64+64+64+64+64+64+64+64+64+64+64+64+64):=by omega
   have e25:s.nx≤(s.nx+64+64+64+64+64+64+64+64+64+64+64+64+64+64+64+64+64+64+64+64+64+64+64+64+64):=by omega
   have e26:(s.nx+64+64+64+64+64+64+64+64+64+64+64+64+64+64+64+64+64+64+64+64+64+64+64+64)<(s.nx+64+64+64+64+64+64+64+64+64+64+64+64+64+64+64+64+64+64+64+64+64+64+64+64+64):=by omega
   have hll:=joa i h.ss
   refine jes (lo:=ub+256) (hi:=s.nx) (l:=YM i h.ss) (c:=c.take 100) ?_ (by simp[jI,j1];rfl) (by simp[fr];omega) zO fun ks hks=>?_
   ·simp
    refine gS.frame (fun u h1 h2=>?_) (Nat.le_refl _) (Nat.le_refl _)
    have e1:¬ 2*u=2*(s.nx+64+64+64+64+64+64+64+64+64+64+64+64+64+64+64+64+64+64+64+64+64+64+64+64):=by omega
    simp[e1]
   rw[← hsn]
   have hlen:(YM i h.ss).length+1=(YM (i+1) h.ss).length:=by rw[hsn];simp
   rw[hlen]
   have hno:∀key,(∀u,ub+256≤u→u<s.nx→key≠2*u+1)→ks.any (Nat.beq key)=false:=fun key hk=>j0i fun k hkk=>by
    obtain⟨u,h1,h2,h3⟩:=hks k hkk
    rw[h3];exact hk u h1 h2
   have hn1:=hno (2*ub+1) (fun u _ _=>by omega)
   have hn2:=hno (2*(ub+64)+1) (fun u _ _=>by omega)
   have hn3:=hno (2*(ub+192)+1) (fun u _ _=>by omega)
   have w1:¬ 2*ub=2*(s.nx+64+64+64+64+64+64+64+64+64+64+64+64+64+64+64+64+64+64+64+64+64+64+64+64+64):=by omega
   have w2:¬ 2*(ub+64)=2*(s.nx+64+64+64+64+64+64+64+64+64+64+64+64+64+64+64+64+64+64+64+64+64+64+64+64+64):=by omega
   have w3:¬ 2*(ub+192)=2*(s.nx+64+64+64+64+64+64+64+64+64+64+64+64+64+64+64+64+64+64+64+64+64+64+64+64+64):=by omega
   have w4:¬ 2*ub=2*(s.nx+64+64+64+64+64+64+64+64+64+64+64+64+64+64+64+64+64+64+64+64+64+64+64+64):=by omega
   have w5:¬ 2*(ub+64)=2*(s.nx+64+64+64+64+64+64+64+64+64+64+64+64+64+64+64+64+64+64+64+64+64+64+64+64):=by omega
   have w6:¬ 2*(ub+192)=2*(s.nx+64+64+64+64+64+64+64+64+64+64+64+64+64+64+64+64+64+64+64+64+64+64+64+64):=by omega
   have w7:¬ 2*(s.nx+64+64+64+64+64+64+64+64+64+64+64+64+64+64+64+64+64+64+64+64+64+64+64+64+64)=2*(ub+192):=by omega
   have w8:¬ 2*ub=2*(ub+192):=by omega
   have w9:¬ 2*(ub+64)=2*(ub+192):=by omega
   simp[f3,j1,jZ,hn3,w3,w6,o3,fr,j6,h4,hw]
   refine⟨zO,?_,?_⟩
   ·simp[Jo,QC,jc5,jbe,rdOb,rdTk,lOf,Delta.wo,Delta.wt]
    exact nbeq zO
   have hne:YM (i+1) h.ss≠[]:=by rw[hsn];simp
   refine⟨hl5,zO,.osl (2*(s.nx+64+64+64+64+64+64+64+64+64+64+64+64+64+64+64+64+64+64+64+64+64+64+64+64+64)+1) (s.nx+64+64+64+64+64+64+64+64+64+64+64+64+64+64+64+64+64+64+64+64+64+64+64+64+64) 0 (YM (i+1) h.ss).length 1,⟨by simp[f1],by simp[f2],by simp[f3],by simp[fd],by simp[fr],by simp[jZ,hn1,w1,w4,w8,o1],by simp[jZ,hn2,w2,w5,w9,o2],zS,
    .inr ⟨hne,(s.nx+64+64+64+64+64+64+64+64+64+64+64+64+64+64+64+64+64+64+64+64+64+64+64+64+64),zO,zS,rfl,by simp[jZ,w7]⟩,.inl ⟨rfl,rfl⟩,⟨zS,.inl ⟨rfl,rfl⟩⟩,by simp;omega,Nat.le_refl _,Nat.le_refl _,fun key hk=>?_⟩⟩
   have k1:=hk (ub+192) zO
   have k2:=hk (s.nx+64+64+64+64+64+64+64+64+64+64+64+64+64+64+64+64+64+64+64+64+64+64+64+64+64) zO
   have k3:=hk (s.nx+64+64+64+64+64+64+64+64+64+64+64+64+64+64+64+64+64+64+64+64+64+64+64+64) zO
   have k4:=hno key (fun u h1 h2=>hk u zO)
   simp[jZ,k1,k2,k3,k4]
   exact ff key hk
  ·have hl5':¬ (i:Int)<25:=by omega
   simp[h4,f1,o1',j1,hlt,hl5']
   exact hend zO _ ⟨zS,zS,zS⟩ zS zS (by funext k;simp) (by simp;omega)
 ·simp[h4,f1,o1',j1,hlt]
  exact hend zO _ ⟨zS,zS,zS⟩ zS zS (by funext k;simp) (by simp;omega)
theorem jyt:jft=.seq (hdC jft) jh2:=rfl
theorem few2O {h:Hist'}{Yf:YF}{ob0:ZO}{ub ro:Nat}{s0:St}{Q:Ex→St→Prop}{N1:Nat}{S0:V}(hru:ro≤ub) (hs:FewO h ob0 ub ro s0 25 0 N1 s0.nx S0 (.sl none true 0 []) (.sl none true 0 []) [])
 (hrest:∀s Kv,FewO h ob0 ub ro s 25 45 N1 s.nx S0 Kv (.sl none true 0 []) []→wpC E Yf jh2 s Q):wpC E Yf jft s0 Q:=by
 rw[jyt]
 obtain⟨f1,f2,f3,fd,fr,o1,o2,o3,gS,gK,gT,n0,n1,n2,ff⟩:=hs
 simp[hdC,jft,jfu,tlC,S51]
 refine jE [(5,5),(38,66)] 45 (fun i s=>s.tm 5=.int .i64 i∧i≤h.ks.length∧∃Kv,FewO h ob0 ub ro s 25 i N1 s.nx S0 Kv (.sl none true 0 []) []) rfl rfl ?_ ?_
 ·refine⟨zS,zS,.sl none true 0 [],⟨by simp[f1],by simp[f2],by simp[f3],by simp[fd],by simp[fr],by simp[o1],by simp[o2],by simp[o3],gS.frame (fun _ _ _=>by simp) (Nat.le_refl _) (Nat.le_refl _),.inl ⟨rfl,rfl⟩,⟨zS,.inl ⟨rfl,rfl⟩⟩,n0,by simp;omega,Nat.le_refl _,fun key hk=>by simp[ff key hk]⟩⟩
 rintro i s hi ⟨h4,hle,Kv,f1,f2,f3,fd,fr,o1,o2,o3,gS,gK,gT,n0,n1,n2,ff⟩ f
 clear f
 have hend:¬ (i<h.ks.length∧i<45)→∀s':St,(s'.tm 1=s.tm 1∧s'.tm 2=s.tm 2∧s'.tm 3=s.tm 3)→s'.df=s.df→s'.ro=s.ro→s'.ob=s.ob→s.nx≤s'.nx→wpC E Yf jh2 s' Q:=by
  intro hx s' ⟨q1,q2,q3⟩ e2 e3 e4 e5
  refine hrest s' Kv ⟨q1.trans f1,q2.trans f2,q3.trans f3,by rw[e2];exact fd,by rw[e3];exact fr,by rw[e4];exact o1,by rw[e4];exact o2,by rw[e4];exact o3,by rw[e4];exact gS,?_,⟨zS,.inl ⟨rfl,rfl⟩⟩,n0,zO,Nat.le_refl _,fun key hk=>by rw[e4];exact ff key hk⟩
  rw[← joc hle hi hx,e4]
  exact gK.frame (fun _ _ _=>rfl) (Nat.le_refl _) e5
 have o1':s.ob (2*ub+1)=some ⟨ub,.cells [jN h.sn JL h.ss,jN h.kn JL h.ks,jN h.tn jl h.ts]⟩:=o1
 by_cases hlt:i<h.ks.length
 ·by_cases hl5:i<45
  ·have hw:=J0 hl5 zO
   have hl5':(i:Int)<45:=by omega
   obtain⟨c,hc⟩:∃c,h.ks[i]=c:=⟨_,rfl⟩
   have hsi:=jfz h.ks hlt
   have hsn:=jj7 hlt hl5
   rw[hc]at hsi hsn
   have hmn:=jei c.length 100
   have hst:=jmz (l:=c) (kk:=.i64) (Nat.min_le_left c.length 100)
   have htk:=jds c
   rw[htk]at hst
   rw[show((100:Nat):Int)=100 from rfl]at hmn
   simp[hmn,hst,h4,f1,o1',j1,hlt,hl5',f3,o3,j7 YG,hsi]
   refine Xh (cs:=[.str (c.take 100)]) (by simp[j6]) rfl rfl ?_
   simp
   have e24:s.nx≤(s.nx+64+64+64+64+64+64+64+64+64+64+64+64+64+64+64+64+64+64+64+64+64+64+64+64):=by omega
   have e25:s.nx≤(s.nx+64+64+64+64+64+64+64+64+64+64+64+64+64+64+64+64+64+64+64+64+64+64+64+64+64):=by omega
   have e26:(s.nx+64+64+64+64+64+64+64+64+64+64+64+64+64+64+64+64+64+64+64+64+64+64+64+64)<(s.nx+64+64+64+64+64+64+64+64+64+64+64+64+64+64+64+64+64+64+64+64+64+64+64+64+64):=by omega
   have hll:=joa i h.ks
   refine jes (lo:=N1) (hi:=s.nx) (l:=YM i h.ks) (c:=c.take 100) ?_ (by simp[jI,j1];rfl) (by simp[fr];omega) zO fun ks hks=>?_
   ·simp
    refine gK.frame (fun u h1 h2=>?_) (Nat.le_refl _) (Nat.le_refl _)
    have e1:¬ 2*u=2*(s.nx+64+64+64+64+64+64+64+64+64+64+64+64+64+64+64+64+64+64+64+64+64+64+64+64):=by omega
    simp[e1]
   rw[← hsn]
   have hlen:(YM i h.ks).length+1=(YM (i+1) h.ks).length:=by rw[hsn];simp
   rw[hlen]
   have hno:∀key,(∀u,N1≤u→u<s.nx→key≠2*u+1)→ks.any (Nat.beq key)=false:=fun key hk=>j0i fun k hkk=>by
    obtain⟨u,h1,h2,h3⟩:=hks k hkk
    rw[h3];exact hk u h1 h2
   have hn1:=hno (2*ub+1) (fun u _ _=>by omega)
   have hn2:=hno (2*(ub+64)+1) (fun u _ _=>by omega)
   have hn3:=hno (2*(ub+192)+1) (fun u _ _=>by omega)
   have w1:¬ 2*ub=2*(s.nx+64+64+64+64+64+64+64+64+64+64+64+64+64+64+64+64+64+64+64+64+64+64+64+64+64):=by omega
   have w2:¬ 2*(ub+64)=2*(s.nx+64+64+64+64+64+64+64+64+64+64+64+64+64+64+64+64+64+64+64+64+64+64+64+64+64):=by omega
   have w3:¬ 2*(ub+192)=2*(s.nx+64+64+64+64+64+64+64+64+64+64+64+64+64+64+64+64+64+64+64+64+64+64+64+64+64):=by omega
   have w4:¬ 2*ub=2*(s.nx+64+64+64+64+64+64+64+64+64+64+64+64+64+64+64+64+64+64+64+64+64+64+64+64):=by omega
   have w5:¬ 2*(ub+64)=2*(s.nx+64+64+64+64+64+64+64+64+64+64+64+64+64+64+64+64+64+64+64+64+64+64+64+64):=by omega
   have w6:¬ 2*(ub+192)=2*(s.nx+64+64+64+64+64+64+64+64+64+64+64+64+64+64+64+64+64+64+64+64+64+64+64+64):=by omega
   have w7:¬ 2*(s.nx+64+64+64+64+64+64+64+64+64+64+64+64+64+64+64+64+64+64+64+64+64+64+64+64+64)=2*(ub+192):=by omega
   have w8:¬ 2*ub=2*(ub+192):=by omega
   have w9:¬ 2*(ub+64)=2*(ub+192):=by omega
   simp[f3,j1,jZ,hn3,w3,w6,o3,fr,j6,h4,hw]
   refine⟨zO,?_,?_⟩
   ·simp[Jo,QC,jc5,jbe,rdOb,rdTk,lOf,Delta.wo,Delta.wt]
    exact nbeq zO
   have hne:YM (i+1) h.ks≠[]:=by rw[hsn];simp
   refine⟨hl5,zO,.osl (2*(s.nx+64+64+64+64+64+64+64+64+64+64+64+64+64+64+64+64+64+64+64+64+64+64+64+64+64)+1) (s.nx+64+64+64+64+64+64+64+64+64+64+64+64+64+64+64+64+64+64+64+64+64+64+64+64+64) 0 (YM (i+1) h.ks).length 1,⟨by simp[f1],by simp[f2],by simp[f3],by simp[fd],by simp[fr],by simp[jZ,hn1,w1,w4,w8,o1],by simp[jZ,hn2,w2,w5,w9,o2],zS,
    gS.frame (fun u h1 h2=>?_) (Nat.le_refl _) (Nat.le_refl _),.inr ⟨hne,(s.nx+64+64+64+64+64+64+64+64+64+64+64+64+64+64+64+64+64+64+64+64+64+64+64+64+64),zO,zS,rfl,by simp[jZ,w7]⟩,⟨zS,.inl ⟨rfl,rfl⟩⟩,n0,by first|omega|(simp;omega),Nat.le_refl _,fun key hk=>?_⟩⟩
   ·have k1:¬ 2*u=2*(ub+192):=by omega
    have k2:¬ 2*u=2*(s.nx+64+64+64+64+64+64+64+64+64+64+64+64+64+64+64+64+64+64+64+64+64+64+64+64+64):=by omega
    have k3:¬ 2*u=2*(s.nx+64+64+64+64+64+64+64+64+64+64+64+64+64+64+64+64+64+64+64+64+64+64+64+64):=by omega
    have k4:=hno (2*u+1) (fun u' _ _=>by omega)
    simp[jZ,k1,k2,k3,k4]
   have k1:=hk (ub+192) zO
   have k2:=hk (s.nx+64+64+64+64+64+64+64+64+64+64+64+64+64+64+64+64+64+64+64+64+64+64+64+64+64) zO
   have k3:=hk (s.nx+64+64+64+64+64+64+64+64+64+64+64+64+64+64+64+64+64+64+64+64+64+64+64+64) zO
   have k4:=hno key (fun u h1 h2=>hk u zO)
   simp[jZ,k1,k2,k3,k4]
   exact ff key hk
  ·have hl5':¬ (i:Int)<45:=by omega
   simp[h4,f1,o1',j1,hlt,hl5']
   exact hend zO _ ⟨zS,zS,zS⟩ zS zS (by funext k;simp) (by simp;omega)
 ·simp[h4,f1,o1',j1,hlt]
  exact hend zO _ ⟨zS,zS,zS⟩ zS zS (by funext k;simp) (by simp;omega)
def rdsF (g:Hist') (M:List Int):List (Int × Int × Int):=((readH g).zip M).map fun x=>(x.1.1,x.2,ja6 g x.1)
theorem jhc {g:Hist'}{M:List Int}(h:M.length=(readH g).length):(rdsF g M).length=(readH g).length:=by simp[rdsF,h]
theorem j1r {g:Hist'}{M:List Int}{i:Nat}(h1:i<(readH g).length) (h2:i<M.length):(rdsF g M)[i]? = some ((readH g)[i].1,M[i],ja6 g (readH g)[i]):=by
 unfold rdsF
 rw[List.getElem?_map,show((readH g).zip M)[i]? = some ((readH g)[i],M[i]) from List.getElem?_zip_eq_some.2 ⟨List.getElem?_eq_getElem h1,List.getElem?_eq_getElem h2⟩]
 rfl
def Yc (g:Hist') (t a:Nat):Bool:=sesAt g a == sesAt g t
def WJ (g:Hist') (t i:Nat):Nat:=Jw 0 ((List.range i).filter fun key=>Y6 g t key)
def RowG (ob:ZO) (lo hi:Nat) (v:V) (rs:List (Int × Int × Int)):Prop:=(v=.sl none true 0 []∧rs=[])∨∃u,v=.osl (2*u+1) u 0 rs.length 3∧ob (2*u+1)=some ⟨u,.cells (rs.flatMap rdC)⟩∧lo≤u∧u<hi
theorem RowG.frame {ob ob':ZO}{lo hi hi':Nat}{v:V}{rs:List (Int × Int × Int)}(h:RowG ob lo hi v rs) (hf:∀u,lo≤u→u<hi→ob' (2*u+1)=ob (2*u+1)) (hh:hi≤hi'):RowG ob' lo hi' v rs:=by
 rcases h with h|⟨u,h1,h2,h3,h4⟩
 ·exact .inl h
 ·exact .inr ⟨u,h1,(hf u h3 h4).trans h2,h3,zO⟩
theorem jp4 {v:V}{rs:List (Int × Int × Int)}{r:Int × Int × Int}{s x:A}{st:St}{lo hi ub:Nat}{K:List FP→St→Prop}{d:Option Nat}{q:List AOpr}(hs:eval E st.tm s=v) (hv:RowG st.ob lo hi v rs) (hro:st.ro≤lo)
 (hx:jI st.ob 3 (eval E st.tm x)=some (rdC r)) (hl:rs.length≤1000000)
 (h:∀kill:List Nat,(kill=[]∨∃u,v=.osl (2*u+1) u 0 rs.length 3∧kill=[2*u+1]∧lo≤u∧u<hi)→YS E q K (eval E st.tm) (.append true 3 24 s x) st d ub { v:=.osl (2*ub+1) ub 0 (rs.length+1) 3,obs:=[(2*ub+1,⟨ub,.cells ((rs++[r]).flatMap rdC)⟩)],kill:=kill }):jF E (⟨d,.append true 3 24 s x,none,true⟩::q) st ub K:=by
 have hne:rdC r≠[]:=by simp[rdC]
 have hlf:(rdC r).all V.leaf=true:=rfl
 have hfl:=j9 jk2 rs
 rw[jt rfl]
 rcases hv with⟨rfl,rfl⟩|⟨u,rfl,ho,h1,h2⟩
 ·simp only[aop,hs,hx,Option.bind_some,if_neg hne,Bool.and_self,if_true,Jq,Q3]
  rw[if_pos ⟨by decide,hlf,by simp[rdC],by simp[rdC]⟩]
  simp only[Jh,jM]
  have:=h [] (.inl rfl)
  simpa[rdC] using this
 ·have hoc:j1 st.ob (2*u+1) u=some (rs.flatMap rdC):=by simp[j1,ho]
  simp only[aop,hs,hx,hoc,Option.bind_some,if_neg hne,Jq,Q3]
  rw[if_pos ⟨Nat.ble_eq▸zO,trivial,trivial,zO,by decide,hlf,by simp[rdC];omega,by simp[rdC];omega⟩,jM]
  have:=h [2*u+1] (.inr ⟨u,rfl,rfl,h1,h2⟩)
  rw[show(rs.flatMap rdC).take (rs.length*3)=rs.flatMap rdC from List.take_of_length_le zO]
  simpa[rdC,List.flatMap_append] using this
theorem jpq {α:Type}(m:List (Int × α)) (k:Int) (a:α):∃i,jg (YR m k a) k=some (i,a):=by
 have:=Q5 k a k m
 rw[if_pos rfl]at this
 cases h:jg (YR m k a) k with
 | none=>rw[h]at this;cases this
 | some p=>
  rw[h]at this
  simp only[Option.map_some,Option.some.injEq]at this
  exact⟨p.1,by rw[← this]⟩
theorem jpr {α:Type}(m:List (Int × α)) (k k':Int) (a z:α):jae (YR m k a) k' z=if k'=k then a else jae m k' z:=by
 rw[jnr,jnr,Q5]
 split <;> rfl
theorem j9q {ob:ZO}{l u:Nat}{k:Int}{m:List (Int × Option (Nat × Nat))}{p:Nat × Nat}(h:jR ob l u=some (MK .i64 jfn (YR m k (some p)))):Xe ob .int .nilptr false (.map l u) (.int .i64 k)=some (.ptr p.1 p.2 0):=by
 rw[jb3 (q:=.i64) (f:=jfn) _ h]
 obtain⟨i,hi⟩:=jpq m k (some p)
 rw[hi]
 rfl
theorem je2 (p:Nat→Bool) (L:List Nat) (x:Nat):Jw 0 ((L++[x]).filter p)=if p x then Jw 0 (L.filter p) ||| 1 <<< x else Jw 0 (L.filter p):=by
 rw[List.filter_append,List.filter_cons,List.filter_nil]
 cases p x
 ·simp
 ·rw[if_pos rfl,if_pos rfl,Jw,List.foldl_append]
  rfl
theorem jfs {L:List Nat}(h:L.Pairwise (· < ·)) {j t:Nat}(hj:j<L.length) (ht:t=L[j]) (p:Nat→Bool):L.filter (fun a=>decide (a<t) && p a)=(L.take j).filter p:=by
 subst ht
 have hp:=List.pairwise_iff_getElem.1 h
 have e:L.filter (fun a=>decide (a<L[j]) && p a)=(L.take j++L.drop j).filter (fun a=>decide (a<L[j]) && p a):=by rw[List.take_append_drop]
 rw[e,List.filter_append]
 have h1:(L.drop j).filter (fun a=>decide (a<L[j]) && p a)=[]:=by
  rw[List.filter_eq_nil_iff]
  intro a ha
  obtain⟨i,hi,rfl⟩:=List.getElem_of_mem ha
  rw[List.length_drop]at hi
  rw[List.getElem_drop]
  have:¬ L[j+i]<L[j]:=by
   rcases Nat.eq_zero_or_pos i with h0|h0
   ·subst h0;simp
   ·have:=hp j (j+i) hj zO zO
    omega
  simp[this]
 rw[h1,List.append_nil]
 refine List.filter_congr fun a ha=>?_
 obtain⟨i,hi,rfl⟩:=List.getElem_of_mem ha
 rw[List.length_take]at hi
 rw[List.getElem_take]
 simp[hp i j zO hj zO]
structure SB (ob:ZO) (lo hi k u:Nat) (T:List Nat) (v f:Nat→Nat):Prop where
 m:∃m,ob k=some ⟨u,.mp (2*T.length) (MK .i64 jfn m)⟩∧∀t∈T,jae m (t:Int) none=some (2*v t+1,v t)
 s:∀t∈T,ob (2*v t+1)=some ⟨v t,.cells (setC (f t))⟩∧lo≤v t∧v t<hi
theorem SB.snoc {ob ob':ZO}{lo hi hi' k u t x:Nat}{T:List Nat}{v f:Nat→Nat}{m:List (Int × Option (Nat × Nat))}(h:SB ob lo hi k u T v f) (hm:∀z∈T,jae m (z:Int) none=some (2*v z+1,v z))
 (hk:ob' k=some ⟨u,.mp (2*(T.length+1)) (MK .i64 jfn (YR m (t:Int) (some (2*x+1,x))))⟩) (hs:∀z∈T,ob' (2*v z+1)=ob (2*v z+1)) (hx:ob' (2*x+1)=some ⟨x,.cells (setC (f t))⟩) (h1:lo≤x) (h2:x<hi') (h3:hi≤hi') (ht:t ∉ T) :
 SB ob' lo hi' k u (T++[t]) (fun z=>if z=t then x else v z) f:=by
 refine⟨⟨_,by rw[List.length_append];exact hk,fun z hz=>?_⟩,fun z hz=>?_⟩
 ·rw[jpr]
  by_cases e:z=t
  ·subst e
   simp
  ·have e2:¬ (z:Int)=t:=by omega
   rw[if_neg e2,if_neg e]
   rcases List.mem_append.1 hz with hz|hz
   ·exact hm z hz
   ·exact absurd (List.mem_singleton.1 hz) e
 ·by_cases e:z=t
  ·subst e
   simp only[if_true]
   exact⟨hx,h1,h2⟩
  ·rcases List.mem_append.1 hz with hz|hz
   ·simp only[if_neg e]
    obtain⟨q1,q2,q3⟩:=h.s z hz
    exact⟨(hs z hz).trans q1,q2,zO⟩
   ·exact absurd (List.mem_singleton.1 hz) e
theorem jyv {T:List Nat}{vA vW:Nat→Nat}{t a w hi:Nat}(h:∀z∈T,∀z'∈T,vA z≠vW z') (h1:∀z∈T,vA z<hi) (h2:∀z∈T,vW z<hi) (ha:hi≤a) (hw:hi≤w) (hne:a≠w) :
 ∀z∈T++[t],∀z'∈T++[t],(if z=t then a else vA z)≠(if z'=t then w else vW z'):=by
 intro z hz z' hz'
 have m:∀ {y},y∈T++[t]→¬ y=t→y∈T:=fun hy e=>by
  rcases List.mem_append.1 hy with h|h
  ·exact h
  ·exact absurd (List.mem_singleton.1 h) e
 by_cases e:z=t
 ·by_cases e':z'=t
  ·rw[if_pos e,if_pos e'];exact hne
  ·rw[if_pos e,if_neg e']
   have:=h2 z' (m hz' e')
   omega
 ·by_cases e':z'=t
  ·rw[if_neg e,if_pos e']
   have:=h1 z (m hz e)
   omega
  ·rw[if_neg e,if_neg e']
   exact h z (m hz e) z' (m hz' e')
theorem jn0 {T:List Nat}{v:Nat→Nat}{t a hi:Nat}(h:∀z∈T,∀z'∈T,v z=v z'→z=z') (h1:∀z∈T,v z<hi) (ha:hi≤a) :
 ∀z∈T++[t],∀z'∈T++[t],(if z=t then a else v z)=(if z'=t then a else v z')→z=z':=by
 intro z hz z' hz' heq
 have m:∀ {y},y∈T++[t]→¬ y=t→y∈T:=fun hy e=>by
  rcases List.mem_append.1 hy with h|h
  ·exact h
  ·exact absurd (List.mem_singleton.1 h) e
 by_cases e:z=t
 ·by_cases e':z'=t
  ·rw[e,e']
  ·rw[if_pos e,if_neg e']at heq
   have:=h1 z' (m hz' e')
   omega
 ·by_cases e':z'=t
  ·rw[if_neg e,if_pos e']at heq
   have:=h1 z (m hz e)
   omega
  ·rw[if_neg e,if_neg e']at heq
   exact h z (m hz e) z' (m hz' e') heq
def Wr (g:Hist') (t:Nat):Nat:=Jw 0 ((comN g).filter fun a=>decide (a<t) && Yc g t a)
def WK (g:Hist') (t:Nat):Nat:=WJ g t g.ks.length
theorem SB.sets {N:FN}{ob ob':ZO}{lo hi n0 k u:Nat}{T:List Nat}{v f:Nat→Nat}(h:SB ob lo hi k u T v f) (h0:FixF N n0 k) (hk:ob' k=ob k) (hs:∀z∈T,ob' (2*v z+1)=ob (2*v z+1)∧FixF N n0 (2*v z+1)):SetsF N n0 ob' k u T f:=by
 obtain⟨m,h1,h2⟩:=h.m
 exact⟨h0,_,m,hk.trans h1,fun t ht=>⟨_,_,h2 t ht,(hs t ht).1.trans (h.s t ht).1,(hs t ht).2⟩⟩
def BegF (g:Hist') (M:List Int) (ob:ZO) (ub:Nat) (r:V × (ZO) × (Nat→Bool) × Nat):Prop :=
 ub≤r.2.2.2∧Was ub ob r.2.1∧∃ (N:FN) (rv:V) (tc:Option (Nat × Nat)),r.1=.ptr N.kF N.uF 0∧r.2.1 N.kF=some ⟨N.uF,.cells (fdC g N rv (.sl tc (comL g).isEmpty (comL g).length ((comL g).flatMap intC)) (.sl none true 0 []) 0 false)⟩ ∧
  Fd N rv (rdsF g M) (comN g) (Wr g) (WK g) r.2.2.2 r.2.1∧r.2.1 N.kV=some ⟨N.uV,.mp 0 (MK .u64 jbl [])⟩∧Off r.2.2.2 N.kF∧Off r.2.2.2 N.kV∧N.kF≠N.kV∧ub≤N.uF∧ub≤N.uV
section
variable {g:Hist'}{M:List Int}
set_option maxHeartbeats 4000000 in
theorem sv76 {Yf:YF}(hs:Small g) (hm:Ws g M=true) {nl:Bool}{ob:ZO}{tk:Nat→Bool}{ro base ub:Nat}(hro:ro≤ub) :
 ∃r,EvS E Yf.y 76 [.agg (j2 g),jN nl intC M] ob tk ro base ub r∧BegF g M ob ub r:=by
 have hw:=XW hm
 have hM:=jej hm
 have hR:=W4 hs
 have hmay:=Yx hw
 obtain⟨vr,evr,hvr⟩:=ev86 hs
 have hrd:jbu g=readH g:=by simp[jbu,hw]
 rw[hrd]at hvr
 obtain⟨vc,evc,hvc⟩:=ev71 hs
 rw[jux hw]at hvc
 refine Yb (af:=S76) rfl (by decide) ?_
 show wpC E Yf S76.body _ (We S76.res _)
 simp(disch:=first|(simp;done)|omega) [S76,j1,j2,V.cells,Nat.add_assoc]
 refine jhx ?_
 simp(disch:=first|(simp;done)|omega)
 refine jhx ?_
 simp(disch:=first|(simp;done)|omega) [j1,two_inj,Nat.add_assoc]
 refine Xy evc (by simp[j2,jN]) rfl (by simp[j2,jN]) ?_
 refine Qg hvc fun tc addc=>?_
 simp(disch:=first|(simp;done)|omega)
 refine jhx ?_
 simp(disch:=first|(simp;done)|omega) [j6,V.cells,Jo,QC,jc5,jbe,rdOb,rdTk,lOf,Delta.wo,Delta.wt,jN,Nat.add_assoc]
 refine⟨⟨Jx zO,Jx zO,Jx zO,Jx zO,Jx zO,Jx zO,Jx zO,Jx zO,Jx zO⟩,?_⟩
 simp(disch:=first|(simp;done)|omega) [j1,two_inj]
 refine jV evr (by simp[j2,jN]) rfl (by simp[j2,jN]) ?_
 refine Qg hvr fun tr addr=>?_
 simp(disch:=first|(simp;done)|omega)
 refine JS fun st hst=>?_
 obtain⟨uA,hA1⟩:∃u,u=ub+192:=⟨_,rfl⟩
 obtain⟨uW,hW1⟩:∃u,u=ub+256:=⟨_,rfl⟩
 obtain⟨uV,hV1⟩:∃u,u=ub+448:=⟨_,rfl⟩
 obtain⟨uF,hF1⟩:∃u,u=ub+576:=⟨_,rfl⟩
 obtain⟨N,hN⟩:∃N:FN,N=⟨2*uF+1,uF,2*uA+1,uA,2*uW+1,uW,2*uV+1,uV⟩:=⟨_,rfl⟩
 obtain⟨al,hal⟩:∃al:V,al=.sl tc (comL g).isEmpty (comL g).length ((comL g).flatMap intC):=⟨_,rfl⟩
 have g1:st.tm 1=jN nl intC M:=by rw[hst];simp[jN]
 have g2:st.tm 2=.ptr (2*ub+1) ub 0:=by rw[hst];simp
 have g5:st.tm 5=.ptr (2*uF+1) uF 0:=by rw[hst,hF1];simp
 have g24:st.tm 24=.sl tr (readH g).isEmpty (readH g).length ((readH g).flatMap jH):=by rw[hst];simp
 have g25:st.tm 25=.int .i64 (readH g).length:=by rw[hst];simp
 have g26:st.tm 26=.int .i64 0:=by rw[hst];simp
 have gd:st.df=[]:=by rw[hst];simp
 have gr:st.ro=ro:=by rw[hst];simp
 have gn:uF<st.nx:=by rw[hst,hF1];simp
 have gw:Was ub ob st.ob:=fun key hk=>by rw[hst];simp(disch:=first|(simp;done)|omega) [show ∀m,ub≤m→¬ key=2*m+1 from hk]
 have pB:st.ob (2*ub+1)=some ⟨ub,.cells (j2 g)⟩:=by rw[hst];simp(disch:=first|(simp;done)|omega) [two_inj,j2,jN]
 have pF:st.ob (2*uF+1)=some ⟨uF,.cells (fdC g N (.sl none true 0 []) al (.sl none true 0 []) 0 false)⟩:=by rw[hst,hN,hF1,hA1,hW1,hV1,hal];simp(disch:=first|(simp;done)|omega) [fdC,jN]
 have pA:st.ob (2*uA+1)=some ⟨uA,.mp 0 (MK .i64 jfn [])⟩:=by rw[hst,hA1];simp(disch:=first|(simp;done)|omega) [two_inj,MK]
 have pW:st.ob (2*uW+1)=some ⟨uW,.mp 0 (MK .i64 jfn [])⟩:=by rw[hst,hW1];simp(disch:=first|(simp;done)|omega) [two_inj,MK]
 have pV:st.ob (2*uV+1)=some ⟨uV,.mp 0 (MK .u64 jbl [])⟩:=by rw[hst,hV1];simp(disch:=first|(simp;done)|omega) [two_inj,MK]
 clear hst
 obtain⟨o1,o2,o3,o4⟩:ub<uA∧uA<uW∧uW<uV∧uV<uF:=by omega
 clear hA1 hW1 hV1 hF1
 obtain⟨ob1,hob1⟩:∃o,o=st.ob:=⟨_,rfl⟩
 obtain⟨n0,hn0⟩:∃n,n=st.nx:=⟨_,rfl⟩
 rw[← hob1]at gw pB pF pA pW pV
 rw[← hn0]at gn
 have hfl:=jhc (g:=g) hM
 obtain⟨J,hJ⟩:∃J:Nat→St→Prop,J=fun i s=>s.tm 26=.int .i64 i∧(∃rv,s.ob (2*uF+1)=some ⟨uF,.cells (fdC g N rv al (.sl none true 0 []) 0 false)⟩∧RowG s.ob n0 s.nx rv ((rdsF g M).take i))∧(∀key,Off n0 key→key≠2*uF+1→s.ob key=ob1 key)∧n0≤s.nx:=⟨_,rfl⟩
 refine jE [(6,7),(26,59)] (readH g).length J rfl rfl (by
  rw[hJ]
  exact⟨by simpa using g26,⟨_,by rw[← hob1];exact pF,.inl ⟨rfl,rfl⟩⟩,fun key _ _=>by rw[hob1],zO⟩) ?_
 clear pF
 intro i s hi hJs f
 rw[hJ]at hJs
 obtain⟨s26,⟨rv,sF,sR⟩,sw,sn⟩:=hJs
 have s1:s.tm 1=jN nl intC M:=by rw[f.t 1 zS];simp[g1]
 have s2:s.tm 2=.ptr (2*ub+1) ub 0:=by rw[f.t 2 zS];simp[g2]
 have s5:s.tm 5=.ptr (2*uF+1) uF 0:=by rw[f.t 5 zS];simp[g5]
 have s24:s.tm 24=.sl tr (readH g).isEmpty (readH g).length ((readH g).flatMap jH):=by rw[f.t 24 zS];simp[g24]
 have s25:s.tm 25=.int .i64 (readH g).length:=by rw[f.t 25 zS];simp[g25]
 have sd:s.df=[]:=by rw[f.d];simp[gd]
 have sr:s.ro=ro:=by rw[f.r];simp[gr]
 clear f
 have qB:s.ob (2*ub+1)=some ⟨ub,.cells (j2 g)⟩:=by rw[sw _ (Off.new zO) zO];exact pB
 have nB:∀m,s.nx≤m→¬ ub=m:=fun m hm=>by omega
 have nF:∀m,s.nx≤m→¬ uF=m:=fun m hm=>by omega
 by_cases hlt:i<(readH g).length
 ·have hwk:=J0 hlt zO
  have hiM:i<M.length:=by omega
  obtain⟨a,k,ha,hk,e,hkey,hc⟩:=jk0 hmay hlt
  have hix:=WD X0 tr (readH g).isEmpty (readH g) .i64 hlt
  have hpa:=fun ob=>jdb (readH g) ob hlt
  have hrd1:=j1r hlt hiM
  simp only[e]at hpa hrd1
  have hmi:=XP M hiM
  have hl3:(g.ts.flatMap jl)[a*3+2]? = some (jN (g.ts[a]).nl opC (g.ts[a]).ops):=by rw[jh jA g.ts ha (by decide:2<3)];rfl
  have hlk:((g.ts[a]).ops.flatMap opC)[k*4+1]? = some (.int .i64 ((g.ts[a]).ops[k]).key):=by rw[jh jK (g.ts[a]).ops hk (by decide:1<4)];rfl
  simp(disch:=first|(simp;done)|omega) [s26,s25,s24,s5,hlt,hix,hpa,j1,j6,two_inj,nF,sF,fdC]
  refine⟨by first|omega|(simp[sr];omega),?_⟩
  simp(disch:=first|(simp;done)|omega) [j1,j6,two_inj,nB,qB,s1,s2,j2,j7 jA,j7 jK,j7 jG,hl3,hlk,hmi,Nat.add_assoc]
  obtain⟨key,hkey'⟩:∃key,key=ja6 g (readH g)[i]:=⟨_,rfl⟩
  rw[← hkey']at hkey
  rw[← hkey]
  refine Xh (cs:=rdC ((a:Int),M[i],key)) (by simp[j6,rdC]) rfl rfl ?_
  simp
  refine jp4 (lo:=n0) (hi:=s.nx) (rs:=(rdsF g M).take i) (r:=((a:Int),M[i],key)) (v:=rv) zS ?_ ?_ ?_ ?_ fun kill hkill=>?_
  ·refine sR.frame (fun u h1 h2=>?_) (Nat.le_refl _)
   have h3:∀m,s.nx≤m→¬ u=m:=fun m hm=>by omega
   simp(disch:=first|(simp;done)|omega) [two_inj,h3]
  ·first|omega|(simp[sr];omega)
  ·simp[jI,j1,rdC]
  ·rw[List.length_take]
   omega
  have hk0:∀key,Off n0 key→kill.any (Nat.beq key)=false:=fun key hkey=>by
   rcases hkill with rfl|⟨u,h,rfl,h1,h2⟩
   ·rfl
   ·simp only[List.any_cons,List.any_nil,Bool.or_false]
    exact Jx (hkey u h1)
  have hk1:∀m,s.nx≤m→kill.any (Nat.beq (2*m+1))=false:=fun m hm=>by
   rcases hkill with rfl|⟨u,h,rfl,h1,h2⟩
   ·rfl
   ·simp only[List.any_cons,List.any_nil,Bool.or_false]
    exact Jx zO
  have hkF:=hk0 (2*uF+1) (Off.new zO)
  generalize hcs:List.flatMap rdC (List.take i (rdsF g M)++[(((a:Nat):Int),M[i],key)])=cs56
  simp(disch:=first|(simp;done)|omega) [j1,two_inj,nF,sF,fdC,hkF,jZ,j6,Jo,QC,jc5,jbe,rdOb,rdTk,lOf,Delta.wo,Delta.wt]
  refine⟨by first|omega|(simp[sr];omega),Jx zO,?_⟩
  simp[s26,hwk,hlt]
  rw[hJ]
  refine⟨zS,⟨.osl (2*(s.nx+2048)+1) (s.nx+2048) 0 (((rdsF g M).take i).length+1) 3,?_,.inr ⟨s.nx+2048,?_,?_,zO,zL⟩⟩,fun key hk hne=>?_,zL⟩
  ·simp(disch:=first|(simp;done)|omega) [fdC]
  ·rw[List.length_take,List.length_take]
   congr 1
   omega
  ·have hg2:(rdsF g M)[i]'zO=(((a:Nat):Int),M[i],key):=by
    obtain⟨_,h2⟩:=List.getElem?_eq_some_iff.1 hrd1
    rw[h2,hkey',e]
   rw[List.take_succ_eq_append_getElem zO,hg2,hcs]
   simp(disch:=first|(simp;done)|omega) [jZ,two_inj,show ¬ s.nx+2048=uF from by omega]
  ·have f1:=hk.ne
   simp(disch:=first|(simp;done)|omega) [jZ,f1,hne,hk0 key hk,sw key hk hne]
 ·have:i=(readH g).length:=by omega
  subst this
  clear hlt hi
  rw[List.take_of_length_le zO]at sR
  have eB:=qB
  simp(disch:=first|(simp;done)|omega) [s26,s25,s5,j1,sF,fdC]
  rw[hal]
  simp
  refine JS fun st hst=>?_
  have g2:st.tm 2=.ptr (2*ub+1) ub 0:=by rw[hst];simp[s2]
  have g5:st.tm 5=.ptr (2*uF+1) uF 0:=by rw[hst];simp[s5]
  have g63:st.tm 63=.sl tc (comL g).isEmpty (comL g).length ((comL g).flatMap intC):=by rw[hst];simp
  have g64:st.tm 64=.int .i64 (comL g).length:=by rw[hst];simp
  have g65:st.tm 65=.int .i64 0:=by rw[hst];simp
  have gd:st.df=[]:=by rw[hst];simp[sd]
  have gr:st.ro=ro:=by rw[hst];simp[sr]
  have go:st.ob=s.ob:=by rw[hst];simp
  have gn2:s.nx≤st.nx:=by rw[hst];simp;omega
  clear hst
  obtain⟨ob2,hob2⟩:∃o,o=st.ob:=⟨_,rfl⟩
  obtain⟨n1,hn1⟩:∃n,n=st.nx:=⟨_,rfl⟩
  rw[← go,← hob2]at sF sR sw qB
  have qA:ob2 (2*uA+1)=some ⟨uA,.mp 0 (MK .i64 jfn [])⟩:=by rw[sw _ (Off.new zO) zO];exact pA
  have qW:ob2 (2*uW+1)=some ⟨uW,.mp 0 (MK .i64 jfn [])⟩:=by rw[sw _ (Off.new zO) zO];exact pW
  have qV:ob2 (2*uV+1)=some ⟨uV,.mp 0 (MK .u64 jbl [])⟩:=by rw[sw _ (Off.new zO) zO];exact pV
  have gw2:Was ub ob ob2:=fun key hk=>by rw[sw key (hk.up zO) (hk uF zO)];exact gw key hk
  have sR2:RowG ob2 n0 n1 rv (rdsF g M):=sR.frame (fun _ _ _=>rfl) zO
  have hn01:n0≤n1:=by omega
  clear sw pA pW pV sR gw go gn2 sn s26 s1 s2 s5 s24 s25 sd sr nB nF eB
  obtain⟨J2,hJ2⟩:∃J2:Nat→St→Prop,J2=fun i s=>s.tm 65=.int .i64 i∧(∀key,Off n1 key→key≠2*uA+1→key≠2*uW+1→s.ob key=ob2 key)∧n1≤s.nx ∧
   ∃vA vW,SB s.ob n1 s.nx (2*uA+1) uA ((comN g).take i) vA (Wr g)∧SB s.ob n1 s.nx (2*uW+1) uW ((comN g).take i) vW (WK g)∧(∀t∈(comN g).take i,∀t'∈(comN g).take i,vA t≠vW t') ∧
    (∀t∈(comN g).take i,∀t'∈(comN g).take i,vA t=vA t'→t=t')∧∀t∈(comN g).take i,∀t'∈(comN g).take i,vW t=vW t'→t=t':=⟨_,rfl⟩
  refine jE [(8,9),(11,14),(65,142)] (comL g).length J2 rfl rfl (by
   rw[hJ2]
   exact⟨by simpa using g65,fun key _ _ _=>by rw[hob2],zO,fun _=>0,fun _=>0,⟨⟨[],by rw[← hob2];exact qA,fun t h=>(by cases h)⟩,fun t h=>(by cases h)⟩,⟨⟨[],by rw[← hob2];exact qW,fun t h=>(by cases h)⟩,fun t h=>(by cases h)⟩,fun t h=>(by cases h),fun t h=>(by cases h),fun t h=>(by cases h)⟩) ?_
  intro i s hi hJs f
  rw[hJ2]at hJs
  obtain⟨s65,sw,sn,vA,vW,sA,sW,hAW,hAA,hWW⟩:=hJs
  have s2:s.tm 2=.ptr (2*ub+1) ub 0:=by rw[f.t 2 zS];simp[g2]
  have s5:s.tm 5=.ptr (2*uF+1) uF 0:=by rw[f.t 5 zS];simp[g5]
  have s63:s.tm 63=.sl tc (comL g).isEmpty (comL g).length ((comL g).flatMap intC):=by rw[f.t 63 zS];simp[g63]
  have s64:s.tm 64=.int .i64 (comL g).length:=by rw[f.t 64 zS];simp[g64]
  have sd:s.df=[]:=by rw[f.d];simp[gd]
  have sr:s.ro=ro:=by rw[f.r];simp[gr]
  clear f
  have hcl:=Wm g
  by_cases hlt:i<(comL g).length
  ·have hltN:i<(comN g).length:=by omega
   have hts:=hs.ts
   have hcts:(comN g).length≤1000:=by
    have:=Qa g
    omega
   have hK:jlo=1000000000000:=rfl
   have hwk:=J0 hlt zO
   obtain⟨t,ht⟩:∃t,t=(comN g)[i]:=⟨_,rfl⟩
   have hti:(comL g)[i]=(t:Int):=by
    have h1:(comL g)[i]? = (ints (comN g))[i]?:=by rw[QK]
    rw[List.getElem?_eq_getElem hlt]at h1
    unfold ints at h1
    rw[List.getElem?_map,List.getElem?_eq_getElem hltN]at h1
    simpa[ht] using h1
   have hix:=WD jG tc (comL g).isEmpty (comL g) .i64 hlt
   have hia:=XP (comL g) hlt
   rw[hti]at hia
   obtain⟨mA,hmA,hmA2⟩:=sA.m
   obtain⟨mW,hmW,hmW2⟩:=sW.m
   have hTl:((comN g).take i).length=i:=by rw[List.length_take];omega
   rw[hTl]at hmA hmW
   have xF:s.ob (2*uF+1)=some ⟨uF,.cells (fdC g N rv al (.sl none true 0 []) 0 false)⟩:=by rw[sw _ (Off.new zO) zO zO];exact sF
   have xB:s.ob (2*ub+1)=some ⟨ub,.cells (j2 g)⟩:=by rw[sw _ (Off.new zO) zO zO];exact qB
   have nB:∀m,s.nx≤m→¬ ub=m:=fun m hm=>by omega
   have nF:∀m,s.nx≤m→¬ uF=m:=fun m hm=>by omega
   have nA:∀m,s.nx≤m→¬ uA=m:=fun m hm=>by omega
   have nW:∀m,s.nx≤m→¬ uW=m:=fun m hm=>by omega
   have nWA:¬ uW=uA:=by omega
   have hNk:N.kA=2*uA+1∧N.uA=uA∧N.kW=2*uW+1∧N.uW=uW:=by rw[hN];exact⟨rfl,rfl,rfl,rfl⟩
   simp(disch:=first|(simp;done)|omega) [s65,s64,s63,s5,hlt,hix,hia,j1,xF,fdC,hNk]
   refine jz2 zS rfl rfl rfl ?_
   simp
   refine jz2 zS rfl rfl rfl ?_
   simp
   refine jgp (q:=.i64) (f:=jfn) (a:=none) (ver:=2*i) (k:=(t:Int)) (l:=2*uA+1) (u:=uA) mA zS zS rfl (by simp(disch:=first|(simp;done)|omega) [two_inj,nA,hmA]) (by first|omega|(simp[sr];omega)) zO ?_
   simp
   refine jju (q:=.i64) (f:=jfn) (a:=some (2*(s.nx+1024)+1,s.nx+1024)) (ver:=2*i+1) (k:=(t:Int)) (l:=2*uA+1) (u:=uA) (YR mA (t:Int) (jae mA (t:Int) none)) zS zS (by simp[jfn,V.strip]) (jta mA t _) zS (by first|omega|(simp[sr];omega)) zO ?_
   rw[jnp]
   simp
   refine jgp (q:=.i64) (f:=jfn) (a:=none) (ver:=2*i) (k:=(t:Int)) (l:=2*uW+1) (u:=uW) mW zS zS rfl (by simp(disch:=first|(simp;done)|omega) [two_inj,nW,hmW,nWA]) (by first|omega|(simp[sr];omega)) zO ?_
   simp
   refine jju (q:=.i64) (f:=jfn) (a:=some (2*(s.nx+1088)+1,s.nx+1088)) (ver:=2*i+1) (k:=(t:Int)) (l:=2*uW+1) (u:=uW) (YR mW (t:Int) (jae mW (t:Int) none)) zS zS (by simp[jfn,V.strip]) (jta mW t _) zS (by first|omega|(simp[sr];omega)) zO ?_
   rw[jnp]
   simp
   refine⟨jxb (by simp(disch:=first|(simp;done)|omega) [js7,jpp,Q4,jc5,jbe,rdOb,rdTk,lOf,Delta.wo,Delta.wt];and_intros <;> exact Jx zO),?_⟩
   have hsl:jaq 1 none (some (.int .i64 (i:Int))) (.sl tc (comL g).isEmpty (comL g).length ((comL g).flatMap intC))=some (.sl none (comL g).isEmpty i (((comL g).take i).flatMap intC)):=by
    rw[jro jG tc _ (comL g) (show i≤_ by omega),List.length_take,Nat.min_eq_left zO]
   have nFW:¬ uF=uW:=by omega
   have nFA:¬ uF=uA:=by omega
   simp(disch:=first|(simp;done)|omega) [s5,j1,xF,fdC,two_inj,nF,nFW,nFA]
   rw[hal,hsl]
   simp
   refine JS fun st hst=>?_
   obtain⟨ua,hua⟩:∃u,u=s.nx+1024:=⟨_,rfl⟩
   obtain⟨uw,huw⟩:∃u,u=s.nx+1088:=⟨_,rfl⟩
   have g2:st.tm 2=.ptr (2*ub+1) ub 0:=by rw[hst];simp[s2]
   have g5:st.tm 5=.ptr (2*uF+1) uF 0:=by rw[hst];simp[s5]
   have g9:st.tm 9=.int .i64 t:=by rw[hst];simp
   have g65:st.tm 65=.int .i64 i:=by rw[hst];simp[s65]
   have g91:st.tm 91=.sl none (comL g).isEmpty i (((comL g).take i).flatMap intC):=by rw[hst];simp
   have g92:st.tm 92=.int .i64 i:=by rw[hst];simp
   have g93:st.tm 93=.int .i64 0:=by rw[hst];simp
   have g63:st.tm 63=.sl tc (comL g).isEmpty (comL g).length ((comL g).flatMap intC):=by rw[hst];simp[s63]
   have g64:st.tm 64=.int .i64 (comL g).length:=by rw[hst];simp[s64]
   have gd:st.df=[]:=by rw[hst];simp[sd]
   have gr:st.ro=ro:=by rw[hst];simp[sr]
   have gn:uw<st.nx:=by rw[hst,huw];simp
   have gw:∀key,Off s.nx key→key≠2*uA+1→key≠2*uW+1→st.ob key=s.ob key:=fun key hk h1 h2=>by rw[hst];simp(disch:=first|(simp;done)|omega) [hk.ne,h1,h2]
   have pa:st.ob (2*ua+1)=some ⟨ua,.cells (setC 0)⟩:=by rw[hst,hua];simp(disch:=first|(simp;done)|omega) [two_inj,Nat.add_assoc,jiu,show ¬ s.nx+1024=uA by omega,show ¬ s.nx+1024=uW by omega]
   have pw:st.ob (2*uw+1)=some ⟨uw,.cells (setC 0)⟩:=by rw[hst,huw];simp(disch:=first|(simp;done)|omega) [two_inj,Nat.add_assoc,jiu,show ¬ s.nx+1088=uA by omega,show ¬ s.nx+1088=uW by omega]
   have pA:st.ob (2*uA+1)=some ⟨uA,.mp (2*(i+1)) (MK .i64 jfn (YR mA (t:Int) (some (2*ua+1,ua))))⟩:=by rw[hst,hua];simp(disch:=first|(simp;done)|omega) [two_inj,Nat.add_assoc,show ¬ uA=uW by omega,Nat.mul_add]
   have pW:st.ob (2*uW+1)=some ⟨uW,.mp (2*(i+1)) (MK .i64 jfn (YR mW (t:Int) (some (2*uw+1,uw))))⟩:=by rw[hst,huw];simp(disch:=first|(simp;done)|omega) [Nat.add_assoc,Nat.mul_add]
   clear hst
   obtain⟨ob3,hob3⟩:∃o,o=st.ob:=⟨_,rfl⟩
   obtain⟨n3,hn3⟩:∃n,n=st.nx:=⟨_,rfl⟩
   rw[← hob3]at gw pa pw pA pW
   rw[← hn3]at gn
   have hhd:XR g=true:=by
    unfold XC at hmay
    simp only[Bool.and_eq_true]at hmay
    exact hmay.1
   unfold XR at hhd
   simp only[Bool.and_eq_true,decide_eq_true_eq]at hhd
   obtain⟨_,_,_,hks,htl⟩:=hhd
   have hcom:∀ {x:Nat},x∈comN g→x<g.ts.length:=fun h=>XG (comN_mem.1 h)
   have htt:t<g.ts.length:=hcom (ht▸List.getElem_mem hltN)
   have hses:∀ {x:Nat}(h:x<g.ts.length),(g.ts.flatMap jl)[x*3]? = some (.int .i64 (sesAt g x)):=fun {x} h=>by
    have:=jh jA g.ts h (by decide:0<3)
    rw[Nat.add_zero]at this
    rw[this]
    simp[jl,sesAt,h]
   obtain⟨J3,hJ3⟩:∃J3:Nat→St→Prop,J3=fun j s=>s.tm 93=.int .i64 j∧s.ob (2*ua+1)=some ⟨ua,.cells (setC (Jw 0 (((comN g).take j).filter (Yc g t))))⟩∧(∀key,Off n3 key→key≠2*ua+1→s.ob key=ob3 key)∧n3≤s.nx:=⟨_,rfl⟩
   refine jE [(11,11),(93,118)] i J3 rfl rfl (by
    rw[hJ3]
    exact⟨by simpa using g93,by rw[← hob3];exact pa,fun key _ _=>by rw[hob3],zO⟩) ?_
   intro j q hj hJq f
   rw[hJ3]at hJq
   obtain⟨q93,qa,qw,qn⟩:=hJq
   have q2:q.tm 2=.ptr (2*ub+1) ub 0:=by rw[f.t 2 zS];simp[g2]
   have q5:q.tm 5=.ptr (2*uF+1) uF 0:=by rw[f.t 5 zS];simp[g5]
   have q9:q.tm 9=.int .i64 t:=by rw[f.t 9 zS];simp[g9]
   have q91:q.tm 91=.sl none (comL g).isEmpty i (((comL g).take i).flatMap intC):=by rw[f.t 91 zS];simp[g91]
   have q92:q.tm 92=.int .i64 i:=by rw[f.t 92 zS];simp[g92]
   have q63:q.tm 63=.sl tc (comL g).isEmpty (comL g).length ((comL g).flatMap intC):=by rw[f.t 63 zS];simp[g63]
   have q64:q.tm 64=.int .i64 (comL g).length:=by rw[f.t 64 zS];simp[g64]
   have q65:q.tm 65=.int .i64 i:=by rw[f.t 65 zS];simp[g65]
   have qd:q.df=[]:=by rw[f.d];simp[gd]
   have qr:q.ro=ro:=by rw[f.r];simp[gr]
   clear f
   have zF:q.ob (2*uF+1)=some ⟨uF,.cells (fdC g N rv al (.sl none true 0 []) 0 false)⟩:=by rw[qw _ (Off.new zO) zO,gw _ (Off.new zO) zO zO];exact xF
   have zB:q.ob (2*ub+1)=some ⟨ub,.cells (j2 g)⟩:=by rw[qw _ (Off.new zO) zO,gw _ (Off.new zO) zO zO];exact xB
   by_cases hjl:j<i
   ·have hjN:j<(comN g).length:=by omega
    obtain⟨x,hx⟩:∃x,x=(comN g)[j]:=⟨_,rfl⟩
    have hxl:x<g.ts.length:=hcom (hx▸List.getElem_mem hjN)
    have hji:(comL g)[j]'zO=(x:Int):=by
     have h1:(comL g)[j]? = (ints (comN g))[j]?:=by rw[QK]
     rw[List.getElem?_eq_getElem (show j<(comL g).length by omega)]at h1
     unfold ints at h1
     rw[List.getElem?_map,List.getElem?_eq_getElem hjN]at h1
     simpa[hx] using h1
    have hjl':j<((comL g).take i).length:=by rw[List.length_take];omega
    have hlT:((comL g).take i).length=i:=by rw[List.length_take];omega
    have hjx:=WD jG none (comL g).isEmpty ((comL g).take i) .i64 hjl'
    have hja:=XP ((comL g).take i) hjl'
    rw[List.getElem_take,hji]at hja
    rw[hlT]at hjx
    have hwj:=J0 hjl zO
    have hse1:=hses hxl
    have hse2:=hses htt
    simp(disch:=first|(simp;done)|omega) [q93,q92,q91,q9,q2,hjl,hjx,hja,j1,zB,j2,j7 jA,hse1,hse2]
    have hstep:Jw 0 (((comN g).take (j+1)).filter (Yc g t))=if sesAt g x == sesAt g t then Jw 0 (((comN g).take j).filter (Yc g t)) ||| 1 <<< x else Jw 0 (((comN g).take j).filter (Yc g t)):=by
     rw[List.take_succ_eq_append_getElem hjN,← hx,je2]
     rfl
    cases hsm:sesAt g x == sesAt g t
    ·simp[q93,hwj,hjl]
     rw[hJ3]
     rw[hsm]at hstep
     refine⟨zS,by rw[hstep];simpa using qa,fun key hk hne=>by simp[qw key hk hne],zL⟩
    ·rw[hsm,if_pos rfl]at hstep
     have hbl:Jw 0 (((comN g).take j).filter (Yc g t))<2 ^ 64:=Ym (by decide) fun y hy=>by
      have:=hcom (List.mem_of_mem_take (List.mem_filter.1 hy).1)
      omega
     simp(disch:=first|(simp;done)|omega) [q5,q9,j1,zF,fdC,hNk]
     rw[j9q (p:=(2*ua+1,ua)) (k:=(t:Int)) (m:=mA) (by simp[jR];rw[qw _ (Off.new zO) zO,pA];simp)]
     simp
     refine J6 (vs:=[.ptr (2*ua+1) ua 0,.int .i64 x]) zS rfl (sv81 (w:=Jw 0 (((comN g).take j).filter (Yc g t))) (by simpa using qa) (Off.new zL) (by first|omega|(simp[qr];omega)) zO hbl) ?_
     rintro v ob4 tk4 ub4 ⟨r1,r2,r3⟩
     simp only at r1 r2 r3
     simp[q93,hwj,hjl]
     rw[hJ3]
     refine⟨zS,?_,fun key hk hne=>?_,zL⟩
     ·simp
      rw[r2 _ (Off.new zL),if_pos rfl,hstep]
     ·simp
      rw[r2 key (hk.up zL),if_neg hne]
      simp[qw key hk hne]
   ·have:j=i:=by omega
    subst this
    clear hjl hj
    simp(disch:=first|(simp;done)|omega) [q93,q92,q2,j1,zB,j2]
    refine JS fun st hst=>?_
    have g2:st.tm 2=.ptr (2*ub+1) ub 0:=by rw[hst];simp[q2]
    have g5:st.tm 5=.ptr (2*uF+1) uF 0:=by rw[hst];simp[q5]
    have g9:st.tm 9=.int .i64 t:=by rw[hst];simp[q9]
    have g65:st.tm 65=.int .i64 j:=by rw[hst];simp[q65]
    have g121:st.tm 121=.int .i64 g.ks.length:=by rw[hst];simp[jN]
    have g122:st.tm 122=.int .i64 0:=by rw[hst];simp
    have g63:st.tm 63=.sl tc (comL g).isEmpty (comL g).length ((comL g).flatMap intC):=by rw[hst];simp[q63]
    have g64:st.tm 64=.int .i64 (comL g).length:=by rw[hst];simp[q64]
    have gd:st.df=[]:=by rw[hst];simp[qd]
    have gr:st.ro=ro:=by rw[hst];simp[qr]
    have go:st.ob=q.ob:=by rw[hst];simp
    have gn4:q.nx≤st.nx:=by rw[hst];simp;omega
    clear hst
    obtain⟨ob5,hob5⟩:∃o,o=st.ob:=⟨_,rfl⟩
    obtain⟨n5,hn5⟩:∃n,n=st.nx:=⟨_,rfl⟩
    rw[← go,← hob5]at qa qw zF zB
    obtain⟨J5,hJ5⟩:∃J5:Nat→St→Prop,J5=fun k s=>s.tm 122=.int .i64 k∧s.ob (2*uw+1)=some ⟨uw,.cells (setC (WJ g t k))⟩∧(∀key,Off n5 key→key≠2*uw+1→s.ob key=ob5 key)∧n5≤s.nx:=⟨_,rfl⟩
    refine jE [(12,14),(122,141)] g.ks.length J5 rfl rfl (by
     rw[hJ5]
     exact⟨by simpa using g122,by rw[← hob5,qw _ (Off.new zO) zO];exact pw,fun key _ _=>by rw[hob5],zO⟩) ?_
    intro k y hk hJy f
    rw[hJ5]at hJy
    obtain⟨y122,yw,yk,yn⟩:=hJy
    have y2:y.tm 2=.ptr (2*ub+1) ub 0:=by rw[f.t 2 zS];simp[g2]
    have y5:y.tm 5=.ptr (2*uF+1) uF 0:=by rw[f.t 5 zS];simp[g5]
    have y9:y.tm 9=.int .i64 t:=by rw[f.t 9 zS];simp[g9]
    have y65:y.tm 65=.int .i64 j:=by rw[f.t 65 zS];simp[g65]
    have y121:y.tm 121=.int .i64 g.ks.length:=by rw[f.t 121 zS];simp[g121]
    have yd:y.df=[]:=by rw[f.d];simp[gd]
    have yr:y.ro=ro:=by rw[f.r];simp[gr]
    clear f
    have wF:y.ob (2*uF+1)=some ⟨uF,.cells (fdC g N rv al (.sl none true 0 []) 0 false)⟩:=by rw[yk _ (Off.new zO) zO];exact zF
    have wB:y.ob (2*ub+1)=some ⟨ub,.cells (j2 g)⟩:=by rw[yk _ (Off.new zO) zO];exact zB
    by_cases hkl:k<g.ks.length
    ·have hwk2:=J0 hkl zO
     have el:=ev116 hs t k
     have ez:(jaf (Xw g t).2 (k:Int)).2=Y6 g t k:=rfl
     rw[ez]at el
     simp(disch:=first|(simp;done)|omega) [y122,y121,y9,y2,hkl,j1,wB,j2]
     refine jV el (by simp[j2]) rfl (by simp[j2]) ?_
     rw[XB (by simp[V.plain,JH])]
     simp(disch:=first|(simp;done)|omega) [JH,j1,j6]
     refine⟨by first|omega|(simp[yr];omega),?_⟩
     have hstep:WJ g t (k+1)=if Y6 g t k then WJ g t k ||| 1 <<< k else WJ g t k:=by
      unfold WJ
      rw[List.range_succ,je2]
     cases hlv:Y6 g t k
     ·simp[y122,hwk2,hkl]
      rw[hJ5]
      rw[hlv]at hstep
      refine⟨zS,by rw[hstep];simp(disch:=first|(simp;done)|omega) [two_inj,yw,show ∀m,y.nx≤m→¬ uw=m from fun m hm=>by omega],fun key hk hne=>by simp(disch:=first|(simp;done)|omega) [hk.ne,yk key hk hne],zL⟩
     ·rw[hlv,if_pos rfl]at hstep
      have hbl:WJ g t k<2 ^ 64:=Ym (by decide) fun z hz=>by
       have:=List.mem_range.1 (List.mem_filter.1 hz).1
       omega
      have nuw:∀m,y.nx≤m→¬ uw=m:=fun m hm=>by omega
      have nW5:∀m,y.nx≤m→¬ uW=m:=fun m hm=>by omega
      have nF5:∀m,y.nx≤m→¬ uF=m:=fun m hm=>by omega
      simp(disch:=first|(simp;done)|omega) [y5,y9,j1,wF,fdC,hNk,two_inj,nF5]
      rw[j9q (p:=(2*uw+1,uw)) (k:=(t:Int)) (m:=mW) (by simp(disch:=first|(simp;done)|omega) [jR,two_inj,nW5];rw[yk _ (Off.new zO) zO,qw _ (Off.new zO) zO,pW];simp)]
      simp
      refine J6 (vs:=[.ptr (2*uw+1) uw 0,.int .i64 k]) zS rfl (sv81 (w:=WJ g t k) (by simp(disch:=first|(simp;done)|omega) [two_inj,nuw,yw]) (Off.new zL) (by first|omega|(simp[yr];omega)) zO hbl) ?_
      rintro v ob4 tk4 ub4 ⟨r1,r2,r3⟩
      simp only at r1 r2 r3
      simp[y122,hwk2,hkl]
      rw[hJ5]
      refine⟨zS,?_,fun key hk hne=>?_,zL⟩
      ·simp
       rw[r2 _ (Off.new zL),if_pos rfl,hstep]
      ·simp
       rw[r2 key (hk.up zL),if_neg hne]
       simp(disch:=first|(simp;done)|omega) [hk.ne,yk key hk hne]
    ·have:k=g.ks.length:=by omega
     subst this
     have hchain:∀key,Off s.nx key→key≠2*uA+1→key≠2*uW+1→y.ob key=s.ob key:=fun key hk h1 h2=>by
      rw[yk key (hk.up zO) (hk uw zO),qw key (hk.up zO) (hk ua zO),gw key hk h1 h2]
     have hA9:y.ob (2*uA+1)=some ⟨uA,.mp (2*(j+1)) (MK .i64 jfn (YR mA (t:Int) (some (2*ua+1,ua))))⟩:=by rw[yk _ (Off.new zO) zO,qw _ (Off.new zO) zO,pA]
     have hW9:y.ob (2*uW+1)=some ⟨uW,.mp (2*(j+1)) (MK .i64 jfn (YR mW (t:Int) (some (2*uw+1,uw))))⟩:=by rw[yk _ (Off.new zO) zO,qw _ (Off.new zO) zO,pW]
     have ha9:y.ob (2*ua+1)=some ⟨ua,.cells (setC (Wr g t))⟩:=by
      rw[yk _ (Off.new zO) zO,qa]
      unfold Wr
      rw[jfs (jh3 g) hltN ht]
     simp[y122,y121,y65,hwk,hlt]
     rw[hJ2]
     have eT:(comN g).take (j+1)=(comN g).take j++[t]:=by rw[List.take_succ_eq_append_getElem hltN,ht]
     have htT:t ∉ (comN g).take j:=fun h=>by
      obtain⟨i,hi,e⟩:=List.getElem_of_mem h
      rw[List.length_take]at hi
      rw[List.getElem_take]at e
      have:=List.pairwise_iff_getElem.1 (jh3 g) i j zO hltN zO
      omega
     refine⟨zS,fun key hk h1 h2=>?_,zL,fun z=>if z=t then ua else vA z,fun z=>if z=t then uw else vW z,?_,?_,?_,?_,?_⟩
     ·simp
      rw[hchain key (hk.up zO) h1 h2]
      exact sw key hk h1 h2
     ·rw[eT]
      refine sA.snoc hmA2 (by rw[hTl];simpa using hA9) (fun z hz=>?_) (by simpa using ha9) zO zL zL htT
      have:=(sA.s z hz).2
      simp
      exact hchain _ (Off.new zO) zO zO
     ·rw[eT]
      refine sW.snoc hmW2 (by rw[hTl];simpa using hW9) (fun z hz=>?_) (by simpa[WK] using yw) zO zL zL htT
      have:=(sW.s z hz).2
      simp
      exact hchain _ (Off.new zO) zO zO
     ·rw[eT]
      exact jyv hAW (fun z hz=>(sA.s z hz).2.2) (fun z hz=>(sW.s z hz).2.2) zO zO zO
     ·rw[eT]
      exact jn0 hAA (fun z hz=>(sA.s z hz).2.2) zO
     ·rw[eT]
      exact jn0 hWW (fun z hz=>(sW.s z hz).2.2) zO
  ·have:i=(comL g).length:=by omega
   subst this
   rw[List.take_of_length_le zO]at sA sW hAW hAA hWW
   simp[s65,s64,s5]
   have xF:s.ob (2*uF+1)=some ⟨uF,.cells (fdC g N rv al (.sl none true 0 []) 0 false)⟩:=by rw[sw _ (Off.new zO) zO zO];exact sF
   have xV:s.ob (2*uV+1)=some ⟨uV,.mp 0 (MK .u64 jbl [])⟩:=by rw[sw _ (Off.new zO) zO zO];exact qV
   have hNk:N.kF=2*uF+1∧N.uF=uF∧N.kA=2*uA+1∧N.uA=uA∧N.kW=2*uW+1∧N.uW=uW∧N.kV=2*uV+1∧N.uV=uV:=by rw[hN];exact⟨rfl,rfl,rfl,rfl,rfl,rfl,rfl,rfl⟩
   obtain⟨k1,k2,k3,k4,k5,k6,k7,k8⟩:=hNk
   have hfix:∀u n,u<n→u≠uF→u≠uV→FixF N n (2*u+1):=fun u n h1 h2 h3=>⟨by rw[k1];omega,by rw[k7];omega,Off.new h1⟩
   refine YX (by simp[sd]) ⟨zL,fun key hk=>?_,N,rv,tc,by simp[k1,k2],by rw[k1,k2,← hal];simpa using xF,⟨?_,?_,?_⟩,by rw[k7,k8];simpa using xV,by rw[k1];exact Off.new zL,by rw[k7];exact Off.new zL,by rw[k1,k7];omega,by rw[k2];omega,by rw[k8];omega⟩
   ·simp
    rw[sw key (hk.up zO) (hk uA zO) (hk uW zO)]
    exact gw2 key hk
   ·rcases sR2 with h|⟨u,h1,h2,h3,h4⟩
    ·exact .inl h
    ·refine .inr ⟨2*u+1,u,h1,?_,hfix u _ zL zO zO⟩
     simp
     rw[sw _ (Off.new zO) zO zO]
     exact h2
   ·rw[k3,k4]
    refine sA.sets (hfix uA _ zL zO zO) zS fun z hz=>?_
    have:=(sA.s z hz).2
    exact⟨zS,hfix _ _ zL zO zO⟩
   ·rw[k5,k6]
    refine sW.sets (hfix uW _ zL zO zO) zS fun z hz=>?_
    have:=(sW.s z hz).2
    exact⟨zS,hfix _ _ zL zO zO⟩
end
section
variable {g:Hist'}{M:List Int}
theorem jm9 (hmay:XC g=true) {i:Nat}(hi:i<(readH g).length):∃k:Nat,ja6 g (readH g)[i]=k∧k<g.ks.length:=by
 obtain⟨a,b,ha,hb,e,hk,hc⟩:=jk0 hmay hi
 unfold XC at hmay
 simp only[Bool.and_eq_true,List.all_eq_true]at hmay
 have:=hmay.2.2.1 (g.ts[a].ops[b]) (by
  unfold jab
  exact List.mem_flatMap.2 ⟨g.ts[a],List.getElem_mem ha,List.getElem_mem hb⟩)
 simp only[opB,YA,Bool.and_eq_true,decide_eq_true_eq]at this
 exact⟨(ja6 g (readH g)[i]).toNat,by rw[hk];omega,by rw[hk];omega⟩
theorem jhp (hmay:XC g=true):g.ks.length≤40∧g.ts.length≤40:=by
 unfold XC at hmay
 simp only[Bool.and_eq_true]at hmay
 have h:=hmay.1
 unfold XR at h
 simp only[Bool.and_eq_true,decide_eq_true_eq]at h
 exact⟨h.2.2.2.1,h.2.2.2.2⟩
theorem j1q (_:Ws g M=true) {r:Int × Int × Int}(hr:r∈rdsF g M):∃ (i:Nat) (p:Int × Int) (m:Int),(readH g)[i]? = some p∧M[i]? = some m∧r=(p.1,m,ja6 g p):=by
 unfold rdsF at hr
 obtain⟨⟨p,m⟩,hx,rfl⟩:=List.mem_map.1 hr
 obtain⟨i,hi⟩:=List.mem_iff_getElem?.1 hx
 obtain⟨h1,h2⟩:=List.getElem?_zip_eq_some.1 hi
 exact⟨i,p,m,h1,h2,rfl⟩
theorem jzq (hm:Ws g M=true):∀r∈rdsF g M,RdOk r:=fun r hr=>by
 obtain⟨i,p,m,h1,h2,rfl⟩:=j1q hm hr
 have hmay:=Yx (XW hm)
 have hl:=jhp hmay
 obtain⟨hi,rfl⟩:=List.getElem?_eq_some_iff.1 h1
 obtain⟨k,hk,hk2⟩:=jm9 hmay hi
 obtain⟨a,ea,ha⟩:=comL_mem.1 (jhb (List.getElem_mem hi))
 have:=XG ha
 refine⟨⟨zO,zO⟩,?_,by show 0≤ja6 g _;omega,by show ja6 g _<64;omega⟩
 show m<64
 rcases jln hm (List.mem_of_getElem? h2) with h|h
 ·omega
 ·obtain⟨b,eb,hb⟩:=comL_mem.1 h
  have:=XG hb
  omega
theorem jdi (p:Nat→Bool) (L:List Nat) (a:Nat):(Jw 0 (L.filter p)).testBit a=decide (a∈L∧p a=true):=by
 rw[joj,Nat.zero_testBit,Bool.false_or,Bool.eq_iff_iff,List.contains_iff_mem,List.mem_filter,decide_eq_true_eq]
theorem js5 (hm:Ws g M=true) (h8:g.ts.length≤8) (w t:Nat):jxa (rdsF g M) (Wr g) (WK g) w t=jfo g M (fun a=>w.testBit a) t:=by
 have hmay:=Yx (XW hm)
 unfold jxa jfo
 congr 1
 ·rw[Bool.eq_iff_iff,List.all_eq_true,andTo_iff]
  constructor
  ·intro h a ha
   by_cases hc:X4 g a=true
   ·by_cases hse:sesAt g a=sesAt g t
    ·have hlt:=XG hc
     have:=h a (bitsUp_mem.2 ⟨zO,by unfold Wr;rw[jdi,decide_eq_true_eq];exact⟨comN_mem.2 hc,by simp[Yc,hse,ha]⟩⟩)
     simp[this]
    ·simp[hse]
   ·simp[hc]
  ·intro h a ha
   have hb:=(bitsUp_mem.1 ha).2
   unfold Wr at hb
   rw[jdi,decide_eq_true_eq]at hb
   obtain⟨h1,h2⟩:=hb
   simp only[Yc,Bool.and_eq_true,decide_eq_true_eq,beq_iff_eq]at h2
   have:=h a h2.1
   simpa[comN_mem.1 h1,h2.2] using this
 ·rw[List.not_any_eq_all_not,rdsF,List.all_map,Bool.eq_iff_iff,List.all_eq_true,List.all_eq_true]
  refine forall_congr' fun x=>forall_congr' fun hx=>?_
  obtain⟨p,m⟩:=x
  obtain⟨i,hi⟩:=List.mem_iff_getElem?.1 hx
  obtain⟨h1,h2⟩:=List.getElem?_zip_eq_some.1 hi
  obtain⟨hi',rfl⟩:=List.getElem?_eq_some_iff.1 h1
  obtain⟨k,hk,hk2⟩:=jm9 hmay hi'
  have hW:(WK g t).testBit k=Y6 g t k:=by
   unfold WK WJ
   rw[jdi,Bool.eq_iff_iff,decide_eq_true_eq,List.mem_range]
   exact⟨fun h=>h.2,fun h=>⟨hk2,h⟩⟩
  simp only[Function.comp,barB,hk,Int.toNat_natCast,hW,jbp]
  split
  ·cases decide (m<0) <;> cases w.testBit m.toNat <;> rfl
  ·cases w.testBit (readH g)[i].1.toNat <;> cases decide (m<0) <;> cases w.testBit m.toNat <;> cases Y6 g t k <;> rfl
end
def jkm (vis:List Nat):List (Int × Int):=vis.map fun v:Nat=>((v:Int),(1:Int))
theorem jmp (y:Nat):∀vis:List Nat,(match jg (jkm vis) (y:Int) with|some p=>jbl p.2|none=>V.int .i64 0)=.int .i64 (if vis.contains y then 1 else 0)
 | []=>rfl
 | v::vis=>by
  have ih:=jmp y vis
  unfold jkm at ih ⊢
  rw[List.map_cons,jg,List.contains_cons]
  by_cases h:y=v
  ·subst h
   simp[jbl]
  ·have h1:¬ (y:Int)=v:=by omega
   have h2:(y == v)=false:=by simpa using h
   rw[if_neg h1,h2,Bool.false_or,← ih]
   cases jg (vis.map fun v:Nat=>((v:Int),(1:Int))) (y:Int) <;> rfl
theorem j0v {w:Nat}{vis:List Nat}(h:w ∉ vis):YR (jkm vis) (w:Int) 1=jkm (vis++[w]):=by
 have:jg (jkm vis) (w:Int)=none:=by
  rw[mfind_none]
  unfold jkm
  rw[List.map_map,List.mem_map]
  rintro⟨v,hv,e⟩
  have e2:(v:Int)=w:=by simpa using e
  have:v=w:=by omega
  exact h (this▸hv)
 unfold YR
 rw[this]
 simp[jkm]
theorem jmo {ob:ZO}{l u:Nat}{vis:List Nat}{y:Nat}(h:jR ob l u=some (MK .u64 jbl (jkm vis))):Xe ob .int (.int .i64 0) false (.map l u) (.int .u64 (y:Int))=some (.int .i64 (if vis.contains y then 1 else 0)):=by
 rw[jb3 (q:=.u64) (f:=jbl) _ h,← jmp y vis]
 cases jg (jkm vis) (y:Int) <;> rfl
def OrdV (ob:ZO) (lo hi:Nat) (ov:V) (done:List Nat):Prop :=
 (ov=.sl none true 0 []∧done=[])∨∃u cs,ov=.osl (2*u+1) u 0 done.length 1∧ob (2*u+1)=some ⟨u,.cells ((ints done).flatMap intC++cs)⟩∧lo≤u∧u<hi
theorem OrdV.frame {ob ob':ZO}{lo hi hi':Nat}{ov:V}{done:List Nat}(h:OrdV ob lo hi ov done) (hf:∀u,lo≤u→u<hi→ob' (2*u+1)=ob (2*u+1)) (hh:hi≤hi'):OrdV ob' lo hi' ov done:=by
 rcases h with h|⟨u,cs,h1,h2,h3,h4⟩
 ·exact .inl h
 ·exact .inr ⟨u,cs,h1,(hf u h3 h4).trans h2,h3,zO⟩
structure OnC where
 g:Hist'
 M:List Int
 N:FN
 rv:V
 tc:Option (Nat × Nat)
 most:Int
 n0:Nat
 n1:Nat
 uS:Nat
def OnC.al (c:OnC):V:=.sl c.tc (comL c.g).isEmpty (comL c.g).length ((comL c.g).flatMap intC)
structure OnC.Ok (c:OnC):Prop where
 m:Ws c.g c.M=true
 l:c.g.ts.length≤8
 f:Off c.n0 c.N.kF
 v:Off c.n0 c.N.kV
 fv:c.N.kF≠c.N.kV
 s:c.n0≤c.uS∧c.uS<c.n1
 r:(rdsF c.g c.M).length≤1000000
structure OnS (c:OnC) (w:Nat) (done vis:List Nat) (sp:Bool) (ob:ZO) (ub:Nat):Prop where
 f:∃ov,ob c.N.kF=some ⟨c.N.uF,.cells (fdC c.g c.N c.rv c.al ov c.most sp)⟩∧OrdV ob c.n1 ub ov done
 d:Fd c.N c.rv (rdsF c.g c.M) (comN c.g) (Wr c.g) (WK c.g) c.n0 ob
 v:∃ver,ob c.N.kV=some ⟨c.N.uV,.mp ver (MK .u64 jbl (jkm vis))⟩
 s:ob (2*c.uS+1)=some ⟨c.uS,.cells (setC w)⟩
def OnC.Rest (c:OnC) (ob ob':ZO):Prop:=∀key,Off c.n1 key→key≠c.N.kF→key≠c.N.kV→key≠2*c.uS+1→ob' key=ob key
theorem OnC.Ok.fix {c:OnC}(h:c.Ok) {key:Nat}(hk:FixF c.N c.n0 key):Off c.n1 key∧key≠c.N.kF∧key≠c.N.kV∧key≠2*c.uS+1:=by
 have:=h.s
 exact⟨hk.o.up zO,hk.f,hk.v,hk.o c.uS this.1⟩
def OnR (c:OnC) (w:Nat) (done:List Nat) (R:R3) (ob:ZO) (ub:Nat) (r:V × (ZO) × (Nat→Bool) × Nat):Prop :=
 r.1=.bool R.1.isSome∧ub≤r.2.2.2∧c.Rest ob r.2.1∧∃w' done',OnS c w' done' R.2.2 R.2.1 r.2.1 r.2.2.2∧(∀l,R.1=some l→done'=l)∧(R.1=none→R.2.1=false→w'=w∧done'=done)
theorem jfa {k:Nat}:∀ {L:List Nat}{w:Nat},w<2 ^ k→(∀a∈L,a<k)→Jw w L<2 ^ k
 | [],_,hw,_=>hw
 | a::L,w,hw,h=>by
  refine jfa (L:=L) (w:=w ||| 1 <<< a) (Nat.or_lt_two_pow hw ?_) fun b hb=>h b (List.mem_cons_of_mem _ hb)
  rw[Nat.one_shiftLeft]
  exact Nat.pow_lt_pow_right (by decide) (h a (List.mem_cons_self ..))
section
variable {c:OnC}
theorem cl_lt (hc:c.Ok) {t:Nat}(h:t∈comN c.g):t<8:=by
 have:=XG (comN_mem.1 h)
 have:=hc.l
 omega
theorem jy9 (hc:c.Ok) (t:Nat):Wr c.g t<512:=by
 have:Wr c.g t<2 ^ 9:=jfa (by decide) fun a ha=>by
  have:=cl_lt hc (List.mem_filter.1 ha).1
  omega
 exact this
theorem jqx (hc:c.Ok) (t:Nat):WK c.g t<2 ^ 64:=Ym (by decide) fun a ha=>by
 have:=List.mem_range.1 (List.mem_filter.1 ha).1
 have:=(jhp (Yx (XW hc.m))).1
 omega
end
def OnP (c:OnC) (n:Nat):Prop:=∀ (Yf:YF) (w:Nat) (done vis:List Nat) (ob:ZO) (tk:Nat→Bool) (ro base ub:Nat),OnS c w done vis false ob ub→done.length+n=(comN c.g).length→w<256→w ∉ vis→c.n1≤ub→ro≤c.n1→ro≤c.N.uF→ro≤c.N.uV→ro≤c.uS →
 ∃r,EvS E Yf.y 77 [.ptr c.N.kF c.N.uF 0,.ptr (2*c.uS+1) c.uS 0] ob tk ro base ub r∧OnR c w done (onM (nxM c.g c.M) (comN c.g) c.most n w done vis) ob ub r
theorem ji7 {nx:Nat→Nat→Bool}{C:List Nat}{most:Int}{w:Nat}{done vis:List Nat}(h:(vis.length:Int)=most):∀n,onM nx C most n w done vis=(none,true,vis)
 | 0=>by rw[onM,if_pos h]
 | n+1=>by rw[onM,if_pos h]
theorem jjs {F:Env}{Yf:YF}{lo hi t ub:Nat}{ov:V}{done:List Nat}{s x:A}{st:St}{K:St→Nat→Prop}{d:Option Nat}(hs:eval F st.tm s=ov) (hO:OrdV st.ob lo hi ov done) (hro:st.ro≤lo) (hx:jI st.ob 1 (eval F st.tm x)=some [.int .i64 (t:Int)]) (hl:done.length≤1000)
 (h:∀kl:List Nat,(kl=[]∨∃u,lo≤u∧u<hi∧kl=[2*u+1])→jaj K st d ub { v:=.osl (2*ub+1) ub 0 (done.length+1) 1,obs:=[(2*ub+1,⟨ub,.cells ((ints (done++[t])).flatMap intC)⟩)],kill:=kl }):j8 F Yf ⟨d,.append true 1 8 s x,none,true⟩ st ub K:=by
 rcases hO with⟨rfl,rfl⟩|⟨u,cs,rfl,hob,h1,h2⟩
 ·refine Yu hs hx zS (by decide) rfl zS zS ?_
  simpa[intC,jL,ints] using h [] (.inl rfl)
 ·have hlen:((ints done).flatMap intC).length=done.length:=by rw[j9 jG,Xp];omega
  refine XN (cs:=(ints done).flatMap intC++cs) hs hx hob zS zO (by rw[List.length_append];omega) (by decide) rfl (by simp;omega) (by simp;omega) ?_
  have:=h [2*u+1] (.inr ⟨u,h1,h2,rfl⟩)
  rw[Nat.mul_one,List.take_left' hlen]
  simpa[intC,jL,ints] using this
section
variable {c:OnC}
theorem OnS.upd {w:Nat}{done vis vis':List Nat}{sp:Bool}{ob ob':ZO}{ub ub':Nat}(h:OnS c w done vis sp ob ub) (hc:c.Ok) (hn:c.n1≤ub) (hu:ub≤ub') (hk:∀key,Off ub key→key≠c.N.kV→ob' key=ob key) (hV:∃ver,ob' c.N.kV=some ⟨c.N.uV,.mp ver (MK .u64 jbl (jkm vis'))⟩):OnS c w done vis' sp ob' ub':=by
 obtain⟨ov,hF,hO⟩:=h.f
 have gS:=hc.s
 refine⟨⟨ov,(hk _ (hc.f.up zO) hc.fv).trans hF,hO.frame (fun u h1 h2=>hk _ (Off.new h2) fun e=>hc.v u zO e.symm) hu⟩,h.d.keep fun key h=>hk _ (h.o.up zO) h.v,hV,(hk _ (Off.new zO) fun e=>hc.v c.uS gS.1 e.symm).trans h.s⟩
theorem OnS.keep {w:Nat}{done vis:List Nat}{sp:Bool}{ob ob':ZO}{ub ub':Nat}(h:OnS c w done vis sp ob ub) (hc:c.Ok) (hn:c.n1≤ub) (hu:ub≤ub') (hk:∀key,Off ub key→ob' key=ob key):OnS c w done vis sp ob' ub':=by
 obtain⟨ver,hV⟩:=h.v
 have gS:=hc.s
 exact h.upd hc hn hu (fun key h _=>hk key h) ⟨ver,(hk _ (hc.v.up zO)).trans hV⟩
set_option maxHeartbeats 4000000 in
theorem jsm (hc:c.Ok) (n:Nat) (ih:∀k,n=k+1→OnP c k):OnP c n:=by
 intro Yf w done vis ob tk ro base ub hS hdn hw hwv hn1 ho1 ho2 ho3 ho4
 obtain⟨ov,hF,hO⟩:=hS.f
 obtain⟨ver,hV⟩:=hS.v
 have hKS:=hS.s
 have gS:=hc.s
 have oF:=(hc.f.up (show c.n0≤ub by omega)).ne
 have oV:=(hc.v.up (show c.n0≤ub by omega)).ne
 have nS:∀m,ub≤m→¬ c.uS=m:=fun m hm=>by omega
 have fv:=hc.fv
 have fs:c.N.kF≠2*c.uS+1:=hc.f c.uS gS.1
 have vs:c.N.kV≠2*c.uS+1:=hc.v c.uS gS.1
 have hvl:(jkm vis).length=vis.length:=by simp[jkm]
 refine Yb (af:=S77) rfl (by decide) ?_
 show wpC E Yf S77.body _ (We S77.res _)
 simp(disch:=first|(simp;done)|omega) [S77,j1,hF,fdC,jR,hV,hvl]
 by_cases hmost:(vis.length:Int)=c.most
 ·simp(disch:=first|(simp;done)|omega) [hmost,j1,hF,fdC,j6]
  refine⟨ho2,YX zS ?_⟩
  rw[ji7 hmost]
  refine⟨zS,by simp;omega,fun key hk h1 h2 h3=>by simp[h1],w,done,⟨⟨ov,by simp[fdC],hO.frame (fun u h1 h2=>?_) (by simp;omega)⟩,hS.d.keep fun key hk=>by simp[hk.f],⟨ver,by simp[Ne.symm fv,hV]⟩,by simp[Ne.symm fs,hKS]⟩,fun l h=>(by cases h),fun _ h=>(by cases h)⟩
  have:2*u+1≠c.N.kF:=fun e=>hc.f u zO e.symm
  simp[this]
 have hmost':((vis.length:Int) == c.most)=false:=by simpa using hmost
 have hwc:vis.contains w=false:=by simpa using hwv
 simp(disch:=first|(simp;done)|omega) [hmost',j1,hF,fdC]
 refine jer (vs:=[.ptr (2*c.uS+1) c.uS 0]) zS rfl rfl (j0a (w:=w) (by simpa using hKS) (Off.new zL) zO _ _) (Jk rfl) ?_
 simp
 rw[jmo (vis:=vis) (y:=w) (by simp[jR,hV]),hwc,if_neg (by decide)]
 simp[show IntKind.i64.wrap 1=1 from rfl]
 refine jp0 (q:=.u64) (f:=jbl) (a:=1) (ver:=ver) (k:=(w:Int)) (l:=c.N.kV) (u:=c.N.uV) (jkm vis) zS zS (by simp[jbl,V.strip]) (by simp[hV]) (by simpa using ho3) ?_
 rw[j0v hwv]
 simp
 have hlen:∀ob':ZO,Q7 ov=some (.int .i64 (done.length:Nat)):=fun _=>by
  rcases hO with⟨rfl,rfl⟩|⟨u,cs,rfl,_⟩ <;> rfl
 have hcl:=Wm c.g
 simp(disch:=first|(simp;done)|omega) [j1,hF,fdC,OnC.al,fv,hlen ob]
 by_cases h0:n=0
 ·subst h0
  have e0:(done.length:Int)=(comL c.g).length:=by omega
  simp[e0]
  refine YX zS ?_
  rw[onM,if_neg hmost]
  refine⟨zS,zL,fun key hk h1 h2 h3=>by simp[h2],w,done,hS.upd hc hn1 zL (fun key hk h=>by simp[h]) ⟨ver+1,zS⟩,fun l h=>by cases h;rfl,fun h=>by cases h⟩
 ·obtain⟨k,rfl⟩:∃k,n=k+1:=⟨n - 1,zO⟩
  have e0:((done.length:Int) == (comL c.g).length)=false:=by simp;omega
  simp[e0]
  simp(disch:=first|(simp;done)|omega) [j1,hF,fdC,OnC.al,fv]
  refine JS fun st hst=>?_
  have g0:st.tm 0=.ptr c.N.kF c.N.uF 0:=by rw[hst];simp
  have g1:st.tm 1=.ptr (2*c.uS+1) c.uS 0:=by rw[hst];simp
  have g42:st.tm 42=.sl c.tc (comL c.g).isEmpty (comL c.g).length ((comL c.g).flatMap intC):=by rw[hst];simp
  have g43:st.tm 43=.int .i64 (comL c.g).length:=by rw[hst];simp
  have g44:st.tm 44=.int .i64 0:=by rw[hst];simp
  have gd:st.df=[]:=by rw[hst];simp
  have gr:st.ro=ro:=by rw[hst];simp
  have gn:ub≤st.nx:=by rw[hst];simp;omega
  have gO:OnS c w done (vis++[w]) false st.ob st.nx:=hS.upd hc hn1 gn (fun key hk h=>by rw[hst];simp[h]) ⟨ver+1,by rw[hst];simp⟩
  have gR:c.Rest ob st.ob:=fun key hk h1 h2 h3=>by rw[hst];simp[h2]
  clear hst
  obtain⟨R,hR⟩:∃R,R=loopM (onM (nxM c.g c.M) (comN c.g) c.most k) (nxM c.g c.M) w done (comN c.g) (vis++[w]):=⟨_,rfl⟩
  have hon:onM (nxM c.g c.M) (comN c.g) c.most (k+1) w done vis=R:=by rw[onM,if_neg hmost,hR]
  rw[hon]
  obtain⟨J,hJ⟩:∃J:Nat→St→Prop,J=fun i s=>s.tm 44=.int .i64 i∧(∃vis,OnS c w done vis false s.ob s.nx∧R=loopM (onM (nxM c.g c.M) (comN c.g) c.most k) (nxM c.g c.M) w done ((comN c.g).drop i) vis)∧c.Rest ob s.ob∧ub≤s.nx:=⟨_,rfl⟩
  refine jE [(4,4),(6,6),(44,108)] (comL c.g).length J rfl rfl (by rw[hJ];exact⟨by simpa using g44,⟨_,gO,hR⟩,gR,gn⟩) ?_
  clear gO gR gn hF hV hO hS hKS hR hon hlen
  intro i s hi hJs f
  rw[hJ]at hJs
  obtain⟨s44,⟨vis,sS,sR⟩,sw,sn⟩:=hJs
  have s0:s.tm 0=.ptr c.N.kF c.N.uF 0:=by rw[f.t 0 zS];simp[g0]
  have s1:s.tm 1=.ptr (2*c.uS+1) c.uS 0:=by rw[f.t 1 zS];simp[g1]
  have s42:s.tm 42=.sl c.tc (comL c.g).isEmpty (comL c.g).length ((comL c.g).flatMap intC):=by rw[f.t 42 zS];simp[g42]
  have s43:s.tm 43=.int .i64 (comL c.g).length:=by rw[f.t 43 zS];simp[g43]
  have sd:s.df=[]:=by rw[f.d];simp[gd]
  have sr:s.ro=ro:=by rw[f.r];simp[gr]
  clear f
  by_cases hlt:i<(comL c.g).length
  ·have hltN:i<(comN c.g).length:=by omega
   obtain⟨t,ht⟩:∃t,t=(comN c.g)[i]:=⟨_,rfl⟩
   have htm:t∈comN c.g:=ht▸List.getElem_mem hltN
   have ht8:=cl_lt hc htm
   have hti:(comL c.g)[i]=(t:Int):=by
    have h1:(comL c.g)[i]? = (ints (comN c.g))[i]?:=by rw[QK]
    rw[List.getElem?_eq_getElem hlt]at h1
    unfold ints at h1
    rw[List.getElem?_map,List.getElem?_eq_getElem hltN]at h1
    simpa[ht] using h1
   have hll:=hc.l
   have hcl2:=Qa c.g
   have hwk:=J0 hlt zO
   have hix:=WD jG c.tc (comL c.g).isEmpty (comL c.g) .i64 hlt
   have hia:=XP (comL c.g) hlt
   rw[hti]at hia
   rw[List.drop_eq_getElem_cons hltN,← ht,loopM]at sR
   obtain⟨ov,hF,hO⟩:=sS.f
   obtain⟨ver,hV⟩:=sS.v
   have hKS:=sS.s
   simp(disch:=first|(simp;done)|omega) [s44,s43,s42,s1,hlt,hix,hia]
   refine jer (vs:=[.ptr (2*c.uS+1) c.uS 0,.int .i64 t]) zS rfl rfl (jj8 (w:=w) (n:=t) (by simpa using hKS) (Off.new zL) zO zO _ _) (Jk rfl) ?_
   have hnext:=js5 hc.m hc.l w t
   have hskip:(w.testBit t || (!nxM c.g c.M w t || vis.contains (w ||| 1 <<< t)))=true→R=loopM (onM (nxM c.g c.M) (comN c.g) c.most k) (nxM c.g c.M) w done ((comN c.g).drop (i+1)) vis:=fun h=>by rw[sR,if_pos h]
   cases hb:w.testBit t
   ·simp(disch:=first|(simp;done)|omega) [s0,s1]
    refine jer (vs:=[.ptr c.N.kF c.N.uF 0,.ptr (2*c.uS+1) c.uS 0,.int .i64 t]) zS rfl rfl (evo82 (g:=c.g) (rv:=c.rv) (al:=c.al) (ov:=ov) (most:=c.most) (sp:=false) (n0:=c.n0) (w:=w) (t:=t) (sS.d.keep fun _ _=>by simp) (by simpa using hF) (hc.f.up zL) (by simpa using hKS) (Off.new zL) zL zO htm (jy9 hc t) (jqx hc t) (jzq hc.m) hc.r _ _) (Jk rfl) ?_
    rw[hnext]
    rw[show jfo c.g c.M (fun a=>w.testBit a) t=nxM c.g c.M w t from rfl]
    cases hx:nxM c.g c.M w t
    ·simp(disch:=first|(simp;done)|omega) [s44,hwk,hlt]
     rw[hJ]
     exact⟨zS,⟨vis,sS.keep hc zO zL fun key _=>by simp,hskip (by simp[hx])⟩,fun key hk h1 h2 h3=>by simpa using sw key hk h1 h2 h3,zL⟩
    ·simp(disch:=first|(simp;done)|omega) [s0,s1,j1,hF,fdC]
     refine jer (vs:=[.ptr (2*c.uS+1) c.uS 0]) zS rfl rfl (j0a (w:=w) (by simpa using hKS) (Off.new zL) zO _ _) (Jk rfl) ?_
     have e1:=jg2 (n:=t) zO
     have e2:=jin (a:=w) (b:=1 <<< t) zO (jni zO)
     generalize hp1:1 <<< t=p1 at e1 e2 hskip sR
     generalize hp2:w ||| p1=p2 at e2 hskip sR
     simp(disch:=first|(simp;done)|omega) [e1,e2]
     rw[jmo (vis:=vis) (y:=p2) (by simp[jR,hV])]
     cases hv:vis.contains p2
     ·have hR2:(∀l sp v,onM (nxM c.g c.M) (comN c.g) c.most k p2 (done++[t]) vis=(some l,sp,v)→R=(some l,sp,v))∧(∀v,onM (nxM c.g c.M) (comN c.g) c.most k p2 (done++[t]) vis=(none,true,v)→R=(none,true,v)) ∧
       ∀v,onM (nxM c.g c.M) (comN c.g) c.most k p2 (done++[t]) vis=(none,false,v)→R=loopM (onM (nxM c.g c.M) (comN c.g) c.most k) (nxM c.g c.M) w done ((comN c.g).drop (i+1)) v:=by
       rw[sR,if_neg (by rw[hb,hx,hv];simp)]
       exact⟨fun l sp v h=>by rw[h],fun v h=>by rw[h],fun v h=>by rw[h]⟩
      have hp2':w ||| 1 <<< t=p2:=by rw[hp1];exact hp2
      simp
      refine J6 (vs:=[.ptr (2*c.uS+1) c.uS 0,.int .i64 t]) (by simp[s1]) rfl (sv81 (w:=w) (by simpa using hKS) (Off.new zL) (by first|omega|(simp[sr];omega)) zO zO) ?_
      rintro v1 ob1 tk1 ub1 ⟨r1,r2,r3⟩
      simp only at r1 r2 r3
      rw[hp2']at r2
      have q1:s.nx≤ub1:=by first|omega|(simp at r3;omega)
      have q2:∀key,Off s.nx key→ob1 key=if key=2*c.uS+1 then some ⟨c.uS,.cells (setC p2)⟩ else s.ob key:=fun key hk=>by
       rw[r2 key (hk.up zL)]
       simp
      clear r1 r2 r3
      have hF1:ob1 c.N.kF=some ⟨c.N.uF,.cells (fdC c.g c.N c.rv c.al ov c.most false)⟩:=by rw[q2 _ (hc.f.up zO),if_neg fs];exact hF
      simp(disch:=first|(simp;done)|omega) [s0,j1,hF1,fdC]
      refine JO (cs:=[.int .i64 (t:Int)]) (by simp[j6]) rfl rfl ?_
      simp
      refine jjs (lo:=c.n1) (hi:=s.nx) (done:=done) (t:=t) (ov:=ov) zS (hO.frame (fun u h1 h2=>?_) (Nat.le_refl _)) (by simpa[sr] using ho1) (by simp[jI,j1]) zO fun kl hkl=>?_
      ·have h3:∀m,s.nx≤m→¬ u=m:=fun m hm=>by omega
       simp(disch:=first|(simp;done)|omega) [two_inj,h3]
       rw[q2 _ (Off.new h2),if_neg zO]
      have hkF:kl.any (Nat.beq c.N.kF)=false:=by
       rcases hkl with rfl|⟨u,h1,h2,rfl⟩
       ·rfl
       ·simp only[List.any_cons,List.any_nil,Bool.or_false]
        exact Jx (hc.f u zO)
      have hk1:∀key,Off c.n1 key→kl.any (Nat.beq key)=false:=fun key hk=>by
       rcases hkl with rfl|⟨u,h1,h2,rfl⟩
       ·rfl
       ·simp only[List.any_cons,List.any_nil,Bool.or_false]
        exact Jx (hk u h1)
      generalize hcs:List.flatMap intC (ints (done++[t]))=cs9
      simp(disch:=first|(simp;done)|omega) [j1,hF1,fdC,hkF,j6,jZ,oF]
      refine⟨by simpa[sr] using ho2,?_⟩
      simp(disch:=first|(simp;done)|omega) [s0,s1]
      refine J6 (vs:=[.ptr c.N.kF c.N.uF 0,.ptr (2*c.uS+1) c.uS 0]) zS rfl (ih k rfl Yf p2 (done++[t]) vis _ _ _ _ _ ?_ (by simp;omega) ?_ (by simpa using hv) zL (by simpa[sr] using ho1) (by simpa[sr] using ho2) (by simpa[sr] using ho3) (by simpa[sr] using ho4)) ?_
      ·have nkF:¬ 2*(ub1+448)+1=c.N.kF:=fun e=>oF (ub1+448) zO e.symm
       refine⟨⟨.osl (2*(ub1+448)+1) (ub1+448) 0 (done.length+1) 1,by simp[fdC,Nat.add_assoc],.inr ⟨ub1+448,[],zS,?_,zO,zL⟩⟩,sS.d.keep fun key hk=>?_,⟨ver,?_⟩,?_⟩
       ·simp(disch:=first|(simp;done)|omega) [jZ,Nat.add_assoc,nkF,hcs]
       ·obtain⟨f1,f2,f3,f4⟩:=hc.fix hk
        have f5:=(f1.up (show c.n1≤ub by omega)).ne
        simp(disch:=first|(simp;done)|omega) [jZ,f2,f5,hk1 key f1]
        rw[q2 key (f1.up zO),if_neg f4]
       ·have f1:=hc.v.up (show c.n0≤c.n1 by omega)
        have f5:=(f1.up (show c.n1≤ub by omega)).ne
        simp(disch:=first|(simp;done)|omega) [jZ,Ne.symm fv,f5,hk1 _ f1]
        rw[q2 _ (f1.up zO),if_neg vs]
        exact hV
       ·have f1:Off c.n1 (2*c.uS+1):=Off.new gS.2
        have f5:=(f1.up (show c.n1≤ub by omega)).ne
        simp(disch:=first|(simp;done)|omega) [jZ,Ne.symm fs,hk1 _ f1,two_inj,nS]
        rw[q2 _ (f1.up zO),if_pos rfl]
      ·have:w ||| 1 <<< t<2 ^ 8:=Nat.or_lt_two_pow hw (by rw[Nat.one_shiftLeft];exact Nat.pow_lt_pow_right (by decide) ht8)
       rw[hp2']at this
       exact this
      ·rintro v2 ob2 tk2 ub2 ⟨r1,r2,r3,w',done',r4,r5,r6⟩
       simp only at r1 r2 r3 r4
       have q3:ub1≤ub2:=by first|omega|(simp at r2;omega)
       have hrest:c.Rest ob ob2:=fun key hk h1 h2 h3=>by
        rw[r3 key hk h1 h2 h3,← sw key hk h1 h2 h3]
        have f5:=(hk.up (show c.n1≤ub by omega)).ne
        simp(disch:=first|(simp;done)|omega) [jZ,h1,f5,hk1 key hk]
        rw[q2 key (hk.up zO),if_neg h3]
       clear r2 r3
       rcases hon2:onM (nxM c.g c.M) (comN c.g) c.most k p2 (done++[t]) vis with⟨o,sp,vv⟩
       rw[hon2]at r1 r4 r5 r6 hR2
       obtain⟨h1,h2,h3⟩:=hR2
       obtain⟨ov2,hF2,hO2⟩:=r4.f
       cases o with
       | some l=>
        rw[r1]
        simp
        refine YX (by simp[sd]) ?_
        rw[h1 l sp vv rfl]
        exact⟨zS,zL,fun key hk h1 h2 h3=>by simpa using hrest key hk h1 h2 h3,w',done',r4.keep hc zO zL fun key _=>by simp,r5,fun h=>by cases h⟩
       | none=>
        rw[r1]
        cases sp with
        | true=>
         simp(disch:=first|(simp;done)|omega) [s0,j1,hF2,fdC]
         refine YX (by simp[sd]) ?_
         rw[h2 vv rfl]
         exact⟨zS,zL,fun key hk h1 h2 h3=>by simpa using hrest key hk h1 h2 h3,w',done',r4.keep hc zO zL fun key _=>by simp,fun l h=>(by cases h),fun _ h=>by cases h⟩
        | false=>
         obtain⟨rfl,rfl⟩:=r6 rfl rfl
         rcases hO2 with⟨_,h⟩|⟨u,cs,rfl,hob,hu1,hu2⟩
         ·exact absurd h zS
         have hwm:IntKind.i64.wrap (done.length:Int)=(done.length:Int):=jy zO zO
         have hsl:jaq 1 none (some (.int .i64 (done.length:Int))) (.osl (2*u+1) u 0 (done.length+1) 1)=some (.osl (2*u+1) u 0 done.length 1):=by
          have h1:(done.length:Int)≤(done.length:Int)+1:=by omega
          simp[jaq,X6,h1]
         simp(disch:=first|(simp;done)|omega) [s0,j1,hF2,fdC,hwm,hsl,j6]
         refine⟨by simpa[sr] using ho2,?_⟩
         simp(disch:=first|(simp;done)|omega) [s1]
         have hS2:=r4.s
         refine J6 (vs:=[.ptr (2*c.uS+1) c.uS 0,.int .i64 t]) zS rfl (sv125 (w:=w') (by simpa[Ne.symm fs] using hS2) (Off.new zL) (by first|omega|(simp[sr];omega)) zO) ?_
         rintro v3 ob3 tk3 ub3 ⟨r7,r8,r9⟩
         simp only at r7 r8 r9
         have q4:ub2≤ub3:=by first|omega|(simp at r9;omega)
         have hdw:jqf w' t=w:=by rw[← hp2'];exact jyz zO zO hb
         rw[hdw]at r8
         have q5:∀key,Off ub2 key→ob3 key=if key=2*c.uS+1 then some ⟨c.uS,.cells (setC w)⟩ else if key=c.N.kF then some ⟨c.N.uF,.cells (fdC c.g c.N c.rv c.al (.osl (2*u+1) u 0 done.length 1) c.most false)⟩ else ob2 key:=fun key hk=>by
          rw[r8 key (hk.up zL)]
          simp[fdC]
         clear r7 r8 r9
         simp[s44,hwk,hlt]
         rw[hJ]
         obtain⟨ver3,hV3⟩:=r4.v
         refine⟨zS,⟨vv,⟨⟨.osl (2*u+1) u 0 done.length 1,?_,.inr ⟨u,.int .i64 (t:Int)::cs,rfl,?_,hu1,zL⟩⟩,r4.d.keep fun key hk=>?_,⟨ver3,?_⟩,?_⟩,h3 vv rfl⟩,fun key hk h1 h2 h3=>?_,zL⟩
         ·simp
          rw[q5 _ (hc.f.up zO),if_neg fs,if_pos rfl]
         ·simp
          rw[q5 _ (Off.new zO),if_neg zO,if_neg (fun e=>hc.f u zO e.symm),hob]
          simp[ints,intC]
         ·obtain⟨f1,f2,f3,f4⟩:=hc.fix hk
          simp
          rw[q5 key (f1.up zO),if_neg f4,if_neg f2]
         ·simp
          rw[q5 _ (hc.v.up zO),if_neg vs,if_neg (Ne.symm fv)]
          exact hV3
         ·simp
          rw[q5 _ (Off.new zO),if_pos rfl]
         ·simp
          rw[q5 key (hk.up zO),if_neg h3,if_neg h1]
          exact hrest key hk h1 h2 h3
     ·simp[s44,hwk,hlt]
      rw[hJ]
      exact⟨zS,⟨vis,sS.keep hc zO zL fun key _=>by simp,hskip (by rw[hv];simp)⟩,fun key hk h1 h2 h3=>by simpa using sw key hk h1 h2 h3,zL⟩
   ·simp(disch:=first|(simp;done)|omega) [s44,hwk,hlt]
    rw[hJ]
    exact⟨zS,⟨vis,sS.keep hc zO zL fun key _=>by simp,hskip (by simp[hb])⟩,fun key hk h1 h2 h3=>by simpa using sw key hk h1 h2 h3,zL⟩
  ·have:i=(comL c.g).length:=by omega
   subst this
   rw[List.drop_of_length_le zO,loopM]at sR
   simp[s44,s43]
   refine YX (by simp[sd]) ?_
   rw[sR]
   exact⟨zS,zL,fun key hk h1 h2 h3=>by simpa using sw key hk h1 h2 h3,w,done,sS.keep hc zO zL fun key _=>by simp,fun l h=>(by cases h),fun _ _=>⟨rfl,rfl⟩⟩
theorem sv77 (hc:c.Ok) (n:Nat):OnP c n:=by
 induction n with
 | zero=>exact jsm hc 0 fun k h=>by omega
 | succ n ih=>
  refine jsm hc (n+1) fun k h=>?_
  have:k=n:=by omega
  exact this▸ih
end
theorem jgc {nx:Nat→Nat→Bool}:∀ {L:List Nat}{w:Nat},jpb nx w L=true→L.Nodup∧∀t∈L,w.testBit t=false
 | [],_,_=>⟨List.nodup_nil,fun _ h=>by cases h⟩
 | t::r,w,h=>by
  simp only[jpb,Bool.and_eq_true,Bool.not_eq_true']at h
  obtain⟨h1,_,h2⟩:=h
  obtain⟨q1,q2⟩:=jgc h2
  have q3:∀a∈r,w.testBit a=false∧¬ t=a:=fun a ha=>by
   have:=q2 a ha
   rw[jfb]at this
   simpa using this
  rw[List.nodup_cons]
  refine⟨⟨fun h=>(q3 t h).2 rfl,q1⟩,fun a ha=>?_⟩
  rcases List.mem_cons.1 ha with h|h
  ·exact h▸h1
  ·exact(q3 a h).1
theorem jog (C:List Nat):cnt C 0=0:=by simp[cnt]
theorem jp6 {L:List Nat}(h:L.Nodup):(ints L).Nodup:=List.pairwise_map.2 (List.Pairwise.imp (fun h e=>h zO) h)
def WF (g:Hist') (M:List Int) (most:Int):R3:=onM (nxM g M) (comN g) most (comN g).length 0 [] []
section
variable {g:Hist'}{M:List Int}{most:Int}
theorem jqa (hm:Ws g M=true) {L:List Nat}(h:Full (nxM g M) (comN g) 0 L):JZ g (ints L)=true:=by
 obtain⟨h1,h2,h3⟩:=h
 rw[jse (XW hm)]
 rw[jog]at h2
 refine Qz (jp6 (jgc h3).1) (fun x hx=>?_) ?_
 ·unfold ints at hx
  obtain⟨a,ha,rfl⟩:=List.mem_map.1 hx
  exact comL_mem.2 ⟨a,rfl,comN_mem.1 (h1 a ha)⟩
 ·have:=Wm g
  simp only[ints,List.length_map]
  omega
theorem jl2 (g:Hist') (M:List Int) (most:Int):Found (nxM g M) (comN g) 0 [] [] (WF g M most):=jnj (jqk g) (jh3 g) _ 0 [] [] (by rw[jog,Nat.zero_add]) fun v h=>by cases h
theorem jqb (hm:Ws g M=true) {L:List Nat}(h:(WF g M most).1=some L):JZ g (ints L)=true:=by
 obtain⟨_,L',e,h1,_⟩:=(jl2 g M most).yes L h
 rw[List.nil_append]at e
 subst e
 exact jqa hm h1
end
def jcu (g:Hist') (M:List Int) (most:Int):List Int × Int × Int :=
 if !JC g then ([],0,4) else if !Ws g M || decide (most<0) then ([],0,2) else
  if (WF g M most).2.1 then ([],(WF g M most).2.2.length,13) else match (WF g M most).1 with
   | none=>([],(WF g M most).2.2.length,3)
   | some l=>(ints l,(WF g M most).2.2.length,0)
def jon (r:List Int × Int × Int) (v:V):Prop:=∃nl,(nl=true→r.1=[])∧j45 [.sl none nl r.1.length (r.1.flatMap intC),.int .i64 r.2.1,.int .i64 r.2.2] v
theorem jsc {st:St}{lo hi:Nat}{ov:V}{done:List Nat}(h:OrdV st.ob lo hi ov done) (hro:st.ro≤lo):∃nl,(nl=true→done=[])∧jzb st ov (.sl none nl done.length ((ints done).flatMap intC)):=by
 rcases h with⟨rfl,rfl⟩|⟨u,cs,rfl,hob,h1,_⟩
 ·exact⟨true,fun _=>rfl,Jl rfl⟩
 ·refine⟨false,fun h=>(by cases h),jhf rfl fun keep i=>?_⟩
  have hlen:((ints done).flatMap intC).length=done.length:=by rw[j9 jG,Xp];omega
  have hoc:j1 st.ob (2*u+1) u=some ((ints done).flatMap intC++cs):=by simp[j1,hob]
  have hs:Jm st 6 (.osl (2*u+1) u 0 done.length 1)=some (.sl none false done.length ((ints done).flatMap intC)):=by
   show((j1 st.ob (2*u+1) u).bind fun cs=>if Nat.ble st.ro u=true∧0+done.length*1≤cs.length then (((cs.drop 0).take (done.length*1)).mapM (Jm st 5)).map fun cs'=>V.sl none false done.length cs' else none)=_
   rw[hoc,Option.bind_some,if_pos ⟨Nat.ble_eq▸zO,by rw[List.length_append];omega⟩,List.drop_zero,Nat.mul_one,List.take_left' hlen,jbr]
   rfl
  simp only[jr,hs,Option.bind_some,hoc,Option.map_some]
  refine⟨_,rfl,?_⟩
  split
  ·exact .inr ⟨1,rfl⟩
  ·exact .inl rfl
theorem XD {st:St}{n e:Int}(hd:st.df=[]) (h6:st.tm 6=.sl none true 0 []) (h7:st.tm 7=.int .i64 n) (h8:st.tm 8=.int .i64 e):jfr [.t 6,.t 7,.t 8] (jon ([],n,e)) .ret st :=
 tupE (ns:=[6,7,8]) (vs:=[.sl none true 0 [],.int .i64 n,.int .i64 e]) (ls:=[.sl none true 0 [],.int .i64 n,.int .i64 e]) (fun r h=>⟨true,fun _=>rfl,h⟩) hd (by simp[h6,h7,h8]) zS zS ⟨Jl rfl,Jl rfl,Jl rfl,trivial⟩
theorem jj1 {st:St}{lo hi:Nat}{ov:V}{l:List Nat}{n e:Int}(hd:st.df=[]) (h6:st.tm 6=ov) (h7:st.tm 7=.int .i64 n) (h8:st.tm 8=.int .i64 e) (hO:OrdV st.ob lo hi ov l) (hro:st.ro≤lo):jfr [.t 6,.t 7,.t 8] (jon (ints l,n,e)) .ret st:=by
 obtain⟨nl,h1,h2⟩:=jsc hO hro
 refine tupE (ns:=[6,7,8]) (vs:=[ov,.int .i64 n,.int .i64 e]) (ls:=[.sl none nl l.length ((ints l).flatMap intC),.int .i64 n,.int .i64 e]) (fun r h=>⟨nl,fun h=>by rw[h1 h];rfl,?_⟩) hd (by simp[h6,h7,h8]) zS zS ⟨h2,Jl rfl,Jl rfl,trivial⟩
 rw[Xp]
 exact h
section
variable {g:Hist'}{M:List Int}
set_option maxHeartbeats 4000000 in
theorem ev34 (hs:Small g) (h8:g.ts.length≤8) {mn:Bool}(hM:M.length≤1000000) (most:Int):∃v,Ev E 34 [.agg (j2 g),jN mn intC M,.int .i64 most] v∧jon (jcu g M most) v:=by
 have e52:=ev52 hs
 have e53:=ev53 hs (b:=mn) M hM
 rw[is_eq]at e53
 refine YE (af:=F34) rfl (by decide) ?_
 simp(disch:=first|(simp;done)|omega) [F34,j1,j2]
 refine jV e52 (by simp[j2]) rfl (by simp[j2]) ?_
 unfold jcu
 cases hw:JC g
 ·simp
  exact XD zS zS zS zS
 simp(disch:=first|(simp;done)|omega) [j1,jN]
 refine jV e53 (by simp[j2,jN]) rfl (by simp[j2,jN]) ?_
 cases hm:Ws g M
 ·simp(disch:=first|(simp;done)|omega)
  exact XD zS zS zS zS
 by_cases hmo:most<0
 ·simp(disch:=first|(simp;done)|omega) [hmo]
  exact XD zS zS zS zS
 simp(disch:=first|(simp;done)|omega) [hmo,j1]
 refine J6 (vs:=[.agg (j2 g),jN mn intC M]) (by simp[j2,jN]) rfl (sv76 hs hm zL) ?_
 rintro v1 ob1 tk1 ub1 ⟨b1,b2,N,rv,tc,b3,b4,b5,b6,b7,b8,b9,b10,b11⟩
 simp only at b1 b2 b3 b4 b5 b6 b7 b8
 subst b3
 simp(disch:=first|(simp;done)|omega) [j1,b4,fdC,j6]
 refine J6 (vs:=[.sl none true 0 []]) zS rfl j5f ?_
 rintro v2 ob2 tk2 ub2 ⟨m,m1,m2,m3,m4⟩
 simp only at m1 m2 m3 m4
 subst m3
 have hub:ub1≤m:=by first|omega|(simp at m1;omega)
 have hR:=W4 hs
 have hml:=jej hm
 obtain⟨c,hcd⟩:∃c:OnC,c=⟨g,M,N,rv,tc,most,ub1,ub2,m⟩:=⟨_,rfl⟩
 have hc:c.Ok:=by
  rw[hcd]
  exact⟨hm,h8,b7,b8,b9,⟨hub,m2⟩,by rw[jhc hml];omega⟩
 have n1:N.kF≠2*m+1:=b7 m hub
 have n2:N.kV≠2*m+1:=b8 m hub
 have q2:∀key,Off ub1 key→ob2 key=if key=N.kF then some ⟨N.uF,.cells (fdC g N rv (.sl tc (comL g).isEmpty (comL g).length ((comL g).flatMap intC)) (.sl none true 0 []) most false)⟩ else ob1 key:=fun key hk=>by
  rw[m4 key,if_neg (hk m hub)]
  simp[fdC]
 have hS:OnS c 0 [] [] false ob2 ub2:=by
  rw[hcd]
  refine⟨⟨.sl none true 0 [],by show ob2 N.kF=_;rw[q2 _ b7,if_pos rfl];rfl,.inl ⟨rfl,rfl⟩⟩,b5.keep fun key hk=>by rw[q2 key hk.o,if_neg hk.f],⟨0,by show ob2 N.kV=_;rw[q2 _ b8,if_neg (Ne.symm b9)];exact b6⟩,by rw[m4,if_pos rfl]⟩
 clear m4
 simp
 refine J6 (vs:=[.ptr N.kF N.uF 0,.ptr (2*m+1) m 0]) zS rfl (by
  have h:=sv77 hc (comN g).length YC 0 [] [] ob2 tk2 0
  rw[hcd]at h hS
  exact h _ ub2 hS zS (by decide) zS (Nat.le_refl _) (Nat.zero_le _) (Nat.zero_le _) (Nat.zero_le _) (Nat.zero_le _)) ?_
 rintro v3 ob3 tk3 ub3 ⟨r1,r2,r3,w',done',r4,r5,r6⟩
 simp only at r1 r2 r4
 rw[show onM (nxM g M) (comN g) most (comN g).length 0 [] []=WF g M most from rfl]at r1 r4 r5 r6
 obtain⟨ov3,hF3,hO3⟩:=r4.f
 obtain⟨ver3,hV3⟩:=r4.v
 simp only at hF3 hV3 hO3
 generalize WF g M most=R at r1 r4 r5 r6 hF3 hV3 ⊢
 obtain⟨o,sp,vis⟩:=R
 simp only at r1 r5 r6 hF3 hV3
 have hvl:(jkm vis).length=vis.length:=by simp[jkm]
 rw[r1]
 cases sp with
 | true=>
  simp(disch:=first|(simp;done)|omega) [j1,jR,hF3,hV3,fdC,hvl]
  exact XD zS zS zS zS
 | false=>
  cases o with
  | none=>
   simp(disch:=first|(simp;done)|omega) [j1,jR,hF3,hV3,fdC,hvl]
   exact XD zS zS zS zS
  | some l=>
   have:=r5 l rfl
   subst this
   simp(disch:=first|(simp;done)|omega) [j1,jR,hF3,hV3,fdC,hvl]
   exact jj1 zS zS zS zS (hO3.frame (fun _ _ _=>by simp) (Nat.le_refl _)) zS
end
def inS (S:List Int) (a:Nat):Bool:=S.contains (a:Int)
def mayF (g:Hist') (M S:List Int) (t:Int):Bool:=Ws g M && (decide (0≤t) && (X4 g t.toNat && (!S.contains t && jfo g M (fun a=>X4 g a && S.contains (a:Int)) t.toNat)))
theorem ev80 {a:Bool}(l:List Int) (hl:l.length≤1000000000) (k:Int):Ev E 80 [jN a intC l,.int .i64 k] (.bool (l.contains k)):=by
 refine jU (af:=F80) rfl ?_
 simp[F80]
 refine jV (ev127 (a:=a) l hl k) (by simp[jN]) rfl (by simp[jN]) ?_
 have:=jdg k l 0
 simp
 refine j4 zS ?_ rfl
 have h2:decide (0≤idxI l k 0)=l.contains k:=by
  cases h:l.contains k <;> rw[h]at this <;> simp at this ⊢ <;> omega
 simp[h2]
section
variable {g:Hist'}{M:List Int}
set_option maxHeartbeats 4000000 in
theorem ev37 (hs:Small g) (h8:g.ts.length≤8) {mn sn:Bool}(hM:M.length≤1000000) {S:List Int}(hS:S.length≤1000000) (t:Int):Ev E 37 [.agg (j2 g),jN mn intC M,jN sn intC S,.int .i64 t] (.bool (mayF g M S t)):=by
 have e53:=ev53 hs (b:=mn) M hM
 rw[is_eq]at e53
 refine jU (af:=F37) rfl ?_
 simp(disch:=first|(simp;done)|omega) [F37,j1,j2,jN]
 refine jV e53 (by simp[j2,jN]) rfl (by simp[j2,jN]) ?_
 unfold mayF
 cases hm:Ws g M
 ·simp(disch:=first|(simp;done)|omega)
  exact j4 zS zS rfl
 by_cases h0:t<0
 ·simp(disch:=first|(simp;done)|omega) [h0]
  exact j4 zS (by simp;omega) rfl
 obtain⟨n,rfl⟩:∃n:Nat,t=n:=⟨t.toNat,zO⟩
 have h0':((n:Int)<0)=False:=by simp
 have e80:=ev80 (a:=sn) S zO
 have e1:(decide (0≤(n:Int)))=true:=by simp
 rw[e1,Int.toNat_natCast]
 obtain⟨P,hP⟩:∃P:Nat→Bool,P=fun a=>X4 g a && S.contains (a:Int):=⟨_,rfl⟩
 rw[← hP]
 by_cases hn:n<g.ts.length
 ·have hn':((g.ts.length:Int)≤n)=False:=by simp;omega
  have hf:=jh jA g.ts hn (by decide:1<3)
  have hf2:(g.ts.flatMap jl)[n*3+1]? = some (.int .i64 (g.ts[n]).f):=by rw[hf];rfl
  have hix:=j7 jA g.tn g.ts .i64 hn
  unfold jN at hix
  have hcm:X4 g n=JF g.ts[n]:=by simp[X4,hn]
  simp(disch:=first|(simp;done)|omega) [j1,hn',h0',hix,hf2]
  cases hc:JF g.ts[n]
  ·have hc':(g.ts[n]).f≠1:=by simpa[JF] using hc
   have hc2:((g.ts[n]).f != 1)=true:=by simpa using hc'
   simp(disch:=first|(simp;done)|omega) [hc2,hcm,hc]
   exact j4 zS zS rfl
  ·have hc':(g.ts[n]).f=1:=by simpa[JF] using hc
   simp(disch:=first|(simp;done)|omega) [hc',hcm,hc]
   refine jV (e80 n) (by simp[jN]) rfl (by simp[jN]) ?_
   cases hS2:S.contains (n:Int)
   ·have hS3:¬ (n:Int)∈S:=by simpa using hS2
    simp(disch:=first|(simp;done)|omega) [j1]
    refine J6 (vs:=[.agg (j2 g),jN mn intC M]) (by simp[j2,jN]) rfl (sv76 hs hm zL) ?_
    rintro v1 ob1 tk1 ub1 ⟨b1,b2,N,rv,tc,b3,b4,b5,b6,b7,b8,b9,b10,b11⟩
    simp only at b1 b2 b3 b4 b5 b6 b7 b8
    subst b3
    simp
    refine J6 (vs:=[.sl none true 0 []]) zS rfl j5f ?_
    rintro v2 ob2 tk2 ub2 ⟨m,m1,m2,m3,m4⟩
    simp only at m1 m2 m3 m4
    subst m3
    have hub:ub1≤m:=by first|omega|(simp at m1;omega)
    have hF2:ob2 N.kF=some ⟨N.uF,.cells (fdC g N rv (.sl tc (comL g).isEmpty (comL g).length ((comL g).flatMap intC)) (.sl none true 0 []) 0 false)⟩:=by rw[m4,if_neg (b7 m hub)];exact b4
    simp(disch:=first|(simp;done)|omega) [j1,hF2,fdC]
    refine JS fun st hst=>?_
    have g2:st.tm 2=jN sn intC S:=by rw[hst];simp[jN]
    have g3:st.tm 3=.int .i64 n:=by rw[hst];simp
    have g9:st.tm 9=.ptr N.kF N.uF 0:=by rw[hst];simp
    have g10:st.tm 10=.ptr (2*m+1) m 0:=by rw[hst];simp
    have g49:st.tm 49=.sl tc (comL g).isEmpty (comL g).length ((comL g).flatMap intC):=by rw[hst];simp
    have g50:st.tm 50=.int .i64 (comL g).length:=by rw[hst];simp
    have g51:st.tm 51=.int .i64 0:=by rw[hst];simp
    have gd:st.df=[]:=by rw[hst];simp
    have gr:st.ro=0:=by rw[hst];simp
    have go:st.ob=ob2:=by rw[hst];simp
    have gn:ub2≤st.nx:=by rw[hst];simp;omega
    clear hst
    have pS:ob2 (2*m+1)=some ⟨m,.cells (setC 0)⟩:=by rw[m4,if_pos rfl]
    have pR:∀key,Off ub1 key→ob2 key=ob1 key:=fun key hk=>by rw[m4,if_neg (hk m hub)];simp
    clear m4
    have hll:=Qa g
    have hcl:=Wm g
    obtain⟨J,hJ⟩:∃J:Nat→St→Prop,J=fun i s=>s.tm 51=.int .i64 i∧s.ob (2*m+1)=some ⟨m,.cells (setC (Jw 0 (((comN g).take i).filter (inS S))))⟩∧(∀key,Off ub2 key→key≠2*m+1→s.ob key=ob2 key)∧ub2≤s.nx:=⟨_,rfl⟩
    refine jE [(12,12),(51,61)] (comL g).length J rfl rfl (by rw[hJ];exact⟨by simpa using g51,by rw[go];exact pS,fun key _ _=>by rw[go],gn⟩) ?_
    intro i s hi hJs f
    rw[hJ]at hJs
    obtain⟨s51,sS,sw,sn'⟩:=hJs
    have s2:s.tm 2=jN sn intC S:=by rw[f.t 2 zS];simp[g2]
    have s3:s.tm 3=.int .i64 n:=by rw[f.t 3 zS];simp[g3]
    have s9:s.tm 9=.ptr N.kF N.uF 0:=by rw[f.t 9 zS];simp[g9]
    have s10:s.tm 10=.ptr (2*m+1) m 0:=by rw[f.t 10 zS];simp[g10]
    have s49:s.tm 49=.sl tc (comL g).isEmpty (comL g).length ((comL g).flatMap intC):=by rw[f.t 49 zS];simp[g49]
    have s50:s.tm 50=.int .i64 (comL g).length:=by rw[f.t 50 zS];simp[g50]
    have sd:s.df=[]:=by rw[f.d];simp[gd]
    have sr:s.ro=0:=by rw[f.r];simp[gr]
    clear f
    by_cases hlt:i<(comL g).length
    ·have hltN:i<(comN g).length:=by omega
     obtain⟨x,hx⟩:∃x,x=(comN g)[i]:=⟨_,rfl⟩
     have hx8:x<g.ts.length:=XG (comN_mem.1 (hx▸List.getElem_mem hltN))
     have hxi:(comL g)[i]=(x:Int):=by
      have h1:(comL g)[i]? = (ints (comN g))[i]?:=by rw[QK]
      rw[List.getElem?_eq_getElem hlt]at h1
      unfold ints at h1
      rw[List.getElem?_map,List.getElem?_eq_getElem hltN]at h1
      simpa[hx] using h1
     have hwk:=J0 hlt zO
     have hix2:=WD jG tc (comL g).isEmpty (comL g) .i64 hlt
     have hia:=XP (comL g) hlt
     rw[hxi]at hia
     have hstep:Jw 0 (((comN g).take (i+1)).filter (inS S))=if inS S x then Jw 0 (((comN g).take i).filter (inS S)) ||| 1 <<< x else Jw 0 (((comN g).take i).filter (inS S)):=by
      rw[List.take_succ_eq_append_getElem hltN,← hx,je2]
     simp(disch:=first|(simp;done)|omega) [s51,s50,s49,s2,hlt,hix2,hia]
     refine jV (e80 x) (by simp[jN]) rfl (by simp[jN]) ?_
     rw[show S.contains (x:Int)=inS S x from rfl]
     cases hSx:inS S x
     ·rw[hSx]at hstep
      simp[s51,hwk,hlt]
      rw[hJ]
      exact⟨zS,by rw[hstep];simpa using sS,fun key hk hne=>by simpa using sw key hk hne,zL⟩
     ·rw[hSx,if_pos rfl]at hstep
      have hbl:Jw 0 (((comN g).take i).filter (inS S))<2 ^ 64:=Ym (by decide) fun a ha=>by
       have:=XG (comN_mem.1 (List.mem_of_mem_take (List.mem_filter.1 ha).1))
       omega
      simp[s10]
      refine J6 (vs:=[.ptr (2*m+1) m 0,.int .i64 x]) zS rfl (sv81 (w:=Jw 0 (((comN g).take i).filter (inS S))) (by simpa using sS) (Off.new zL) (by first|omega|(simp[sr];done)|(simp[sr];omega)) zO hbl) ?_
      rintro v3 ob3 tk3 ub3 ⟨r1,r2,r3⟩
      simp only at r1 r2 r3
      simp[s51,hwk,hlt]
      rw[hJ]
      refine⟨zS,?_,fun key hk hne=>?_,zL⟩
      ·simp
       rw[r2 _ (Off.new zL),if_pos rfl,hstep]
      ·simp
       rw[r2 key (hk.up zL),if_neg hne]
       simp[sw key hk hne]
    ·have:i=(comL g).length:=by omega
     subst this
     rw[List.take_of_length_le zO]at sS
     obtain⟨w,hw⟩:∃w,w=Jw 0 ((comN g).filter (inS S)):=⟨_,rfl⟩
     rw[← hw]at sS
     have hw8:w<2 ^ 64:=hw▸Ym (by decide) fun a ha=>by
      have:=XG (comN_mem.1 (List.mem_filter.1 ha).1)
      omega
     have hwP:∀a,w.testBit a=P a:=fun a=>by
      rw[hw,jdi,hP,Bool.eq_iff_iff,decide_eq_true_eq,Bool.and_eq_true,comN_mem]
      rfl
     simp[s51,s50,s9,s10,s3]
     have hn8:n∈comN g:=comN_mem.2 (by rw[hcm,hc])
     have hA:Wr g n<512:=by
      have:Wr g n<2 ^ 9:=jfa (by decide) fun a ha=>by
       have:=XG (comN_mem.1 (List.mem_filter.1 ha).1)
       omega
      exact this
     have hW2:WK g n<2 ^ 64:=Ym (by decide) fun a ha=>by
      have:=List.mem_range.1 (List.mem_filter.1 ha).1
      have:=(jhp (Yx (XW hm))).1
      omega
     have hR:=W4 hs
     have hml:=jej hm
     refine J7 (vs:=[.ptr N.kF N.uF 0,.ptr (2*m+1) m 0,.int .i64 n]) zS rfl rfl (evo82 (g:=g) (rv:=rv) (al:=.sl tc (comL g).isEmpty (comL g).length ((comL g).flatMap intC)) (ov:=.sl none true 0 []) (most:=0) (sp:=false) (n0:=ub1) (w:=w) (t:=n) (b5.keep fun key hk=>?_) ?_ (b7.up zL) (by simpa using sS) (Off.new zL) zL hw8 hn8 hA hW2 (jzq hm) (by rw[jhc hml];omega) _ _) ?_
     ·simp
      rw[sw _ (hk.o.up zO) (hk.o m hub),pR _ hk.o]
     ·simp
      rw[sw _ (b7.up zO) (b7 m hub),pR _ b7]
      exact b4
     ·rw[js5 hm h8,jli hwP]
      simp
      exact j4 (by simp[sd]) (by simp[hS3]) rfl
   ·have hS3:(n:Int)∈S:=by simpa using hS2
    simp(disch:=first|(simp;done)|omega)
    exact j4 zS (by simp[hS3]) rfl
 ·have hn':(g.ts.length:Int)≤n:=by omega
  have hc:X4 g n=false:=by simp[X4,hn]
  simp(disch:=first|(simp;done)|omega) [j1,hn',h0',hc]
  exact j4 zS zS rfl
end
theorem jpu {g:Hist'}(hmay:XC g=true) {t:Nat}(ht:t<g.ts.length) (key:Int):Y6 g t key=(g.ts[t]).ops.any (wkB key):=by
 unfold Y6
 rw[jtr]
 have h1:(t:Int)<g.ts.length:=by omega
 simp[Xw,hmay,h1,List.getD_eq_getElem?_getD,ht]
theorem ev135 (t:Txn') (ht:t.ops.length≤1000000) (key:Int):Ev E 135 [.agg (jl t),.int .i64 key] (.bool (t.ops.any (wkB key))):=by
 refine jU (af:=F135) rfl ?_
 simp[F135,jl]
 refine jE [(4,28)] t.ops.length (fun i s=>s.tm 5=.int .i64 i∧s.ob 4=some ⟨0,.cells (jl t)⟩∧∀j (hj:j<t.ops.length),j<i→wkB key t.ops[j]=false) rfl rfl ⟨zS,by simp[jl],fun _ _ h=>by omega⟩ ?_
 rintro i s hi ⟨h5,h4,hb⟩ f
 have h1:s.tm 1=.int .i64 key:=by rw[f.t 1 zS];simp
 have h2:s.tm 2=.ptr 4 0 0:=by rw[f.t 2 zS];simp
 have hd:s.df=[]:=by rw[f.d];simp
 clear f
 by_cases hlt:i<t.ops.length
 ·have hwk:=J0 hlt zO
  have e0:(t.ops.flatMap opC)[i*4]? = some (.bool (t.ops[i]).w):=by
   have:=jh jK t.ops hlt (by decide:0<4)
   rw[Nat.add_zero]at this
   rw[this];rfl
  have e1:(t.ops.flatMap opC)[i*4+1]? = some (.int .i64 (t.ops[i]).key):=by rw[jh jK t.ops hlt (by decide:1<4)];rfl
  have hw:wkB key t.ops[i]=((t.ops[i]).w && (t.ops[i]).key == key):=rfl
  simp(disch:=first|(simp;done)|omega) [h5,h2,j1,h4,jl,hlt,j7 jK,e0]
  cases hww:(t.ops[i]).w
  ·simp[h5,hwk,hlt]
   refine⟨by simp[h4,jl],fun j hj hji=>?_⟩
   rcases Nat.lt_succ_iff_lt_or_eq.1 hji with h|rfl
   ·exact hb j hj h
   ·rw[hw,hww];rfl
  ·cases hkk:((t.ops[i]).key == key)
   ·simp(disch:=first|(simp;done)|omega) [h5,h2,h1,j1,h4,jl,hlt,j7 jK,e1,hkk,hwk]
    intro j hj hji
    rcases Nat.lt_succ_iff_lt_or_eq.1 hji with h|rfl
    ·exact hb j hj h
    ·rw[hw,hww,hkk];rfl
   ·simp(disch:=first|(simp;done)|omega) [h5,h2,h1,j1,h4,jl,j7 jK,e1,hkk]
    refine j4 (by simp[hd]) ?_ rfl
    have:t.ops.any (wkB key)=true:=List.any_eq_true.2 ⟨_,List.getElem_mem hlt,by rw[hw,hww,hkk];rfl⟩
    simp[this]
 ·have:i=t.ops.length:=by omega
  subst this
  simp(disch:=first|(simp;done)|omega) [h5,h2,j1,h4,jl,jN]
  refine j4 (by simp[hd]) ?_ rfl
  have:t.ops.any (wkB key)=false:=by
   rw[List.any_eq_false]
   intro x hx
   obtain⟨j,hj,rfl⟩:=List.getElem_of_mem hx
   simp[hb j hj hj]
  simp[this]
def mrkC (n:Nat) (s:Nat→Bool):List V:=(List.range n).map fun a=>V.bool (s a)
theorem ja3 {n:Nat}{s:Nat→Bool}{a:Nat}(h:a<n):(mrkC n s)[a]? = some (.bool (s a)):=by simp[mrkC,h]
theorem Xd (n:Nat) (s:Nat→Bool):(mrkC n s).length=n:=by simp[mrkC]
section
variable {g:Hist'}{M:List Int}{ob:ZO}{ub k u:Nat}{st:Nat→Bool}
def seB (g:Hist') (s:Nat→Bool) (t a:Nat):Bool:=!X4 g a || (!(sesAt g a == sesAt g t) || s a)
def rdsB (g:Hist') (s:Nat→Bool) (t:Nat) (x:(Int × Int) × Int):Bool:=if x.1.1=(t:Int) then decide (x.2<0) || s x.2.toNat else s x.1.1.toNat || (!(decide (x.2<0) || s x.2.toNat) || !Y6 g t (ja6 g x.1))
theorem js6 (s:Nat→Bool) (t:Nat):jfo g M s t=(XS (seB g s t) t && ((readH g).zip M).all (rdsB g s t)):=rfl
set_option maxHeartbeats 4000000 in
theorem evo83 (hs:Small g) (hm:Ws g M=true) {mn:Bool}(hk:ob k=some ⟨u,.cells (mrkC g.ts.length st)⟩) (ho:Off ub k) {t:Nat}(ht:t<g.ts.length) (tk:Nat→Bool) (base:Nat) :
 EvO E 83 [.agg (j2 g),jN mn intC M,.osl k u 0 g.ts.length 1,.int .i64 (t:Int)] ob tk base ub (.bool (jfo g M st t)):=by
 refine JR (af:=S83) rfl ?_
 have gk:=ho.ne
 have hmay:=Yx (XW hm)
 have hml:=jej hm
 have hR:=W4 hs
 have hts:=hs.ts
 have hse:∀ {x:Nat}(h:x<g.ts.length),(g.ts.flatMap jl)[x*3]? = some (.int .i64 (sesAt g x)):=fun {x} h=>by
  have:=jh jA g.ts h (by decide:0<3)
  rw[Nat.add_zero]at this
  rw[this]
  simp[jl,sesAt,h]
 have hfa:∀ {x:Nat}(h:x<g.ts.length),(g.ts.flatMap jl)[x*3+1]? = some (.int .i64 (g.ts[x]).f):=fun {x} h=>by rw[jh jA g.ts h (by decide:1<3)];rfl
 simp(disch:=first|(simp;done)|omega) [S83,j2,V.cells]
 refine JS fun st1 hst=>?_
 have g0:st1.tm 1=jN mn intC M:=by rw[hst];simp
 have g2:st1.tm 2=.osl k u 0 g.ts.length 1:=by rw[hst];simp
 have g3:st1.tm 3=.int .i64 t:=by rw[hst];simp
 have g4:st1.tm 4=.ptr (2*ub+1) ub 0:=by rw[hst];simp
 have g9:st1.tm 9=.int .i64 0:=by rw[hst];simp
 have gd:st1.df=[]:=by rw[hst];simp
 have gr:st1.ro=ub:=by rw[hst];simp
 have gB:st1.ob (2*ub+1)=some ⟨ub,.cells (j2 g)⟩:=by rw[hst];simp[j2]
 have gK:st1.ob k=some ⟨u,.cells (mrkC g.ts.length st)⟩:=by rw[hst];simp(disch:=first|(simp;done)|omega) [gk,hk]
 have gn:ub<st1.nx:=by rw[hst];simp;omega
 clear hst
 rw[js6]
 refine jE [(8,9),(14,47)] t (fun i s=>s.tm 9=.int .i64 i∧s.ob=st1.ob∧st1.nx≤s.nx∧XS (seB g st t) i=true) rfl rfl ⟨by simpa using g9,rfl,Nat.le_refl _,rfl⟩ ?_
 rintro i s hi ⟨s9,so,sn,hand⟩ f
 have s1:s.tm 1=jN mn intC M:=by rw[f.t 1 zS];simp[g0]
 have s2:s.tm 2=.osl k u 0 g.ts.length 1:=by rw[f.t 2 zS];simp[g2]
 have s3:s.tm 3=.int .i64 t:=by rw[f.t 3 zS];simp[g3]
 have s4:s.tm 4=.ptr (2*ub+1) ub 0:=by rw[f.t 4 zS];simp[g4]
 have sd:s.df=[]:=by rw[f.d];simp[gd]
 have sr:s.ro=ub:=by rw[f.r];simp[gr]
 clear f
 by_cases hlt:i<t
 ·have hwk:=J0 hlt zO
  have hil:i<g.ts.length:=by omega
  have f1:=hfa hil
  have f2:=hse hil
  have f3:=hse ht
  have f4:=ja3 (s:=st) hil
  have hcm:X4 g i=((g.ts[i]).f == 1):=by simp[X4,hil,JF]
  have hstep:XS (seB g st t) (i+1)=seB g st t i:=by rw[XS,hand,Bool.true_and]
  have hix:=jyg (l:=k) (u:=u) (sz:=1) (kk:=.i64) hil
  unfold seB at hstep
  rw[hcm]at hstep
  simp(disch:=first|(simp;done)|omega) [s9,s3,s4,j1,so,gB,j2,hlt,j7 jA,f1]
  cases c1:((g.ts[i]).f == 1)
  ·rw[c1]at hstep
   simp(disch:=first|(simp;done)|omega) [s9,hwk,hlt,so]
   exact⟨zO,hstep⟩
  ·cases c2:(sesAt g i == sesAt g t)
   ·rw[c1,c2]at hstep
    simp(disch:=first|(simp;done)|omega) [s9,s3,s4,j1,so,gB,j2,hlt,j7 jA,f2,f3,c2,hwk]
    exact⟨zO,hstep⟩
   ·cases c3:st i
    ·rw[c1,c2,c3]at hstep
     simp(disch:=first|(simp;done)|omega) [s9,s3,s4,s2,j1,so,gB,gK,j2,j7 jA,f2,f3,c2,hix,f4,c3]
     refine j4 (by simp[sd]) ?_ rfl
     have:XS (seB g st t) t=false:=jmg hlt (by unfold seB;rw[hcm,c1,c2,c3];rfl)
     simp[this]
    ·rw[c1,c2,c3]at hstep
     simp(disch:=first|(simp;done)|omega) [s9,s3,s4,s2,j1,so,gB,gK,j2,hlt,j7 jA,f2,f3,c2,hix,f4,c3,hwk]
     exact⟨zO,hstep⟩
 ·have e:t=i:=by omega
  subst e
  rw[hand,Bool.true_and]
  obtain⟨vr,evr,hvr⟩:=ev31 hs
  simp(disch:=first|(simp;done)|omega) [s9,s3,s4,j1,so,gB,j2]
  refine jV evr (by simp[j2,jN]) rfl (by simp[j2,jN]) ?_
  refine Qg hvr fun tr addr=>?_
  simp
  refine JS fun st2 hst=>?_
  have g1:st2.tm 1=jN mn intC M:=by rw[hst];simp[s1]
  have g2:st2.tm 2=.osl k u 0 g.ts.length 1:=by rw[hst];simp[s2]
  have g3:st2.tm 3=.int .i64 t:=by rw[hst];simp[s3]
  have g4:st2.tm 4=.ptr (2*ub+1) ub 0:=by rw[hst];simp[s4]
  have g10:st2.tm 10=.sl tr false (readH g).length ((readH g).flatMap jH):=by rw[hst];simp
  have g11:st2.tm 11=.int .i64 0:=by rw[hst];simp
  have gd:st2.df=[]:=by rw[hst];simp[sd]
  have gr:st2.ro=ub:=by rw[hst];simp[sr]
  have go:st2.ob=st1.ob:=by rw[hst];simp[so]
  have gn2:st1.nx≤st2.nx:=by rw[hst];simp;omega
  clear hst
  obtain⟨J,hJ⟩:∃J:Nat→St→Prop,J=fun j s=>s.tm 11=.int .i64 j∧s.ob (2*ub+1)=some ⟨ub,.cells (j2 g)⟩∧s.ob k=some ⟨u,.cells (mrkC g.ts.length st)⟩∧st1.nx≤s.nx∧∀x∈((readH g).zip M).take j,rdsB g st t x=true:=⟨_,rfl⟩
  refine jE [(8,8),(11,13),(50,116)] (readH g).length J rfl rfl (by rw[hJ];exact⟨by simpa using g11,by rw[go];exact gB,by rw[go];exact gK,gn2,fun x h=>by simp at h⟩) ?_
  intro j q hj hJq f
  rw[hJ]at hJq
  obtain⟨q11,qB,qK,qn,qall⟩:=hJq
  have q1:q.tm 1=jN mn intC M:=by rw[f.t 1 zS];simp[g1]
  have q2:q.tm 2=.osl k u 0 g.ts.length 1:=by rw[f.t 2 zS];simp[g2]
  have q3:q.tm 3=.int .i64 t:=by rw[f.t 3 zS];simp[g3]
  have q4:q.tm 4=.ptr (2*ub+1) ub 0:=by rw[f.t 4 zS];simp[g4]
  have q10:q.tm 10=.sl tr false (readH g).length ((readH g).flatMap jH):=by rw[f.t 10 zS];simp[g10]
  have qd:q.df=[]:=by rw[f.d];simp[gd]
  have qr:q.ro=ub:=by rw[f.r];simp[gr]
  clear f
  have nB:∀m,q.nx≤m→¬ ub=m:=fun m hm=>by omega
  by_cases hlt:j<(readH g).length
  ·have hwk:=J0 hlt zO
   have hjM:j<M.length:=by omega
   obtain⟨a,kk,ha,hkk,e,hkey,hc⟩:=jk0 hmay hlt
   have hix:=WD X0 tr false (readH g) .i64 hlt
   have hpa:=fun ob=>jdb (readH g) ob hlt
   have hmi:=XP M hjM
   have hxz:j<((readH g).zip M).length:=by simp;omega
   have hx:((readH g).zip M)[j]=((readH g)[j],M[j]):=by simp
   simp only[e]at hpa hx
   rw[e]at hkey
   have hl3:(g.ts.flatMap jl)[a*3+2]? = some (jN (g.ts[a]).nl opC (g.ts[a]).ops):=by rw[jh jA g.ts ha (by decide:2<3)];rfl
   have hlk:((g.ts[a]).ops.flatMap opC)[kk*4+1]? = some (.int .i64 ((g.ts[a]).ops[kk]).key):=by rw[jh jK (g.ts[a]).ops hkk (by decide:1<4)];rfl
   have hia:=jyg (l:=k) (u:=u) (sz:=1) (kk:=.i64) ha
   have hsa:=ja3 (s:=st) ha
   have nK:=fun m (hm:ub≤m)=>gk m hm
   have hnext:rdsB g st t (((a:Int),(kk:Int)),M[j])=true→∀x∈((readH g).zip M).take (j+1),rdsB g st t x=true:=fun h x hxm=>by
    rw[List.take_succ_eq_append_getElem hxz,List.mem_append,List.mem_singleton,hx]at hxm
    rcases hxm with h1|rfl
    ·exact qall x h1
    ·exact h
   have hstop:rdsB g st t (((a:Int),(kk:Int)),M[j])=false→((readH g).zip M).all (rdsB g st t)=false:=fun h=>by
    rw[List.all_eq_false]
    exact⟨_,List.getElem_mem hxz,by rw[hx,h];simp⟩
   simp(disch:=first|(simp;done)|omega) [q11,q10,q1,hlt,hix,hpa,j1,j6,j7 jG,hmi]
   refine⟨by first|omega|(simp[qr];done)|(simp[qr];omega),?_⟩
   have hlw:∀key,Y6 g t key=(g.ts[t]).ops.any (wkB key):=fun key=>jpu hmay ht key
   have e135:=fun key=>ev135 g.ts[t] (by have:=hs.os _ (List.getElem_mem ht);omega) key
   have hft:=Xk jA g.ts t ht
   have hrd:∀b,(decide (M[j]<0) || st (M[j]).toNat)=b→rdsB g st t (((a:Int),(kk:Int)),M[j])=if (a:Int)=t then b else st a || (!b || !(g.ts[t]).ops.any (wkB ((g.ts[a]).ops[kk]).key)):=fun b hb=>by
    unfold rdsB
    simp only[hb,Int.toNat_natCast,hkey,hlw]
   obtain⟨b,hb⟩:∃b,(decide (M[j]<0) || st (M[j]).toNat)=b:=⟨_,rfl⟩
   have hrd:=hrd b hb
   have hcase:(M[j]<0∧b=true)∨∃y:Nat,M[j]=y∧y<g.ts.length∧st y=b:=by
    by_cases hm0:M[j]<0
    ·exact .inl ⟨hm0,by rw[← hb];simp[hm0]⟩
    ·obtain⟨y,hy⟩:∃y:Nat,M[j]=y:=⟨(M[j]).toNat,zO⟩
     refine .inr ⟨y,hy,?_,?_⟩
     ·rcases jln hm (List.getElem_mem hjM) with h|h
      ·omega
      ·obtain⟨z,ez,hz⟩:=comL_mem.1 h
       have:=XG hz
       omega
     ·have:¬ (y:Int)<0:=by omega
      rw[← hb,hy]
      simp[this]
   have hlen:((List.take (j+1) ((readH g).zip M)))=((readH g).zip M).take (j+1):=rfl
   rcases hcase with⟨hm0,hbt⟩|⟨y,hy,hyl,hby⟩
   case' inl=>simp(disch:=first|(simp;done)|omega) [hm0,q3,j1]
   case' inr=>
    have hiy:=jyg (l:=k) (u:=u) (sz:=1) (kk:=.i64) hyl
    have hsy:=ja3 (s:=st) hyl
    rw[hby]at hsy
    have hm0':((y:Int)<0)=False:=by simp
    rw[hy]at hmi
    simp(disch:=first|(simp;done)|omega) [hy,hm0',q11,q1,q2,q3,j1,j7 jG,hmi,hiy,qK,hsy,nK]
   all_goals cases b
   all_goals try contradiction
   case inr.false=>
    cases c1:((a:Int) == (t:Int))
    ·have c1':¬ (a:Int)=t:=by simpa using c1
     have c1n:((a:Int) != (t:Int))=true:=by simpa using c1
     rw[if_neg c1']at hrd
     cases c2:st a
     all_goals
      rw[c2]at hsa
      rw[c2]at hrd
      simp only[Bool.not_false,Bool.true_or,Bool.or_true]at hrd
      simp(disch:=first|(simp;done)|omega) [c1n,q2,q3,j1,hia,qK,hsa,nK,q11,hwk,hlt]
      rw[hJ]
      exact⟨zS,by simp(disch:=first|(simp;done)|omega) [qB,two_inj,nB],by simp(disch:=first|(simp;done)|omega) [qK,nK],zL,hnext hrd⟩
    ·have c1':(a:Int)=t:=by simpa using c1
     have c1n:((a:Int) != (t:Int))=false:=by simpa using c1
     rw[if_pos c1']at hrd
     simp(disch:=first|(simp;done)|omega)
     refine j4 (by simp[qd]) ?_ rfl
     simp[hstop hrd]
   all_goals
    cases c1:((a:Int) == (t:Int))
    ·have c1':¬ (a:Int)=t:=by simpa using c1
     have c1n:((a:Int) != (t:Int))=true:=by simpa using c1
     rw[if_neg c1']at hrd
     cases c2:st a
     ·rw[c2]at hsa
      rw[c2,Bool.false_or,Bool.not_true,Bool.false_or]at hrd
      simp(disch:=first|(simp;done)|omega) [c1n,q2,q3,q4,j1,hia,qK,hsa,nK,qB,two_inj,nB,j2,hl3,hlk,j7 jA,j7 jK,hft]
      refine⟨by simp[List.map_const'];omega,?_⟩
      refine jV (e135 ((g.ts[a]).ops[kk]).key) (by simp[jl]) rfl (by simp[jl]) ?_
      cases c3:(g.ts[t]).ops.any (wkB ((g.ts[a]).ops[kk]).key)
      ·rw[c3]at hrd
       simp(disch:=first|(simp;done)|omega) [q11,hwk,hlt]
       rw[hJ]
       exact⟨zS,by simp(disch:=first|(simp;done)|omega) [qB,two_inj,nB],by simp(disch:=first|(simp;done)|omega) [qK,nK],zL,hnext hrd⟩
      ·rw[c3]at hrd
       simp(disch:=first|(simp;done)|omega)
       refine j4 (by simp[qd]) ?_ rfl
       simp[hstop hrd]
     ·rw[c2]at hsa
      rw[c2,Bool.true_or]at hrd
      simp(disch:=first|(simp;done)|omega) [c1n,q2,q3,j1,hia,qK,hsa,nK,q11,hwk,hlt]
      rw[hJ]
      exact⟨zS,by simp(disch:=first|(simp;done)|omega) [qB,two_inj,nB],by simp(disch:=first|(simp;done)|omega) [qK,nK],zL,hnext hrd⟩
    ·have c1':(a:Int)=t:=by simpa using c1
     have c1n:((a:Int) != (t:Int))=false:=by simpa using c1
     rw[if_pos c1']at hrd
     simp(disch:=first|(simp;done)|omega) [c1n,q3,j1,q11,hwk,hlt]
     rw[hJ]
     exact⟨zS,by simp(disch:=first|(simp;done)|omega) [qB,two_inj,nB],by simp(disch:=first|(simp;done)|omega) [qK,nK],zL,hnext hrd⟩
  ·have:j=(readH g).length:=by omega
   subst this
   simp[q11,q10]
   refine j4 (by simp[qd]) ?_ rfl
   have:((readH g).zip M).all (rdsB g st t)=true:=by
    rw[List.all_eq_true]
    intro x hx
    refine qall x ?_
    rw[List.take_of_length_le (by simp;omega)]
    exact hx
   simp[this]
end
theorem jj6 (f:Nat→Bool):∀n,(jh1 f n).map Int.toNat=(List.range n).filter f
 | 0=>rfl
 | n+1=>by
  rw[jh1,List.map_append,jj6 f n,List.range_succ,List.filter_append]
  cases h:f n <;> simp[h]
def Qs (g:Hist') (i:Nat):List Nat:=(List.range' i (g.ts.length - i)).filter (X4 g)
theorem j32 (g:Hist'):Qs g 0=comN g:=by
 unfold Qs comN
 rw[comL,W9,jj6,Nat.sub_zero,List.range_eq_range']
 rfl
theorem j33 {g:Hist'}{i:Nat}(hi:i<g.ts.length):Qs g i=if X4 g i then i::Qs g (i+1) else Qs g (i+1):=by
 unfold Qs
 rw[show g.ts.length - i=(g.ts.length - (i+1))+1 by omega,List.range'_succ,List.filter_cons]
theorem cm_end (g:Hist'):Qs g g.ts.length=[]:=by simp[Qs]
def j42 (v w:Nat) (n:Nat):Bool:=XS (fun a=>v.testBit a == w.testBit a) n
theorem jyy {n v w:Nat}(hv:v<2 ^ n) (hw:w<2 ^ n):j42 v w n=(w == v):=by
 rw[Bool.eq_iff_iff,j42,andTo_iff]
 simp only[beq_iff_eq]
 constructor
 ·intro h
  refine(Nat.eq_of_testBit_eq fun a=>?_).symm
  by_cases ha:a<n
  ·exact h a ha
  ·have hp:2 ^ n≤2 ^ a:=Nat.pow_le_pow_right (by decide) zO
   rw[Nat.testBit_lt_two_pow zO,Nat.testBit_lt_two_pow zO]
 ·rintro rfl _ _
  rfl
theorem juu (v w i:Nat):j42 v w (i+1)=(j42 v w i && (v.testBit i == w.testBit i)):=rfl
def jc9 (n:Nat) (p:Nat × Nat):List V:=[.osl (2*p.1+1) p.1 0 n 1]
theorem jm1 (n:Nat) (p:Nat × Nat):(jc9 n p).length=1:=rfl
def SeenV (n:Nat) (ob:ZO) (lo hi:Nat) (v:V) (P:List (Nat × Nat)):Prop :=
 (∀p∈P,lo≤p.1∧p.1<hi∧ob (2*p.1+1)=some ⟨p.1,.cells (mrkC n p.2.testBit)⟩) ∧
 ((P=[]∧v=.sl none true 0 [])∨P≠[]∧∃u,lo≤u∧u<hi∧(∀p∈P,p.1≠u)∧v=.osl (2*u+1) u 0 P.length 1∧ob (2*u+1)=some ⟨u,.cells (P.flatMap (jc9 n))⟩)
theorem SeenV.frame {n:Nat}{ob ob':ZO}{lo hi hi':Nat}{v:V}{P:List (Nat × Nat)}(h:SeenV n ob lo hi v P) (hf:∀u,lo≤u→u<hi→ob' (2*u+1)=ob (2*u+1)) (hh:hi≤hi'):SeenV n ob' lo hi' v P:=by
 obtain⟨h1,h2⟩:=h
 refine⟨fun p hp=>?_,?_⟩
 ·obtain⟨a,b,c⟩:=h1 p hp
  exact⟨a,zO,(hf _ a b).trans c⟩
 ·rcases h2 with h2|⟨h0,u,a,b,c,d,e⟩
  ·exact .inl h2
  ·exact .inr ⟨h0,u,a,zO,c,d,(hf _ a b).trans e⟩
theorem SeenV.len {n:Nat}{ob:ZO}{lo hi:Nat}{v:V}{P:List (Nat × Nat)}(h:SeenV n ob lo hi v P):Q7 v=some (.int .i64 (P.length:Nat)):=by
 rcases h.2 with⟨rfl,rfl⟩|⟨_,u,_,_,_,rfl,_⟩ <;> rfl
theorem ja9 {st:St}{ub:Nat}{K:List FP→St→Prop}{d:Option Nat}{r:List AOpr}{n lo hi:Nat}{v:V}{P:List (Nat × Nat)}{p:Nat × Nat}{s x:A}(hs:eval E st.tm s=v) (hS:SeenV n st.ob lo hi v P) (hx:jI st.ob 1 (eval E st.tm x)=some (jc9 n p)) (hro:st.ro≤lo) (hlen:P.length≤1000000)
 (h:∀ks:List Nat,(ks=[]∨∃u,lo≤u∧u<hi∧P≠[]∧(∀p∈P,p.1≠u)∧st.ob (2*u+1)=some ⟨u,.cells (P.flatMap (jc9 n))⟩∧ks=[2*u+1])→YS E r K (eval E st.tm) (.append true 1 24 s x) st d ub { v:=.osl (2*ub+1) ub 0 (P.length+1) 1,obs:=[(2*ub+1,⟨ub,.cells ((P++[p]).flatMap (jc9 n))⟩)],kill:=ks }) :
 jF E (⟨d,.append true 1 24 s x,none,true⟩::r) st ub K:=by
 rw[jt rfl]
 have hne:jc9 n p≠[]:=by simp[jc9]
 have hlf:(jc9 n p).all V.leaf=true:=rfl
 have hfl:=j9 (jm1 n) P
 rcases hS.2 with⟨rfl,rfl⟩|⟨hP,u,h1,h2,h3,rfl,h4⟩
 ·simp only[aop,hs,hx,Option.bind_some,if_neg hne,Bool.and_self,if_true,Jq,Q3]
  rw[if_pos ⟨by decide,hlf,by simp[jc9],by simp[jc9]⟩]
  simp only[Jh,jM]
  have:=h [] (.inl rfl)
  simpa[jc9] using this
 ·have hoc:j1 st.ob (2*u+1) u=some (P.flatMap (jc9 n)):=by simp[j1,h4]
  simp only[aop,hs,hx,hoc,Option.bind_some,if_neg hne,Jq,Q3]
  rw[if_pos ⟨Nat.ble_eq▸zO,trivial,trivial,zO,by decide,hlf,by simp[jc9];omega,by simp[jc9];omega⟩,jM]
  have:=h [2*u+1] (.inr ⟨u,h1,h2,hP,h3,h4,rfl⟩)
  rw[show(P.flatMap (jc9 n)).take (P.length*1)=P.flatMap (jc9 n) from List.take_of_length_le zO]
  simpa[jc9,List.flatMap_append] using this
section
variable {n:Nat}{ob:ZO}{lo hi:Nat}{sv:V}{P:List (Nat × Nat)}
set_option maxHeartbeats 2000000 in
theorem evo126 {kW uW kx ux w:Nat}{a b c m mo sp:V}(hn:n≤1000000) (hW:ob kW=some ⟨uW,.cells [a,b,c,m,sv,mo,sp]⟩) (hS:SeenV n ob lo hi sv P) (hP:P.length≤1000000) (hx:ob kx=some ⟨ux,.cells (mrkC n w.testBit)⟩) (hw:w<2 ^ n) (hv:∀p∈P,p.2<2 ^ n) (tk:Nat→Bool) (base ub:Nat) :
 EvO E 126 [.ptr kW uW 0,.osl kx ux 0 n 1] ob tk base ub (.bool ((P.map (·.2)).contains w)):=by
 refine JR (af:=S126) rfl ?_
 have hlen:=hS.len
 obtain⟨R,hR⟩:∃R,R=(P.map (·.2)).contains w:=⟨_,rfl⟩
 rw[← hR]
 simp[S126]
 refine jE [(4,41)] P.length (fun i s=>s.tm 5=.int .i64 i∧s.ob=ob∧R=((P.drop i).map (·.2)).contains w) rfl rfl ⟨zS,rfl,hR⟩ ?_
 rintro i s hi ⟨s5,so,hb⟩ f
 have s0:s.tm 0=.ptr kW uW 0:=by rw[f.t 0 zS];simp
 have s1:s.tm 1=.osl kx ux 0 n 1:=by rw[f.t 1 zS];simp
 have sd:s.df=[]:=by rw[f.d];simp
 clear f
 by_cases hlt:i<P.length
 ·have hwk:=J0 hlt zO
  rw[List.drop_eq_getElem_cons hlt,List.map_cons,List.contains_cons]at hb
  have hmem:P[i]∈P:=List.getElem_mem hlt
  obtain⟨p1,p2,p3⟩:=hS.1 _ hmem
  have hpw:=hv _ hmem
  rcases hS.2 with⟨rfl,_⟩|⟨_,u,_,_,_,rfl,h4⟩
  ·simp at hlt
  have hoc:j1 ob (2*u+1) u=some (P.flatMap (jc9 n)):=by simp[j1,h4]
  have hpi:(P.flatMap (jc9 n))[i]? = some (.osl (2*P[i].1+1) P[i].1 0 n 1):=by
   have:=jh (jm1 n) P hlt (by decide:0<1)
   rw[Nat.mul_one,Nat.add_zero]at this
   rw[this]
   rfl
  generalize hq:P[i]=q at *
  obtain⟨kq,v⟩:=q
  simp only at p1 p2 p3 hpw hpi hb
  have hoq:j1 ob (2*kq+1) kq=some (mrkC n v.testBit):=by simp[j1,p3]
  have hox:j1 ob kx ux=some (mrkC n w.testBit):=by simp[j1,hx]
  simp(disch:=first|(simp;done)|omega) [s5,s0,so,j1,hW,hlen,hlt]
  refine jE [(6,7),(17,40)] n (fun k t=>t.tm 7=.int .i64 k∧t.tm 6=.bool (j42 v w k)∧t.ob=ob) rfl rfl ⟨zS,by simp;rfl,by simp[so]⟩ ?_
  rintro k t hk ⟨t7,t6,to⟩ f
  have t0:t.tm 0=.ptr kW uW 0:=by rw[f.t 0 zS];simp[s0]
  have t1:t.tm 1=.osl kx ux 0 n 1:=by rw[f.t 1 zS];simp[s1]
  have t5:t.tm 5=.int .i64 i:=by rw[f.t 5 zS];simp[s5]
  have td:t.df=[]:=by rw[f.d];simp[sd]
  clear f
  by_cases hkl:k<n
  ·have hwk2:=J0 hkl zO
   have hi1:=jyg (l:=2*u+1) (u:=u) (sz:=1) (kk:=.i64) hlt
   have hi2:=jyg (l:=2*kq+1) (u:=kq) (sz:=1) (kk:=.i64) hkl
   have hi3:=jyg (l:=kx) (u:=ux) (sz:=1) (kk:=.i64) hkl
   have m1:=ja3 (s:=v.testBit) hkl
   have m2:=ja3 (s:=w.testBit) hkl
   have hes:=juu v w k
   cases he:j42 v w k
   ·rw[he,Bool.false_and]at hes
    simp(disch:=first|(simp;done)|omega) [t7,t6,t1,to,he,hkl,hwk2]
    exact hes
   ·rw[he,Bool.true_and]at hes
    simp(disch:=first|(simp;done)|omega) [t7,t6,t0,t1,t5,to,he,hkl,hwk2,j1,hW,hi1,hi2,hi3,h4,hpi,p3,hx,m1,m2]
    exact hes.symm
  ·have:k=n:=by omega
   subst this
   rw[jyy hpw hw]at t6
   cases he:(w == v)
   ·rw[he]at hb
    simp(disch:=first|(simp;done)|omega) [t7,t6,t1,t5,to,he,hwk,hlt]
    simpa using hb
   ·rw[he]at hb
    simp(disch:=first|(simp;done)|omega) [t7,t6,t1,he]
    refine j4 (by simp[td]) ?_ rfl
    rw[hb]
    simp
 ·have:i=P.length:=by omega
  subst this
  rw[List.drop_of_length_le (Nat.le_refl _)]at hb
  simp(disch:=first|(simp;done)|omega) [s5,s0,so,j1,hW,hlen]
  refine j4 (by simp[sd]) ?_ rfl
  rw[hb]
  simp
end
section
variable {g:Hist'}{M:List Int}
end
def j5d:List UInt8:=[98,101,103,105,110,32,115,10,114,101,97,100,32,115,32,120,32,110,105,108,10,111,107,32,115]
def H20:Hist':=⟨false,[[115]],false,[[120]],false,[⟨0,1,false,[⟨false,0,⟨0,0⟩⟩]⟩]⟩
theorem k20:(callers E 100 noY).d 57 [.str j5d]=some (.tup [(.agg [(.sl (some (0,1)) false 1 [(.str [115])]),(.sl (some (1,1)) false 1 [(.str [120])]),(.sl (some (2,3)) false 1 [(.int .i64 0),(.int .i64 1),(.sl none false 1 [(.bool false),(.int .i64 0),(.int .i64 0),(.int .i64 0)])])]),(.int .i64 0),(.int .i64 0)]):=by kernel_rfl
def jjz (g:Hist') (lvl:Int) (M O:List Int):Bool:=jut g lvl M O == 0 && jum g lvl M O
theorem err0 {g:Hist'}{lvl:Int}{M O:List Int}(h:jut g lvl M O=0):JC g=true∧1≤lvl∧lvl≤3∧Ws g M=true∧JZ g O=true:=by
 unfold jut at h
 cases h1:JC g
 ·simp[h1]at h
 ·cases h2:Ws g M
  ·simp[h1,h2]at h
  ·cases h3:JZ g O
   ·simp[h1,h2,h3]at h
   ·simp[h1,h2,h3]at h
    exact⟨rfl,zO,zO,rfl,rfl⟩
end Go.Pv.T
namespace Go.Pv.T
open Go Go.Pv
end Go.Pv.T
namespace Go.Pv.T
open Go Go.Pv
end Go.Pv.T
namespace Go.Pv.T
open Go Go.Pv
theorem jys:jh2=.seq (hdC jh2) jyr:=rfl
theorem few3O {h:Hist'}{Yf:YF}{ob0:ZO}{ub ro:Nat}{s0:St}{Q:Ex→St→Prop}{N1 N2:Nat}{S0 K0:V}(hru:ro≤ub) (hs:FewO h ob0 ub ro s0 25 45 N1 N2 S0 K0 (.sl none true 0 []) [])
 (hrest:∀s Tv P,P.map (·.1)=(h.ts.take 45).map fewT→FewO h ob0 ub ro s 25 45 N1 N2 S0 K0 Tv P→wpC E Yf jyr s Q):wpC E Yf jh2 s0 Q:=by
 rw[jys]
 obtain⟨f1,f2,f3,fd,fr,o1,o2,o3,gS,gK,gT,n0,n1,n2,ff⟩:=hs
 simp[hdC,jh2,jft,jfu,tlC,S51]
 refine jE [(6,7),(67,98)] 45 (fun i s=>s.tm 6=.int .i64 i∧i≤h.ts.length∧∃Tv P,P.map (·.1)=(h.ts.take i).map fewT∧FewO h ob0 ub ro s 25 45 N1 N2 S0 K0 Tv P) rfl rfl ?_ ?_
 ·refine⟨zS,zS,.sl none true 0 [],[],zS,⟨by simp[f1],by simp[f2],by simp[f3],by simp[fd],by simp[fr],by simp[o1],by simp[o2],by simp[o3],gS.frame (fun _ _ _=>by simp) (Nat.le_refl _) (Nat.le_refl _),gK.frame (fun _ _ _=>by simp) (Nat.le_refl _) (Nat.le_refl _),⟨zS,.inl ⟨rfl,rfl⟩⟩,n0,n1,by simp;omega,fun key hk=>by simp[ff key hk]⟩⟩
 rintro i s hi ⟨h4,hle,Tv,P,hP,f1,f2,f3,fd,fr,o1,o2,o3,gS,gK,gT,n0,n1,n2,ff⟩ f
 clear f
 have hend:¬ (i<h.ts.length∧i<45)→∀s':St,(s'.tm 1=s.tm 1∧s'.tm 2=s.tm 2∧s'.tm 3=s.tm 3)→s'.df=s.df→s'.ro=s.ro→s'.ob=s.ob→s.nx≤s'.nx→wpC E Yf jyr s' Q:=by
  intro hx s' ⟨q1,q2,q3⟩ e2 e3 e4 e5
  refine hrest s' Tv P (hP.trans (j3n hle hi hx)) ⟨q1.trans f1,q2.trans f2,q3.trans f3,by rw[e2];exact fd,by rw[e3];exact fr,by rw[e4];exact o1,by rw[e4];exact o2,by rw[e4];exact o3,by rw[e4];exact gS,by rw[e4];exact gK,?_,n0,n1,zO,fun key hk=>by rw[e4];exact ff key hk⟩
  exact gT.frame (fun _ _ _=>by rw[e4]) e5
 have o1':s.ob (2*ub+1)=some ⟨ub,.cells [jN h.sn JL h.ss,jN h.kn JL h.ks,jN h.tn jl h.ts]⟩:=o1
 by_cases hlt:i<h.ts.length
 ·by_cases hl5:i<45
  ·have hw:=J0 hl5 zO
   have hl5':(i:Int)<45:=by omega
   obtain⟨t,ht⟩:∃t,h.ts[i]=t:=⟨_,rfl⟩
   have hmn:=jei t.ops.length 25
   rw[show((25:Nat):Int)=25 from rfl]at hmn
   have hss:=jwb jK t.nl t.ops 25 .i64
   have hmm:min t.ops.length 25=(t.ops.take 25).length:=by rw[List.length_take,Nat.min_comm]
   rw[hmm]at hss hmn
   generalize hL:t.ops.take 25=L at *
   have hLl:L.length≤25:=by rw[← hL,List.length_take];omega
   have hlfO:(L.flatMap opC).all V.leaf=true:=by rw[List.all_flatMap,List.all_eq_true];intro _ _;rfl
   obtain⟨z,hz⟩:∃z,s.nx=z:=⟨_,rfl⟩
   simp[h4,f1,o1',j1,hlt,hl5',j7 jA,jk jA,ht,jl,fr,j6,hz]
   refine⟨zO,?_⟩
   refine JO (cs:=[]) rfl rfl rfl ?_
   simp[j1]
   obtain⟨zB,hB⟩:∃y,(z+64+64+64+64+64+64+64+64+64+64+64+64+64+64+64+64)=y:=⟨_,rfl⟩
   obtain⟨zA,hA⟩:∃y,(z+64+64+64+64+64+64+64+64+64+64+64+64+64+64)=y:=⟨_,rfl⟩
   have hAB:zB=zA+128:=by omega
   have hA0:z+896=zA:=by omega
   rw[hB,hA]
   have w1:¬ 2*zA=2*zB:=by omega
   have w2:¬ 2*zB=2*zA:=by omega
   simp[j1,w1,hmn,hss]
   refine jxu (f:=opC) (l:=L) (z:=zB) zS zS (by simp[fr];omega) (by simp[jN,jI,j9 jK]) jK (by decide) hlfO zO zO ?_
   intro s1 u hu c0 cf ct cd cr cb ck
   have hu1:zB≤u:=by omega
   have hu2:u≤zB+512:=by omega
   have cA:s1.ob (2*zA+1)=some ⟨zA,.cells [.int .i64 t.s,.int .i64 t.f,jN t.nl opC t.ops]⟩:=by
    rw[cf _ zO zO];simp[w1]
   have cO:∀key,key≠2*zA+1→key≠2*zB+1→key≠2*(zB+512)+1→s1.ob key=s.ob key:=by
    intro key k1 k2 k3
    rw[cf _ k2 zO]
    simp[k1,k2]
   have v1:¬ 2*zA=2*(ub+192):=by omega
   have v2:¬ 2*(ub+192)=2*zA:=by omega
   have c3:s1.ob (2*(ub+192)+1)=some ⟨ub+192,.cells [S0,K0,Tv]⟩:=(cO _ zO zO zO).trans o3
   have hra:ro≤zA:=by omega
   simp[ct,j1,cA,cr,fr,j6,f3,c3,v2,hra]
   obtain⟨p,hp⟩:∃p,(fewT t,u)=p:=⟨_,rfl⟩
   have hpu:txU p=[.int .i64 t.s,.int .i64 t.f,.osl (2*u+1) u 0 L.length 4]:=by
    rw[← hp]
    simp[txU,fewT,← hL]
   refine JO (cs:=txU p) (by rw[hpu];simp[j6]) rfl (by rw[hpu];rfl) ?_
   simp
   obtain⟨zE,hE⟩:∃y,(zB+64+64+64+64+64+64+64+64+64+64+64+64+64+64)=y:=⟨_,rfl⟩
   have hE0:zB+896=zE:=by omega
   rw[hE]
   have hPl:P.length=i:=by
    have:=congrArg List.length hP
    rw[List.length_map,List.length_map,List.length_take]at this
    omega
   have hp2:p.2=u:=by rw[← hp]
   have hp1:p.1=fewT t:=by rw[← hp]
   have hpo:p.1.ops=L:=by rw[hp1];exact hL
   rw[hz]at gT n2
   have hsame:∀y,y<z→s1.ob (2*y+1)=s.ob (2*y+1):=fun y y2=>cO _ zO zO zO
   refine jlt (lo:=N2) (hi:=z) (P:=P) (p:=p) ?_ zO (by simp[cr,fr];omega) (by simp[jI,j1];rfl) ?_ n2 zO ?_
   ·simp
    refine gT.frame (fun y y1 y2=>?_) (Nat.le_refl _)
    have e1:¬ 2*y=2*zE:=by omega
    have e2:¬ 2*y=2*zA:=by omega
    simp[e1,e2]
    exact hsame y y2
   ·refine⟨by rw[hp1];rfl,by rw[hp2];omega,by rw[hp2];omega,L.flatMap opC,?_,?_,?_⟩
    ·rw[hp2]
     have e1:¬ 2*u=2*zE:=by omega
     have e2:¬ 2*u=2*zA:=by omega
     simp[e1,e2]
     exact c0
    ·rw[hpo,j9 jK];exact Nat.le_refl _
    ·rw[hpo,← j9 jK,List.take_length]
   intro s4 v4 hT4 x4 xt xd xr xb xk
   obtain⟨hlf4,hc4⟩:=hT4.leaf
   have x5:∀y,(y<N2)→s4.ob (2*y+1)=s.ob (2*y+1):=by
    intro y hy
    rw[x4 _ (fun y y1 y2=>by omega) zO]
    have e1:¬ 2*y=2*zE:=by omega
    have e2:¬ 2*y=2*zA:=by omega
    simp[e1,e2]
    exact hsame y zO
   have x3:=(x5 (ub+192) zO).trans o3
   have hP1:(P++[p]).map (·.1)=(h.ts.take (i+1)).map fewT:=by
    rw[List.map_append,hP,List.take_succ_eq_append_getElem hlt,List.map_append,ht,← hp]
    rfl
   simp[xt,ct,f3,j1,x3,xr,cr,fr,j6,hlf4,hc4,h4,hw]
   have b1:¬ 2*ub=2*(ub+192):=by omega
   have b2:¬ 2*(ub+64)=2*(ub+192):=by omega
   refine⟨zO,hl5,zO,v4,P++[p],by rw[hP1,List.map_take],⟨by simp[xt,ct,f1],by simp[xt,ct,f2],by simp[xt,ct,f3],by simp[xd,cd,fd],by simp[xr,cr,fr],by simp[b1];exact(x5 ub zO).trans o1,by simp[b2];exact(x5 (ub+64) zO).trans o2,zS,
    gS.frame (fun y h1 h2=>?_) (Nat.le_refl _) (Nat.le_refl _),gK.frame (fun y h1 h2=>?_) (Nat.le_refl _) (Nat.le_refl _),hT4.frame (fun y h1 h2=>?_) (by simp <;> omega),n0,n1,by simp <;> omega,fun key hk=>?_⟩⟩
   ·have e1:¬ 2*y=2*(ub+192):=by omega
    simp[e1]
    exact x5 y zO
   ·have e1:¬ 2*y=2*(ub+192):=by omega
    simp[e1]
    exact x5 y zO
   ·have e1:¬ 2*y=2*(ub+192):=by omega
    simp[e1]
   ·have e1:=hk (ub+192) zO
    have e2:=hk zE zO
    have e3:=hk zA zO
    simp[e1]
    rw[x4 _ (fun y y1 y2=>hk y zO) (hk _ zO)]
    simp[e2,e3]
    exact(cO key e3 (hk zB zO) (hk (zB+512) zO)).trans (ff key hk)
  ·have hl5':¬ (i:Int)<45:=by omega
   simp[h4,f1,o1',j1,hlt,hl5']
   exact hend zO _ ⟨zS,zS,zS⟩ zS zS (by funext k;simp) (by simp;omega)
 ·simp[h4,f1,o1',j1,hlt]
  exact hend zO _ ⟨zS,zS,zS⟩ zS zS (by funext k;simp) (by simp;omega)
def FewP (h:Hist') (ob:ZO) (ub:Nat) (r:V × (ZO) × (Nat→Bool) × Nat):Prop :=
 ∃Sv Kv Tv P N1 N2,r.1=.agg [Sv,Kv,Tv]∧StO r.2.1 (ub+256) N1 (YM 25 h.ss) Sv∧StO r.2.1 N1 N2 (YM 45 h.ks) Kv∧TsO r.2.1 N2 r.2.2.2 P Tv∧P.map (·.1)=(h.ts.take 45).map fewT∧ub+256≤N1∧N1≤N2∧N2≤r.2.2.2 ∧
  ∀key,(∀m,ub≤m→key≠2*m+1)→r.2.1 key=ob key
theorem sv51 {Yf:YF}{h:Hist'}{ob:ZO}{tk:Nat→Bool}{ro base ub:Nat}(hro:ro≤ub):∃r,EvS E Yf.y 51 [.agg (j2 h)] ob tk ro base ub r∧FewP h ob ub r:=by
 refine Yb (af:=S51) rfl (by decide) ?_
 show wpC E Yf S51.body _ (We S51.res _)
 refine few0S hro fun s1 h1=>?_
 refine few1O hro h1 fun s2 Sv h2=>?_
 refine few2O hro h2 fun s3 Kv h3=>?_
 refine few3O hro h3 fun s4 Tv P hP h4=>?_
 obtain⟨f1,f2,f3,fd,fr,o1,o2,o3,gS,gK,gT,n0,n1,n2,ff⟩:=h4
 obtain⟨lS,cS⟩:=gS.leaf
 obtain⟨lK,cK⟩:=gK.leaf
 obtain⟨lT,cT⟩:=gT.leaf
 have b1:¬ 2*(ub+192)=2*(ub+64):=by omega
 have hre:S51.res=[.cell 2 (some 3)]:=rfl
 rw[hre]
 generalize hP':We [.cell 2 (some 3)] (FewP h ob ub)=Q
 simp[jyr,jh2,jft,jfu,tlC,S51,f2,f3,o2,o3,j1,fr,j6,lS,lK,lT]
 refine⟨zO,?_⟩
 rw[← hP']
 refine⟨(.agg [Sv,Kv,Tv],_,_,_),by simp[jof,fd,jw,f2,j1];exact⟨rfl,rfl,rfl⟩,Sv,Kv,Tv,P,_,_,rfl,gS.frame (fun y h1 h2=>?_) (Nat.le_refl _) (Nat.le_refl _),gK.frame (fun y h1 h2=>?_) (Nat.le_refl _) (Nat.le_refl _),gT.frame (fun y h1 h2=>?_) ?_,hP,n0,n1,?_,fun key hk=>?_⟩
 ·have e1:¬ 2*y=2*(ub+64):=by omega
  simp[e1]
 ·have e1:¬ 2*y=2*(ub+64):=by omega
  simp[e1]
 ·have e1:¬ 2*y=2*(ub+64):=by omega
  simp[e1]
 ·simp;omega
 ·simp;omega
 ·have e1:=hk (ub+64) zO
  simp[e1]
  exact ff key hk
def jbs (t:Txn'):Txn':={ t with ops:=t.ops.take 6 }
def QX (h:Hist'):Hist':=if 8<(jcv h).ts.length then { jcv h with tn:=true,ts:=[] } else { jcv h with ts:=(jcv h).ts.map jbs }
def mixT (P:List (Txn' × Nat)) (i:Nat):List (Txn' × Nat):=P.mapIdx fun j p=>if j<i then (jbs p.1,p.2) else p
theorem Wc {P:List (Txn' × Nat)}{i:Nat}:(mixT P i).length=P.length:=by simp[mixT]
theorem jtc {P:List (Txn' × Nat)}:mixT P 0=P:=by
 apply List.ext_getElem?
 intro n
 simp[mixT]
theorem jxe {P:List (Txn' × Nat)}:(mixT P P.length).map (·.1)=(P.map (·.1)).map jbs:=by
 apply List.ext_getElem?
 intro n
 simp only[mixT,List.getElem?_map,List.getElem?_mapIdx]
 cases h:P[n]? with
 | none=>rfl
 | some o=>
  have:=(List.getElem?_eq_some_iff.1 h).1
  simp[this]
theorem jlm {P:List (Txn' × Nat)}{i:Nat}(h:i<P.length):(mixT P i)[i]'(by rw[Wc];exact h)=P[i]:=by simp[mixT]
theorem jjj {P:List (Txn' × Nat)}{i:Nat}(_:i<P.length):mixT P (i+1)=(mixT P i).modify i fun p=>(jbs p.1,p.2):=by
 apply List.ext_getElem?
 intro n
 simp only[mixT,List.getElem?_mapIdx,List.getElem?_modify]
 cases hn:P[n]? with
 | none=>simp
 | some o=>
  simp only[Option.map_some,Option.map_eq_map]
  by_cases h3:i=n
  ·subst h3
   simp
  ·simp only[if_neg h3]
   by_cases h1:n<i
   ·rw[if_pos h1,if_pos zO]
   ·rw[if_neg zO,if_neg h1]
theorem jrc:∀ {P:List (Txn' × Nat)}{i:Nat}(h:i<P.length),j6 (P.flatMap txU) (i*3+2) [.osl (2*(P[i]).2+1) (P[i]).2 0 (jbs (P[i]).1).ops.length 4]=(P.modify i fun p=>(jbs p.1,p.2)).flatMap txU
 | [],_,h=>by simp at h
 | p::P,0,_=>by simp[List.modify_cons,j6,txU,jbs]
 | p::P,i+1,h=>by
  have ih:=jrc (P:=P) (i:=i) (by simpa using h)
  simp only[List.modify_cons,Nat.add_one_ne_zero,if_false,Nat.add_sub_cancel,List.flatMap_cons,List.getElem_cons_succ]
  rw[← ih]
  have:(i+1)*3+2=(txU p).length+(i*3+2):=by simp;omega
  rw[this]
  simp only[j6,Nat.add_assoc]
  rw[List.take_length_add_append,List.drop_length_add_append]
  simp only[List.append_assoc]
theorem InO.six {ob:ZO}{lo hi:Nat}{p:Txn' × Nat}(h:InO ob lo hi p):InO ob lo hi (jbs p.1,p.2):=by
 obtain⟨X,h1,h2,h3⟩:=h.ob
 refine⟨h.nl,h.lo,h.hi,X,h1,?_,?_⟩
 ·simp only[jbs,List.length_take];omega
 ·have e:X.take ((jbs p.1).ops.length*4)=(X.take (p.1.ops.length*4)).take ((jbs p.1).ops.length*4):=by
   rw[List.take_take]
   congr 1
   simp only[jbs,List.length_take]
   omega
  rw[e,h3,jv2]
  congr 1
  simp only[jbs,List.length_take]
  rcases Nat.le_total p.1.ops.length 6 with h'|h'
  ·rw[Nat.min_eq_right h',List.take_length,List.take_of_length_le h']
  ·rw[Nat.min_eq_left h']
theorem jwc {L u n i:Nat}(h:i≤n):jaq 4 none (some (.int .i64 (i:Int))) (.osl L u 0 n 4)=some (.osl L u 0 i 4):=by
 simp[jaq,X6,h]
theorem TsO.len {ob:ZO}{lo hi:Nat}{P:List (Txn' × Nat)}{v:V}(h:TsO ob lo hi P v):Q7 v=some (.int .i64 P.length):=by
 rcases h.2 with⟨rfl,rfl⟩|⟨_,u,_,_,_,rfl,_⟩ <;> rfl
theorem ev15 (h:Hist'):∃v,Ev E 15 [.agg (j2 h)] v∧jqu v (QX h):=by
 refine YE (af:=F15) rfl (by decide) ?_
 generalize hPP:(jfr [.cell 2 (some 3)] fun r=>jqu r (QX h))=PP
 simp[F15,j2,j1,hPP]
 refine J6 (vs:=[.agg (j2 h)]) (by simp[j2]) rfl (sv51 (h:=h) (Nat.zero_le _)) ?_
 rintro v ob1 tk1 ub1 ⟨Sv,Kv,Tv,P,N1,N2,hv,gS,gK,gT,hP,n0,n1,n2,ff⟩
 simp only at hv gS gK gT hP n0 n1 n2 ff
 subst hv
 obtain⟨lS,cS⟩:=gS.leaf
 obtain⟨lK,cK⟩:=gK.leaf
 obtain⟨lT,cT⟩:=gT.leaf
 have hTl:=gT.len
 have b1:ob1 1=some ⟨0,.cells (j2 h)⟩:=by rw[ff 1 (fun m hm=>by omega)];simp[j2]
 have b2:ob1 129=some ⟨64,.cells [.sl none true 0 [],.sl none true 0 [],.sl none true 0 []]⟩:=by rw[ff 129 (fun m hm=>by omega)];simp
 have e1:(QX h).ss=YM 25 h.ss:=by unfold QX;split <;> rfl
 have e2:(QX h).sn=(YM 25 h.ss).isEmpty:=by unfold QX;split <;> rfl
 have e3:(QX h).ks=YM 45 h.ks:=by unfold QX;split <;> rfl
 have e4:(QX h).kn=(YM 45 h.ks).isEmpty:=by unfold QX;split <;> rfl
 have hPl:(jcv h).ts.length=P.length:=by
  show((h.ts.take 45).map fewT).length=P.length
  rw[← hP,List.length_map]
 simp[b1,j1,j2,j6]
 generalize hK:jvh E YC _ PP=K
 have rest:∀ (s:St) (P':List (Txn' × Nat)) (Tv':V),P'.length≤8→(QX h).ts=(P'.map (·.1)).map jbs→(QX h).tn=P'.isEmpty→s.tm 1=.ptr 1 0 0→s.tm 2=.ptr 129 64 0→s.df=[]→s.ro=0→s.fb=0→ub1≤s.nx →
  s.ob 1=some ⟨0,.cells [Sv,Kv,Tv']⟩→s.ob 129=some ⟨64,.cells [.sl none true 0 [],.sl none true 0 [],.sl none true 0 []]⟩→StO s.ob (192+256) N1 (YM 25 h.ss) Sv→StO s.ob N1 N2 (YM 45 h.ks) Kv→TsO s.ob N2 ub1 P' Tv'→K .nrm s:=by
  intro s P' Tv' hl8 ht8 hn8 g1 g2 gd gr gb gn p1 p2 gS gK gT
  rw[← hK,jhv]
  clear hK
  have lT':=gT.leaf
  simp
  refine jE [(3,3),(11,37)] P'.length (fun i s=>s.tm 3=.int .i64 i∧s.ob 1=some ⟨0,.cells [Sv,Kv,Tv']⟩∧s.ob 129=some ⟨64,.cells [.sl none true 0 [],.sl none true 0 [],.sl none true 0 []]⟩∧StO s.ob (192+256) N1 (YM 25 h.ss) Sv∧StO s.ob N1 N2 (YM 45 h.ks) Kv∧TsO s.ob N2 ub1 (mixT P' i) Tv') rfl rfl
   ⟨zS,by simp[p1],by simp[p2],gS.frame (fun _ _ _=>by simp) (Nat.le_refl _) (Nat.le_refl _),gK.frame (fun _ _ _=>by simp) (Nat.le_refl _) (Nat.le_refl _),by rw[jtc];exact gT.frame (fun _ _ _=>by simp) (Nat.le_refl _)⟩ ?_
  clear gS gK
  rintro i s1 hi ⟨h3,o1,o2,gS,gK,gX⟩ f
  have f1:s1.tm 1=.ptr 1 0 0:=by rw[f.t 1 zS];simp[g1]
  have f2:s1.tm 2=.ptr 129 64 0:=by rw[f.t 2 zS];simp[g2]
  have fd:s1.df=[]:=by rw[f.d];simp[gd]
  have fb:s1.fb=0:=by rw[f.b];simp[gb]
  have fr:s1.ro=0:=by rw[f.r];simp[gr]
  clear f
  have hXl:=gX.len
  rw[Wc]at hXl
  by_cases hlt:i<P'.length
  ·have hw:=J0 hlt zO
   have hl3:i<(mixT P' i).length:=by rw[Wc];exact hlt
   rcases gX.2 with⟨he,_⟩|⟨hne,u,h1,h2,h4,rfl,h5⟩
   ·rw[he]at hl3;simp at hl3
   have hin:=gX.1 (P'[i]) (by rw[← jlm hlt];exact List.getElem_mem hl3)
   have hixT:Jn 3 (.osl (2*u+1) u 0 (mixT P' i).length 3) (.int .i64 (i:Int))=some (.ptr (2*u+1) u (i*3)):=by simp[Jn,hl3]
   have hcell:((mixT P' i).flatMap txU)[i*3+2]? = some (.osl (2*(P'[i]).2+1) (P'[i]).2 0 (P'[i]).1.ops.length 4):=by
    rw[jh WR _ hl3 (by decide:2<3),jlm hlt]
    rfl
   have hset:=jrc (P:=mixT P' i) (i:=i) hl3
   rw[← jjj hlt]at hset
   simp only[jlm hlt]at hset
   have hmn:=jei (P'[i]).1.ops.length 6
   rw[show((6:Nat):Int)=6 from rfl]at hmn
   have hsl:=fun L u=>jwc (L:=L) (u:=u) (n:=(P'[i]).1.ops.length) (i:=min (P'[i]).1.ops.length 6) (Nat.min_le_left _ _)
   have hs6:(jbs (P'[i]).1).ops.length=min (P'[i]).1.ops.length 6:=by simp only[jbs,List.length_take,Nat.min_comm]
   rw[hs6]at hset
   have n1':¬ 2*u=0:=by omega
   have n2':¬ 2*u=128:=by omega
   have hlen:i*3+2+1≤((mixT P' i).flatMap txU).length:=by rw[j9 WR];omega
   simp[h3,f1,o1,j1,hXl,hlt,hixT,h5,hcell,hmn,hsl,fr,n1',n2',hset]
   have hq:∀q∈mixT P' (i+1),InO s1.ob N2 ub1 q∧q.2≠u:=by
    intro q hq
    rw[jjj hlt]at hq
    rcases jgk hq with hq|⟨x,hx,rfl⟩
    ·exact⟨gX.1 q hq,h4 q hq⟩
    ·have hx':=List.mem_of_getElem? hx
     exact⟨(gX.1 x hx').six,h4 x hx'⟩
   have hll:(mixT P' (i+1)).length=(mixT P' i).length:=by rw[Wc,Wc]
   refine⟨by have:=hlen;simp only[List.length_flatMap,WR]at this;exact this,hw,o2,gS.frame (fun y y1 y2=>?_) (Nat.le_refl _) (Nat.le_refl _),gK.frame (fun y y1 y2=>?_) (Nat.le_refl _) (Nat.le_refl _),fun q hqm=>?_,.inr ⟨?_,u,h1,h2,fun q hqm=>(hq q hqm).2,by rw[hll],zS⟩⟩
   ·have w:¬ 2*y=2*u:=by omega
    simp[w]
   ·have w:¬ 2*y=2*u:=by omega
    simp[w]
   ·obtain⟨a,b⟩:=hq q hqm
    have w:¬ 2*q.2=2*u:=by omega
    exact a.frame (by simp[w]) (Nat.le_refl _)
   ·intro e
    rw[e]at hll
    simp at hll
    omega
  ·have:i=P'.length:=by omega
   subst this
   simp[h3,f1,o1,j1,hXl,f2,o2,j6,fr,gS.leaf.1,gK.leaf.1,lT'.1]
   rw[← hPP]
   have hml:(mixT P' P'.length).isEmpty=(QX h).tn:=by rw[hn8];exact jet Wc
   refine kE1 (g:=QX h) (l:=129) (u:=64) (x:=Sv) (y:=Kv) (z:=Tv') (by simp[fd]) (by simp[f2]) zS ?_ ?_ ?_
   ·rw[e1,e2]
    refine StO.out (lo:=192+256) (hi:=N1) (gS.frame (fun y q1 q2=>?_) (Nat.le_refl _) (Nat.le_refl _)) (by simp[fr])
    have w:¬ 2*y=128:=by omega
    simp[w]
   ·rw[e3,e4]
    refine StO.out (lo:=N1) (hi:=N2) (gK.frame (fun y q1 q2=>?_) (Nat.le_refl _) (Nat.le_refl _)) (by simp[fr])
    have w:¬ 2*y=128:=by omega
    simp[w]
   ·have hl9:(QX h).ts.length=(mixT P' P'.length).length:=by rw[ht8,Wc];simp
    rw[hl9,← hml,ht8,← jxe]
    refine TsO.out (lo:=N2) (hi:=ub1) (gX.frame (fun y q1 q2=>?_) (Nat.le_refl _)) (by simp[fr])
    have w:¬ 2*y=128:=by omega
    simp[w]
 refine⟨⟨lS,lK,lT⟩,?_⟩
 simp[hTl]
 have q1:∀y,192≤y→¬ 2*y=0:=fun y hy=>by omega
 by_cases h8:8<P.length
 ·have h8':(8:Int)<(P.length:Int):=by omega
  simp[h8',j1,j6]
  exact rest _ [] (.sl none true 0 []) zS (by unfold QX;rw[if_pos (by rw[hPl];exact h8)];rfl) (by unfold QX;rw[if_pos (by rw[hPl];exact h8)];rfl) zS zS zS zS zS (by simp <;> omega) zS (by simp[b2])
   (gS.frame (fun y y1 y2=>by simp[q1 y zO]) (Nat.le_refl _) (Nat.le_refl _)) (gK.frame (fun y y1 y2=>by simp[q1 y zO]) (Nat.le_refl _) (Nat.le_refl _)) ⟨zS,.inl ⟨rfl,rfl⟩⟩
 ·have h8':¬ (8:Int)<(P.length:Int):=by omega
  simp[h8']
  exact rest _ P Tv zO (by unfold QX;rw[if_neg (by rw[hPl];exact h8),hP];rfl) (by unfold QX;rw[if_neg (by rw[hPl];exact h8)];show((h.ts.take 45).map fewT).isEmpty=_;rw[← hP];exact jet zS) zS zS zS zS zS (by simp <;> omega) zS (by simp[b2])
   (gS.frame (fun y y1 y2=>by simp[q1 y zO]) (Nat.le_refl _) (Nat.le_refl _)) (gK.frame (fun y y1 y2=>by simp[q1 y zO]) (Nat.le_refl _) (Nat.le_refl _)) (gT.frame (fun y y1 y2=>by simp[q1 y zO]) (Nat.le_refl _))
theorem j5o (h:Hist'):Small (QX h):=by
 have hs:=jrn h
 unfold QX
 split
 ·exact⟨hs.ss,hs.sl,hs.ks,hs.kl,zS,zS⟩
 ·refine⟨hs.ss,hs.sl,hs.ks,hs.kl,by simpa using hs.ts,fun t ht=>?_⟩
  simp only[List.mem_map]at ht
  obtain⟨t',ht',rfl⟩:=ht
  have:=hs.os t' ht'
  simp only[jbs,List.length_take]
  omega
theorem jyq (h:Hist'):QX (QX h)=QX h:=by
 have e1:YM 25 (jcv h).ss=(jcv h).ss:=job 25 h.ss
 have e2:YM 45 (jcv h).ks=(jcv h).ks:=job 45 h.ks
 by_cases c:8<(jcv h).ts.length
 ·have e:QX h = { jcv h with tn:=true,ts:=[] }:=by unfold QX;rw[if_pos c]
  have e0:jcv { jcv h with tn:=true,ts:=[] } = { jcv h with tn:=true,ts:=[] }:=by
   show Hist'.mk _ _ _ _ _ _=_
   simp only[e1,e2]
   rfl
  rw[e]
  unfold QX
  rw[e0]
  rfl
 ·have e:QX h = { jcv h with ts:=(jcv h).ts.map jbs }:=by unfold QX;rw[if_neg c]
  have e3:(((jcv h).ts.map jbs).take 45).map fewT=(jcv h).ts.map jbs:=by
   show((((h.ts.take 45).map fewT).map jbs).take 45).map fewT=((h.ts.take 45).map fewT).map jbs
   rw[← List.map_take,← List.map_take,List.take_take,List.map_map,List.map_map,List.map_map]
   refine List.map_congr_left fun t _=>?_
   simp[fewT,jbs,List.take_take]
  have e0:jcv { jcv h with ts:=(jcv h).ts.map jbs } = { jcv h with ts:=(jcv h).ts.map jbs }:=by
   show Hist'.mk _ _ _ _ _ _=_
   simp only[e1,e2,e3]
   simp[jcv]
   cases h.ts <;> simp
  rw[e]
  unfold QX
  rw[e0]
  have c':¬ 8<((jcv h).ts.map jbs).length:=by simpa using c
  simp only
  rw[if_neg c',List.map_map]
  congr 1
  refine List.map_congr_left fun t _=>?_
  simp[jbs,List.take_take]
theorem jus {g:Hist'}{lvl:Int}{M O:List Int}(h:jut g lvl M O=0):jjz g lvl M O=jbd g lvl M O:=by
 obtain⟨_,h1,h3,hm,ho⟩:=err0 h
 simp[jjz,h,jyh h1 h3 hm ho]
theorem err_lvl {g:Hist'}{M O:List Int}:jut g 2 M O=jut g 1 M O∧jut g 3 M O=jut g 1 M O:=by simp[jut]
theorem h32 {g:Hist'}{M O:List Int}(h:jjz g 3 M O=true):jjz g 2 M O=true:=by
 have h0:jut g 3 M O=0:=by
  unfold jjz at h
  simp only[Bool.and_eq_true,beq_iff_eq]at h
  exact h.1
 obtain⟨_,_,_,hm,ho⟩:=err0 h0
 rw[jus h0]at h
 have h0':jut g 2 M O=0:=by rw[err_lvl.1,← err_lvl.2];exact h0
 rw[jus h0']
 exact j5v hm ho h
theorem f20:Small H20:=⟨by decide,by decide,by decide,by decide,by decide,by decide⟩
theorem f20a:jcu H20 [-1] 9=([0],2,0):=by decide +kernel
theorem f20b:mayF H20 [-1] [] 0=true:=by decide +kernel
set_option maxHeartbeats 1000000 in
theorem ev36:Ev E 36 [] (.bool true):=by
 obtain⟨v,e1,nl,hn,hv⟩:=ev34 f20 (by decide) (mn:=false) (M:=[-1]) (by decide) 9
 rw[f20a]at hn hv
 obtain rfl:nl=false:=by cases nl;rfl;cases hn rfl
 have e2:=ev37 f20 (by decide) (mn:=false) (sn:=true) (M:=[-1]) (by decide) (S:=[]) (by decide) 0
 rw[f20b]at e2
 have e57:Ev E 57 [.str j5d] _:=⟨100,k20⟩
 refine jU (af:=F36) rfl ?_
 simp[F36]
 refine jV e57 rfl rfl rfl ?_
 simp[YB,toksRes,V.toks,V.tok,jb9,jb8,YD,Nat.blt,j1,j6]
 refine jS (cs:=[.int .i64 (-1)]) (by simp[j6]) rfl rfl ?_
 simp
 refine jV e1 (by simp[jN,intC,j2,H20,JL,jl,opC,V.strip,V.strip1]) rfl (by simp[jN,intC,j2]) ?_
 refine jm2 hv rfl fun ws add hws=>?_
 obtain⟨x,y,z,rfl,h1,h2,h3⟩:=map3 hws
 obtain⟨t1,rfl⟩:=Wv h1
 obtain rfl:=YJ h2
 obtain rfl:=YJ h3
 have e3:=ev32 (a:=false) (b:=false) [0] [0] (by decide) (by decide)
 rw[show(([0]:List Int) == [0])=true from rfl]at e3
 simp
 refine jS (cs:=[.int .i64 0]) (by simp[j6]) rfl rfl ?_
 simp
 refine jV e3 (by simp[jN,intC,V.strip,V.strip1]) rfl (by simp[jN,intC]) ?_
 simp[j1]
 refine jS (cs:=[.int .i64 (-1)]) (by simp[j6]) rfl rfl ?_
 simp
 refine jV e2 (by simp[jN,intC,j2,H20,JL,jl,opC,V.strip,V.strip1]) rfl (by simp[jN,intC,j2]) ?_
 simp
 exact j4 rfl zS rfl
theorem j3o (h:Hist'):(QX h).ts.length≤8:=by
 unfold QX
 split
 ·simp
 ·rename_i h8
  simp only[List.length_map]
  omega
end Go.Pv.T
namespace Go.Pv.T
open Go Go.Pv
end Go.Pv.T
namespace Go.Pv.T
open Go Go.Pv
section
variable {E:Env}{st:St}{ub:Nat}{K:List FP→St→Prop}{d:Option Nat}{nm:Bool}{r:List AOpr}
theorem jc0 {a b:Nat}(h:a≠b):Nat.beq a b=false:=by cases hb:Nat.beq a b;rfl;exact absurd (Nat.eq_of_beq_eq_true hb) h
theorem j94 {f:FuncId}{xs:List A}{args:List V}{n:Nat}{cs:List V}(hev:Ev E f args (.sl (some (0,1)) false n cs)) (hx:(xs.map fun x=>(eval E st.tm x).strip)=args) (hs:E.sh nm f=false) (hp:args.all V.pureTop=true)
 (h:∀u,u=ub→YS E r K (eval E st.tm) (.call f xs) st d ub { v:=.sl (some (u,1)) false n cs,add:=[u] }):jF E (⟨d,.call f xs,none,nm⟩::r) st ub K:=by
 refine Xy hev hx hs hp ?_
 rw[jm3]
 rw[jM]
 exact h ub rfl
end
section
variable {g:Hist'}{M:List Int}
end
theorem j2b {n w t:Nat}(ht:t<n):(mrkC n w.testBit).set t (.bool true)=mrkC n (w ||| 1 <<< t).testBit:=by
 apply List.ext_getElem?
 intro i
 by_cases hi:i<n
 ·rw[ja3 hi,jfb,List.getElem?_set]
  by_cases e:t=i
  ·subst e
   rw[if_pos rfl,if_pos (by rw[Xd];exact ht)]
   simp
  ·rw[if_neg e,ja3 hi]
   simp[e]
 ·rw[List.getElem?_eq_none (by rw[List.length_set,Xd];omega),List.getElem?_eq_none (by rw[Xd];omega)]
theorem jhn (n:Nat) (s:Nat→Bool):(mrkC n s).all V.pureLeaf=true:=by
 rw[List.all_eq_true]
 intro x hx
 unfold mrkC at hx
 obtain⟨a,_,rfl⟩:=List.mem_map.1 hx
 rfl
theorem juj (l:List Int):(l.flatMap intC).all V.pureLeaf=true:=by
 rw[List.all_flatMap,List.all_eq_true]
 intro _ _
 rfl
theorem jm0 {n:Nat}{P:List (Nat × Nat)}(h:P≠[]):(P.flatMap (jc9 n)).all V.pureLeaf=false:=by
 cases P with
 | nil=>exact absurd rfl h
 | cons p P=>rfl
theorem sv25d {Yf:YF}{lo hi:Nat}{v:V}{done:List Nat}{ob:ZO}{tk:Nat→Bool}{ro base ub:Nat}(hO:OrdV ob lo hi v done) (hl:done.length≤1000) (hu:hi≤ub) (hro:ro≤ub):∃r,EvS E Yf.y 25 [v] ob tk ro base ub r∧CopyP ob tk ub (ints done) r:=by
 rcases hO with⟨rfl,rfl⟩|⟨k,cs,rfl,hk,h1,h2⟩
 ·exact sv25 true [] (by decide) hro
 refine Yb (af:=S25) rfl (by decide) ?_
 show wpC E Yf S25.body _ (We S25.res _)
 have hlen:((ints done).flatMap intC).length=done.length:=by rw[j9 jG,Xp];omega
 have nk:∀m,ub≤m→¬ k=m:=fun m hm=>by omega
 have hoc:j1 ob (2*k+1) k=some ((ints done).flatMap intC++cs):=by simp[j1,hk]
 simp[S25]
 refine JO (cs:=[]) rfl rfl rfl ?_
 simp
 have hx:∀ob':ZO,ob' (2*k+1)=ob (2*k+1)→jI ob' 1 (.osl (2*k+1) k 0 done.length 1)=some ((ints done).flatMap intC):=fun ob' h=>by
  simp[jI,j1,h,hk,← hlen]
 by_cases hn:done=[]
 ·subst hn
  refine ja8 (l:=2*(ub+64)+1) (u:=ub+64) (off:=0) (n:=0) (z:=1) (cs:=[]) zS (by simpa[ints] using hx _ (by simp(disch:=first|(simp;done)|omega) [two_inj,nk])) zS ?_
  simp
  refine YX zS ⟨⟨ub+64,zO,by simp;try omega,by simp[ints],by simp[ints]⟩,fun k hk=>?_,by simp[JG],by simp;try omega⟩
  have:=hk (ub+64) zO
  simp[this]
 ·have hne:(ints done).flatMap intC≠[]:=fun e=>hn (by rw[e]at hlen;exact List.length_eq_zero_iff.1 (by simpa using hlen.symm))
  have hd:((ints done).flatMap intC).length / 1=done.length:=by rw[hlen];simp
  refine XN (l:=2*(ub+64)+1) (u:=ub+64) (n:=0) (cs:=[]) (ys:=(ints done).flatMap intC) zS (by simpa using hx _ (by simp(disch:=first|(simp;done)|omega) [two_inj,nk])) zS hne (by simp;omega) zS (by decide) (by simp[intC]) (by rw[hd];omega) (by rw[hd];omega) ?_
  rw[hd]
  simp
  refine YX zS ⟨⟨ub+192,zO,by simp;try omega,by simp[Xp],zS⟩,fun k hk=>?_,by simp[ju7],by simp;try omega⟩
  have h1:=hk (ub+64) zO
  have h2:=hk (ub+192) zO
  simp[h1,h2]
theorem jx8 {st:St}{ub:Nat}{K:List FP→St→Prop}{d:Option Nat}{r:List AOpr}{z sz bytes:Nat}{s x:A}(hs:eval E st.tm s=.osl (2*z+1) z 0 0 sz) (ho:st.ob (2*z+1)=some ⟨z,.cells []⟩) (hx:jI st.ob sz (eval E st.tm x)=some [])
 (h:YS E r K (eval E st.tm) (.append true sz bytes s x) st d ub { v:=.osl (2*z+1) z 0 0 sz }):jF E (⟨d,.append true sz bytes s x,none,true⟩::r) st ub K:=by
 rw[jt rfl]
 have hoc:j1 st.ob (2*z+1) z=some []:=by simp[j1,ho]
 simp only[aop,hs,hx,Option.bind_some,if_true,hoc,Yo]
 exact h
theorem jx7 {st:St}{ub:Nat}{K:List FP→St→Prop}{d:Option Nat}{r:List AOpr}{z sz bytes n:Nat}{ys:List V}{s x:A}(hs:eval E st.tm s=.osl (2*z+1) z 0 0 sz) (ho:st.ob (2*z+1)=some ⟨z,.cells []⟩) (hro:st.ro≤z)
 (hx:jI st.ob sz (eval E st.tm x)=some ys) (hne:ys≠[]) (hn:ys.length / sz=n) (h0:0<sz) (hp:ys.all V.leaf=true) (hb:n*bytes≤140737488355328) (hb2:n≤140737488355328)
 (h:YS E r K (eval E st.tm) (.append true sz bytes s x) st d ub { v:=.osl (2*ub+1) ub 0 n sz,obs:=[(2*ub+1,⟨ub,.cells ys⟩)],kill:=[2*z+1] }):jF E (⟨d,.append true sz bytes s x,none,true⟩::r) st ub K:=by
 subst hn
 rw[jt rfl]
 have hoc:j1 st.ob (2*z+1) z=some []:=by simp[j1,ho]
 simp only[aop,hs,hx,Option.bind_some,hoc,if_neg hne]
 rw[if_pos ⟨Nat.ble_eq▸hro,trivial,trivial,zS,h0,hp,by rw[Nat.zero_add];exact hb,by rw[Nat.zero_add];exact hb2⟩,jM,Nat.zero_add]
 simp only[Nat.zero_mul,List.take_zero,List.nil_append]
 exact h
theorem jqy {v:Option V}{K:St→Nat→Prop}{st:St}{d:Option Nat}{ub:Nat}(h:∀s',s'=st→wpV v (QT K s' d ub)):wpV v (QT K st d ub):=h st rfl
theorem jbn {Yf:YF}{o:AOpr}{st:St}{ub:Nat}{K:St→Nat→Prop}(h:∀s' u',s'=st→u'=ub→j8 E Yf o s' u' K):j8 E Yf o st ub K:=h st ub rfl rfl
theorem jjh (n:Nat) (s:Nat→Bool):(mrkC n s).all V.leaf=true:=by
 rw[List.all_eq_true]
 intro x hx
 unfold mrkC at hx
 obtain⟨a,_,rfl⟩:=List.mem_map.1 hx
 rfl
theorem jtb {ob:ZO}{n us:Nat}{s:Nat→Bool}(h:ob (2*us+1)=some ⟨us,.cells (mrkC n s)⟩):jI ob 1 (.osl (2*us+1) us 0 n 1)=some (mrkC n s):=by
 have hml:=Xd n s
 simp[jI,j1,h,hml]
 exact List.take_of_length_le zO
structure WC where
 g:Hist'
 M:List Int
 mn:Bool
 most:Int
 kW:Nat
 uW:Nat
 lo:Nat
def WC.cs (c:WC) (sv:V) (sp:Bool):List V:=j2 c.g++[jN c.mn intC c.M,sv,.int .i64 c.most,.bool sp]
structure WC.Ok (c:WC):Prop where
 s:Small c.g
 m:Ws c.g c.M=true
 l:c.g.ts.length≤8
 w:Off c.lo c.kW
structure WS (c:WC) (vis:List Nat) (sp:Bool) (ob:ZO) (ub:Nat):Prop where
 w:∃sv P,ob c.kW=some ⟨c.uW,.cells (c.cs sv sp)⟩∧SeenV c.g.ts.length ob c.lo ub sv P∧P.map (·.2)=vis
 b:∀v∈vis,v<2 ^ c.g.ts.length
 d:vis.Nodup
def WC.Keep (c:WC) (ob ob':ZO) (ub:Nat):Prop:=∀key u cs,Off ub key→key≠c.kW→ob key=some ⟨u,.cells cs⟩→cs.all V.pureLeaf=true→ob' key=ob key
theorem WC.Keep.trans {c:WC}{ob ob1 ob2:ZO}{ub ub1:Nat}(h:c.Keep ob ob1 ub) (h':c.Keep ob1 ob2 ub1) (hu:ub≤ub1):c.Keep ob ob2 ub:=fun key u cs h1 h2 h3 h4=>by
 have e:=h key u cs h1 h2 h3 h4
 exact(h' key u cs (h1.up hu) h2 (e.trans h3) h4).trans e
theorem WS.len {c:WC}{vis:List Nat}{sp:Bool}{ob:ZO}{ub:Nat}(h:WS c vis sp ob ub) (hc:c.Ok):vis.length≤256:=by
 have h1:=jto (C:=List.range (2 ^ c.g.ts.length)) h.d fun x hx=>List.mem_range.2 (h.b x hx)
 rw[List.length_range]at h1
 have h2:2 ^ c.g.ts.length≤2 ^ 8:=Nat.pow_le_pow_right (by decide) hc.l
 exact Nat.le_trans h1 h2
def DoneV (ob:ZO) (lo hi:Nat) (v:V) (done:List Nat):Prop :=
 (v=.sl none true 0 []∧done=[])∨∃u,v=.osl (2*u+1) u 0 done.length 1∧ob (2*u+1)=some ⟨u,.cells ((ints done).flatMap intC)⟩∧lo≤u∧u<hi
theorem DoneV.ord {ob:ZO}{lo hi:Nat}{v:V}{done:List Nat}(h:DoneV ob lo hi v done):OrdV ob lo hi v done:=by
 rcases h with h|⟨u,h1,h2,h3,h4⟩
 ·exact .inl h
 ·exact .inr ⟨u,[],h1,by rw[h2,List.append_nil],h3,h4⟩
theorem DoneV.keep {c:WC}{ob ob':ZO}{ub ub':Nat}{v:V}{done:List Nat}(h:DoneV ob c.lo ub v done) (hc:c.Ok) (hk:c.Keep ob ob' ub) (hu:ub≤ub'):DoneV ob' c.lo ub' v done:=by
 rcases h with h|⟨u,h1,h2,h3,h4⟩
 ·exact .inl h
 ·exact .inr ⟨u,h1,(hk _ _ _ (Off.new h4) (fun e=>hc.w u h3 e.symm) h2 (juj _)).trans h2,h3,zO⟩
def StV (c:WC) (ob:ZO) (ub us w:Nat):Prop:=ob (2*us+1)=some ⟨us,.cells (mrkC c.g.ts.length w.testBit)⟩∧c.lo≤us∧us<ub
theorem StV.keep {c:WC}{ob ob':ZO}{ub ub' us w:Nat}(h:StV c ob ub us w) (hc:c.Ok) (hk:c.Keep ob ob' ub) (hu:ub≤ub'):StV c ob' ub' us w :=
 ⟨(hk _ _ _ (Off.new h.2.2) (fun e=>hc.w us h.2.1 e.symm) h.1 (jhn _ _)).trans h.1,h.2.1,by have:=h.2.2;omega⟩
def OnR2 (c:WC) (R:R3) (ob:ZO) (ub:Nat) (r:V × (ZO) × (Nat→Bool) × Nat):Prop :=
 (∃ov,r.1=.tup [ov,.bool R.1.isSome]∧(R.1=none→ov=.sl none true 0 [])∧∀l,R.1=some l→DoneV r.2.1 c.lo r.2.2.2 ov l)∧ub≤r.2.2.2∧c.Keep ob r.2.1 ub∧WS c R.2.2 R.2.1 r.2.1 r.2.2.2
def OnP2 (c:WC) (k:Nat):Prop:=∀ (Yf:YF) (w:Nat) (done vis:List Nat) (dv:V) (us:Nat) (ob:ZO) (tk:Nat→Bool) (ro base ub:Nat),WS c vis false ob ub→done.length+k=(comN c.g).length→w<2 ^ c.g.ts.length→w ∉ vis→StV c ob ub us w→DoneV ob c.lo ub dv done→c.lo≤ub→ro≤c.lo→ro≤c.uW →
 ∃r,EvS E Yf.y 79 [.ptr c.kW c.uW 0,.osl (2*us+1) us 0 c.g.ts.length 1,dv,.int .i64 (comL c.g).length] ob tk ro base ub r∧OnR2 c (onM (nxM c.g c.M) (comN c.g) c.most k w done vis) ob ub r
theorem WS.keep {c:WC}{vis:List Nat}{sp:Bool}{ob ob':ZO}{ub ub':Nat}(h:WS c vis sp ob ub) (hc:c.Ok) (hlu:c.lo≤ub) (hu:ub≤ub') (hk:∀key,Off ub key→ob' key=ob key):WS c vis sp ob' ub':=by
 obtain⟨sv,P,h1,h2,h3⟩:=h.w
 exact⟨⟨sv,P,(hk _ (hc.w.up hlu)).trans h1,h2.frame (fun u _ h=>hk _ (Off.new h)) hu,h3⟩,h.b,h.d⟩
section
variable {c:WC}
set_option maxHeartbeats 4000000 in
theorem jnk (hc:c.Ok) (k:Nat) (ih:∀j,k=j+1→OnP2 c j):OnP2 c k:=by
 intro Yf w done vis dv us ob tk ro base ub hS hdn hw hwv hT hO hlu ho1 ho2
 have hvlen:=hS.len hc
 obtain⟨sv,P,hW,hSV,hPv⟩:=hS.w
 have oW:=(hc.w.up hlu).ne
 have hlen:=hSV.len
 have hvl:P.length=vis.length:=by rw[← hPv];simp
 rw[hvl]at hlen
 have n8:=hc.l
 have hdl:Q7 dv=some (.int .i64 (done.length:Nat)):=by
  rcases hO with⟨rfl,rfl⟩|⟨u,rfl,_⟩ <;> rfl
 refine Yb (af:=S79) rfl (by decide) ?_
 show wpC E Yf S79.body _ (We S79.res _)
 simp(disch:=first|(simp;done)|omega) [S79,j1,hW,WC.cs,j2,hlen]
 by_cases hmost:(vis.length:Int)=c.most
 ·simp(disch:=first|(simp;done)|omega) [hmost,j1,hW,WC.cs,j2,j6]
  refine⟨ho2,jgt zS ?_⟩
  rw[ji7 hmost]
  refine⟨⟨.sl none true 0 [],zS,fun _=>rfl,fun l h=>(by cases h)⟩,by simp;omega,fun key u cs h1 h2 h3 h4=>by simp[h2],⟨⟨sv,P,by simp[WC.cs,j2],hSV.frame (fun u h1 h2=>?_) (by simp;omega),hPv⟩,hS.b,hS.d⟩⟩
  have:2*u+1≠c.kW:=fun e=>hc.w u h1 e.symm
  simp[this]
 have hmost':((vis.length:Int) == c.most)=false:=by simpa using hmost
 simp(disch:=first|(simp;done)|omega) [hmost',j1,hW,WC.cs,j2]
 refine Xh (cs:=[]) rfl rfl rfl ?_
 simp
 by_cases h0:c.g.ts.length=0
 ·have hm0:mrkC c.g.ts.length w.testBit=[]:=List.length_eq_zero_iff.1 (by rw[Xd];exact h0)
  have hk0:k=0:=by have:=Wm c.g;have:=Qa c.g;omega
  subst hk0
  have nus:∀m,ub≤m→¬ us=m:=fun m hm=>by have:=hT.2.2;omega
  refine jx8 (z:=ub+1088) (by simp[Nat.add_assoc]) (by simp[Nat.add_assoc]) ?_ ?_
  ·rw[← hm0]
   refine jtb ?_
   simp(disch:=first|(simp;done)|omega) [two_inj,nus,hT.1]
  simp
  refine Xh (cs:=[.osl (2*(ub+1088)+1) (ub+1088) 0 0 1]) (by simp[j6,Nat.add_assoc]) rfl rfl ?_
  simp
  refine ja9 (n:=c.g.ts.length) (lo:=c.lo) (hi:=ub) (v:=sv) (P:=P) (p:=(ub+1088,w)) zS (hSV.frame (fun u h1 h2=>?_) (Nat.le_refl _)) (by simp[jI,j1,jc9,Nat.add_assoc,h0]) (by simp;omega) zO fun ks hks=>?_
  ·have h3:∀m,ub≤m→¬ u=m:=fun m hm=>by omega
   simp(disch:=first|(simp;done)|omega) [two_inj,h3]
  have hkW:ks.any (Nat.beq c.kW)=false:=by
   rcases hks with rfl|⟨u,h1,h2,h3,h4,h5,rfl⟩
   ·rfl
   ·simp only[List.any_cons,List.any_nil,Bool.or_false]
    exact Jx (hc.w u h1)
  generalize hcs:List.flatMap (jc9 c.g.ts.length) (P++[(ub+1088,w)])=cs9
  simp(disch:=first|(simp;done)|omega) [j1,hW,WC.cs,j2,hkW,j6,jZ,oW]
  have bW:∀m,ub≤m→Nat.beq c.kW (2*m+1)=false:=fun m hm=>jc0 (oW m hm)
  have bW':∀m,ub≤m→Nat.beq (2*m+1) c.kW=false:=fun m hm=>jc0 (Ne.symm (oW m hm))
  refine⟨ho2,?_,?_⟩
  ·simp(disch:=first|(simp;done)|omega) [Jo,QC,jc5,jbe,rdOb,rdTk,lOf,uOf,Delta.wo,Delta.wt,bW]
  rw[hdl]
  have hkk:∀key u cs,ob key=some ⟨u,.cells cs⟩→cs.all V.pureLeaf=true→ks.any (Nat.beq key)=false:=fun key u cs e1 e2=>by
   rcases hks with rfl|⟨u,h1,h2,h3,h4,h5,rfl⟩
   ·rfl
   ·have n3:∀m,ub≤m→¬ u=m:=fun m hm=>by omega
    simp(disch:=first|(simp;done)|omega) [two_inj,n3]at h5
    simp only[List.any_cons,List.any_nil,Bool.or_false]
    refine jc0 fun e=>?_
    rw[e,h5]at e1
    cases e1
    rw[jm0 h3]at e2
    cases e2
  have hkz:ks.any (Nat.beq (2*(ub+1088)+1))=false:=by
   rcases hks with rfl|⟨u,h1,h2,h3,h4,h5,rfl⟩
   ·rfl
   ·simp only[List.any_cons,List.any_nil,Bool.or_false]
    exact jc0 zO
  refine jqy fun st1 hst=>?_
  have g2:st1.tm 2=dv:=by rw[hst];simp
  have g3:st1.tm 3=.int .i64 (comL c.g).length:=by rw[hst];simp
  have gd:st1.df=[]:=by rw[hst];simp
  have gK:c.Keep ob st1.ob ub:=fun key u cs h1 h2 h3 h4=>by
   have h5:=h1.ne
   rw[hst]
   simp(disch:=first|(simp;done)|omega) [jZ,h5,h2,hkk key u cs h3 h4]
  have gS:WS c (vis++[w]) false st1.ob (ub+1408):=by
   refine⟨⟨.osl (2*(ub+1344)+1) (ub+1344) 0 (P.length+1) 1,P++[(ub+1088,w)],?_,⟨fun p hp=>?_,.inr ⟨zS,ub+1344,zO,zO,fun p hp=>?_,zS,?_⟩⟩,by simp[hPv]⟩,fun v hv=>?_,?_⟩
   ·rw[hst]
    simp[WC.cs,j2,Nat.add_assoc]
   ·rcases List.mem_append.1 hp with hp|hp
    ·obtain⟨p1,p2,p3⟩:=hSV.1 p hp
     exact⟨p1,zO,(gK _ _ _ (Off.new p2) (fun e=>hc.w p.1 p1 e.symm) p3 (jhn _ _)).trans p3⟩
    ·rw[List.mem_singleton]at hp
     subst hp
     refine⟨zO,zO,?_⟩
     rw[hst]
     simp(disch:=first|(simp;done)|omega) [jZ,two_inj,Nat.add_assoc,hkz,hm0]
     exact fun e=>absurd e.symm (oW _ zO)
   ·rcases List.mem_append.1 hp with hp|hp
    ·have:=(hSV.1 p hp).2.1
     omega
    ·rw[List.mem_singleton]at hp
     subst hp
     simp
   ·rw[hst,hcs]
    simp(disch:=first|(simp;done)|omega) [jZ,Nat.add_assoc]
    exact fun e=>absurd e.symm (oW _ zO)
   ·rcases List.mem_append.1 hv with hv|hv
    ·exact hS.b v hv
    ·rw[List.mem_singleton]at hv
     exact hv▸hw
   ·rw[List.nodup_append]
    exact⟨hS.d,zS,fun a ha b hb e=>hwv (by rw[List.mem_singleton]at hb;exact hb▸e▸ha)⟩
  clear hst
  have gO:DoneV st1.ob c.lo (ub+1408) dv done:=hO.keep hc gK zO
  have hcl:=Wm c.g
  have e0:(done.length:Int)=(comL c.g).length:=by omega
  simp[e0,g2,g3]
  refine jgt (by simp[gd]) ?_
  rw[onM,if_neg hmost]
  refine⟨⟨dv,by simp,fun h=>(by cases h),fun l h=>?_⟩,zL,fun key u cs h1 h2 h3 h4=>by simpa using gK key u cs h1 h2 h3 h4,gS.keep hc zO zL fun key _=>by simp⟩
  cases h
  exact gO.keep hc (fun key u cs h1 h2 h3 h4=>by simp) zL
 have hml:=Xd c.g.ts.length w.testBit
 have nus:∀m,ub≤m→¬ us=m:=fun m hm=>by have:=hT.2.2;omega
 refine jx7 (z:=ub+1088) (n:=c.g.ts.length) (ys:=mrkC c.g.ts.length w.testBit) (by simp[Nat.add_assoc]) (by simp[Nat.add_assoc]) (by simp;omega) ?_ (fun e=>h0 (by rw[e]at hml;exact hml.symm)) (by rw[hml,Nat.div_one]) (by decide) ?_ zO zO ?_
 ·refine jtb ?_
  simp(disch:=first|(simp;done)|omega) [two_inj,nus,hT.1]
 ·exact jjh _ _
 simp
 refine Xh (cs:=[.osl (2*(ub+1216)+1) (ub+1216) 0 c.g.ts.length 1]) (by simp[j6,Nat.add_assoc]) rfl rfl ?_
 simp
 refine ja9 (n:=c.g.ts.length) (lo:=c.lo) (hi:=ub) (v:=sv) (P:=P) (p:=(ub+1216,w)) zS (hSV.frame (fun u h1 h2=>?_) (Nat.le_refl _)) (by simp[jI,j1,jc9,Nat.add_assoc]) (by simp;omega) zO fun ks hks=>?_
 ·have h3:∀m,ub≤m→¬ u=m:=fun m hm=>by omega
  simp(disch:=first|(simp;done)|omega) [two_inj,h3]
 have hkW:ks.any (Nat.beq c.kW)=false:=by
  rcases hks with rfl|⟨u,h1,h2,h3,h4,h5,rfl⟩
  ·rfl
  ·simp only[List.any_cons,List.any_nil,Bool.or_false]
   exact Jx (hc.w u h1)
 generalize hcs:List.flatMap (jc9 c.g.ts.length) (P++[(ub+1216,w)])=cs9
 simp(disch:=first|(simp;done)|omega) [j1,hW,WC.cs,j2,hkW,j6,jZ,oW]
 have bW:∀m,ub≤m→Nat.beq c.kW (2*m+1)=false:=fun m hm=>jc0 (oW m hm)
 have bW':∀m,ub≤m→Nat.beq (2*m+1) c.kW=false:=fun m hm=>jc0 (Ne.symm (oW m hm))
 refine⟨ho2,?_,?_⟩
 ·simp(disch:=first|(simp;done)|omega) [Jo,QC,jc5,jbe,rdOb,rdTk,lOf,uOf,Delta.wo,Delta.wt,bW]
 rw[hdl]
 have hkk:∀key u cs,ob key=some ⟨u,.cells cs⟩→cs.all V.pureLeaf=true→ks.any (Nat.beq key)=false:=fun key u cs e1 e2=>by
  rcases hks with rfl|⟨u,h1,h2,h3,h4,h5,rfl⟩
  ·rfl
  ·have n3:∀m,ub≤m→¬ u=m:=fun m hm=>by omega
   simp(disch:=first|(simp;done)|omega) [two_inj,n3]at h5
   simp only[List.any_cons,List.any_nil,Bool.or_false]
   refine jc0 fun e=>?_
   rw[e,h5]at e1
   cases e1
   rw[jm0 h3]at e2
   cases e2
 refine jqy fun st1 hst=>?_
 have g0:st1.tm 0=.ptr c.kW c.uW 0:=by rw[hst];simp
 have g1:st1.tm 1=.osl (2*us+1) us 0 c.g.ts.length 1:=by rw[hst];simp
 have g2:st1.tm 2=dv:=by rw[hst];simp
 have g3:st1.tm 3=.int .i64 (comL c.g).length:=by rw[hst];simp
 have gd:st1.df=[]:=by rw[hst];simp
 have gr:st1.ro=ro:=by rw[hst];simp
 have gK:c.Keep ob st1.ob ub:=fun key u cs h1 h2 h3 h4=>by
  have h5:=h1.ne
  rw[hst]
  simp(disch:=first|(simp;done)|omega) [jZ,h5,h2,hkk key u cs h3 h4]
 have gS:WS c (vis++[w]) false st1.ob (ub+1408):=by
  refine⟨⟨.osl (2*(ub+1344)+1) (ub+1344) 0 (P.length+1) 1,P++[(ub+1216,w)],?_,⟨fun p hp=>?_,.inr ⟨zS,ub+1344,zO,zO,fun p hp=>?_,zS,?_⟩⟩,by simp[hPv]⟩,fun v hv=>?_,?_⟩
  ·rw[hst]
   simp[WC.cs,j2,Nat.add_assoc]
  ·rcases List.mem_append.1 hp with hp|hp
   ·obtain⟨p1,p2,p3⟩:=hSV.1 p hp
    exact⟨p1,zO,(gK _ _ _ (Off.new p2) (fun e=>hc.w p.1 p1 e.symm) p3 (jhn _ _)).trans p3⟩
   ·rw[List.mem_singleton]at hp
    subst hp
    refine⟨zO,zO,?_⟩
    rw[hst]
    have hkz:ks.any (Nat.beq (2*(ub+1216)+1))=false:=by
     rcases hks with rfl|⟨u,h1,h2,h3,h4,h5,rfl⟩
     ·rfl
     ·simp only[List.any_cons,List.any_nil,Bool.or_false]
      exact jc0 zO
    simp(disch:=first|(simp;done)|omega) [jZ,two_inj,Nat.add_assoc,hkz]
    exact fun e=>absurd e.symm (oW _ zO)
  ·rcases List.mem_append.1 hp with hp|hp
   ·have:=(hSV.1 p hp).2.1
    omega
   ·rw[List.mem_singleton]at hp
    subst hp
    simp
  ·rw[hst,hcs]
   simp(disch:=first|(simp;done)|omega) [jZ,Nat.add_assoc]
   exact fun e=>absurd e.symm (oW _ zO)
  ·rcases List.mem_append.1 hv with hv|hv
   ·exact hS.b v hv
   ·rw[List.mem_singleton]at hv
    exact hv▸hw
  ·rw[List.nodup_append]
   exact⟨hS.d,zS,fun a ha b hb e=>hwv (by rw[List.mem_singleton]at hb;exact hb▸e▸ha)⟩
 clear hst
 have gO:DoneV st1.ob c.lo (ub+1408) dv done:=hO.keep hc gK zO
 have gT:StV c st1.ob (ub+1408) us w:=hT.keep hc gK zO
 have hcl:=Wm c.g
 have hd8:done.length≤8:=by have:=Qa c.g;omega
 by_cases hk0:k=0
 ·subst hk0
  have e0:(done.length:Int)=(comL c.g).length:=by omega
  simp[e0,g2,g3]
  refine jgt (by simp[gd]) ?_
  rw[onM,if_neg hmost]
  refine⟨⟨dv,by simp,fun h=>(by cases h),fun l h=>?_⟩,zL,fun key u cs h1 h2 h3 h4=>by simpa using gK key u cs h1 h2 h3 h4,gS.keep hc zO zL fun key _=>by simp⟩
  cases h
  exact gO.keep hc (fun key u cs h1 h2 h3 h4=>by simp) zL
 obtain⟨j,rfl⟩:∃j,k=j+1:=⟨k - 1,zO⟩
 have e0:((done.length:Int) == (comL c.g).length)=false:=by simp;omega
 simp[e0,g3]
 refine JS fun st hst=>?_
 have a0:st.tm 0=.ptr c.kW c.uW 0:=by rw[hst];simp[g0]
 have a1:st.tm 1=.osl (2*us+1) us 0 c.g.ts.length 1:=by rw[hst];simp[g1]
 have a2:st.tm 2=dv:=by rw[hst];simp[g2]
 have a3:st.tm 3=.int .i64 (comL c.g).length:=by rw[hst];simp[g3]
 have a10:st.tm 10=.int .i64 0:=by rw[hst];simp
 have ad:st.df=[]:=by rw[hst];simp[gd]
 have ar:st.ro=ro:=by rw[hst];simp[gr]
 have an:ub+1408≤st.nx:=by rw[hst];first|omega|(simp;done)|(simp;omega)
 have aS:WS c (vis++[w]) false st.ob st.nx:=gS.keep hc zO an fun key _=>by rw[hst];simp
 have aK:c.Keep ob st.ob ub:=fun key u cs h1 h2 h3 h4=>by rw[hst];simpa using gK key u cs h1 h2 h3 h4
 clear hst gS gK gO gT g0 g1 g2 g3 gd gr
 obtain⟨R,hR⟩:∃R,R=loopM (onM (nxM c.g c.M) (comN c.g) c.most j) (nxM c.g c.M) w done (comN c.g) (vis++[w]):=⟨_,rfl⟩
 have hon:onM (nxM c.g c.M) (comN c.g) c.most (j+1) w done vis=R:=by rw[onM,if_neg hmost,hR]
 rw[hon]
 obtain⟨J,hJ⟩:∃J:Nat→St→Prop,J=fun i s=>s.tm 10=.int .i64 i∧(∃vis,WS c vis false s.ob s.nx∧R=loopM (onM (nxM c.g c.M) (comN c.g) c.most j) (nxM c.g c.M) w done (Qs c.g i) vis)∧c.Keep ob s.ob ub∧ub≤s.nx:=⟨_,rfl⟩
 refine jE [(8,13),(44,113)] c.g.ts.length J rfl rfl (by rw[hJ];exact⟨by simpa using a10,⟨_,aS,by rw[j32];exact hR⟩,aK,zO⟩) ?_
 clear aS aK an hS hW hSV hPv hlen hvl hdl hR hon hkk hks hml
 intro i s hi hJs f
 rw[hJ]at hJs
 obtain⟨s10,⟨vis,sS,sR⟩,sK,sn⟩:=hJs
 have s0:s.tm 0=.ptr c.kW c.uW 0:=by rw[f.t 0 zS,a0]
 have s1:s.tm 1=.osl (2*us+1) us 0 c.g.ts.length 1:=by rw[f.t 1 zS,a1]
 have s2:s.tm 2=dv:=by rw[f.t 2 zS,a2]
 have s3:s.tm 3=.int .i64 (comL c.g).length:=by rw[f.t 3 zS,a3]
 have sd:s.df=[]:=by rw[f.d,ad]
 have sr:s.ro=ro:=by rw[f.r,ar]
 clear f
 by_cases hlt:i<c.g.ts.length
 ·have hwk:=J0 hlt zO
  have f1:(c.g.ts.flatMap jl)[i*3+1]? = some (.int .i64 (c.g.ts[i]).f):=by rw[jh jA c.g.ts hlt (by decide:1<3)];rfl
  have hcm:X4 c.g i=((c.g.ts[i]).f == 1):=by simp[X4,hlt,JF]
  have hstep:=j33 hlt
  rw[hcm]at hstep
  have hT':=hT.keep hc sK sn
  have hO':=hO.keep hc sK sn
  have hia:=jyg (l:=2*us+1) (u:=us) (sz:=1) (kk:=.i64) hlt
  have m1:=ja3 (s:=w.testBit) hlt
  have hvl:=sS.len hc
  have hSb:=sS.b
  have hSd:=sS.d
  obtain⟨sv,P,hW,hSV,hPv⟩:=sS.w
  simp(disch:=first|(simp;done)|omega) [s10,s0,j1,hW,WC.cs,j2,hlt,j7 jA,f1]
  cases c1:((c.g.ts[i]).f == 1)
  ·have c2:((c.g.ts[i]).f != 1)=true:=by simpa using c1
   rw[c1,if_neg (by decide)]at hstep
   rw[hstep]at sR
   simp(disch:=first|(simp;done)|omega) [s10,hwk,hlt,c2]
   rw[hJ]
   exact⟨zS,⟨vis,sS.keep hc zO zL fun key _=>by simp,sR⟩,fun key u cs h1 h2 h3 h4=>by simpa using sK key u cs h1 h2 h3 h4,zL⟩
  have c2:((c.g.ts[i]).f != 1)=false:=by simpa using c1
  rw[c1,if_pos rfl]at hstep
  rw[hstep,loopM]at sR
  simp(disch:=first|(simp;done)|omega) [s10,s1,hia,j1,hT'.1,m1,c2]
  cases hb:w.testBit i
  ·simp(disch:=first|(simp;done)|omega) [s0,s1,s10,j1,hW,WC.cs,j2]
   refine J7 (vs:=[.agg (j2 c.g),jN c.mn intC c.M,.osl (2*us+1) us 0 c.g.ts.length 1,.int .i64 i]) (by simp[j2]) rfl (by simp[V.strip,V.strip1,V.pureTop,V.pureLeaf]) (evo83 hc.s hc.m (st:=fun a=>w.testBit a) (by simpa using hT'.1) (Off.new (by have:=hT'.2.2;first|omega|(simp;done)|(simp;omega))) hlt _ _) ?_
   rw[show jfo c.g c.M (fun a=>w.testBit a) i=nxM c.g c.M w i from rfl]
   cases hx:nxM c.g c.M w i
   ·rw[hb,hx,if_pos (by rfl)]at sR
    simp(disch:=first|(simp;done)|omega) [s10,hwk,hlt]
    rw[hJ]
    exact⟨zS,⟨vis,sS.keep hc zO zL fun key _=>by simp,sR⟩,fun key u cs h1 h2 h3 h4=>by simpa using sK key u cs h1 h2 h3 h4,zL⟩
   simp
   refine JO (cs:=[]) rfl rfl rfl ?_
   simp
   refine jbn fun q uq hq huq=>?_
   have q0:q.tm 0=.ptr c.kW c.uW 0:=by rw[hq];simp[s0]
   have q1:q.tm 1=.osl (2*us+1) us 0 c.g.ts.length 1:=by rw[hq];simp[s1]
   have q2:q.tm 2=dv:=by rw[hq];simp[s2]
   have q3:q.tm 3=.int .i64 (comL c.g).length:=by rw[hq];simp[s3]
   have q10:q.tm 10=.int .i64 i:=by rw[hq];simp[s10]
   have q85:q.tm 85=.osl (2*us+1) us 0 c.g.ts.length 1:=by rw[hq];simp[s1]
   have qd:q.df=[]:=by rw[hq];simp[sd]
   have qr:q.ro=ro:=by rw[hq];simp[sr]
   obtain⟨z,z1,z2,q84,qz,qo⟩:∃z,s.nx≤z∧z<uq∧q.tm 84=.osl (2*z+1) z 0 0 1∧q.ob (2*z+1)=some ⟨z,.cells []⟩∧∀key,Off s.nx key→q.ob key=s.ob key:=by
    refine⟨s.nx+2432,zO,zO,by rw[hq];simp[Nat.add_assoc],by rw[hq];simp[Nat.add_assoc],fun key hk=>?_⟩
    have:=hk.ne
    rw[hq]
    simp(disch:=first|(simp;done)|omega) [this]
   have huq:s.nx≤uq:=by omega
   clear hq
   have hus:=hT'.2.2
   have hqs:q.ob (2*us+1)=some ⟨us,.cells (mrkC c.g.ts.length w.testBit)⟩:=(qo _ (Off.new hus)).trans hT'.1
   have hne:mrkC c.g.ts.length w.testBit≠[]:=fun e=>h0 (by have:=Xd c.g.ts.length w.testBit;rw[e]at this;exact this.symm)
   refine XN (l:=2*z+1) (u:=z) (n:=0) (cs:=[]) (ys:=mrkC c.g.ts.length w.testBit) (by simp[q84]) (by simpa[q85] using jtb hqs) qz hne zO zS (by decide) (jjh _ _) (by rw[Xd];omega) (by rw[Xd];omega) ?_
   rw[Xd,Nat.div_one,Nat.zero_add]
   have hix:=jyg (l:=2*uq+1) (u:=uq) (sz:=1) (kk:=.i64) hlt
   simp(disch:=first|(simp;done)|omega) [q10,hix,j1,j6]
   refine⟨zO,by rw[Xd];omega,?_⟩
   refine jbn fun p up hp hup=>?_
   have p0:p.tm 0=.ptr c.kW c.uW 0:=by rw[hp];simp[q0]
   have p1:p.tm 1=.osl (2*us+1) us 0 c.g.ts.length 1:=by rw[hp];simp[q1]
   have p2:p.tm 2=dv:=by rw[hp];simp[q2]
   have p3:p.tm 3=.int .i64 (comL c.g).length:=by rw[hp];simp[q3]
   have p10:p.tm 10=.int .i64 i:=by rw[hp];simp[q10]
   have p11:p.tm 11=.osl (2*uq+1) uq 0 c.g.ts.length 1:=by rw[hp];simp
   have p90:p.tm 90=.ptr c.kW c.uW 0:=by rw[hp];simp[q0]
   have p91:p.tm 91=.osl (2*uq+1) uq 0 c.g.ts.length 1:=by rw[hp];simp
   have pd:p.df=[]:=by rw[hp];simp[qd]
   have pr:p.ro=ro:=by rw[hp];simp[qr]
   have px:p.ob (2*uq+1)=some ⟨uq,.cells (mrkC c.g.ts.length (w ||| 1 <<< i).testBit)⟩:=by
    rw[hp,← j2b hlt,List.set_eq_take_append_cons_drop,if_pos (by rw[Xd];exact hlt)]
    simp
   have po:∀key,Off s.nx key→p.ob key=s.ob key:=fun key hk=>by
    have:=hk.ne
    rw[hp]
    simp(disch:=first|(simp;done)|omega) [jZ,this]
    exact qo key hk
   have hup1:uq+512≤up:=by omega
   clear hp hup q0 q1 q2 q3 q10 q85 qd qr q84 qz qo hqs
   have hy:w ||| 1 <<< i<2 ^ c.g.ts.length:=Nat.or_lt_two_pow hw (by rw[Nat.one_shiftLeft];exact Nat.pow_lt_pow_right (by decide) hlt)
   rw[hb,hx]at sR
   generalize w ||| 1 <<< i=y at *
   have hlo:c.lo≤s.nx:=by omega
   have hWp:p.ob c.kW=some ⟨c.uW,.cells (c.cs sv false)⟩:=(po _ (hc.w.up hlo)).trans hW
   have hSVp:=hSV.frame (fun u _ h=>po _ (Off.new h)) (Nat.le_refl _)
   have hPl:P.length=vis.length:=by rw[← hPv];simp
   refine J7 (vs:=[.ptr c.kW c.uW 0,.osl (2*uq+1) uq 0 c.g.ts.length 1]) (by simp[p90,p91]) rfl rfl (evo126 zO (by simpa[WC.cs,j2] using hWp) hSVp zO px hy (fun x hx=>hSb _ (by rw[← hPv];exact List.mem_map_of_mem hx)) _ _ _) ?_
   rw[hPv]
   cases hv:vis.contains y
   ·rw[hv,if_neg (by decide)]at sR
    simp
    refine J6 (vs:=[dv]) (by simp[p2]) rfl (sv25d (lo:=c.lo) (hi:=s.nx) (done:=done) ((hO'.ord).frame (fun u _ h=>?_) (Nat.le_refl _)) zO zL (by first|omega|(simp[pr];omega))) ?_
    ·simpa using po _ (Off.new h)
    rintro v1 ob1 tk1 ub1 ⟨⟨m,m1,m2,m3,m4⟩,m5,m6,m7⟩
    simp only at m1 m2 m3 m4 m5 m6 m7
    subst m3
    rw[Xp]
    have hil:((ints done).flatMap intC).length=done.length:=by rw[j9 jG,Xp];omega
    simp[p10]
    refine JO (cs:=[.int .i64 (i:Int)]) (by simp[j6]) rfl rfl ?_
    simp
    refine XN (l:=2*m+1) (u:=m) (n:=done.length) (cs:=(ints done).flatMap intC) (ys:=[.int .i64 (i:Int)]) zS (by simp[jI,j1]) ?_ zS (by first|omega|(simp[pr];omega)) zO (by decide) rfl (by simp;omega) (by simp;omega) ?_
    ·have:¬ m=ub1+64:=by omega
     simp[two_inj,this]
     exact m4
    rw[List.take_of_length_le zO]
    simp[p3]
    refine jbn fun t ut ht hut=>?_
    have hmp:∀key,Off s.nx key→ob1 key=s.ob key:=fun key hk=>by
     rw[m5 key (fun x hx=>hk x zO)]
     simpa using po key hk
    have hmx:ob1 (2*uq+1)=some ⟨uq,.cells (mrkC c.g.ts.length y.testBit)⟩:=by
     rw[m5 _ (fun x hx=>by omega)]
     simpa using px
    have t0:t.tm 0=.ptr c.kW c.uW 0:=by rw[ht];simp[p0]
    have t10:t.tm 10=.int .i64 i:=by rw[ht];simp[p10]
    have t94:t.tm 94=.ptr c.kW c.uW 0:=by rw[ht];simp[p0]
    have t95:t.tm 95=.osl (2*uq+1) uq 0 c.g.ts.length 1:=by rw[ht];simp[p11]
    have t101:t.tm 101=.int .i64 (comL c.g).length:=by rw[ht];simp
    have td:t.df=[]:=by rw[ht];simp[pd]
    have tr:t.ro=ro:=by rw[ht];simp[pr]
    obtain⟨a,a1,a2,t100,ta⟩:∃a,ub1≤a∧a<ut∧t.tm 100=.osl (2*a+1) a 0 (done++[i]).length 1∧t.ob (2*a+1)=some ⟨a,.cells ((ints (done++[i])).flatMap intC)⟩:=by
     refine⟨ub1+128,zO,zO,by rw[ht];simp[Nat.add_assoc],by rw[ht];simp[Nat.add_assoc,ints,intC]⟩
    have hto:∀key,Off ub1 key→key≠2*m+1→t.ob key=ob1 key:=fun key hk h=>by
     have:=hk.ne
     rw[ht]
     simp(disch:=first|(simp;done)|omega) [jZ,this,h]
    have hut1:ub1+256≤ut:=by omega
    clear ht hut
    have hts:∀key,Off s.nx key→t.ob key=s.ob key:=fun key hk=>(hto key (hk.up zO) (hk m zO)).trans (hmp key hk)
    refine J6 (vs:=[.ptr c.kW c.uW 0,.osl (2*uq+1) uq 0 c.g.ts.length 1,.osl (2*a+1) a 0 (done++[i]).length 1,.int .i64 (comL c.g).length]) (by simp[t94,t95,t100,t101]) rfl
     (ih j rfl Yf y (done++[i]) vis _ uq t.ob t.tk t.ro _ ut (sS.keep hc hlo zO hts) (by simp;omega) hy (by simpa using hv) ⟨(hto _ (Off.new zO) zO).trans hmx,zO,zO⟩ (.inr ⟨a,rfl,ta,zO,zO⟩) zO zO zO) ?_
    rintro v2 ob2 tk2 ub2 ⟨⟨ov,b1,b2,b3⟩,b4,b5,b6⟩
    simp only at b1 b3 b4 b5 b6
    subst b1
    have hKa:c.Keep ob ob2 ub:=sK.trans (fun key u cs h1 h2 h3 h4=>(b5 key u cs (h1.up zO) h2 ((hts key h1).trans h3) h4).trans (hts key h1)) sn
    rcases hon2:onM (nxM c.g c.M) (comN c.g) c.most j y (done++[i]) vis with⟨o,sp,vv⟩
    rw[hon2]at b2 b3 b6 sR
    simp only at b2 b3 b6
    cases o with
    | some l=>
     have sR:R=(some l,sp,vv):=sR
     simp
     refine jgt (by simp[td]) ?_
     rw[sR]
     exact⟨⟨ov,zS,fun h=>(by cases h),fun l' h=>(b3 l' h).keep hc (fun key u cs h1 h2 h3 h4=>by simp) zL⟩,zL,fun key u cs h1 h2 h3 h4=>by simpa using hKa key u cs h1 h2 h3 h4,b6.keep hc zO zL fun key _=>by simp⟩
    | none=>
     have:=b2 rfl
     subst this
     obtain⟨sv2,P2,hW2,_,_⟩:=b6.w
     cases sp with
     | true=>
      have sR:R=(none,true,vv):=sR
      simp(disch:=first|(simp;done)|omega) [t0,j1,hW2,WC.cs,j2]
      refine jgt (by simp[td]) ?_
      rw[sR]
      exact⟨⟨.sl none true 0 [],zS,fun _=>rfl,fun l' h=>(by cases h)⟩,zL,fun key u cs h1 h2 h3 h4=>by simpa using hKa key u cs h1 h2 h3 h4,b6.keep hc zO zL fun key _=>by simp⟩
     | false=>
      have sR:R=loopM (onM (nxM c.g c.M) (comN c.g) c.most j) (nxM c.g c.M) w done (Qs c.g (i+1)) vv:=sR
      simp(disch:=first|(simp;done)|omega) [t0,t10,j1,hW2,WC.cs,j2,hwk,hlt]
      rw[hJ]
      exact⟨zS,⟨vv,b6.keep hc zO zL fun key _=>by simp,sR⟩,fun key u cs h1 h2 h3 h4=>by simpa using hKa key u cs h1 h2 h3 h4,zL⟩
   ·rw[hv,if_pos (by rfl)]at sR
    simp(disch:=first|(simp;done)|omega) [p10,hwk,hlt]
    rw[hJ]
    exact⟨zS,⟨vis,sS.keep hc zO zL fun key hk=>by simpa using po key hk,sR⟩,fun key u cs h1 h2 h3 h4=>by simpa using(po key (h1.up sn)).trans (sK key u cs h1 h2 h3 h4),zL⟩
  ·rw[hb,Bool.true_or,if_pos rfl]at sR
   simp(disch:=first|(simp;done)|omega) [s10,hwk,hlt]
   rw[hJ]
   exact⟨zS,⟨vis,sS.keep hc zO zL fun key _=>by simp,sR⟩,fun key u cs h1 h2 h3 h4=>by simpa using sK key u cs h1 h2 h3 h4,zL⟩
 ·have:i=c.g.ts.length:=by omega
  subst this
  rw[cm_end,loopM]at sR
  obtain⟨sv,P,hW,hSV,hPv⟩:=sS.w
  simp(disch:=first|(simp;done)|omega) [s10,s0,j1,hW,WC.cs,j2]
  refine jgt (by simp[sd]) ?_
  rw[sR]
  exact⟨⟨.sl none true 0 [],zS,fun _=>rfl,fun l h=>(by cases h)⟩,zL,fun key u cs h1 h2 h3 h4=>by simpa using sK key u cs h1 h2 h3 h4,sS.keep hc zO zL fun key _=>by simp⟩
theorem sv79 (hc:c.Ok) (k:Nat):OnP2 c k:=by
 induction k with
 | zero=>exact jnk hc 0 fun j h=>by omega
 | succ k ih=>
  refine jnk hc (k+1) fun j h=>?_
  have:j=k:=by omega
  exact this▸ih
end
theorem jxd (n:Nat):(List.replicate n false).map V.bool=mrkC n (Nat.testBit 0):=by
 apply List.ext_getElem?
 intro i
 by_cases hi:i<n
 ·rw[ja3 hi]
  simp[hi]
 ·rw[List.getElem?_eq_none (by simp;omega),List.getElem?_eq_none (by rw[Xd];omega)]
section
variable {g:Hist'}{M:List Int}
set_option maxHeartbeats 4000000 in
theorem ev35 (hs:Small g) (h8:g.ts.length≤8) {mn:Bool}(hM:M.length≤1000000) (most:Int):∃v,Ev E 35 [.agg (j2 g),jN mn intC M,.int .i64 most] v∧jon (jcu g M most) v:=by
 have e21:=ev21 hs
 have e22:=ev22 hs (b:=mn) M zO
 have e39:=ev39 g zO
 rw[show numsTo JF g.ts g.ts.length=comL g from rfl]at e39
 refine YE (af:=F35) rfl (by decide) ?_
 simp(disch:=first|(simp;done)|omega) [F35,j1,j2]
 refine jV e21 (by simp[j2]) rfl (by simp[j2]) ?_
 unfold jcu
 cases hw:JC g
 ·simp
  exact XD zS zS zS zS
 simp(disch:=first|(simp;done)|omega) [j1,jN]
 refine jV e22 (by simp[j2,jN]) rfl (by simp[j2,jN]) ?_
 cases hm:Ws g M
 ·simp(disch:=first|(simp;done)|omega)
  exact XD zS zS zS zS
 by_cases hmo:most<0
 ·simp(disch:=first|(simp;done)|omega) [hmo]
  exact XD zS zS zS zS
 simp(disch:=first|(simp;done)|omega) [hmo,j1,j6]
 refine jlv (n:=g.ts.length) zS zS zO zO rfl (by decide) ?_
 rw[jf7,jxd]
 simp(disch:=first|(simp;done)|omega) [j1]
 refine j94 e39 (by simp[j2,jN]) rfl (by simp[j2,jN]) fun u1 _=>?_
 simp
 refine⟨by simp[Jo,QC,jc5,jbe,rdOb,rdTk,lOf,Delta.wo,Delta.wt];rfl,?_⟩
 obtain⟨c,hcd⟩:∃c:WC,c=⟨g,M,mn,most,2433,1216,1280⟩:=⟨_,rfl⟩
 have hc:c.Ok:=by
  rw[hcd]
  exact⟨hs,hm,h8,fun m (hm:1280≤m)=>by show(2433:Nat)≠2*m+1;omega⟩
 refine J6 (vs:=[.ptr 2433 1216 0,.osl (2*1600+1) 1600 0 g.ts.length 1,.sl none true 0 [],.int .i64 (comL g).length]) zS rfl (by
  have h:=sv79 hc (comN g).length YC 0 [] [] (.sl none true 0 []) 1600
  rw[hcd]at h
  exact h _ _ _ _ _ ⟨⟨.sl none true 0 [],[],by simp[WC.cs,j2,jN],⟨fun p hp=>(by cases hp),.inl ⟨rfl,rfl⟩⟩,rfl⟩,fun v hv=>(by cases hv),List.nodup_nil⟩ zS (Nat.two_pow_pos _) zS ⟨zS,Nat.le_of_ble_eq_true rfl,Nat.le_of_ble_eq_true rfl⟩ (.inl ⟨rfl,rfl⟩) (Nat.le_of_ble_eq_true rfl) zS zS) ?_
 rintro v3 ob3 tk3 ub3 ⟨⟨ov,r1,r2,r3⟩,r4,r5,r6⟩
 simp only at r1 r3 r4 r6
 subst r1
 rw[show onM (nxM g M) (comN g) most (comN g).length 0 [] []=WF g M most from rfl]at r2 r3 r6 ⊢
 obtain⟨sv,P,hW,hSV,hPv⟩:=r6.w
 have hlen:=hSV.len
 have hvl:P.length=(WF g M most).2.2.length:=by rw[← hPv];simp
 rw[hvl]at hlen
 simp only[WC.cs,j2]at hW
 generalize WF g M most=R at *
 obtain⟨o,sp,vis⟩:=R
 simp only at r2 r3 hlen hW
 simp(disch:=first|(simp;done)|omega)
 refine⟨by simp[Jo,QC,jc5,rdOb,rdTk],?_⟩
 cases sp with
 | true=>
  simp(disch:=first|(simp;done)|omega) [j1,hW,hlen]
  exact XD zS zS zS zS
 | false=>
  cases o with
  | none=>
   simp(disch:=first|(simp;done)|omega) [j1,hW,hlen]
   exact XD zS zS zS zS
  | some l=>
   have hO:=(r3 l rfl).ord
   simp(disch:=first|(simp;done)|omega) [j1,hW,hlen]
   exact jj1 zS zS zS zS (hO.frame (fun _ _ _=>by simp) (Nat.le_refl _)) zS
end
theorem jyl (g:Hist') (M:List Int) (most:Int):(jcu g M most).1.length≤g.ts.length:=by
 unfold jcu
 split
 ·simp
 split
 ·simp
 rename_i h1 h2
 have hm:Ws g M=true:=by
  cases hm:Ws g M
  ·simp[hm]at h2
  ·rfl
 split
 ·simp
 cases h:(WF g M most).1 with
 | none=>simp
 | some l=>
  have:=(W7 (jqb hm h)).length_eq
  have:=Qa g
  simp only
  omega
set_option maxHeartbeats 1000000 in
theorem ev9 (h:Hist') {nl:Bool}(M:List Int) (most:Int):Ev E 9 [.agg (j2 h),jN nl intC M,.int .i64 most] (.bool true):=by
 obtain⟨r,ev,hr⟩:=ev15 h
 obtain⟨r2,ev2,hr2⟩:=ev15 (QX h)
 rw[jyq]at hr2
 have hs:=j5o h
 have h8:=j3o h
 generalize QX h=g at *
 have hm1:jbx false [.int .i64 (M.length:Int),.int .i64 60]=some (.int .i64 ((min M.length 60:Nat):Int)):=jei M.length 60
 have hk1:min M.length 60≤M.length:=Nat.min_le_left _ _
 have hk3:min M.length 60≤60:=Nat.min_le_right _ _
 generalize min M.length 60=k1 at *
 have hs1:=jro jG none nl M hk1
 have l1:(M.take k1).length≤60:=by rw[List.length_take];omega
 generalize M.take k1=M' at *
 obtain⟨vm,evm,hvm⟩:=ev25 nl M' zO
 obtain⟨vm2,evm2,hvm2⟩:=ev25 false M' zO
 obtain⟨v34,e34,n34,h34,hv34⟩:=ev34 hs h8 (mn:=false) (M:=M') zO most
 obtain⟨v35,e35,n35,h35,hv35⟩:=ev35 hs h8 (mn:=false) (M:=M') zO most
 have hfl:=jyl g M' most
 generalize jcu g M' most=R at *
 obtain⟨fo,fn,fe⟩:=R
 simp only at hv34 hv35 hfl
 have e32:=ev32 (a:=n34) (b:=n35) fo fo zO zO
 rw[show(fo == fo)=true from by simp]at e32
 refine jU (af:=F9) rfl ?_
 simp[F9,j2,j1]
 refine Xy ev (by simp[j2,jN]) rfl (by simp[j2,jN]) ?_
 refine jrz hr fun a1 b1 c1 add1=>?_
 simp[hm1,hs1,jN]
 refine Xy evm (by simp[jN]) rfl (by simp[jN]) ?_
 refine Qg hvm fun a2 add2=>?_
 simp[j1,j6]
 refine jV ev2 (by simp[j2,jN]) rfl (by simp[j2,jN]) ?_
 refine jrz hr2 fun a4 b4 c4 add4=>?_
 simp
 refine jV evm2 (by simp[jN]) rfl (by simp[jN]) ?_
 refine Qg hvm2 fun a5 add5=>?_
 simp
 refine jV e34 (by simp[j2,jN]) rfl (by simp[j2,jN]) ?_
 refine jm2 hv34 rfl fun ws add hws=>?_
 obtain⟨x,y,z,rfl,h1,h2,h3⟩:=map3 hws
 obtain⟨t1,rfl⟩:=Wv h1
 obtain rfl:=YJ h2
 obtain rfl:=YJ h3
 simp[j1]
 refine jV e35 (by simp[j2,jN]) rfl (by simp[j2,jN]) ?_
 refine jm2 hv35 rfl fun ws2 add2 hws2=>?_
 obtain⟨x2,y2,z2,rfl,h4,h5,h6⟩:=map3 hws2
 obtain⟨t2,rfl⟩:=Wv h4
 obtain rfl:=YJ h5
 obtain rfl:=YJ h6
 simp
 refine jV e32 (by simp[jN]) rfl (by simp[jN]) ?_
 simp
 refine jV ev36 zS rfl zS ?_
 simp
 exact j4 rfl zS rfl
end Go.Pv.T
namespace Go.Pv.T
open Go Go.Pv Go.Proofs Go.Shelf
def renS:Ren where
 f:=fun x=>match x with
  | 189=>69
  | 125=>118
  | 257=>117
  | 128=>187
  | 129=>188
  | 294=>178
  | 295=>179
  | 296=>180
  | 297=>181
  | 298=>182
  | 299=>183
  | 216=>184
  | 300=>185
  | 301=>186
  | 328=>238
  | 329=>239
  | 330=>240
  | 331=>241
  | 332=>242
  | 215=>243
  | 343=>275
  | n=>n
 t:=fun x=>match x with
  | 28=>26
  | 3=>3
  | 46=>160
  | 0=>0
  | 51=>236
  | 53=>165
  | 4=>4
  | 183=>230
  | 182=>229
  | 131=>157
  | 5=>5
  | 9=>9
  | 218=>275
  | 222=>279
  | 228=>307
  | 229=>304
  | n=>n
 g:=fun x=>x
theorem j9u:Lays.n189 Tryz.prog renS where
 mixed:=by kernel_rfl
 f125:=Tryz.func118.trans (congrArg some (by kernel_rfl))
 f128:=Tryz.func187.trans (congrArg some (by kernel_rfl))
 f129:=Tryz.func188.trans (congrArg some (by kernel_rfl))
 f189:=Tryz.func69.trans (congrArg some (by kernel_rfl))
 f215:=Tryz.func243.trans (congrArg some (by kernel_rfl))
 f216:=Tryz.func184.trans (congrArg some (by kernel_rfl))
 f257:=Tryz.func117.trans (congrArg some (by kernel_rfl))
 f294:=Tryz.func178.trans (congrArg some (by kernel_rfl))
 f295:=Tryz.func179.trans (congrArg some (by kernel_rfl))
 f296:=Tryz.func180.trans (congrArg some (by kernel_rfl))
 f297:=Tryz.func181.trans (congrArg some (by kernel_rfl))
 f298:=Tryz.func182.trans (congrArg some (by kernel_rfl))
 f299:=Tryz.func183.trans (congrArg some (by kernel_rfl))
 f300:=Tryz.func185.trans (congrArg some (by kernel_rfl))
 f301:=Tryz.func186.trans (congrArg some (by kernel_rfl))
 f328:=Tryz.func238.trans (congrArg some (by kernel_rfl))
 f329:=Tryz.func239.trans (congrArg some (by kernel_rfl))
 f330:=Tryz.func240.trans (congrArg some (by kernel_rfl))
 f331:=Tryz.func241.trans (congrArg some (by kernel_rfl))
 f332:=Tryz.func242.trans (congrArg some (by kernel_rfl))
 f343:=Tryz.func275.trans (congrArg some (by kernel_rfl))
 t0:=Tryz.underlying0
 a0:=Tryz.isAgg0
 z0:=Tryz.sizeOf0
 v0:=Tryz.zeroValue0
 t3:=Tryz.underlying3
 a3:=Tryz.isAgg3
 z3:=Tryz.sizeOf3
 v3:=Tryz.zeroValue3
 t4:=Tryz.underlying4
 a4:=Tryz.isAgg4
 z4:=Tryz.sizeOf4
 v4:=Tryz.zeroValue4
 t5:=Tryz.underlying5
 a5:=Tryz.isAgg5
 z5:=Tryz.sizeOf5
 v5:=Tryz.zeroValue5
 t9:=Tryz.underlying9
 a9:=Tryz.isAgg9
 z9:=Tryz.sizeOf9
 v9:=Tryz.zeroValue9
 t28:=Tryz.underlying26
 a28:=Tryz.isAgg26
 z28:=Tryz.sizeOf26
 v28:=Tryz.zeroValue26
 t46:=Tryz.underlying160
 a46:=Tryz.isAgg160
 z46:=Tryz.sizeOf160
 v46:=Tryz.zeroValue160
 t51:=Tryz.underlying236
 a51:=Tryz.isAgg236
 z51:=Tryz.sizeOf236
 v51:=Tryz.zeroValue236
 t53:=Tryz.underlying165
 a53:=Tryz.isAgg165
 z53:=Tryz.sizeOf165
 v53:=Tryz.zeroValue165
 t131:=Tryz.underlying157
 a131:=Tryz.isAgg157
 z131:=Tryz.sizeOf157
 v131:=Tryz.zeroValue157
 t182:=Tryz.underlying229
 a182:=Tryz.isAgg229
 z182:=Tryz.sizeOf229
 v182:=Tryz.zeroValue229
 t183:=Tryz.underlying230
 a183:=Tryz.isAgg230
 z183:=Tryz.sizeOf230
 v183:=Tryz.zeroValue230
 t218:=Tryz.underlying275
 a218:=Tryz.isAgg275
 z218:=Tryz.sizeOf275
 v218:=Tryz.zeroValue275
 t222:=Tryz.underlying279
 a222:=Tryz.isAgg279
 z222:=Tryz.sizeOf279
 v222:=Tryz.zeroValue279
 t228:=Tryz.underlying307
 a228:=Tryz.isAgg307
 z228:=Tryz.sizeOf307
 v228:=Tryz.zeroValue307
 t229:=Tryz.underlying304
 a229:=Tryz.isAgg304
 z229:=Tryz.sizeOf304
 v229:=Tryz.zeroValue304
theorem jrk:jmk Tryz.prog 69:=by
 refine⟨⟨Tryz.f69,_,Tryz.func69,rfl,by kernel_rfl⟩,fun p cap w=>?_,fun blk off cap zs w h1 h2 h3=>?_⟩
 ·exact Any.slices_Sort_int_none j9u p cap w
 ·exact Any.slices_Sort_int j9u blk off cap zs w h1 h2 h3
end Go.Pv.T
namespace Go.Pv.T
open Go Go.Pv Go.Proofs
theorem j2a (p:Option Addr) (cap:Nat) (w:World):Calls Tryz.prog 78 #[.slice p 0 cap] w fun e w'=>e=.returned (.pointer (some ⟨w.heap.size,0,none⟩))∧∃t,w'=w.alloc (.cells #[.int .u64 0,.int .u64 0,.int .u64 0,.int .u64 0,.int .u64 0,.int .u64 0,.int .u64 0,.int .u64 0] t):=by
 go_enter Tryz.func78,Tryz.ntmps78
 go_wp2
 refine wp_loop_rounds 1 ?_
 rw[rounds_succ]
 go_wp2
 go_ret
 exact⟨rfl,_,rfl⟩
theorem mkLaw:j4o Tryz.prog 78 j5u:=by
 refine⟨⟨_,_,Tryz.func78,rfl,by kernel_rfl⟩,fun p cap w=>(j2a p cap w).mono ?_⟩
 rintro e w' ⟨rfl,t,rfl⟩
 refine⟨rfl,_,t,rfl,rfl,fun j x v hx hv=>?_⟩
 match j with
 | 0|1|2|3|4|5|6|7=>
  simp[j5u]at hx hv
  subst hx hv
  exact⟨rfl,fun I=>.int _ _⟩
 | j+8=>simp[j5u]at hv
end Go.Pv.T
