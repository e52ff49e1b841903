/- The judge: a read is right. -/
import Derived.Test.YtphecmnehkdihaaGreatDoorSE
import Derived.Shelf.Sort.Plain
import Derived.Shelf.Slices.In.SortNone
import Derived.Test.YtphecmnehkdihaaGreatDoorRows
import Derived.Test.YtphecmnehkdihaaGreatDoorTie
import Derived.ProofKit
import Derived.LaidMore
import Derived.OpenShut
import Derived.Stop.Joined
import Derived.SizedLaws
import Derived.Carry
import Derived.Handed
import Derived.ChangeSame
namespace Go.Pv.T
open Go Go.Pv
theorem two_inj {a b:Nat}:(2 * a=2 * b)=(a=b):=propext ⟨fun h=>by omega,fun h=>by rw [h]⟩
theorem jtk {l u o:Nat}:(V.ptr l u o).leaf=true:=rfl
set_option maxRecDepth 100000 in
theorem evo67 {g:Hist'} (hs:Small g) (hmay:X6 g=true) {lvl:Int} {M O:List Int} {N:JN} {ob:Nat→Option Obj'} {ub:Nat} (hJ:Jd g lvl M O N ob ub) (hm:jbr g M=true) (ho:jk g O=true) {q:Nat} (hq:q<(readH g).length) (tk:Nat→Bool) (base:Nat) :
 EvO E 67 [.ptr N.kJ N.uJ 0,.int .i64 (q:Int)] ob tk base ub (.bool (QY g lvl M O q)):=by
 have hR:=Jo hs
 have hM:=jap hm
 have hqM:q<M.length:=by omega
 refine Xn (af:=S67) rfl ?_
 have hj:=hJ.j
 have gJ:∀ m,ub≤m→¬ N.kJ=2 * m+1:=hJ.fj
 obtain ⟨ver,hA⟩:=hJ.a
 have gA:∀ m,ub≤m→¬ N.kA=2 * m+1:=hJ.fa
 have hix:=Jq jX N.tr N.nr (readH g) .i64 hq
 have hpa:=fun ob=>Yz (readH g) ob hq
 have hmi:=JL M hqM
 have hl:∀ (ob':Nat→Option Obj') (x:Int),ob' N.kA=ob N.kA→(x = -1∨x∈comL g)→YP ob' .int (.int .i64 0) false (.map N.kA N.uA) (.int .i64 x)=some (.int .i64 (atO O x)):=fun ob' x h hx=>by
  rw [Xu (atM O O.length) (by simp [jd,h,hA]),jl5 ho hx]
 have hx1:M[q] = -1∨M[q]∈comL g:=jf0 hm (List.getElem_mem hqM)
 have hx2:((readH g)[q]).1 = -1∨((readH g)[q]).1∈comL g:=.inr (Yx (List.getElem_mem hq))
 have hr:QY g lvl M O q=(decide (atO O M[q]<atO O ((readH g)[q]).1) && (comL g).all fun t=>!Jn g lvl M O (readH g)[q] t || okB g O (readH g)[q] M[q] t):=by
  unfold QY
  rw [List.getElem?_eq_getElem hq,List.getElem?_eq_getElem hqM]
 rw [hr]
 have bJ:∀ m,ub≤m→Nat.beq N.kJ (2 * m+1)=false:=fun m h=>YS (gJ m h)
 simp (disch:=first | (simp;done) | omega) [S67,j2,hj,gJ,hix,hpa,j7 jD,hmi,splice,X5,Wv,jdr,jaz,rdOb,rdTk,lOf,Delta.wo,Delta.wt,bJ,V.cells,Nat.add_assoc,two_inj,jtk]
 refine ⟨⟨YS (by omega),YS (by omega),YS (by omega),YS (by omega)⟩,?_⟩
 rw [hl _ _ (by simp (disch:=first | (simp;done) | omega) [gA]) hx1]
 simp (disch:=first | (simp;done) | omega) [j2,hj,gJ,Nat.add_assoc,two_inj]
 rw [hl _ _ (by simp (disch:=first | (simp;done) | omega) [gA]) hx2]
 simp
 by_cases hc:atO O M[q]<atO O ((readH g)[q]).1
 ·have h1:¬ atO O ((readH g)[q]).1≤atO O M[q]:=by omega
  simp (disch:=first | (simp;done) | omega) [h1,hc,Nat.add_assoc,j2,two_inj]
  obtain ⟨pr,hpr⟩:∃ pr:Nat→Bool,pr=fun t:Nat=>okB g O (readH g)[q] M[q] t:=⟨_,rfl⟩
  have hJn:∀ (ob':Nat→Option Obj') (ub':Nat),Was ub ob ob'→ub≤ub'→Jd g lvl M O N ob' ub':=fun _ _ h h'=>hJ.keep h h'
  refine JS (vs:=[.ptr N.kJ N.uJ 0,.int .i64 (q:Int),.fn (.func 115) [] [.ptr (2 * ub+1) ub 0,.ptr (2 * (ub+1024)+1) (ub+1024) 0,.ptr (2 * (ub+1088)+1) (ub+1088) 0]]) (by simp) rfl (sv72 hs (jc4 hm) (hJn _ _ (fun key hk=>by simp (disch:=first | (simp;done) | omega) [show ∀ m,ub≤m→¬ key=2 * m+1 from hk]) (by omega)) hM ho hq rfl rfl pr ?_ (by simp)) ?_
  ·intro t ht ob' ub' tk' base' hW hu
   rw [hpr]
   refine j6u hs (hJn _ _ ?_ (by omega)) hmay ho hq hx1 ht ((hW _ ?_).trans ?_) ((hW _ ?_).trans ?_) ((hW _ ?_).trans ?_) (fun m hm=>by omega) (fun m hm=>by omega) (fun m hm=>by omega) _ _
   ·exact fun key hk=>(hW key (hk.up (by omega))).trans (by simp (disch:=first | (simp;done) | omega) [show ∀ m,ub≤m→¬ key=2 * m+1 from hk])
   all_goals first | exact fun m hm=>by omega | skip
   all_goals simp (disch:=first | (simp;done) | omega) [two_inj]
  ·rintro v ob1 tk1 ub1 ⟨e1,e2,e3⟩
   simp only at e1 e2 e3
   subst e1
   have e:(comL g).all (fun t=>!Jn g lvl M O (readH g)[q] t || pr t.toNat)=(comL g).all fun t=>!Jn g lvl M O (readH g)[q] t || okB g O (readH g)[q] M[q] t:=by
    rw [Bool.eq_iff_iff,List.all_eq_true,List.all_eq_true]
    refine forall_congr' fun t=>forall_congr' fun ht=>?_
    obtain ⟨n,rfl,_⟩:=comL_mem.1 ht
    rw [hpr];rfl
   rw [e]
   simp
   exact j4 (by simp) (by simp) rfl
 ·have h1:atO O ((readH g)[q]).1≤atO O M[q]:=by omega
  simp [h1,hc]
  exact j4 (by simp) (by simp) rfl
end Go.Pv.T

/- The judge: the sessions. -/
namespace Go.Pv.T
open Go Go.Pv
theorem andF (f:Nat→Bool) {n k:Nat} (h:k<n) (hf:f k=false):Ji f n=false:=by
 induction n with
 | zero=>omega
 | succ n ih =>
  rw [Ji]
  rcases Nat.lt_succ_iff_lt_or_eq.1 h with h1 | h1
  ·rw [ih h1,Bool.false_and]
  ·rw [← h1,hf,Bool.and_false]
set_option maxRecDepth 100000 in
theorem evo66 {g:Hist'} (hs:Small g) {lvl:Int} {M O:List Int} {N:JN} {ob:Nat→Option Obj'} {ub:Nat} (hJ:Jd g lvl M O N ob ub) (hw:jm g=true) (ho:jk g O=true) (tk:Nat→Bool) (base:Nat) :
 EvO E 66 [.ptr N.kJ N.uJ 0] ob tk base ub (.bool (Ji (jku g O) (comL g).length)):=by
 refine Xn (af:=S66) rfl ?_
 have hj:=hJ.j
 have gJ:∀ m,ub≤m→¬ N.kJ=2 * m+1:=hJ.fj
 obtain ⟨vc,evc,hvc⟩:=j1j hs
 rw [WX hw] at hvc
 have hcl:=WA g
 have hts:=hs.ts
 simp (disch:=first | (simp;done) | omega) [S66,j2,hj,gJ]
 refine jL evc (by simp [j3]) rfl (by simp [j3]) ?_
 refine XH hvc fun tc addc=>?_
 simp
 refine jz fun st hst=>?_
 obtain ⟨u3,hu3⟩:∃ u3,u3=ub+64:=⟨_,rfl⟩
 obtain ⟨k3,hk3⟩:∃ k3,k3=2 * u3+1:=⟨_,rfl⟩
 have g0:st.tm 0 = .ptr N.kJ N.uJ 0:=by rw [hst];simp
 have g3:st.tm 3 = .map k3 u3:=by rw [hst,hk3,hu3];simp
 have g14:st.tm 14 = .sl tc (comL g).isEmpty (comL g).length ((comL g).flatMap intC):=by rw [hst];simp
 have g15:st.tm 15 = .int .i64 (comL g).length:=by rw [hst];simp
 have g16:st.tm 16 = .int .i64 0:=by rw [hst];simp
 have gd:st.df=[]:=by rw [hst];simp
 have gr:st.ro=ub:=by rw [hst];simp
 have go:∃ ver,st.ob k3=some ⟨u3,.mp ver (MP jbg (jg8 g O 0))⟩:=⟨0,by rw [hst,hk3,hu3];simp (disch:=first | (simp;done) | omega) [MP,jg8]⟩
 have gn:u3<st.nx:=by rw [hst,hu3];simp
 have gj:Was ub ob st.ob:=fun key hk=>by rw [hst];simp (disch:=first | (simp;done) | omega) [show ∀ m,ub≤m→¬ key=2 * m+1 from hk]
 clear hst
 have hu3':ub≤u3:=by omega
 clear hu3
 refine jB [(2,2),(5,8),(16,64)] (comL g).length (fun k x=>x.tm 16 = .int .i64 k∧Ji (jku g O) k=true∧Was ub ob x.ob∧(∃ ver,x.ob k3=some ⟨u3,.mp ver (MP jbg (jg8 g O k))⟩)∧u3<x.nx) rfl rfl ⟨by simpa using g16,rfl,gj,go,gn⟩ ?_
 rintro k x hk ⟨x16,hall,xw,⟨ver,xo⟩,xn⟩ f
 have xj:Jd g lvl M O N x.ob x.nx:=hJ.keep xw (by omega)
 have x0:x.tm 0 = .ptr N.kJ N.uJ 0:=by rw [f.t 0 (by simp)];simp [g0]
 have x3:x.tm 3 = .map k3 u3:=by rw [f.t 3 (by simp)];simp [g3]
 have x14:x.tm 14 = .sl tc (comL g).isEmpty (comL g).length ((comL g).flatMap intC):=by rw [f.t 14 (by simp)];simp [g14]
 have x15:x.tm 15 = .int .i64 (comL g).length:=by rw [f.t 15 (by simp)];simp [g15]
 have xd:x.df=[]:=by rw [f.d];simp [gd]
 have xr:x.ro=ub:=by rw [f.r];simp [gr]
 clear f
 have f3:∀ m,x.nx≤m→¬ k3=2 * m+1:=fun m hm=>by omega
 have fj:∀ m,x.nx≤m→¬ N.kJ=2 * m+1:=xj.fj
 have oj:=xj.j
 by_cases hlt:k<(comL g).length
 ·have hwk:=jl hlt (by omega)
  have ix:JH 1 (.sl tc (comL g).isEmpty (comL g).length ((comL g).flatMap intC)) (.int .i64 (k:Int))=some (.eptr ((comL g).flatMap intC) k):=by have:=Jq jD tc (comL g).isEmpty (comL g) .i64 hlt;rwa [Nat.mul_one] at this
  have h1:=JL (comL g) hlt
  obtain ⟨t,et,ht⟩:=comL_mem.1 (List.getElem_mem hlt)
  rw [et] at h1
  have hgd:(comL g).getD k 0=(t:Int):=by rw [jr hlt,et]
  have htl:=Jt ht
  have hsl:(g.ts.flatMap txnC)[t * 3]? = some (.int .i64 (Jc g t)):=by
   have:=je j9 g.ts htl (by decide:0<3)
   rw [Nat.add_zero] at this
   rw [this]
   simp [txnC,Jc,htl]
  have hlk:=je6 (f:=jbg) (ob:=x.ob) (l:=k3) (u:=u3) (z:=.int .i64 0) (ok:=true) (k:=Jc g t) (jg8 g O k) (by simp [jd,xo])
  obtain ⟨va,hA⟩:=xj.a
  have hat:=xj.map ho (.inr (comL_mem.2 ⟨t,rfl,ht⟩))
  obtain ⟨vb,evb,hvb⟩:=ev114 hs (t:Int)
  have hsg:jku g O k=(!((jw (jg8 g O k) (Jc g t)).any fun x=>decide (atO O (t:Int)<x.2)) && (QO g (t:Int)).isEmpty):=by
   unfold jku
   rw [hgd];rfl
  have hnext:jg8 g O (k+1)=jam (jg8 g O k) (Jc g t) (atO O (t:Int)):=by
   rw [jg8,hgd];rfl
  cases hmf:jw (jg8 g O k) (Jc g t) with
  | none =>
   rw [hmf] at hlk hsg
   simp only [if_true] at hlk
   simp (disch:=first | (simp;done) | omega) [x16,x15,x14,hlt,ix,h1,x0,j2,oj,j7 j9,hsl,x3,hlk]
   refine jL evb (by simp [j3]) rfl (by simp [j3]) ?_
   refine XH hvb fun tb addb=>?_
   simp
   by_cases hb:QO g (t:Int)=[]
   ·rw [hb] at hsg ⊢
    simp (disch:=first | (simp;done) | omega) [x3,x0,hat,j2,oj]
    refine Yc (f:=jbg) (a:=atO O (t:Int)) (ver:=ver) (l:=k3) (u:=u3) (k:=Jc g t) (jg8 g O k) (by simp) (by simp) (by simp [jbg]) (by simp [xo]) (by simp [xr];omega) ?_
    simp (disch:=first | (simp;done) | omega) [x16,hlt,hwk,Ji,hall,hsg,hnext]
    exact ⟨fun key hk=>(by simp (disch:=first | (simp;done) | omega) [show ∀ m,ub≤m→¬ key=2 * m+1 from hk,hk3,xw key hk]),by omega⟩
   ·have h0:0<(QO g (t:Int)).length:=List.length_pos_iff.2 hb
    have hb':(QO g (t:Int)).isEmpty=false:=by simpa using hb
    rw [hb',Bool.and_false] at hsg
    simp [h0]
    exact j4 (by simp [xd]) (by simp [andF (jku g O) hlt hsg]) rfl
  | some p =>
   rw [hmf] at hlk hsg
   simp only [if_true,jbg] at hlk
   by_cases hp:atO O (t:Int)<p.2
   ·have hsg':jku g O k=false:=by rw [hsg];simp [hp]
    simp (disch:=first | (simp;done) | omega) [x16,x15,x14,hlt,ix,h1,x0,j2,oj,j7 j9,hsl,x3,hlk,hat,hp]
    exact j4 (by simp [xd]) (by simp [andF (jku g O) hlt hsg']) rfl
   ·have hp':decide (atO O (t:Int)<p.2)=false:=by simpa using hp
    rw [Option.any_some] at hsg
    simp only [hp'] at hsg
    simp (disch:=first | (simp;done) | omega) [x16,x15,x14,hlt,ix,h1,x0,j2,oj,j7 j9,hsl,x3,hlk,hat,hp]
    refine jL evb (by simp [j3]) rfl (by simp [j3]) ?_
    refine XH hvb fun tb addb=>?_
    simp
    by_cases hb:QO g (t:Int)=[]
    ·rw [hb] at hsg ⊢
     simp (disch:=first | (simp;done) | omega) [x3,x0,hat,j2,oj]
     refine Yc (f:=jbg) (a:=atO O (t:Int)) (ver:=ver) (l:=k3) (u:=u3) (k:=Jc g t) (jg8 g O k) (by simp) (by simp) (by simp [jbg]) (by simp [xo]) (by simp [xr];omega) ?_
     simp (disch:=first | (simp;done) | omega) [x16,hlt,hwk,Ji,hall,hsg,hnext]
     exact ⟨fun key hk=>(by simp (disch:=first | (simp;done) | omega) [show ∀ m,ub≤m→¬ key=2 * m+1 from hk,hk3,xw key hk]),by omega⟩
    ·have h0:0<(QO g (t:Int)).length:=List.length_pos_iff.2 hb
     have hb':(QO g (t:Int)).isEmpty=false:=by simpa using hb
     rw [hb',Bool.and_false] at hsg
     simp [h0]
     exact j4 (by simp [xd]) (by simp [andF (jku g O) hlt hsg]) rfl
 ·have:k=(comL g).length:=by omega
  subst this
  simp [x16,x15]
  exact j4 (by simp [xd]) (by simp [hall]) rfl
end Go.Pv.T

/- The judge: a table of rows, in memory; what goes before, loop by loop. -/
namespace Go.Pv.T
open Go Go.Pv
structure Mtx (ob:Nat→Option Obj') (lo hi kP uP n:Nat) (rows:List (Nat × Nat)) (f:Nat→Nat→Bool):Prop where
 p:ob kP=some ⟨uP,.cells (rows.map (jjb n)++List.replicate (n - rows.length) (.sl none true 0 []))⟩
 c:∀ b (h:b<rows.length),ob (rows[b]).1=some ⟨(rows[b]).2,.cells ((List.range n).map fun t=>V.bool (f b t))⟩
 k:kP=2 * uP+1∧lo≤uP∧uP<hi
 r:∀ b (h:b<rows.length),(rows[b]).1=2 * (rows[b]).2+1∧uP<(rows[b]).2∧(rows[b]).2<hi
 d:∀ b b' (h:b<rows.length) (h':b'<rows.length),(rows[b]).2=(rows[b']).2→b=b'
theorem Mtx.hi {ob:Nat→Option Obj'} {lo hi kP uP n:Nat} {rows:List (Nat × Nat)} {f:Nat→Nat→Bool} (h:Mtx ob lo hi kP uP n rows f) {ob':Nat→Option Obj'} {hi':Nat} (hu:hi≤hi') (hP:ob' kP=ob kP) (hr:∀ b (hb:b<rows.length),ob' (rows[b]).1=ob (rows[b]).1):Mtx ob' lo hi' kP uP n rows f :=
 ⟨hP.trans h.p,fun b hb=>(hr b hb).trans (h.c b hb),⟨h.k.1,h.k.2.1,by have:=h.k.2.2;omega⟩,fun b hb=>⟨(h.r b hb).1,(h.r b hb).2.1,by have:=(h.r b hb).2.2;omega⟩,h.d⟩
theorem Mtx.offP {ob:Nat→Option Obj'} {lo hi kP uP n:Nat} {rows:List (Nat × Nat)} {f:Nat→Nat→Bool} (h:Mtx ob lo hi kP uP n rows f):Off hi kP:=fun m hm=>by
 have:=h.k
 omega
theorem Mtx.offR {ob:Nat→Option Obj'} {lo hi kP uP n:Nat} {rows:List (Nat × Nat)} {f:Nat→Nat→Bool} (h:Mtx ob lo hi kP uP n rows f) {b:Nat} (hb:b<rows.length):Off hi (rows[b]).1:=fun m hm=>by
 have:=h.r b hb
 omega
theorem Mtx.keep {ob:Nat→Option Obj'} {lo hi kP uP n:Nat} {rows:List (Nat × Nat)} {f:Nat→Nat→Bool} (h:Mtx ob lo hi kP uP n rows f) {ob':Nat→Option Obj'} {hi':Nat} (hu:hi≤hi') (hW:Was hi ob ob'):Mtx ob' lo hi' kP uP n rows f :=
 h.hi hu (hW _ h.offP) fun _ hb=>hW _ (h.offR hb)
theorem Mtx.congr {ob:Nat→Option Obj'} {lo hi kP uP n:Nat} {rows:List (Nat × Nat)} {f f':Nat→Nat→Bool} (h:Mtx ob lo hi kP uP n rows f) (e:∀ b a,b<rows.length→a<n→f b a=f' b a):Mtx ob lo hi kP uP n rows f' :=
 ⟨h.p,fun b hb=>by
  rw [h.c b hb]
  congr 3
  refine List.map_congr_left fun a ha=>?_
  rw [e b a hb (List.mem_range.1 ha)],h.k,h.r,h.d⟩
theorem jml (n t:Nat) (F:Nat→V) (x:V) (h:t<n):splice ((List.range n).map F) t [x]=(List.range n).map fun a=>if a=t then x else F a:=by
 unfold splice
 refine List.ext_getElem (by simp;omega) fun i h1 h2=>?_
 simp only [List.length_cons,List.length_nil,List.getElem_append,List.getElem_map,List.getElem_range,List.length_append,List.length_take,List.length_map,List.length_range,List.getElem_take,List.getElem_drop]
 rcases Nat.lt_trichotomy i t with hi | hi | hi
 ·rw [dif_pos (by omega),dif_pos (by omega),if_neg (by omega)]
 ·subst hi
  rw [dif_pos (by omega),dif_neg (by omega),if_pos rfl]
  simp
 ·rw [dif_neg (by omega),if_neg (by omega)]
  congr 1
  omega
theorem Mtx.set {ob:Nat→Option Obj'} {lo hi kP uP n:Nat} {rows:List (Nat × Nat)} {f:Nat→Nat→Bool} (h:Mtx ob lo hi kP uP n rows f) {b t:Nat} {x:Bool} (hb:b<rows.length) (ht:t<n) {ob':Nat→Option Obj'} {hi':Nat} (hu:hi≤hi')
 (h1:ob' (rows[b]).1=some ⟨(rows[b]).2,.cells (splice ((List.range n).map fun t=>V.bool (f b t)) t [.bool x])⟩) (h2:∀ key,Off hi key→key≠(rows[b]).1→ob' key=ob key):Mtx ob' lo hi' kP uP n rows fun b' a=>if b'=b∧a=t then x else f b' a:=by
 have hk:=h.k
 have hrb:=h.r b hb
 refine ⟨(h2 _ h.offP (by omega)).trans h.p,fun b' hb'=>?_,⟨hk.1,hk.2.1,by omega⟩,fun b' hb'=>⟨(h.r b' hb').1,(h.r b' hb').2.1,by have:=(h.r b' hb').2.2;omega⟩,h.d⟩
 by_cases e:b'=b
 ·subst e
  rw [h1,jml n t _ _ ht]
  congr 3
  refine List.map_congr_left fun a _=>?_
  by_cases e2:a=t <;> simp [e2]
 ·have hne:(rows[b']).1≠(rows[b]).1:=fun e'=>e (h.d b' b hb' hb (by have:=h.r b' hb';omega))
  rw [h2 _ (h.offR hb') hne,h.c b' hb']
  simp [e]
theorem Mtx.row {ob:Nat→Option Obj'} {lo hi kP uP n:Nat} {rows:List (Nat × Nat)} (h:Mtx ob lo hi kP uP n rows fun _ _=>false) (hn:rows.length<n) {ob':Nat→Option Obj'} {u hi':Nat} (h0:hi≤u) (hu:u<hi')
 (hP:ob' kP=some ⟨uP,.cells (splice (rows.map (jjb n)++List.replicate (n - rows.length) (.sl none true 0 [])) rows.length [jjb n (2 * u+1,u)])⟩) (h1:ob' (2 * u+1)=some ⟨u,.cells (QF n [.bool false])⟩) (h2:∀ key,Off hi key→key≠kP→ob' key=ob key) :
 Mtx ob' lo hi' kP uP n (rows++[(2 * u+1,u)]) fun _ _=>false:=by
 have hk:=h.k
 refine ⟨?_,fun b hb=>?_,⟨hk.1,hk.2.1,by omega⟩,fun b hb=>?_,fun b b' hb hb' e=>?_⟩
 ·rw [hP]
  congr 3
  unfold splice
  rw [List.take_left' (by simp),List.drop_append,show n - rows.length=n - (rows++[(2 * u+1,u)]).length+1 by simp;omega,List.replicate_succ]
  simp
 ·rcases Nat.lt_or_ge b rows.length with hlt | hge
  ·rw [List.getElem_append_left hlt]
   have:=h.r b hlt
   rw [h2 _ (h.offR hlt) (by omega),h.c b hlt]
  ·have:b=rows.length:=by simp at hb;omega
   subst this
   rw [List.getElem_concat_length rfl]
   simp only
   rw [h1,jai]
   congr 3
   refine List.ext_getElem (by simp) fun i _ _=>by simp
 ·rcases Nat.lt_or_ge b rows.length with hlt | hge
  ·rw [List.getElem_append_left hlt]
   have:=h.r b hlt
   omega
  ·have:b=rows.length:=by simp at hb;omega
   subst this
   rw [List.getElem_concat_length rfl]
   simp only
   exact ⟨trivial,by omega,hu⟩
 ·rcases Nat.lt_or_ge b rows.length with hlt | hge
  ·rcases Nat.lt_or_ge b' rows.length with hlt' | hge'
   ·rw [List.getElem_append_left hlt,List.getElem_append_left hlt'] at e
    exact h.d b b' hlt hlt' e
   ·have:b'=rows.length:=by simp at hb';omega
    subst this
    rw [List.getElem_append_left hlt,List.getElem_concat_length rfl] at e
    have:=h.r b hlt
    simp only at e
    omega
  ·have hbe:b=rows.length:=by simp at hb;omega
   subst hbe
   rcases Nat.lt_or_ge b' rows.length with hlt' | hge'
   ·rw [List.getElem_append_left hlt',List.getElem_concat_length rfl] at e
    have:=h.r b' hlt'
    simp only at e
    omega
   ·simp at hb';omega
/-! What goes before,by loops. -/
def sB (g:Hist') (a b:Nat):Bool:=Jh g a && (Jh g b && (decide (a<b) && Jc g a == Jc g b))
def jfa (g:Hist') (M:List Int) (i a b:Nat):Bool:=(((readH g).zip M).take i).any fun x=>x.2 == (a:Int) && x.1.1 == (b:Int)
theorem ji3 {g:Hist'} {M:List Int} (hm:jbr g M=true) (a b:Nat):(sB g a b || jfa g M (readH g).length a b)=Yt g M a b:=by
 have e:jfa g M (readH g).length a b=jia (readH g) M a b:=by
  unfold jfa jia
  rw [List.take_of_length_le (by simp;omega)]
 rw [e]
 unfold sB Yt
 cases hf:jia (readH g) M a b
 ·cases Jh g a <;> cases Jh g b <;> simp
 ·unfold jia at hf
  obtain ⟨x,hx,h1⟩:=List.any_eq_true.1 hf
  simp only [Bool.and_eq_true,beq_iff_eq] at h1
  have hm2:=jf0 hm (List.of_mem_zip hx).2
  have hr:=Yx (List.of_mem_zip hx).1
  have ha:Jh g a=true:=by
   rcases hm2 with h | h
   ·omega
   ·obtain ⟨k,ek,hk⟩:=comL_mem.1 h
    have:k=a:=by omega
    exact this ▸ hk
  have hb:Jh g b=true:=by
   obtain ⟨k,ek,hk⟩:=comL_mem.1 hr
   have:k=b:=by omega
   exact this ▸ hk
  simp [ha,hb]
def fB (g:Hist') (i b a:Nat):Bool:=sB g a b && decide ((b:Int)∈(comL g).take i)
def fB2 (g:Hist') (i j tb b a:Nat):Bool:=if b=tb then decide ((a:Int)∈(comL g).take j) && Jc g a == Jc g tb else fB g i b a
theorem jkq {g:Hist'} {i:Nat} (h:i<(comL g).length) {x:Int}:x∈(comL g).take i ↔ x∈comL g∧x<(comL g)[i]:=by
 have hp:=List.pairwise_iff_getElem.1 (jdt g)
 rw [List.mem_take_iff_getElem]
 constructor
 ·rintro ⟨j,hj,rfl⟩
  exact ⟨List.getElem_mem _,hp j i (by omega) h (by omega)⟩
 ·rintro ⟨hx,hlt⟩
  obtain ⟨j,hj,rfl⟩:=List.mem_iff_getElem.1 hx
  refine ⟨j,?_,rfl⟩
  rcases Nat.lt_trichotomy j i with h1 | h1 | h1
  ·omega
  ·subst h1;omega
  ·have:=hp i j h hj h1
   omega
theorem Xp {l:List Int} {i:Nat} (h:i<l.length) {x:Int}:x∈l.take (i+1) ↔ x∈l.take i∨x=l[i]:=by
 rw [List.take_succ_eq_append_getElem h,List.mem_append,List.mem_singleton]
theorem jz8 {g:Hist'} (b a:Nat):fB g 0 b a=false:=by simp [fB]
theorem j6n {g:Hist'} (b a:Nat):fB g (comL g).length b a=sB g a b:=by
 unfold fB
 cases h:sB g a b
 ·rfl
 ·have:(b:Int)∈comL g:=comL_mem.2 ⟨b,rfl,by simp only [sB,Bool.and_eq_true] at h;exact h.2.1⟩
  simp [this]
theorem jvn {g:Hist'} {i tb:Nat} (hi:i<(comL g).length) (e:(comL g)[i]=(tb:Int)) (b a:Nat):fB2 g i 0 tb b a=fB g i b a:=by
 unfold fB2
 split
 ·subst b
  have:¬ (tb:Int)∈(comL g).take i:=fun h=>by
   have:=((jkq hi).1 h).2
   omega
  simp [fB,this]
 ·rfl
theorem jvo {g:Hist'} {i j tb ta:Nat} (hj:j<(comL g).length) (e:(comL g)[j]=(ta:Int)) (b a:Nat):(if b=tb∧a=ta then Jc g ta == Jc g tb else fB2 g i j tb b a)=fB2 g i (j+1) tb b a:=by
 unfold fB2
 by_cases hb:b=tb
 ·subst hb
  by_cases ha:a=ta
  ·subst ha
   have:(a:Int)∈(comL g).take (j+1):=(Xp hj).2 (.inr e.symm)
   simp [this]
  ·have:(a:Int)∈(comL g).take (j+1) ↔ (a:Int)∈(comL g).take j:=(Xp hj).trans ⟨fun h=>h.resolve_right fun h'=>ha (by omega),.inl⟩
   simp [ha,this]
 ·simp [hb]
theorem jz9 {g:Hist'} {i tb:Nat} (hi:i<(comL g).length) (e:(comL g)[i]=(tb:Int)) (b a:Nat):fB2 g i i tb b a=fB g (i+1) b a:=by
 unfold fB2
 have hct:Jh g tb=true:=by
  obtain ⟨k,ek,hk⟩:=comL_mem.1 (List.getElem_mem hi)
  have:k=tb:=by omega
  exact this ▸ hk
 by_cases hb:b=tb
 ·subst hb
  have h1:(b:Int)∈(comL g).take (i+1):=(Xp hi).2 (.inr e.symm)
  have h2:((a:Int)∈(comL g).take i) ↔ Jh g a=true∧a<b:=by
   rw [jkq hi,e]
   constructor
   ·rintro ⟨h3,h4⟩
    obtain ⟨k,ek,hk⟩:=comL_mem.1 h3
    have:k=a:=by omega
    exact ⟨this ▸ hk,by omega⟩
   ·rintro ⟨h3,h4⟩
    exact ⟨comL_mem.2 ⟨a,rfl,h3⟩,by omega⟩
  rw [if_pos rfl]
  simp only [fB,sB,h1,h2,hct,decide_true,Bool.and_true,Bool.true_and,Bool.decide_and,Bool.decide_eq_true,Bool.and_assoc]
 ·have h1:(b:Int)∈(comL g).take (i+1) ↔ (b:Int)∈(comL g).take i:=(Xp hi).trans ⟨fun h=>h.resolve_right fun h'=>hb (by omega),.inl⟩
  simp [hb,fB,h1]
def fC (g:Hist') (M:List Int) (i b a:Nat):Bool:=sB g a b || jfa g M i a b
theorem jz6 {g:Hist'} {M:List Int} (b a:Nat):fC g M 0 b a=sB g a b:=by simp [fC,jfa]
theorem jrj {g:Hist'} {M:List Int} {i:Nat} (hi:i<(readH g).length) (hM:i<M.length) (b a:Nat):fC g M (i+1) b a=(fC g M i b a || (M[i] == (a:Int) && ((readH g)[i]).1 == (b:Int))):=by
 have hz:i<((readH g).zip M).length:=by simp;omega
 unfold fC jfa
 rw [List.take_succ_eq_append_getElem hz,List.any_append]
 simp [Bool.or_assoc]
theorem j6m {g:Hist'} {M:List Int} {i pb ma:Nat} (hi:i<(readH g).length) (hM:i<M.length) (e1:((readH g)[i]).1=(pb:Int)) (e2:M[i]=(ma:Int)) (b a:Nat):(if b=pb∧a=ma then true else fC g M i b a)=fC g M (i+1) b a:=by
 rw [jrj hi hM,e1,e2]
 by_cases h:b=pb∧a=ma
 ·simp [h.1,h.2]
 ·rw [if_neg h]
  have:((ma:Int) == (a:Int) && (pb:Int) == (b:Int))=false:=by
   rw [Bool.and_eq_false_iff]
   by_cases h1:a=ma
   ·exact .inr (by simp;intro e;exact h ⟨by omega,h1⟩)
   ·exact .inl (by simp;omega)
  rw [this,Bool.or_false]
theorem jz7 {g:Hist'} {M:List Int} {i:Nat} (hi:i<(readH g).length) (hM:i<M.length) (e2:M[i]<0) (b a:Nat):fC g M i b a=fC g M (i+1) b a:=by
 rw [jrj hi hM]
 have:(M[i] == (a:Int))=false:=by simp;omega
 rw [this,Bool.false_and,Bool.or_false]
def fD2 (r:Nat→Nat→Bool) (k b0 b a:Nat):Bool:=if b<b0 then war r (k+1) b a else war r k b a
def fD3 (r:Nat→Nat→Bool) (k b0 t0 b a:Nat):Bool:=if b=b0∧a<t0 then war r (k+1) b a else fD2 r k b0 b a
theorem jkl (r:Nat→Nat→Bool) (k a:Nat):war r (k+1) k a=war r k k a:=by
 rw [war]
 cases war r k k a <;> simp
theorem jz4 (r:Nat→Nat→Bool) (k b0 t0 a:Nat):fD3 r k b0 t0 k a=war r k k a:=by
 unfold fD3 fD2
 split
 ·exact jkl r k a
 ·split
  ·exact jkl r k a
  ·rfl
theorem j6l (r:Nat→Nat→Bool) (k b0 a:Nat):fD2 r k b0 b0 a=war r k b0 a:=by simp [fD2]
theorem jvm {r:Nat→Nat→Bool} {k b0:Nat} (h:war r k b0 k=false) (b a:Nat):fD2 r k b0 b a=fD2 r k (b0+1) b a:=by
 unfold fD2
 rcases Nat.lt_trichotomy b b0 with h1 | h1 | h1
 ·rw [if_pos h1,if_pos (by omega)]
 ·subst h1
  rw [if_neg (by omega),if_pos (by omega),war,h,Bool.false_and,Bool.or_false]
 ·rw [if_neg (by omega),if_neg (by omega)]
theorem jvj (r:Nat→Nat→Bool) (k b0 b a:Nat):fD3 r k b0 0 b a=fD2 r k b0 b a:=by simp [fD3]
theorem j6k (r:Nat→Nat→Bool) (k b0 t0:Nat):fD3 r k b0 t0 b0 t0=war r k b0 t0:=by simp [fD3,fD2]
theorem jvk {r:Nat→Nat→Bool} {k b0 t0:Nat} (h:war r k b0 k=true) (b a:Nat):(if b=b0∧a=t0 then war r k b0 t0 || war r k k t0 else fD3 r k b0 t0 b a)=fD3 r k b0 (t0+1) b a:=by
 unfold fD3
 by_cases hb:b=b0
 ·subst hb
  rcases Nat.lt_trichotomy a t0 with h1 | h1 | h1
  ·rw [if_neg (by omega),if_pos ⟨rfl,h1⟩,if_pos ⟨rfl,by omega⟩]
  ·subst h1
   rw [if_pos ⟨rfl,rfl⟩,if_pos ⟨rfl,by omega⟩,war,h,Bool.true_and]
  ·rw [if_neg (by omega),if_neg (by omega),if_neg (by omega)]
 ·rw [if_neg (by omega),if_neg (by omega),if_neg (by omega)]
theorem jz3 {r:Nat→Nat→Bool} {k b0 n:Nat} (b:Nat) {a:Nat} (ha:a<n):fD3 r k b0 n b a=fD2 r k (b0+1) b a:=by
 unfold fD3 fD2
 rcases Nat.lt_trichotomy b b0 with h1 | h1 | h1
 ·rw [if_neg (by omega),if_pos h1,if_pos (by omega)]
 ·subst h1
  rw [if_pos ⟨rfl,ha⟩,if_pos (by omega)]
 ·rw [if_neg (by omega),if_neg (by omega),if_neg (by omega)]
theorem jvl (r:Nat→Nat→Bool) (k b a:Nat):fD2 r k 0 b a=war r k b a:=by simp [fD2]
theorem jz5 {r:Nat→Nat→Bool} {k n b:Nat} (hb:b<n) (a:Nat):fD2 r k n b a=war r (k+1) b a:=by simp [fD2,hb]
end Go.Pv.T

/- The judge: causes. -/
namespace Go.Pv.T
open Go Go.Pv
def jC (g:Hist') (lvl:Int) (M:List Int) (N:JN) (v:V):List V:=[.int .i64 lvl,slOf g.sn strC g.ss,slOf g.kn strC g.ks,slOf g.tn txnC g.ts,.sl N.tr N.nr (readH g).length ((readH g).flatMap jG),slOf N.nm intC M,.map N.kA N.uA,v]
structure CI (g:Hist') (lvl:Int) (M:List Int) (N:JN) (ob0:Nat→Option Obj') (ub kP uP:Nat) (rows:List (Nat × Nat)) (f:Nat→Nat→Bool) (ob:Nat→Option Obj') (nx:Nat):Prop where
 m:Mtx ob ub nx kP uP g.ts.length rows f
 j:ob N.kJ=some ⟨N.uJ,.cells (jC g lvl M N (.osl kP uP 0 g.ts.length 1))⟩
 w:∀ key,Off ub key→key≠N.kJ→ob key=ob0 key
 fj:Off ub N.kJ
section
variable {g:Hist'} {lvl:Int} {M:List Int} {N:JN} {ob0:Nat→Option Obj'} {ub kP uP:Nat} {rows:List (Nat × Nat)} {f:Nat→Nat→Bool} {ob ob':Nat→Option Obj'} {nx nx':Nat}
theorem CI.le (h:CI g lvl M N ob0 ub kP uP rows f ob nx):ub<nx:=by
 have:=h.m.k
 omega
theorem CI.keep (h:CI g lvl M N ob0 ub kP uP rows f ob nx) (hu:nx≤nx') (hW:Was nx ob ob'):CI g lvl M N ob0 ub kP uP rows f ob' nx' :=
 have hl:=h.le
 ⟨h.m.keep hu hW,(hW _ (h.fj.up (by omega))).trans h.j,fun key hk hne=>(hW _ (hk.up (by omega))).trans (h.w key hk hne),h.fj⟩
theorem CI.congr {f':Nat→Nat→Bool} (h:CI g lvl M N ob0 ub kP uP rows f ob nx) (e:∀ b a,b<rows.length→a<g.ts.length→f b a=f' b a):CI g lvl M N ob0 ub kP uP rows f' ob nx :=
 ⟨h.m.congr e,h.j,h.w,h.fj⟩
theorem CI.set (h:CI g lvl M N ob0 ub kP uP rows f ob nx) {b t:Nat} {x:Bool} (hb:b<rows.length) (ht:t<g.ts.length) (hu:nx≤nx')
 (h1:ob' (rows[b]).1=some ⟨(rows[b]).2,.cells (splice ((List.range g.ts.length).map fun t=>V.bool (f b t)) t [.bool x])⟩) (h2:∀ key,Off nx key→key≠(rows[b]).1→ob' key=ob key):CI g lvl M N ob0 ub kP uP rows (fun b' a=>if b'=b∧a=t then x else f b' a) ob' nx':=by
 have hl:=h.le
 have hk:=h.m.k
 have hr:=h.m.r b hb
 have hne:∀ key,Off ub key→key≠(rows[b]).1:=fun key hk e=>hk (rows[b]).2 (by omega) (by omega)
 exact ⟨h.m.set hb ht hu h1 h2,(h2 _ (h.fj.up (by omega)) (hne _ h.fj)).trans h.j,fun key hk hn=>(h2 _ (hk.up (by omega)) (hne _ hk)).trans (h.w key hk hn),h.fj⟩
theorem CI.row (h:CI g lvl M N ob0 ub kP uP rows (fun _ _=>false) ob nx) (hn:rows.length<g.ts.length) {u:Nat} (h0:nx≤u) (hu:u<nx')
 (hP:ob' kP=some ⟨uP,.cells (splice (rows.map (jjb g.ts.length)++List.replicate (g.ts.length - rows.length) (.sl none true 0 [])) rows.length [jjb g.ts.length (2 * u+1,u)])⟩) (h1:ob' (2 * u+1)=some ⟨u,.cells (QF g.ts.length [.bool false])⟩) (h2:∀ key,Off nx key→key≠kP→ob' key=ob key) :
 CI g lvl M N ob0 ub kP uP (rows++[(2 * u+1,u)]) (fun _ _=>false) ob' nx':=by
 have hl:=h.le
 have hk:=h.m.k
 have hne:∀ key,Off ub key→key≠kP:=fun key hk' e=>hk' uP (by omega) (by omega)
 exact ⟨h.m.row hn h0 hu hP h1 h2,(h2 _ (h.fj.up (by omega)) (hne _ h.fj)).trans h.j,fun key hk' hn'=>(h2 _ (hk'.up (by omega)) (hne _ hk')).trans (h.w key hk' hn'),h.fj⟩
end
theorem jg9 {n:Nat} {rows:List (Nat × Nat)} (L:List V) {b:Nat} (h:b<rows.length):(rows.map (jjb n)++L)[b]? = some (.osl (rows[b]).1 (rows[b]).2 0 n 1):=by
 rw [List.getElem?_append_left (by simpa using h),List.getElem?_map,List.getElem?_eq_getElem h]
 rfl
theorem jr8 {l u n x:Nat} {kk:IntKind} (hx:x<n):JH 1 (.osl l u 0 n 1) (.int kk (x:Int))=some (.ptr l u x):=idxN rfl hx
theorem jx4 {g:Hist'} {t:Nat} (htl:t<g.ts.length):(g.ts.flatMap txnC)[t * 3]? = some (.int .i64 (Jc g t)):=by
 have:=je j9 g.ts htl (by decide:0<3)
 rw [Nat.add_zero] at this
 rw [this]
 simp [txnC,Jc,htl]
theorem jtf (n:Nat) (v:V):QF n [v]=List.replicate n v:=by
 unfold QF
 refine List.ext_getElem (by simp) fun i h1 h2=>?_
 simp [Nat.mod_one]
set_option maxRecDepth 100000 in
theorem sv113 {Yf:YF} {g:Hist'} (hs:Small g) (hw:jm g=true) {lvl:Int} {M:List Int} (hm:jbr g M=true) {N:JN} {ob:Nat→Option Obj'} {ub:Nat} (hj:ob N.kJ=some ⟨N.uJ,.cells (jC g lvl M N (.sl none true 0 []))⟩) (fj:Off ub N.kJ)
 {tk:Nat→Bool} {ro base:Nat} (hro:ro≤ub) (hrJ:ro≤N.uJ) :
 ∃ r,EvS E Yf.y 113 [.ptr N.kJ N.uJ 0] ob tk ro base ub r∧(r.1 = .tup []∧∃ kP uP rows,rows.length=g.ts.length∧CI g lvl M N ob ub kP uP rows (farB g M) r.2.1 r.2.2.2):=by
 have hR:=Jo hs
 have hM:=jap hm
 have hcl:=WA g
 have hts:=hs.ts
 obtain ⟨vc,evc,hvc⟩:=j1j hs
 rw [WX hw] at hvc
 refine YK (af:=S113) rfl (by decide) ?_
 show wpC E Yf S113.body _ (YQ S113.res _)
 have hj':=hj
 unfold jC at hj'
 have gJ:∀ m,ub≤m→¬ N.kJ=2 * m+1:=fj
 simp (disch:=first | (simp;done) | omega) [S113,j2,hj']
 refine jll (n:=g.ts.length) (by simp) (by simp) (by omega) (by omega) rfl (by decide) ?_
 simp (disch:=first | (simp;done) | omega) [j2,hj',gJ,splice]
 refine ⟨hrJ,?_⟩
 refine jz fun st hst=>?_
 obtain ⟨uP,huP⟩:∃ u,u=ub+64+64+64+64+64+64+64+64+64:=⟨_,rfl⟩
 obtain ⟨kP,hkP⟩:∃ k,k=2 * uP+1:=⟨_,rfl⟩
 have g0:st.tm 0 = .ptr N.kJ N.uJ 0:=by rw [hst];simp
 have g2:st.tm 2 = .int .i64 g.ts.length:=by rw [hst];simp
 have g30:st.tm 30 = .int .i64 g.ts.length:=by rw [hst];simp
 have g31:st.tm 31 = .int .i64 0:=by rw [hst];simp
 have gd:st.df=[]:=by rw [hst];simp
 have gr:st.ro=ro:=by rw [hst];simp
 have gC:CI g lvl M N ob ub kP uP [] (fun _ _=>false) st.ob st.nx:=by
  refine ⟨⟨?_,fun b h=>absurd h (by simp),⟨hkP,by omega,?_⟩,fun b h=>absurd h (by simp),fun b b' h=>absurd h (by simp)⟩,?_,fun key hk hne=>?_,fj⟩
  ·rw [hst,hkP,huP];simp (disch:=first | (simp;done) | omega) [fun m h=>Ne.symm (gJ m h),jtf]
  ·rw [hst,huP];simp
  ·rw [hst,hkP,huP];simp [jC]
  ·rw [hst];simp (disch:=first | (simp;done) | omega) [show ∀ m,ub≤m→¬ key=2 * m+1 from hk,hne]
 clear hst
 refine jB [(3,3),(31,42)] g.ts.length (fun i x=>x.tm 31 = .int .i64 i∧∃ rows,rows.length=i∧CI g lvl M N ob ub kP uP rows (fun _ _=>false) x.ob x.nx) rfl rfl ⟨by simpa using g31,[],rfl,gC⟩ ?_
 rintro i s hi ⟨s31,rows,hrl,sC⟩ f
 have s0:s.tm 0 = .ptr N.kJ N.uJ 0:=by rw [f.t 0 (by simp)];simp [g0]
 have s2:s.tm 2 = .int .i64 g.ts.length:=by rw [f.t 2 (by simp)];simp [g2]
 have s30:s.tm 30 = .int .i64 g.ts.length:=by rw [f.t 30 (by simp)];simp [g30]
 have sd:s.df=[]:=by rw [f.d];simp [gd]
 have sro:s.ro=ro:=by rw [f.r];simp [gr]
 clear f
 have sj:=sC.j
 have sl:=sC.le
 have fJ:∀ m,s.nx≤m→¬ N.kJ=2 * m+1:=sC.fj.up (by omega)
 have fP:∀ m,s.nx≤m→¬ kP=2 * m+1:=sC.m.offP
 by_cases hlt:i<g.ts.length
 ·have hwk:=jl hlt (by omega)
  simp (disch:=first | (simp;done) | omega) [s31,s30,s0,s2,hlt,j2,sj,jC]
  refine jj1 (n:=g.ts.length) (by simp) (by simp) (by omega) (by omega) rfl (by decide) ?_
  have hix:=idx0 (l:=kP) (u:=uP) (n:=g.ts.length) (sz:=1) (kk:=.i64) hlt
  rw [Nat.mul_one] at hix
  have hp:=sC.m.p
  simp (disch:=first | (simp;done) | omega) [hix,hp,j2,fP,X5,Wv,jdr,jaz,rdOb,rdTk,lOf,Delta.wo,Delta.wt]
  have hkk:=sC.m.k
  refine ⟨by omega,by omega,YS (fJ _ (by omega)),?_⟩
  simp (disch:=first | (simp;done) | omega) [s31,hwk,hlt]
  obtain ⟨u,hu⟩:∃ u,u=s.nx+64+64+64+64+64+64+64+64+64:=⟨_,rfl⟩
  refine ⟨rows++[(2 * u+1,u)],by simp [hrl],sC.row (by omega) (by omega) (by omega) ?_ ?_ fun key hk hne=>?_⟩
  ·simp (disch:=first | (simp;done) | omega) [← hu]
   rw [hrl];rfl
  ·simp (disch:=first | (simp;done) | omega) [← hu,show ∀ m,s.nx≤m→¬ 2 * m+1=kP from fun m h e=>fP m h e.symm]
  ·simp (disch:=first | (simp;done) | omega) [← hu,show ∀ m,s.nx≤m→¬ key=2 * m+1 from hk,hne]
 ·have:i=g.ts.length:=by omega
  subst this
  clear hi hlt
  simp (disch:=first | (simp;done) | omega) [s31,s30,s0,j2,sj,jC]
  refine jL evc (by simp [j3]) rfl (by simp [j3]) ?_
  refine XH hvc fun tc addc=>?_
  simp
  refine jz fun st hst=>?_
  have g0:st.tm 0 = .ptr N.kJ N.uJ 0:=by rw [hst];simp [s0]
  have g2:st.tm 2 = .int .i64 g.ts.length:=by rw [hst];simp [s2]
  have g4:st.tm 4 = .sl tc (comL g).isEmpty (comL g).length ((comL g).flatMap intC):=by rw [hst];simp
  have g48:st.tm 48 = .sl tc (comL g).isEmpty (comL g).length ((comL g).flatMap intC):=by rw [hst];simp
  have g49:st.tm 49 = .int .i64 (comL g).length:=by rw [hst];simp
  have g50:st.tm 50 = .int .i64 0:=by rw [hst];simp
  have gd:st.df=[]:=by rw [hst];simp [sd]
  have gr:st.ro=ro:=by rw [hst];simp [sro]
  have gC:CI g lvl M N ob ub kP uP rows (fB g 0) st.ob st.nx:=(sC.congr fun b a _ _=>(jz8 b a).symm).keep (by rw [hst];simp;omega) fun key hk=>by rw [hst];simp
  clear hst s0 s2 s30 s31 sd sro sj sl fJ fP sC
  refine jB [(5,6),(8,8),(50,92)] (comL g).length (fun i x=>x.tm 50 = .int .i64 i∧CI g lvl M N ob ub kP uP rows (fB g i) x.ob x.nx) rfl rfl ⟨by simpa using g50,gC⟩ ?_
  rintro i s hi ⟨s50,sC⟩ f
  have s0:s.tm 0 = .ptr N.kJ N.uJ 0:=by rw [f.t 0 (by simp)];simp [g0]
  have s2:s.tm 2 = .int .i64 g.ts.length:=by rw [f.t 2 (by simp)];simp [g2]
  have s4:s.tm 4 = .sl tc (comL g).isEmpty (comL g).length ((comL g).flatMap intC):=by rw [f.t 4 (by simp)];simp [g4]
  have s48:s.tm 48 = .sl tc (comL g).isEmpty (comL g).length ((comL g).flatMap intC):=by rw [f.t 48 (by simp)];simp [g48]
  have s49:s.tm 49 = .int .i64 (comL g).length:=by rw [f.t 49 (by simp)];simp [g49]
  have sd:s.df=[]:=by rw [f.d];simp [gd]
  have sro:s.ro=ro:=by rw [f.r];simp [gr]
  clear f
  by_cases hlt:i<(comL g).length
  ·have hwk:=jl hlt (by omega)
   have ix:=Jq jD tc (comL g).isEmpty (comL g) .i64 hlt
   rw [Nat.mul_one] at ix
   have h1:=JL (comL g) hlt
   obtain ⟨tb,etb,htb⟩:=comL_mem.1 (List.getElem_mem hlt)
   rw [etb] at h1
   have hsl:=jfm jD tc (comL g).isEmpty (comL g) (k:=i) (by omega)
   have hln:((comL g).take i).length=i:=by simp;omega
   simp (disch:=first | (simp;done) | omega) [s50,s49,s48,s4,hlt,ix,h1,hsl,hln]
   refine jz fun st hst=>?_
   have t0:st.tm 0 = .ptr N.kJ N.uJ 0:=by rw [hst];simp [s0]
   have t6:st.tm 6 = .int .i64 (tb:Int):=by rw [hst];simp
   have t57:st.tm 57 = .sl none (comL g).isEmpty i (((comL g).take i).flatMap intC):=by rw [hst];simp
   have t58:st.tm 58 = .int .i64 i:=by rw [hst];simp
   have t59:st.tm 59 = .int .i64 0:=by rw [hst];simp
   have t50:st.tm 50 = .int .i64 i:=by rw [hst];simp [s50]
   have td:st.df=[]:=by rw [hst];simp [sd]
   have tr:st.ro=ro:=by rw [hst];simp [sro]
   have tC:CI g lvl M N ob ub kP uP rows (fB2 g i 0 tb) st.ob st.nx:=(sC.congr fun b a _ _=>(jvn hlt etb b a).symm).keep (by rw [hst];simp;omega) fun key hk=>by rw [hst];simp
   clear hst
   refine jB [(8,8),(59,91)] i (fun j x=>x.tm 59 = .int .i64 j∧CI g lvl M N ob ub kP uP rows (fB2 g i j tb) x.ob x.nx) rfl rfl ⟨by simpa using t59,tC⟩ ?_
   rintro j x hj ⟨x59,xC⟩ f
   have x0:x.tm 0 = .ptr N.kJ N.uJ 0:=by rw [f.t 0 (by simp)];simp [t0]
   have x6:x.tm 6 = .int .i64 (tb:Int):=by rw [f.t 6 (by simp)];simp [t6]
   have x57:x.tm 57 = .sl none (comL g).isEmpty i (((comL g).take i).flatMap intC):=by rw [f.t 57 (by simp)];simp [t57]
   have x58:x.tm 58 = .int .i64 i:=by rw [f.t 58 (by simp)];simp [t58]
   have x50:x.tm 50 = .int .i64 i:=by rw [f.t 50 (by simp)];simp [t50]
   have xd:x.df=[]:=by rw [f.d];simp [td]
   have xr:x.ro=ro:=by rw [f.r];simp [tr]
   clear f
   by_cases hjt:j<i
   ·have hwj:=jl hjt (by omega)
    have jx:=Jq jD none (comL g).isEmpty ((comL g).take i) .i64 (i:=j) (by omega)
    rw [Nat.mul_one,hln] at jx
    have j1:=JL ((comL g).take i) (i:=j) (by omega)
    have hjl:j<(comL g).length:=by omega
    obtain ⟨ta,eta,hta⟩:=comL_mem.1 (List.getElem_mem hjl)
    rw [List.getElem_take,eta] at j1
    have htbl:=Jt htb
    have htal:=Jt hta
    have xj:=xC.j
    have xl:=xC.le
    have fJ:∀ m,x.nx≤m→¬ N.kJ=2 * m+1:=xC.fj.up (by omega)
    have fP:∀ m,x.nx≤m→¬ kP=2 * m+1:=xC.m.offP
    have hbr:tb<rows.length:=by omega
    have fR:∀ m,x.nx≤m→¬ (rows[tb]).1=2 * m+1:=xC.m.offR hbr
    have hp:=xC.m.p
    have hcb:=xC.m.c tb hbr
    have hra:=jg9 (n:=g.ts.length) (List.replicate (g.ts.length - rows.length) (.sl none true 0 [])) hbr
    have hi1:=jr8 (l:=kP) (u:=uP) (kk:=.i64) htbl
    have hi2:=jr8 (l:=(rows[tb]).1) (u:=(rows[tb]).2) (kk:=.i64) htal
    have hR2:=xC.m.r tb hbr
    have hk2:=xC.m.k
    simp (disch:=first | (simp;done) | omega) [x59,x58,x57,x6,x0,hjt,jx,j1,j2,xj,jC,hp,hi1,hi2,hcb,j7 j9,jx4,jjb]
    refine ⟨by omega,by omega,hwj,?_⟩
    exact (xC.set (x:=Jc g ta == Jc g tb) hbr htal (by omega) (by simp) (fun key hk hne=>by simp [hne])).congr fun b a _ _=>jvo hjl eta b a
   ·have:j=i:=by omega
    subst this
    simp (disch:=first | (simp;done) | omega) [x59,x58,x50,hlt,hwk]
    exact (xC.congr fun b a _ _=>jz9 hlt etb b a).keep (by omega) (Was.refl _ _)
  ·have:i=(comL g).length:=by omega
   subst this
   clear hi hlt
   have sj:=sC.j
   have sl:=sC.le
   simp (disch:=first | (simp;done) | omega) [s50,s49,s0,j2,sj,jC]
   refine jz fun st hst=>?_
   have g0:st.tm 0 = .ptr N.kJ N.uJ 0:=by rw [hst];simp [s0]
   have g2:st.tm 2 = .int .i64 g.ts.length:=by rw [hst];simp [s2]
   have g96:st.tm 96 = .sl N.tr N.nr (readH g).length ((readH g).flatMap jG):=by rw [hst];simp
   have g97:st.tm 97 = .int .i64 (readH g).length:=by rw [hst];simp
   have g98:st.tm 98 = .int .i64 0:=by rw [hst];simp
   have gd:st.df=[]:=by rw [hst];simp [sd]
   have gr:st.ro=ro:=by rw [hst];simp [sro]
   have gC:CI g lvl M N ob ub kP uP rows (fC g M 0) st.ob st.nx:=(sC.congr fun b a _ _=>(j6n b a).trans (jz6 b a).symm).keep (by rw [hst];simp;omega) fun key hk=>by rw [hst];simp
   clear hst s0 s2 s4 s48 s49 s50 sd sro sj sl sC
   refine jB [(9,10),(98,127)] (readH g).length (fun i x=>x.tm 98 = .int .i64 i∧CI g lvl M N ob ub kP uP rows (fC g M i) x.ob x.nx) rfl rfl ⟨by simpa using g98,gC⟩ ?_
   rintro i s hi ⟨s98,sC⟩ f
   have s0:s.tm 0 = .ptr N.kJ N.uJ 0:=by rw [f.t 0 (by simp)];simp [g0]
   have s2:s.tm 2 = .int .i64 g.ts.length:=by rw [f.t 2 (by simp)];simp [g2]
   have s96:s.tm 96 = .sl N.tr N.nr (readH g).length ((readH g).flatMap jG):=by rw [f.t 96 (by simp)];simp [g96]
   have s97:s.tm 97 = .int .i64 (readH g).length:=by rw [f.t 97 (by simp)];simp [g97]
   have sd:s.df=[]:=by rw [f.d];simp [gd]
   have sro:s.ro=ro:=by rw [f.r];simp [gr]
   clear f
   have sj:=sC.j
   have sl:=sC.le
   have fJ:∀ m,s.nx≤m→¬ N.kJ=2 * m+1:=sC.fj.up (by omega)
   have fP:∀ m,s.nx≤m→¬ kP=2 * m+1:=sC.m.offP
   by_cases hlt:i<(readH g).length
   ·have hwk:=jl hlt (by omega)
    have hiM:i<M.length:=by omega
    have hix:=Jq jX N.tr N.nr (readH g) .i64 hlt
    have hpa:=fun ob=>Yz (readH g) ob hlt
    have hmi:=JL M hiM
    obtain ⟨pb,epb,hpb⟩:=comL_mem.1 (Yx (List.getElem_mem hlt))
    simp (disch:=first | (simp;done) | omega) [s98,s97,s96,s0,hlt,hix,hpa,j2,splice,sj,jC,fJ,j7 jD,hmi]
    refine ⟨by omega,?_⟩
    by_cases hge:0≤M[i]
    ·obtain ⟨ma,ema,hma⟩:=comL_mem.1 ((jf0 hm (List.getElem_mem hiM)).resolve_left (by omega))
     rw [ema] at hmi
     have hpbl:=Jt hpb
     have hmal:=Jt hma
     have hbr:pb<rows.length:=by omega
     have fR:∀ m,s.nx≤m→¬ (rows[pb]).1=2 * m+1:=sC.m.offR hbr
     have hp:=sC.m.p
     have hcb:=sC.m.c pb hbr
     have hra:=jg9 (n:=g.ts.length) (List.replicate (g.ts.length - rows.length) (.sl none true 0 [])) hbr
     have hi1:=jr8 (l:=kP) (u:=uP) (kk:=.i64) hpbl
     have hi2:=jr8 (l:=(rows[pb]).1) (u:=(rows[pb]).2) (kk:=.i64) hmal
     have hR2:=sC.m.r pb hbr
     have hk2:=sC.m.k
     simp (disch:=first | (simp;done) | omega) [s98,s0,hlt,j2,sj,jC,fJ,fP,fR,hp,hi1,hi2,hcb,j7 jD,hmi,ema,epb,jjb,hwk]
     refine ⟨by omega,by omega,?_⟩
     exact (sC.set (x:=true) hbr hmal (by omega) (by simp (disch:=first | (simp;done) | omega)) (fun key hk hne=>by simp (disch:=first | (simp;done) | omega) [hne,show ∀ m,s.nx≤m→¬ key=2 * m+1 from hk])).congr fun b a _ _=>j6m hlt hiM epb ema b a
    ·have h0:decide (0≤M[i])=false:=by simpa using hge
     simp (disch:=first | (simp;done) | omega) [hge,s98,hwk,hlt]
     exact (sC.congr fun b a _ _=>jz7 hlt hiM (by omega) b a).keep (by omega) fun key hk=>by simp (disch:=first | (simp;done) | omega) [show ∀ m,s.nx≤m→¬ key=2 * m+1 from hk]
   ·have:i=(readH g).length:=by omega
    subst this
    clear hi hlt
    simp (disch:=first | (simp;done) | omega) [s98,s97,s2]
    refine jz fun st hst=>?_
    have g0:st.tm 0 = .ptr N.kJ N.uJ 0:=by rw [hst];simp [s0]
    have g2:st.tm 2 = .int .i64 g.ts.length:=by rw [hst];simp [s2]
    have g128:st.tm 128 = .int .i64 g.ts.length:=by rw [hst];simp
    have g129:st.tm 129 = .int .i64 0:=by rw [hst];simp
    have gd:st.df=[]:=by rw [hst];simp [sd]
    have gr:st.ro=ro:=by rw [hst];simp [sro]
    obtain ⟨R,hR'⟩:∃ R,R=Yt g M:=⟨_,rfl⟩
    have gC:CI g lvl M N ob ub kP uP rows (fun b a=>war R 0 b a) st.ob st.nx:=(sC.congr (f':=fun b a=>war R 0 b a) fun b a _ _=>(ji3 hm a b).trans (by rw [hR'];rfl)).keep (by rw [hst];simp;omega) fun key hk=>by rw [hst];simp
    have hfar:(fun b a=>war R g.ts.length b a)=farB g M:=by rw [hR'];rfl
    clear hst s0 s2 s96 s97 s98 sd sro sj sl fJ fP sC hR'
    refine jB [(11,14),(129,184)] g.ts.length (fun i x=>x.tm 129 = .int .i64 i∧CI g lvl M N ob ub kP uP rows (fun b a=>war R i b a) x.ob x.nx) rfl rfl ⟨by simpa using g129,gC⟩ ?_
    rintro k s hk ⟨s129,sC⟩ f
    have s0:s.tm 0 = .ptr N.kJ N.uJ 0:=by rw [f.t 0 (by simp)];simp [g0]
    have s2:s.tm 2 = .int .i64 g.ts.length:=by rw [f.t 2 (by simp)];simp [g2]
    have s128:s.tm 128 = .int .i64 g.ts.length:=by rw [f.t 128 (by simp)];simp [g128]
    have sd:s.df=[]:=by rw [f.d];simp [gd]
    have sro:s.ro=ro:=by rw [f.r];simp [gr]
    clear f
    by_cases hkl:k<g.ts.length
    ·have hwk:=jl hkl (by omega)
     simp (disch:=first | (simp;done) | omega) [s129,s128,s2,hkl]
     refine jz fun st hst=>?_
     have t0:st.tm 0 = .ptr N.kJ N.uJ 0:=by rw [hst];simp [s0]
     have t2:st.tm 2 = .int .i64 g.ts.length:=by rw [hst];simp [s2]
     have t11:st.tm 11 = .int .i64 k:=by rw [hst];simp
     have t129:st.tm 129 = .int .i64 k:=by rw [hst];simp [s129]
     have t132:st.tm 132 = .int .i64 g.ts.length:=by rw [hst];simp
     have t133:st.tm 133 = .int .i64 0:=by rw [hst];simp
     have td:st.df=[]:=by rw [hst];simp [sd]
     have tr:st.ro=ro:=by rw [hst];simp [sro]
     have tC:CI g lvl M N ob ub kP uP rows (fD2 R k 0) st.ob st.nx:=(sC.congr fun b a _ _=>(jvl R k b a).symm).keep (by rw [hst];simp;omega) fun key hk=>by rw [hst];simp
     clear hst s0 s2 s128 s129 sd sro sC
     refine jB [(12,14),(133,183)] g.ts.length (fun i x=>x.tm 133 = .int .i64 i∧CI g lvl M N ob ub kP uP rows (fD2 R k i) x.ob x.nx) rfl rfl ⟨by simpa using t133,tC⟩ ?_
     rintro b s hb ⟨s133,sC⟩ f
     have s0:s.tm 0 = .ptr N.kJ N.uJ 0:=by rw [f.t 0 (by simp)];simp [t0]
     have s2:s.tm 2 = .int .i64 g.ts.length:=by rw [f.t 2 (by simp)];simp [t2]
     have s11:s.tm 11 = .int .i64 k:=by rw [f.t 11 (by simp)];simp [t11]
     have s129:s.tm 129 = .int .i64 k:=by rw [f.t 129 (by simp)];simp [t129]
     have s132:s.tm 132 = .int .i64 g.ts.length:=by rw [f.t 132 (by simp)];simp [t132]
     have sd:s.df=[]:=by rw [f.d];simp [td]
     have sro:s.ro=ro:=by rw [f.r];simp [tr]
     clear f
     by_cases hbl:b<g.ts.length
     ·have hwb:=jl hbl (by omega)
      have sj:=sC.j
      have hp:=sC.m.p
      have hbr:b<rows.length:=by omega
      have hkr:k<rows.length:=by omega
      have hcb:=sC.m.c b hbr
      have hrb:=jg9 (n:=g.ts.length) (List.replicate (g.ts.length - rows.length) (.sl none true 0 [])) hbr
      have hrk:=jg9 (n:=g.ts.length) (List.replicate (g.ts.length - rows.length) (.sl none true 0 [])) hkr
      have hi1:=jr8 (l:=kP) (u:=uP) (kk:=.i64) hbl
      have hi2:=jr8 (l:=kP) (u:=uP) (kk:=.i64) hkl
      have hi3:=jr8 (l:=(rows[b]).1) (u:=(rows[b]).2) (kk:=.i64) hkl
      have hfb:=j6l R k b k
      have hrg:(List.range g.ts.length)[k]? = some k:=List.getElem?_range hkl
      cases hc:war R k b k
      ·rw [hc] at hfb
       simp (disch:=first | (simp;done) | omega) [s133,s132,s0,s11,hbl,j2,sj,jC,hp,hi1,hi3,hcb,jjb,hfb,hwb,hrg]
       exact (sC.congr fun b' a _ _=>jvm hc b' a).keep (by omega) (Was.refl _ _)
      ·rw [hc] at hfb
       simp (disch:=first | (simp;done) | omega) [s133,s132,s0,s11,hbl,j2,sj,jC,hp,hi1,hi2,hi3,hcb,jjb,hfb,hrg]
       refine jz fun st hst=>?_
       have u0:st.tm 0 = .ptr N.kJ N.uJ 0:=by rw [hst];simp [s0]
       have u12:st.tm 12 = .int .i64 b:=by rw [hst];simp
       have u133:st.tm 133 = .int .i64 b:=by rw [hst];simp [s133]
       have u153:st.tm 153 = .osl (rows[k]).1 (rows[k]).2 0 g.ts.length 1:=by rw [hst];simp
       have u154:st.tm 154 = .int .i64 g.ts.length:=by rw [hst];simp
       have u155:st.tm 155 = .int .i64 0:=by rw [hst];simp
       have ud:st.df=[]:=by rw [hst];simp [sd]
       have ur:st.ro=ro:=by rw [hst];simp [sro]
       have uC:CI g lvl M N ob ub kP uP rows (fD3 R k b 0) st.ob st.nx:=(sC.congr fun b' a _ _=>(jvj R k b b' a).symm).keep (by rw [hst];simp;omega) fun key hk=>by rw [hst];simp
       clear hst s0 s2 s11 s129 s132 s133 sd sro sC sj hp hcb hrb hrk hfb
       refine jB [(13,14),(155,182)] g.ts.length (fun i x=>x.tm 155 = .int .i64 i∧CI g lvl M N ob ub kP uP rows (fD3 R k b i) x.ob x.nx) rfl rfl ⟨by simpa using u155,uC⟩ ?_
       rintro t s ht ⟨s155,sC⟩ f
       have s0:s.tm 0 = .ptr N.kJ N.uJ 0:=by rw [f.t 0 (by simp)];simp [u0]
       have s12:s.tm 12 = .int .i64 b:=by rw [f.t 12 (by simp)];simp [u12]
       have s133:s.tm 133 = .int .i64 b:=by rw [f.t 133 (by simp)];simp [u133]
       have s153:s.tm 153 = .osl (rows[k]).1 (rows[k]).2 0 g.ts.length 1:=by rw [f.t 153 (by simp)];simp [u153]
       have s154:s.tm 154 = .int .i64 g.ts.length:=by rw [f.t 154 (by simp)];simp [u154]
       have sd:s.df=[]:=by rw [f.d];simp [ud]
       have sro:s.ro=ro:=by rw [f.r];simp [ur]
       clear f
       by_cases htl:t<g.ts.length
       ·have hwt:=jl htl (by omega)
        have sj:=sC.j
        have sl:=sC.le
        have hp:=sC.m.p
        have hcb:=sC.m.c b hbr
        have hck:=sC.m.c k hkr
        have hrb:=jg9 (n:=g.ts.length) (List.replicate (g.ts.length - rows.length) (.sl none true 0 [])) hbr
        have hi4:=jr8 (l:=(rows[b]).1) (u:=(rows[b]).2) (kk:=.i64) htl
        have hi5:=jr8 (l:=(rows[k]).1) (u:=(rows[k]).2) (kk:=.i64) htl
        have hf1:=j6k R k b t
        have hf2:=jz4 R k b t t
        have hR2:=sC.m.r b hbr
        have hk2:=sC.m.k
        have hrt:(List.range g.ts.length)[t]? = some t:=List.getElem?_range htl
        have stp:∀ v:Bool,v=(war R k b t || war R k k t)→∀ (ob':Nat→Option Obj') (nx':Nat),s.nx≤nx'→ob' (rows[b]).1=some ⟨(rows[b]).2,.cells (splice ((List.range g.ts.length).map fun a=>V.bool (fD3 R k b t b a)) t [.bool v])⟩→(∀ key,Off s.nx key→key≠(rows[b]).1→ob' key=s.ob key)→CI g lvl M N ob ub kP uP rows (fD3 R k b (t+1)) ob' nx' :=
         fun v hv ob' nx' hn h1 h2=>(sC.set hbr htl hn h1 h2).congr fun b' a _ _=>by rw [hv];exact jvk hc b' a
        cases hA:war R k b t
        ·rw [hA] at hf1
         simp (disch:=first | (simp;done) | omega) [s155,s154,s153,s12,s0,htl,j2,sj,jC,hp,hi1,hi4,hi5,hcb,hck,jjb,hf1,hf2,hwt,hrt]
         exact ⟨by omega,by omega,stp _ (by first | (rw [hA];done) | (rw [hA];simp)) _ _ (by omega) (by simp) fun key hk hne=>by simp [hne]⟩
        ·rw [hA] at hf1
         simp (disch:=first | (simp;done) | omega) [s155,s154,s153,s12,s0,htl,j2,sj,jC,hp,hi1,hi4,hi5,hcb,hck,jjb,hf1,hf2,hwt,hrt]
         exact ⟨by omega,by omega,stp _ (by first | (rw [hA];done) | (rw [hA];simp)) _ _ (by omega) (by simp) fun key hk hne=>by simp [hne]⟩
       ·have:t=g.ts.length:=by omega
        subst this
        simp (disch:=first | (simp;done) | omega) [s155,s154,s133,hbl,hwb]
        exact (sC.congr fun b' a _ ha=>jz3 b' ha).keep (by omega) (Was.refl _ _)
     ·have:b=g.ts.length:=by omega
      subst this
      simp (disch:=first | (simp;done) | omega) [s133,s132,s129,hkl,hwk]
      exact (sC.congr fun b a hb' _=>jz5 (by omega) a).keep (by omega) (Was.refl _ _)
    ·have:k=g.ts.length:=by omega
     subst this
     simp (disch:=first | (simp;done) | omega) [s129,s128]
     refine jvr (.inl rfl) (by simp [sd]) ⟨rfl,kP,uP,rows,hrl,?_⟩
     rw [← hfar]
     exact sC.keep (by simp) fun key hk=>by simp
end Go.Pv.T

/- The next map: copies that are owned, and the closure. -/
namespace Go.Pv.T
open Go Go.Pv
theorem jqt {Yf:YF} {f:FuncId} {q:A} {xs:List A} {st:St} {ub:Nat} {K:St→Nat→Prop} {d:Option Nat} {nm:Bool} {first captured vs:List V} {P:V × (Nat→Option Obj') × (Nat→Bool) × Nat→Prop}
 (hq:eval E st.tm q = .fn (.func f) first captured) (hx:first++xs.map (eval E st.tm)++captured=vs) (hs:E.sh nm f=true)
 (he:∃ r,EvS E Yf.y f vs st.ob st.tk st.ro ((st.fb+d.getD 0+1) * 1024) ub r∧P r) (h:∀ v ob' tk' ub',P (v,ob',tk',ub')→K (jo3 st d v ob' tk') ub'):j8 E Yf ⟨d,.callV q xs,none,nm⟩ st ub K:=by
 have hsh:jF E nm (eval E st.tm) (.callV q xs)=some (f,vs):=by simp only [jF,hq,hs,hx,Bool.not_true,Bool.false_and,Bool.false_eq_true,if_false]
 simp only [j8,wanted,jg,hq,hsh]
 obtain ⟨r,hr,hP⟩:=he
 exact .inl ⟨hs,EvS.list ⟨r,hr,h r.1 r.2.1 r.2.2.1 r.2.2.2 hP⟩⟩
def Old (ob:Nat→Option Obj') (ub:Nat) (ob':Nat→Option Obj'):Prop:=∀ k,(∀ m,ub≤m→k≠2 * m+1)→ob' k=ob k
def NewAt (ub:Nat) (l:List Int) (v:V) (ob':Nat→Option Obj') (ub':Nat):Prop:=∃ m,ub≤m∧m<ub'∧v = .osl (2 * m+1) m 0 l.length 1∧ob' (2 * m+1)=some ⟨m,.cells (l.flatMap intC)⟩
theorem jga {E:Env} {Yf:YF} {st:St} {ub:Nat} {K:St→Nat→Prop} {d:Option Nat} {nm o:Bool} {sz bytes l u off n z:Nat} {cs:List V} {s x:A} (hs:eval E st.tm s = .osl l u off n z) (hx:jM st.ob sz (eval E st.tm x)=some []) (ho:st.ob l=some ⟨u,.cells cs⟩)
 (h:Q2 K st d ub (.osl l u off n z)):j8 E Yf ⟨d,.append o sz bytes s x,none,nm⟩ st ub K:=by
 have hoc:j2 st.ob l u=some cs:=by simp [j2,ho]
 rw [jS _ rfl rfl]
 simp only [aop,hs,hx,hoc,Option.bind_some,if_true,Yn,Wx]
 exact h
@[simp] theorem eqVV_sl (ob:Nat→Option Obj') (neg nl:Bool) (t t':Option (Nat × Nat)) (n:Nat) (cs:List V):jvq ob neg .sl (.sl t nl n cs) (.sl t' true 0 [])=some (.bool (xor neg nl)):=rfl
def CopyP (ob:Nat→Option Obj') (tk:Nat→Bool) (ub:Nat) (l:List Int) (r:V × (Nat→Option Obj') × (Nat→Bool) × Nat):Prop:=NewAt ub l r.1 r.2.1 r.2.2.2∧Old ob ub r.2.1∧r.2.2.1=tk∧ub≤r.2.2.2
theorem sv68 {Yf:YF} (l:List Int) (hl:l.length≤1000000000) {ob:Nat→Option Obj'} {tk:Nat→Bool} {ro base ub:Nat} (hro:ro≤ub):∃ r,EvS E Yf.y 68 [slOf false intC l] ob tk ro base ub r∧CopyP ob tk ub l r:=by
 refine YK (af:=S68) rfl (by decide) ?_
 show wpC E Yf S68.body _ (YQ S68.res _)
 simp [S68,slOf]
 refine XP (cs:=[]) rfl rfl rfl ?_
 simp
 by_cases hn:l=[]
 ·subst hn
  refine jga (l:=2 * (ub+192)+1) (u:=ub+192) (off:=0) (n:=0) (z:=1) (cs:=[]) (by simp) (by simp [jM]) (by simp) ?_
  simp
  refine Qt (by simp) ⟨⟨ub+192,by omega,by simp;try omega,by simp,by simp⟩,fun k hk=>?_,by simp [jv],by simp;try omega⟩
  have:=hk (ub+192) (by omega)
  simp [this]
 ·have hne:l.flatMap intC≠[]:=fun e=>hn (by have:=congrArg List.length e;rw [jA jD] at this;exact List.length_eq_zero_iff.1 (by simpa using this))
  have hd:(l.flatMap intC).length / 1=l.length:=by rw [jA jD];simp
  refine Wj (l:=2 * (ub+192)+1) (u:=ub+192) (n:=0) (cs:=[]) (ys:=l.flatMap intC) (by simp) (by simp [jM,jA jD]) (by simp) hne (by simp;omega) (by simp) (by decide) (by simp [intC]) (by rw [hd];omega) (by rw [hd];omega) ?_
  rw [hd]
  simp
  refine Qt (by simp) ⟨⟨ub+320,by omega,by simp;try omega,by simp,by simp⟩,fun k hk=>?_,by simp [j0x],by simp;try omega⟩
  have h1:=hk (ub+192) (by omega)
  have h2:=hk (ub+320) (by omega)
  simp [h1,h2]
theorem sv68n {Yf:YF} {ob:Nat→Option Obj'} {tk:Nat→Bool} {ro base ub:Nat}:∃ r,EvS E Yf.y 68 [.sl none true 0 []] ob tk ro base ub r∧r.1 = .sl none true 0 []∧r.2.1=ob∧r.2.2.1=tk∧ub≤r.2.2.2:=by
 refine YK (af:=S68) rfl (by decide) ?_
 show wpC E Yf S68.body _ (YQ S68.res _)
 simp [S68]
 exact Qt (by simp) ⟨by simp,by simp,by simp,by simp;omega⟩
end Go.Pv.T

/- Is it an order of who committed? -/
namespace Go.Pv.T
open Go Go.Pv
set_option maxRecDepth 100000 in
theorem evo70 {S C:List Int} {l u:Nat} {t:Option (Nat × Nat)} {nl:Bool} {ob:Nat→Option Obj'} {ub:Nat} (ho:ob l=some ⟨u,.cells (S.flatMap intC)⟩) (_:Off ub l) (_:S.length≤1000000000) (hC:C.length≤1000000000) (tk:Nat→Bool) (base:Nat) :
 EvO E 70 [.osl l u 0 S.length 1,.sl t nl C.length (C.flatMap intC)] ob tk base ub (.bool (S == C)):=by
 refine Xn (af:=S70) rfl ?_
 by_cases hn:S.length=C.length
 ·simp [S70,hn]
  refine jz fun st hst=>?_
  have g0:st.tm 0 = .osl l u 0 C.length 1:=by rw [hst];simp
  have g1:st.tm 1 = .sl t nl C.length (C.flatMap intC):=by rw [hst];simp
  have g12:st.tm 12 = .int .i64 C.length:=by rw [hst];simp
  have g13:st.tm 13 = .int .i64 0:=by rw [hst];simp
  have gd:st.df=[]:=by rw [hst];simp
  have go:st.ob l=some ⟨u,.cells (S.flatMap intC)⟩:=by rw [hst];simpa using ho
  clear hst
  refine jB [(4,5),(13,25)] C.length (fun i x=>x.tm 13 = .int .i64 i∧(∀ k,k<i→S[k]? = C[k]?)∧x.ob l=some ⟨u,.cells (S.flatMap intC)⟩) rfl rfl ⟨by simpa using g13,fun k h=>by omega,go⟩ ?_
  rintro i x hi ⟨x13,hall,xo⟩ f
  have x0:x.tm 0 = .osl l u 0 C.length 1:=by rw [f.t 0 (by simp)];simp [g0]
  have x1:x.tm 1 = .sl t nl C.length (C.flatMap intC):=by rw [f.t 1 (by simp)];simp [g1]
  have x12:x.tm 12 = .int .i64 C.length:=by rw [f.t 12 (by simp)];simp [g12]
  have xd:x.df=[]:=by rw [f.d];simp [gd]
  clear f
  by_cases hlt:i<C.length
  ·have hwk:=jl hlt (by omega)
   have h1:=JL S (i:=i) (by omega)
   have h2:=JL C hlt
   have hi1:=jr8 (l:=l) (u:=u) (kk:=.i64) hlt
   have hi2:=Jq jD t nl C .i64 hlt
   rw [Nat.mul_one] at hi2
   by_cases e:S[i]=C[i]
   ·simp [x13,x12,x0,x1,hlt,hi1,hi2,j2,xo,h1,h2,e,hwk]
    intro k hk
    rcases Nat.lt_succ_iff_lt_or_eq.1 hk with h | h
    ·exact hall k h
    ·subst h;simp [hlt,show k<S.length by omega,e]
   ·have hne:(S == C)=false:=by
     rw [beq_eq_false_iff_ne]
     intro h
     subst h
     exact e rfl
    have e':(S[i] != C[i])=true:=by simpa using e
    simp [x13,x12,x0,x1,hlt,hi1,hi2,j2,xo,h1,h2,e']
    exact j4 (by simp [xd]) (by simp [hne]) rfl
  ·have:i=C.length:=by omega
   subst this
   have he:S=C:=List.ext_getElem? fun k=>by
    rcases Nat.lt_or_ge k C.length with h | h
    ·exact hall k h
    ·rw [List.getElem?_eq_none (by omega),List.getElem?_eq_none h]
   simp [x13,x12]
   exact j4 (by simp [xd]) (by simp [he]) rfl
 ·have hne:(S == C)=false:=by
   rw [beq_eq_false_iff_ne]
   intro h
   subst h
   exact hn rfl
  have hn':((S.length:Int) != (C.length:Int))=true:=by simp;omega
  simp [S70,hn']
  exact j4 (by simp) (by simp [hne]) rfl
theorem ev70 {nl:Bool} {n:Nat} {cs:List V}:Ev E 70 [.sl none true 0 [],.sl none nl n cs] (.bool (n == 0)):=by
 refine jR (af:=F70) rfl ?_
 by_cases hn:n=0
 ·subst hn
  simp [F70]
  refine jz fun st hst=>?_
  have g12:st.tm 12 = .int .i64 (0:Nat):=by rw [hst];simp
  have g13:st.tm 13 = .int .i64 0:=by rw [hst];simp
  have gd:st.df=[]:=by rw [hst];simp
  clear hst
  refine jB [(4,5),(13,25)] 0 (fun i x=>x.tm 13 = .int .i64 i) rfl rfl (by simpa using g13) ?_
  rintro i x hi x13 f
  have x12:x.tm 12 = .int .i64 (0:Nat):=by rw [f.t 12 (by simp)];simp [g12]
  have xd:x.df=[]:=by rw [f.d];simp [gd]
  have:i=0:=by omega
  subst this
  simp [x13,x12]
  exact j4 (by simp [xd]) (by simp) rfl
 ·have h0:((0:Int) != (n:Int))=true:=by simp;omega
  simp [F70,h0]
  exact j4 rfl (by simp [hn]) rfl
set_option maxRecDepth 100000 in
theorem ev27 {g:Hist'} (hs:Small g) {on:Bool} {O:List Int} (hon:on=true→O=[]) (hO:O.length≤1000000000):Ev E 27 [.agg (j3 g),slOf on intC O] (.bool (jk g O)):=by
 have e52:=ev52 hs
 obtain ⟨vc,evc,hvc⟩:=j1j hs
 refine jR (af:=F27) rfl ?_
 cases hw:jm g
 ·rw [hw] at e52
  have hb:jk g O=false:=by simp [jk,hw]
  simp [F27,j2,j3]
  refine jL e52 (by simp [j3]) rfl (by simp [j3]) ?_
  simp [hb]
  exact j4 rfl (by simp) rfl
 ·rw [hw] at e52
  rw [WX hw] at hvc
  have hcl:=WA g
  have hts:=hs.ts
  simp [F27,j2,j3]
  refine jL e52 (by simp [j3]) rfl (by simp [j3]) ?_
  simp
  cases on
  ·refine JS (vs:=[slOf false intC O]) (by simp) rfl (sv68 O hO (by simp)) ?_
   rintro v ob1 tk1 ub1 ⟨⟨m,hm1,hm2,hv,hmo⟩,hold,htk,hub⟩
   simp only at hv hmo hold htk hub hm2
   subst hv
   simp
   refine JS (vs:=[.osl (2 * m+1) m 0 O.length 1]) (by simp) rfl (sv69 (XK O).symm (QR O) hO hmo (by simp) (fun k hk=>by omega) (by simp)) ?_
   rintro w ob2 tk2 ub2 ⟨h1,h2,h3,h4⟩
   simp only at h1 h2 h3 h4
   have o4:ob2 4=some ⟨0,.cells (j3 g)⟩:=by
    rw [h2 4 (by omega) (fun k hk=>by omega)]
    simp
    rw [hold 4 (fun k hk=>by omega)]
    simp [j3]
   simp [j2,o4,j3]
   refine jL evc (by simp [j3]) rfl (by simp [j3]) ?_
   refine XH hvc fun tc addc=>?_
   simp
   refine Xr (vs:=[.osl (2 * m+1) m 0 O.length 1,.sl tc (comL g).isEmpty (comL g).length ((comL g).flatMap intC)]) (by simp) rfl rfl (by
    have hl:=(XK O).length_eq
    rw [← hl]
    exact evo70 (by simpa using h1) (fun k hk=>by omega) (by rw [hl];exact hO) (by omega) _ _) ?_
   rw [jbd hw (XK O).symm (QR O)]
   simp
   exact j4 (by simp) (by simp) rfl
  ·have:=hon rfl
   subst this
   refine JS (vs:=[.sl none true 0 []]) (by simp [slOf]) rfl sv68n ?_
   rintro v ob1 tk1 ub1 ⟨h1,h2,h3,h4⟩
   simp only at h1 h2 h3 h4
   subst h1 h2
   simp
   refine JS (vs:=[.sl none true 0 []]) (by simp) rfl j1x ?_
   rintro w ob2 tk2 ub2 ⟨h1,h2,h5⟩
   simp only at h1 h2 h5
   subst h1
   simp [j2]
   refine jL evc (by simp [j3]) rfl (by simp [j3]) ?_
   refine XH hvc fun tc addc=>?_
   simp
   refine jL (ev70 (nl:=(comL g).isEmpty) (n:=(comL g).length) (cs:=(comL g).flatMap intC)) (by simp) rfl (by simp) ?_
   have:=jbd (g:=g) (O:=[]) hw (S:=[]) (.refl _) .nil
   rw [← this]
   simp
   exact j4 (by simp) (by simp;cases comL g <;> rfl) rfl
end Go.Pv.T

/- The judge is made. -/
namespace Go.Pv.T
open Go Go.Pv
theorem jux {st:St} {ub:Nat} {K:List FP→St→Prop} {d:Option Nat} {nm:Bool} {r:List AOpr} (h:Wt E r K (eval E st.tm) .mkMap st d ub { v:=.map (jO d nm st.fb ub) ub,obs:=[(jO d nm st.fb ub,⟨ub,.mp 0 []⟩)] }):jI E (⟨d,.mkMap,none,nm⟩::r) st ub K:=by
 rw [JT rfl]
 simp only [aop,JR,jP,X9]
 exact h
theorem jq3 {α:Type} {f:α→V} {x y z:A} {l u ver:Nat} {k:Int} {a:α} {st:St} {ub:Nat} {K:List FP→St→Prop} {d:Option Nat} {nm:Bool} {r:List AOpr} (m:List (Int × α)) (hm:eval E st.tm x = .map l u) (hk:eval E st.tm y = .int .i64 k) (hv:(eval E st.tm z).strip=f a)
 (ho:st.ob l=some ⟨u,.mp ver (MP f m)⟩) (hro:st.ro≤u) (h:Wt E r K (eval E st.tm) (.mapSet .int x y z) st d ub { v:=J3,obs:=[(l,⟨u,.mp (ver+1) (MP f (jam m k a))⟩)] }):jI E (⟨d,.mapSet .int x y z,none,nm⟩::r) st ub K:=by
 have hob:jd st.ob l u=some (MP f m):=by simp [jd,ho]
 have hver:J5 st.ob l=ver:=by simp [J5,ho]
 rw [JT rfl]
 simp only [aop,hm,hk,jax,if_true,hob,Option.bind_some,Wl,hver,hv]
 rw [if_pos (by simpa using hro)]
 unfold jam at h
 cases hf:jw m k with
 | none =>
  rw [hf] at h
  simp only [Option.map_none,jP]
  simpa [MP] using h
 | some p =>
  rw [hf] at h
  simp only [Option.map_some,jP]
  have e:(MP f m).set p.1 (V.int .i64 k,f a)=MP f (m.set p.1 (k,a)):=by simp [MP,List.map_set]
  rw [e]
  exact h
def BegR (g:Hist') (lvl:Int) (M O:List Int) (ob:Nat→Option Obj') (ub:Nat) (r:V × (Nat→Option Obj') × (Nat→Bool) × Nat):Prop :=
 ub≤r.2.2.2∧Was ub ob r.2.1∧if WH g lvl M O=0 then ∃ N,r.1 = .tup [.ptr N.kJ N.uJ 0,.int .i64 0]∧Jd g lvl M O N r.2.1 r.2.2.2 else r.1 = .tup [.nilptr,.int .i64 (WH g lvl M O)]
set_option maxRecDepth 100000 in
theorem sv65 {Yf:YF} {g:Hist'} (hs:Small g) {lvl:Int} {nl on:Bool} {M O:List Int} (hM:M.length≤1000000) (hO:O.length≤1000000) (hon:on=true→O=[]) {ob:Nat→Option Obj'} {tk:Nat→Bool} {ro base ub:Nat} (hro:ro≤ub) :
 ∃ r,EvS E Yf.y 65 [.int .i64 lvl,.agg (j3 g),slOf nl intC M,slOf on intC O] ob tk ro base ub r∧BegR g lvl M O ob ub r:=by
 have e52:=ev52 hs
 have e53:=ev53 hs (b:=nl) M hM
 rw [is_eq] at e53
 have e27:=ev27 hs (on:=on) hon (O:=O) (by omega)
 obtain ⟨vr,evr,hvr⟩:=ev86 hs
 refine YK (af:=S65) rfl (by decide) ?_
 show wpC E Yf S65.body _ (YQ S65.res _)
 have bad:∀ (st:St) (c:Int),WH g lvl M O=c→c≠0→st.tm 8 = .nilptr→st.tm 9 = .int .i64 c→st.df=[]→ub≤st.nx→Was ub ob st.ob→YQ [.t 8,.t 9] (BegR g lvl M O ob ub) .ret st:=fun st c h1 h2 h3 h4 h5 h6 h7=>by
  refine jwx h5 ⟨h6,h7,?_⟩
  rw [if_neg (by rw [h1];exact h2),h1]
  simp [h3,h4]
 simp (disch:=first | (simp;done) | omega) [S65,j2,j3]
 refine jL e52 (by simp [j3]) rfl (by simp [j3]) ?_
 cases hw:jm g
 ·simp
  refine bad _ 4 (by simp [WH,hw]) (by decide) (by simp) (by simp) (by simp) (by simp;try omega) fun key hk=>by simp (disch:=first | (simp;done) | omega) [show ∀ m,ub≤m→¬ key=2 * m+1 from hk]
 ·rw [hw] at e52
  simp
  by_cases c1:lvl<1
  ·simp [c1]
   refine bad _ 2 (by simp [WH,hw,c1]) (by decide) (by simp) (by simp) (by simp) (by simp;try omega) fun key hk=>by simp (disch:=first | (simp;done) | omega) [show ∀ m,ub≤m→¬ key=2 * m+1 from hk]
  by_cases c2:3<lvl
  ·simp [c1,c2]
   refine bad _ 2 (by simp [WH,hw,c2]) (by decide) (by simp) (by simp) (by simp) (by simp;try omega) fun key hk=>by simp (disch:=first | (simp;done) | omega) [show ∀ m,ub≤m→¬ key=2 * m+1 from hk]
  simp (disch:=first | (simp;done) | omega) [c1,c2,j2]
  refine jL e53 (by simp [j3,slOf]) rfl (by simp [j3,slOf]) ?_
  cases hm:jbr g M
  ·simp
   refine bad _ 2 (by simp [WH,hw,hm]) (by decide) (by simp) (by simp) (by simp) (by simp;try omega) fun key hk=>by simp (disch:=first | (simp;done) | omega) [show ∀ m,ub≤m→¬ key=2 * m+1 from hk]
  rw [hm] at e53
  simp (disch:=first | (simp;done) | omega) [j2]
  refine jL e27 (by simp [j3,slOf]) rfl (by simp [j3,slOf]) ?_
  cases ho:jk g O
  ·simp
   refine bad _ 2 (by simp [WH,hw,ho]) (by decide) (by simp) (by simp) (by simp) (by simp;try omega) fun key hk=>by simp (disch:=first | (simp;done) | omega) [show ∀ m,ub≤m→¬ key=2 * m+1 from hk]
  have he:WH g lvl M O=0:=by simp [WH,hw,hm,ho];omega
  have hrd:jaj g=readH g:=by simp [jaj,hw]
  rw [hrd] at hvr
  simp (disch:=first | (simp;done) | omega) [j2]
  refine Jp evr (by simp [j3]) rfl (by simp [j3]) ?_
  refine XH hvr fun tr addr=>?_
  simp (disch:=first | (simp;done) | omega)
  refine jux ?_
  simp
  refine jq3 (f:=jbg) (a:=(-1:Int)) (ver:=0) (k:=-1) [] rfl rfl rfl (by simp [MP]) (by simp;omega) ?_
  simp (disch:=first | (simp;done) | omega) [splice,V.cells,X5,Wv,jdr,jaz,rdOb,rdTk,lOf,Delta.wo,Delta.wt,jam,jw,slOf]
  refine ⟨YS (by omega),?_⟩
  refine jz fun st hst=>?_
  obtain ⟨uA,huA⟩:∃ u,u=ub+1984:=⟨_,rfl⟩
  obtain ⟨uJ,huJ⟩:∃ u,u=ub+2240:=⟨_,rfl⟩
  have g10:st.tm 10 = .ptr (2 * uJ+1) uJ 0:=by rw [hst,huJ];simp [Nat.add_assoc]
  have pJ:st.ob (2 * uJ+1)=some ⟨uJ,.cells [.int .i64 lvl,slOf g.sn strC g.ss,slOf g.kn strC g.ks,slOf g.tn txnC g.ts,.sl tr (readH g).isEmpty (readH g).length ((readH g).flatMap jG),slOf nl intC M,.map (2 * uA+1) uA,.sl none true 0 []]⟩:=by
   rw [hst,huJ,huA];simp (disch:=first | (simp;done) | omega) [slOf,Nat.add_assoc]
  have pA:st.ob (2 * uA+1)=some ⟨uA,.mp 1 (MP jbg (atM O 0))⟩:=by
   rw [hst,huA];simp (disch:=first | (simp;done) | omega) [atM,two_inj,MP,jbg,Nat.add_assoc]
  have gn:uJ<st.nx:=by rw [hst,huJ];simp
  have g0:st.tm 0 = .int .i64 lvl:=by rw [hst];simp
  have g45:st.tm 45=slOf on intC O:=by rw [hst];simp [slOf]
  have g46:st.tm 46 = .int .i64 O.length:=by rw [hst];simp
  have g47:st.tm 47 = .int .i64 0:=by rw [hst];simp
  have gd:st.df=[]:=by rw [hst];simp
  have gr:st.ro=ro:=by rw [hst];simp
  have gw:Was ub ob st.ob:=fun key hk=>by rw [hst];simp (disch:=first | (simp;done) | omega) [show ∀ m,ub≤m→¬ key=2 * m+1 from hk]
  clear hst
  obtain ⟨cJ,hcJ⟩:∃ cJ:List V,cJ=[.int .i64 lvl,slOf g.sn strC g.ss,slOf g.kn strC g.ks,slOf g.tn txnC g.ts,.sl tr (readH g).isEmpty (readH g).length ((readH g).flatMap jG),slOf nl intC M,.map (2 * uA+1) uA,.sl none true 0 []]:=⟨_,rfl⟩
  rw [← hcJ] at pJ
  obtain ⟨ua0,ua1⟩:ub≤uA∧uA<uJ:=by omega
  clear huA huJ
  refine jB [(11,12),(47,58)] O.length (fun i x=>x.tm 47 = .int .i64 i∧(∃ ver,x.ob (2 * uA+1)=some ⟨uA,.mp ver (MP jbg (atM O i))⟩)∧x.ob (2 * uJ+1)=some ⟨uJ,.cells cJ⟩∧Was ub ob x.ob∧uJ<x.nx) rfl rfl ⟨by simpa using g47,⟨_,pA⟩,pJ,gw,gn⟩ ?_
  rintro i x hi ⟨x47,⟨ver,xA⟩,xJ,xw,xn⟩ f
  have x0:x.tm 0 = .int .i64 lvl:=by rw [f.t 0 (by simp)];simp [g0]
  have x10:x.tm 10 = .ptr (2 * uJ+1) uJ 0:=by rw [f.t 10 (by simp)];simp [g10]
  have x45:x.tm 45=slOf on intC O:=by rw [f.t 45 (by simp)];simp [g45]
  have x46:x.tm 46 = .int .i64 O.length:=by rw [f.t 46 (by simp)];simp [g46]
  have xd:x.df=[]:=by rw [f.d];simp [gd]
  have xr:x.ro=ro:=by rw [f.r];simp [gr]
  clear f
  by_cases hlt:i<O.length
  ·have hwk:=jl hlt (by omega)
   have h1:=JL O hlt
   have hnext:atM O (i+1)=jam (atM O i) O[i] (i:Int):=by
    rw [atM,jr hlt]
   simp (disch:=first | (simp;done) | omega) [x47,x46,x45,x10,hlt,j7 jD,h1,j2,xJ,hcJ]
   refine Yc (f:=jbg) (a:=(i:Int)) (ver:=ver) (l:=2 * uA+1) (u:=uA) (k:=O[i]) (atM O i) (by simp) (by simp) (by simp [jbg]) (by simpa using xA) (by simp [xr];omega) ?_
   simp (disch:=first | (simp;done) | omega) [x47,hlt,hwk,hnext,xJ,hcJ,two_inj]
   exact ⟨by omega,fun key hk=>by simp (disch:=first | (simp;done) | omega) [show ∀ m,ub≤m→¬ key=2 * m+1 from hk,xw key hk],by omega⟩
  ·have:i=O.length:=by omega
   subst this
   clear hi hlt
   have fin:∀ (st:St) (N:JN),st.df=[]→st.tm 8 = .ptr N.kJ N.uJ 0→st.tm 9 = .int .i64 0→ub≤st.nx→Was ub ob st.ob→Jd g lvl M O N st.ob st.nx→YQ [.t 8,.t 9] (BegR g lvl M O ob ub) .ret st:=fun st N h1 h2 h3 h4 h5 h6=>by
    refine jwx h1 ⟨h4,h5,?_⟩
    rw [if_pos he]
    exact ⟨N,by simp [h2,h3],h6⟩
   by_cases e2:lvl=2
   ·subst e2
    simp (disch:=first | (simp;done) | omega) [x47,x46,x0,x10]
    refine JS (vs:=[.ptr (2 * uJ+1) uJ 0]) (by simp) rfl (sv113 (lvl:=2) (N:=⟨tr,(readH g).isEmpty,nl,2 * uJ+1,uJ,2 * uA+1,uA,0,0,[]⟩) hs hw hm (by simp [xJ,hcJ,jC]) (fun m hm=>by simp;omega) (by simp [xr];omega) (by simp [xr];omega)) ?_
    rintro v ob1 tk1 ub1 ⟨hv,kP,uP,rows,hrl,hC⟩
    simp only at hv hrl hC
    have hm1:=hC.m
    have hk1:=hm1.k
    have hle:=hC.le
    simp
    refine fin _ ⟨tr,(readH g).isEmpty,nl,2 * uJ+1,uJ,2 * uA+1,uA,kP,uP,rows⟩ (by simp [xd]) (by simp [x10]) (by simp) (by simp;omega) (fun key hk=>?_) ⟨?_,⟨ver,?_⟩,fun _=>⟨?_,by simpa using hrl,fun b hb=>?_,fun m hm=>?_,fun r hr m hm=>?_⟩,fun m hm=>by simp at hm;simp;omega,fun m hm=>by simp at hm;simp;omega,by simp,by simp,fun _=>⟨?_,fun r hr=>?_⟩⟩
    ·have h1:=hC.w key (hk.up (by first | omega | (simp;omega))) (fun e=>hk uJ (by omega) (by simpa using e))
     simp at h1 ⊢
     rw [h1,xw key hk]
    ·simpa [jC] using hC.j
    ·have h1:=hC.w (2 * uA+1) (fun m hm=>by first | omega | (simp at hm;omega)) (by first | omega | (simp;omega))
     simp at h1 ⊢
     rw [h1,xA]
    ·have h1:=hm1.p
     rw [hrl,Nat.sub_self,List.replicate_zero,List.append_nil] at h1
     simpa using h1
    ·have h1:=hm1.c b hb
     rw [farL,List.map_map]
     simpa [Function.comp_def] using h1
    ·exact hm1.offP m (by first | omega | (simp at hm;omega))
    ·obtain ⟨b,hb,rfl⟩:=List.mem_iff_getElem.1 hr
     exact hm1.offR hb m (by first | omega | (simp at hm;omega))
    ·simp;omega
    ·obtain ⟨b,hb,rfl⟩:=List.mem_iff_getElem.1 hr
     have:=(hm1.r b hb).1
     show (rows[b]).1 % 2=1
     omega
   ·have b2:(lvl == 2)=false:=by simpa using e2
    simp (disch:=first | (simp;done) | omega) [x47,x46,x0,x10,b2]
    refine fin _ ⟨tr,(readH g).isEmpty,nl,2 * uJ+1,uJ,2 * uA+1,uA,0,0,[]⟩ (by simp [xd]) (by simp) (by simp) (by simp;omega) (fun key hk=>by simp [xw key hk]) ⟨?_,⟨ver,by simpa using xA⟩,fun h=>absurd h e2,fun m hm=>by simp at hm;simp;omega,fun m hm=>by simp at hm;simp;omega,by simp,by simp,fun h=>absurd h e2⟩
    simp [xJ,hcJ,e2]
end Go.Pv.T

/- Does it hold? -/
namespace Go.Pv.T
open Go Go.Pv
def WE (g:Hist') (lvl:Int) (M O:List Int):Bool:=WH g lvl M O == 0 && jls g lvl M O
theorem j65 {g:Hist'} {lvl:Int} {M O:List Int} (h:WH g lvl M O=0):jm g=true∧1≤lvl∧lvl≤3∧jbr g M=true∧jk g O=true:=by
 unfold WH at h
 cases h1:jm g
 ·simp [h1] at h
 ·cases h2:jbr g M
  ·simp [h1,h2] at h
  ·cases h3:jk g O
   ·simp [h1,h2,h3] at h
   ·simp [h1,h2,h3] at h
    exact ⟨rfl,by omega,by omega,rfl,rfl⟩
set_option maxRecDepth 100000 in
theorem ev26 {g:Hist'} (hs:Small g) (lvl:Int) {nl on:Bool} {M O:List Int} (hM:M.length≤1000000) (hO:O.length≤1000000) (hon:on=true→O=[]) :
 Ev E 26 [.int .i64 lvl,.agg (j3 g),slOf nl intC M,slOf on intC O] (.tup [.bool (WE g lvl M O),.int .i64 (WH g lvl M O)]):=by
 refine jR (af:=F26) rfl ?_
 simp [F26,j2,j3]
 refine JS (vs:=[.int .i64 lvl,.agg (j3 g),slOf nl intC M,slOf on intC O]) (by simp [j3]) rfl (sv65 hs hM hO hon (by simp)) ?_
 rintro v ob1 tk1 ub1 ⟨hub,hW,hr⟩
 simp only at hub hW hr
 by_cases he:WH g lvl M O=0
 ·rw [if_pos he] at hr
  obtain ⟨N,rfl,hJ⟩:=hr
  obtain ⟨hw,h1,h3,hm,ho⟩:=j65 he
  have hmay:=joh hw
  have hR:=Jo hs
  have hMl:=jap hm
  have hE:WE g lvl M O=(Ji (jku g O) (comL g).length && Ji (QY g lvl M O) (readH g).length):=by simp [WE,he,jls]
  rw [hE,he]
  simp
  refine Xr (vs:=[.ptr N.kJ N.uJ 0]) (by simp) rfl rfl (evo66 hs (hJ.keep (Was.refl _ _) (by omega)) hw ho _ _) ?_
  cases hses:Ji (jku g O) (comL g).length
  ·simp
   exact jt (by simp) (by simp) (by simp) rfl rfl
  ·have hj:=hJ.j
   simp (disch:=first | (simp;done) | omega) [j2,hj]
   refine jz fun st hst=>?_
   have g10:st.tm 10 = .ptr N.kJ N.uJ 0:=by rw [hst];simp
   have g11:st.tm 11 = .int .i64 0:=by rw [hst];simp
   have g33:st.tm 33 = .int .i64 (readH g).length:=by rw [hst];simp
   have g34:st.tm 34 = .int .i64 0:=by rw [hst];simp
   have gd:st.df=[]:=by rw [hst];simp
   have gj:Jd g lvl M O N st.ob st.nx:=hJ.keep (fun key hk=>by rw [hst];simp) (by rw [hst];simp;omega)
   clear hst
   refine jB [(8,9),(12,12),(34,42)] (readH g).length (fun i x=>x.tm 34 = .int .i64 i∧Ji (QY g lvl M O) i=true∧Jd g lvl M O N x.ob x.nx) rfl rfl ⟨by simpa using g34,rfl,gj⟩ ?_
   rintro i x hi ⟨x34,hall,xj⟩ f
   have x10:x.tm 10 = .ptr N.kJ N.uJ 0:=by rw [f.t 10 (by simp)];simp [g10]
   have x11:x.tm 11 = .int .i64 0:=by rw [f.t 11 (by simp)];simp [g11]
   have x33:x.tm 33 = .int .i64 (readH g).length:=by rw [f.t 33 (by simp)];simp [g33]
   have xd:x.df=[]:=by rw [f.d];simp [gd]
   clear f
   by_cases hlt:i<(readH g).length
   ·have hwk:=jl hlt (by omega)
    simp [x34,x33,x10,hlt]
    refine Xr (vs:=[.ptr N.kJ N.uJ 0,.int .i64 (i:Int)]) (by simp) rfl rfl (evo67 hs hmay (xj.keep (Was.refl _ _) (by omega)) hm ho hlt _ _) ?_
    cases hri:QY g lvl M O i
    ·simp [x11]
     exact jt (by simp [xd]) (by simp [andF _ hlt hri]) (by simp) rfl rfl
    ·simp [x34,hlt,hwk,Ji,hall,hri]
     exact xj.keep (by exact fun _ _=>rfl) (by omega)
   ·have:i=(readH g).length:=by omega
    subst this
    simp [x34,x33,x11]
    exact jt (by simp [xd]) (by simp [hall]) (by simp) rfl rfl
 ·rw [if_neg he] at hr
  subst hr
  have hE:WE g lvl M O=false:=by simp [WE,he]
  rw [hE]
  have hb:(WH g lvl M O != 0)=true:=by simpa using he
  simp [hb]
  exact jt (by simp) (by simp) (by simp) rfl rfl
end Go.Pv.T

/- A fixed text is read, by the kernel. -/
namespace Go.Pv.T
open Go Go.Pv
def j1v:List UInt8:=[98,101,103,105,110,32,115,10,119,114,105,116,101,32,115,32,120,32,49,10,111,107,32,115,10,98,101,103,105,110,32,115,10,114,101,97,100,32,115,32,120,32,110,105,108,10,111,107,32,115]
def H29:Hist':=⟨false,[[115]],false,[[120]],false,[⟨0,1,false,[⟨true,0,⟨1,1⟩⟩]⟩,⟨0,1,false,[⟨false,0,⟨0,0⟩⟩]⟩]⟩
theorem k57:(jT E 100 noY).d 57 [.str j1v]=some (.tup [(.agg [(.sl (some (0,1)) false 1 [(.str [115])]),(.sl (some (1,1)) false 1 [(.str [120])]),(.sl (some (2,3)) false 2 [(.int .i64 0),(.int .i64 1),(.sl none false 1 [(.bool true),(.int .i64 0),(.int .i64 1),(.int .i64 1)]),(.int .i64 0),(.int .i64 1),(.sl none false 1 [(.bool false),(.int .i64 0),(.int .i64 0),(.int .i64 0)])])]),(.int .i64 0),(.int .i64 0)]):=by kernel_rfl
end Go.Pv.T

/- The fixed example of the axioms. -/
namespace Go.Pv.T
open Go Go.Pv
theorem ji5:Small H29:=⟨by decide,by decide,by decide,by decide,by decide,by decide⟩
theorem h29a:WE H29 3 [-1] [0,1]=false:=by decide +kernel
theorem h29b:WE H29 1 [-1] [0,1]=true:=by decide +kernel
theorem h29c:WH H29 3 [-1] [0,1]=0:=by decide +kernel
theorem h29d:WH H29 1 [-1] [0,1]=0:=by decide +kernel
theorem h29e:jk H29 [0,1]=true:=by decide +kernel
set_option maxRecDepth 100000 in
theorem ev29:Ev E 29 [] (.bool true):=by
 have e1:=ev26 ji5 3 (nl:=false) (on:=false) (M:=[-1]) (O:=[0,1]) (by decide) (by decide) (by simp)
 have e2:=ev26 ji5 1 (nl:=false) (on:=false) (M:=[-1]) (O:=[0,1]) (by decide) (by decide) (by simp)
 have e3:=ev27 ji5 (on:=false) (O:=[0,1]) (by simp) (by decide)
 rw [h29a,h29c] at e1
 rw [h29b,h29d] at e2
 rw [h29e] at e3
 have e57:Ev E 57 [.str j1v] _:=⟨100,k57⟩
 refine jR (af:=F29) rfl ?_
 simp [F29]
 refine jL e57 rfl rfl rfl ?_
 simp [Xj,toksRes,V.toks,V.tok,Qr,Qq,Xc,Nat.blt,j2,splice]
 refine jK (cs:=[.int .i64 (-1)]) (by simp [splice]) rfl rfl ?_
 try simp
 refine jK (cs:=[.int .i64 0,.int .i64 1]) (by simp [splice]) rfl rfl ?_
 simp
 refine jL e1 (by simp [slOf,intC,j3,H29,strC,txnC,opC,V.strip,V.strip1]) rfl (by simp [slOf,intC,j3]) ?_
 rw [JB (by simp [V.plain])]
 simp [j2]
 refine jK (cs:=[.int .i64 (-1)]) (by simp [splice]) rfl rfl ?_
 try simp
 refine jK (cs:=[.int .i64 0,.int .i64 1]) (by simp [splice]) rfl rfl ?_
 simp
 refine jL e2 (by simp [slOf,intC,j3,H29,strC,txnC,opC,V.strip,V.strip1]) rfl (by simp [slOf,intC,j3]) ?_
 rw [JB (by simp [V.plain])]
 simp [j2]
 refine jK (cs:=[.int .i64 0,.int .i64 1]) (by simp [splice]) rfl rfl ?_
 simp
 refine jL e3 (by simp [slOf,intC,j3,H29,strC,txnC,opC,V.strip,V.strip1]) rfl (by simp [slOf,intC,j3]) ?_
 simp
 exact j4 rfl (by simp) rfl
end Go.Pv.T

/- Who commits in a world; may it be. -/
namespace Go.Pv.T
open Go Go.Pv
end Go.Pv.T

/- May a world be? -/
namespace Go.Pv.T
open Go Go.Pv
end Go.Pv.T

/- What a hopeless whole history tells; a world of not too many parts. -/
namespace Go.Pv.T
open Go Go.Pv
section
variable {E:Env} {st:St} {ub:Nat} {K:List FP→St→Prop} {d:Option Nat} {nm:Bool} {r:List AOpr}
end
theorem js3 {α:Type} {f:α→List V} {k:Nat} (hf:∀ a,(f a).length=k) (nl:Bool) (l:List α) (n:Nat) (kk:IntKind):jaf k none (some (.int kk ((min l.length n:Nat):Int))) (slOf nl f l)=some (.sl none nl (min l.length n) ((l.take n).flatMap f)):=by
 have h1:=ji6 (kk:=kk) (t:=none) (nl:=nl) (sz:=k) (cs:=l.flatMap f) (n:=l.length) (k:=min l.length n) (Nat.min_le_left _ _) (jA hf _)
 refine Eq.trans h1 ?_
 rw [jb9 hf]
 congr 2
 rcases Nat.le_total l.length n with h | h
 ·rw [Nat.min_eq_left h,List.take_length,List.take_of_length_le h]
 ·rw [Nat.min_eq_right h]
end Go.Pv.T

/- Transactions that are one's own, in a slice that is one's own. -/
namespace Go.Pv.T
open Go Go.Pv
theorem jmn {st:St} {k:Nat} {v:V} (h:v.pureLeaf=true):JF st (k+1) v=some v:=by
 cases v with
 | sl t nl n cs=>cases t with
  | none=>rfl
  | some t=>cases h
 | osl l u a n s=>cases h
 | _=>simp [JF,h]
theorem jcc {st:St} {k:Nat}:∀ {l:List V},l.all V.pureLeaf=true→l.mapM (JF st (k+1))=some l
 | [],_=>rfl
 | v::l,h=>by
  rw [List.all_cons,Bool.and_eq_true] at h
  rw [List.mapM_cons,jmn h.1,jcc h.2]
  rfl
theorem jua (l:List Op'):(l.flatMap opC).all V.pureLeaf=true:=by
 rw [List.all_flatMap,List.all_eq_true]
 intro t _
 rfl
theorem jlg {f:V→Option V}:∀ {l m l' m':List V},l.mapM f=some l'→m.mapM f=some m'→(l++m).mapM f=some (l'++m')
 | [],m,l',m',h,h'=>by
  cases (show some []=some l' from h)
  exact h'
 | v::l,m,l',m',h,h'=>by
  rw [List.mapM_cons] at h
  rw [List.cons_append,List.mapM_cons]
  cases hv:f v with
  | none=>rw [hv] at h;cases h
  | some v' =>
   rw [hv] at h
   cases hl:l.mapM f with
   | none=>rw [hl] at h;cases h
   | some r =>
    rw [hl] at h
    cases (show some (v'::r)=some l' from h)
    rw [jlg hl h']
    rfl
def txU (p:Txn' × Nat):List V:=[.int .i64 p.1.s,.int .i64 p.1.f,.osl (2 * p.2+1) p.2 0 p.1.ops.length 4]
@[simp] theorem Ys (p:Txn' × Nat):(txU p).length=3:=rfl
structure InO (ob:Nat→Option Obj') (lo hi:Nat) (p:Txn' × Nat):Prop where
 nl:p.1.nl=false
 lo:lo≤p.2
 hi:p.2<hi
 ob:∃ X,ob (2 * p.2+1)=some ⟨p.2,.cells X⟩∧p.1.ops.length * 4≤X.length∧X.take (p.1.ops.length * 4)=p.1.ops.flatMap opC
theorem InO.frame {ob ob':Nat→Option Obj'} {lo hi hi':Nat} {p:Txn' × Nat} (h:InO ob lo hi p) (ho:ob' (2 * p.2+1)=ob (2 * p.2+1)) (hh:hi≤hi'):InO ob' lo hi' p :=
 ⟨h.nl,h.lo,by have:=h.hi;omega,by rw [ho];exact h.ob⟩
def TsO (ob:Nat→Option Obj') (lo hi:Nat) (P:List (Txn' × Nat)) (v:V):Prop :=
 (∀ p∈P,InO ob lo hi p)∧((P=[]∧v = .sl none true 0 [])∨(P≠[]∧∃ u,lo≤u∧u<hi∧(∀ p∈P,p.2≠u)∧v = .osl (2 * u+1) u 0 P.length 3∧ob (2 * u+1)=some ⟨u,.cells (P.flatMap txU)⟩))
theorem TsO.frame {ob ob':Nat→Option Obj'} {lo hi hi':Nat} {P:List (Txn' × Nat)} {v:V} (h:TsO ob lo hi P v) (ho:∀ u,lo≤u→u<hi→ob' (2 * u+1)=ob (2 * u+1)) (hh:hi≤hi'):TsO ob' lo hi' P v:=by
 refine ⟨fun p hp=>(h.1 p hp).frame (ho _ (h.1 p hp).lo (h.1 p hp).hi) hh,?_⟩
 rcases h.2 with h2 | ⟨hne,u,h1,h2,h3,h4,h5⟩
 ·exact .inl h2
 ·exact .inr ⟨hne,u,h1,by omega,h3,h4,by rw [ho u h1 h2];exact h5⟩
theorem js2 {st:St} {lo hi:Nat} {p:Txn' × Nat} (h:InO st.ob lo hi p) (hr:st.ro≤lo):JF st 5 (.osl (2 * p.2+1) p.2 0 p.1.ops.length 4)=some (slOf p.1.nl opC p.1.ops):=by
 obtain ⟨X,h1,h2,h3⟩:=h.ob
 have hlo:=h.lo
 have hoc:j2 st.ob (2 * p.2+1) p.2=some X:=by simp [j2,h1]
 show ((j2 st.ob (2 * p.2+1) p.2).bind fun cs=>if Nat.ble st.ro p.2=true∧0+p.1.ops.length * 4≤cs.length then (((cs.drop 0).take (p.1.ops.length * 4)).mapM (JF st 4)).map fun cs'=>V.sl none false p.1.ops.length cs' else none)=_
 rw [hoc,Option.bind_some,if_pos ⟨Nat.ble_eq ▸ (by omega),by omega⟩,List.drop_zero,h3,jcc (jua _),h.nl]
 rfl
theorem jg4 {st:St} {lo hi:Nat} (hr:st.ro≤lo):∀ {P:List (Txn' × Nat)},(∀ p∈P,InO st.ob lo hi p)→(P.flatMap txU).mapM (JF st 5)=some ((P.map (·.1)).flatMap txnC)
 | [],_=>rfl
 | p::P,h=>by
  rw [List.flatMap_cons,List.map_cons,List.flatMap_cons]
  refine jlg ?_ (jg4 hr fun q hq=>h q (List.mem_cons_of_mem _ hq))
  have:=js2 (h p (List.mem_cons_self ..)) hr
  show [V.int .i64 p.1.s,.int .i64 p.1.f,.osl (2 * p.2+1) p.2 0 p.1.ops.length 4].mapM (JF st 5)=_
  rw [List.mapM_cons,List.mapM_cons,List.mapM_cons,this]
  rfl
theorem TsO.out {st:St} {lo hi:Nat} {P:List (Txn' × Nat)} {v:V} (h:TsO st.ob lo hi P v) (hr:st.ro≤lo):jd4 st v P.isEmpty P.length ((P.map (·.1)).flatMap txnC):=by
 rcases h.2 with ⟨rfl,rfl⟩ | ⟨hne,u,h1,h2,h3,rfl,h5⟩
 ·exact jbu _ none true 0 []
 ·intro keep i
  have hoc:j2 st.ob (2 * u+1) u=some (P.flatMap txU):=by simp [j2,h5]
  have hs:JF st 6 (.osl (2 * u+1) u 0 P.length 3)=some (.sl none false P.length ((P.map (·.1)).flatMap txnC)):=by
   show ((j2 st.ob (2 * u+1) u).bind fun cs=>if Nat.ble st.ro u=true∧0+P.length * 3≤cs.length then (((cs.drop 0).take (P.length * 3)).mapM (JF st 5)).map fun cs'=>V.sl none false P.length cs' else none)=_
   rw [hoc,Option.bind_some,if_pos ⟨Nat.ble_eq ▸ (by omega),by rw [jA Ys];omega⟩,List.drop_zero,← jA Ys P,List.take_length,jg4 hr h.1]
   rfl
  have he:P.isEmpty=false:=by cases P <;> simp_all
  rw [he]
  refine ⟨_,by simp only [jh,hs,Option.bind_some,hoc,Option.map_some];rfl,?_⟩
  split
  ·exact .inr ⟨_,rfl⟩
  ·exact .inl rfl
section
variable {Yf:YF} {st:St} {ub:Nat} {K:St→Nat→Prop} {d:Nat}
theorem jum {α:Type} {f:α→List V} {l:List α} {z sz bytes:Nat} {s x:A} (hs:eval E st.tm s = .osl (2 * z+1) z 0 0 sz) (ho:st.ob (2 * z+1)=some ⟨z,.cells []⟩) (hro:st.ro≤z)
 (hx:jM st.ob sz (eval E st.tm x)=some (l.flatMap f)) (hf:∀ a,(f a).length=sz) (h0:0<sz) (hp:(l.flatMap f).all V.leaf=true) (hb:l.length * bytes≤140737488355328) (hb2:l.length≤140737488355328)
 (h:∀ (s1:St) (u:Nat),(u=z∨u=ub)→s1.ob (2 * u+1)=some ⟨u,.cells (l.flatMap f)⟩→(∀ key,key≠2 * z+1→key≠2 * ub+1→s1.ob key=st.ob key)→(∀ t,s1.tm t=if t=d then .osl (2 * u+1) u 0 l.length sz else st.tm t)→s1.df=st.df→s1.ro=st.ro→s1.fb=st.fb→s1.tk=st.tk→K s1 (ub+64)) :
 j8 E Yf ⟨some d,.append true sz bytes s x,none,true⟩ st ub K:=by
 cases l with
 | nil =>
  rw [jS _ rfl rfl]
  simp only [aop,hs,hx,Option.bind_some,List.flatMap_nil,if_true]
  have hoc:j2 st.ob (2 * z+1) z=some []:=by simp [j2,ho]
  rw [hoc,Option.bind_some,Yn]
  show QM K st (some d) ub _
  rw [Qn]
  exact h _ z (.inl rfl) (by simpa using ho) (fun key _ _=>by simp) (fun t=>by rw [jik];rfl) rfl rfl rfl (by simp)
 | cons a l =>
  have h1:((a::l).flatMap f).length / sz=(a::l).length:=by rw [jA hf];exact Nat.mul_div_cancel _ h0
  have hne:(a::l).flatMap f≠[]:=fun e=>by have:=congrArg List.length e;rw [jA hf] at this;have:=Nat.mul_pos (show 0<(a::l).length by simp) h0;simp_all
  refine Wj (l:=2 * z+1) (u:=z) (n:=0) (cs:=[]) (ys:=(a::l).flatMap f) hs hx ho hne hro (by simp) h0 hp (by rw [h1,Nat.zero_add];exact hb) (by rw [h1,Nat.zero_add];exact hb2) ?_
  rw [Qn,h1,Nat.zero_add]
  refine h _ ub (.inr rfl) ?_ (fun key k1 k2=>?_) (fun t=>by rw [jik];rfl) rfl rfl rfl ?_
  ·simp [jO]
  ·simp [jO,k1,k2]
  ·rfl
theorem jjz {lo hi:Nat} {P:List (Txn' × Nat)} {p:Txn' × Nat} {s x:A} (hT:TsO st.ob lo hi P (eval E st.tm s)) (hle:hi≤ub) (hro:st.ro≤lo) (hx:jM st.ob 3 (eval E st.tm x)=some (txU p)) (hp:InO st.ob hi ub p) (hlh:lo≤hi) (hlen:P.length≤100000)
 (h:∀ (s1:St) (v':V),TsO s1.ob lo (ub+64) (P++[p]) v'→(∀ key,(∀ u,lo≤u→u<hi→key≠2 * u+1)→key≠2 * ub+1→s1.ob key=st.ob key)→(∀ t,s1.tm t=if t=d then v' else st.tm t)→s1.df=st.df→s1.ro=st.ro→s1.fb=st.fb→s1.tk=st.tk→K s1 (ub+64)) :
 j8 E Yf ⟨some d,.append true 3 40 s x,none,true⟩ st ub K:=by
 have hpl:=hp.lo
 have hph:=hp.hi
 rcases hT.2 with ⟨rfl,h0⟩ | ⟨hne,u,h1,h2,h3,h4,h5⟩
 ·refine Q3 (n:=0) (cs:=[]) (ys:=txU p) h0 hx (by simp [txU]) (by decide) rfl (by simp) (by simp) ?_
  rw [Qn,show (txU p).length / 3=1 by rw [Ys]]
  refine h _ (.osl (2 * ub+1) ub 0 1 3) ⟨?_,.inr ⟨by simp,ub,by omega,by omega,?_,by simp,?_⟩⟩ (fun key k1 k2=>?_) (fun t=>by rw [jik];rfl) rfl rfl rfl ?_
  ·intro q hq
   simp only [List.nil_append,List.mem_singleton] at hq
   subst hq
   refine ⟨hp.nl,by omega,by omega,?_⟩
   have:¬ 2 * q.2=2 * ub:=by omega
   simpa [jO,Ja,this] using hp.ob
  ·intro q hq
   simp only [List.nil_append,List.mem_singleton] at hq
   subst hq
   omega
  ·simp [jO,Ja]
  ·simp [jO,Ja,k2]
  ·rfl
 ·refine Wj (l:=2 * u+1) (u:=u) (n:=P.length) (cs:=P.flatMap txU) (ys:=txU p) h4 hx h5 (by simp [txU]) (by omega) (by rw [jA Ys];omega) (by decide) rfl (by simp;omega) (by simp;omega) ?_
  rw [Qn,show (txU p).length / 3=1 by rw [Ys]]
  refine h _ (.osl (2 * ub+1) ub 0 (P.length+1) 3) ⟨?_,.inr ⟨by simp,ub,by omega,by omega,?_,by simp,?_⟩⟩ (fun key k1 k2=>?_) (fun t=>by rw [jik];rfl) rfl rfl rfl ?_
  ·intro q hq
   rw [List.mem_append,List.mem_singleton] at hq
   rcases hq with hq | rfl
   ·have hi:=hT.1 q hq
    refine ⟨hi.nl,hi.lo,by have:=hi.hi;omega,?_⟩
    have e1:¬ 2 * q.2=2 * ub:=by have:=hi.hi;omega
    have e2:¬ 2 * q.2=2 * u:=by have:=h3 q hq;omega
    simpa [jO,e1,e2] using hi.ob
   ·refine ⟨hp.nl,by omega,by omega,?_⟩
    have e1:¬ 2 * q.2=2 * ub:=by omega
    have e2:¬ 2 * q.2=2 * u:=by omega
    simpa [jO,e1,e2] using hp.ob
  ·intro q hq
   rw [List.mem_append,List.mem_singleton] at hq
   rcases hq with hq | rfl
   ·have:=(hT.1 q hq).hi;omega
   ·omega
  ·simp [jO]
   exact List.take_of_length_le (by rw [jA Ys];omega)
  ·have e:=k1 u h1 h2
   simp [jO,e,k2]
  ·rfl
end
end Go.Pv.T

/- A history made whole: the reference's walk. -/
namespace Go.Pv.T
open Go Go.Pv
section
variable {E:Env} {st:St} {ub:Nat} {K:List FP→St→Prop} {d:Option Nat} {r:List AOpr}
theorem jdc {sz n:Nat} {zero:List V} {parts:List (Nat × Nat × A)} {cs:List V} (hf:fill zero (jp (eval E st.tm) parts)=some cs) (hl:cs.length=n * sz) (hp:cs.all V.leaf=true)
 (h:Wt E r K (eval E st.tm) (.buildSl true sz zero parts n) st d ub { v:=.osl (2 * ub+1) ub 0 n sz,obs:=[(2 * ub+1,⟨ub,.cells cs⟩)] }):jI E (⟨d,.buildSl true sz zero parts n,none,true⟩::r) st ub K:=by
 rw [JT rfl]
 simp only [aop,hf,Option.bind_some,if_true]
 rw [if_pos ⟨hl,hp⟩,JR,jP]
 exact h
end
theorem jde {α β:Type} {l:List α} {m:List β} (h:l.length=m.length):l.isEmpty=m.isEmpty:=by
 cases l <;> cases m <;> simp_all
end Go.Pv.T

/- Few of a history, as one's own: the sessions, the keys. -/
namespace Go.Pv.T
open Go Go.Pv
def StO (ob:Nat→Option Obj') (lo hi:Nat) (l:List (List UInt8)) (v:V):Prop :=
 (l=[]∧v = .sl none true 0 [])∨(l≠[]∧∃ u,lo≤u∧u<hi∧v = .osl (2 * u+1) u 0 l.length 1∧ob (2 * u+1)=some ⟨u,.cells (l.flatMap strC)⟩)
theorem StO.frame {ob ob':Nat→Option Obj'} {lo hi lo' hi':Nat} {l:List (List UInt8)} {v:V} (h:StO ob lo hi l v) (ho:∀ u,lo≤u→u<hi→ob' (2 * u+1)=ob (2 * u+1)) (hl:lo'≤lo) (hh:hi≤hi'):StO ob' lo' hi' l v:=by
 rcases h with h | ⟨hne,u,h1,h2,h3,h4⟩
 ·exact .inl h
 ·exact .inr ⟨hne,u,by omega,by omega,h3,by rw [ho u h1 h2];exact h4⟩
theorem StO.leaf {ob:Nat→Option Obj'} {lo hi:Nat} {l:List (List UInt8)} {v:V} (h:StO ob lo hi l v):v.leaf=true∧v.cells=[v]:=by
 rcases h with ⟨_,rfl⟩ | ⟨_,u,_,_,rfl,_⟩ <;> exact ⟨rfl,rfl⟩
theorem TsO.leaf {ob:Nat→Option Obj'} {lo hi:Nat} {P:List (Txn' × Nat)} {v:V} (h:TsO ob lo hi P v):v.leaf=true∧v.cells=[v]:=by
 rcases h.2 with ⟨_,rfl⟩ | ⟨_,u,_,_,_,rfl,_⟩ <;> exact ⟨rfl,rfl⟩
theorem StO.out {st:St} {lo hi:Nat} {l:List (List UInt8)} {v:V} (h:StO st.ob lo hi l v) (hr:st.ro≤lo):jd4 st v l.isEmpty l.length (l.flatMap strC):=by
 rcases h with ⟨rfl,rfl⟩ | ⟨hne,u,h1,h2,rfl,h4⟩
 ·exact jbu _ none true 0 []
 ·have he:l.isEmpty=false:=by cases l <;> simp_all
  rw [he]
  exact jg5 h4 (by rw [jA Xq,Nat.mul_one]) (by omega) (by rw [List.all_flatMap,List.all_eq_true];intro _ _;rfl)
theorem XG (st:St) (d:Option Nat) (v:V) (l k:Nat) (o':Obj') (ks:List Nat):(st.app d { v:=v,obs:=[(l,o')],kill:=ks }).ob k=if k=l then some o' else if ks.any (Nat.beq k) then none else st.ob k:=by
 simp [St.app,JJ,j6]
theorem jdd {E:Env} {st:St} {ub:Nat} {K:List FP→St→Prop} {d:Option Nat} {r:List AOpr} {lo hi:Nat} {l:List (List UInt8)} {c:List UInt8} {s x:A} (hS:StO st.ob lo hi l (eval E st.tm s)) (hx:jM st.ob 1 (eval E st.tm x)=some (strC c)) (hro:st.ro≤lo) (hlen:l.length≤1000)
 (h:∀ ks:List Nat,(∀ k∈ks,∃ u,lo≤u∧u<hi∧k=2 * u+1)→Wt E r K (eval E st.tm) (.append true 1 16 s x) st d ub { v:=.osl (2 * ub+1) ub 0 (l.length+1) 1,obs:=[(2 * ub+1,⟨ub,.cells ((l++[c]).flatMap strC)⟩)],kill:=ks }) :
 jI E (⟨d,.append true 1 16 s x,none,true⟩::r) st ub K:=by
 rw [JT rfl]
 rcases hS with ⟨rfl,h0⟩ | ⟨hne,u,h1,h2,h3,h4⟩
 ·simp only [aop,h0,hx,Option.bind_some]
  rw [if_neg (by simp [strC]),if_pos (show (true && true)=true from rfl),if_pos ⟨by decide,rfl,by simp [strC],by simp [strC]⟩,JR,jP]
  have:=h [] (fun k hk=>by cases hk)
  have e:([]++[c]).flatMap strC=strC c:=by simp
  rw [e] at this
  have e2:(strC c).length / 1=1:=by simp [strC]
  rw [e2]
  exact this
 ·have hoc:j2 st.ob (2 * u+1) u=some (l.flatMap strC):=by simp [j2,h4]
  simp only [aop,h3,hx,Option.bind_some,hoc]
  have hll:(l.flatMap strC).length=l.length:=by rw [jA Xq,Nat.mul_one]
  rw [if_neg (by simp [strC]),if_pos ⟨Nat.ble_eq ▸ (by omega),trivial,trivial,by rw [hll];omega,by decide,rfl,by simp [strC];omega,by simp [strC];omega⟩,jP]
  have:=h [2 * u+1] (fun k hk=>by simp only [List.mem_singleton] at hk;exact ⟨u,h1,h2,hk⟩)
  have e:(l++[c]).flatMap strC=(l.flatMap strC).take (l.length * 1)++strC c:=by
   rw [List.take_of_length_le (by rw [hll];omega),List.flatMap_append]
   simp
  rw [e] at this
  have e2:(strC c).length / 1=1:=by simp [strC]
  rw [e2]
  exact this
theorem jw4 {ks:List Nat} {key:Nat} (h:∀ k∈ks,key≠k):ks.any (Nat.beq key)=false:=by
 rw [List.any_eq_false]
 intro k hk he
 exact h k hk (Nat.eq_of_beq_eq_true he)
def jed:C:=tlC (tlC S51.body)
def jec:C:=tlC jed
def jgg:C:=tlC jec
def jvf:C:=tlC jgg
structure FewO (h:Hist') (ob0:Nat→Option Obj') (ub ro:Nat) (s:St) (a b N1 N2:Nat) (Sv Kv Tv:V) (P:List (Txn' × Nat)):Prop where
 t1:s.tm 1 = .ptr (2 * ub+1) ub 0
 t2:s.tm 2 = .ptr (2 * (ub+64)+1) (ub+64) 0
 t3:s.tm 3 = .ptr (2 * (ub+192)+1) (ub+192) 0
 d:s.df=[]
 ro:s.ro=ro
 o1:s.ob (2 * ub+1)=some ⟨ub,.cells (j3 h)⟩
 o2:s.ob (2 * (ub+64)+1)=some ⟨ub+64,.cells [.sl none true 0 [],.sl none true 0 [],.sl none true 0 []]⟩
 o3:s.ob (2 * (ub+192)+1)=some ⟨ub+192,.cells [Sv,Kv,Tv]⟩
 gS:StO s.ob (ub+256) N1 (Xw a h.ss) Sv
 gK:StO s.ob N1 N2 (Xw b h.ks) Kv
 gT:TsO s.ob N2 s.nx P Tv
 n0:ub+256≤N1
 n1:N1≤N2
 n2:N2≤s.nx
 fr:∀ key,(∀ m,ub≤m→key≠2 * m+1)→s.ob key=ob0 key
set_option maxRecDepth 100000 in
theorem few0S {h:Hist'} {Yf:YF} {ob:Nat→Option Obj'} {tk:Nat→Bool} {ro base ub:Nat} {Q:Ex→St→Prop} (hro:ro≤ub) (hrest:∀ s,FewO h ob ub ro s 0 0 s.nx s.nx (.sl none true 0 []) (.sl none true 0 []) (.sl none true 0 []) []→wpC E Yf jed s Q) :
 wpC E Yf S51.body (Jj [.agg (j3 h)] ob tk ro base ub) Q:=by
 have e:S51.body = .seq (hdC S51.body) (.seq (hdC (tlC S51.body)) jed):=rfl
 rw [e]
 simp [hdC,tlC,S51,j3,j2,splice]
 have a1:¬ 2 * ub=2 * (ub+64):=by omega
 have a2:¬ 2 * ub=2 * (ub+64+64+64):=by omega
 have a3:¬ 2 * (ub+64)=2 * (ub+64+64+64):=by omega
 refine ⟨by omega,hrest _ ⟨by simp,by simp,by simp,by simp,by simp,by simp [j3,a1,a2],by simp [a3],by simp,.inl ⟨rfl,rfl⟩,.inl ⟨rfl,rfl⟩,⟨by simp,.inl ⟨rfl,rfl⟩⟩,by simp,Nat.le_refl _,Nat.le_refl _,fun key hk=>?_⟩⟩
 have e1:=hk ub (Nat.le_refl _)
 have e2:=hk (ub+64) (by omega)
 have e3:=hk (ub+64+64+64) (by omega)
 simp [e1,e2,e3]
theorem jvi:jed = .seq (hdC jed) jec:=rfl
set_option maxRecDepth 100000 in
theorem few1O {h:Hist'} {Yf:YF} {ob0:Nat→Option Obj'} {ub ro:Nat} {s0:St} {Q:Ex→St→Prop} (hru:ro≤ub) (hs:FewO h ob0 ub ro s0 0 0 s0.nx s0.nx (.sl none true 0 []) (.sl none true 0 []) (.sl none true 0 []) [])
 (hrest:∀ s Sv,FewO h ob0 ub ro s 25 0 s.nx s.nx Sv (.sl none true 0 []) (.sl none true 0 []) []→wpC E Yf jec s Q):wpC E Yf jed s0 Q:=by
 rw [jvi]
 obtain ⟨f1,f2,f3,fd,fr,o1,o2,o3,gS,gK,gT,n0,n1,n2,ff⟩:=hs
 simp [hdC,jed,tlC,S51]
 refine jB [(4,4),(9,37)] 25 (fun i s=>s.tm 4 = .int .i64 i∧i≤h.ss.length∧∃ Sv,FewO h ob0 ub ro s i 0 s.nx s.nx Sv (.sl none true 0 []) (.sl none true 0 []) []) rfl rfl ?_ ?_
 ·refine ⟨by simp,by simp,.sl none true 0 [],⟨by simp [f1],by simp [f2],by simp [f3],by simp [fd],by simp [fr],by simp [o1],by simp [o2],by simp [o3],.inl ⟨rfl,rfl⟩,.inl ⟨rfl,rfl⟩,⟨by simp,.inl ⟨rfl,rfl⟩⟩,by simp;omega,Nat.le_refl _,Nat.le_refl _,fun key hk=>by simp [ff key hk]⟩⟩
 rintro i s hi ⟨h4,hle,Sv,f1,f2,f3,fd,fr,o1,o2,o3,gS,gK,gT,n0,n1,n2,ff⟩ f
 clear f
 have hend:¬ (i<h.ss.length∧i<25)→∀ s':St,(s'.tm 1=s.tm 1∧s'.tm 2=s.tm 2∧s'.tm 3=s.tm 3)→s'.df=s.df→s'.ro=s.ro→s'.ob=s.ob→s.nx≤s'.nx→wpC E Yf jec s' Q:=by
  intro hx s' ⟨q1,q2,q3⟩ e2 e3 e4 e5
  refine hrest s' Sv ⟨q1.trans f1,q2.trans f2,q3.trans f3,by rw [e2];exact fd,by rw [e3];exact fr,by rw [e4];exact o1,by rw [e4];exact o2,by rw [e4];exact o3,?_,.inl ⟨rfl,rfl⟩,⟨by simp,.inl ⟨rfl,rfl⟩⟩,by omega,Nat.le_refl _,Nat.le_refl _,fun key hk=>by rw [e4];exact ff key hk⟩
  rw [← jlz hle hi hx,e4]
  exact gS.frame (fun _ _ _=>rfl) (Nat.le_refl _) e5
 have o1':s.ob (2 * ub+1)=some ⟨ub,.cells [slOf h.sn strC h.ss,slOf h.kn strC h.ks,slOf h.tn txnC h.ts]⟩:=o1
 by_cases hlt:i<h.ss.length
 ·by_cases hl5:i<25
  ·have hw:=jl hl5 (by omega)
   have hl5':(i:Int)<25:=by omega
   obtain ⟨c,hc⟩:∃ c,h.ss[i]=c:=⟨_,rfl⟩
   have hsi:=jei h.ss hlt
   have hsn:=jig hlt hl5
   rw [hc] at hsi hsn
   have hmn:=jan c.length 100
   have hst:=jkt (l:=c) (kk:=.i64) (Nat.min_le_left c.length 100)
   have htk:=jb8 c
   rw [htk] at hst
   rw [show ((100:Nat):Int)=100 from rfl] at hmn
   simp [hmn,hst,h4,f1,o1',j2,hlt,hl5',f3,o3,j7 Xq,hsi]
   refine jdc (cs:=[.str (c.take 100)]) (by simp [splice]) rfl rfl ?_
   simp
   have e24:s.nx≤(s.nx+64+64+64+64+64+64+64+64+64+64+64+64+64+64+64+64+64+64+64+64+64+64+64+64):=by omega
   have e25:s.nx≤(s.nx+64+64+64+64+64+64+64+64+64+64+64+64+64+64+64+64+64+64+64+64+64+64+64+64+64):=by omega
   have e26:(s.nx+64+64+64+64+64+64+64+64+64+64+64+64+64+64+64+64+64+64+64+64+64+64+64+64)<(s.nx+64+64+64+64+64+64+64+64+64+64+64+64+64+64+64+64+64+64+64+64+64+64+64+64+64):=by omega
   have hll:=jlx i h.ss
   refine jdd (lo:=ub+256) (hi:=s.nx) (l:=Xw i h.ss) (c:=c.take 100) ?_ (by simp [jM,j2];rfl) (by simp [fr];omega) (by omega) fun ks hks=>?_
   ·simp
    refine gS.frame (fun u h1 h2=>?_) (Nat.le_refl _) (Nat.le_refl _)
    have e1:¬ 2 * u=2 * (s.nx+64+64+64+64+64+64+64+64+64+64+64+64+64+64+64+64+64+64+64+64+64+64+64+64):=by omega
    simp [e1]
   rw [← hsn]
   have hlen:(Xw i h.ss).length+1=(Xw (i+1) h.ss).length:=by rw [hsn];simp
   rw [hlen]
   have hno:∀ key,(∀ u,ub+256≤u→u<s.nx→key≠2 * u+1)→ks.any (Nat.beq key)=false:=fun key hk=>jw4 fun k hkk=>by
    obtain ⟨u,h1,h2,h3⟩:=hks k hkk
    rw [h3];exact hk u h1 h2
   have hn1:=hno (2 * ub+1) (fun u _ _=>by omega)
   have hn2:=hno (2 * (ub+64)+1) (fun u _ _=>by omega)
   have hn3:=hno (2 * (ub+192)+1) (fun u _ _=>by omega)
   have w1:¬ 2 * ub=2 * (s.nx+64+64+64+64+64+64+64+64+64+64+64+64+64+64+64+64+64+64+64+64+64+64+64+64+64):=by omega
   have w2:¬ 2 * (ub+64)=2 * (s.nx+64+64+64+64+64+64+64+64+64+64+64+64+64+64+64+64+64+64+64+64+64+64+64+64+64):=by omega
   have w3:¬ 2 * (ub+192)=2 * (s.nx+64+64+64+64+64+64+64+64+64+64+64+64+64+64+64+64+64+64+64+64+64+64+64+64+64):=by omega
   have w4:¬ 2 * ub=2 * (s.nx+64+64+64+64+64+64+64+64+64+64+64+64+64+64+64+64+64+64+64+64+64+64+64+64):=by omega
   have w5:¬ 2 * (ub+64)=2 * (s.nx+64+64+64+64+64+64+64+64+64+64+64+64+64+64+64+64+64+64+64+64+64+64+64+64):=by omega
   have w6:¬ 2 * (ub+192)=2 * (s.nx+64+64+64+64+64+64+64+64+64+64+64+64+64+64+64+64+64+64+64+64+64+64+64+64):=by omega
   have w7:¬ 2 * (s.nx+64+64+64+64+64+64+64+64+64+64+64+64+64+64+64+64+64+64+64+64+64+64+64+64+64)=2 * (ub+192):=by omega
   have w8:¬ 2 * ub=2 * (ub+192):=by omega
   have w9:¬ 2 * (ub+64)=2 * (ub+192):=by omega
   simp [f3,j2,XG,hn3,w3,w6,o3,fr,splice,h4,hw]
   refine ⟨by omega,?_,?_⟩
   ·simp [X5,Wv,jdr,jaz,rdOb,rdTk,lOf,Delta.wo,Delta.wt]
    exact nbeq (by omega)
   have hne:Xw (i+1) h.ss≠[]:=by rw [hsn];simp
   refine ⟨hl5,by omega,.osl (2 * (s.nx+64+64+64+64+64+64+64+64+64+64+64+64+64+64+64+64+64+64+64+64+64+64+64+64+64)+1) (s.nx+64+64+64+64+64+64+64+64+64+64+64+64+64+64+64+64+64+64+64+64+64+64+64+64+64) 0 (Xw (i+1) h.ss).length 1,⟨by simp [f1],by simp [f2],by simp [f3],by simp [fd],by simp [fr],by simp [XG,hn1,w1,w4,w8,o1],by simp [XG,hn2,w2,w5,w9,o2],by simp,
    .inr ⟨hne,(s.nx+64+64+64+64+64+64+64+64+64+64+64+64+64+64+64+64+64+64+64+64+64+64+64+64+64),by omega,by simp,rfl,by simp [XG,w7]⟩,.inl ⟨rfl,rfl⟩,⟨by simp,.inl ⟨rfl,rfl⟩⟩,by simp;omega,Nat.le_refl _,Nat.le_refl _,fun key hk=>?_⟩⟩
   have k1:=hk (ub+192) (by omega)
   have k2:=hk (s.nx+64+64+64+64+64+64+64+64+64+64+64+64+64+64+64+64+64+64+64+64+64+64+64+64+64) (by omega)
   have k3:=hk (s.nx+64+64+64+64+64+64+64+64+64+64+64+64+64+64+64+64+64+64+64+64+64+64+64+64) (by omega)
   have k4:=hno key (fun u h1 h2=>hk u (by omega))
   simp [XG,k1,k2,k3,k4]
   exact ff key hk
  ·have hl5':¬ (i:Int)<25:=by omega
   simp [h4,f1,o1',j2,hlt,hl5']
   exact hend (by omega) _ ⟨by simp,by simp,by simp⟩ (by simp) (by simp) (by funext k;simp) (by simp;omega)
 ·simp [h4,f1,o1',j2,hlt]
  exact hend (by omega) _ ⟨by simp,by simp,by simp⟩ (by simp) (by simp) (by funext k;simp) (by simp;omega)
theorem jvh:jec = .seq (hdC jec) jgg:=rfl
set_option maxRecDepth 100000 in
theorem few2O {h:Hist'} {Yf:YF} {ob0:Nat→Option Obj'} {ub ro:Nat} {s0:St} {Q:Ex→St→Prop} {N1:Nat} {S0:V} (hru:ro≤ub) (hs:FewO h ob0 ub ro s0 25 0 N1 s0.nx S0 (.sl none true 0 []) (.sl none true 0 []) [])
 (hrest:∀ s Kv,FewO h ob0 ub ro s 25 45 N1 s.nx S0 Kv (.sl none true 0 []) []→wpC E Yf jgg s Q):wpC E Yf jec s0 Q:=by
 rw [jvh]
 obtain ⟨f1,f2,f3,fd,fr,o1,o2,o3,gS,gK,gT,n0,n1,n2,ff⟩:=hs
 simp [hdC,jec,jed,tlC,S51]
 refine jB [(5,5),(38,66)] 45 (fun i s=>s.tm 5 = .int .i64 i∧i≤h.ks.length∧∃ Kv,FewO h ob0 ub ro s 25 i N1 s.nx S0 Kv (.sl none true 0 []) []) rfl rfl ?_ ?_
 ·refine ⟨by simp,by simp,.sl none true 0 [],⟨by simp [f1],by simp [f2],by simp [f3],by simp [fd],by simp [fr],by simp [o1],by simp [o2],by simp [o3],gS.frame (fun _ _ _=>by simp) (Nat.le_refl _) (Nat.le_refl _),.inl ⟨rfl,rfl⟩,⟨by simp,.inl ⟨rfl,rfl⟩⟩,n0,by simp;omega,Nat.le_refl _,fun key hk=>by simp [ff key hk]⟩⟩
 rintro i s hi ⟨h4,hle,Kv,f1,f2,f3,fd,fr,o1,o2,o3,gS,gK,gT,n0,n1,n2,ff⟩ f
 clear f
 have hend:¬ (i<h.ks.length∧i<45)→∀ s':St,(s'.tm 1=s.tm 1∧s'.tm 2=s.tm 2∧s'.tm 3=s.tm 3)→s'.df=s.df→s'.ro=s.ro→s'.ob=s.ob→s.nx≤s'.nx→wpC E Yf jgg s' Q:=by
  intro hx s' ⟨q1,q2,q3⟩ e2 e3 e4 e5
  refine hrest s' Kv ⟨q1.trans f1,q2.trans f2,q3.trans f3,by rw [e2];exact fd,by rw [e3];exact fr,by rw [e4];exact o1,by rw [e4];exact o2,by rw [e4];exact o3,by rw [e4];exact gS,?_,⟨by simp,.inl ⟨rfl,rfl⟩⟩,n0,by omega,Nat.le_refl _,fun key hk=>by rw [e4];exact ff key hk⟩
  rw [← jlz hle hi hx,e4]
  exact gK.frame (fun _ _ _=>rfl) (Nat.le_refl _) e5
 have o1':s.ob (2 * ub+1)=some ⟨ub,.cells [slOf h.sn strC h.ss,slOf h.kn strC h.ks,slOf h.tn txnC h.ts]⟩:=o1
 by_cases hlt:i<h.ks.length
 ·by_cases hl5:i<45
  ·have hw:=jl hl5 (by omega)
   have hl5':(i:Int)<45:=by omega
   obtain ⟨c,hc⟩:∃ c,h.ks[i]=c:=⟨_,rfl⟩
   have hsi:=jei h.ks hlt
   have hsn:=jig hlt hl5
   rw [hc] at hsi hsn
   have hmn:=jan c.length 100
   have hst:=jkt (l:=c) (kk:=.i64) (Nat.min_le_left c.length 100)
   have htk:=jb8 c
   rw [htk] at hst
   rw [show ((100:Nat):Int)=100 from rfl] at hmn
   simp [hmn,hst,h4,f1,o1',j2,hlt,hl5',f3,o3,j7 Xq,hsi]
   refine jdc (cs:=[.str (c.take 100)]) (by simp [splice]) rfl rfl ?_
   simp
   have e24:s.nx≤(s.nx+64+64+64+64+64+64+64+64+64+64+64+64+64+64+64+64+64+64+64+64+64+64+64+64):=by omega
   have e25:s.nx≤(s.nx+64+64+64+64+64+64+64+64+64+64+64+64+64+64+64+64+64+64+64+64+64+64+64+64+64):=by omega
   have e26:(s.nx+64+64+64+64+64+64+64+64+64+64+64+64+64+64+64+64+64+64+64+64+64+64+64+64)<(s.nx+64+64+64+64+64+64+64+64+64+64+64+64+64+64+64+64+64+64+64+64+64+64+64+64+64):=by omega
   have hll:=jlx i h.ks
   refine jdd (lo:=N1) (hi:=s.nx) (l:=Xw i h.ks) (c:=c.take 100) ?_ (by simp [jM,j2];rfl) (by simp [fr];omega) (by omega) fun ks hks=>?_
   ·simp
    refine gK.frame (fun u h1 h2=>?_) (Nat.le_refl _) (Nat.le_refl _)
    have e1:¬ 2 * u=2 * (s.nx+64+64+64+64+64+64+64+64+64+64+64+64+64+64+64+64+64+64+64+64+64+64+64+64):=by omega
    simp [e1]
   rw [← hsn]
   have hlen:(Xw i h.ks).length+1=(Xw (i+1) h.ks).length:=by rw [hsn];simp
   rw [hlen]
   have hno:∀ key,(∀ u,N1≤u→u<s.nx→key≠2 * u+1)→ks.any (Nat.beq key)=false:=fun key hk=>jw4 fun k hkk=>by
    obtain ⟨u,h1,h2,h3⟩:=hks k hkk
    rw [h3];exact hk u h1 h2
   have hn1:=hno (2 * ub+1) (fun u _ _=>by omega)
   have hn2:=hno (2 * (ub+64)+1) (fun u _ _=>by omega)
   have hn3:=hno (2 * (ub+192)+1) (fun u _ _=>by omega)
   have w1:¬ 2 * ub=2 * (s.nx+64+64+64+64+64+64+64+64+64+64+64+64+64+64+64+64+64+64+64+64+64+64+64+64+64):=by omega
   have w2:¬ 2 * (ub+64)=2 * (s.nx+64+64+64+64+64+64+64+64+64+64+64+64+64+64+64+64+64+64+64+64+64+64+64+64+64):=by omega
   have w3:¬ 2 * (ub+192)=2 * (s.nx+64+64+64+64+64+64+64+64+64+64+64+64+64+64+64+64+64+64+64+64+64+64+64+64+64):=by omega
   have w4:¬ 2 * ub=2 * (s.nx+64+64+64+64+64+64+64+64+64+64+64+64+64+64+64+64+64+64+64+64+64+64+64+64):=by omega
   have w5:¬ 2 * (ub+64)=2 * (s.nx+64+64+64+64+64+64+64+64+64+64+64+64+64+64+64+64+64+64+64+64+64+64+64+64):=by omega
   have w6:¬ 2 * (ub+192)=2 * (s.nx+64+64+64+64+64+64+64+64+64+64+64+64+64+64+64+64+64+64+64+64+64+64+64+64):=by omega
   have w7:¬ 2 * (s.nx+64+64+64+64+64+64+64+64+64+64+64+64+64+64+64+64+64+64+64+64+64+64+64+64+64)=2 * (ub+192):=by omega
   have w8:¬ 2 * ub=2 * (ub+192):=by omega
   have w9:¬ 2 * (ub+64)=2 * (ub+192):=by omega
   simp [f3,j2,XG,hn3,w3,w6,o3,fr,splice,h4,hw]
   refine ⟨by omega,?_,?_⟩
   ·simp [X5,Wv,jdr,jaz,rdOb,rdTk,lOf,Delta.wo,Delta.wt]
    exact nbeq (by omega)
   have hne:Xw (i+1) h.ks≠[]:=by rw [hsn];simp
   refine ⟨hl5,by omega,.osl (2 * (s.nx+64+64+64+64+64+64+64+64+64+64+64+64+64+64+64+64+64+64+64+64+64+64+64+64+64)+1) (s.nx+64+64+64+64+64+64+64+64+64+64+64+64+64+64+64+64+64+64+64+64+64+64+64+64+64) 0 (Xw (i+1) h.ks).length 1,⟨by simp [f1],by simp [f2],by simp [f3],by simp [fd],by simp [fr],by simp [XG,hn1,w1,w4,w8,o1],by simp [XG,hn2,w2,w5,w9,o2],by simp,
    gS.frame (fun u h1 h2=>?_) (Nat.le_refl _) (Nat.le_refl _),.inr ⟨hne,(s.nx+64+64+64+64+64+64+64+64+64+64+64+64+64+64+64+64+64+64+64+64+64+64+64+64+64),by omega,by simp,rfl,by simp [XG,w7]⟩,⟨by simp,.inl ⟨rfl,rfl⟩⟩,n0,by first | omega | (simp;omega),Nat.le_refl _,fun key hk=>?_⟩⟩
   ·have k1:¬ 2 * u=2 * (ub+192):=by omega
    have k2:¬ 2 * u=2 * (s.nx+64+64+64+64+64+64+64+64+64+64+64+64+64+64+64+64+64+64+64+64+64+64+64+64+64):=by omega
    have k3:¬ 2 * u=2 * (s.nx+64+64+64+64+64+64+64+64+64+64+64+64+64+64+64+64+64+64+64+64+64+64+64+64):=by omega
    have k4:=hno (2 * u+1) (fun u' _ _=>by omega)
    simp [XG,k1,k2,k3,k4]
   have k1:=hk (ub+192) (by omega)
   have k2:=hk (s.nx+64+64+64+64+64+64+64+64+64+64+64+64+64+64+64+64+64+64+64+64+64+64+64+64+64) (by omega)
   have k3:=hk (s.nx+64+64+64+64+64+64+64+64+64+64+64+64+64+64+64+64+64+64+64+64+64+64+64+64) (by omega)
   have k4:=hno key (fun u h1 h2=>hk u (by omega))
   simp [XG,k1,k2,k3,k4]
   exact ff key hk
  ·have hl5':¬ (i:Int)<45:=by omega
   simp [h4,f1,o1',j2,hlt,hl5']
   exact hend (by omega) _ ⟨by simp,by simp,by simp⟩ (by simp) (by simp) (by funext k;simp) (by simp;omega)
 ·simp [h4,f1,o1',j2,hlt]
  exact hend (by omega) _ ⟨by simp,by simp,by simp⟩ (by simp) (by simp) (by funext k;simp) (by simp;omega)
end Go.Pv.T

/- Few of a history, as one's own: the transactions; whole. -/
namespace Go.Pv.T
open Go Go.Pv
theorem jvg:jgg = .seq (hdC jgg) jvf:=rfl
set_option maxRecDepth 100000 in
theorem few3O {h:Hist'} {Yf:YF} {ob0:Nat→Option Obj'} {ub ro:Nat} {s0:St} {Q:Ex→St→Prop} {N1 N2:Nat} {S0 K0:V} (hru:ro≤ub) (hs:FewO h ob0 ub ro s0 25 45 N1 N2 S0 K0 (.sl none true 0 []) [])
 (hrest:∀ s Tv P,P.map (·.1)=(h.ts.take 45).map fewT→FewO h ob0 ub ro s 25 45 N1 N2 S0 K0 Tv P→wpC E Yf jvf s Q):wpC E Yf jgg s0 Q:=by
 rw [jvg]
 obtain ⟨f1,f2,f3,fd,fr,o1,o2,o3,gS,gK,gT,n0,n1,n2,ff⟩:=hs
 simp [hdC,jgg,jec,jed,tlC,S51]
 refine jB [(6,7),(67,98)] 45 (fun i s=>s.tm 6 = .int .i64 i∧i≤h.ts.length∧∃ Tv P,P.map (·.1)=(h.ts.take i).map fewT∧FewO h ob0 ub ro s 25 45 N1 N2 S0 K0 Tv P) rfl rfl ?_ ?_
 ·refine ⟨by simp,by simp,.sl none true 0 [],[],by simp,⟨by simp [f1],by simp [f2],by simp [f3],by simp [fd],by simp [fr],by simp [o1],by simp [o2],by simp [o3],gS.frame (fun _ _ _=>by simp) (Nat.le_refl _) (Nat.le_refl _),gK.frame (fun _ _ _=>by simp) (Nat.le_refl _) (Nat.le_refl _),⟨by simp,.inl ⟨rfl,rfl⟩⟩,n0,n1,by simp;omega,fun key hk=>by simp [ff key hk]⟩⟩
 rintro i s hi ⟨h4,hle,Tv,P,hP,f1,f2,f3,fd,fr,o1,o2,o3,gS,gK,gT,n0,n1,n2,ff⟩ f
 clear f
 have hend:¬ (i<h.ts.length∧i<45)→∀ s':St,(s'.tm 1=s.tm 1∧s'.tm 2=s.tm 2∧s'.tm 3=s.tm 3)→s'.df=s.df→s'.ro=s.ro→s'.ob=s.ob→s.nx≤s'.nx→wpC E Yf jvf s' Q:=by
  intro hx s' ⟨q1,q2,q3⟩ e2 e3 e4 e5
  refine hrest s' Tv P (hP.trans (jz1 hle hi hx)) ⟨q1.trans f1,q2.trans f2,q3.trans f3,by rw [e2];exact fd,by rw [e3];exact fr,by rw [e4];exact o1,by rw [e4];exact o2,by rw [e4];exact o3,by rw [e4];exact gS,by rw [e4];exact gK,?_,n0,n1,by omega,fun key hk=>by rw [e4];exact ff key hk⟩
  exact gT.frame (fun _ _ _=>by rw [e4]) e5
 have o1':s.ob (2 * ub+1)=some ⟨ub,.cells [slOf h.sn strC h.ss,slOf h.kn strC h.ks,slOf h.tn txnC h.ts]⟩:=o1
 by_cases hlt:i<h.ts.length
 ·by_cases hl5:i<45
  ·have hw:=jl hl5 (by omega)
   have hl5':(i:Int)<45:=by omega
   obtain ⟨t,ht⟩:∃ t,h.ts[i]=t:=⟨_,rfl⟩
   have hmn:=jan t.ops.length 25
   rw [show ((25:Nat):Int)=25 from rfl] at hmn
   have hss:=js3 jJ t.nl t.ops 25 .i64
   have hmm:min t.ops.length 25=(t.ops.take 25).length:=by rw [List.length_take,Nat.min_comm]
   rw [hmm] at hss hmn
   generalize hL:t.ops.take 25=L at *
   have hLl:L.length≤25:=by rw [← hL,List.length_take];omega
   have hlfO:(L.flatMap opC).all V.leaf=true:=by rw [List.all_flatMap,List.all_eq_true];intro _ _;rfl
   obtain ⟨z,hz⟩:∃ z,s.nx=z:=⟨_,rfl⟩
   simp [h4,f1,o1',j2,hlt,hl5',j7 j9,ja j9,ht,txnC,fr,splice,hz]
   refine ⟨by omega,?_⟩
   refine XP (cs:=[]) rfl rfl rfl ?_
   simp [j2]
   obtain ⟨zB,hB⟩:∃ y,(z+64+64+64+64+64+64+64+64+64+64+64+64+64+64+64+64)=y:=⟨_,rfl⟩
   obtain ⟨zA,hA⟩:∃ y,(z+64+64+64+64+64+64+64+64+64+64+64+64+64+64)=y:=⟨_,rfl⟩
   have hAB:zB=zA+128:=by omega
   have hA0:z+896=zA:=by omega
   rw [hB,hA]
   have w1:¬ 2 * zA=2 * zB:=by omega
   have w2:¬ 2 * zB=2 * zA:=by omega
   simp [j2,w1,hmn,hss]
   refine jum (f:=opC) (l:=L) (z:=zB) (by simp) (by simp) (by simp [fr];omega) (by simp [slOf,jM,jA jJ]) jJ (by decide) hlfO (by omega) (by omega) ?_
   intro s1 u hu c0 cf ct cd cr cb ck
   have hu1:zB≤u:=by omega
   have hu2:u≤zB+512:=by omega
   have cA:s1.ob (2 * zA+1)=some ⟨zA,.cells [.int .i64 t.s,.int .i64 t.f,slOf t.nl opC t.ops]⟩:=by
    rw [cf _ (by omega) (by omega)];simp [w1]
   have cO:∀ key,key≠2 * zA+1→key≠2 * zB+1→key≠2 * (zB+512)+1→s1.ob key=s.ob key:=by
    intro key k1 k2 k3
    rw [cf _ k2 (by omega)]
    simp [k1,k2]
   have v1:¬ 2 * zA=2 * (ub+192):=by omega
   have v2:¬ 2 * (ub+192)=2 * zA:=by omega
   have c3:s1.ob (2 * (ub+192)+1)=some ⟨ub+192,.cells [S0,K0,Tv]⟩:=(cO _ (by omega) (by omega) (by omega)).trans o3
   have hra:ro≤zA:=by omega
   simp [ct,j2,cA,cr,fr,splice,f3,c3,v2,hra]
   obtain ⟨p,hp⟩:∃ p,(fewT t,u)=p:=⟨_,rfl⟩
   have hpu:txU p=[.int .i64 t.s,.int .i64 t.f,.osl (2 * u+1) u 0 L.length 4]:=by
    rw [← hp]
    simp [txU,fewT,← hL]
   refine XP (cs:=txU p) (by rw [hpu];simp [splice]) rfl (by rw [hpu];rfl) ?_
   simp
   obtain ⟨zE,hE⟩:∃ y,(zB+64+64+64+64+64+64+64+64+64+64+64+64+64+64)=y:=⟨_,rfl⟩
   have hE0:zB+896=zE:=by omega
   rw [hE]
   have hPl:P.length=i:=by
    have:=congrArg List.length hP
    rw [List.length_map,List.length_map,List.length_take] at this
    omega
   have hp2:p.2=u:=by rw [← hp]
   have hp1:p.1=fewT t:=by rw [← hp]
   have hpo:p.1.ops=L:=by rw [hp1];exact hL
   rw [hz] at gT n2
   have hsame:∀ y,y<z→s1.ob (2 * y+1)=s.ob (2 * y+1):=fun y y2=>cO _ (by omega) (by omega) (by omega)
   refine jjz (lo:=N2) (hi:=z) (P:=P) (p:=p) ?_ (by omega) (by simp [cr,fr];omega) (by simp [jM,j2];rfl) ?_ n2 (by omega) ?_
   ·simp
    refine gT.frame (fun y y1 y2=>?_) (Nat.le_refl _)
    have e1:¬ 2 * y=2 * zE:=by omega
    have e2:¬ 2 * y=2 * zA:=by omega
    simp [e1,e2]
    exact hsame y y2
   ·refine ⟨by rw [hp1];rfl,by rw [hp2];omega,by rw [hp2];omega,L.flatMap opC,?_,?_,?_⟩
    ·rw [hp2]
     have e1:¬ 2 * u=2 * zE:=by omega
     have e2:¬ 2 * u=2 * zA:=by omega
     simp [e1,e2]
     exact c0
    ·rw [hpo,jA jJ];exact Nat.le_refl _
    ·rw [hpo,← jA jJ,List.take_length]
   intro s4 v4 hT4 x4 xt xd xr xb xk
   obtain ⟨hlf4,hc4⟩:=hT4.leaf
   have x5:∀ y,(y<N2)→s4.ob (2 * y+1)=s.ob (2 * y+1):=by
    intro y hy
    rw [x4 _ (fun y y1 y2=>by omega) (by omega)]
    have e1:¬ 2 * y=2 * zE:=by omega
    have e2:¬ 2 * y=2 * zA:=by omega
    simp [e1,e2]
    exact hsame y (by omega)
   have x3:=(x5 (ub+192) (by omega)).trans o3
   have hP1:(P++[p]).map (·.1)=(h.ts.take (i+1)).map fewT:=by
    rw [List.map_append,hP,List.take_succ_eq_append_getElem hlt,List.map_append,ht,← hp]
    rfl
   simp [xt,ct,f3,j2,x3,xr,cr,fr,splice,hlf4,hc4,h4,hw]
   have b1:¬ 2 * ub=2 * (ub+192):=by omega
   have b2:¬ 2 * (ub+64)=2 * (ub+192):=by omega
   refine ⟨by omega,hl5,by omega,v4,P++[p],by rw [hP1,List.map_take],⟨by simp [xt,ct,f1],by simp [xt,ct,f2],by simp [xt,ct,f3],by simp [xd,cd,fd],by simp [xr,cr,fr],by simp [b1];exact (x5 ub (by omega)).trans o1,by simp [b2];exact (x5 (ub+64) (by omega)).trans o2,by simp,
    gS.frame (fun y h1 h2=>?_) (Nat.le_refl _) (Nat.le_refl _),gK.frame (fun y h1 h2=>?_) (Nat.le_refl _) (Nat.le_refl _),hT4.frame (fun y h1 h2=>?_) (by simp <;> omega),n0,n1,by simp <;> omega,fun key hk=>?_⟩⟩
   ·have e1:¬ 2 * y=2 * (ub+192):=by omega
    simp [e1]
    exact x5 y (by omega)
   ·have e1:¬ 2 * y=2 * (ub+192):=by omega
    simp [e1]
    exact x5 y (by omega)
   ·have e1:¬ 2 * y=2 * (ub+192):=by omega
    simp [e1]
   ·have e1:=hk (ub+192) (by omega)
    have e2:=hk zE (by omega)
    have e3:=hk zA (by omega)
    simp [e1]
    rw [x4 _ (fun y y1 y2=>hk y (by omega)) (hk _ (by omega))]
    simp [e2,e3]
    exact (cO key e3 (hk zB (by omega)) (hk (zB+512) (by omega))).trans (ff key hk)
  ·have hl5':¬ (i:Int)<45:=by omega
   simp [h4,f1,o1',j2,hlt,hl5']
   exact hend (by omega) _ ⟨by simp,by simp,by simp⟩ (by simp) (by simp) (by funext k;simp) (by simp;omega)
 ·simp [h4,f1,o1',j2,hlt]
  exact hend (by omega) _ ⟨by simp,by simp,by simp⟩ (by simp) (by simp) (by funext k;simp) (by simp;omega)
def FewP (h:Hist') (ob:Nat→Option Obj') (ub:Nat) (r:V × (Nat→Option Obj') × (Nat→Bool) × Nat):Prop :=
 ∃ Sv Kv Tv P N1 N2,r.1 = .agg [Sv,Kv,Tv]∧StO r.2.1 (ub+256) N1 (Xw 25 h.ss) Sv∧StO r.2.1 N1 N2 (Xw 45 h.ks) Kv∧TsO r.2.1 N2 r.2.2.2 P Tv∧P.map (·.1)=(h.ts.take 45).map fewT∧ub+256≤N1∧N1≤N2∧N2≤r.2.2.2 ∧
  ∀ key,(∀ m,ub≤m→key≠2 * m+1)→r.2.1 key=ob key
theorem sv51 {Yf:YF} {h:Hist'} {ob:Nat→Option Obj'} {tk:Nat→Bool} {ro base ub:Nat} (hro:ro≤ub):∃ r,EvS E Yf.y 51 [.agg (j3 h)] ob tk ro base ub r∧FewP h ob ub r:=by
 refine YK (af:=S51) rfl (by decide) ?_
 show wpC E Yf S51.body _ (YQ S51.res _)
 refine few0S hro fun s1 h1=>?_
 refine few1O hro h1 fun s2 Sv h2=>?_
 refine few2O hro h2 fun s3 Kv h3=>?_
 refine few3O hro h3 fun s4 Tv P hP h4=>?_
 obtain ⟨f1,f2,f3,fd,fr,o1,o2,o3,gS,gK,gT,n0,n1,n2,ff⟩:=h4
 obtain ⟨lS,cS⟩:=gS.leaf
 obtain ⟨lK,cK⟩:=gK.leaf
 obtain ⟨lT,cT⟩:=gT.leaf
 have b1:¬ 2 * (ub+192)=2 * (ub+64):=by omega
 have hre:S51.res=[.cell 2 (some 3)]:=rfl
 rw [hre]
 generalize hP':YQ [.cell 2 (some 3)] (FewP h ob ub)=Q
 simp [jvf,jgg,jec,jed,tlC,S51,f2,f3,o2,o3,j2,fr,splice,lS,lK,lT]
 refine ⟨by omega,?_⟩
 rw [← hP']
 refine ⟨(.agg [Sv,Kv,Tv],_,_,_),by simp [endS,fd,jn,f2,j2];exact ⟨rfl,rfl,rfl⟩,Sv,Kv,Tv,P,_,_,rfl,gS.frame (fun y h1 h2=>?_) (Nat.le_refl _) (Nat.le_refl _),gK.frame (fun y h1 h2=>?_) (Nat.le_refl _) (Nat.le_refl _),gT.frame (fun y h1 h2=>?_) ?_,hP,n0,n1,?_,fun key hk=>?_⟩
 ·have e1:¬ 2 * y=2 * (ub+64):=by omega
  simp [e1]
 ·have e1:¬ 2 * y=2 * (ub+64):=by omega
  simp [e1]
 ·have e1:¬ 2 * y=2 * (ub+64):=by omega
  simp [e1]
 ·simp;omega
 ·simp;omega
 ·have e1:=hk (ub+64) (by omega)
  simp [e1]
  exact ff key hk
end Go.Pv.T

/- Few of a history for the greater laws: at most 8 transactions, of at most 6 ops. -/
namespace Go.Pv.T
open Go Go.Pv
def jag (t:Txn'):Txn':={ t with ops:=t.ops.take 6 }
def Q4 (h:Hist'):Hist':=if 8<(jbj h).ts.length then { jbj h with tn:=true,ts:=[] } else { jbj h with ts:=(jbj h).ts.map jag }
def mixT (P:List (Txn' × Nat)) (i:Nat):List (Txn' × Nat):=P.mapIdx fun j p=>if j<i then (jag p.1,p.2) else p
theorem W4 {P:List (Txn' × Nat)} {i:Nat}:(mixT P i).length=P.length:=by simp [mixT]
theorem jp9 {P:List (Txn' × Nat)}:mixT P 0=P:=by
 apply List.ext_getElem?
 intro n
 simp [mixT]
theorem jt4 {P:List (Txn' × Nat)}:(mixT P P.length).map (·.1)=(P.map (·.1)).map jag:=by
 apply List.ext_getElem?
 intro n
 simp only [mixT,List.getElem?_map,List.getElem?_mapIdx]
 cases h:P[n]? with
 | none=>rfl
 | some o =>
  have:=(List.getElem?_eq_some_iff.1 h).1
  simp [this]
theorem jju {P:List (Txn' × Nat)} {i:Nat} (h:i<P.length):(mixT P i)[i]'(by rw [W4];exact h)=P[i]:=by simp [mixT]
theorem jhx {P:List (Txn' × Nat)} {i:Nat} (_:i<P.length):mixT P (i+1)=(mixT P i).modify i fun p=>(jag p.1,p.2):=by
 apply List.ext_getElem?
 intro n
 simp only [mixT,List.getElem?_mapIdx,List.getElem?_modify]
 cases hn:P[n]? with
 | none=>simp
 | some o =>
  simp only [Option.map_some,Option.map_eq_map]
  by_cases h3:i=n
  ·subst h3
   simp
  ·simp only [if_neg h3]
   by_cases h1:n<i
   ·rw [if_pos h1,if_pos (by omega)]
   ·rw [if_neg (by omega),if_neg h1]
theorem jok:∀ {P:List (Txn' × Nat)} {i:Nat} (h:i<P.length),splice (P.flatMap txU) (i * 3+2) [.osl (2 * (P[i]).2+1) (P[i]).2 0 (jag (P[i]).1).ops.length 4]=(P.modify i fun p=>(jag p.1,p.2)).flatMap txU
 | [],_,h=>by simp at h
 | p::P,0,_=>by simp [List.modify_cons,splice,txU,jag]
 | p::P,i+1,h=>by
  have ih:=jok (P:=P) (i:=i) (by simpa using h)
  simp only [List.modify_cons,Nat.add_one_ne_zero,if_false,Nat.add_sub_cancel,List.flatMap_cons,List.getElem_cons_succ]
  rw [← ih]
  have:(i+1) * 3+2=(txU p).length+(i * 3+2):=by simp;omega
  rw [this]
  simp only [splice,Nat.add_assoc]
  rw [List.take_length_add_append,List.drop_length_add_append]
  simp only [List.append_assoc]
theorem InO.six {ob:Nat→Option Obj'} {lo hi:Nat} {p:Txn' × Nat} (h:InO ob lo hi p):InO ob lo hi (jag p.1,p.2):=by
 obtain ⟨X,h1,h2,h3⟩:=h.ob
 refine ⟨h.nl,h.lo,h.hi,X,h1,?_,?_⟩
 ·simp only [jag,List.length_take];omega
 ·have e:X.take ((jag p.1).ops.length * 4)=(X.take (p.1.ops.length * 4)).take ((jag p.1).ops.length * 4):=by
   rw [List.take_take]
   congr 1
   simp only [jag,List.length_take]
   omega
  rw [e,h3,jst]
  congr 1
  simp only [jag,List.length_take]
  rcases Nat.le_total p.1.ops.length 6 with h' | h'
  ·rw [Nat.min_eq_right h',List.take_length,List.take_of_length_le h']
  ·rw [Nat.min_eq_left h']
theorem js4 {L u n i:Nat} (h:i≤n):jaf 4 none (some (.int .i64 (i:Int))) (.osl L u 0 n 4)=some (.osl L u 0 i 4):=by
 simp [jaf,Jr,h]
theorem TsO.len {ob:Nat→Option Obj'} {lo hi:Nat} {P:List (Txn' × Nat)} {v:V} (h:TsO ob lo hi P v):jdb v=some (.int .i64 P.length):=by
 rcases h.2 with ⟨rfl,rfl⟩ | ⟨_,u,_,_,_,rfl,_⟩ <;> rfl
set_option maxRecDepth 100000 in
theorem ev15 (h:Hist'):∃ v,Ev E 15 [.agg (j3 h)] v∧jn3 v (Q4 h):=by
 refine Xi (af:=F15) rfl (by decide) ?_
 generalize hPP:(jgb [.cell 2 (some 3)] fun r=>jn3 r (Q4 h))=PP
 simp [F15,j3,j2,hPP]
 refine JS (vs:=[.agg (j3 h)]) (by simp [j3]) rfl (sv51 (h:=h) (Nat.zero_le _)) ?_
 rintro v ob1 tk1 ub1 ⟨Sv,Kv,Tv,P,N1,N2,hv,gS,gK,gT,hP,n0,n1,n2,ff⟩
 simp only at hv gS gK gT hP n0 n1 n2 ff
 subst hv
 obtain ⟨lS,cS⟩:=gS.leaf
 obtain ⟨lK,cK⟩:=gK.leaf
 obtain ⟨lT,cT⟩:=gT.leaf
 have hTl:=gT.len
 have b1:ob1 1=some ⟨0,.cells (j3 h)⟩:=by rw [ff 1 (fun m hm=>by omega)];simp [j3]
 have b2:ob1 129=some ⟨64,.cells [.sl none true 0 [],.sl none true 0 [],.sl none true 0 []]⟩:=by rw [ff 129 (fun m hm=>by omega)];simp
 have e1:(Q4 h).ss=Xw 25 h.ss:=by unfold Q4;split <;> rfl
 have e2:(Q4 h).sn=(Xw 25 h.ss).isEmpty:=by unfold Q4;split <;> rfl
 have e3:(Q4 h).ks=Xw 45 h.ks:=by unfold Q4;split <;> rfl
 have e4:(Q4 h).kn=(Xw 45 h.ks).isEmpty:=by unfold Q4;split <;> rfl
 have hPl:(jbj h).ts.length=P.length:=by
  show ((h.ts.take 45).map fewT).length=P.length
  rw [← hP,List.length_map]
 simp [b1,j2,j3,splice]
 generalize hK:jn5 E Xo _ PP=K
 have rest:∀ (s:St) (P':List (Txn' × Nat)) (Tv':V),P'.length≤8→(Q4 h).ts=(P'.map (·.1)).map jag→(Q4 h).tn=P'.isEmpty→s.tm 1 = .ptr 1 0 0→s.tm 2 = .ptr 129 64 0→s.df=[]→s.ro=0→s.fb=0→ub1≤s.nx →
  s.ob 1=some ⟨0,.cells [Sv,Kv,Tv']⟩→s.ob 129=some ⟨64,.cells [.sl none true 0 [],.sl none true 0 [],.sl none true 0 []]⟩→StO s.ob (192+256) N1 (Xw 25 h.ss) Sv→StO s.ob N1 N2 (Xw 45 h.ks) Kv→TsO s.ob N2 ub1 P' Tv'→K .nrm s:=by
  intro s P' Tv' hl8 ht8 hn8 g1 g2 gd gr gb gn p1 p2 gS gK gT
  rw [← hK,jf8]
  clear hK
  have lT':=gT.leaf
  simp
  refine jB [(3,3),(11,37)] P'.length (fun i s=>s.tm 3 = .int .i64 i∧s.ob 1=some ⟨0,.cells [Sv,Kv,Tv']⟩∧s.ob 129=some ⟨64,.cells [.sl none true 0 [],.sl none true 0 [],.sl none true 0 []]⟩∧StO s.ob (192+256) N1 (Xw 25 h.ss) Sv∧StO s.ob N1 N2 (Xw 45 h.ks) Kv∧TsO s.ob N2 ub1 (mixT P' i) Tv') rfl rfl
   ⟨by simp,by simp [p1],by simp [p2],gS.frame (fun _ _ _=>by simp) (Nat.le_refl _) (Nat.le_refl _),gK.frame (fun _ _ _=>by simp) (Nat.le_refl _) (Nat.le_refl _),by rw [jp9];exact gT.frame (fun _ _ _=>by simp) (Nat.le_refl _)⟩ ?_
  clear gS gK
  rintro i s1 hi ⟨h3,o1,o2,gS,gK,gX⟩ f
  have f1:s1.tm 1 = .ptr 1 0 0:=by rw [f.t 1 (by simp)];simp [g1]
  have f2:s1.tm 2 = .ptr 129 64 0:=by rw [f.t 2 (by simp)];simp [g2]
  have fd:s1.df=[]:=by rw [f.d];simp [gd]
  have fb:s1.fb=0:=by rw [f.b];simp [gb]
  have fr:s1.ro=0:=by rw [f.r];simp [gr]
  clear f
  have hXl:=gX.len
  rw [W4] at hXl
  by_cases hlt:i<P'.length
  ·have hw:=jl hlt (by omega)
   have hl3:i<(mixT P' i).length:=by rw [W4];exact hlt
   rcases gX.2 with ⟨he,_⟩ | ⟨hne,u,h1,h2,h4,rfl,h5⟩
   ·rw [he] at hl3;simp at hl3
   have hin:=gX.1 (P'[i]) (by rw [← jju hlt];exact List.getElem_mem hl3)
   have hixT:JH 3 (.osl (2 * u+1) u 0 (mixT P' i).length 3) (.int .i64 (i:Int))=some (.ptr (2 * u+1) u (i * 3)):=by simp [JH,hl3]
   have hcell:((mixT P' i).flatMap txU)[i * 3+2]? = some (.osl (2 * (P'[i]).2+1) (P'[i]).2 0 (P'[i]).1.ops.length 4):=by
    rw [je Ys _ hl3 (by decide:2<3),jju hlt]
    rfl
   have hset:=jok (P:=mixT P' i) (i:=i) hl3
   rw [← jhx hlt] at hset
   simp only [jju hlt] at hset
   have hmn:=jan (P'[i]).1.ops.length 6
   rw [show ((6:Nat):Int)=6 from rfl] at hmn
   have hsl:=fun L u=>js4 (L:=L) (u:=u) (n:=(P'[i]).1.ops.length) (i:=min (P'[i]).1.ops.length 6) (Nat.min_le_left _ _)
   have hs6:(jag (P'[i]).1).ops.length=min (P'[i]).1.ops.length 6:=by simp only [jag,List.length_take,Nat.min_comm]
   rw [hs6] at hset
   have n1':¬ 2 * u=0:=by omega
   have n2':¬ 2 * u=128:=by omega
   have hlen:i * 3+2+1≤((mixT P' i).flatMap txU).length:=by rw [jA Ys];omega
   simp [h3,f1,o1,j2,hXl,hlt,hixT,h5,hcell,hmn,hsl,fr,n1',n2',hset]
   have hq:∀ q∈mixT P' (i+1),InO s1.ob N2 ub1 q∧q.2≠u:=by
    intro q hq
    rw [jhx hlt] at hq
    rcases je2 hq with hq | ⟨x,hx,rfl⟩
    ·exact ⟨gX.1 q hq,h4 q hq⟩
    ·have hx':=List.mem_of_getElem? hx
     exact ⟨(gX.1 x hx').six,h4 x hx'⟩
   have hll:(mixT P' (i+1)).length=(mixT P' i).length:=by rw [W4,W4]
   refine ⟨by have:=hlen;simp only [List.length_flatMap,Ys] at this;exact this,hw,o2,gS.frame (fun y y1 y2=>?_) (Nat.le_refl _) (Nat.le_refl _),gK.frame (fun y y1 y2=>?_) (Nat.le_refl _) (Nat.le_refl _),fun q hqm=>?_,.inr ⟨?_,u,h1,h2,fun q hqm=>(hq q hqm).2,by rw [hll],by simp⟩⟩
   ·have w:¬ 2 * y=2 * u:=by omega
    simp [w]
   ·have w:¬ 2 * y=2 * u:=by omega
    simp [w]
   ·obtain ⟨a,b⟩:=hq q hqm
    have w:¬ 2 * q.2=2 * u:=by omega
    exact a.frame (by simp [w]) (Nat.le_refl _)
   ·intro e
    rw [e] at hll
    simp at hll
    omega
  ·have:i=P'.length:=by omega
   subst this
   simp [h3,f1,o1,j2,hXl,f2,o2,splice,fr,gS.leaf.1,gK.leaf.1,lT'.1]
   rw [← hPP]
   have hml:(mixT P' P'.length).isEmpty=(Q4 h).tn:=by rw [hn8];exact jde W4
   refine kE1 (g:=Q4 h) (l:=129) (u:=64) (x:=Sv) (y:=Kv) (z:=Tv') (by simp [fd]) (by simp [f2]) (by simp) ?_ ?_ ?_
   ·rw [e1,e2]
    refine StO.out (lo:=192+256) (hi:=N1) (gS.frame (fun y q1 q2=>?_) (Nat.le_refl _) (Nat.le_refl _)) (by simp [fr])
    have w:¬ 2 * y=128:=by omega
    simp [w]
   ·rw [e3,e4]
    refine StO.out (lo:=N1) (hi:=N2) (gK.frame (fun y q1 q2=>?_) (Nat.le_refl _) (Nat.le_refl _)) (by simp [fr])
    have w:¬ 2 * y=128:=by omega
    simp [w]
   ·have hl9:(Q4 h).ts.length=(mixT P' P'.length).length:=by rw [ht8,W4];simp
    rw [hl9,← hml,ht8,← jt4]
    refine TsO.out (lo:=N2) (hi:=ub1) (gX.frame (fun y q1 q2=>?_) (Nat.le_refl _)) (by simp [fr])
    have w:¬ 2 * y=128:=by omega
    simp [w]
 refine ⟨⟨lS,lK,lT⟩,?_⟩
 simp [hTl]
 have q1:∀ y,192≤y→¬ 2 * y=0:=fun y hy=>by omega
 by_cases h8:8<P.length
 ·have h8':(8:Int)<(P.length:Int):=by omega
  simp [h8',j2,splice]
  exact rest _ [] (.sl none true 0 []) (by simp) (by unfold Q4;rw [if_pos (by rw [hPl];exact h8)];rfl) (by unfold Q4;rw [if_pos (by rw [hPl];exact h8)];rfl) (by simp) (by simp) (by simp) (by simp) (by simp) (by simp <;> omega) (by simp) (by simp [b2])
   (gS.frame (fun y y1 y2=>by simp [q1 y (by omega)]) (Nat.le_refl _) (Nat.le_refl _)) (gK.frame (fun y y1 y2=>by simp [q1 y (by omega)]) (Nat.le_refl _) (Nat.le_refl _)) ⟨by simp,.inl ⟨rfl,rfl⟩⟩
 ·have h8':¬ (8:Int)<(P.length:Int):=by omega
  simp [h8']
  exact rest _ P Tv (by omega) (by unfold Q4;rw [if_neg (by rw [hPl];exact h8),hP];rfl) (by unfold Q4;rw [if_neg (by rw [hPl];exact h8)];show ((h.ts.take 45).map fewT).isEmpty=_;rw [← hP];exact jde (by simp)) (by simp) (by simp) (by simp) (by simp) (by simp) (by simp <;> omega) (by simp) (by simp [b2])
   (gS.frame (fun y y1 y2=>by simp [q1 y (by omega)]) (Nat.le_refl _) (Nat.le_refl _)) (gK.frame (fun y y1 y2=>by simp [q1 y (by omega)]) (Nat.le_refl _) (Nat.le_refl _)) (gT.frame (fun y y1 y2=>by simp [q1 y (by omega)]) (Nat.le_refl _))
end Go.Pv.T

/- AxiomHolds. -/
namespace Go.Pv.T
open Go Go.Pv
theorem j16 (h:Hist'):Small (Q4 h):=by
 have hs:=jov h
 unfold Q4
 split
 ·exact ⟨hs.ss,hs.sl,hs.ks,hs.kl,by simp,by simp⟩
 ·refine ⟨hs.ss,hs.sl,hs.ks,hs.kl,by simpa using hs.ts,fun t ht=>?_⟩
  simp only [List.mem_map] at ht
  obtain ⟨t',ht',rfl⟩:=ht
  have:=hs.os t' ht'
  simp only [jag,List.length_take]
  omega
theorem jve (h:Hist'):Q4 (Q4 h)=Q4 h:=by
 have e1:Xw 25 (jbj h).ss=(jbj h).ss:=jly 25 h.ss
 have e2:Xw 45 (jbj h).ks=(jbj h).ks:=jly 45 h.ks
 by_cases c:8<(jbj h).ts.length
 ·have e:Q4 h = { jbj h with tn:=true,ts:=[] }:=by unfold Q4;rw [if_pos c]
  have e0:jbj { jbj h with tn:=true,ts:=[] } = { jbj h with tn:=true,ts:=[] }:=by
   show Hist'.mk _ _ _ _ _ _=_
   simp only [e1,e2]
   rfl
  rw [e]
  unfold Q4
  rw [e0]
  rfl
 ·have e:Q4 h = { jbj h with ts:=(jbj h).ts.map jag }:=by unfold Q4;rw [if_neg c]
  have e3:(((jbj h).ts.map jag).take 45).map fewT=(jbj h).ts.map jag:=by
   show ((((h.ts.take 45).map fewT).map jag).take 45).map fewT=((h.ts.take 45).map fewT).map jag
   rw [← List.map_take,← List.map_take,List.take_take,List.map_map,List.map_map,List.map_map]
   refine List.map_congr_left fun t _=>?_
   simp [fewT,jag,List.take_take]
  have e0:jbj { jbj h with ts:=(jbj h).ts.map jag } = { jbj h with ts:=(jbj h).ts.map jag }:=by
   show Hist'.mk _ _ _ _ _ _=_
   simp only [e1,e2,e3]
   simp [jbj]
   cases h.ts <;> simp
  rw [e]
  unfold Q4
  rw [e0]
  have c':¬ 8<((jbj h).ts.map jag).length:=by simpa using c
  simp only
  rw [if_neg c',List.map_map]
  congr 1
  refine List.map_congr_left fun t _=>?_
  simp [jag,List.take_take]
theorem jrl {g:Hist'} {lvl:Int} {M O:List Int} (h:WH g lvl M O=0):WE g lvl M O=Qs g lvl M O:=by
 obtain ⟨_,h1,h3,hm,ho⟩:=j65 h
 simp [WE,h,ju6 h1 h3 hm ho]
end Go.Pv.T

/- AxiomLevels. -/
namespace Go.Pv.T
open Go Go.Pv
theorem err_lvl {g:Hist'} {M O:List Int}:WH g 2 M O=WH g 1 M O∧WH g 3 M O=WH g 1 M O:=by simp [WH]
theorem h32 {g:Hist'} {M O:List Int} (h:WE g 3 M O=true):WE g 2 M O=true:=by
 have h0:WH g 3 M O=0:=by
  unfold WE at h
  simp only [Bool.and_eq_true,beq_iff_eq] at h
  exact h.1
 obtain ⟨_,_,_,hm,ho⟩:=j65 h0
 rw [jrl h0] at h
 have h0':WH g 2 M O=0:=by rw [err_lvl.1,← err_lvl.2];exact h0
 rw [jrl h0']
 exact j2c hm ho h
end Go.Pv.T

/- The judge: who is seen, listed. -/
namespace Go.Pv.T
open Go Go.Pv
set_option maxRecDepth 100000 in
theorem sv73 {Yf:YF} {l:List Int} {v:V} {ob:Nat→Option Obj'} {ub lo kO uO:Nat} (hO:ob kO=some ⟨uO,.cells [v]⟩) (hv:IntsO ob (fun u=>lo≤u∧u<ub) l v) (hl:l.length≤1000) (hk:kO % 2=0) (t:Int) {tk:Nat→Bool} {ro base:Nat} (hroO:ro≤uO) (hro:ro≤lo) (hlo:lo≤ub) :
 ∃ r,EvS E Yf.y 73 [.int .i64 t,.ptr kO uO 0] ob tk ro base ub r∧(r.1 = .bool true∧ub≤r.2.2.2∧∃ v',r.2.1 kO=some ⟨uO,.cells [v']⟩∧IntsO r.2.1 (fun u=>lo≤u∧u<r.2.2.2) (l++[t]) v'∧∀ key,Off lo key→key≠kO→r.2.1 key=ob key):=by
 have hkO:∀ m,¬ kO=2 * m+1:=fun m h=>by omega
 have hkO':∀ m,¬ 2 * m+1=kO:=fun m h=>by omega
 refine YK (af:=S73) rfl (by decide) ?_
 show wpC E Yf S73.body _ (YQ S73.res _)
 simp (disch:=first | (simp;done) | omega) [S73,j2,hO]
 refine XP (cs:=[.int .i64 t]) (by simp [splice]) rfl rfl ?_
 simp
 refine jav (p:=fun u=>lo≤u∧u<ub) (l:=l) (z:=t) (v:=v) (X:=2 * (ub+64+64+64)+1) (uX:=ub+64+64+64) (by simp) (hv.frame (fun u hu=>by simp (disch:=first | (simp;done) | omega) [two_inj];intro e;omega) fun _ h=>h) (by simp) (by simp) (fun u hu=>by simp;omega) hl fun kl hkl=>?_
 have hnot:kO ∉ kl:=fun h=>by
  obtain ⟨u,_,e⟩:=hkl _ h
  omega
 have hob7:∀ (st:St) (d:Option Nat) (v:V) (l:Nat) (o:Obj'),(st.app d { v:=v,obs:=[(l,o)],kill:=kl }).ob kO=if kO=l then some o else st.ob kO:=fun st d v l o=>Qy st d v l o kl kO hnot
 have hobn:∀ (st:St) (d:Option Nat) (v:V) (l:Nat) (o:Obj') (k:Nat),k ∉ kl→(st.app d { v:=v,obs:=[(l,o)],kill:=kl }).ob k=if k=l then some o else st.ob k:=fun st d v l o k h=>Qy st d v l o kl k h
 simp (disch:=first | (simp;done) | omega) [hob7,hkO,hO,j2]
 refine ⟨hroO,Qt (by simp) ⟨by simp,by first | (simp;done) | (simp;omega),.osl (2 * (ub+64+64+64+64)+1) (ub+64+64+64+64) 0 (l++[t]).length 1,by simp,.inr ⟨by simp,ub+64+64+64+64,rfl,?_,by omega,by first | (simp;done) | (simp;omega)⟩,fun key hk hne=>?_⟩⟩
 ·have hn:2 * (ub+64+64+64+64)+1 ∉ kl:=fun h=>by
   obtain ⟨u,h1,e⟩:=hkl _ h
   omega
  simp (disch:=first | (simp;done) | omega) [hkO',hobn _ _ _ _ _ _ hn]
 ·have hn:key ∉ kl:=fun h=>by
   obtain ⟨u,h1,e⟩:=hkl _ h
   exact hk u h1.1 e
  simp (disch:=first | (simp;done) | omega) [hne,hobn _ _ _ _ _ _ hn,show ∀ m,lo≤m→¬ key=2 * m+1 from hk]
end Go.Pv.T

/- The judge: all that are seen. -/
namespace Go.Pv.T
open Go Go.Pv
set_option maxRecDepth 100000 in
theorem sv72s {Yf:YF} {g:Hist'} (hs:Small g) (hw:jm g=true) {lvl:Int} {M O:List Int} {N:JN} {ob:Nat→Option Obj'} {ub:Nat} (hJ:Jd g lvl M O N ob ub) (hM:M.length=(readH g).length) (ho:jk g O=true) {q:Nat} (hq:q<(readH g).length)
 {kO uO:Nat} (hO:ob kO=some ⟨uO,.cells [.sl none true 0 []]⟩) (hkO:kO % 2=0) {tk:Nat→Bool} {ro base:Nat} (hro:ro≤ub) (hroO:ro≤uO) :
 ∃ r,EvS E Yf.y 72 [.ptr N.kJ N.uJ 0,.int .i64 (q:Int),.fn (.func 73) [] [.ptr kO uO 0]] ob tk ro base ub r∧(ub≤r.2.2.2∧∃ v',r.2.1 kO=some ⟨uO,.cells [v']⟩∧IntsO r.2.1 (fun u=>ub≤u∧u<r.2.2.2) ((comL g).filter fun t=>Jn g lvl M O (readH g)[q] t) v'∧∀ key,Off ub key→key≠kO→r.2.1 key=ob key):=by
 have hR:=Jo hs
 obtain ⟨vc,evc,hvc⟩:=j1j hs
 rw [WX hw] at hvc
 have hj:=hJ.j
 have hcl:=WA g
 have hts:=hs.ts
 have hkO':∀ m,¬ kO=2 * m+1:=fun m h=>by omega
 refine YK (af:=S72) rfl (by decide) ?_
 show wpC E Yf S72.body _ (YQ S72.res _)
 obtain ⟨F,hF⟩:∃ F:Int→Bool,(fun t=>Jn g lvl M O (readH g)[q] t)=F:=⟨_,rfl⟩
 have hFt:∀ t:Int,F t=Jn g lvl M O (readH g)[q] t:=fun t=>by rw [← hF]
 rw [hF]
 simp [S72,j2,hj]
 refine jL evc (by simp [j3]) rfl (by simp [j3]) ?_
 refine XH hvc fun tc addc=>?_
 simp
 refine jB [(6,6),(8,8),(15,29)] (comL g).length (fun i s=>s.tm 15 = .int .i64 i∧(∃ v,s.ob kO=some ⟨uO,.cells [v]⟩∧IntsO s.ob (fun u=>ub≤u∧u<s.nx) (((comL g).take i).filter F) v)∧(∀ key,Off ub key→key≠kO→s.ob key=ob key)∧ub≤s.nx) rfl rfl ⟨by simp,⟨_,by simpa using hO,.inl ⟨by simp,rfl⟩⟩,fun key _ _=>by simp,by simp;omega⟩ ?_
 rintro i s hi ⟨s15,⟨v,hO',hv⟩,hW,hn⟩ fr
 have s0:s.tm 0 = .ptr N.kJ N.uJ 0:=by rw [fr.t 0 (by simp)];simp
 have s1:s.tm 1 = .int .i64 (q:Int):=by rw [fr.t 1 (by simp)];simp
 have s2:s.tm 2 = .fn (.func 73) [] [.ptr kO uO 0]:=by rw [fr.t 2 (by simp)];simp
 have s13:s.tm 13 = .sl tc (comL g).isEmpty (comL g).length ((comL g).flatMap intC):=by rw [fr.t 13 (by simp)];simp
 have s14:s.tm 14 = .int .i64 (comL g).length:=by rw [fr.t 14 (by simp)];simp
 have sd:s.df=[]:=by rw [fr.d];simp
 have sr:s.ro=ro:=by rw [fr.r];simp
 clear fr
 by_cases hlt:i<(comL g).length
 ·have hwk:=jl hlt (by omega)
  have ix:JH 1 (.sl tc (comL g).isEmpty (comL g).length ((comL g).flatMap intC)) (.int .i64 (i:Int))=some (.eptr ((comL g).flatMap intC) i):=by have:=Jq jD tc (comL g).isEmpty (comL g) .i64 hlt;rwa [Nat.mul_one] at this
  have h1:=JL (comL g) hlt
  obtain ⟨t,et,ht⟩:=comL_mem.1 (List.getElem_mem hlt)
  rw [et] at h1
  have htk:((comL g).take (i+1)).filter F=((comL g).take i).filter F++if F t then [(t:Int)] else []:=by
   rw [List.take_succ_eq_append_getElem hlt,List.filter_append,et]
   cases h:F (t:Int) <;> simp [h]
  simp [s15,s14,s13,hlt,ix,h1]
  have hJs:Jd g lvl M O N s.ob s.nx:=hJ.keepO (fun key hk ho=>hW key hk (by omega)) hn
  refine Xr (vs:=[.ptr N.kJ N.uJ 0,.int .i64 (q:Int),.int .i64 (t:Int)]) (by simp [s0,s1]) rfl rfl (by simpa using jwv (hJs.keep (Was.refl _ _) (by omega)) hR hM ho hq ht _ _) ?_
  rw [← hFt]
  simp
  cases c1:F (t:Int)
  ·rw [c1] at htk
   simp [s15,hwk,hlt]
   rw [htk,if_neg (by simp),List.append_nil]
   exact ⟨⟨v,hO',hv.frame (fun _ _=>rfl) fun u h=>⟨h.1,by have:=h.2;omega⟩⟩,hW,by omega⟩
  ·rw [c1] at htk
   simp [s2]
   refine jqt (f:=73) (first:=[]) (captured:=[.ptr kO uO 0]) (vs:=[.int .i64 (t:Int),.ptr kO uO 0]) (by simp) (by simp) rfl (sv73 (l:=((comL g).take i).filter F) (v:=v) (lo:=ub) (by simpa using hO') (hv.frame (fun u hu=>by simp) fun u h=>⟨h.1,by have:=h.2;omega⟩) (Nat.le_trans (List.length_filter_le _ _) (by rw [List.length_take];omega)) hkO (t:Int) (by simpa [sr] using hroO) (by simpa [sr] using hro) (by omega)) ?_
   rintro w ob1 tk1 ub1 ⟨r1,r2,v',r3,r4,r5⟩
   simp only at r1 r2 r3 r4 r5
   subst r1
   simp [s15,hwk,hlt]
   rw [htk,if_pos rfl]
   exact ⟨⟨v',r3,r4.frame (fun _ _=>rfl) fun u h=>⟨h.1,by have:=h.2;omega⟩⟩,fun key h1 h2=>by rw [r5 key h1 h2];simpa using hW key h1 h2,by omega⟩
 ·have:i=(comL g).length:=by omega
  subst this
  simp [s15,s14]
  refine Qt (by simp [sd]) ⟨by simp;omega,v,by simpa using hO',?_,fun key h1 h2=>by simpa using hW key h1 h2⟩
  rw [List.take_length] at hv
  exact hv.frame (fun u hu=>by simp) fun u h=>⟨h.1,by have:=h.2;simp;omega⟩
end Go.Pv.T

/- Seen. -/
namespace Go.Pv.T
open Go Go.Pv
theorem jnh {st:St} {p:Nat→Prop} {n m:Nat} {T:List Int} {v:V} {c:Int} (hd:st.df=[]) (hv:st.tm n=v) (hm:st.tm m = .int .i64 c) (h:IntsO st.ob p T v) (hro:∀ u,p u→st.ro≤u):juu [.t n,.t m] (.tup [Wu T,.int .i64 c]) .ret st:=by
 show QN [.t n,.t m] (.ret,st)=some (.tup [Wu T,.int .i64 c])
 rcases h with ⟨rfl,rfl⟩ | ⟨hne,u,rfl,hob,hp⟩
 ·exact jt hd (by rw [hv];rfl) hm rfl rfl
 ·have hoc:j2 st.ob (2 * u+1) u=some (T.flatMap intC):=by simp [j2,hob]
  have hlen:(T.flatMap intC).length=T.length:=by rw [jA jD];omega
  have hemp:T.isEmpty=false:=by cases T with | nil=>exact absurd rfl hne | cons=>rfl
  have hpos:0<T.length:=List.length_pos_iff.2 hne
  have hs:JF st 6 (.osl (2 * u+1) u 0 T.length 1)=some (.sl none false T.length (T.flatMap intC)):=by
   show ((j2 st.ob (2 * u+1) u).bind fun cs=>if Nat.ble st.ro u=true∧0+T.length * 1≤cs.length then (((cs.drop 0).take (T.length * 1)).mapM (JF st 5)).map fun cs'=>V.sl none false T.length cs' else none)=_
   rw [hoc,Option.bind_some]
   rw [if_pos ⟨Nat.ble_eq ▸ hro u hp,by omega⟩]
   rw [List.drop_zero,Nat.mul_one,List.take_of_length_le (by omega),jae]
   rfl
  have ho:jh st true 0 (.osl (2 * u+1) u 0 T.length 1)=some (.sl (some (0,1)) false T.length (T.flatMap intC)):=by
   simp only [jh,hs,Option.bind_some,hoc,Option.map_some]
   have hb:(true && Nat.beq 0 0 && Nat.blt 0 T.length && Nat.beq (T.length * 1) (T.flatMap intC).length)=true:=by
    rw [hlen,Nat.mul_one,Nat.beq_refl,Nat.beq_refl]
    simp
    exact hpos
   rw [hb]
   rfl
  have hto:X8 st true 0 (.osl (2 * u+1) u 0 T.length 1)=some (.sl (some (0,1)) false T.length (T.flatMap intC)):=ho
  have hr:[ARes.t n,ARes.t m].mapM (jn st)=some [.osl (2 * u+1) u 0 T.length 1,.int .i64 c]:=by simp [jn,hv,hm]
  have hfl:(V.int .i64 c).flat=true:=rfl
  simp only [QN,Y6 hd,Y2 hd,if_true,hr,Option.bind_some,YG]
  have hn:nodup ([V.osl (2 * u+1) u 0 T.length 1,.int .i64 c].flatMap V.toks)=true:=rfl
  rw [hn]
  simp only [J6,hto,W0 hfl,Option.bind_some,Option.map_some]
  rw [Wu,hemp]
  rfl
def Ws (g:Hist') (lvl:Int) (M O:List Int) (q:Int):List Int × Int :=
 if WH g lvl M O≠0 then ([],WH g lvl M O) else match if 0≤q then (readH g)[q.toNat]? else none with
 | none=>([],3)
 | some p=>((comL g).filter fun t=>Jn g lvl M O p t,0)
set_option maxRecDepth 100000 in
theorem ev30 {g:Hist'} (hs:Small g) (lvl:Int) {nl on:Bool} {M O:List Int} (hM:M.length≤1000000) (hO:O.length≤1000000) (hon:on=true→O=[]) (q:Int) :
 Ev E 30 [.int .i64 lvl,.agg (j3 g),slOf nl intC M,slOf on intC O,.int .i64 q] (.tup [Wu (Ws g lvl M O q).1,.int .i64 (Ws g lvl M O q).2]):=by
 refine jR (af:=F30) rfl ?_
 simp [F30,j2,j3]
 refine JS (vs:=[.int .i64 lvl,.agg (j3 g),slOf nl intC M,slOf on intC O]) (by simp [j3]) rfl (sv65 hs hM hO hon (by simp)) ?_
 rintro v ob1 tk1 ub1 ⟨hub,hW,hr⟩
 simp only at hub hW hr
 by_cases he:WH g lvl M O=0
 ·rw [if_pos he] at hr
  obtain ⟨N,rfl,hJ⟩:=hr
  obtain ⟨hw,h1,h3,hm,ho⟩:=j65 he
  have hR:=Jo hs
  have hMl:=jap hm
  have hj:=hJ.j
  have hE:Ws g lvl M O q=match if 0≤q then (readH g)[q.toNat]? else none with
   | none=>([],3)
   | some p=>((comL g).filter fun t=>Jn g lvl M O p t,0):=by unfold Ws;rw [if_neg (by simpa using he)]
  by_cases hq0:0≤q
  ·obtain ⟨k,rfl⟩:=Int.eq_ofNat_of_zero_le hq0
   have hq0':¬ (k:Int)<0:=by omega
   by_cases hqk:k<(readH g).length
   ·have hE2:Ws g lvl M O (k:Int)=((comL g).filter fun t=>Jn g lvl M O (readH g)[k] t,0):=by
     rw [hE,if_pos hq0,Int.toNat_natCast,List.getElem?_eq_getElem hqk]
    rw [hE2]
    simp (disch:=first | (simp;done) | omega) [j2,hj,hq0',show ¬ (readH g).length≤k by omega]
    refine JS rfl rfl (sv72s (kO:=28) hs hw (hJ.keepO (fun key hk ho=>?_) (by omega)) hMl ho hqk (by simp) (by decide) (by simp) (by simp)) ?_
    ·have:¬ key=28:=by omega
     simp [this]
    rintro w ob2 tk2 ub2 ⟨h1,v',h2,h3,h4⟩
    simp only at h1 h2 h3 h4
    simp [j2,h2]
    exact jnh (by simp) (by simp) (by simp) (h3.frame (fun _ _=>by simp) fun _ h=>h) (fun u h=>by simp)
   ·have hE2:Ws g lvl M O (k:Int)=([],3):=by
     rw [hE,if_pos hq0,Int.toNat_natCast,List.getElem?_eq_none (by omega)]
    rw [hE2]
    simp (disch:=first | (simp;done) | omega) [j2,hj,hq0',show (readH g).length≤k by omega]
    exact jt (by simp) (by simp [Wu]) (by simp) rfl rfl
  ·have hq0':q<0:=by omega
   have hE2:Ws g lvl M O q=([],3):=by rw [hE,if_neg hq0]
   rw [hE2]
   simp (disch:=first | (simp;done) | omega) [hq0']
   exact jt (by simp) (by simp [Wu]) (by simp) rfl rfl
 ·rw [if_neg he] at hr
  subst hr
  have hE:Ws g lvl M O q=([],WH g lvl M O):=by simp [Ws,he]
  rw [hE]
  have hb:(WH g lvl M O != 0)=true:=by simpa using he
  simp [hb]
  exact jt (by simp) (by simp [Wu]) (by simp) rfl rfl
end Go.Pv.T

/- AxiomSeen. -/
namespace Go.Pv.T
open Go Go.Pv
theorem jtd {ub:Nat} {T:List Int} {c:Int} {K:Delta→Prop} (h:∀ t add,K { v:=.tup [.sl t T.isEmpty T.length (T.flatMap intC),.int .i64 c],add:=add }):wpD (Xj ub (.tup [Wu T,.int .i64 c])) K:=by
 cases T with
 | nil =>
  rw [show Wu [] = .sl none true 0 [] from rfl,JB (by simp [V.plain]),jP]
  exact h none []
 | cons a T =>
  rw [show Wu (a::T) = .sl (some (0,1)) false (a::T).length ((a::T).flatMap intC) from rfl]
  have:=h (some (ub+0,1))
  simp [Xj,toksRes,V.toks,V.tok,Qr,Qq,Xc,Nat.blt]
  simpa using this _
theorem js8 {g:Hist'} (p:Int→Bool):((comL g).filter p).length≤g.ts.length:=Nat.le_trans (List.length_filter_le _ _) (WA g)
set_option maxRecDepth 100000 in
theorem ev8 (h:Hist') (lvl q:Int) {nl on:Bool} {M O:List Int}:Ev E 8 [.int .i64 lvl,.agg (j3 h),slOf nl intC M,slOf on intC O,.int .i64 q] (.bool true):=by
 obtain ⟨r,ev,hr⟩:=ev15 h
 obtain ⟨r2,ev2,hr2⟩:=ev15 (Q4 h)
 rw [jve] at hr2
 have hs:=j16 h
 generalize Q4 h=g at *
 have hts:=hs.ts
 have hm1:QG false [.int .i64 (M.length:Int),.int .i64 60]=some (.int .i64 ((min M.length 60:Nat):Int)):=jan M.length 60
 have hm2:QG false [.int .i64 (O.length:Int),.int .i64 60]=some (.int .i64 ((min O.length 60:Nat):Int)):=jan O.length 60
 have hk1:min M.length 60≤M.length:=Nat.min_le_left _ _
 have hk2:min O.length 60≤O.length:=Nat.min_le_left _ _
 have hk3:min M.length 60≤60:=Nat.min_le_right _ _
 have hk4:min O.length 60≤60:=Nat.min_le_right _ _
 generalize min M.length 60=k1 at *
 generalize min O.length 60=k2 at *
 have hs1:=jfm jD none nl M hk1
 have hs2:=jfm jD none on O hk2
 have l1:(M.take k1).length≤60:=by rw [List.length_take];omega
 have l2:(O.take k2).length≤60:=by rw [List.length_take];omega
 generalize M.take k1=M' at *
 generalize O.take k2=O' at *
 obtain ⟨vm,evm,hvm⟩:=ev25 nl M' (by omega)
 obtain ⟨vo,evo,hvo⟩:=ev25 on O' (by omega)
 obtain ⟨vm2,evm2,hvm2⟩:=ev25 false M' (by omega)
 obtain ⟨vo2,evo2,hvo2⟩:=ev25 false O' (by omega)
 have e30:=ev30 hs lvl (nl:=false) (on:=false) (M:=M') (O:=O') (by omega) (by omega) (by simp) q
 have e28:=ev28 hs (nl:=false) (on:=false) lvl M' O' (by omega) (by omega)
 obtain ⟨vr,evr,hvr⟩:=ev31 hs
 refine jR (af:=F8) rfl ?_
 simp [F8,j3,j2]
 refine Jp ev (by simp [j3,slOf]) rfl (by simp [j3,slOf]) ?_
 refine jo4 hr fun a1 b1 c1 add1=>?_
 simp [hm1,hs1,slOf]
 refine Jp evm (by simp [slOf]) rfl (by simp [slOf]) ?_
 refine XH hvm fun a2 add2=>?_
 simp [hm2,hs2]
 refine Jp evo (by simp [slOf]) rfl (by simp [slOf]) ?_
 refine XH hvo fun a3 add3=>?_
 simp [j2,splice]
 refine jL ev2 (by simp [j3,slOf]) rfl (by simp [j3,slOf]) ?_
 refine jo4 hr2 fun a4 b4 c4 add4=>?_
 simp
 refine jL evm2 (by simp [slOf]) rfl (by simp [slOf]) ?_
 refine XH hvm2 fun a5 add5=>?_
 simp
 refine jL evo2 (by simp [slOf]) rfl (by simp [slOf]) ?_
 refine XH hvo2 fun a6 add6=>?_
 simp
 refine jL e30 (by simp [j3,slOf]) rfl (by simp [j3,slOf]) ?_
 refine jtd fun t30 add30=>?_
 simp [j2]
 refine jL e28 (by simp [j3,slOf]) rfl (by simp [j3,slOf]) ?_
 by_cases he:WH g lvl M' O'=0
 ·obtain ⟨hw,h1,h3,hmm,hoo⟩:=j65 he
  have hMl:=jap hmm
  have hsE:Ws g lvl M' O' q=match if 0≤q then (readH g)[q.toNat]? else none with
   | none=>([],3)
   | some p=>((comL g).filter fun t=>Jn g lvl M' O' p t,0):=by unfold Ws;rw [if_neg (by simpa using he)];try rfl
  rw [he]
  simp
  by_cases hq0:0≤q
  ·obtain ⟨k,rfl⟩:=Int.eq_ofNat_of_zero_le hq0
   have hq0':¬ (k:Int)<0:=by omega
   simp [hq0',j2]
   refine jL evr (by simp [j3,slOf]) rfl (by simp [j3,slOf]) ?_
   refine XH hvr fun tr addr=>?_
   by_cases hqk:k<(readH g).length
   ·have hE2:Ws g lvl M' O' (k:Int)=((comL g).filter fun t=>Jn g lvl M' O' (readH g)[k] t,0):=by
     rw [hsE,if_pos hq0,Int.toNat_natCast,List.getElem?_eq_getElem hqk]
    obtain ⟨t,et,ht⟩:=comL_mem.1 (Yx (List.getElem_mem hqk))
    obtain ⟨v33,e33,h33⟩:=ev33 hs (nl:=false) (on:=false) (M:=M') (O:=O') hMl (by omega) lvl hqk (Jt ht) et
    rw [← jx6 h1 h3 hmm] at h33
    rw [hE2]
    have hl:=js8 (g:=g) (fun t=>Jn g lvl M' O' (readH g)[k] t)
    have e32:=fun a b=>ev32 (a:=a) (b:=b) ((comL g).filter fun t=>Jn g lvl M' O' (readH g)[k] t) ((comL g).filter fun t=>Jn g lvl M' O' (readH g)[k] t) (by omega) (by omega)
    generalize ((comL g).filter fun t=>Jn g lvl M' O' (readH g)[k] t)=T at *
    simp [show ¬ (readH g).length≤k by omega,j2]
    refine jL e33 (by simp [j3,slOf]) rfl (by simp [j3,slOf]) ?_
    refine XH h33 fun t33 add33=>?_
    simp
    refine jL (e32 T.isEmpty false) (by simp [slOf]) rfl (by simp [slOf]) ?_
    simp
    refine jL ev29 (by simp) rfl (by simp) ?_
    simp
    exact j4 rfl (by simp) rfl
   ·have hE2:Ws g lvl M' O' (k:Int)=([],3):=by
     rw [hsE,if_pos hq0,Int.toNat_natCast,List.getElem?_eq_none (by omega)]
    rw [hE2]
    simp [show (readH g).length≤k by omega]
    refine jL ev29 (by simp) rfl (by simp) ?_
    simp
    exact j4 rfl (by simp) rfl
  ·have hq0':q<0:=by omega
   have hE2:Ws g lvl M' O' q=([],3):=by rw [hsE,if_neg hq0]
   rw [hE2]
   simp [hq0']
   refine jL ev29 (by simp) rfl (by simp) ?_
   simp
   exact j4 rfl (by simp) rfl
 ·have hE:Ws g lvl M' O' q=([],WH g lvl M' O'):=by simp [Ws,he]
  rw [hE]
  have hb:(WH g lvl M' O' != 0)=true:=by simpa using he
  simp [hb]
  refine jL ev29 (by simp) rfl (by simp) ?_
  simp
  exact j4 rfl (by simp) rfl
end Go.Pv.T

/- slices.Sort at []int: what the kit proves of it, at this program's numbers. -/
namespace Go.Pv.T
open Go Go.Pv Go.Proofs Go.Shelf
def renS:Ren where
 f:=fun x=>match x with
  | 189=>69
  | 125=>118
  | 257=>117
  | 128=>187
  | 129=>188
  | 294=>178
  | 295=>179
  | 296=>180
  | 297=>181
  | 298=>182
  | 299=>183
  | 216=>184
  | 300=>185
  | 301=>186
  | 328=>238
  | 329=>239
  | 330=>240
  | 331=>241
  | 332=>242
  | 215=>243
  | 343=>275
  | n=>n
 t:=fun x=>match x with
  | 28=>26
  | 3=>3
  | 46=>160
  | 0=>0
  | 51=>236
  | 53=>165
  | 4=>4
  | 183=>230
  | 182=>229
  | 131=>157
  | 5=>5
  | 9=>9
  | 218=>275
  | 222=>279
  | 228=>307
  | 229=>304
  | n=>n
 g:=fun x=>x
theorem j51:Lays.n189 Tryz.prog renS where
 mixed:=by kernel_rfl
 f125:=Tryz.func118.trans (congrArg some (by kernel_rfl))
 f128:=Tryz.func187.trans (congrArg some (by kernel_rfl))
 f129:=Tryz.func188.trans (congrArg some (by kernel_rfl))
 f189:=Tryz.func69.trans (congrArg some (by kernel_rfl))
 f215:=Tryz.func243.trans (congrArg some (by kernel_rfl))
 f216:=Tryz.func184.trans (congrArg some (by kernel_rfl))
 f257:=Tryz.func117.trans (congrArg some (by kernel_rfl))
 f294:=Tryz.func178.trans (congrArg some (by kernel_rfl))
 f295:=Tryz.func179.trans (congrArg some (by kernel_rfl))
 f296:=Tryz.func180.trans (congrArg some (by kernel_rfl))
 f297:=Tryz.func181.trans (congrArg some (by kernel_rfl))
 f298:=Tryz.func182.trans (congrArg some (by kernel_rfl))
 f299:=Tryz.func183.trans (congrArg some (by kernel_rfl))
 f300:=Tryz.func185.trans (congrArg some (by kernel_rfl))
 f301:=Tryz.func186.trans (congrArg some (by kernel_rfl))
 f328:=Tryz.func238.trans (congrArg some (by kernel_rfl))
 f329:=Tryz.func239.trans (congrArg some (by kernel_rfl))
 f330:=Tryz.func240.trans (congrArg some (by kernel_rfl))
 f331:=Tryz.func241.trans (congrArg some (by kernel_rfl))
 f332:=Tryz.func242.trans (congrArg some (by kernel_rfl))
 f343:=Tryz.func275.trans (congrArg some (by kernel_rfl))
 t0:=Tryz.underlying0
 a0:=Tryz.isAgg0
 z0:=Tryz.sizeOf0
 v0:=Tryz.zeroValue0
 t3:=Tryz.underlying3
 a3:=Tryz.isAgg3
 z3:=Tryz.sizeOf3
 v3:=Tryz.zeroValue3
 t4:=Tryz.underlying4
 a4:=Tryz.isAgg4
 z4:=Tryz.sizeOf4
 v4:=Tryz.zeroValue4
 t5:=Tryz.underlying5
 a5:=Tryz.isAgg5
 z5:=Tryz.sizeOf5
 v5:=Tryz.zeroValue5
 t9:=Tryz.underlying9
 a9:=Tryz.isAgg9
 z9:=Tryz.sizeOf9
 v9:=Tryz.zeroValue9
 t28:=Tryz.underlying26
 a28:=Tryz.isAgg26
 z28:=Tryz.sizeOf26
 v28:=Tryz.zeroValue26
 t46:=Tryz.underlying160
 a46:=Tryz.isAgg160
 z46:=Tryz.sizeOf160
 v46:=Tryz.zeroValue160
 t51:=Tryz.underlying236
 a51:=Tryz.isAgg236
 z51:=Tryz.sizeOf236
 v51:=Tryz.zeroValue236
 t53:=Tryz.underlying165
 a53:=Tryz.isAgg165
 z53:=Tryz.sizeOf165
 v53:=Tryz.zeroValue165
 t131:=Tryz.underlying157
 a131:=Tryz.isAgg157
 z131:=Tryz.sizeOf157
 v131:=Tryz.zeroValue157
 t182:=Tryz.underlying229
 a182:=Tryz.isAgg229
 z182:=Tryz.sizeOf229
 v182:=Tryz.zeroValue229
 t183:=Tryz.underlying230
 a183:=Tryz.isAgg230
 z183:=Tryz.sizeOf230
 v183:=Tryz.zeroValue230
 t218:=Tryz.underlying275
 a218:=Tryz.isAgg275
 z218:=Tryz.sizeOf275
 v218:=Tryz.zeroValue275
 t222:=Tryz.underlying279
 a222:=Tryz.isAgg279
 z222:=Tryz.sizeOf279
 v222:=Tryz.zeroValue279
 t228:=Tryz.underlying307
 a228:=Tryz.isAgg307
 z228:=Tryz.sizeOf307
 v228:=Tryz.zeroValue307
 t229:=Tryz.underlying304
 a229:=Tryz.isAgg304
 z229:=Tryz.sizeOf304
 v229:=Tryz.zeroValue304
theorem jos:jkh Tryz.prog 69:=by
 refine ⟨⟨Tryz.f69,_,Tryz.func69,rfl,by kernel_rfl⟩,fun p cap w=>?_,fun blk off cap zs w h1 h2 h3=>?_⟩
 ·exact Any.slices_Sort_int_none j51 p cap w
 ·exact Any.slices_Sort_int j51 blk off cap zs w h1 h2 h3
end Go.Pv.T

/- The environment is what the program's code says. -/
namespace Go.Pv.T
open Go Go.Pv Go.Proofs

theorem j5 {P:Program} {m r:Bool} {f:FuncId} {fn:Func} {af:AF} (h1:P.funcs[f]? = some fn) (h2:j7b P m r fn=some af) (h3:(fn.name == "runtime.NumGoroutine")=false) (h4:af.body.dstOk fn.ntmps=true):jW P r f af:=by
  unfold j7b at h2
  cases hb:fn.body with
  | none=>rw [hb] at h2;cases h2
  | some c =>
    rw [hb,Option.bind_some] at h2
    cases hc:comp P m r c with
    | none=>rw [hc] at h2;cases h2
    | some b =>
      rw [hc,Option.bind_some] at h2
      cases hr:fn.results.toList.mapM (Y7 P) with
      | none=>rw [hr] at h2;cases h2
      | some res =>
        rw [hr] at h2
        cases h2
        exact ⟨m,fn,c,h1,hb,hc,hr,h3,h4⟩

theorem j3t:jW Tryz.prog false 287 F287:=j5 (m:=false) Tryz.func287 (by kernel_rfl) (by kernel_rfl) (by kernel_rfl)
theorem j3s:jW Tryz.prog false 288 F288:=j5 (m:=false) Tryz.func288 (by kernel_rfl) (by kernel_rfl) (by kernel_rfl)
theorem j3r:jW Tryz.prog false 289 F289:=j5 (m:=false) Tryz.func289 (by kernel_rfl) (by kernel_rfl) (by kernel_rfl)
theorem j3q:jW Tryz.prog false 290 F290:=j5 (m:=false) Tryz.func290 (by kernel_rfl) (by kernel_rfl) (by kernel_rfl)
theorem j3p:jW Tryz.prog false 293 F293:=j5 (m:=false) Tryz.func293 (by kernel_rfl) (by kernel_rfl) (by kernel_rfl)
theorem j3o:jW Tryz.prog false 300 F300:=j5 (m:=false) Tryz.func300 (by kernel_rfl) (by kernel_rfl) (by kernel_rfl)
theorem j3n:jW Tryz.prog false 301 F301:=j5 (m:=false) Tryz.func301 (by kernel_rfl) (by kernel_rfl) (by kernel_rfl)
theorem j3m:jW Tryz.prog false 302 F302:=j5 (m:=false) Tryz.func302 (by kernel_rfl) (by kernel_rfl) (by kernel_rfl)
theorem j3l:jW Tryz.prog false 304 F304:=j5 (m:=false) Tryz.func304 (by kernel_rfl) (by kernel_rfl) (by kernel_rfl)
theorem j3k:jW Tryz.prog false 307 F307:=j5 (m:=false) Tryz.func307 (by kernel_rfl) (by kernel_rfl) (by kernel_rfl)
theorem j3j:jW Tryz.prog false 311 F311:=j5 (m:=false) Tryz.func311 (by kernel_rfl) (by kernel_rfl) (by kernel_rfl)
theorem j3i:jW Tryz.prog false 320 F320:=j5 (m:=false) Tryz.func320 (by kernel_rfl) (by kernel_rfl) (by kernel_rfl)
theorem j47:jW Tryz.prog false 159 F159:=j5 (m:=false) Tryz.func159 (by kernel_rfl) (by kernel_rfl) (by kernel_rfl)
theorem j46:jW Tryz.prog false 160 F160:=j5 (m:=false) Tryz.func160 (by kernel_rfl) (by kernel_rfl) (by kernel_rfl)
theorem j45:jW Tryz.prog false 161 F161:=j5 (m:=false) Tryz.func161 (by kernel_rfl) (by kernel_rfl) (by kernel_rfl)
theorem j44:jW Tryz.prog false 166 F166:=j5 (m:=false) Tryz.func166 (by kernel_rfl) (by kernel_rfl) (by kernel_rfl)
theorem j43:jW Tryz.prog false 167 F167:=j5 (m:=false) Tryz.func167 (by kernel_rfl) (by kernel_rfl) (by kernel_rfl)
theorem j42:jW Tryz.prog false 170 F170:=j5 (m:=false) Tryz.func170 (by kernel_rfl) (by kernel_rfl) (by kernel_rfl)
theorem j41:jW Tryz.prog false 172 F172:=j5 (m:=false) Tryz.func172 (by kernel_rfl) (by kernel_rfl) (by kernel_rfl)
theorem j40:jW Tryz.prog false 173 F173:=j5 (m:=false) Tryz.func173 (by kernel_rfl) (by kernel_rfl) (by kernel_rfl)
theorem j4z:jW Tryz.prog false 174 F174:=j5 (m:=false) Tryz.func174 (by kernel_rfl) (by kernel_rfl) (by kernel_rfl)
theorem j4y:jW Tryz.prog false 175 F175:=j5 (m:=false) Tryz.func175 (by kernel_rfl) (by kernel_rfl) (by kernel_rfl)
theorem j4x:jW Tryz.prog false 176 F176:=j5 (m:=false) Tryz.func176 (by kernel_rfl) (by kernel_rfl) (by kernel_rfl)
theorem j4w:jW Tryz.prog false 177 F177:=j5 (m:=false) Tryz.func177 (by kernel_rfl) (by kernel_rfl) (by kernel_rfl)
theorem j4v:jW Tryz.prog false 188 F188:=j5 (m:=false) Tryz.func188 (by kernel_rfl) (by kernel_rfl) (by kernel_rfl)
theorem j4u:jW Tryz.prog false 212 F212:=j5 (m:=false) Tryz.func212 (by kernel_rfl) (by kernel_rfl) (by kernel_rfl)
theorem j4t:jW Tryz.prog false 214 F214:=j5 (m:=false) Tryz.func214 (by kernel_rfl) (by kernel_rfl) (by kernel_rfl)
theorem j4s:jW Tryz.prog false 216 F216:=j5 (m:=false) Tryz.func216 (by kernel_rfl) (by kernel_rfl) (by kernel_rfl)
theorem j4r:jW Tryz.prog false 217 F217:=j5 (m:=true) Tryz.func217 (by kernel_rfl) (by kernel_rfl) (by kernel_rfl)
theorem j4q:jW Tryz.prog false 223 F223:=j5 (m:=false) Tryz.func223 (by kernel_rfl) (by kernel_rfl) (by kernel_rfl)
theorem j4p:jW Tryz.prog false 224 F224:=j5 (m:=false) Tryz.func224 (by kernel_rfl) (by kernel_rfl) (by kernel_rfl)
theorem j4o:jW Tryz.prog false 225 F225:=j5 (m:=false) Tryz.func225 (by kernel_rfl) (by kernel_rfl) (by kernel_rfl)
theorem j4n:jW Tryz.prog false 226 F226:=j5 (m:=false) Tryz.func226 (by kernel_rfl) (by kernel_rfl) (by kernel_rfl)
theorem j4m:jW Tryz.prog false 227 F227:=j5 (m:=false) Tryz.func227 (by kernel_rfl) (by kernel_rfl) (by kernel_rfl)
theorem j4l:jW Tryz.prog false 228 F228:=j5 (m:=false) Tryz.func228 (by kernel_rfl) (by kernel_rfl) (by kernel_rfl)
theorem j4k:jW Tryz.prog false 229 F229:=j5 (m:=false) Tryz.func229 (by kernel_rfl) (by kernel_rfl) (by kernel_rfl)
theorem j4j:jW Tryz.prog false 230 F230:=j5 (m:=false) Tryz.func230 (by kernel_rfl) (by kernel_rfl) (by kernel_rfl)
theorem j4i:jW Tryz.prog false 233 F233:=j5 (m:=false) Tryz.func233 (by kernel_rfl) (by kernel_rfl) (by kernel_rfl)
theorem j4h:jW Tryz.prog false 234 F234:=j5 (m:=false) Tryz.func234 (by kernel_rfl) (by kernel_rfl) (by kernel_rfl)
theorem j4g:jW Tryz.prog false 235 F235:=j5 (m:=false) Tryz.func235 (by kernel_rfl) (by kernel_rfl) (by kernel_rfl)
theorem j4f:jW Tryz.prog false 236 F236:=j5 (m:=false) Tryz.func236 (by kernel_rfl) (by kernel_rfl) (by kernel_rfl)
theorem j4e:jW Tryz.prog false 251 F251:=j5 (m:=false) Tryz.func251 (by kernel_rfl) (by kernel_rfl) (by kernel_rfl)
theorem j4d:jW Tryz.prog false 252 F252:=j5 (m:=false) Tryz.func252 (by kernel_rfl) (by kernel_rfl) (by kernel_rfl)
theorem j4c:jW Tryz.prog false 253 F253:=j5 (m:=false) Tryz.func253 (by kernel_rfl) (by kernel_rfl) (by kernel_rfl)
theorem j4b:jW Tryz.prog false 254 F254:=j5 (m:=false) Tryz.func254 (by kernel_rfl) (by kernel_rfl) (by kernel_rfl)
theorem j4a:jW Tryz.prog false 258 F258:=j5 (m:=false) Tryz.func258 (by kernel_rfl) (by kernel_rfl) (by kernel_rfl)
theorem j39:jW Tryz.prog false 259 F259:=j5 (m:=false) Tryz.func259 (by kernel_rfl) (by kernel_rfl) (by kernel_rfl)
theorem j38:jW Tryz.prog false 261 F261:=j5 (m:=false) Tryz.func261 (by kernel_rfl) (by kernel_rfl) (by kernel_rfl)
theorem j37:jW Tryz.prog false 262 F262:=j5 (m:=false) Tryz.func262 (by kernel_rfl) (by kernel_rfl) (by kernel_rfl)
theorem j36:jW Tryz.prog false 263 F263:=j5 (m:=false) Tryz.func263 (by kernel_rfl) (by kernel_rfl) (by kernel_rfl)
theorem j35:jW Tryz.prog false 264 F264:=j5 (m:=false) Tryz.func264 (by kernel_rfl) (by kernel_rfl) (by kernel_rfl)
theorem j34:jW Tryz.prog false 265 F265:=j5 (m:=false) Tryz.func265 (by kernel_rfl) (by kernel_rfl) (by kernel_rfl)
theorem j33:jW Tryz.prog false 266 F266:=j5 (m:=false) Tryz.func266 (by kernel_rfl) (by kernel_rfl) (by kernel_rfl)
theorem j32:jW Tryz.prog false 267 F267:=j5 (m:=false) Tryz.func267 (by kernel_rfl) (by kernel_rfl) (by kernel_rfl)
theorem j31:jW Tryz.prog false 268 F268:=j5 (m:=false) Tryz.func268 (by kernel_rfl) (by kernel_rfl) (by kernel_rfl)
theorem j30:jW Tryz.prog false 269 F269:=j5 (m:=false) Tryz.func269 (by kernel_rfl) (by kernel_rfl) (by kernel_rfl)
theorem j3z:jW Tryz.prog false 273 F273:=j5 (m:=false) Tryz.func273 (by kernel_rfl) (by kernel_rfl) (by kernel_rfl)
theorem j3y:jW Tryz.prog false 280 F280:=j5 (m:=false) Tryz.func280 (by kernel_rfl) (by kernel_rfl) (by kernel_rfl)
theorem j3x:jW Tryz.prog false 281 F281:=j5 (m:=false) Tryz.func281 (by kernel_rfl) (by kernel_rfl) (by kernel_rfl)
theorem j3w:jW Tryz.prog false 284 F284:=j5 (m:=false) Tryz.func284 (by kernel_rfl) (by kernel_rfl) (by kernel_rfl)
theorem j3v:jW Tryz.prog false 285 F285:=j5 (m:=false) Tryz.func285 (by kernel_rfl) (by kernel_rfl) (by kernel_rfl)
theorem j3u:jW Tryz.prog false 286 F286:=j5 (m:=false) Tryz.func286 (by kernel_rfl) (by kernel_rfl) (by kernel_rfl)
theorem okc8:jW Tryz.prog false 8 F8:=j5 (m:=false) Tryz.func8 (by kernel_rfl) (by kernel_rfl) (by kernel_rfl)
theorem okc15:jW Tryz.prog false 15 F15:=j5 (m:=true) Tryz.func15 (by kernel_rfl) (by kernel_rfl) (by kernel_rfl)
theorem okc21:jW Tryz.prog false 21 F21:=j5 (m:=false) Tryz.func21 (by kernel_rfl) (by kernel_rfl) (by kernel_rfl)
theorem okc22:jW Tryz.prog false 22 F22:=j5 (m:=false) Tryz.func22 (by kernel_rfl) (by kernel_rfl) (by kernel_rfl)
theorem okc23:jW Tryz.prog false 23 F23:=j5 (m:=false) Tryz.func23 (by kernel_rfl) (by kernel_rfl) (by kernel_rfl)
theorem okc25:jW Tryz.prog false 25 F25:=j5 (m:=false) Tryz.func25 (by kernel_rfl) (by kernel_rfl) (by kernel_rfl)
theorem okc26:jW Tryz.prog false 26 F26:=j5 (m:=false) Tryz.func26 (by kernel_rfl) (by kernel_rfl) (by kernel_rfl)
theorem okc27:jW Tryz.prog false 27 F27:=j5 (m:=false) Tryz.func27 (by kernel_rfl) (by kernel_rfl) (by kernel_rfl)
theorem okc28:jW Tryz.prog false 28 F28:=j5 (m:=false) Tryz.func28 (by kernel_rfl) (by kernel_rfl) (by kernel_rfl)
theorem okc29:jW Tryz.prog false 29 F29:=j5 (m:=false) Tryz.func29 (by kernel_rfl) (by kernel_rfl) (by kernel_rfl)
theorem okc30:jW Tryz.prog false 30 F30:=j5 (m:=false) Tryz.func30 (by kernel_rfl) (by kernel_rfl) (by kernel_rfl)
theorem okc31:jW Tryz.prog false 31 F31:=j5 (m:=false) Tryz.func31 (by kernel_rfl) (by kernel_rfl) (by kernel_rfl)
theorem okc32:jW Tryz.prog false 32 F32:=j5 (m:=false) Tryz.func32 (by kernel_rfl) (by kernel_rfl) (by kernel_rfl)
theorem okc33:jW Tryz.prog false 33 F33:=j5 (m:=false) Tryz.func33 (by kernel_rfl) (by kernel_rfl) (by kernel_rfl)
theorem okc39:jW Tryz.prog false 39 F39:=j5 (m:=false) Tryz.func39 (by kernel_rfl) (by kernel_rfl) (by kernel_rfl)
theorem okc52:jW Tryz.prog false 52 F52:=j5 (m:=false) Tryz.func52 (by kernel_rfl) (by kernel_rfl) (by kernel_rfl)
theorem okc53:jW Tryz.prog false 53 F53:=j5 (m:=false) Tryz.func53 (by kernel_rfl) (by kernel_rfl) (by kernel_rfl)
theorem okc57:jW Tryz.prog false 57 F57:=j5 (m:=false) Tryz.func57 (by kernel_rfl) (by kernel_rfl) (by kernel_rfl)
theorem okc58:jW Tryz.prog false 58 F58:=j5 (m:=true) Tryz.func58 (by kernel_rfl) (by kernel_rfl) (by kernel_rfl)
theorem okc59:jW Tryz.prog false 59 F59:=j5 (m:=false) Tryz.func59 (by kernel_rfl) (by kernel_rfl) (by kernel_rfl)
theorem okc60:jW Tryz.prog false 60 F60:=j5 (m:=false) Tryz.func60 (by kernel_rfl) (by kernel_rfl) (by kernel_rfl)
theorem okc61:jW Tryz.prog false 61 F61:=j5 (m:=false) Tryz.func61 (by kernel_rfl) (by kernel_rfl) (by kernel_rfl)
theorem okc62:jW Tryz.prog false 62 F62:=j5 (m:=false) Tryz.func62 (by kernel_rfl) (by kernel_rfl) (by kernel_rfl)
theorem okc63:jW Tryz.prog false 63 F63:=j5 (m:=false) Tryz.func63 (by kernel_rfl) (by kernel_rfl) (by kernel_rfl)
theorem okc70:jW Tryz.prog false 70 F70:=j5 (m:=false) Tryz.func70 (by kernel_rfl) (by kernel_rfl) (by kernel_rfl)
theorem okc71:jW Tryz.prog false 71 F71:=j5 (m:=false) Tryz.func71 (by kernel_rfl) (by kernel_rfl) (by kernel_rfl)
theorem okc74:jW Tryz.prog false 74 F74:=j5 (m:=false) Tryz.func74 (by kernel_rfl) (by kernel_rfl) (by kernel_rfl)
theorem okc75:jW Tryz.prog false 75 F75:=j5 (m:=false) Tryz.func75 (by kernel_rfl) (by kernel_rfl) (by kernel_rfl)
theorem okc84:jW Tryz.prog false 84 F84:=j5 (m:=false) Tryz.func84 (by kernel_rfl) (by kernel_rfl) (by kernel_rfl)
theorem okc86:jW Tryz.prog false 86 F86:=j5 (m:=false) Tryz.func86 (by kernel_rfl) (by kernel_rfl) (by kernel_rfl)
theorem j5r:jW Tryz.prog false 103 F103:=j5 (m:=false) Tryz.func103 (by kernel_rfl) (by kernel_rfl) (by kernel_rfl)
theorem j5q:jW Tryz.prog false 104 F104:=j5 (m:=false) Tryz.func104 (by kernel_rfl) (by kernel_rfl) (by kernel_rfl)
theorem j5p:jW Tryz.prog false 105 F105:=j5 (m:=false) Tryz.func105 (by kernel_rfl) (by kernel_rfl) (by kernel_rfl)
theorem j5o:jW Tryz.prog false 106 F106:=j5 (m:=true) Tryz.func106 (by kernel_rfl) (by kernel_rfl) (by kernel_rfl)
theorem j5n:jW Tryz.prog false 108 F108:=j5 (m:=false) Tryz.func108 (by kernel_rfl) (by kernel_rfl) (by kernel_rfl)
theorem j5m:jW Tryz.prog false 109 F109:=j5 (m:=true) Tryz.func109 (by kernel_rfl) (by kernel_rfl) (by kernel_rfl)
theorem j5l:jW Tryz.prog false 110 F110:=j5 (m:=false) Tryz.func110 (by kernel_rfl) (by kernel_rfl) (by kernel_rfl)
theorem j5k:jW Tryz.prog false 112 F112:=j5 (m:=false) Tryz.func112 (by kernel_rfl) (by kernel_rfl) (by kernel_rfl)
theorem j5j:jW Tryz.prog false 114 F114:=j5 (m:=false) Tryz.func114 (by kernel_rfl) (by kernel_rfl) (by kernel_rfl)
theorem j5i:jW Tryz.prog false 116 F116:=j5 (m:=false) Tryz.func116 (by kernel_rfl) (by kernel_rfl) (by kernel_rfl)
theorem j5h:jW Tryz.prog false 118 F118:=j5 (m:=false) Tryz.func118 (by kernel_rfl) (by kernel_rfl) (by kernel_rfl)
theorem j5g:jW Tryz.prog false 120 F120:=j5 (m:=false) Tryz.func120 (by kernel_rfl) (by kernel_rfl) (by kernel_rfl)
theorem j5f:jW Tryz.prog false 121 F121:=j5 (m:=false) Tryz.func121 (by kernel_rfl) (by kernel_rfl) (by kernel_rfl)
theorem j5e:jW Tryz.prog false 122 F122:=j5 (m:=false) Tryz.func122 (by kernel_rfl) (by kernel_rfl) (by kernel_rfl)
theorem j5d:jW Tryz.prog false 127 F127:=j5 (m:=false) Tryz.func127 (by kernel_rfl) (by kernel_rfl) (by kernel_rfl)
theorem j5c:jW Tryz.prog false 136 F136:=j5 (m:=false) Tryz.func136 (by kernel_rfl) (by kernel_rfl) (by kernel_rfl)
theorem j5b:jW Tryz.prog false 152 F152:=j5 (m:=false) Tryz.func152 (by kernel_rfl) (by kernel_rfl) (by kernel_rfl)
theorem j5a:jW Tryz.prog false 155 F155:=j5 (m:=false) Tryz.func155 (by kernel_rfl) (by kernel_rfl) (by kernel_rfl)
theorem j49:jW Tryz.prog false 157 F157:=j5 (m:=false) Tryz.func157 (by kernel_rfl) (by kernel_rfl) (by kernel_rfl)
theorem j48:jW Tryz.prog false 158 F158:=j5 (m:=false) Tryz.func158 (by kernel_rfl) (by kernel_rfl) (by kernel_rfl)
set_option maxRecDepth 100000 in
theorem j6h {f:FuncId} {af:AF} (h:fc_2 f=some af):jW Tryz.prog false f af:=by
  unfold fc_2 at h
  split at h
  · cases h;exact j3t
  · cases h;exact j3s
  · cases h;exact j3r
  · cases h;exact j3q
  · cases h;exact j3p
  · cases h;exact j3o
  · cases h;exact j3n
  · cases h;exact j3m
  · cases h;exact j3l
  · cases h;exact j3k
  · cases h;exact j3j
  · cases h;exact j3i
  · cases h
set_option maxRecDepth 100000 in
theorem j6i {f:FuncId} {af:AF} (h:fc_1 f=some af):jW Tryz.prog false f af:=by
  unfold fc_1 at h
  split at h
  · cases h;exact j47
  · cases h;exact j46
  · cases h;exact j45
  · cases h;exact j44
  · cases h;exact j43
  · cases h;exact j42
  · cases h;exact j41
  · cases h;exact j40
  · cases h;exact j4z
  · cases h;exact j4y
  · cases h;exact j4x
  · cases h;exact j4w
  · cases h;exact j4v
  · cases h;exact j4u
  · cases h;exact j4t
  · cases h;exact j4s
  · cases h;exact j4r
  · cases h;exact j4q
  · cases h;exact j4p
  · cases h;exact j4o
  · cases h;exact j4n
  · cases h;exact j4m
  · cases h;exact j4l
  · cases h;exact j4k
  · cases h;exact j4j
  · cases h;exact j4i
  · cases h;exact j4h
  · cases h;exact j4g
  · cases h;exact j4f
  · cases h;exact j4e
  · cases h;exact j4d
  · cases h;exact j4c
  · cases h;exact j4b
  · cases h;exact j4a
  · cases h;exact j39
  · cases h;exact j38
  · cases h;exact j37
  · cases h;exact j36
  · cases h;exact j35
  · cases h;exact j34
  · cases h;exact j33
  · cases h;exact j32
  · cases h;exact j31
  · cases h;exact j30
  · cases h;exact j3z
  · cases h;exact j3y
  · cases h;exact j3x
  · cases h;exact j3w
  · cases h;exact j3v
  · cases h;exact j3u
  · exact j6h h
set_option maxRecDepth 100000 in
theorem fcOk {f:FuncId} {af:AF} (h:fc f=some af):jW Tryz.prog false f af:=by
  unfold fc at h
  split at h
  · cases h;exact okc8
  · cases h;exact okc15
  · cases h;exact okc21
  · cases h;exact okc22
  · cases h;exact okc23
  · cases h;exact okc25
  · cases h;exact okc26
  · cases h;exact okc27
  · cases h;exact okc28
  · cases h;exact okc29
  · cases h;exact okc30
  · cases h;exact okc31
  · cases h;exact okc32
  · cases h;exact okc33
  · cases h;exact okc39
  · cases h;exact okc52
  · cases h;exact okc53
  · cases h;exact okc57
  · cases h;exact okc58
  · cases h;exact okc59
  · cases h;exact okc60
  · cases h;exact okc61
  · cases h;exact okc62
  · cases h;exact okc63
  · cases h;exact okc70
  · cases h;exact okc71
  · cases h;exact okc74
  · cases h;exact okc75
  · cases h;exact okc84
  · cases h;exact okc86
  · cases h;exact j5r
  · cases h;exact j5q
  · cases h;exact j5p
  · cases h;exact j5o
  · cases h;exact j5n
  · cases h;exact j5m
  · cases h;exact j5l
  · cases h;exact j5k
  · cases h;exact j5j
  · cases h;exact j5i
  · cases h;exact j5h
  · cases h;exact j5g
  · cases h;exact j5f
  · cases h;exact j5e
  · cases h;exact j5d
  · cases h;exact j5c
  · cases h;exact j5b
  · cases h;exact j5a
  · cases h;exact j49
  · cases h;exact j48
  · exact j6i h
theorem oks51:jW Tryz.prog true 51 S51:=j5 (m:=true) Tryz.func51 (by kernel_rfl) (by kernel_rfl) (by kernel_rfl)
theorem oks65:jW Tryz.prog true 65 S65:=j5 (m:=true) Tryz.func65 (by kernel_rfl) (by kernel_rfl) (by kernel_rfl)
theorem oks66:jW Tryz.prog true 66 S66:=j5 (m:=true) Tryz.func66 (by kernel_rfl) (by kernel_rfl) (by kernel_rfl)
theorem oks67:jW Tryz.prog true 67 S67:=j5 (m:=true) Tryz.func67 (by kernel_rfl) (by kernel_rfl) (by kernel_rfl)
theorem oks68:jW Tryz.prog true 68 S68:=j5 (m:=true) Tryz.func68 (by kernel_rfl) (by kernel_rfl) (by kernel_rfl)
theorem oks70:jW Tryz.prog true 70 S70:=j5 (m:=true) Tryz.func70 (by kernel_rfl) (by kernel_rfl) (by kernel_rfl)
theorem oks72:jW Tryz.prog true 72 S72:=j5 (m:=true) Tryz.func72 (by kernel_rfl) (by kernel_rfl) (by kernel_rfl)
theorem oks73:jW Tryz.prog true 73 S73:=j5 (m:=true) Tryz.func73 (by kernel_rfl) (by kernel_rfl) (by kernel_rfl)
theorem j3h:jW Tryz.prog true 111 S111:=j5 (m:=true) Tryz.func111 (by kernel_rfl) (by kernel_rfl) (by kernel_rfl)
theorem j3g:jW Tryz.prog true 113 S113:=j5 (m:=true) Tryz.func113 (by kernel_rfl) (by kernel_rfl) (by kernel_rfl)
theorem j3f:jW Tryz.prog true 115 S115:=j5 (m:=true) Tryz.func115 (by kernel_rfl) (by kernel_rfl) (by kernel_rfl)
theorem j3e:jW Tryz.prog true 119 S119:=j5 (m:=true) Tryz.func119 (by kernel_rfl) (by kernel_rfl) (by kernel_rfl)
theorem j3d:jW Tryz.prog true 153 S153:=j5 (m:=true) Tryz.func153 (by kernel_rfl) (by kernel_rfl) (by kernel_rfl)
theorem j3c:jW Tryz.prog true 154 S154:=j5 (m:=true) Tryz.func154 (by kernel_rfl) (by kernel_rfl) (by kernel_rfl)
theorem j3b:jW Tryz.prog true 156 S156:=j5 (m:=true) Tryz.func156 (by kernel_rfl) (by kernel_rfl) (by kernel_rfl)
theorem j3a:jW Tryz.prog true 168 S168:=j5 (m:=true) Tryz.func168 (by kernel_rfl) (by kernel_rfl) (by kernel_rfl)
theorem j29:jW Tryz.prog true 169 S169:=j5 (m:=true) Tryz.func169 (by kernel_rfl) (by kernel_rfl) (by kernel_rfl)
theorem j28:jW Tryz.prog true 171 S171:=j5 (m:=true) Tryz.func171 (by kernel_rfl) (by kernel_rfl) (by kernel_rfl)
theorem j27:jW Tryz.prog true 213 S213:=j5 (m:=true) Tryz.func213 (by kernel_rfl) (by kernel_rfl) (by kernel_rfl)
theorem j26:jW Tryz.prog true 215 S215:=j5 (m:=true) Tryz.func215 (by kernel_rfl) (by kernel_rfl) (by kernel_rfl)
theorem j25:jW Tryz.prog true 231 S231:=j5 (m:=true) Tryz.func231 (by kernel_rfl) (by kernel_rfl) (by kernel_rfl)
theorem j24:jW Tryz.prog true 232 S232:=j5 (m:=true) Tryz.func232 (by kernel_rfl) (by kernel_rfl) (by kernel_rfl)
theorem j23:jW Tryz.prog true 237 S237:=j5 (m:=true) Tryz.func237 (by kernel_rfl) (by kernel_rfl) (by kernel_rfl)
theorem j22:jW Tryz.prog true 255 S255:=j5 (m:=true) Tryz.func255 (by kernel_rfl) (by kernel_rfl) (by kernel_rfl)
theorem j21:jW Tryz.prog true 270 S270:=j5 (m:=true) Tryz.func270 (by kernel_rfl) (by kernel_rfl) (by kernel_rfl)
theorem j20:jW Tryz.prog true 271 S271:=j5 (m:=true) Tryz.func271 (by kernel_rfl) (by kernel_rfl) (by kernel_rfl)
theorem j2z:jW Tryz.prog true 272 S272:=j5 (m:=true) Tryz.func272 (by kernel_rfl) (by kernel_rfl) (by kernel_rfl)
theorem j2y:jW Tryz.prog true 274 S274:=j5 (m:=true) Tryz.func274 (by kernel_rfl) (by kernel_rfl) (by kernel_rfl)
theorem j2x:jW Tryz.prog true 291 S291:=j5 (m:=true) Tryz.func291 (by kernel_rfl) (by kernel_rfl) (by kernel_rfl)
theorem j2w:jW Tryz.prog true 292 S292:=j5 (m:=true) Tryz.func292 (by kernel_rfl) (by kernel_rfl) (by kernel_rfl)
theorem j2v:jW Tryz.prog true 294 S294:=j5 (m:=true) Tryz.func294 (by kernel_rfl) (by kernel_rfl) (by kernel_rfl)
theorem j2u:jW Tryz.prog true 295 S295:=j5 (m:=true) Tryz.func295 (by kernel_rfl) (by kernel_rfl) (by kernel_rfl)
theorem j2t:jW Tryz.prog true 296 S296:=j5 (m:=true) Tryz.func296 (by kernel_rfl) (by kernel_rfl) (by kernel_rfl)
theorem j2s:jW Tryz.prog true 303 S303:=j5 (m:=true) Tryz.func303 (by kernel_rfl) (by kernel_rfl) (by kernel_rfl)
theorem j2r:jW Tryz.prog true 305 S305:=j5 (m:=true) Tryz.func305 (by kernel_rfl) (by kernel_rfl) (by kernel_rfl)
theorem j2q:jW Tryz.prog true 312 S312:=j5 (m:=true) Tryz.func312 (by kernel_rfl) (by kernel_rfl) (by kernel_rfl)
set_option maxRecDepth 100000 in
theorem fsOk {f:FuncId} {af:AF} (h:fs f=some af):jW Tryz.prog true f af:=by
  unfold fs at h
  split at h
  · cases h;exact oks51
  · cases h;exact oks65
  · cases h;exact oks66
  · cases h;exact oks67
  · cases h;exact oks68
  · cases h;exact oks70
  · cases h;exact oks72
  · cases h;exact oks73
  · cases h;exact j3h
  · cases h;exact j3g
  · cases h;exact j3f
  · cases h;exact j3e
  · cases h;exact j3d
  · cases h;exact j3c
  · cases h;exact j3b
  · cases h;exact j3a
  · cases h;exact j29
  · cases h;exact j28
  · cases h;exact j27
  · cases h;exact j26
  · cases h;exact j25
  · cases h;exact j24
  · cases h;exact j23
  · cases h;exact j22
  · cases h;exact j21
  · cases h;exact j20
  · cases h;exact j2z
  · cases h;exact j2y
  · cases h;exact j2x
  · cases h;exact j2w
  · cases h;exact j2v
  · cases h;exact j2u
  · cases h;exact j2t
  · cases h;exact j2s
  · cases h;exact j2r
  · cases h;exact j2q
  · cases h
theorem envOk:EnvOk Tryz.prog E:=⟨fun _ _ h=>fcOk h,fun _ _ h=>fsOk h,fun f h=>by
  have e:f=69:=by simpa [E,srl] using h
  subst e;exact jos⟩
end Go.Pv.T

/- The row's side, the same for every law of the seat. -/
namespace Go.Pv.T
open Go Go.Pv Go.Proofs Go.ChangeShapes Go.WideShapes Go.ChangeAt Go.RowKit Go.Proofs.YtphecmnehkdihaaGreatDoor

theorem own:ownKnob Tryz.prog.godebug=none:=by kernel_rfl
theorem jqk:laidOutB Tryz.prog=true:=by kernel_rfl
theorem mixed:Tryz.prog.follows .mixedOrders=true:=by kernel_rfl

def jnb:List (String × DataW Unit):=[("unicode/utf8.acceptRanges",Rows.laid_unicode_utf8_acceptRanges),("deemster/event.words",Rows.laid_deemster_event_words),("unicode/utf8.first",Rows.laid_unicode_utf8_first)]

def jwp:V→Value
  | .int k n=>.int k n
  | .str s=>.string ⟨s.toArray⟩
  | _=>.nilFunc
def putCells (h:Array Obj) (g:Nat) (cs:Array Value):Array Obj:=h.modify g fun
    | .cells _ t frozen=>.cells cs t frozen
    | o=>o
def jkg:Array Value:=#[.int .u8 128,.int .u8 191,.int .u8 160,.int .u8 191,.int .u8 128,.int .u8 159,.int .u8 144,.int .u8 191,.int .u8 128,.int .u8 143,.int .u8 0,.int .u8 0,.int .u8 0,.int .u8 0,.int .u8 0,.int .u8 0,.int .u8 0,.int .u8 0,.int .u8 0,.int .u8 0,.int .u8 0,.int .u8 0,.int .u8 0,.int .u8 0,.int .u8 0,.int .u8 0,.int .u8 0,.int .u8 0,.int .u8 0,.int .u8 0,.int .u8 0,.int .u8 0]
noncomputable def laidWorld (os:Os):World :=
  let w0:=World.holding Tryz.prog os ⟨#[],#[],[]⟩
  { w0 with heap:=putCells (putCells (putCells w0.heap 1 (words.map jwp).toArray) 2 (utf8first.map jwp).toArray) 3 jkg }
set_option maxRecDepth 100000 in
theorem jvs (os:Os) (args:Array Value):laidMetH Tryz.prog jnb ((laidWorld os).forCall (fun _ _=>0) ⟨#[],args,[]⟩).memory:=by
  rw [MakeChecks.laidMetH_plain _ _ _ (by kernel_rfl)]
  exact laidMet_of_run' 8 (by kernel_rfl) (by kernel_rfl)

theorem gWords:Tryz.prog.globalNamed "deemster/event.words" = some 1:=by kernel_rfl
theorem gFirst:Tryz.prog.globalNamed "unicode/utf8.first" = some 2:=by kernel_rfl
theorem tWords:(Tryz.prog.globals[1]?).map (·.type)=some 300:=by kernel_rfl
theorem tFirst:(Tryz.prog.globals[2]?).map (·.type)=some 319:=by kernel_rfl

def Xh (W:World):IMap:=fun b o=>W.cell? ⟨b,o,none⟩
theorem jrq (W:World):jir (Xh W) W:=fun _ _ _ h=>h

def jlh:DataW Unit→V
  | .lit (.int k n)=>.int k n
  | .lit (.string s)=>.str s
  | _=>.undef

theorem jrw     {W:World} {t e:TypeId} {n fuel:Nat} {cs:List Value} {ds:List (DataW Unit)} {p:List MemPlace} (ht:Tryz.prog.underlying t=some (.array n e)) (hc:Tryz.prog.cellsOf e=1)
    (he:Tryz.prog.underlying e=some .string∨∃ k,Tryz.prog.underlying e=some (.int k)) (h:DataW.trod (fun _=>()) Tryz.prog W 0 (fun _=>true) false fuel t cs=some (.agg ds,p)) (I:IMap) :
    ∀ (j:Nat) (d:DataW Unit),ds[j]? = some d→∃ x,cs[j]? = some x∧RepP I x (jlh d):=by
  obtain ⟨xs,m,rfl,hx,hlen,hn,hel⟩:=DataW.trod_array ht h
  intro j d hd
  simp only [Prod.mk.injEq,DataW.agg.injEq] at hx
  rw [hx.1,List.getElem?_map] at hd
  cases hy:xs[j]? with
  | none=>simp [hy] at hd
  | some y =>
    rw [hy] at hd
    simp only [Option.map_some,Option.some.injEq] at hd
    have hj:j<n:=by rw [← hn];exact (List.getElem?_eq_some_iff.1 hy).1
    have:=hel j hj
    rw [hc,Nat.mul_one,hy] at this
    have one:∀ c,(cs.drop j).take 1=[c]→cs[j]? = some c:=by
      intro c hcc
      have:=congrArg List.head? hcc
      simpa [List.head?_take,List.head?_drop] using this
    rcases he with he | ⟨k,he⟩
    · obtain ⟨s,e1,e2,_⟩:=DataW.trod_string he this
      refine ⟨_,one _ e1,?_⟩
      rw [← hd,e2]
      exact RepP.str s
    · obtain ⟨s,e1,e2,_⟩:=DataW.trod_int he this
      refine ⟨_,one _ e1,?_⟩
      rw [← hd,e2]
      exact RepP.int k s

theorem jrg    {W:World} {nm:String} {g:Nat} {cs:Array Value} {ds:List (DataW Unit)} (hg:Tryz.prog.globalNamed nm=some g) (hv:W.var? Tryz.prog nm=some cs) (hp:(ds.map jlh ).all V.pureLeaf=true)
    (h:∀ (j:Nat) (d:DataW Unit),ds[j]? = some d→∃ x,cs.toList[j]? = some x∧RepP (Xh W) x (jlh d)):RepP (Xh W) (.pointer (some ⟨g,0,none⟩)) (.eptr (ds.map jlh) 0):=by
  have hc:=World.var?_cell hg hv
  refine RepP.eptr g 0 0 (ds.map jlh) (fun j=>(cs[j]?).getD .nilFunc) (fun j hj=>?_) (fun j v hj=>?_) (fun j v hj=>?_)
  · rw [List.length_map] at hj
    obtain ⟨x,hx,_⟩:=h j ds[j] (List.getElem?_eq_getElem hj)
    have hx':cs[j]? = some x:=by simpa using hx
    show W.cell? ⟨g,0+j,none⟩=_
    rw [Nat.zero_add,hc j,hx']
    rfl
  · exact List.all_eq_true.1 hp v (List.mem_of_getElem? hj)
  · rw [List.getElem?_map] at hj
    cases hd:ds[j]? with
    | none=>rw [hd] at hj;cases hj
    | some d =>
      rw [hd] at hj
      cases hj
      obtain ⟨x,hx,hr⟩:=h j d hd
      have hx':cs[j]? = some x:=by simpa using hx
      rw [hx']
      exact hr

def aggOf:DataW Unit→List (DataW Unit)
  | .agg l=>l
  | _=>[]
theorem jsp:(aggOf Rows.laid_deemster_event_words).map jlh=words:=by kernel_rfl
theorem jvc:(aggOf Rows.laid_unicode_utf8_first).map jlh=utf8first:=by kernel_rfl
theorem jrh:Rows.laid_unicode_utf8_first = .agg (aggOf Rows.laid_unicode_utf8_first):=by kernel_rfl
theorem jmi:((aggOf Rows.laid_deemster_event_words).map jlh).all V.pureLeaf=true:=by kernel_rfl
theorem jnp:((aggOf Rows.laid_unicode_utf8_first).map jlh).all V.pureLeaf=true:=by kernel_rfl

theorem jil       {H:Type} {enc:TypeId × Value→H} {W W':World} (hb:Below W.heap.size W W'):∀ {ts:List TypeId} {vs:List Value} {ds:List (DataW H)} {ps:List MemPlace},
    (∀ t∈ts,Tryz.prog.readableRec t=true∧t<Tryz.prog.types.size)→(∀ x∈ps,x.block<W.heap.size) →
    DataW.TrodAll enc Tryz.prog W 0 (fun _=>true) true ts vs ds ps→DataW.TrodAll enc Tryz.prog W' 0 (fun b=>decide (b<W.heap.size)) true ts vs ds ps
  | [],[],[],_,_,_,h=>h
  | t::ts,v::vs,d::ds,_,ht,hlt,⟨p,q,h1,h2,e⟩=>by
    subst e
    exact ⟨p,q,Below.trod jqk (ht t (List.mem_cons_self ..)).1 (ht t (List.mem_cons_self ..)).2 h1 hb (fun x hx=>hlt x (List.mem_append_left _ hx)),
      jil hb (fun t' h'=>ht t' (List.mem_cons_of_mem _ h')) (fun x hx=>hlt x (List.mem_append_right _ hx)) h2,rfl⟩
  | [],_::_,_,_,_,_,h=>h.elim
  | [],[],_::_,_,_,_,h=>h.elim
  | _::_,[],_,_,_,_,h=>h.elim
  | _::_,_::_,[],_,_,_,h=>h.elim

theorem jpc       {H:Type} {enc:TypeId × Value→H} {fn:Func} {s:ChangeSpec} {W W':World} {args:Array Value} {ds gs:List (DataW H)} {before:List MemPlace} (hW:DataW.Whole enc Tryz.prog fn.params.toList s.vars false W args.toList ds gs before)
    (hv:s.vars=[]) (hr:fn.resultTypes = #[4]) (hs:(s.fn H ds).results=[.lit (.bool true)]) (ha:(s.fn H ds).args=ds) (hvs:(s.fn H ds).vars=[])
    (ht:∀ t∈fn.params.toList,Tryz.prog.readableRec t=true∧t<Tryz.prog.types.size) (hg:W.grownBy W' none):s.post enc Tryz.prog fn false true false false W args (.bool true) W':=by
  have hb:Below W.heap.size W W':=(Below.refl _ W).grown hg (Nat.le_refl _) (fun _ h=>by cases h)
  have hW':=hW
  obtain ⟨p,q,hA,hV,rfl,_,_⟩:=hW
  rw [hv] at hV
  obtain ⟨rfl,rfl⟩:=trodVars_none hV
  have hlt:∀ x∈p,x.block<W.heap.size:=fun x hx=>by simpa using hW'.lt x (List.mem_append_left _ hx)
  refine ⟨ds,[],_,[],p,[],hW',?_,?_,?_,hb.frame _,fun h=>by cases h⟩
  · rw [List.append_nil,hs,hr]
    exact trodAll_mk1 (shut_bool Tryz.underlying4 _)
  · rw [List.append_nil,ha]
    exact jil hb ht hlt hA
  · rw [List.append_nil,hvs,hv]
    rfl
end Go.Pv.T

/- Data that come in, of whatever plain type, as the interpreter has them. -/
namespace Go.Pv.T
open Go Go.Pv Go.Proofs Go.ChangeShapes Go.WideShapes Go.ChangeAt Go.RowKit
inductive Ty where
 | bool
 | int (k:IntKind)
 | str
 | unit
 | pair (a b:Ty)
 | slice (t:Ty)
def Ty.cells:Ty→Nat
 | .unit=>0
 | .pair a b=>a.cells+b.cells
 | _=>1
inductive Sh:Ty→List V→Prop where
 | bool (b:Bool):Sh .bool [.bool b]
 | int (k:IntKind) (n:Int):Sh (.int k) [.int k n]
 | str (s:List UInt8):Sh .str [.str s]
 | unit:Sh .unit []
 | pair {a b:Ty} {va vb:List V} (ha:Sh a va) (hb:Sh b vb):Sh (.pair a b) (va++vb)
 | nil {t:Ty}:Sh (.slice t) [.sl none true 0 []]
 | slice {t:Ty} (es:List (List V)) (hn:es.length≤maxLen) (h:∀ e∈es,Sh t e):Sh (.slice t) [.sl none false es.length es.flatten]
def W7 (P:Program) (g:TypeId→Option Ty):List Field→Nat→Option Ty
 | [],_=>some .unit
 | f::r,off=>if f.offset=off then (g f.type).bind fun a=>if P.cellsOf f.type=a.cells then (W7 P g r (off+a.cells)).map (.pair a) else none else none
def jv4 (P:Program):Nat→TypeId→Option Ty
 | 0,_=>none
 | n+1,t=>match P.underlying t with
  | some .bool=>some .bool
  | some (.int k)=>some (.int k)
  | some .string=>some .str
  | some (.slice e)=>(jv4 P n e).bind fun ty=>if P.cellsOf e=ty.cells then some (.slice ty) else none
  | some (.struct fs)=>(W7 P (jv4 P n) fs.toList 0).bind fun ty=>if P.cellsOf t=ty.cells then some ty else none
  | _=>none
theorem Sh.len {t:Ty} {vs:List V} (h:Sh t vs):vs.length=t.cells:=by
 induction h with
 | pair _ _ iha ihb=>simp [Ty.cells,iha,ihb]
 | _=>rfl
theorem Sh.pure {t:Ty} {vs:List V} (h:Sh t vs):∀ v∈vs,v.pureLeaf=true:=by
 induction h with
 | pair _ _ iha ihb=>intro v hv;rcases List.mem_append.1 hv with h | h;exact iha v h;exact ihb v h
 | unit=>intro v hv;cases hv
 | _=>intro v hv;rw [List.mem_singleton] at hv;subst hv;rfl
def Reps (I:IMap) (cs:List Value) (vs:List V):Prop:=cs.length=vs.length∧∀ (j:Nat) (x:Value) (v:V),cs[j]? = some x→vs[j]? = some v→RepP I x v
theorem Reps.one {I:IMap} {x:Value} {v:V} (h:RepP I x v):Reps I [x] [v] :=
 ⟨rfl,fun j y u hj hu=>by
  match j,hj,hu with
  | 0,hj,hu=>cases hj;cases hu;exact h
  | j+1,hj,_=>simp at hj⟩
theorem jgf {α:Type} {sz:Nat} (hs:0<sz):∀ (es:List (List α)),(∀ e∈es,e.length=sz)→∀ j,es.flatten[j]? = (es[j / sz]?).bind fun e=>e[j % sz]?
 | [],_,j=>by simp
 | e::es,h,j=>by
  have he:=h e (List.mem_cons_self ..)
  rw [List.flatten_cons,List.getElem?_append,he]
  split
  ·rename_i hlt
   rw [Nat.div_eq_of_lt hlt,Nat.mod_eq_of_lt hlt]
   rfl
  ·rename_i hge
   have hj:j=(j - sz)+sz:=by omega
   rw [jgf hs es (fun e he=>h e (List.mem_cons_of_mem _ he)) (j - sz)]
   conv=>rhs;rw [hj,Nat.add_div_right _ hs,Nat.add_mod_right]
   rfl
theorem jlw {α:Type} {sz:Nat}:∀ (es:List (List α)),(∀ e∈es,e.length=sz)→es.flatten.length=es.length * sz
 | [],_=>by simp
 | e::es,h=>by
  rw [List.flatten_cons,List.length_append,h e (List.mem_cons_self ..),jlw es (fun e he=>h e (List.mem_cons_of_mem _ he)),List.length_cons,Nat.succ_mul]
  omega
section
variable {H:Type} {enc:TypeId × Value→H} {W:World} {P:Program}
theorem jhh {α:Type} {p:Nat→α→Prop}:∀ (n:Nat),(∀ i,i<n→∃ a,p i a)→∃ l:List α,l.length=n∧∀ i a,l[i]? = some a→p i a
 | 0,_=>⟨[],rfl,fun i a h=>by simp at h⟩
 | n+1,h=>by
  obtain ⟨l,h1,h2⟩:=jhh n (fun i hi=>h i (by omega))
  obtain ⟨a,ha⟩:=h n (by omega)
  refine ⟨l++[a],by simp [h1],fun i b hb=>?_⟩
  rw [List.getElem?_append] at hb
  split at hb
  ·exact h2 i b hb
  ·rename_i hge
   have:i=n:=by
    have:=(List.getElem?_eq_some_iff.1 hb).1
    simp at this
    omega
   subst this
   simp [h1] at hb
   subst hb
   exact ha
theorem jfc {g:TypeId→Option Ty} {n:Nat} {cs:List Value} (ih:∀ t ty,g t=some ty→∀ cs x,DataW.trod enc P W 0 (fun _=>true) true n t cs=some x→∃ vs,Sh ty vs∧Reps (Xh W) cs vs) :
 ∀ (fs:List Field) (off:Nat) (ty:Ty),W7 P g fs off=some ty→(∀ f∈fs,∃ x,DataW.trod enc P W 0 (fun _=>true) true n f.type ((cs.drop f.offset).take (P.cellsOf f.type))=some x)→cs.length=off+ty.cells →
  ∃ vs,Sh ty vs∧Reps (Xh W) (cs.drop off) vs
 | [],off,ty,h,_,hl=>by
  simp only [W7,Option.some.injEq] at h
  subst h
  simp only [Ty.cells,Nat.add_zero] at hl
  exact ⟨[],.unit,by simp [hl],fun j x v _ hv=>by simp at hv⟩
 | f::r,off,ty,h,hx,hl=>by
  simp only [W7] at h
  split at h
  ·rename_i hoff
   cases hg:g f.type with
   | none=>rw [hg] at h;cases h
   | some a =>
    rw [hg,Option.bind_some] at h
    split at h
    ·rename_i hc
     cases hr:W7 P g r (off+a.cells) with
     | none=>rw [hr] at h;cases h
     | some b =>
      rw [hr] at h
      cases h
      simp only [Ty.cells] at hl
      obtain ⟨x,hx0⟩:=hx f (List.mem_cons_self ..)
      obtain ⟨va,ha,hra⟩:=ih f.type a hg _ _ hx0
      obtain ⟨vb,hb,hrb⟩:=jfc ih r (off+a.cells) b hr (fun f' hf=>hx f' (List.mem_cons_of_mem _ hf)) (by omega)
      refine ⟨va++vb,.pair ha hb,?_,fun j y u hj hu=>?_⟩
      ·have:=ha.len;have:=hb.len
       simp only [List.length_drop,List.length_append]
       omega
      ·rw [hoff,hc] at hra
       rw [List.getElem?_append] at hu
       rw [ha.len] at hu
       rw [List.getElem?_drop] at hj
       split at hu
       ·rename_i hlt
        exact hra.2 j y u (by rw [List.getElem?_take,if_pos hlt,List.getElem?_drop];exact hj) hu
       ·rename_i hge
        exact hrb.2 (j - a.cells) y u (by rw [List.getElem?_drop,show off+a.cells+(j - a.cells)=off+j from by omega];exact hj) hu
    ·cases h
  ·cases h
theorem jk0:∀ (n:Nat) (t:TypeId) (ty:Ty),jv4 P n t=some ty→∀ (fuel:Nat) (cs:List Value) (x:DataW H × List MemPlace),DataW.trod enc P W 0 (fun _=>true) true fuel t cs=some x→∃ vs,Sh ty vs∧Reps (Xh W) cs vs
 | 0,_,_,h,_,_,_,_=>by cases h
 | n+1,t,ty,h,fuel,cs,x,hx=>by
  simp only [jv4] at h
  split at h
  ·rename_i ht
   cases h
   obtain ⟨b,rfl,_⟩:=DataW.trod_bool ht hx
   exact ⟨_,.bool b,Reps.one (.bool b)⟩
  ·rename_i k ht
   cases h
   obtain ⟨b,rfl,_⟩:=DataW.trod_int ht hx
   exact ⟨_,.int k b,Reps.one (.int k b)⟩
  ·rename_i ht
   cases h
   obtain ⟨s,rfl,_⟩:=DataW.trod_string ht hx
   exact ⟨_,.str s.data.toList,Reps.one (.str s)⟩
  ·rename_i e ht
   cases he:jv4 P n e with
   | none=>rw [he] at h;cases h
   | some te =>
    rw [he,Option.bind_some] at h
    split at h
    ·rename_i hc
     cases h
     rcases DataW.trod_slice ht hx with ⟨rfl,_⟩ | ⟨a,len,cap,elems,rest,m,_,rfl,_,_,hl,hm,hlen,hel,_,_⟩
     ·exact ⟨_,.nil,Reps.one .slnil⟩
     ·have each:∀ i,i<len→∃ vs,Sh te vs∧∃ c,W.cells? 0 (a.add (i * te.cells)) te.cells=some c∧Reps (Xh W) c vs:=by
       intro i hi
       have h1:=hel i hi
       rw [List.getElem?_eq_getElem (by omega),hc] at h1
       obtain ⟨c,hc1,hc2⟩:=Option.bind_eq_some_iff.1 h1
       obtain ⟨vs,h3,h4⟩:=jk0 n e te he m c _ hc2
       exact ⟨vs,h3,c,hc1,h4⟩
      obtain ⟨es,h1,h2⟩:=jhh len each
      have hsh:∀ e∈es,Sh te e:=fun e he=>by
       obtain ⟨i,hi⟩:=List.getElem?_of_mem he
       exact (h2 i e hi).1
      have hsz:∀ e∈es,e.length=te.cells:=fun e he=>(hsh e he).len
      have key:∀ (j:Nat) (v:V),es.flatten[j]? = some v→0<te.cells∧j / te.cells<len∧∃ y,W.cell? ((a.add (j / te.cells * te.cells)).add (j % te.cells))=some y∧RepP (Xh W) y v∧v.pureLeaf=true:=by
       intro j v hj
       have h0:0<te.cells:=by
        rcases Nat.eq_zero_or_pos te.cells with h | h
        ·have:=jlw es hsz
         rw [h,Nat.mul_zero] at this
         rw [List.length_eq_zero_iff.1 this] at hj
         simp at hj
        ·exact h
       rw [jgf h0 es hsz] at hj
       cases hee:es[j / te.cells]? with
       | none=>rw [hee] at hj;cases hj
       | some e =>
        rw [hee,Option.bind_some] at hj
        have hlt:j / te.cells<len:=by rw [← h1];exact (List.getElem?_eq_some_iff.1 hee).1
        obtain ⟨hse,c,hcc,hrr⟩:=h2 _ e hee
        have hme:=Nat.mod_lt j h0
        have hcell:=(World.cells?_some hcc).2.2 _ hme
        have hclen:c.length=te.cells:=by rw [hrr.1,hse.len]
        rw [List.getElem?_eq_getElem (by omega)] at hcell
        exact ⟨h0,hlt,_,hcell,hrr.2 _ _ v (List.getElem?_eq_getElem (by omega)) hj,hse.pure v (List.mem_of_getElem? hj)⟩
      have spot:es.flatten≠[]→a.spot=none:=by
       intro hne
       obtain ⟨v,hv⟩:∃ v,es.flatten[0]? = some v:=by
        cases hf:es.flatten with
        | nil=>exact absurd hf hne
        | cons v l=>exact ⟨v,rfl⟩
       obtain ⟨h0,_,y,hy,_⟩:=key 0 v hv
       rw [Nat.zero_div,Nat.zero_mod,Nat.zero_mul] at hy
       simpa [Addr.add] using World.cell?_spot hy
      have cellAt:∀ (j:Nat) (v:V),es.flatten[j]? = some v→∃ y,W.cell? ⟨a.block,a.off+j,none⟩=some y∧RepP (Xh W) y v:=by
       intro j v hj
       obtain ⟨h0,_,y,hy,hr,_⟩:=key j v hj
       have hs:=spot (fun h=>by rw [h] at hj;simp at hj)
       obtain ⟨b,off,sp⟩:=a
       simp only at hs
       subst hs
       rw [add_plain,add_plain] at hy
       refine ⟨y,?_,hr⟩
       rw [← hy,Nat.add_assoc,Nat.div_add_mod']
      rw [← h1] at hl
      refine ⟨_,.slice es (Nat.le_trans hl hm) hsh,Reps.one ?_⟩
      rw [h1] at hl ⊢
      refine RepP.sl a len cap es.flatten (fun j=>(W.cell? ⟨a.block,a.off+j,none⟩).getD .nilFunc) spot hl hm (fun j hj=>?_) (fun j v hj=>?_) (fun j v hj=>?_)
      ·obtain ⟨y,hy,_⟩:=cellAt j _ (List.getElem?_eq_getElem hj)
       show W.cell? _=some ((W.cell? _).getD _)
       rw [hy]
       rfl
      ·exact (key j v hj).2.2.choose_spec.2.2
      ·obtain ⟨y,hy,hr⟩:=cellAt j v hj
       show RepP _ ((W.cell? _).getD _) v
       rw [hy]
       exact hr
    ·cases h
  ·rename_i fs ht
   cases hf:W7 P (jv4 P n) fs.toList 0 with
   | none=>rw [hf] at h;cases h
   | some b =>
    rw [hf,Option.bind_some] at h
    split at h
    ·rename_i hc
     cases h
     obtain ⟨xs,m,rfl,_,hl,hn,hel⟩:=DataW.trod_struct ht hx
     have:=jfc (n:=m) (cs:=cs) (fun t ty h cs x hx=>jk0 n t ty h m cs x hx) fs.toList 0 ty hf (fun f hfm=>by
      obtain ⟨i,hi⟩:=List.getElem?_of_mem hfm
      have hi':fs[i]? = some f:=by simpa using hi
      have h1:=hel i f hi'
      have hlt:i<xs.length:=by rw [hn];exact (Array.getElem?_eq_some_iff.1 hi').1
      rw [List.getElem?_eq_getElem hlt] at h1
      exact ⟨_,h1⟩) (by rw [Nat.zero_add,hl,hc])
     simpa using this
    ·cases h
  ·cases h
end
end Go.Pv.T

/- The laid variables read as the interpreter has them; a call that answers true. -/
namespace Go.Pv.T
open Go Go.Pv Go.Proofs Go.ChangeShapes Go.WideShapes Go.ChangeAt Go.RowKit Go.Proofs.YtphecmnehkdihaaGreatDoor

theorem jvy      {W:World} {t e:TypeId} {n fuel:Nat} {cs:List Value} {ds:List (DataW Unit)} {p:List MemPlace} {f0 f1:Field} {k0 k1:IntKind} (ht:Tryz.prog.underlying t=some (.array n e)) (hc:Tryz.prog.cellsOf e=2)
    (he:Tryz.prog.underlying e=some (.struct #[f0,f1])) (o0:f0.offset=0) (o1:f1.offset=1) (c0:Tryz.prog.cellsOf f0.type=1) (c1:Tryz.prog.cellsOf f1.type=1)
    (u0:Tryz.prog.underlying f0.type=some (.int k0)) (u1:Tryz.prog.underlying f1.type=some (.int k1)) (h:DataW.trod (fun _=>()) Tryz.prog W 0 (fun _=>true) false fuel t cs=some (.agg ds,p)) (I:IMap) :
    ∀ (j:Nat) (d:DataW Unit),(ds.map aggOf).flatten[j]? = some d→∃ x,cs[j]? = some x∧RepP I x (jlh d):=by
  obtain ⟨xs,m,rfl,hx,hlen,hn,hel⟩:=DataW.trod_array ht h
  simp only [Prod.mk.injEq,DataW.agg.injEq] at hx
  have one:∀ (l:List Value) (j:Nat) c,(l.drop j).take 1=[c]→l[j]? = some c:=by
    intro l j c hcc
    have:=congrArg List.head? hcc
    simpa [List.head?_take,List.head?_drop] using this
  have each:∀ (j:Nat) (y:DataW Unit × List MemPlace),xs[j]? = some y→∃ d0 d1 x0 x1,y.1 = .agg [d0,d1]∧cs[j * 2]? = some x0∧RepP I x0 (jlh d0)∧cs[j * 2+1]? = some x1∧RepP I x1 (jlh d1):=by
    intro j y hy
    have hj:j<n:=by rw [← hn];exact (List.getElem?_eq_some_iff.1 hy).1
    have h2:=hel j hj
    rw [hc,hy] at h2
    obtain ⟨y0,y1,m',e1,hl2,g0,g1⟩:=trod_struct2 he h2
    rw [o0,c0] at g0
    rw [o1,c1] at g1
    obtain ⟨z0,a0,b0,_⟩:=DataW.trod_int u0 g0
    obtain ⟨z1,a1,b1,_⟩:=DataW.trod_int u1 g1
    have q0:=one _ _ _ a0
    have q1:=one _ _ _ a1
    rw [List.getElem?_take,if_pos (by omega),List.getElem?_drop] at q0 q1
    refine ⟨y0.1,y1.1,_,_,by rw [e1],by simpa using q0,?_,q1,?_⟩
    · rw [b0];exact RepP.int k0 z0
    · rw [b1];exact RepP.int k1 z1
  have hds:ds=xs.map (·.1):=hx.1
  have len2:∀ e∈ds.map aggOf,e.length=2:=by
    intro e he
    rw [hds,List.map_map] at he
    obtain ⟨y,hy,rfl⟩:=List.mem_map.1 he
    obtain ⟨j,hj⟩:=List.getElem?_of_mem hy
    obtain ⟨d0,d1,x0,x1,e,_⟩:=each j y hj
    simp only [Function.comp,e,aggOf,List.length_cons,List.length_nil]
  intro k d hd
  rw [jgf (by decide) _ len2] at hd
  rw [hds,List.map_map,List.getElem?_map] at hd
  cases hy:xs[k / 2]? with
  | none=>rw [hy] at hd;cases hd
  | some y =>
    rw [hy] at hd
    obtain ⟨d0,d1,x0,x1,e,g0,r0,g1,r1⟩:=each _ y hy
    simp only [Option.map_some,Option.bind_some,Function.comp,e,aggOf] at hd
    rcases Nat.mod_two_eq_zero_or_one k with hk | hk
    · rw [hk] at hd
      cases hd
      rw [show k / 2 * 2=k from by omega] at g0
      exact ⟨x0,g0,r0⟩
    · rw [hk] at hd
      cases hd
      rw [show k / 2 * 2+1=k from by omega] at g1
      exact ⟨x1,g1,r1⟩

def accD:List (DataW Unit):=((aggOf Rows.laid_unicode_utf8_acceptRanges).map aggOf).flatten
theorem gAcc:Tryz.prog.globalNamed "unicode/utf8.acceptRanges" = some 3:=by kernel_rfl
theorem j7u:accD.map jlh=accR:=by kernel_rfl
theorem j00:Rows.laid_unicode_utf8_acceptRanges = .agg (aggOf Rows.laid_unicode_utf8_acceptRanges):=by kernel_rfl
theorem jv0:(accD.map jlh).all V.pureLeaf=true:=by kernel_rfl
theorem tAcc:(Tryz.prog.globals[3]?).map (·.type)=some 322:=by kernel_rfl

theorem glOk {W:World} (h:laidMetH Tryz.prog jnb W):GlOk E (Xh W):=by
  rw [MakeChecks.laidMetH_plain _ _ _ (by kernel_rfl)] at h
  obtain ⟨ps,⟨g2,t2,cs2,f2,p2,q2,hg2,ht2,hv2,hd2,⟨g0,t0,cs0,f0,p0,q0,hg0,ht0,hv0,hd0,⟨g1,t1,cs1,f1,p1,q1,hg1,ht1,hv1,hd1,_,_⟩,_⟩,_⟩,_,_⟩:=h
  obtain rfl:=Option.some.inj (gWords.symm.trans hg0)
  obtain rfl:=Option.some.inj (gFirst.symm.trans hg1)
  obtain rfl:=Option.some.inj (tWords.symm.trans ht0)
  obtain rfl:=Option.some.inj (tFirst.symm.trans ht1)
  obtain rfl:=Option.some.inj (gAcc.symm.trans hg2)
  obtain rfl:=Option.some.inj (tAcc.symm.trans ht2)
  intro g cs hcs
  simp only [E] at hcs
  split at hcs
  · cases hcs
    rw [← jsp]
    exact jrg gWords hv0 jmi (jrw Tryz.underlying300 (by kernel_rfl) (Or.inl (by kernel_rfl)) hd0 _)
  · cases hcs
    rw [← jvc]
    rw [jrh] at hd1
    exact jrg gFirst hv1 jnp (jrw Tryz.underlying319 (by kernel_rfl) (Or.inr ⟨.u8,by kernel_rfl⟩) hd1 _)
  · cases hcs
    rw [← j7u]
    rw [j00] at hd2
    exact jrg gAcc hv2 jv0 (jvy (k0:=.u8) (k1:=.u8) Tryz.underlying322 (by kernel_rfl) Tryz.underlying321 rfl rfl (by kernel_rfl) (by kernel_rfl) (by kernel_rfl) (by kernel_rfl) hd2 _)
  · cases hcs


theorem jnx        {f:FuncId} {W:World} {args:Array Value} {vs:List V} (hL:laidMetH Tryz.prog jnb   W) (hlen:args.size=vs.length) (hr:∀ (j:Nat) (x:Value) (v:V),args[j]? = some x→vs[j]? = some v→RepP (Xh     W) x v)
    (he:Ev E f vs (.bool true)):Calls Tryz.prog f args W fun e w'=>e = .returned (.bool true)∧W.grownBy w' none:=by
  refine (Ev.sound mixed envOk he W (Xh W) args (jrq W) (glOk hL) hlen hr).mono fun e W' ⟨x,τ,I',h1,h2,_,_,_,h3,_⟩=>⟨?_,h2⟩
  rw [h1]
  have h4:RepP I' x (.bool true):=h3
  cases h4
  rfl
end Go.Pv.T

/- Histories and other arguments that come in. -/
namespace Go.Pv.T
open Go Go.Pv Go.Proofs Go.ChangeShapes Go.WideShapes Go.ChangeAt Go.RowKit Go.Proofs.YtphecmnehkdihaaGreatDoor
abbrev j1u:Ty:=.pair (.int .i64) (.pair (.int .i64) .unit)
abbrev opTy:Ty:=.pair .bool (.pair (.int .i64) (.pair j1u .unit))
abbrev j1w:Ty:=.pair (.int .i64) (.pair (.int .i64) (.pair (.slice opTy) .unit))
abbrev jws:Ty:=.pair (.slice .str) (.pair (.slice .str) (.pair (.slice j1w) .unit))
theorem QU {α:Type} {t:Ty} {f:α→List V} (hf:∀ e,Sh t e→∃ a,e=f a) {vs:List V} (h:Sh (.slice t) vs):∃ nl l,vs=[slOf nl f l]:=by
 cases h with
 | nil=>exact ⟨true,[],rfl⟩
 | slice es hn h =>
  have all:∀ es:List (List V),(∀ e∈es,Sh t e)→∃ l:List α,es=l.map f:=by
   intro es
   induction es with
   | nil=>intro _;exact ⟨[],rfl⟩
   | cons e es ih =>
    intro h
    obtain ⟨a,rfl⟩:=hf e (h e (List.mem_cons_self ..))
    obtain ⟨l,rfl⟩:=ih (fun e he=>h e (List.mem_cons_of_mem _ he))
    exact ⟨a::l,rfl⟩
  obtain ⟨l,rfl⟩:=all es h
  exact ⟨false,l,by simp [slOf,List.flatMap]⟩
theorem j2a {vs:List V} (h:Sh j1u vs):∃ v:Val',vs=J9 v:=by
 cases h with
 | pair ha hb=>cases ha with
  | int _ k=>cases hb with
   | pair hc hd=>cases hc with
    | int _ n=>cases hd;exact ⟨⟨k,n⟩,rfl⟩
theorem sh_op {vs:List V} (h:Sh opTy vs):∃ o:Op',vs=opC o:=by
 cases h with
 | pair ha hb=>cases ha with
  | bool w=>cases hb with
   | pair hc hd=>cases hc with
    | int _ k=>cases hd with
     | pair he hf =>
      obtain ⟨v,rfl⟩:=j2a he
      cases hf
      exact ⟨⟨w,k,v⟩,rfl⟩
theorem j2b {vs:List V} (h:Sh j1w vs):∃ t:Txn',vs=txnC t:=by
 cases h with
 | pair ha hb=>cases ha with
  | int _ s=>cases hb with
   | pair hc hd=>cases hc with
    | int _ f=>cases hd with
     | pair he hf =>
      obtain ⟨nl,l,rfl⟩:=QU (f:=opC) (fun e=>sh_op) he
      cases hf
      exact ⟨⟨s,f,nl,l⟩,rfl⟩
theorem jwa {vs:List V} (h:Sh .str vs):∃ s:List UInt8,vs=strC s:=by
 cases h with
 | str s=>exact ⟨s,rfl⟩
theorem jxv {vs:List V} (h:Sh jws vs):∃ g:Hist',vs=j3 g:=by
 cases h with
 | pair ha hb=>cases hb with
  | pair hc hd=>cases hd with
   | pair he hf =>
    obtain ⟨n0,l0,rfl⟩:=QU (f:=strC) (fun e=>jwa) ha
    obtain ⟨n1,l1,rfl⟩:=QU (f:=strC) (fun e=>jwa) hc
    obtain ⟨n2,l2,rfl⟩:=QU (f:=txnC) (fun e=>j2b) he
    cases hf
    exact ⟨⟨n0,l0,n1,l1,n2,l2⟩,rfl⟩
theorem jh3 {v:V} (h:v.pureLeaf=true):v.leaf=true:=by cases v <;> first | rfl | cases h
section
variable {H:Type} {enc:TypeId × Value→H} {W:World} {v:Value} {d:DataW H} {p:List MemPlace} {base:Nat}
set_option maxRecDepth 100000 in
theorem jmk {t:TypeId} {fs:Array Field} {n:Nat} {ty:Ty} (ht:Tryz.prog.underlying t=some (.struct fs)) (hty:jv4 Tryz.prog n t=some ty) (hval:Value.okWide Tryz.prog W .any base t v)
 (h:DataW.Trod enc Tryz.prog W 0 (fun _=>true) true t v d p):∃ vs,Sh ty vs∧RepP (Xh W) v (.agg vs):=by
 obtain ⟨cs,rfl,_⟩:=okWide_struct ht hval
 obtain ⟨fuel,hf⟩:=h
 obtain ⟨vs,hs,hr⟩:=jk0 n t ty hty fuel _ _ hf
 refine ⟨vs,hs,RepP.agg cs vs (by simpa [Value.cells] using hr.1) (fun j v hj=>jh3 (hs.pure v (List.mem_of_getElem? hj))) (fun j x v hx hv=>hr.2 j x v (by simpa [Value.cells] using hx) hv)⟩
set_option maxRecDepth 100000 in
theorem jvw {t:TypeId} {n:Nat} {ty:Ty} (hc:v.cells.toList=[v]) (hty:jv4 Tryz.prog n t=some ty)
 (h:DataW.Trod enc Tryz.prog W 0 (fun _=>true) true t v d p):∃ vs,Sh ty vs∧Reps (Xh W) [v] vs:=by
 obtain ⟨fuel,hf⟩:=h
 rw [hc] at hf
 exact jk0 n t ty hty fuel _ _ hf
theorem jyb (ts:List TypeId) (h:(ts.all fun t=>Tryz.prog.readableRec t && decide (t<Tryz.prog.types.size))=true) (t:TypeId) (ht:t∈ts):Tryz.prog.readableRec t=true∧t<Tryz.prog.types.size:=by
 have:=List.all_eq_true.1 h t ht
 simpa using this
set_option maxRecDepth 100000 in
theorem ju7 (hval:Value.okWide Tryz.prog W .any base 25 v) (h:DataW.Trod enc Tryz.prog W 0 (fun _=>true) true 25 v d p):∃ g:Hist',RepP (Xh W) v (.agg (j3 g)):=by
 obtain ⟨vs,hs,hr⟩:=jmk (n:=8) (ty:=jws) Tryz.underlying25 (by kernel_rfl) hval h
 obtain ⟨g,rfl⟩:=jxv hs
 exact ⟨g,hr⟩
set_option maxRecDepth 100000 in
theorem jlo (hval:Value.okWide Tryz.prog W .any base 26 v) (h:DataW.Trod enc Tryz.prog W 0 (fun _=>true) true 26 v d p):∃ (nl:Bool) (l:List Int),RepP (Xh W) v (slOf nl intC l):=by
 obtain ⟨a0,len,cap,rfl⟩:=okWide_slice Tryz.underlying26 hval
 obtain ⟨vs,hs,hr⟩:=jvw (n:=4) (ty:=.slice (.int .i64)) rfl (by kernel_rfl) h
 obtain ⟨nl,l,rfl⟩:=QU (f:=intC) (fun e he=>by cases he with | int _ k=>exact ⟨k,rfl⟩) hs
 exact ⟨nl,l,hr.2 0 _ _ rfl rfl⟩
set_option maxRecDepth 100000 in
theorem jrc (hval:Value.okWide Tryz.prog W .any base 3 v):∃ n:Int,RepP (Xh W) v (.int .i64 n):=by
 obtain ⟨n,rfl⟩:=okWide_int Tryz.underlying3 hval
 exact ⟨n,RepP.int .i64 n⟩
end
end Go.Pv.T
