/- Sets: made of a list; one joined to another. -/
import Derived.Test.YtphecmnehkdihaaGreatDoorNE
import Derived.Shelf.Sort.Plain
import Derived.Shelf.Slices.In.SortNone
import Derived.Test.YtphecmnehkdihaaGreatDoorRows
import Derived.Shelf.SlSortCmp.NoneTotal
import Derived.WalkKit
import Derived.Test.YtphecmnehkdihaaGreatDoorTie
import Derived.ProofKit
import Derived.LaidMore
import Derived.OpenShut
import Derived.Stop.Joined
import Derived.SizedLaws
import Derived.Carry
import Derived.Handed
import Derived.ChangeSame
set_option maxRecDepth 100000
set_option maxHeartbeats 8000000
namespace Go.Pv.T
open Go Go.Pv
def orL (L:List Nat):Nat:=L.foldl (fun w b=>w ||| 1 <<< b) 0
theorem jg8 (L:List Nat) (b:Nat):orL (L++[b])=orL L ||| 1 <<< b:=by simp[orL]
theorem jm5 (L:List Nat):∀k,k≤L.length→∀i,(orL (L.take k)).testBit i=decide (i∈L.take k)
 | 0,_,i=>by simp[orL]
 | k+1,h,i=>by
  have a:=jm5 L k zO i
  rw[List.take_succ_eq_append_getElem zO,jg8,Nat.testBit_or,a,Nat.one_shiftLeft,Nat.testBit_two_pow,Bool.eq_iff_iff]
  simp only[Bool.or_eq_true,decide_eq_true_eq,List.mem_append,List.mem_singleton]
  exact or_congr Iff.rfl eq_comm
theorem jwk {w:Nat}(h:w<512):orL (jd w)=w:=by
 refine Nat.eq_of_testBit_eq fun i=>?_
 have:=jm5 (jd w) (jd w).length zR i
 rw[List.take_length]at this
 rw[this,Bool.eq_iff_iff,decide_eq_true_eq,bitsUp_mem]
 constructor
 ·exact fun h=>h.2
 ·intro a
  refine⟨?_,a⟩
  rcases Nat.lt_or_ge i 9 with h1|h1
  ·exact h1
  ·have:w.testBit i=false:=Nat.testBit_lt_two_pow (Nat.lt_of_lt_of_le h (Nat.pow_le_pow_right zD h1:2 ^ 9≤2 ^ i))
   rw[this]at a
   cases a
theorem j53 {L:List Nat}(h:∀b∈L,b<64) (k:Nat) (c:k≤L.length):orL (L.take k)<2 ^ 64:=by
 induction k with
 | zero=>simp[orL]
 | succ k a=>
  rw[List.take_succ_eq_append_getElem zO,jg8]
  exact or_lt (a zO) (h _ (List.getElem_mem _))
section
variable {ob:ZO}{ub:Nat}
def SetR (ob:ZO) (ub w:Nat) (r:V × (ZO) × (Nat→Bool) × Nat):Prop :=
 ∃m,ub≤m∧m<r.2.2.2∧r.1=.ptr (2*m+1) m 0∧r.2.1 (2*m+1)=some ⟨m,.cells (setC w)⟩∧∀key,Off ub key→r.2.1 key=ob key
theorem sv78l {Yf:YF}{tk:Nat→Bool}{ro base:Nat}{t:Option (Nat × Nat)}{nl:Bool}{L:List Nat}(T:ro≤ub) (P:∀b∈L,b<64) (hl:L.length≤100000):∃r,EvS E Yf.y 78 [.sl t nl L.length ((ints L).flatMap intC)] ob tk ro base ub r∧SetR ob ub (orL L) r:=by
 refine X2 (af:=S78) rfl zD ?_
 show wpC E Yf S78.body _ (XY S78.res _)
 simp[S78,V.cells]
 refine jj fun g c=>?_
 obtain⟨m,Q,M,U,O⟩:∃u,ub≤u∧u<g.nx∧g.tm 3=.ptr (2*u+1) u 0∧g.ob (2*u+1)=some ⟨u,.cells (setC 0)⟩:=⟨ub+128,zO,by rw[c];first|omega|(simp;done)|(simp;omega),by rw[c];simp[Nat.add_assoc],by rw[c];simp[Nat.add_assoc,setC]⟩
 have g8:g.tm 8=.sl t nl L.length ((ints L).flatMap intC):=by rw[c];simp
 have g9:g.tm 9=.int .i64 L.length:=by rw[c];simp
 have l:g.tm 10=.int .i64 0:=by rw[c];simp
 have gd:g.df=[]:=by rw[c];simp
 have X:g.ro=ro:=by rw[c];simp
 have go:∀a,Off ub a→g.ob a=ob a:=fun a h=>by
  have:=h.ne
  rw[c]
  simp(disch:=first|(simp;done)|omega) [this]
 clear c
 obtain⟨J,B⟩:∃J:Nat→St→Prop,J=fun i s=>s.tm 10=.int .i64 i∧m<s.nx∧s.ob (2*m+1)=some ⟨m,.cells (setC (orL (L.take i)))⟩∧∀a,Off ub a→s.ob a=ob a:=⟨_,rfl⟩
 refine j9 [(5,5),(10,17)] L.length J rfl rfl ?_ ?_
 ·rw[B]
  exact⟨by simpa using l,M,by simpa[orL] using O,go⟩
 clear l go O M
 intro i s hi o f
 rw[B]at o
 obtain⟨j,sm,F,K⟩:=o
 have I:s.tm 3=.ptr (2*m+1) m 0:=by rw[f.t 3 zS,U]
 have S:s.tm 8=.sl t nl L.length ((ints L).flatMap intC):=by rw[f.t 8 zS,g8]
 have N:s.tm 9=.int .i64 L.length:=by rw[f.t 9 zS,g9]
 have sd:s.df=[]:=by rw[f.d,gd]
 have sr:s.ro=ro:=by rw[f.r,X]
 clear f
 by_cases e:i<L.length
 ·have x:=jh e zO
  have p:i<(ints L).length:=by simpa[ints] using e
  have z:JK 1 (.sl t nl L.length ((ints L).flatMap intC)) (.int .i64 (i:Int))=some (.eptr ((ints L).flatMap intC) (i*1)):=by
   have:=JQ jC t nl (ints L) .i64 p
   rwa [show(ints L).length=L.length by simp[ints]]at this
  have n:=JP (ints L) p
  have q:(ints L)[i]=((L[i]:Nat):Int):=by simp[ints]
  rw[q]at n
  have Z:=P _ (List.getElem_mem e)
  have G:orL (L.take (i+1))=orL (L.take i) ||| 1 <<< L[i]:=by rw[List.take_succ_eq_append_getElem e,jg8]
  have nm:∀k,s.nx≤k→¬ m=k:=fun k h=>by omega
  simp(disch:=first|(simp;done)|omega) [j,N,S,I,e,z,n]
  refine jZ (vs:=[.ptr (2*m+1) m 0,.int .i64 (L[i]:Nat)]) zS rfl (sv81 (w:=orL (L.take i)) (by simpa using F) (Off.new zL) (by simp[sr];omega) Z (j53 P i zO)) ?_
  rintro v1 a0 b0 v ⟨_,D,H⟩
  simp only at D H
  have b5:s.nx≤v:=by first|omega|(simp at H;omega)
  simp(disch:=first|(simp;done)|omega) [j,x,e]
  rw[B]
  refine⟨zS,zL,?_,fun a h=>?_⟩
  ·have:=D (2*m+1) (Off.new zL)
   rw[if_pos rfl]at this
   simpa[G] using this
  ·have:=D a (h.up zL)
   rw[if_neg (h m Q)]at this
   simpa[K a h] using this
 ·have:i=L.length:=zO
  subst this
  rw[List.take_length]at F
  simp(disch:=first|(simp;done)|omega) [j,N,I]
  exact W1 (by simp[sd]) ⟨m,Q,zL,zS,by simpa using F,fun a h=>by simpa using K a h⟩
theorem j3m (v w:Nat):jr [.int,.int,.int,.int,.int,.int,.int,.int] (setC v) (setC w)=some (v == w):=by
 simp only[jr,setC,WS,if_true,Option.bind_some,Option.map_some,beq_self_eq_true,Bool.and_true]
 congr 1
 rw[Bool.eq_iff_iff]
 simp only[beq_iff_eq,Int.ofNat_inj]
theorem jox {X x i:Nat}(h:i<8) (a:i≠0→x=0):j5 (setC X) i [.int .u64 (x:Int)]=setC (if i=0 then x else X):=by
 match i,h with
 | 0,_=>rfl
 | 1,_|2,_|3,_|4,_|5,_|6,_|7,_=>rw[a zD];rfl
theorem sv276 {Yf:YF}{tk:Nat→Bool}{ro base a b v w:Nat}(T:ob (2*a+1)=some ⟨a,.cells (setC v)⟩) (hb:ob (2*b+1)=some ⟨b,.cells (setC w)⟩) (la:a<ub) (lb:b<ub) (a0:ro≤a) (hv:v<2 ^ 64) (hw:w<2 ^ 64) :
 ∃r,EvS E Yf.y 276 [.ptr (2*a+1) a 0,.ptr (2*b+1) b 0] ob tk ro base ub r∧(ub≤r.2.2.2∧∀c,Off ub c→r.2.1 c=if c=2*a+1 then some ⟨a,.cells (setC (v ||| w))⟩ else ob c):=by
 refine X2 (af:=S276) rfl zD ?_
 show wpC E Yf S276.body _ (XY S276.res _)
 have j:∀v,(setC v).length=8:=fun _=>rfl
 have F:∀v,(setC v).take 8=setC v:=fun _=>rfl
 have na:∀m,ub≤m→¬ a=m:=fun m L=>by omega
 have nb:∀m,ub≤m→¬ b=m:=fun m L=>by omega
 simp(disch:=first|(simp;done)|omega) [S276,j0,T,hb,j,jQ,nb,F]
 refine⟨zO,by simp[setC,V.leaf],?_⟩
 refine jj fun l g=>?_
 obtain⟨n,u1,U,g5,gW⟩:∃u,ub≤u∧u<l.nx∧l.tm 5=.ptr (2*u+1) u 0∧l.ob (2*u+1)=some ⟨u,.cells (setC v)⟩:=⟨ub+704,zO,by rw[g];first|omega|(simp;done)|(simp;omega),by rw[g];simp[Nat.add_assoc],by rw[g];simp[Nat.add_assoc,j5,j]⟩
 have g0:l.tm 0=.ptr (2*a+1) a 0:=by rw[g];simp
 have Q:l.tm 21=.agg (setC w):=by rw[g];simp
 have z:l.tm 22=.int .i64 0:=by rw[g];simp
 have gd:l.df=[]:=by rw[g];simp
 have gr:l.ro=ro:=by rw[g];simp
 have go:∀c,Off ub c→l.ob c=ob c:=fun c o=>by
  have:=o.ne
  rw[g]
  simp(disch:=first|(simp;done)|omega) [this]
 clear g
 obtain⟨J,N⟩:∃J:Nat→St→Prop,J=fun i s=>s.tm 22=.int .i64 i∧n<s.nx∧s.ob (2*n+1)=some ⟨n,.cells (setC v)⟩∧∀c,Off ub c→s.ob c=if c=2*a+1 then some ⟨a,.cells (setC (if i=0 then v else v ||| w))⟩ else ob c:=⟨_,rfl⟩
 refine j9 [(6,7),(22,37)] 8 J rfl rfl ?_ ?_
 ·rw[N]
  refine⟨by simpa using z,U,gW,fun c o=>?_⟩
  rw[go c o]
  by_cases e:c=2*a+1
  ·rw[if_pos e,e,T];rfl
  ·rw[if_neg e]
 clear z go gW U
 intro i s hi G f
 rw[N]at G
 obtain⟨B,sm,Z,M⟩:=G
 have s0:s.tm 0=.ptr (2*a+1) a 0:=by rw[f.t 0 zS,g0]
 have s5:s.tm 5=.ptr (2*n+1) n 0:=by rw[f.t 5 zS,g5]
 have S:s.tm 21=.agg (setC w):=by rw[f.t 21 zS,Q]
 have sd:s.df=[]:=by rw[f.d,gd]
 have sr:s.ro=ro:=by rw[f.r,gr]
 clear f
 have I:=M (2*a+1) (Off.new la)
 rw[if_pos rfl]at I
 have nw:∀m,s.nx≤m→¬ n=m:=fun m L=>by omega
 have b6:∀m,s.nx≤m→¬ a=m:=fun m L=>by omega
 by_cases h:i<8
 ·have O:=jh h zD
  have P:(i:Int)<8:=zO
  have D:Qp none 8 1 (.agg (setC w)) (.int .i64 (i:Int))=some (.int .u64 (if i=0 then w else 0:Nat)):=by
   have:=jk3 (w:=w) h
   simp[Qp,P,XQ,this]
  have K:Yk 8 1 (.ptr (2*a+1) a 0) (.int .i64 (i:Int))=some (.ptr (2*a+1) a i):=by simp[Yk,P]
  obtain⟨X,H⟩:∃X,X=if i=0 then v else v ||| w:=⟨_,rfl⟩
  rw[← H]at I
  have x:=jk3 (w:=X) h
  have k:Y5 .or (.int .u64 ((if i=0 then X else 0:Nat):Int)) (.int .u64 ((if i=0 then w else 0:Nat):Int))=some (.int .u64 ((if i=0 then v ||| w else 0:Nat):Int)):=by
   by_cases e:i=0
   ·rw[if_pos e]at H
    rw[if_pos e,if_pos e,if_pos e,H]
    exact jic hv hw
   ·rw[if_neg e,if_neg e,if_neg e]
    exact jic zD zD
  generalize b5:(if i=0 then w else 0:Nat)=x0 at D k
  generalize b0:(if i=0 then X else 0:Nat)=x1 at x k
  generalize q:(if i=0 then v ||| w else 0:Nat)=x2 at k
  simp(disch:=first|(simp;done)|omega) [B,S,s0,P,D,K,j0,I,x,k,j]
  refine⟨zO,?_⟩
  simp(disch:=first|(simp;done)|omega) [O]
  rw[N]
  have p:j5 (setC X) i [.int .u64 (x2:Int)]=setC (v ||| w):=by
   rw[jox h fun e=>by rw[← q,if_neg e],← q,H]
   by_cases e:i=0
   ·rw[if_pos e,if_pos e]
   ·rw[if_neg e,if_neg e]
  refine⟨zO,h,zS,zL,?_,fun c o=>?_⟩
  ·simp(disch:=first|(simp;done)|omega) [jQ,show ¬ n=a by omega,Z]
  ·by_cases e:c=2*a+1
   ·simp[e,p]
   ·have:=M c o
    rw[if_neg e]at this
    simp[e,this]
 ·have:i=8:=zO
  subst this
  simp(disch:=first|(simp;done)|omega) [B,s0,s5,j0,I,Z,j,F,j3m]
  exact W1 (by simp[sd]) ⟨zL,fun c o=>by simpa using M c o⟩
end
structure Rs (lo hi uL:Nat) (lu:List Nat) (m:Nat) (W:Nat→Nat) (ob:ZO):Prop where
 o:ob (2*uL+1)=some ⟨uL,.cells (lu.flatMap ptC++List.replicate m .nilptr)⟩
 s:∀i (h:i<lu.length),ob (2*lu[i]+1)=some ⟨lu[i],.cells (setC (W i))⟩
 n:lu.Nodup
 x:uL ∉ lu
 r:lo≤uL∧uL<hi
 rs:∀x∈lu,lo≤x∧x<hi
section
variable {lo hi hi' uL m:Nat}{lu:List Nat}{W:Nat→Nat}{ob ob':ZO}
theorem Rs.keep (h:Rs lo hi uL lu m W ob) (b:∀x,lo≤x→x<hi→ob' (2*x+1)=ob (2*x+1)) (c:hi≤hi'):Rs lo hi' uL lu m W ob' :=
 ⟨(b uL h.r.1 h.r.2).trans h.o,fun i hi=>(b _ (h.rs _ (List.getElem_mem hi)).1 (h.rs _ (List.getElem_mem hi)).2).trans (h.s i hi),h.n,h.x,⟨h.r.1,Nat.lt_of_lt_of_le h.r.2 c⟩,fun x a=>⟨(h.rs x a).1,Nat.lt_of_lt_of_le (h.rs x a).2 c⟩⟩
theorem Rs.congr (h:Rs lo hi uL lu m W ob) {a:Nat→Nat}(b:∀i,i<lu.length→a i=W i):Rs lo hi uL lu m a ob:=⟨h.o,fun i hi=>by rw[b i hi];exact h.s i hi,h.n,h.x,h.r,h.rs⟩
theorem Rs.put (h:Rs lo hi uL lu m W ob) {a w:Nat}(d:a<lu.length) (g:ob' (2*lu[a]+1)=some ⟨lu[a],.cells (setC w)⟩) (b:∀x,lo≤x→x<hi→x≠lu[a]→ob' (2*x+1)=ob (2*x+1)) (f:hi≤hi'):Rs lo hi' uL lu m (fun i=>if i=a then w else W i) ob':=by
 have k:lu[a]∈lu:=List.getElem_mem d
 refine⟨(b uL h.r.1 h.r.2 (fun e=>h.x (e▸k))).trans h.o,fun i hi=>?_,h.n,h.x,⟨h.r.1,Nat.lt_of_lt_of_le h.r.2 f⟩,fun x c=>⟨(h.rs x c).1,Nat.lt_of_lt_of_le (h.rs x c).2 f⟩⟩
 by_cases e:i=a
 ·subst e
  rw[if_pos rfl]
  exact g
 ·rw[if_neg e]
  have:=h.rs _ (List.getElem_mem hi)
  exact(b _ this.1 this.2 fun j=>e (jcv h.n hi d j)).trans (h.s i hi)
theorem Rs.add (h:Rs lo hi uL lu (m+1) W ob) {x:Nat}(g:ob' (2*uL+1)=some ⟨uL,.cells (j5 (lu.flatMap ptC++List.replicate (m+1) .nilptr) lu.length (ptC x))⟩) (f:ob' (2*x+1)=some ⟨x,.cells (setC (W lu.length))⟩) (l:∀y∈lu,ob' (2*y+1)=ob (2*y+1)) (o:hi≤x) (p:x<hi'):Rs lo hi' uL (lu++[x]) m W ob':=by
 have j:hi≤hi':=zO
 have d:=h.r
 have b:=j7 jg5 lu
 refine⟨?_,fun i hi=>?_,?_,?_,⟨h.r.1,Nat.lt_of_lt_of_le h.r.2 j⟩,fun y c=>?_⟩
 ·rw[g]
  congr 3
  unfold j5
  rw[List.take_left' zO,List.drop_append,List.drop_of_length_le (by rw[b];simp[ptC])]
  simp[ptC,List.replicate_succ,b]
 ·by_cases e:i<lu.length
  ·rw[List.getElem_append_left e]
   exact(l _ (List.getElem_mem e)).trans (h.s i e)
  ·have:i=lu.length:=by rw[List.length_append,List.length_singleton]at hi;omega
   subst this
   rw[List.getElem_append_right zR]
   simpa using f
 ·rw[List.nodup_append]
  exact⟨h.n,zS,fun y c z k e=>by rw[List.mem_singleton]at k;have:=(h.rs y c).2;omega⟩
 ·rw[List.mem_append,List.mem_singleton]
  rintro(a|a)
  ·exact h.x a
  ·omega
 ·rw[List.mem_append,List.mem_singleton]at c
  rcases c with a|a
  ·have:=h.rs y a;omega
  ·omega
end
def WIs (n:Nat) (W:Nat→Nat) (f:Nat→Nat→Bool):Prop:=∀b,b<n→W b<2 ^ n∧∀a,a<n→(W b).testBit a=f b a
theorem WIs.congr {n:Nat}{W:Nat→Nat}{f d:Nat→Nat→Bool}(h:WIs n W f) (e:∀b a,b<n→a<n→f b a=d b a):WIs n W d:=fun b c=>⟨(h b c).1,fun a g=>((h b c).2 a g).trans (e b a c g)⟩
theorem WIs.join {n:Nat}{W:Nat→Nat}{r:Nat→Nat→Bool}{k b:Nat}(h:WIs n W (fD2 r k b)) (p:k<n) (u:b<n) (q:(W b).testBit k=true):WIs n (fun i=>if i=b then W b ||| W k else W i) (fD2 r k (b+1)):=by
 intro c l
 have f:=h b u
 have o:=h k p
 by_cases e:c=b
 ·subst e
  simp only[if_true]
  refine⟨Nat.or_lt_two_pow f.1 o.1,fun a d=>?_⟩
  rw[Nat.testBit_or,f.2 a d,o.2 a d]
  have g:war r k c k=true:=by
   have:=f.2 k p
   rw[q]at this
   simpa[fD2] using this.symm
  have t:fD2 r k c c a=war r k c a:=jz0 r k c a
  have s:fD2 r k c k a=war r k k a:=by
   unfold fD2
   split
   ·exact jvo r k a
   ·rfl
  rw[t,s]
  unfold fD2
  rw[if_pos zO,war,g,Bool.true_and]
 ·simp only[if_neg e]
  refine⟨(h c l).1,fun a d=>?_⟩
  rw[(h c l).2 a d]
  unfold fD2
  by_cases j:c<b
  ·rw[if_pos j,if_pos zO]
  ·rw[if_neg j,if_neg zO]
theorem j2d {Yf:YF}{f:FuncId}{xs:List A}{st:St}{ub:Nat}{K:St→Nat→Prop}{d:Option Nat}{nm:Bool}{vs:List V}{l:List Int}(c:xs.map (eval E st.tm)=vs) (g:E.sh nm f=false) (hp:(vs.all fun v=>v.strip.pureTop)=false)
 (h:∃v,EvO E f vs st.ob st.tk ((st.fb+d.getD 0+1)*1024) ub v∧j0e l v) (i:∀t a add,WW K st d ub { v:=.sl t a l.length (l.flatMap intC),add:=add }):j6 E Yf ⟨d,.call f xs,none,nm⟩ st ub K:=by
 obtain⟨v,e,a,b⟩:=h
 exact js c g hp e (Xv b fun t add=>i t a add)
section
variable {lo uG ut uf:Nat}{ue:Option Nat}{tu fu:List Nat}{WT WF:Nat→Nat}{T:List P2}{ob:ZO}{ub n:Nat}
theorem j48 {Yf:YF}{tk:Nat→Bool}{ro base:Nat}(hG:Gr lo ub uG (some ut) (some uf) ue tu fu WT WF T ob) (e0:ro≤ub) (ht:tu.length=n) (h1:0<n) (h9:n≤9) {r:Nat→Nat→Bool}(hW:WIs n WT fun b a=>r a b) :
 ∃q,EvS E Yf.y 244 [.ptr (2*uG+1) uG 0] ob tk ro base ub q∧∃uL lu W,q.1=.osl (2*uL+1) uL 0 n 1∧lu.length=n∧Rs ub q.2.2.2 uL lu 0 W q.2.1∧WIs n W (war r n):=by
 have hp:(2:Nat) ^ n≤512:=Nat.pow_le_pow_right zD h9
 have c0:∀a,a<n→WT a<512:=fun a ha=>Nat.lt_of_lt_of_le (hW a ha).1 hp
 refine X2 (af:=S244) rfl zD ?_
 show wpC E Yf S244.body _ (XY S244.res _)
 simp(disch:=first|(simp;done)|omega) [S244]
 refine js (vs:=[.ptr (2*uG+1) uG 0]) zS rfl rfl (evo208 (hG.keep (fun x _ _=>by simp) zR) zO _ _) ?_
 simp
 refine jnl (n:=n) (by simp[ht]) (by simp[ht]) zO zO rfl zD ?_
 rw[jwa]
 simp
 refine jj fun j g=>?_
 obtain⟨uL,u1,u2,g3,gL⟩:∃u,ub≤u∧u<j.nx∧j.tm 3=.osl (2*u+1) u 0 n 1∧j.ob (2*u+1)=some ⟨u,.cells (List.replicate n .nilptr)⟩:=⟨ub+192,zO,by rw[g];first|omega|(simp;done)|(simp;omega),by rw[g];simp[Nat.add_assoc],by rw[g];simp[Nat.add_assoc]⟩
 have g0:j.tm 0=.ptr (2*uG+1) uG 0:=by rw[g];simp
 have d2:j.tm 11=.int .i64 n:=by rw[g];simp
 have b0:j.tm 12=.int .i64 0:=by rw[g];simp
 have gd:j.df=[]:=by rw[g];simp
 have gr:j.ro=ro:=by rw[g];simp
 have go:∀z,Off ub z→j.ob z=ob z:=fun z hk=>by
  have:=hk.ne
  rw[g]
  simp(disch:=first|(simp;done)|omega) [this]
 clear g
 obtain⟨J,hJ⟩:∃J:Nat→St→Prop,J=fun i s=>s.tm 12=.int .i64 i∧ub≤s.nx∧(∃lu,lu.length=i∧Rs ub s.nx uL lu (n - i) WT s.ob)∧∀z,Off ub z→s.ob z=ob z:=⟨_,rfl⟩
 refine j9 [(4,4),(12,22)] n J rfl rfl ?_ ?_
 ·rw[hJ]
  exact⟨by simpa using b0,zO,⟨[],rfl,⟨by simpa using gL,fun i hi=>(by simp at hi),List.nodup_nil,List.not_mem_nil,⟨u1,u2⟩,fun x hx=>(by cases hx)⟩⟩,go⟩
 clear b0 gL
 intro i s hi b8 f
 rw[hJ]at b8
 obtain⟨I,sn,⟨lu,L,O⟩,so⟩:=b8
 have s0:s.tm 0=.ptr (2*uG+1) uG 0:=by rw[f.t 0 zS,g0]
 have s3:s.tm 3=.osl (2*uL+1) uL 0 n 1:=by rw[f.t 3 zS,g3]
 have X:s.tm 11=.int .i64 n:=by rw[f.t 11 zS,d2]
 have sd:s.df=[]:=by rw[f.d,gd]
 have sr:s.ro=ro:=by rw[f.r,gr]
 have b9:Gr lo s.nx uG (some ut) (some uf) ue tu fu WT WF T s.ob:=hG.keep (fun x _ h=>so _ (Off.new h)) sn
 clear f
 by_cases F:i<n
 ·have U:=jh F zO
  simp(disch:=first|(simp;done)|omega) [I,X,s3,s0,F]
  refine j2d (vs:=[.ptr (2*uG+1) uG 0,.int .i64 i]) zS rfl rfl (evo146 (b9.keep (fun x _ h=>?_) ?_) zR zO (c0 i F) _ _) fun tt nl add=>?_
  ·simp
  ·first|omega|(simp;done)|(simp;omega)
  have e2:=jhu (WT i)
  simp
  refine jZ (vs:=[.sl tt nl (jd (WT i)).length ((ints (jd (WT i))).flatMap intC)]) (by simp[jno]) rfl (sv78l (by simp[sr];omega) (fun b hb=>?_) zO) ?_
  ·have:=(bitsUp_mem.1 hb).1
   omega
  rintro v1 Z d1 P ⟨x,q1,q2,rfl,q4,q5⟩
  rw[jwk (c0 i F)]at q4
  simp only at q1 q2 q4 q5
  have d8:s.nx≤x:=by first|omega|(simp at q1;omega)
  have G:=O.o
  have b7:=O.r
  have d7:=ju4 (l:=2*uL+1) (u:=uL) (kk:=.i64) F
  have c8:∀y,y<s.nx→Z (2*y+1)=s.ob (2*y+1):=fun y hy=>by
   rw[q5 _ (Off.new zL)]
   simp
  have c2:Z (2*uL+1)=_:=(c8 uL b7.2).trans G
  have c5:=j7 jg5 lu
  have d0:(lu.flatMap ptC++List.replicate (n - i) V.nilptr).length=n:=by rw[List.length_append,List.length_replicate,c5];omega
  have d9:(lu.flatMap ptC).length+(n - i)=n:=by rw[c5];omega
  have nL:∀m,P≤m→¬ uL=m:=fun m hm=>by omega
  simp(disch:=first|(simp;done)|omega) [d7,j0,c2,d0,V.cells,V.leaf]
  refine⟨zO,zO,?_⟩
  simp(disch:=first|(simp;done)|omega) [I,U,F]
  rw[hJ]
  have c9:n - i=(n - (i+1))+1:=zO
  rw[c9]at O ⊢
  have d6:¬ x=uL:=zO
  refine⟨zS,zL,⟨lu++[x],by simp[L],O.add ?_ ?_ (fun y hy=>?_) d8 zL⟩,fun z hk=>?_⟩
  ·simp[L,ptC]
  ·simp(disch:=first|(simp;done)|omega) [jQ,d6,q4,L]
  ·have h3:=O.rs y hy
   have:¬ y=uL:=fun e=>O.x (e▸hy)
   simp(disch:=first|(simp;done)|omega) [jQ,this,c8 y h3.2]
  ·have h3:¬ z=2*uL+1:=hk uL u1
   simp[h3]
   rw[q5 z (hk.up zL)]
   simpa using so z hk
 ·have:i=n:=zO
  subst this
  simp(disch:=first|(simp;done)|omega) [I,X,s3]
  rw[Nat.sub_self]at O
  refine jj fun j g=>?_
  have g3:j.tm 3=.osl (2*uL+1) uL 0 i 1:=by rw[g];simp[s3]
  have c6:j.tm 24=.int .i64 i:=by rw[g];simp
  have N:j.tm 25=.int .i64 0:=by rw[g];simp
  have gd:j.df=[]:=by rw[g];simp[sd]
  have gr:j.ro=ro:=by rw[g];simp[sr]
  have gn:ub≤j.nx:=by rw[g];first|omega|(simp;done)|(simp;omega)
  have gR:Rs ub j.nx uL lu 0 WT j.ob:=O.keep (fun x _ _=>by rw[g];simp) (by rw[g];first|omega|(simp;done)|(simp;omega))
  clear g O b9 I s0 s3 X sd sr
  obtain⟨J2,Q⟩:∃J2:Nat→St→Prop,J2=fun k s=>s.tm 25=.int .i64 k∧ub≤s.nx∧∃W,Rs ub s.nx uL lu 0 W s.ob∧WIs i W (war r k):=⟨_,rfl⟩
  refine j9 [(5,6),(25,49)] i J2 rfl rfl (by rw[Q];exact⟨by simpa using N,gn,WT,gR,hW⟩) ?_
  clear N gn gR
  intro k p hk c1 f
  rw[Q]at c1
  obtain⟨S,pn,W,pR,pW⟩:=c1
  have p3:p.tm 3=.osl (2*uL+1) uL 0 i 1:=by rw[f.t 3 zS,g3]
  have a0:p.tm 24=.int .i64 i:=by rw[f.t 24 zS,c6]
  have pd:p.df=[]:=by rw[f.d,gd]
  have pr:p.ro=ro:=by rw[f.r,gr]
  clear f
  by_cases D:k<i
  ·have U:=jh D zO
   simp(disch:=first|(simp;done)|omega) [S,a0,p3,D]
   refine jj fun j g=>?_
   have g3:j.tm 3=.osl (2*uL+1) uL 0 i 1:=by rw[g];simp[p3]
   have g5:j.tm 5=.int .i64 k:=by rw[g];simp
   have c6:j.tm 24=.int .i64 i:=by rw[g];simp[a0]
   have N:j.tm 25=.int .i64 k:=by rw[g];simp[S]
   have d5:j.tm 29=.int .i64 i:=by rw[g];simp
   have b5:j.tm 30=.int .i64 0:=by rw[g];simp
   have gd:j.df=[]:=by rw[g];simp[pd]
   have gr:j.ro=ro:=by rw[g];simp[pr]
   have gn:ub≤j.nx:=by rw[g];first|omega|(simp;done)|(simp;omega)
   have gR:Rs ub j.nx uL lu 0 W j.ob:=pR.keep (fun x _ _=>by rw[g];simp) (by rw[g];first|omega|(simp;done)|(simp;omega))
   clear g pR
   obtain⟨J3,K⟩:∃J3:Nat→St→Prop,J3=fun b s=>s.tm 30=.int .i64 b∧ub≤s.nx∧∃W,Rs ub s.nx uL lu 0 W s.ob∧WIs i W (fD2 r k b):=⟨_,rfl⟩
   refine j9 [(6,6),(30,48)] i J3 rfl rfl (by rw[K];exact⟨by simpa using b5,gn,W,gR,pW.congr fun b a _ _=>(jyj r k b a).symm⟩) ?_
   clear b5 gn gR
   intro b q hb b6 f
   rw[K]at b6
   obtain⟨M,qn,W,H,qW⟩:=b6
   have q3:q.tm 3=.osl (2*uL+1) uL 0 i 1:=by rw[f.t 3 zS,g3]
   have q5:q.tm 5=.int .i64 k:=by rw[f.t 5 zS,g5]
   have d4:q.tm 25=.int .i64 k:=by rw[f.t 25 zS,N]
   have c3:q.tm 29=.int .i64 i:=by rw[f.t 29 zS,d5]
   have qd:q.df=[]:=by rw[f.d,gd]
   have qr:q.ro=ro:=by rw[f.r,gr]
   clear f
   by_cases B:b<i
   ·have c4:=jh B zO
    have G:=H.o
    have b7:=H.r
    rw[List.replicate_zero,List.append_nil]at G
    have x1:=ju4 (l:=2*uL+1) (u:=uL) (kk:=.i64) B
    have x2:=ji0 (l:=lu) (i:=b) zO
    have x3:=ju4 (l:=2*uL+1) (u:=uL) (kk:=.i64) D
    have x4:=ji0 (l:=lu) (i:=k) zO
    have nL:∀m,q.nx≤m→¬ uL=m:=fun m hm=>by omega
    have c7:=H.s b zO
    have d3:=H.s k zO
    have lb:=H.rs _ (List.getElem_mem (show b<lu.length by omega))
    have lk:=H.rs _ (List.getElem_mem (show k<lu.length by omega))
    have wb:=Nat.lt_of_lt_of_le (qW b B).1 hp
    have wk:=Nat.lt_of_lt_of_le (qW k D).1 hp
    simp(disch:=first|(simp;done)|omega) [M,c3,q3,q5,B,x1,x2,j0,G]
    refine js (vs:=[.ptr (2*lu[b]+1) lu[b] 0,.int .i64 k]) zS rfl rfl (jz4 (w:=W b) (by simpa using c7) (Off.new zL) zO zO _ _) ?_
    cases hh:(W b).testBit k
    ·simp(disch:=first|(simp;done)|omega) [M,c4,B]
     rw[K]
     refine⟨zS,zL,W,H.keep (fun x _ _=>by simp) zL,qW.congr fun c a _ _=>jyk ?_ c a⟩
     have:=(qW b B).2 k D
     rw[hh,jz0]at this
     exact this.symm
    ·simp(disch:=first|(simp;done)|omega) [q3,q5,x1,x2,x3,x4,j0,G]
     refine jZ (vs:=[.ptr (2*lu[b]+1) lu[b] 0,.ptr (2*lu[k]+1) lu[k] 0]) zS rfl (sv276 (v:=W b) (w:=W k) (by simpa using c7) (by simpa using d3) zL zL (by simp[qr];omega) zO zO) ?_
     rintro v1 Z d1 P ⟨r1,r2⟩
     simp only at r1 r2
     have e1:q.nx≤P:=by first|omega|(simp at r1;omega)
     simp(disch:=first|(simp;done)|omega) [M,c4,B]
     rw[K]
     refine⟨zS,zL,_,H.put (a:=b) (w:=W b ||| W k) zO ?_ (fun x _ h2 h3=>?_) zL,qW.join D B hh⟩
     ·have:=r2 (2*lu[b]+1) (Off.new zL)
      rw[if_pos rfl]at this
      simpa using this
     ·have:=r2 (2*x+1) (Off.new zL)
      rw[if_neg zO]at this
      simpa using this
   ·have:b=i:=zO
    subst this
    simp(disch:=first|(simp;done)|omega) [M,c3,d4,U,D]
    rw[Q]
    exact⟨zS,zL,W,H.keep (fun x _ _=>by simp) zL,qW.congr fun c a hc _=>j3c hc a⟩
  ·have:k=i:=zO
   subst this
   simp(disch:=first|(simp;done)|omega) [S,a0,p3]
   exact W1 (by simp[pd]) ⟨uL,zS,lu,L,W,pR.keep (fun x _ _=>by simp) zL,pW⟩
end
def edB (L:List P2) (x y:Nat):Bool:=L.contains ((y:Int),(x:Int))
def FromR (w:Nat) (v:V):Prop:=∃nl,jy0 [.sl none nl (ints (jd w)).length ((ints (jd w)).flatMap intC),.int .i64 0] v
section
variable {ob:ZO}{ub n:Nat}{v:V}{L:List P2}
theorem evo194 (G:0<n) (g:n≤9) (K:EdA ub ob v L) (z:InG n L) (S:L.length≤10000) {t:Nat}(B:t<n) (tk:Nat→Bool) (base:Nat) :
 ∃q,EvO E 194 [.int .i64 (n:Int),.int .i64 (t:Int),v] ob tk base ub q∧∃w,(w<2 ^ n∧∀a,a<n→w.testBit a=war (edB L) n t a)∧FromR w q:=by
 have hp:(2:Nat) ^ n≤512:=Nat.pow_le_pow_right zD g
 have f:¬ (t:Int)<0:=zO
 have p:¬ (n:Int)≤t:=zO
 have F:¬ (n≤t):=zO
 refine jh2 (af:=S194) rfl zD ?_
 simp(disch:=first|(simp;done)|omega) [S194]
 refine jZ (vs:=[.int .i64 n,v]) zS rfl (j49 ?_ G g (K.up zS ?_) z S) ?_
 ·simp;omega
 ·first|omega|(simp;done)|(simp;omega)
 rintro v1 Z a0 N ⟨D,ut,uf,ue,tu,fu,T,rfl,H,k,b6,hT,P,j⟩
 simp only at H P j
 simp(disch:=first|(simp;done)|omega) [f,p]
 refine jZ (vs:=[.ptr (2*D+1) D 0]) zS rfl (j48 (n:=n) (r:=edB L) (H.keep (fun x _ _=>?_) ?_) ?_ k G g (fun b _=>⟨(Ys z b).1,fun a _=>(Ys z b).2 a⟩)) ?_
 ·simp
 ·first|omega|(simp;done)|(simp;omega)
 ·first|omega|(simp;done)|(simp;omega)
 rintro v2 b5 Q b0 ⟨I,e,W,rfl,U,d,J⟩
 simp only at d
 have c:=d.o
 rw[List.replicate_zero,List.append_nil]at c
 have X:=d.r
 have O:=ju4 (l:=2*I+1) (u:=I) (kk:=.i64) B
 have x2:=ji0 (l:=e) (i:=t) zO
 have M:=d.s t zO
 have ls:=d.rs _ (List.getElem_mem (show t<e.length by omega))
 have ws:=J t B
 simp(disch:=first|(simp;done)|omega) [O,x2,j0,c]
 obtain⟨y,m⟩:=QC (ints (jd (W t)))
 refine js (vs:=[.ptr (2*e[t]+1) e[t] 0]) zS rfl rfl (jt9 (w:=W t) (by simpa using M) (Off.new zL) zO _ _) ?_
 refine Xv m fun tt add=>?_
 simp
 refine jy8 (ns:=[6,7]) (ls:=[.sl none y (ints (jd (W t))).length ((ints (jd (W t))).flatMap intC),.int .i64 0]) (fun r h=>⟨W t,ws,y,h⟩) zS rfl zS zS ?_
 simp
 exact⟨QA rfl (WB _ tt y _ _),JF rfl,trivial⟩
end
section
variable {g:Hist'}{M:List Int}{mn rn:Bool}{rt:Option (Nat × Nat)}{kX uX lo:Nat}{ob:ZO}{ub:Nat}{L:List P2}
def srcL (g:Hist') (M:List Int) (i:Nat):List P2:=(List.range i).map (jos g M)
theorem jq8 (g:Hist') (M:List Int) (i:Nat):srcL g M (i+1)=srcL g M i++[jos g M i]:=by
 unfold srcL
 rw[List.range_succ,List.map_append]
 rfl
theorem jgv (g:Hist') (M:List Int) (i:Nat):(srcL g M i).length=i:=by simp[srcL]
def rdV (rt:Option (Nat × Nat)) (rn:Bool) (R:List (Int × Int)):V:=.sl rt rn R.length (R.flatMap jD)
theorem sv88 {Yf:YF}{tk:Nat→Bool}{ro base:Nat}(hX:MkR g (slOf mn intC M) (rdV rt rn (readH g)) kX uX lo ob ub L) (hm:jb5 g M=true) (l:Off lo kX) (N:lo≤ub) (b0:ro≤lo) (b8:ro≤uX) (hl:L.length≤10000) (hR:(readH g).length≤10000) :
 ∃r,EvS E Yf.y 88 [.ptr kX uX 0] ob tk ro base ub r∧ub≤r.2.2.2∧MkR g (slOf mn intC M) (rdV rt rn (readH g)) kX uX lo r.2.1 r.2.2.2 (L++srcL g M (readH g).length)∧∀c,Off lo c→c≠kX→r.2.1 c=ob c:=by
 have b5:=Yi hm
 obtain⟨a0,u,_⟩:=id hX
 refine X2 (af:=S88) rfl zD ?_
 show wpC E Yf S88.body _ (XY S88.res _)
 simp(disch:=first|(simp;done)|omega) [S88,j0,u,mkS,histC,rdV]
 refine jj fun m h=>?_
 have g0:m.tm 0=.ptr kX uX 0:=by rw[h];simp
 have g7:m.tm 7=rdV rt rn (readH g):=by rw[h];simp[rdV]
 have g8:m.tm 8=.int .i64 (readH g).length:=by rw[h];simp
 have g9:m.tm 9=.int .i64 0:=by rw[h];simp
 have gd:m.df=[]:=by rw[h];simp
 have gr:m.ro=ro:=by rw[h];simp
 have P:ub≤m.nx:=by rw[h];first|omega|(simp;done)|(simp;omega)
 have go:m.ob=ob:=by rw[h];simp
 clear h
 obtain⟨J,O⟩:∃J:Nat→St→Prop,J=fun i s=>s.tm 9=.int .i64 i∧MkR g (slOf mn intC M) (rdV rt rn (readH g)) kX uX lo s.ob s.nx (L++srcL g M i)∧ub≤s.nx∧∀c,Off lo c→c≠kX→s.ob c=ob c:=⟨_,rfl⟩
 refine j9 [(2,3),(9,25)] (readH g).length J rfl rfl ?_ ?_
 ·rw[O]
  exact⟨by simpa using g9,by simpa[srcL] using hX.keep (fun c _=>by rw[go]) (l.up N) P,P,fun c _ _=>by rw[go]⟩
 clear u g9 go P
 intro i s hi q f
 rw[O]at q
 obtain⟨F,x,sn,so⟩:=q
 have s0:s.tm 0=.ptr kX uX 0:=by rw[f.t 0 zS,g0]
 have s7:s.tm 7=rdV rt rn (readH g):=by rw[f.t 7 zS,g7]
 have X:s.tm 8=.int .i64 (readH g).length:=by rw[f.t 8 zS,g8]
 have sd:s.df=[]:=by rw[f.d,gd]
 have sr:s.ro=ro:=by rw[f.r,gr]
 clear f
 by_cases j:i<(readH g).length
 ·have I:=jh j zO
  have n:i<M.length:=zO
  obtain⟨lv,z,_⟩:=id x
  have oX:=(l.up (show lo≤s.nx by omega)).ne
  have K:=JQ jO rt rn (readH g) .i64 j
  have v:=fun ob=>Q8 (readH g) ob j
  have Q:=j4 jC mn M .i64 n
  have T:=JP M n
  have H:=jq8 g M i
  have S:jos g M i=(JN g M[i],(readH g)[i].1):=by
   unfold jos
   simp[List.getD_eq_getElem?_getD,List.getElem?_eq_getElem n,List.getElem?_eq_getElem j]
  have G:=jgv g M i
  generalize hp:(readH g)[i]=p at *
  obtain⟨a,b⟩:=p
  simp only at v
  simp(disch:=first|(simp;done)|omega) [F,X,s7,s0,j,rdV,K,v,j0,j5]
  refine⟨by first|omega|(simp[sr];omega),?_⟩
  simp(disch:=first|(simp;done)|omega) [j0,z,mkS,histC,oX,Q,T]
  refine jZ (vs:=[.ptr kX uX 0,.int .i64 M[i],.int .i64 a]) zS rfl (sv137 (L:=L++srcL g M i) (lo:=lo) (x.keep (fun c l=>?_) (l.up zO) zL) l zL (by first|omega|(simp[sr];omega)) (by first|omega|(simp[sr];omega)) (by rw[List.length_append,G];omega) _ _) ?_
  ·have:=l.ne
   simp(disch:=first|(simp;done)|omega) [this]
  rintro v1 b6 b7 D ⟨r1,U,Z⟩
  simp only at r1 U Z
  have q1:s.nx≤D:=by first|omega|(simp at r1;omega)
  have B:JN g (a:Int)=a:=by
   unfold JN
   obtain⟨k,l,_⟩:=jdv j
   have e:(readH g).getD i (0,0)=(a,b):=by simp[List.getD_eq_getElem?_getD,List.getElem?_eq_getElem j,hp]
   rw[e]at l
   have:a=(k:Int):=l
   rw[if_neg zO]
  rw[List.append_assoc,B,← S,← H]at U
  simp(disch:=first|(simp;done)|omega) [F,I,j]
  rw[O]
  refine⟨zS,U.keep (fun c _=>by simp) (l.up zO) zL,zL,fun c o w=>?_⟩
  have h3:=(o.up (show lo≤s.nx by omega)).ne
  simp
  rw[Z c o w]
  simp(disch:=first|(simp;done)|omega) [h3]
  exact so c o w
 ·have:i=(readH g).length:=zO
  subst this
  simp(disch:=first|(simp;done)|omega) [F,X]
  exact jc3 (.inl rfl) (by simp[sd]) ⟨zL,x.keep (fun c _=>by simp) (l.up zO) zL,fun c o w=>by simpa using so c o w⟩
end
def j1b (g:Hist') (i k:Nat):List P2:=((g.ts.length:Int),(comL g).getD i 0)::((List.range k).filter fun k=>sesAt g ((comL g).getD k 0).toNat == sesAt g ((comL g).getD i 0).toNat).map fun k=>((comL g).getD k 0,(comL g).getD i 0)
def sesL (g:Hist') (i:Nat):List P2:=(List.range i).flatMap (jqi g)
theorem jrf (g:Hist') (i:Nat):sesL g (i+1)=sesL g i++j1b g i i:=by
 unfold sesL
 rw[List.range_succ,List.flatMap_append]
 simp[jqi,j1b]
theorem jrg (g:Hist') (i k:Nat):j1b g i (k+1)=j1b g i k++if sesAt g ((comL g).getD k 0).toNat == sesAt g ((comL g).getD i 0).toNat then [((comL g).getD k 0,(comL g).getD i 0)] else []:=by
 unfold j1b
 rw[List.range_succ,List.filter_append,List.map_append,List.cons_append]
 congr 2
 cases h:sesAt g ((comL g).getD k 0).toNat == sesAt g ((comL g).getD i 0).toNat <;> simp only[List.filter_cons,List.filter_nil,h,if_true,Bool.false_eq_true,if_false,List.map_cons,List.map_nil]
theorem jmt (g:Hist') (i:Nat):∀k,(j1b g i k).length≤k+1
 | 0=>by simp[j1b]
 | k+1=>by
  have:=jmt g i k
  rw[jrg]
  split <;> simp <;> omega
theorem jcr (g:Hist') (N:Nat):∀i,i≤N→(sesL g i).length≤i*(N+1)
 | 0,_=>by simp[sesL]
 | i+1,h=>by
  have b:=jcr g N i zO
  have a:=jmt g i i
  rw[jrf,List.length_append,Nat.succ_mul]
  omega
def rdK (g:Hist') (lvl:Int) (M:List Int) (i j:Nat):List P2:=jos g M i::askE g M ((Yb g lvl M i).take j) i
def rdL (g:Hist') (lvl:Int) (M:List Int) (i:Nat):List P2:=(List.range i).flatMap fun i=>rdK g lvl M i (Yb g lvl M i).length
theorem jv6 {g:Hist'}{lvl:Int}{M O:List Int}{p:Int × Int}(h:lvl≠3):Wd g lvl M O p=Wd g lvl M [] p:=by
 unfold Wd
 refine jes fun k _=>?_
 unfold jbb
 rw[if_neg h,if_neg h]
theorem j35 (g:Hist') (lvl:Int) (M:List Int):jqf g lvl M (sesL g (comL g).length++rdL g lvl M (readH g).length):=by
 intro z
 rw[List.mem_append,sesL,rdL,List.mem_flatMap,List.mem_flatMap]
 simp only[List.mem_range,rdK,List.mem_cons,List.take_length]
section
variable {g:Hist'}{M:List Int}
theorem jri {lvl:Int}(c:jb5 g M=true) {l:List P2}(h:jqf g lvl M l):∀z∈l,∃a b:Nat,z=((a:Int),(b:Int))∧a<g.ts.length+1∧b<g.ts.length+1:=by
 intro z i
 have:z∈jk (g.ts.length+1) (QR g lvl M):=by rw[← We c h,compP_mem,(Jw l).mem_iff];exact i
 obtain⟨a,b,f,d,_,e⟩:=edgesOf_mem.1 this
 exact⟨a,b,e,f,d⟩
end
section
variable {g:Hist'}{M:List Int}{kX uX lo:Nat}{ob:ZO}{ub:Nat}{L:List P2}
def sesT (g:Hist') (i:Nat) (s:Int):List Int:=((comL g).take i).filter fun a=>sesAt g a.toNat == s
theorem jip {i:Nat}(h:i<(comL g).length) (s:Int):sesT g (i+1) s=sesT g i s++if sesAt g (comL g)[i].toNat == s then [(comL g)[i]] else []:=by
 unfold sesT
 rw[List.take_succ_eq_append_getElem h,List.filter_append]
 congr 1
 cases h:sesAt g (comL g)[i].toNat == s <;> simp only[List.filter_cons,List.filter_nil,h,if_true,Bool.false_eq_true,if_false]
theorem jv5 (g:Hist') (i:Nat) (s:Int):(sesT g i s).length≤i:=by
 unfold sesT
 have:=List.length_filter_le (fun a:Int=>sesAt g a.toNat == s) ((comL g).take i)
 rw[List.length_take]at this
 omega
theorem jmm (l:List Int) (p:Int→Bool):∀i,i≤l.length→((List.range i).filter fun k=>p (l.getD k 0)).map (fun k=>l.getD k 0)=(l.take i).filter p
 | 0,_=>rfl
 | i+1,h=>by
  have e:l.getD i 0=l[i]:=by simp[List.getD_eq_getElem?_getD,List.getElem?_eq_getElem (show i<l.length by omega)]
  rw[List.range_succ,List.filter_append,List.map_append,jmm l p i zO,List.take_succ_eq_append_getElem zO,List.filter_append]
  congr 1
  cases a:p l[i] <;> simp only[List.filter_cons,List.filter_nil,e,a,if_true,Bool.false_eq_true,if_false,List.map_cons,List.map_nil]
theorem j5p {i:Nat}(h:i<(comL g).length):jqi g i=((g.ts.length:Int),(comL g)[i])::(sesT g i (sesAt g (comL g)[i].toNat)).map fun a=>(a,(comL g)[i]):=by
 have e:(comL g).getD i 0=(comL g)[i]:=by simp[List.getD_eq_getElem?_getD,List.getElem?_eq_getElem h]
 unfold jqi sesT
 rw[e,← jmm (comL g) (fun a=>sesAt g a.toNat == sesAt g (comL g)[i].toNat) i zO,List.map_map]
 rfl
def osV (p:Nat × Nat):V:=.osl (2*p.1+1) p.1 0 p.2 1
structure SesM (g:Hist') (ob:ZO) (lo hi kM uM i:Nat) (m:List (Int × (Nat × Nat))):Prop where
 o:ob kM=some ⟨uM,.mp i (MP osV m)⟩
 z:∀s,(JO m s).map (·.2)=none→sesT g i s=[]
 s:∀s u n,(JO m s).map (·.2)=some (u,n)→n=(sesT g i s).length∧ob (2*u+1)=some ⟨u,.cells ((sesT g i s).flatMap intC)⟩∧lo≤u∧u<hi
 j:∀s s' u n n',(JO m s).map (·.2)=some (u,n)→(JO m s').map (·.2)=some (u,n')→s=s'
theorem SesM.frame {ob':ZO}{hi a b c i:Nat}{m:List (Int × (Nat × Nat))}(h:SesM g ob lo hi b c i m) (p:ob' b=ob b) (l:∀s u n,(JO m s).map (·.2)=some (u,n)→ob' (2*u+1)=ob (2*u+1)) (q:hi≤a):SesM g ob' lo a b c i m :=
 ⟨p.trans h.o,h.z,fun s u n d=>by
  obtain⟨f,k,e,r⟩:=h.s s u n d
  exact⟨f,(l s u n d).trans k,e,zO⟩,h.j⟩
theorem SesM.next {ob':ZO}{hi d v r i w:Nat}{m:List (Int × (Nat × Nat))}(h:SesM g ob lo hi v r i m) (o:i<(comL g).length) {a:Int}(x:a=sesAt g (comL g)[i].toNat) (H:ob' v=some ⟨r,.mp (i+1) (MP osV (jh3 m a (w,(sesT g i a).length+1)))⟩)
 (t:∀s u n,s≠a→(JO m s).map (·.2)=some (u,n)→ob' (2*u+1)=ob (2*u+1)) (G:ob' (2*w+1)=some ⟨w,.cells ((sesT g i a++[(comL g)[i]]).flatMap intC)⟩) (K:hi≤w) (F:lo≤w) (y:w<d) (_:hi≤d):SesM g ob' lo d v r (i+1) (jh3 m a (w,(sesT g i a).length+1)):=by
 have k:∀s,s≠a→sesT g (i+1) s=sesT g i s:=fun s t=>by
  rw[jip o,show(sesAt g (comL g)[i].toNat == s)=false by rw[← x];simpa using Ne.symm t,if_neg zD,List.append_nil]
 have q:sesT g (i+1) a=sesT g i a++[(comL g)[i]]:=by rw[jip o,← x,beq_self_eq_true,if_pos rfl]
 refine⟨H,fun s l=>?_,fun s u n c=>?_,fun s p u n D c b=>?_⟩
 ·rw[Wn]at l
  by_cases e:s=a
  ·rw[if_pos e]at l
   cases l
  ·rw[if_neg e]at l
   rw[k s e]
   exact h.z s l
 ·rw[Wn]at c
  by_cases e:s=a
  ·rw[if_pos e]at c
   cases c
   subst e
   rw[q]
   exact⟨zS,G,F,y⟩
  ·rw[if_neg e]at c
   rw[k s e]
   obtain⟨J,B,I,N⟩:=h.s s u n c
   exact⟨J,(t s u n e c).trans B,I,zO⟩
 ·rw[Wn]at c b
  by_cases e:s=a
  ·by_cases f:p=a
   ·rw[e,f]
   ·rw[if_pos e]at c
    rw[if_neg f]at b
    cases c
    have:=(h.s p _ _ b).2.2.2
    omega
  ·by_cases f:p=a
   ·rw[if_neg e]at c
    rw[if_pos f]at b
    cases b
    have:=(h.s s _ _ c).2.2.2
    omega
   ·rw[if_neg e]at c
    rw[if_neg f]at b
    exact h.j s p u n D c b
end
def LsV (ob:ZO) (lo hi:Nat) (v:V) (T:List Int):Prop:=(v=.sl none true 0 []∧T=[])∨IntL ob lo hi v T
theorem LsV.len {ob:ZO}{lo hi:Nat}{v:V}{L:List Int}(h:LsV ob lo hi v L):QY v=some (.int .i64 (L.length:Nat)):=by
 rcases h with⟨rfl,rfl⟩|⟨u,rfl,_⟩ <;> rfl
theorem jlu {F:Env}{Yf:YF}{lo hi ub:Nat}{v:V}{T:List Int}{p:Int}{s x:A}{st:St}{K:St→Nat→Prop}{d:Option Nat}(c:eval F st.tm s=v) (l:LsV st.ob lo hi v T) (f:st.ro≤lo) (b:jI st.ob 1 (eval F st.tm x)=some (intC p)) (o:T.length≤1000000)
 (h:∀a:List Nat,(a=[]∨∃u,v=.osl (2*u+1) u 0 T.length 1∧lo≤u∧u<hi∧a=[2*u+1])→WW K st d ub { v:=.osl (2*ub+1) ub 0 (T.length+1) 1,obs:=[(2*ub+1,⟨ub,.cells ((T++[p]).flatMap intC)⟩)],kill:=a }):j6 F Yf ⟨d,.append true 1 8 s x,none,true⟩ st ub K:=by
 rcases l with⟨rfl,rfl⟩|⟨u,rfl,j,e,k⟩
 ·refine X9 c b (by simp[intC]) zD rfl (by simp[intC]) (by simp[intC]) ?_
  simpa[intC,jH] using h [] (.inl rfl)
 ·have n:=j7 jC T
  refine YA (cs:=T.flatMap intC) c b j (by simp[intC]) zO zO zD rfl (by simp[intC];omega) (by simp[intC];omega) ?_
  have:=h [2*u+1] (.inr ⟨u,rfl,e,k,rfl⟩)
  rw[List.take_of_length_le zO]
  simpa[intC,jH] using this
def lkV (m:List (Int × (Nat × Nat))) (s:Int):V:=match JO m s with
 | none=>.sl none true 0 []
 | some p=>osV p.2
section
variable {g:Hist'}{mv rv:V}{kX uX lo kM uM:Nat}{ob0 ob:ZO}{nx i:Nat}{Z:List P2}{m:List (Int × (Nat × Nat))}
theorem SesM.look {hi:Nat}(h:SesM g ob lo hi kM uM i m) (s:Int):Qn ob .int (.sl none true 0 []) false (.map kM uM) (.int .i64 s)=some (lkV m s):=by
 rw[jgb (f:=osV) m (by simp[jg,h.o])]
 unfold lkV
 cases JO m s <;> rfl
theorem SesM.ls {hi:Nat}(h:SesM g ob lo hi kM uM i m) (s:Int):LsV ob lo hi (lkV m s) (sesT g i s):=by
 unfold lkV
 cases a:JO m s with
 | none=>exact .inl ⟨rfl,h.z s (by rw[a];rfl)⟩
 | some p=>
  obtain⟨j,u,n⟩:=p
  obtain⟨d,e,b,c⟩:=h.s s u n (by rw[a];rfl)
  exact .inr ⟨u,by rw[← d];rfl,e,b,c⟩
structure SesJ (g:Hist') (mv rv:V) (kX uX lo kM uM:Nat) (ob0 ob:ZO) (nx:Nat) (Z:List P2) (i:Nat) (m:List (Int × (Nat × Nat))):Prop where
 e:∃lv,ob kX=some ⟨uX,.cells (mkS g mv rv lv)⟩∧EdV ob lo nx lv Z∧jy1 lv Z kM∧∀s u n,(JO m s).map (·.2)=some (u,n)→jy1 lv Z (2*u+1)
 q:SesM g ob (uM+1) nx kM uM i m
 w:∀key,Off lo key→key≠kX→ob key=ob0 key
 h:lo≤uM∧uM<nx∧kM=2*uM+1
 x:Off lo kX
theorem SesJ.up {nx':Nat}(h:SesJ g mv rv kX uX lo kM uM ob0 ob nx Z i m) (a:nx≤nx'):SesJ g mv rv kX uX lo kM uM ob0 ob nx' Z i m:=by
 obtain⟨⟨e,d,c,k,b⟩,q,w,⟨j,l,f⟩,x⟩:=h
 exact⟨⟨e,d,c.frame (fun _ _ _=>rfl) a,k,b⟩,q.frame rfl (fun _ _ _ _=>rfl) a,w,⟨j,zO,f⟩,x⟩
theorem SesJ.put {Yf:YF}{tk:Nat→Bool}{ro base:Nat}(h:SesJ g mv rv kX uX lo kM uM ob0 ob nx Z i m) (l:ro≤lo) (z:ro≤uX) (Q:Z.length≤100000) (a b:Int) :
 ∃r,EvS E Yf.y 137 [.ptr kX uX 0,.int .i64 a,.int .i64 b] ob tk ro base nx r∧nx≤r.2.2.2∧SesJ g mv rv kX uX lo kM uM ob0 r.2.1 r.2.2.2 (Z++[(JN g a,JN g b)]) i m:=by
 obtain⟨⟨lv,S,I,O,P⟩,q,w,⟨F,G,k⟩,x⟩:=h
 obtain⟨r,N,J,⟨j,K,u,H,T,X,L⟩,p⟩:=jq3 (Yf:=Yf) (tk:=tk) (ro:=ro) (base:=base) S I x zO l z Q a b
 have c:∀y,y<nx→jy1 j (Z++[(JN g a,JN g b)]) (2*y+1):=fun y d w D=>by
  rw[H]at D
  have:u=w:=by injection D
  omega
 have v:kM≠kX:=fun e=>x uM F (by rw[← k,e])
 have o:∀y,uM+1≤y→2*y+1≠kX:=fun y d e=>x y zO e.symm
 refine⟨r,N,J,⟨j,K,.inr ⟨u,H,T,zO,L⟩,by rw[k];exact c uM G,fun s y n d=>c y (q.s s y n d).2.2.2⟩,q.frame (p kM (by rw[k];exact Off.new G) v O) (fun s y n d=>?_) J,fun f t B=>(p f (t.up zO) B (I.off t)).trans (w f t B),⟨F,zO,k⟩,x⟩
 obtain⟨_,_,U,M⟩:=q.s s y n d
 exact p _ (Off.new M) (o y U) (P s y n d)
theorem SesJ.next {ob':ZO}{nx' w:Nat}{kl:List Nat}{c:Int}(h:SesJ g mv rv kX uX lo kM uM ob0 ob nx Z i m) (J:i<(comL g).length) (h0:c=sesAt g (comL g)[i].toNat)
 (hM:ob' kM=some ⟨uM,.mp (i+1) (MP osV (jh3 m c (w,(sesT g i c).length+1)))⟩) (hw:ob' (2*w+1)=some ⟨w,.cells ((sesT g i c++[(comL g)[i]]).flatMap intC)⟩) (B:kl=[]∨∃u,lkV m c=.osl (2*u+1) u 0 (sesT g i c).length 1∧uM+1≤u∧u<nx∧kl=[2*u+1])
 (l:∀a,Off nx a→a≠kM→kl.any (Nat.beq a)=false→ob' a=ob a) (P:nx≤w) (h2:w<nx'):SesJ g mv rv kX uX lo kM uM ob0 ob' nx' Z (i+1) (jh3 m c (w,(sesT g i c).length+1)):=by
 obtain⟨⟨G,e1,r,N,O⟩,q,S,⟨K,l2,H⟩,x⟩:=h
 have t:kX≠kM:=fun e=>x uM K (by rw[← H,e])
 have d:∀a,(∀u n,(JO m c).map (·.2)=some (u,n)→a≠2*u+1)→kl.any (Nat.beq a)=false:=fun a I=>by
  rcases B with rfl|⟨u,b,_,_,rfl⟩
  ·rfl
  ·simp only[List.any_cons,List.any_nil,Bool.or_false]
   refine Jn (I u (sesT g i c).length ?_)
   unfold lkV at b
   cases L:JO m c with
   | none=>rw[L]at b;cases b
   | some p=>
    rw[L]at b
    obtain⟨j,v,n⟩:=p
    simp only[osV]at b
    injection b with _ a2 _ a4 _
    subst a2 a4
    rfl
 have f:∀a,Off lo a→kl.any (Nat.beq a)=false:=fun a I=>d a fun u n b e=>I u (by have:=(q.s c u n b).2.2.1;omega) e
 have F:EdV ob' lo nx' G Z:=by
  rcases r with r|⟨v,rfl,v2,v3,Q⟩
  ·exact .inl r
  ·refine .inr ⟨v,rfl,(l _ (Off.new Q) (fun e=>N v rfl e.symm) (d _ fun u n b e=>O c u n b v rfl e.symm)).trans v2,v3,zO⟩
 have k:∀y,nx≤y→jy1 G Z (2*y+1):=fun y hy v M=>by
  rcases r with⟨rfl,_⟩|⟨v',rfl,_,_,Q⟩
  ·cases M
  ·have:v'=v:=by injection M
   omega
 refine⟨⟨G,(l _ (x.up zO) t (f _ x)).trans e1,F,N,fun s u n b=>?_⟩,q.next J h0 hM (fun s u n D b=>?_) hw P zO h2 zO,fun a o T=>(l a (o.up zO) (fun e=>o uM K (by rw[← H,e])) (f _ o)).trans (S a o T),⟨K,zO,H⟩,x⟩
 ·rw[Wn]at b
  by_cases e:s=c
  ·rw[if_pos e]at b
   cases b
   exact k _ P
  ·rw[if_neg e]at b
   exact O s u n b
 ·obtain⟨_,_,q3,X⟩:=q.s s u n b
  refine l _ (Off.new X) zO (d _ fun u' U z e=>?_)
  have:u=u':=zO
  subst this
  exact D (q.j s c u n U b z)
end
section
variable {g:Hist'}{mv rv:V}{kX uX lo:Nat}{ob:ZO}{ub:Nat}
theorem sv87 {Yf:YF}(hs:Small g) (hw:JV g=true) (h8:g.ts.length≤8) {tk:Nat→Bool}{ro base:Nat}(hX:MkR g mv rv kX uX lo ob ub []) (hk:Off lo kX) (Q:lo≤ub) (g3:ro≤lo) (g7:ro≤uX) :
 ∃r,EvS E Yf.y 87 [.ptr kX uX 0] ob tk ro base ub r∧ub≤r.2.2.2∧MkR g mv rv kX uX lo r.2.1 r.2.2.2 (sesL g (comL g).length)∧∀b,Off lo b→b≠kX→r.2.1 b=ob b:=by
 have f7:=QK g
 obtain⟨vc,d8,b8⟩:=ev71 hs
 rw[jug hw]at b8
 obtain⟨d5,c7,c6⟩:=hX
 have oX:=(hk.up Q).ne
 refine X2 (af:=S87) rfl zD ?_
 show wpC E Yf S87.body _ (XY S87.res _)
 simp(disch:=first|(simp;done)|omega) [S87,j0,c7,mkS,histC,oX]
 refine jR d8 (by simp[histC]) rfl (by simp[histC]) ?_
 refine Xv b8 fun L add=>?_
 simp
 refine jj fun H x=>?_
 obtain⟨z,u1,u2,g2,gM⟩:∃u,ub≤u∧u<H.nx∧H.tm 2=.map (2*u+1) u∧H.ob (2*u+1)=some ⟨u,.mp 0 []⟩:=by
  refine⟨ub,zR,?_,by rw[x];simp,by rw[x];simp⟩
  rw[x]
  simp
  omega
 have g0:H.tm 0=.ptr kX uX 0:=by rw[x];simp
 have d4:H.tm 13=.sl L (comL g).isEmpty (comL g).length ((comL g).flatMap intC):=by rw[x];simp
 have d9:H.tm 14=.int .i64 (comL g).length:=by rw[x];simp
 have c2:H.tm 15=.int .i64 0:=by rw[x];simp
 have gd:H.df=[]:=by rw[x];simp
 have gr:H.ro=ro:=by rw[x];simp
 have go:∀b,Off ub b→H.ob b=ob b:=fun b hk=>by
  have:=hk.ne
  rw[x]
  simp(disch:=first|(simp;done)|omega) [this]
 clear x
 have gJ:SesJ g mv rv kX uX lo (2*z+1) z ob H.ob H.nx [] 0 []:=by
  refine⟨⟨d5,(go _ (hk.up Q)).trans c7,c6.frame (fun u _ h=>go _ (Off.new h)) zO,?_,fun s u n h=>by simp[JO]at h⟩,⟨gM,fun s _=>by simp[sesT],fun s u n h=>by simp[JO]at h,fun s s' u n n' h=>by simp[JO]at h⟩,fun b k1 _=>go b (k1.up Q),⟨zO,u2,rfl⟩,hk⟩
  rcases c6 with⟨rfl,_⟩|⟨w,rfl,_,_,w4⟩
  ·exact fun u hu=>by cases hu
  ·exact fun u hu=>by
    have:w=u:=by injection hu
    omega
 obtain⟨J,hJ⟩:∃J:Nat→St→Prop,J=fun i s=>s.tm 15=.int .i64 i∧∃m,SesJ g mv rv kX uX lo (2*z+1) z ob s.ob s.nx (sesL g i) i m:=⟨_,rfl⟩
 refine j9 [(4,7),(15,52)] (comL g).length J rfl rfl (by rw[hJ];exact⟨by simpa using c2,[],gJ⟩) ?_
 clear gJ c2 go gM
 intro i s hi c4 f
 rw[hJ]at c4
 obtain⟨S,m,sJ⟩:=c4
 have s0:s.tm 0=.ptr kX uX 0:=by rw[f.t 0 zS,g0]
 have s2:s.tm 2=.map (2*z+1) z:=by rw[f.t 2 zS,g2]
 have b6:s.tm 13=.sl L (comL g).isEmpty (comL g).length ((comL g).flatMap intC):=by rw[f.t 13 zS,d4]
 have O:s.tm 14=.int .i64 (comL g).length:=by rw[f.t 14 zS,d9]
 have sd:s.df=[]:=by rw[f.d,gd]
 have sr:s.ro=ro:=by rw[f.r,gr]
 clear f
 by_cases B:i<(comL g).length
 ·have e7:=jh B zO
  have f1:=JQ jC L (comL g).isEmpty (comL g) .i64 B
  have c1:=JP (comL g) B
  have c9:(comL g).getD i 0=(comL g)[i]:=by simp[List.getD_eq_getElem?_getD,List.getElem?_eq_getElem B]
  obtain⟨c,hc,_,b7⟩:=jn7 B
  rw[c9]at hc
  have d0:=jcr g 8 i zO
  have f5:(sesL g i).length≤72:=Nat.le_trans d0 (by have:i*(8+1)≤8*9:=Nat.mul_le_mul_right 9 zO;omega)
  have hE:=j5p B
  have d6:sesL g (i+1)=sesL g i++jqi g i:=by unfold sesL;rw[List.range_succ,List.flatMap_append];simp
  have c5:sesAt g (comL g)[i].toNat=sesAt g c:=by rw[hc,Int.toNat_natCast]
  have x1:=j4 j8 g.tn g.ts .i64 b7
  have x2:(g.ts.flatMap ji)[c*3]? = some (.int .i64 (sesAt g c)):=j1a b7
  have g4:=jv5 g i (sesAt g c)
  rw[c5]at hE
  rw[hc]at c1
  have d3:JN g (-1)=g.ts.length:=rfl
  have b5:JN g (c:Int)=c:=by unfold JN;rw[if_neg zO]
  simp(disch:=first|(simp;done)|omega) [S,O,b6,s0,B,f1,c1]
  refine jZ (vs:=[.ptr kX uX 0,.int .i64 (-1),.int .i64 (c:Int)]) zS rfl ((sJ.up zL).put (by first|omega|(simp[sr];done)|(simp[sr];omega)) (by first|omega|(simp[sr];done)|(simp[sr];omega)) zO _ _) ?_
  rintro v1 f2 f9 f8 ⟨r1,N⟩
  simp only at r1 N
  rw[d3,b5]at N
  obtain⟨f6,a0,_⟩:=id N.e
  simp(disch:=first|(simp;done)|omega) [s0,j0,a0,mkS,histC,x1,x2,s2]
  have I:=N.q.look (sesAt g c)
  have F:=N.q.ls (sesAt g c)
  simp(disch:=first|(simp;done)|omega) [I,F.len]
  refine jj fun p G=>?_
  have p0:p.tm 0=.ptr kX uX 0:=by rw[G];simp[s0]
  have p2:p.tm 2=.map (2*z+1) z:=by rw[G];simp[s2]
  have p4:p.tm 4=.int .i64 c:=by rw[G];simp
  have p5:p.tm 5=.int .i64 (sesAt g c):=by rw[G];simp
  have g9:p.tm 13=.sl L (comL g).isEmpty (comL g).length ((comL g).flatMap intC):=by rw[G];simp[b6]
  have f4:p.tm 14=.int .i64 (comL g).length:=by rw[G];simp[O]
  have e3:p.tm 15=.int .i64 i:=by rw[G];simp[S]
  have f0:p.tm 33=lkV m (sesAt g c):=by rw[G];simp
  have d7:p.tm 34=.int .i64 (sesT g i (sesAt g c)).length:=by rw[G];simp
  have b9:p.tm 35=.int .i64 0:=by rw[G];simp
  have pd:p.df=[]:=by rw[G];simp[sd]
  have pr:p.ro=ro:=by rw[G];simp[sr]
  have pJ:SesJ g mv rv kX uX lo (2*z+1) z ob p.ob p.nx (sesL g i++((g.ts.length:Int),(c:Int))::((sesT g i (sesAt g c)).take 0).map fun a=>(a,(c:Int))) i m:=by
   have:=N.up (nx':=p.nx) (by rw[G];first|omega|(simp;done)|(simp;omega))
   have e:p.ob=f2:=by rw[G];simp
   rw[e]
   simpa using this
  clear G I F N a0
  have e5:∀a∈sesT g i (sesAt g c),JN g a=a:=fun a ha=>by
   unfold sesT at ha
   obtain⟨k,hk,_⟩:=comL_mem.1 (List.mem_of_mem_take (List.mem_filter.1 ha).1)
   unfold JN
   rw[if_neg zO]
  rw[hc]at hE
  generalize K:sesT g i (sesAt g c)=T at *
  obtain⟨J2,M⟩:∃J2:Nat→St→Prop,J2=fun j q=>q.tm 35=.int .i64 j∧SesJ g mv rv kX uX lo (2*z+1) z ob q.ob q.nx (sesL g i++((g.ts.length:Int),(c:Int))::(T.take j).map fun a=>(a,(c:Int))) i m:=⟨_,rfl⟩
  refine j9 [(7,7),(35,43)] T.length J2 rfl rfl (by rw[M];exact⟨by simpa using b9,pJ⟩) ?_
  clear b9 pJ
  intro j q hj b0 f
  rw[M]at b0
  obtain⟨X,P⟩:=b0
  have q0:q.tm 0=.ptr kX uX 0:=by rw[f.t 0 zS,p0]
  have q2:q.tm 2=.map (2*z+1) z:=by rw[f.t 2 zS,p2]
  have q4:q.tm 4=.int .i64 c:=by rw[f.t 4 zS,p4]
  have q5:q.tm 5=.int .i64 (sesAt g c):=by rw[f.t 5 zS,p5]
  have e6:q.tm 15=.int .i64 i:=by rw[f.t 15 zS,e3]
  have g8:q.tm 14=.int .i64 (comL g).length:=by rw[f.t 14 zS,f4]
  have d1:q.tm 33=lkV m (sesAt g c):=by rw[f.t 33 zS,f0]
  have c8:q.tm 34=.int .i64 T.length:=by rw[f.t 34 zS,d7]
  have qd:q.df=[]:=by rw[f.d,pd]
  have Z:q.ro=ro:=by rw[f.r,pr]
  clear f
  have F:=P.q.ls (sesAt g c)
  rw[K]at F
  by_cases D:j<T.length
  ·have c3:=jh D zO
   rcases F with⟨_,rfl⟩|⟨u,hv,ho,_,_⟩
   ·simp at D
   have e0:=ju4 (l:=2*u+1) (u:=u) (kk:=.i64) D
   have c0:=JP T D
   have e9:=e5 _ (List.getElem_mem D)
   have e4:(T.take (j+1)).map (fun a=>(a,(c:Int)))=(T.take j).map (fun a=>(a,(c:Int)))++[(T[j],(c:Int))]:=by rw[List.take_succ_eq_append_getElem D,List.map_append];rfl
   simp(disch:=first|(simp;done)|omega) [X,c8,d1,q0,q4,D,hv,e0,j0,ho,c0]
   refine jZ (vs:=[.ptr kX uX 0,.int .i64 T[j],.int .i64 (c:Int)]) zS rfl ((P.up zL).put (by first|omega|(simp[Z];done)|(simp[Z];omega)) (by first|omega|(simp[Z];done)|(simp[Z];omega)) (by simp;omega) _ _) ?_
   rintro v2 f3 g1 e8 ⟨z1,z2⟩
   simp only at z1 z2
   rw[e9,b5,List.append_assoc,List.cons_append,← e4]at z2
   simp(disch:=first|(simp;done)|omega) [X,c3,D]
   rw[M]
   exact⟨zS,(by simpa using z2:SesJ g mv rv kX uX lo (2*z+1) z ob f3 e8 _ i m).up zL⟩
  ·have:j=T.length:=zO
   subst this
   rw[List.take_of_length_le zR,← hE,← d6]at P
   have I:=P.q.look (sesAt g c)
   simp(disch:=first|(simp;done)|omega) [X,c8,q2,q4,q5,I]
   refine Je (cs:=[.int .i64 (c:Int)]) (by simp[j5]) rfl rfl ?_
   simp
   have g5:=F
   refine jlu (lo:=z+1) (hi:=q.nx) (v:=lkV m (sesAt g c)) (T:=T) (p:=(c:Int)) zS ?_ (by simp[Z];omega) (by simp[jI,j0,intC]) zO fun kl U=>?_
   ·rcases F with h|⟨u,hv,ho,h3,h4⟩
    ·exact .inl h
    ·refine .inr ⟨u,hv,?_,h3,h4⟩
     have:∀m,q.nx≤m→¬ u=m:=fun m hm=>by omega
     simp(disch:=first|(simp;done)|omega) [jQ,this,ho]
   have hq:=P.q.o
   obtain⟨l1,l2,l3⟩:=P.h
   have nM:∀m,q.nx≤m→¬ z=m:=fun m hm=>by omega
   have d2:kl.any (Nat.beq (2*z+1))=false:=by
    rcases U with rfl|⟨u,_,h1,_,rfl⟩
    ·rfl
    ·simp only[List.any_cons,List.any_nil,Bool.or_false]
     exact Jn zO
   have g6:∀m,q.nx≤m→kl.any (Nat.beq (2*m+1))=false:=fun m hm=>by
    rcases U with rfl|⟨u,_,_,h2,rfl⟩
    ·rfl
    ·simp only[List.any_cons,List.any_nil,Bool.or_false]
     exact Jn zO
   simp(disch:=first|(simp;done)|omega)
   refine jap (f:=osV) (a:=(q.nx+512,T.length+1)) (ver:=i) (l:=2*z+1) (u:=z) (k:=sesAt g c) m zS zS (by simp[osV,Nat.add_assoc,V.strip]) (by simp(disch:=first|(simp;done)|omega) [jT,jQ,nM,d2,hq]) (by simp[Z];omega) ?_
   simp(disch:=first|(simp;done)|omega) [e6,e7,B]
   rw[hJ]
   rw[← K]
   refine⟨zS,jh3 m (sesAt g c) (q.nx+512,(sesT g i (sesAt g c)).length+1),P.next (kl:=kl) B c5.symm ?_ ?_ (by rw[K];exact U) (fun b k1 k2 k3=>?_) zO zL⟩
   ·simp
   ·rw[K,hc]
    simp(disch:=first|(simp;done)|omega) [jT,jQ,Nat.add_assoc,Ne.symm (nM _ _)]
   ·have:=k1.ne
    simp(disch:=first|(simp;done)|omega) [jT,this,k2,k3]
 ·have:i=(comL g).length:=zO
  subst this
  simp(disch:=first|(simp;done)|omega) [S,O]
  obtain⟨⟨lv,e1,e2,_⟩,_,w,h,_⟩:=sJ
  exact jc3 (.inl rfl) (by simp[sd]) ⟨zL,⟨lv,by simpa using e1,e2.frame (fun _ _ _=>by simp) zL⟩,fun b h1 h2=>by simpa using w b h1 h2⟩
end
def revE (n:Nat) (L:List P2):List P2:=(L.filter fun z=>decide (z.1<(n:Int))).map fun z=>(z.2,z.1)
theorem jrp (n:Nat) (L:List P2) (z:P2):revE n (L++[z])=revE n L++if z.1<(n:Int) then [(z.2,z.1)] else []:=by
 unfold revE
 rw[List.filter_append,List.map_append]
 congr 1
 by_cases h:z.1<(n:Int) <;> simp[h]
theorem jmu (n:Nat) (L:List P2):(revE n L).length≤L.length:=by
 unfold revE
 rw[List.length_map]
 exact List.length_filter_le _ _
theorem EdV.toA {ob:ZO}{lo hi a:Nat}{v:V}{L:List P2}(h:EdV ob lo hi v L) (f:hi≤a):EdA a ob v L:=by
 rcases h with⟨rfl,rfl⟩|⟨u,b,c,d,e⟩
 ·exact .inl ⟨none,true,rfl⟩
 ·exact .inr ⟨2*u+1,u,b,c,Off.new zO⟩
structure PastO (kX uX:Nat) (R:List P2) (u1 u3 hi:Nat) (ob:ZO):Prop where
 a:ob (2*u1+1)=some ⟨u1,.cells [.ptr kX uX 0]⟩
 b:∃lv,ob (2*u3+1)=some ⟨u3,.cells [lv]⟩∧EdV ob (u3+1) hi lv R
 h:u1<u3∧u3<hi
theorem PastO.keep {kX uX d f hi c:Nat}{R:List P2}{ob ob':ZO}(h:PastO kX uX R d f hi ob) (e:∀u,d≤u→u<hi→ob' (2*u+1)=ob (2*u+1)) (k:hi≤c):PastO kX uX R d f c ob':=by
 obtain⟨l,b1,b2⟩:=h.b
 have i:=h.h
 exact⟨(e d zR zO).trans h.a,⟨l,(e f zO i.2).trans b1,b2.frame (fun u m j=>e u zO j) k⟩,i.1,zO⟩
section
variable {g:Hist'}{mv rv:V}{kX uX lo:Nat}{ob:ZO}{ub:Nat}{L:List P2}
theorem sv138 {Yf:YF}{tk:Nat→Bool}{ro base:Nat}(hX:MkR g mv rv kX uX lo ob ub L) (k:Off lo kX) (P:lo≤ub) (c1:ro≤lo) (hl:L.length≤10000) :
 ∃r,EvS E Yf.y 138 [.ptr kX uX 0] ob tk ro base ub r∧∃l j,r.1=.fn (.func 193) [] [.ptr (2*l+1) l 0,.ptr (2*j+1) j 0]∧ub≤l∧PastO kX uX (revE g.ts.length L) l j r.2.2.2 r.2.1∧∀c,Off ub c→r.2.1 c=ob c:=by
 obtain⟨lv,M,hE⟩:=hX
 have hA:=hE.toA zR
 have Z:=hA.len
 have oX:=(k.up P).ne
 have B:¬ ub=ub+64+64:=zO
 refine X2 (af:=S138) rfl zD ?_
 show wpC E Yf S138.body _ (XY S138.res _)
 simp(disch:=first|(simp;done)|omega) [S138,j0,M,mkS,histC,oX,V.cells,V.leaf,Z,jQ,B]
 refine jj fun q e=>?_
 obtain⟨l,j,a1,a2,a3,g1,g3,gA,gB⟩:∃l j,ub≤l∧l<j∧j<q.nx∧q.tm 1=.ptr (2*l+1) l 0∧q.tm 3=.ptr (2*j+1) j 0∧q.ob (2*l+1)=some ⟨l,.cells [.ptr kX uX 0]⟩∧q.ob (2*j+1)=some ⟨j,.cells [.sl none true 0 []]⟩ :=
  ⟨ub,ub+128,zO,zO,by rw[e];first|omega|(simp;done)|(simp;omega),by rw[e];simp,by rw[e];simp[Nat.add_assoc],by rw[e];simp[jQ,B],by rw[e];simp[Nat.add_assoc]⟩
 have g9:q.tm 9=lv:=by rw[e];simp
 have b5:q.tm 10=.int .i64 L.length:=by rw[e];simp
 have T:q.tm 11=.int .i64 0:=by rw[e];simp
 have gd:q.df=[]:=by rw[e];simp
 have gr:q.ro=ro:=by rw[e];simp
 have go:∀c,Off ub c→q.ob c=ob c:=fun c k=>by
  have:=k.ne
  rw[e]
  simp(disch:=first|(simp;done)|omega) [this]
 clear e
 obtain⟨J,hJ⟩:∃J:Nat→St→Prop,J=fun i s=>s.tm 11=.int .i64 i∧PastO kX uX (revE g.ts.length (L.take i)) l j s.nx s.ob∧∀c,Off ub c→s.ob c=ob c:=⟨_,rfl⟩
 refine j9 [(5,5),(11,32)] L.length J rfl rfl ?_ ?_
 ·rw[hJ]
  exact⟨by simpa using T,⟨gA,⟨_,gB,.inl ⟨rfl,by simp[revE]⟩⟩,a2,a3⟩,go⟩
 clear T gA gB go a3
 intro i s hi S f
 rw[hJ]at S
 obtain⟨w,I,N⟩:=S
 have s1:s.tm 1=.ptr (2*l+1) l 0:=by rw[f.t 1 zS,g1]
 have s3:s.tm 3=.ptr (2*j+1) j 0:=by rw[f.t 3 zS,g3]
 have s9:s.tm 9=lv:=by rw[f.t 9 zS,g9]
 have X:s.tm 10=.int .i64 L.length:=by rw[f.t 10 zS,b5]
 have sd:s.df=[]:=by rw[f.d,gd]
 have sr:s.ro=ro:=by rw[f.r,gr]
 clear f
 have hh:=I.h
 by_cases o:i<L.length
 ·have O:=jh o zO
  obtain⟨p,b7,G⟩:=hA.at o
  have n:=jrp g.ts.length (L.take i) L[i]
  rw[← List.take_succ_eq_append_getElem o]at n
  have Q:s.ob kX=_:=(N kX (k.up P)).trans M
  have U:=(k.up (show lo≤s.nx by omega)).ne
  have H:=I.a
  obtain⟨lw,K,b0⟩:=I.b
  have n1:∀m,s.nx≤m→¬ l=m:=fun m hm=>by omega
  have n3:∀m,s.nx≤m→¬ j=m:=fun m hm=>by omega
  generalize L[i]=z at G n
  obtain⟨x,y⟩:=z
  simp only at G n
  simp(disch:=first|(simp;done)|omega) [w,X,s9,o,b7]
  rw[G _ fun c k=>by simpa using N c k]
  have b6:=jmu g.ts.length (L.take i)
  rw[List.length_take]at b6
  by_cases hc:x<(g.ts.length:Int)
  ·rw[if_pos hc]at n
   simp(disch:=first|(simp;done)|omega) [s1,s3,j0,j5,jQ,n1,n3,H,K,Q,mkS,histC,U,slOf,hc]
   refine⟨zO,?_⟩
   refine Je (cs:=[.int .i64 y,.int .i64 x]) (by simp[j5]) rfl rfl ?_
   simp
   refine jlv (lo:=j+1) (hi:=s.nx) (v:=lw) (L:=revE g.ts.length (L.take i)) (p:=(y,x)) zS (b0.frame (fun u h1 h2=>?_) zR) (by simp[sr];omega) (by simp[jI,j0,edC]) zO fun kl b8=>?_
   ·have:∀m,s.nx≤m→¬ u=m:=fun m hm=>by omega
    simp(disch:=first|(simp;done)|omega) [jQ,this]
   have D:∀c,Off (j+1) c→kl.any (Nat.beq c)=false:=fun c k=>by
    rcases b8 with rfl|⟨u,h1,_,rfl,_⟩
    ·rfl
    ·simp only[List.any_cons,List.any_nil,Bool.or_false]
     exact juq (k u h1)
   have k3:=D (2*j+1) (Off.new zO)
   have k1:=D (2*l+1) (Off.new zO)
   have c0:¬ l=j:=zO
   rw[← n]
   have F:(revE g.ts.length (L.take (i+1))).length=(revE g.ts.length (L.take i)).length+1:=by rw[n];simp
   generalize a0:revE g.ts.length (L.take (i+1))=R1 at *
   simp(disch:=first|(simp;done)|omega) [s3,j0,j5,jQ,n3,K,jT,k3,V.cells,V.leaf]
   refine⟨zO,?_⟩
   simp(disch:=first|(simp;done)|omega) [w,O,o]
   rw[hJ]
   simp only[a0]
   have b9:∀m,s.nx≤m→¬ m=j:=fun m hm=>by omega
   refine⟨zS,⟨?_,⟨.osl (2*(s.nx+1344)+1) (s.nx+1344) 0 R1.length 2,?_,.inr ⟨s.nx+1344,rfl,?_,zO,zL⟩⟩,a2,zL⟩,fun c k=>?_⟩
   ·simp(disch:=first|(simp;done)|omega) [jT,jQ,n1,c0,k1,H]
   ·simp(disch:=first|(simp;done)|omega) [Nat.add_assoc,F]
   ·simp(disch:=first|(simp;done)|omega) [jT,jQ,Nat.add_assoc,b9]
   ·have h1:=D c (k.up zO)
    have h2:=(k.up (show ub≤s.nx by omega)).ne
    have h3:¬ c=2*j+1:=k j zO
    simp(disch:=first|(simp;done)|omega) [jT,h1,h2,h3]
    exact N c k
  ·rw[if_neg hc,List.append_nil]at n
   simp(disch:=first|(simp;done)|omega) [s1,j0,j5,jQ,n1,H,Q,mkS,histC,U,slOf,hc]
   refine⟨zO,?_⟩
   simp(disch:=first|(simp;done)|omega) [w,O,o]
   rw[hJ]
   have h2:∀c,Off ub c→∀m,s.nx≤m→¬ c=2*m+1:=fun c k=>(k.up (show ub≤s.nx by omega)).ne
   refine⟨zS,?_,fun c k=>?_⟩
   ·rw[n]
    refine I.keep (fun u h3 h4=>?_) zL
    have:∀m,s.nx≤m→¬ u=m:=fun m hm=>by omega
    simp(disch:=first|(simp;done)|omega) [jQ,this]
   ·have h3:=h2 c k
    simp(disch:=first|(simp;done)|omega) [h3]
    exact N c k
 ·have:i=L.length:=zO
  subst this
  rw[List.take_length]at I
  simp(disch:=first|(simp;done)|omega) [w,X,s1,s3]
  exact W1 (by simp[sd]) ⟨l,j,zS,a1,I.keep (fun u _ _=>by simp) zL,fun c k=>by simpa using N c k⟩
end
theorem jxg {Yf:YF}{f:FuncId}{xs:List A}{st:St}{ub:Nat}{K:St→Nat→Prop}{d:Option Nat}{nm:Bool}{vs:List V}{P:V→Prop}(a:xs.map (eval E st.tm)=vs) (e:E.sh nm f=false) (hp:(vs.all fun v=>v.strip.pureTop)=false)
 (h:∃v,EvO E f vs st.ob st.tk ((st.fb+d.getD 0+1)*1024) ub v∧P v) (i:∀v,P v→wpD (Xg ub v) (WW K st d ub)):j6 E Yf ⟨d,.call f xs,none,nm⟩ st ub K:=by
 obtain⟨v,c,b⟩:=h
 exact js a e hp c (i v b)
theorem jnk {Yf:YF}{f:FuncId}{q:A}{xs:List A}{st:St}{ub:Nat}{K:St→Nat→Prop}{d:Option Nat}{nm:Bool}{first captured vs:List V}{P:V→Prop}(j:eval E st.tm q=.fn (.func f) first captured) (a:first++xs.map (eval E st.tm)++captured=vs) (e:E.sh nm f=false)
 (hp:(vs.all fun v=>v.strip.pureTop)=false) (h:∃v,EvO E f vs st.ob st.tk ((st.fb+d.getD 0+1)*1024) ub v∧P v) (i:∀v,P v→wpD (Xg ub v) (WW K st d ub)):j6 E Yf ⟨d,.callV q xs,none,nm⟩ st ub K:=by
 obtain⟨v,c,b⟩:=h
 exact jaq j e (by rw[a];exact hp) (by rw[a];exact c) (i v b)
def j4b (n:Nat) (R:List P2) (t:Nat) (v:V):Prop:=∃w,(w<2 ^ n∧∀a,a<n→w.testBit a=war (edB R) n t a)∧j0e (ints (jd w)) v
theorem ev194n {n:Nat}(H:0<n) (k:n≤9) {t:Nat}(D:t<n) :
 ∃q,Ev E 194 [.int .i64 (n:Int),.int .i64 (t:Int),.sl none true 0 []] q∧∃w,(w<2 ^ n∧∀a,a<n→w.testBit a=war (edB []) n t a)∧FromR w q:=by
 have hp:(2:Nat) ^ n≤512:=Nat.pow_le_pow_right zD k
 have j:¬ (t:Int)<0:=zO
 have y:¬ (n:Int)≤t:=zO
 have G:¬ (n≤t):=zO
 refine XP (af:=F194) rfl zD ?_
 simp(disch:=first|(simp;done)|omega) [F194]
 refine jZ (vs:=[.int .i64 n,.sl none true 0 []]) zS rfl (j49 (L:=[]) ?_ H k (.inl ⟨none,true,rfl⟩) (fun z c=>by cases c) zS) ?_
 ·simp
 rintro v1 X Z N ⟨F,ut,uf,ue,tu,fu,T,rfl,I,p,b5,hT,P,m⟩
 simp only at I P m
 simp(disch:=first|(simp;done)|omega) [j,y]
 refine jZ (vs:=[.ptr (2*F+1) F 0]) zS rfl (j48 (n:=n) (r:=edB []) (I.keep (fun x _ _=>?_) ?_) ?_ p H k (fun b _=>⟨(Ys (n:=n) (L:=[]) (fun z c=>by cases c) b).1,fun a _=>(Ys (n:=n) (L:=[]) (fun z c=>by cases c) b).2 a⟩)) ?_
 ·simp
 ·first|omega|(simp;done)|(simp;omega)
 ·first|omega|(simp;done)|(simp;omega)
 rintro v2 b0 Q a0 ⟨J,f,W,rfl,S,e,K⟩
 simp only at e
 have d:=e.o
 rw[List.replicate_zero,List.append_nil]at d
 have U:=e.r
 have O:=ju4 (l:=2*J+1) (u:=J) (kk:=.i64) D
 have x2:=ji0 (l:=f) (i:=t) zO
 have M:=e.s t zO
 have ls:=e.rs _ (List.getElem_mem (show t<f.length by omega))
 have ws:=K t D
 simp(disch:=first|(simp;done)|omega) [O,x2,j0,d]
 obtain⟨B,v⟩:=QC (ints (jd (W t)))
 refine js (vs:=[.ptr (2*f[t]+1) f[t] 0]) zS rfl rfl (jt9 (w:=W t) (by simpa using M) (Off.new zL) zO _ _) ?_
 refine Xv v fun tt add=>?_
 simp
 refine jy8 (ns:=[6,7]) (ls:=[.sl none B (ints (jd (W t))).length ((ints (jd (W t))).flatMap intC),.int .i64 0]) (fun r h=>⟨W t,ws,B,h⟩) zS rfl zS zS ?_
 simp
 exact⟨QA rfl (WB _ tt B _ _),JF rfl,trivial⟩
section
variable {g:Hist'}{mv rv:V}{kX uX:Nat}{ob:ZO}{ub u1 u3 hi:Nat}{R:List P2}
theorem evo193 (j:PastO kX uX R u1 u3 hi ob) (K:hi≤ub) (l:∃z,ob kX=some ⟨uX,.cells (mkS g mv rv z)⟩) (I:Off ub kX) (y:0<g.ts.length) (Q:g.ts.length≤8) (H:InG g.ts.length R) (G:R.length≤10000) {t:Nat}(u:t<g.ts.length) (tk:Nat→Bool) (base:Nat) :
 ∃v,EvO E 193 [.int .i64 (t:Int),.ptr (2*u1+1) u1 0,.ptr (2*u3+1) u3 0] ob tk base ub v∧j4b g.ts.length R t v:=by
 obtain⟨z,l⟩:=l
 have O:=I.ne
 have p:=j.a
 obtain⟨N,n,c⟩:=j.b
 have L:=j.h
 have P:∀m,ub≤m→¬ u1=m:=fun m D=>by omega
 have M:∀m,ub≤m→¬ u3=m:=fun m D=>by omega
 refine jh2 (af:=S193) rfl zD ?_
 simp(disch:=first|(simp;done)|omega) [S193,j0,p,n,l,mkS,histC,slOf]
 have i:∀q w e add d,(w<2 ^ g.ts.length∧∀a,a<g.ts.length→w.testBit a=war (edB R) g.ts.length t a)→d.df=[]→d.tm 4=.sl e q (ints (jd w)).length ((ints (jd w)).flatMap intC)→add=add→jbl [.t 4] (j4b g.ts.length R t) .ret d:=fun q w e _ d f hd h4 (_:()=())=>
  slE (t:=e) (nl:=q) (k:=(ints (jd w)).length) (cs:=(ints (jd w)).flatMap intC) (fun r h=>⟨w,f,q,h⟩) hd h4
 rcases c with⟨rfl,rfl⟩|c
 ·obtain⟨q,o,w,f,nl,s⟩:=ev194n y zO u
  refine jR o zS rfl zS ?_
  refine jo2 s fun e add=>?_
  simp
  exact i nl w e () _ f zS zS rfl
 ·have F:=EdV.toA (.inr c) K
  obtain⟨x,rfl,_⟩:=c
  refine jxg (vs:=[.int .i64 g.ts.length,.int .i64 t,.osl (2*x+1) x 0 R.length 2]) zS rfl rfl (evo194 y zO (F.up (fun B _=>by simp) ?_) H G u _ _) fun q J=>?_
  ·first|omega|(simp;done)|(simp;omega)
  obtain⟨w,f,nl,s⟩:=J
  refine jo2 s fun e add=>?_
  simp
  exact i nl w e () _ f zS zS rfl
end
section
variable {g:Hist'}{M:List Int}{mn:Bool}{rt:Option (Nat × Nat)}{rn:Bool}{kX uX:Nat}{ob:ZO}{ub u1 u2 u3 u5 hi:Nat}{R:List P2}
theorem evo139 (p:PastO kX uX R u1 u3 hi ob) (I:hi≤ub) (F:ob (2*u5+1)=some ⟨u5,.cells [.fn (.func 193) [] [.ptr (2*u1+1) u1 0,.ptr (2*u3+1) u3 0]]⟩) (G:ob (2*u2+1)=some ⟨u2,.cells [.ptr kX uX 0]⟩) (P:u5<ub) (K:u2<ub)
 (s:∃n,ob kX=some ⟨uX,.cells (mkS g (slOf mn intC M) (rdV rt rn (readH g)) n)⟩) (o:Off ub kX) (J:g.ts.length≤8) (H:InG g.ts.length R) (D:R.length≤10000) {i:Nat}(hi:i<(readH g).length) (tk:Nat→Bool) (base:Nat) :
 ∃v,EvO E 139 [.int .i64 (i:Int),.ptr (2*u5+1) u5 0,.ptr (2*u2+1) u2 0] ob tk base ub v∧j4b g.ts.length R ((readH g).getD i (0,0)).1.toNat v:=by
 obtain⟨n,b⟩:=id s
 have N:=o.ne
 have L:∀m,ub≤m→¬ u5=m:=fun m q=>by omega
 have O:∀m,ub≤m→¬ u2=m:=fun m q=>by omega
 have l:=JQ jO rt rn (readH g) .i64 hi
 obtain⟨a,d,_,j⟩:=jdv hi
 have c:((readH g).flatMap jD)[i*2]? = some (.int .i64 (a:Int)):=by
  have:=jW jO (readH g) hi (by decide:0<2)
  rw[Nat.add_zero]at this
  rw[this]
  have e:(readH g).getD i (0,0)=(readH g)[i]:=by simp[List.getD_eq_getElem?_getD,List.getElem?_eq_getElem hi]
  rw[e]at d
  simp[jD,d]
 rw[d,Int.toNat_natCast]
 refine jh2 (af:=S139) rfl zD ?_
 simp(disch:=first|(simp;done)|omega) [S139,j0,F,G,b,mkS,histC,slOf,rdV,l,c]
 refine jnk (f:=193) (first:=[]) (captured:=[.ptr (2*u1+1) u1 0,.ptr (2*u3+1) u3 0]) (vs:=[.int .i64 a,.ptr (2*u1+1) u1 0,.ptr (2*u3+1) u3 0]) zS zS rfl rfl (evo193 (mv:=slOf mn intC M) (rv:=rdV rt rn (readH g)) (p.keep (fun u _ _=>by simp) I) ?_ ?_ (o.up ?_) zO J H D j _ _) fun v x=>?_
 ·first|omega|(simp;done)|(simp;omega)
 ·exact⟨n,by simpa using b⟩
 ·first|omega|(simp;done)|(simp;omega)
 obtain⟨w,B,nl,y⟩:=x
 refine Xv y fun z add=>?_
 simp
 exact slE (t:=z) (nl:=nl) (k:=(ints (jd w)).length) (cs:=(ints (jd w)).flatMap intC) (fun r h=>⟨w,B,nl,h⟩) zS zS
def rcQ (g:Hist') (M:List Int) (i k:Nat):Bool:=((readH g).getD k (0,0)).1 == ((readH g).getD i (0,0)).1 && (decide (((readH g).getD k (0,0)).2<((readH g).getD i (0,0)).2) && decide (0≤M.getD k 0))
def rcS (g:Hist') (M:List Int) (i n:Nat):List Int:=((List.range n).filter (rcQ g M i)).map fun k=>M.getD k 0
theorem jwd (g:Hist') (M:List Int) (i n:Nat):rcS g M i (n+1)=rcS g M i n++if rcQ g M i n then [M.getD n 0] else []:=by
 unfold rcS
 rw[List.range_succ,List.filter_append,List.map_append]
 congr 1
 cases h:rcQ g M i n <;> simp[h]
theorem jru (g:Hist') (M:List Int) (i n:Nat):(rcS g M i n).length≤n:=by
 unfold rcS
 rw[List.length_map]
 exact Nat.le_trans (List.length_filter_le _ _) zS
theorem evo140 (hm:jb5 g M=true) (h2:ob (2*u2+1)=some ⟨u2,.cells [.ptr kX uX 0]⟩) (l2:u2<ub) (hX:∃lv,ob kX=some ⟨uX,.cells (mkS g (slOf mn intC M) (rdV rt rn (readH g)) lv)⟩) (o:Off ub kX) (hR:(readH g).length≤1000) {i:Nat}(hi:i<(readH g).length) (tk:Nat→Bool) (base:Nat) :
 EvO E 140 [.int .i64 (i:Int),.ptr (2*u2+1) u2 0] ob tk base ub (jhn (rcS g M i (readH g).length)):=by
 obtain⟨lv,hX⟩:=hX
 have c8:=Yi hm
 have oX:=o.ne
 have n2:∀m,ub≤m→¬ u2=m:=fun m hm=>by omega
 have b6:∀ {k:Nat}(h:k<(readH g).length),((readH g).flatMap jD)[k*2]? = some (.int .i64 ((readH g).getD k (0,0)).1)∧((readH g).flatMap jD)[k*2+1]? = some (.int .i64 ((readH g).getD k (0,0)).2):=fun {k} h=>by
  have e:(readH g).getD k (0,0)=(readH g)[k]:=by simp[List.getD_eq_getElem?_getD,List.getElem?_eq_getElem h]
  have a1:=jW jO (readH g) h (by decide:0<2)
  have a2:=jW jO (readH g) h (by decide:1<2)
  rw[Nat.add_zero]at a1
  rw[a1,a2,e]
  exact⟨rfl,rfl⟩
 have I:=JQ jO rt rn (readH g) .i64 hi
 obtain⟨Z,f2⟩:=b6 hi
 refine X6 (af:=S140) rfl ?_
 simp(disch:=first|(simp;done)|omega) [S140,j0,h2,hX,mkS,histC,slOf,rdV]
 refine jj fun y c=>?_
 have g0:y.tm 0=.int .i64 i:=by rw[c];simp
 have g1:y.tm 1=.ptr (2*u2+1) u2 0:=by rw[c];simp
 have g4:y.tm 4=.sl none true 0 []:=by rw[c];simp
 have c0:y.tm 10=rdV rt rn (readH g):=by rw[c];simp[rdV]
 have b7:y.tm 11=.int .i64 (readH g).length:=by rw[c];simp
 have S:y.tm 12=.int .i64 0:=by rw[c];simp
 have gd:y.df=[]:=by rw[c];simp
 have gr:y.ro=ub:=by rw[c];simp
 have gn:ub≤y.nx:=by rw[c];first|omega|(simp;done)|(simp;omega)
 have go:∀a,Off ub a→y.ob a=ob a:=fun a o=>by rw[c];simp
 clear c
 obtain⟨P,L⟩:∃P:Nat→Nat→Prop,P=fun hi u=>ub≤u∧u<hi:=⟨_,rfl⟩
 obtain⟨J,hJ⟩:∃J:Nat→St→Prop,J=fun k s=>s.tm 12=.int .i64 k∧IntsO s.ob (P s.nx) (rcS g M i k) (s.tm 4)∧ub≤s.nx∧∀a,Off ub a→s.ob a=ob a:=⟨_,rfl⟩
 refine j9 [(4,6),(12,61)] (readH g).length J rfl rfl (by rw[hJ];exact⟨by simpa using S,.inl ⟨by simp[rcS],g4⟩,gn,go⟩) ?_
 clear S g4 gn go
 intro k s c9 T f
 rw[hJ]at T
 obtain⟨w,sI,sn,so⟩:=T
 have s0:s.tm 0=.int .i64 i:=by rw[f.t 0 zS,g0]
 have s1:s.tm 1=.ptr (2*u2+1) u2 0:=by rw[f.t 1 zS,g1]
 have c4:s.tm 10=rdV rt rn (readH g):=by rw[f.t 10 zS,c0]
 have b5:s.tm 11=.int .i64 (readH g).length:=by rw[f.t 11 zS,b7]
 have sd:s.df=[]:=by rw[f.d,gd]
 have sr:s.ro=ub:=by rw[f.r,gr]
 clear f
 by_cases j:k<(readH g).length
 ·have B:=jh j zO
  have N:k<M.length:=zO
  have c6:=JQ jO rt rn (readH g) .i64 j
  obtain⟨k1,k2⟩:=b6 j
  have b0:=fun ob=>Q8 (readH g) ob j
  have U:=JQ jC none mn M .i64 N
  have a0:=JP M N
  have b:=jwd g M i k
  have c7:=jru g M i k
  have D:s.ob (2*u2+1)=_:=(so _ (Off.new l2)).trans h2
  have H:s.ob kX=_:=(so _ o).trans hX
  have F:=(o.up sn).ne
  have G:∀m,s.nx≤m→¬ u2=m:=fun m hm=>by omega
  have b8:M.getD k 0=M[k]:=by simp[List.getD_eq_getElem?_getD,List.getElem?_eq_getElem N]
  have b9:(readH g).getD k (0,0)=(readH g)[k]:=by simp[List.getD_eq_getElem?_getD,List.getElem?_eq_getElem j]
  unfold rcQ at b
  rw[b8,b9]at b
  generalize (readH g).getD i (0,0)=p at *
  generalize (readH g)[k]=q at *
  obtain⟨pa,pb⟩:=p
  obtain⟨qa,qb⟩:=q
  simp only at b0 b Z f2
  simp(disch:=first|(simp;done)|omega) [w,b5,c4,s1,j,c6,b0,rdV,j0,j5,jQ]
  refine⟨zO,?_⟩
  have skip:rcS g M i (k+1)=rcS g M i k→∀O:St,O.tm 12=.int .i64 ((k:Int)+1)→O.tm 4=s.tm 4→s.nx≤O.nx→(∀a,Off s.nx a→O.ob a=s.ob a)→J (k+1) O:=fun e O h1 h2 h3 h4=>by
   rw[hJ]
   refine⟨by simpa using h1,?_,zO,fun a o=>(h4 a (o.up sn)).trans (so a o)⟩
   rw[e,h2]
   exact sI.frame (fun u n=>by rw[L]at n;exact h4 _ (Off.new n.2)) fun u n=>by rw[L]at n ⊢;exact⟨n.1,by have:=n.2;omega⟩
  cases K:(qa == pa)
  ·rw[K,Bool.false_and,if_neg zD,List.append_nil]at b
   simp(disch:=first|(simp;done)|omega) [w,s0,j0,D,H,mkS,histC,F,G,rdV,slOf,I,Z,K,B,j]
   exact skip b _ zS zS zL fun a o=>by simp(disch:=first|(simp;done)|omega) [o.ne]
  by_cases Q:qb<pb
  ·by_cases c3:0≤M[k]
   ·rw[K,decide_eq_true Q,decide_eq_true c3,Bool.true_and,Bool.true_and,if_pos rfl]at b
    simp(disch:=first|(simp;done)|omega) [s1,s0,j0,jQ,D,H,mkS,histC,F,G,rdV,slOf,I,Z,f2,K,Q,c3,U,a0]
    refine Je (cs:=[.int .i64 M[k]]) (by simp[j5]) rfl rfl ?_
    simp
    refine QG (p:=P s.nx) (l:=rcS g M i k) (z:=M[k]) (v:=s.tm 4) (X:=2*(s.nx+3136)+1) (uX:=s.nx+3136) zS (sI.frame (fun u n=>?_) fun _ h=>h) (by simp[Nat.add_assoc]) (by simp[Nat.add_assoc]) (fun u n=>by rw[L]at n;simp[sr];exact n.1) zO fun kl c5=>?_
    ·rw[L]at n
     have:∀m,s.nx≤m→¬ u=m:=fun m hm=>by omega
     simp(disch:=first|(simp;done)|omega) [jQ,this]
    simp(disch:=first|(simp;done)|omega) [w,B,j]
    rw[hJ]
    refine⟨zS,.inr ⟨by rw[b];simp,s.nx+3200,by rw[b];simp[Nat.add_assoc],by rw[b];simp[Nat.add_assoc,je2],?_⟩,zL,fun a o=>?_⟩
    ·rw[L]
     simp
     omega
    ·have h3:=(o.up sn).ne
     have h4:kl.any (Nat.beq a)=false:=by
      rw[List.any_eq_false]
      intro x hx hb
      obtain⟨u,n,rfl⟩:=c5 x hx
      rw[L]at n
      exact o u n.1 (Nat.eq_of_beq_eq_true hb)
     simp(disch:=first|(simp;done)|omega) [je2,h3,h4]
     exact so a o
   ·rw[K,decide_eq_true Q,decide_eq_false c3,Bool.true_and,Bool.true_and,if_neg zD,List.append_nil]at b
    simp(disch:=first|(simp;done)|omega) [w,s1,s0,j0,jQ,D,H,mkS,histC,F,G,rdV,slOf,I,Z,f2,K,Q,c3,U,a0,B,j]
    exact skip b _ zS zS zL fun a o=>by simp(disch:=first|(simp;done)|omega) [o.ne]
  ·rw[K,decide_eq_false Q,Bool.false_and,Bool.and_false,if_neg zD,List.append_nil]at b
   simp(disch:=first|(simp;done)|omega) [w,s1,s0,j0,jQ,D,H,mkS,histC,F,G,rdV,slOf,I,Z,f2,K,Q,B,j]
   exact skip b _ zS zS zL fun a o=>by simp(disch:=first|(simp;done)|omega) [o.ne]
 ·have:k=(readH g).length:=zO
  subst this
  simp(disch:=first|(simp;done)|omega) [w,b5]
  exact Yx (by simp[sd]) zS (sI.frame (fun u n=>by simp) fun u n=>n) (fun u n=>by rw[L]at n;simp[sr];exact n.1)
end
section
variable {g:Hist'}{M:List Int}{lvl:Int}
def askL (g:Hist') (M:List Int) (S:Nat→List Int) (n:Nat):List P2:=(List.range n).flatMap fun i=>askE g M (S i) i
theorem jbv {S a:List Int}(h:∀x,x∈S ↔ x∈a) (i:Nat) (z:P2):z∈askE g M S i ↔ z∈askE g M a i:=by
 unfold askE
 simp only[List.mem_map,List.mem_filter,h]
theorem j5q {S:Nat→List Int}(b:∀i,i<(readH g).length→∀x,x∈S i ↔ x∈Yb g lvl M i):jqf g lvl M (sesL g (comL g).length++srcL g M (readH g).length++askL g M S (readH g).length):=by
 intro z
 simp only[List.mem_append,sesL,srcL,askL,List.mem_flatMap,List.mem_map,List.mem_range]
 constructor
 ·rintro((⟨i,a,h⟩|⟨i,a,rfl⟩)|⟨i,a,h⟩)
  ·exact .inl ⟨i,a,h⟩
  ·exact .inr ⟨i,a,.inl rfl⟩
  ·exact .inr ⟨i,a,.inr ((jbv (b i a) i z).1 h)⟩
 ·rintro(⟨i,a,h⟩|⟨i,a,h|h⟩)
  ·exact .inl (.inl ⟨i,a,h⟩)
  ·exact .inl (.inr ⟨i,a,h.symm⟩)
  ·exact .inr ⟨i,a,(jbv (b i a) i z).2 h⟩
theorem jdj (g:Hist') (M:List Int) (i:Nat):Yb g 0 M i=[]:=by
 unfold Yb Wd
 rw[List.eq_nil_iff_forall_not_mem]
 intro x a
 obtain⟨k,_,_,h⟩:=filTo_mem.1 a
 simp[jbb]at h
theorem jg1 (g:Hist') (M:List Int):jqf g 0 M (sesL g (comL g).length++srcL g M (readH g).length):=by
 have:=j5q (g:=g) (M:=M) (lvl:=0) (S:=fun _=>[]) fun i _ x=>by rw[jdj]
 have e:askL g M (fun _=>[]) (readH g).length=[]:=by simp[askL,askE]
 rwa [e,List.append_nil]at this
theorem jr2 (o:jb5 g M=true) {x y:Nat}(G:x<g.ts.length) (H:y<g.ts.length):(sesL g (comL g).length++srcL g M (readH g).length).contains ((x:Int),(y:Int))=jcj g M x y:=by
 have B:=jg1 g M
 have D:((x:Int),(y:Int))∈(sesL g (comL g).length++srcL g M (readH g).length) ↔ QR g 0 M x y=true:=by
  rw[← (Jw _).mem_iff,← compP_mem,We o B,edgesOf_mem]
  constructor
  ·rintro⟨a,b,_,_,h,e⟩
   have d:(x:Int)=a:=congrArg Prod.fst e
   have l:(y:Int)=b:=congrArg Prod.snd e
   rw[show x=a by omega,show y=b by omega]
   exact h
  ·exact fun h=>⟨x,y,zO,zO,h,rfl⟩
 rw[Bool.eq_iff_iff,List.contains_iff_mem,D]
 have t:(x == g.ts.length)=false:=by simp;omega
 unfold QR jcj
 rw[t,Bool.false_and,Bool.false_or,Bool.or_eq_true]
 constructor
 ·rintro(h|h)
  ·simp only[Bool.and_eq_true]at h ⊢
   exact⟨⟨h.1.1.1,h.1.1.2⟩,by simp[h.1.2,h.2]⟩
  ·obtain⟨i,f,h⟩:=List.any_eq_true.1 h
   have f:=List.mem_range.1 f
   rw[jdj,show askE g M [] i=[] from rfl]at h
   simp only[List.contains_nil,Bool.or_false,beq_iff_eq]at h
   obtain⟨b,s,m,_⟩:=jdv f
   have d:JN g (M.getD i 0)=(x:Int):=congrArg Prod.fst h
   have l:((readH g).getD i (0,0)).1=(y:Int):=congrArg Prod.snd h
   have F:=Yi o
   have r:y=b:=by rw[s]at l;omega
   rcases jsx o f with c|⟨a,v,q,_⟩
   ·unfold JN at d
    rw[if_pos c]at d
    omega
   ·have p:x=a:=by
     unfold JN at d
     rw[if_neg zO]at d
     omega
    rw[p,r,q,m,Bool.and_self,Bool.true_and,Bool.or_eq_true]
    refine .inr (List.any_eq_true.2 ⟨((readH g)[i],M[i]),?_,?_⟩)
    ·rw[List.mem_iff_getElem]
     exact⟨i,by simp;omega,zS⟩
    ·have u:M.getD i 0=M[i]:=by simp[List.getD_eq_getElem?_getD,List.getElem?_eq_getElem (show i<M.length by omega)]
     have n:(readH g).getD i (0,0)=(readH g)[i]:=by simp[List.getD_eq_getElem?_getD,List.getElem?_eq_getElem f]
     rw[u]at v
     rw[n]at s
     simp[v,s]
 ·intro h
  simp only[Bool.and_eq_true,Bool.or_eq_true]at h
  obtain⟨⟨d,l⟩,c⟩:=h
  rcases c with c|c
  ·left
   simp only[Bool.and_eq_true]
   exact⟨⟨⟨d,l⟩,c.1⟩,c.2⟩
  ·right
   obtain⟨z,w,k⟩:=List.any_eq_true.1 c
   obtain⟨i,f,e⟩:=List.getElem_of_mem w
   simp only[List.length_zip]at f
   have j:i<(readH g).length:=zO
   rw[List.getElem_zip]at e
   simp only[Bool.and_eq_true,beq_iff_eq]at k
   rw[← e]at k
   simp only at k
   refine List.any_eq_true.2 ⟨i,List.mem_range.2 j,?_⟩
   rw[Bool.or_eq_true]
   left
   have u:M.getD i 0=M[i]:=by simp[List.getD_eq_getElem?_getD,List.getElem?_eq_getElem (show i<M.length by omega)]
   have n:(readH g).getD i (0,0)=(readH g)[i]:=by simp[List.getD_eq_getElem?_getD,List.getElem?_eq_getElem j]
   unfold jos JN
   rw[u,n,k.1,k.2,if_neg zO]
   simp
theorem Qw {n:Nat}{r c:Nat→Nat→Bool}(h:∀x y,x<n→y<n→r x y=c x y):∀K,K≤n→∀b a,b<n→a<n→war r K b a=war c K b a
 | 0,_,b,a,hb,ha=>h a b ha hb
 | K+1,hK,b,a,hb,ha=>by
  rw[war,war,Qw h K zO b a hb ha,Qw h K zO b K hb zO,Qw h K zO K a zO ha]
theorem j3o {n:Nat}{L:List P2}{x y:Nat}(i:x<n):edB (revE n L) x y=L.contains ((x:Int),(y:Int)):=by
 rw[Bool.eq_iff_iff]
 unfold edB revE
 simp only[List.contains_iff_mem,List.mem_map,List.mem_filter,decide_eq_true_eq]
 constructor
 ·rintro⟨⟨a,b⟩,⟨f,_⟩,e⟩
  have d:b=(y:Int):=congrArg Prod.fst e
  have c:a=(x:Int):=congrArg Prod.snd e
  rw[← d,← c]
  exact f
 ·exact fun h=>⟨_,⟨h,by simp only;omega⟩,rfl⟩
theorem jo5 (n:jb5 g M=true) (p:g.ts.length≤8) {i w:Nat}(hi:i<(readH g).length) (k:w<2 ^ g.ts.length∧∀a,a<g.ts.length→w.testBit a=war (edB (revE g.ts.length (sesL g (comL g).length++srcL g M (readH g).length))) g.ts.length ((readH g).getD i (0,0)).1.toNat a) (x:Int) :
 x∈ints (jd w) ↔ x∈Yb g 2 M i:=by
 obtain⟨b,l,_,j⟩:=jdv hi
 rw[l,Int.toNat_natCast]at k
 have c:∀a,a<g.ts.length→w.testBit a=farB g M b a:=fun a d=>by
  rw[k.2 a d]
  exact Qw (fun x y m o=>by rw[j3o m];exact jr2 n m o) _ zR b a j d
 unfold Yb Wd ints
 rw[filTo_mem,List.mem_map]
 constructor
 ·rintro⟨a,d,rfl⟩
  obtain⟨_,f⟩:=bitsUp_mem.1 d
  have e:a<g.ts.length:=by
   rcases Nat.lt_or_ge a g.ts.length with h|h
   ·exact h
   ·rw[Nat.testBit_lt_two_pow (Nat.lt_of_lt_of_le k.1 (Nat.pow_le_pow_right zD h))]at f
    cases f
  refine⟨a,e,rfl,?_⟩
  unfold jbb
  rw[if_neg zD,if_pos rfl,l,Int.toNat_natCast,← c a e]
  exact f
 ·rintro⟨a,d,rfl,h⟩
  refine⟨a,bitsUp_mem.2 ⟨zO,?_⟩,rfl⟩
  unfold jbb at h
  rw[if_neg zD,if_pos rfl,l,Int.toNat_natCast,← c a d]at h
  exact h
theorem j1i (n:jb5 g M=true) {i:Nat}(x:Int):x∈rcS g M i (readH g).length ↔ x∈Yb g 1 M i:=by
 have q:=Yi n
 unfold Yb Wd rcS
 rw[filTo_mem,List.mem_map]
 simp only[List.mem_filter,List.mem_range]
 constructor
 ·rintro⟨k,⟨f,c⟩,rfl⟩
  unfold rcQ at c
  simp only[Bool.and_eq_true,beq_iff_eq,decide_eq_true_eq]at c
  rcases jsx n f with r|⟨a,d,o,m⟩
  ·omega
  ·refine⟨a,m,d,?_⟩
   unfold jbb rcB
   rw[if_pos rfl,List.any_eq_true]
   have j:M.getD k 0=M[k]:=by simp[List.getD_eq_getElem?_getD,List.getElem?_eq_getElem (show k<M.length by omega)]
   have l:(readH g).getD k (0,0)=(readH g)[k]:=by simp[List.getD_eq_getElem?_getD,List.getElem?_eq_getElem f]
   rw[j]at d
   rw[l]at c
   refine⟨((readH g)[k],M[k]),?_,by
    show((readH g)[k].1 == _ && (decide ((readH g)[k].2<_) && M[k] == (a:Int)))=true
    rw[c.1,decide_eq_true c.2.1,d]
    simp⟩
   rw[List.mem_iff_getElem]
   exact⟨k,by simp;omega,zS⟩
 ·rintro⟨a,d,rfl,h⟩
  unfold jbb rcB at h
  rw[if_pos rfl,List.any_eq_true]at h
  obtain⟨z,p,b⟩:=h
  obtain⟨k,f,e⟩:=List.getElem_of_mem p
  simp only[List.length_zip]at f
  rw[List.getElem_zip]at e
  simp only[Bool.and_eq_true,beq_iff_eq,decide_eq_true_eq]at b
  rw[← e]at b
  simp only at b
  have j:M.getD k 0=M[k]:=by simp[List.getD_eq_getElem?_getD,List.getElem?_eq_getElem (show k<M.length by omega)]
  have l:(readH g).getD k (0,0)=(readH g)[k]:=by simp[List.getD_eq_getElem?_getD,List.getElem?_eq_getElem (show k<(readH g).length by omega)]
  refine⟨k,⟨zO,?_⟩,by rw[j];exact b.2.2⟩
  unfold rcQ
  rw[j,l,b.2.2,b.1,decide_eq_true b.2.1]
  simp
end
section
variable {g:Hist'}{M:List Int}{lvl:Int}
theorem j1c {A:List P2}(b:∀z,z∈A ↔ ∃i,i<(readH g).length∧z∈askE g M (Yb g lvl M i) i):jqf g lvl M (sesL g (comL g).length++srcL g M (readH g).length++A):=by
 intro z
 rw[List.mem_append,b]
 simp only[List.mem_append,sesL,srcL,List.mem_flatMap,List.mem_map,List.mem_range]
 constructor
 ·rintro((⟨i,a,h⟩|⟨i,a,rfl⟩)|⟨i,a,h⟩)
  ·exact .inl ⟨i,a,h⟩
  ·exact .inr ⟨i,a,.inl rfl⟩
  ·exact .inr ⟨i,a,.inr h⟩
 ·rintro(⟨i,a,h⟩|⟨i,a,h|h⟩)
  ·exact .inl (.inl ⟨i,a,h⟩)
  ·exact .inl (.inr ⟨i,a,h.symm⟩)
  ·exact .inr ⟨i,a,h⟩
theorem j5s (l:jb5 g M=true):InG g.ts.length (revE g.ts.length (sesL g (comL g).length++srcL g M (readH g).length)):=by
 intro z j
 unfold revE at j
 simp only[List.mem_map,List.mem_filter,decide_eq_true_eq]at j
 obtain⟨p,⟨n,d⟩,rfl⟩:=j
 obtain⟨a,b,rfl,t,u⟩:=jri l (jg1 g M) p n
 simp only at d ⊢
 refine⟨b,a,rfl,?_,zO⟩
 rcases Nat.lt_or_ge b g.ts.length with h|h
 ·exact h
 ·have r:b=g.ts.length:=zO
  have k:QR g 0 M a b=true:=by
   have:((a:Int),(b:Int))∈jk (g.ts.length+1) (QR g 0 M):=by rw[← We l (jg1 g M),compP_mem,(Jw _).mem_iff];exact n
   obtain⟨x,y,_,_,h,e⟩:=edgesOf_mem.1 this
   have s:(a:Int)=x:=congrArg Prod.fst e
   have o:(b:Int)=y:=congrArg Prod.snd e
   rw[show a=x by omega,show b=y by omega]
   exact h
  unfold QR at k
  have m:Xe g b=false:=by
   cases h:Xe g b
   ·rfl
   ·have:=Xj h
    omega
  rw[m,Bool.and_false,Bool.false_or,Bool.and_false,Bool.false_and,Bool.false_and,Bool.false_or]at k
  obtain⟨i,f,h⟩:=List.any_eq_true.1 k
  have f:=List.mem_range.1 f
  rw[jdj,show askE g M [] i=[] from rfl]at h
  simp only[List.contains_nil,Bool.or_false,beq_iff_eq]at h
  obtain⟨c,m,_,q⟩:=jdv f
  have o:((readH g).getD i (0,0)).1=(b:Int):=congrArg Prod.snd h
  omega
end
structure SeenF (g:Hist') (lvl:Int) (M:List Int) (mv rv:V) (kX uX ub0:Nat) (K:Nat→Prop) (ob0:ZO) (f:FuncId) (cap:List V):Prop where
 sh:E.sh true f=false
 np:(cap.all fun v=>v.strip.pureTop)=false
 ev:∀i,i<(readH g).length→∀ (ob':ZO) (ub':Nat) (tk:Nat→Bool) (base:Nat),ub0≤ub'→(∃lv,ob' kX=some ⟨uX,.cells (mkS g mv rv lv)⟩)→(∀key,K key→ob' key=ob0 key) →
  ∃v,EvO E f (.int .i64 (i:Int)::cap) ob' tk base ub' v∧∃l,(∀x,x∈l ↔ x∈Yb g lvl M i)∧l.length≤100∧j0e l v
def jqe (ub kX:Nat) (lv:V) (Z:List P2) (key:Nat):Prop:=Off ub key∧key≠kX∧jy1 lv Z key
section
variable {g:Hist'}{M:List Int}{lvl:Int}{mn rn:Bool}{rt:Option (Nat × Nat)}{kX uX lo:Nat}{ob:ZO}{ub:Nat}{lv:V}
theorem jir {Z:List P2}{ob:ZO}(f:EdV ob lo ub lv Z) (b:Off lo kX) (c:lo≤ub) {u nx:Nat}(h:ub≤u) (d:u<nx):jqe nx kX lv Z (2*u+1):=by
 refine⟨Off.new d,fun e=>b u zO e.symm,fun w a=>?_⟩
 rcases f with⟨rfl,_⟩|⟨v,rfl,_,_,i⟩
 ·cases a
 ·have:v=w:=by injection a
  omega
theorem sv90 {Yf:YF}{tk:Nat→Bool}{ro base:Nat}(X:ob kX=some ⟨uX,.cells (mkS g (slOf mn intC M) (rdV rt rn (readH g)) lv)⟩) (P:EdV ob lo ub lv (sesL g (comL g).length++srcL g M (readH g).length)) (b:Off lo kX) (k:lo≤ub) (U:ro≤lo) (l:jb5 g M=true) (T:g.ts.length≤8) (hR:(readH g).length≤100) (B:lvl=1∨lvl=2) :
 ∃r,EvS E Yf.y 90 [.ptr kX uX 0,.int .i64 lvl] ob tk ro base ub r∧ub≤r.2.2.2∧(∀c,Off ub c→r.2.1 c=ob c)∧∃f s,r.1=.fn (.func f) [] s∧SeenF g lvl M (slOf mn intC M) (rdV rt rn (readH g)) kX uX r.2.2.2 (jqe r.2.2.2 kX lv (sesL g (comL g).length++srcL g M (readH g).length)) r.2.1 f s:=by
 have a0:=QK g
 have hl:(sesL g (comL g).length++srcL g M (readH g).length).length≤10000:=by
  rw[List.length_append,jgv]
  have:=jcr g 8 (comL g).length zO
  have:(comL g).length*(8+1)≤8*9:=Nat.mul_le_mul_right 9 zO
  omega
 have o:=j5s l
 have b0:=jmu g.ts.length (sesL g (comL g).length++srcL g M (readH g).length)
 have G:=fun {i:Nat}(n:i<(readH g).length) {w:Nat}=>jo5 (w:=w) l T n
 generalize sesL g (comL g).length++srcL g M (readH g).length=Z at *
 have oX:=(b.up k).ne
 refine X2 (af:=S90) rfl zD ?_
 show wpC E Yf S90.body _ (XY S90.res _)
 rcases B with rfl|rfl
 ·simp(disch:=first|(simp;done)|omega) [S90,V.cells,V.leaf]
  refine W1 zS ⟨zL,fun c b=>?_,140,[.ptr (2*ub+1) ub 0],zS,rfl,rfl,fun i n q d tk base O e I=>?_⟩
  ·have:=b.ne
   simp(disch:=first|(simp;done)|omega) [this]
  ·have p:ub<d:=by first|omega|(simp at O;omega)
   have N:=I (2*ub+1) (jir P b k zR zL)
   exact⟨_,evo140 l (u2:=ub) (by rw[N];simp) p e (b.up zO) zO n _ _,_,fun x=>j1i l x,Nat.le_trans (jru _ _ _ _) hR,QC _⟩
 ·simp(disch:=first|(simp;done)|omega) [S90,V.cells,V.leaf,j0]
  refine jZ (vs:=[.ptr kX uX 0]) zS rfl (sv138 (g:=g) (lo:=lo) (mv:=slOf mn intC M) (rv:=rdV rt rn (readH g)) (L:=Z) ⟨lv,?_,P.frame (fun u _ h=>?_) ?_⟩ b ?_ ?_ zO) ?_
  ·simp(disch:=first|(simp;done)|omega) [oX,X]
  ·have:∀m,ub≤m→¬ u=m:=fun m l=>by omega
   simp(disch:=first|(simp;done)|omega) [jQ,this]
  ·first|omega|(simp;done)|(simp;omega)
  ·first|omega|(simp;done)|(simp;omega)
  ·first|omega|(simp;done)|(simp;omega)
  rintro v1 K b6 a ⟨Q,u3,rfl,S,z,H⟩
  simp only at S z H
  have b7:=z.h
  have b5:ub<Q:=by first|omega|(simp at S;omega)
  have J:K (2*ub+1)=some ⟨ub,.cells [.ptr kX uX 0]⟩:=by
   rw[H _ (Off.new zL)]
   simp
  simp(disch:=first|(simp;done)|omega) [V.cells,V.leaf,j0,j5]
  refine⟨zO,?_⟩
  refine W1 zS ⟨zL,fun c b=>?_,139,[.ptr (2*a+1) a 0,.ptr (2*ub+1) ub 0],zS,rfl,rfl,fun i n q d tk base O e I=>?_⟩
  ·have t:=(b.up (show ub≤a by omega)).ne
   simp(disch:=first|(simp;done)|omega) [t]
   rw[H _ (b.up zL)]
   have:=b.ne
   simp(disch:=first|(simp;done)|omega) [this]
  ·have p:a<d:=by first|omega|(simp at O;omega)
   have j:=fun(u:Nat) (t:ub≤u) (N:u≤a)=>I (2*u+1) (jir P b k t zL)
   have D:PastO kX uX (revE g.ts.length Z) Q u3 a q:=z.keep (fun u t N=>by
    rw[j u zO zO]
    have:∀m,a≤m→¬ u=m:=fun m l=>by omega
    simp(disch:=first|(simp;done)|omega) [jQ,this]) zR
   obtain⟨v,hv,w,F,hn⟩:=evo139 (M:=M) (mn:=mn) (rt:=rt) (rn:=rn) (u5:=a) (u2:=ub) (ub:=d) D zO (by rw[j a zO zO];simp) (by
    rw[j ub zO zO]
    simp(disch:=first|(simp;done)|omega) [jQ,show ¬ ub=a by omega,J]) zO zO e (b.up zO) T o zO n tk base
   refine⟨v,hv,_,fun x=>G n F x,?_,hn⟩
   rw[jno]
   have:=jhu w
   omega
end
section
variable {g:Hist'}{M:List Int}{lvl:Int}{mn rn:Bool}{rt:Option (Nat × Nat)}{kX uX lo:Nat}{ob:ZO}{ub:Nat}{lv:V}{Z:List P2}
structure AskJ (g:Hist') (mv rv:V) (kX uX lo ub:Nat) (K:Nat→Prop) (ob0:ZO) (L:List P2) (ob:ZO) (nx:Nat):Prop where
 e:∃lv',ob kX=some ⟨uX,.cells (mkS g mv rv lv')⟩∧EdV ob lo nx lv' L∧∀key,K key→ob key=ob0 key∧jy1 lv' L key
 w:∀key,Off lo key→key≠kX→ob key=ob0 key
 h:lo≤ub∧ub≤nx
 x:Off lo kX
 k:∀key,K key→Off ub key∧key≠kX
theorem AskJ.up {mv rv:V}{K:Nat→Prop}{ob0:ZO}{L:List P2}{nx nx':Nat}{ob':ZO}(h:AskJ g mv rv kX uX lo ub K ob0 L ob nx) (c:∀a,Off nx a→ob' a=ob a) (n:nx≤nx'):AskJ g mv rv kX uX lo ub K ob0 L ob' nx':=by
 obtain⟨⟨d,m,l,e⟩,w,⟨f,j⟩,x,k⟩:=h
 exact⟨⟨d,(c _ (x.up zO)).trans m,l.frame (fun u _ h=>c _ (Off.new h)) n,fun a b=>⟨(c _ ((k a b).1.up j)).trans (e a b).1,(e a b).2⟩⟩,fun a b i=>(c _ (b.up zO)).trans (w a b i),⟨f,zO⟩,x,k⟩
theorem AskJ.put {Yf:YF}{mv rv:V}{K:Nat→Prop}{ob0:ZO}{L:List P2}{nx:Nat}{tk:Nat→Bool}{ro base:Nat}(h:AskJ g mv rv kX uX lo ub K ob0 L ob nx) (f:ro≤lo) (i:ro≤uX) (B:L.length≤100000) (a b:Int) :
 ∃r,EvS E Yf.y 137 [.ptr kX uX 0,.int .i64 a,.int .i64 b] ob tk ro base nx r∧nx≤r.2.2.2∧AskJ g mv rv kX uX lo ub K ob0 (L++[(JN g a,JN g b)]) r.2.1 r.2.2.2:=by
 obtain⟨⟨z,G,p,m⟩,w,⟨D,F⟩,x,k⟩:=h
 obtain⟨r,v,I,⟨t,q,u,o,H,J,s⟩,n⟩:=jq3 (Yf:=Yf) (tk:=tk) (ro:=ro) (base:=base) G p x zO f i B a b
 refine⟨r,v,I,⟨⟨t,q,.inr ⟨u,o,H,zO,s⟩,fun c d=>⟨?_,fun w l e=>?_⟩⟩,fun c d j=>(n c (d.up zO) j (p.off d)).trans (w c d j),⟨D,zO⟩,x,k⟩⟩
 ·exact(n c ((k c d).1.up F) (k c d).2 (m c d).2).trans (m c d).1
 ·rw[o]at l
  have:u=w:=by injection l
  exact(k c d).1 w zO e
def askT (g:Hist') (M:List Int) (l:List Int) (i j:Nat):List P2:=askE g M (l.take j) i
theorem jut {l:List Int}{j:Nat}(h:j<l.length) (i:Nat):askT g M l i (j+1)=askT g M l i j++if Yj g l[j] (jed g ((readH g).getD i (0,0))) && (l[j] != M.getD i 0) then [(l[j],JN g (M.getD i 0))] else []:=by
 unfold askT askE
 rw[List.take_succ_eq_append_getElem h,List.filter_append,List.map_append]
 congr 1
 cases a:Yj g l[j] (jed g ((readH g).getD i (0,0))) && (l[j] != M.getD i 0) <;> simp only[List.filter_cons,List.filter_nil,a,if_true,Bool.false_eq_true,if_false,List.map_cons,List.map_nil]
theorem joa (l:List Int) (i j:Nat):(askT g M l i j).length≤l.length:=by
 unfold askT askE
 rw[List.length_map]
 refine Nat.le_trans (List.length_filter_le _ _) ?_
 rw[List.length_take]
 omega
def AskR (g:Hist') (lvl:Int) (M:List Int) (mv rv:V) (kX uX lo:Nat) (ob:ZO) (ub:Nat) (Z:List P2) (r:V × (ZO) × (Nat→Bool) × Nat):Prop :=
 ub≤r.2.2.2∧(∃A,(∀z,z∈A ↔ ∃i,i<(readH g).length∧z∈askE g M (Yb g lvl M i) i)∧A.length≤10000∧MkR g mv rv kX uX lo r.2.1 r.2.2.2 (Z++A))∧∀key,Off lo key→key≠kX→r.2.1 key=ob key
theorem sv89 {Yf:YF}{tk:Nat→Bool}{ro base:Nat}{f:FuncId}{cap:List V}(hs:Small g) (hm:jb5 g M=true) (hR:(readH g).length≤100) (hS:SeenF g lvl M (slOf mn intC M) (rdV rt rn (readH g)) kX uX ub (jqe ub kX lv Z) ob f cap)
 (hX:ob kX=some ⟨uX,.cells (mkS g (slOf mn intC M) (rdV rt rn (readH g)) lv)⟩) (hE:EdV ob lo ub lv Z) (G:Off lo kX) (d3:lo≤ub) (g5:ro≤lo) (h6:ro≤uX) (hZ:Z.length≤10000) :
 ∃r,EvS E Yf.y 89 [.ptr kX uX 0,.fn (.func f) [] cap] ob tk ro base ub r∧AskR g lvl M (slOf mn intC M) (rdV rt rn (readH g)) kX uX lo ob ub Z r:=by
 have g9:=Yi hm
 have c5:=jia (jd7 hm)
 refine X2 (af:=S89) rfl zD ?_
 show wpC E Yf S89.body _ (XY S89.res _)
 simp(disch:=first|(simp;done)|omega) [S89,j0,hX,mkS,histC,rdV]
 refine jj fun I o=>?_
 have g0:I.tm 0=.ptr kX uX 0:=by rw[o];simp
 have g1:I.tm 1=.fn (.func f) [] cap:=by rw[o];simp
 have e5:I.tm 13=rdV rt rn (readH g):=by rw[o];simp[rdV]
 have e8:I.tm 14=.int .i64 (readH g).length:=by rw[o];simp
 have c9:I.tm 15=.int .i64 0:=by rw[o];simp
 have gd:I.df=[]:=by rw[o];simp
 have gr:I.ro=ro:=by rw[o];simp
 have gJ:AskJ g (slOf mn intC M) (rdV rt rn (readH g)) kX uX lo ub (jqe ub kX lv Z) ob Z I.ob I.nx:=by
  have e:I.ob=ob:=by rw[o];simp
  have hn:ub≤I.nx:=by rw[o];first|omega|(simp;done)|(simp;omega)
  rw[e]
  exact⟨⟨lv,hX,hE.frame (fun _ _ _=>rfl) hn,fun c h=>⟨rfl,h.2.2⟩⟩,fun _ _ _=>rfl,⟨d3,hn⟩,G,fun c h=>⟨h.1,h.2.1⟩⟩
 clear o
 obtain⟨J,hJ⟩:∃J:Nat→St→Prop,J=fun i s=>s.tm 15=.int .i64 i∧∃A,(∀z,z∈A ↔ ∃k,k<i∧z∈askE g M (Yb g lvl M k) k)∧A.length≤i*100∧AskJ g (slOf mn intC M) (rdV rt rn (readH g)) kX uX lo ub (jqe ub kX lv Z) ob (Z++A) s.ob s.nx:=⟨_,rfl⟩
 refine j9 [(4,9),(15,75)] (readH g).length J rfl rfl (by rw[hJ];exact⟨by simpa using c9,[],fun z=>by simp,zS,by simpa using gJ⟩) ?_
 clear gJ c9
 intro i s hi d4 fr
 rw[hJ]at d4
 obtain⟨b0,A,hA,h0,sJ⟩:=d4
 have s0:s.tm 0=.ptr kX uX 0:=by rw[fr.t 0 zS,g0]
 have s1:s.tm 1=.fn (.func f) [] cap:=by rw[fr.t 1 zS,g1]
 have c4:s.tm 13=rdV rt rn (readH g):=by rw[fr.t 13 zS,e5]
 have a0:s.tm 14=.int .i64 (readH g).length:=by rw[fr.t 14 zS,e8]
 have sd:s.df=[]:=by rw[fr.d,gd]
 have sr:s.ro=ro:=by rw[fr.r,gr]
 clear fr
 by_cases F:i<(readH g).length
 ·have f3:=jh F zO
  have b5:i<M.length:=zO
  have f7:=JQ jO rt rn (readH g) .i64 F
  have c0:=fun ob=>Q8 (readH g) ob F
  have b8:=j4 jC mn M .i64 b5
  have b9:=JP M b5
  obtain⟨a,b,ha,hb,hp,d5,_⟩:=jrs c5 F
  have f6:(readH g).getD i (0,0)=((a:Int),(b:Int)):=by simp[List.getD_eq_getElem?_getD,List.getElem?_eq_getElem F,hp]
  have e4:M.getD i 0=M[i]:=by simp[List.getD_eq_getElem?_getD,List.getElem?_eq_getElem b5]
  simp only[hp]at c0
  obtain⟨N,e1,e2,e3⟩:=sJ.e
  have e7:=sJ.h
  simp(disch:=first|(simp;done)|omega) [b0,a0,c4,F,rdV,f7,c0,j0,j5]
  refine⟨by first|omega|(simp[sr];omega),?_⟩
  simp(disch:=first|(simp;done)|omega) [s1]
  refine jnk (f:=f) (first:=[]) (captured:=cap) (vs:=.int .i64 (i:Int)::cap) zS zS hS.sh (by simp only[List.all_cons,hS.np,Bool.and_false]) (hS.ev i F _ _ _ _ ?_ ⟨N,?_⟩ fun c H=>?_) fun v hv=>?_
  ·first|omega|(simp;done)|(simp;omega)
  ·have:=(G.up (show lo≤s.nx by omega)).ne
   simp(disch:=first|(simp;done)|omega) [this,e1]
  ·have:=(H.1.up e7.2).ne
   simp(disch:=first|(simp;done)|omega) [this]
   exact(e3 c H).1
  obtain⟨l,hl,f9,nl,e6⟩:=hv
  refine Xv e6 fun U f4=>?_
  simp
  refine jj fun p n=>?_
  obtain⟨z,z1,z2,p5,pZ⟩:∃z,s.nx≤z∧z<p.nx∧p.tm 5=.ptr (2*z+1) z 0∧p.ob (2*z+1)=some ⟨z,.cells [.int .i64 (a:Int),.int .i64 (b:Int)]⟩:=by
   refine⟨s.nx+256,zO,by rw[n];first|omega|(simp;done)|(simp;omega),by rw[n];simp[Nat.add_assoc],by rw[n];simp[Nat.add_assoc]⟩
  have p0:p.tm 0=.ptr kX uX 0:=by rw[n];simp[s0]
  have p1:p.tm 1=.fn (.func f) [] cap:=by rw[n];simp[s1]
  have p4:p.tm 4=.int .i64 i:=by rw[n];simp
  have h8:p.tm 13=rdV rt rn (readH g):=by rw[n];simp[c4]
  have h7:p.tm 14=.int .i64 (readH g).length:=by rw[n];simp[a0]
  have f0:p.tm 15=.int .i64 i:=by rw[n];simp[b0]
  have d6:p.tm 22=.sl U nl l.length (l.flatMap intC):=by rw[n];simp
  have d8:p.tm 23=.int .i64 l.length:=by rw[n];simp
  have c8:p.tm 24=.int .i64 0:=by rw[n];simp
  have pd:p.df=[]:=by rw[n];simp[sd]
  have pr:p.ro=ro:=by rw[n];simp[sr]
  have pw:∀c,Off s.nx c→p.ob c=s.ob c:=fun c G=>by
   have:=G.ne
   rw[n]
   simp(disch:=first|(simp;done)|omega) [this]
  clear n
  have pJ:=sJ.up (nx':=p.nx) (ob':=p.ob) pw zO
  obtain⟨K2,O⟩:∃K2:Nat→Prop,K2=fun c=>jqe ub kX lv Z c∨c=2*z+1:=⟨_,rfl⟩
  have b7:AskJ g (slOf mn intC M) (rdV rt rn (readH g)) kX uX lo p.nx K2 p.ob (Z++A) p.ob p.nx:=by
   refine⟨⟨N,(pw _ (G.up zO)).trans e1,e2.frame (fun u _ h=>pw _ (Off.new h)) zO,fun c H=>⟨rfl,?_⟩⟩,fun _ _ _=>rfl,⟨zO,zR⟩,G,fun c H=>?_⟩
   ·rw[O]at H
    rcases H with H|rfl
    ·exact(e3 c H).2
    ·intro w hw
     rcases e2 with⟨rfl,_⟩|⟨w',rfl,_,_,h4⟩
     ·cases hw
     ·have:w'=w:=by injection hw
      omega
   ·rw[O]at H
    rcases H with H|rfl
    ·exact⟨H.1.up zO,H.2.1⟩
    ·exact⟨Off.new z2,fun e=>G z zO e.symm⟩
  have d0:(g.ts.flatMap ji)[a*3+2]? = some (slOf (g.ts[a]).nl opC (g.ts[a]).ops):=by rw[jW j8 g.ts ha (by decide:2<3)];rfl
  have d9:((g.ts[a]).ops.flatMap opC)[b*4+1]? = some (.int .i64 ((g.ts[a]).ops[b]).key):=by rw[jW jF (g.ts[a]).ops hb (by decide:1<4)];rfl
  have e0:jed g ((readH g).getD i (0,0))=((g.ts[a]).ops[b]).key:=by rw[f6,← hp];exact d5
  have e9:∀t∈l,∃k:Nat,t=k∧k<g.ts.length:=fun t ht=>jrh ((hl t).1 ht)
  obtain⟨J2,P⟩:∃J2:Nat→St→Prop,J2=fun j q=>q.tm 24=.int .i64 j∧AskJ g (slOf mn intC M) (rdV rt rn (readH g)) kX uX lo p.nx K2 p.ob (Z++A++askT g M l i j) q.ob q.nx:=⟨_,rfl⟩
  refine j9 [(7,9),(24,74)] l.length J2 rfl rfl (by rw[P];exact⟨by simpa using c8,by simpa[askT,askE] using b7⟩) ?_
  clear c8 b7
  intro j q hj b6 fr
  rw[P]at b6
  obtain⟨K,qJ⟩:=b6
  have q0:q.tm 0=.ptr kX uX 0:=by rw[fr.t 0 zS,p0]
  have q4:q.tm 4=.int .i64 i:=by rw[fr.t 4 zS,p4]
  have q5:q.tm 5=.ptr (2*z+1) z 0:=by rw[fr.t 5 zS,p5]
  have f2:q.tm 15=.int .i64 i:=by rw[fr.t 15 zS,f0]
  have f5:q.tm 22=.sl U nl l.length (l.flatMap intC):=by rw[fr.t 22 zS,d6]
  have c7:q.tm 23=.int .i64 l.length:=by rw[fr.t 23 zS,d8]
  have qd:q.df=[]:=by rw[fr.d,pd]
  have qr:q.ro=ro:=by rw[fr.r,pr]
  clear fr
  obtain⟨d7,c1,c2,c3⟩:=qJ.e
  have g4:=qJ.h
  by_cases B:j<l.length
  ·have L:=jh B zO
   have c6:=JQ jC U nl l .i64 B
   have T:=JP l B
   obtain⟨t,et,h5⟩:=e9 _ (List.getElem_mem B)
   have D:=jut (g:=g) (M:=M) B i
   rw[e4,et,e0]at D
   rw[et]at T
   have el:=ev116 hs (t:Int) ((g.ts[a]).ops[b]).key
   have ez:(WK (Jk g (t:Int)).2 ((g.ts[a]).ops[b]).key).2=Yj g t ((g.ts[a]).ops[b]).key:=rfl
   rw[ez]at el
   have g7:=joa (g:=g) (M:=M) l i j
   have qZ:q.ob (2*z+1)=_:=(c3 _ (by rw[O];exact .inr rfl)).1.trans pZ
   have X:=(G.up (show lo≤q.nx by omega)).ne
   have nz:∀m,q.nx≤m→¬ z=m:=fun m hm=>by omega
   simp(disch:=first|(simp;done)|omega) [K,c7,f5,q0,q5,B,c6,T,c1,qZ,j0,mkS,histC,j4 j8,j4 jF,d0,d9]
   refine JU el (by simp[histC]) rfl (by simp[histC]) ?_
   rw[Jh (by simp[V.plain,jv])]
   generalize (WK (Jk g (t:Int)).2 ((g.ts[a]).ops[b]).key).1=rv9 at *
   generalize Yj g t ((g.ts[a]).ops[b]).key=rb at *
   simp(disch:=first|(simp;done)|omega) [jv,j5,j0]
   have bX:∀m,q.nx≤m→Nat.beq kX (2*m+1)=false:=fun m hm=>Jn (X m hm)
   refine⟨by first|omega|(simp[qr];omega),?_,?_⟩
   ·simp(disch:=first|(simp;done)|omega) [XA,jay,jaz,jb9,rdOb,rdTk,lOf,Delta.wo,Delta.wt,bX]
    exact Jn zO
   have keep:askT g M l i (j+1)=askT g M l i j→∀s':St,s'.tm 24=.int .i64 ((j:Int)+1)→q.nx≤s'.nx→(∀c,Off q.nx c→s'.ob c=q.ob c)→J2 (j+1) s':=fun e s' Q h2 h3=>by
    rw[P]
    refine⟨by simpa using Q,?_⟩
    rw[e]
    exact qJ.up h3 h2
   cases S:((t:Int) != M[i])
   ·rw[S,Bool.and_false,if_neg zD,List.append_nil]at D
    cases rb
    all_goals
     simp(disch:=first|(simp;done)|omega) [K,q0,q4,b8,b9,S,j0,c1,X,mkS,histC,L,B]
     exact keep D _ zS zL fun c G=>by simp(disch:=first|(simp;done)|omega) [G.ne]
   ·rw[S,Bool.and_true]at D
    cases rb
    ·rw[if_neg zD,List.append_nil]at D
     simp(disch:=first|(simp;done)|omega) [K,L,B]
     exact keep D _ zS zL fun c G=>by simp(disch:=first|(simp;done)|omega) [G.ne]
    ·rw[if_pos rfl]at D
     simp(disch:=first|(simp;done)|omega) [q0,q4,b8,b9,S,j0,c1,X,mkS,histC]
     refine jZ (vs:=[.ptr kX uX 0,.int .i64 (t:Int),.int .i64 M[i]]) zS rfl ((qJ.up (fun c G=>?_) ?_).put ?_ ?_ ?_ _ _) ?_
     ·simp(disch:=first|(simp;done)|omega) [G.ne]
     ·first|omega|(simp;done)|(simp;omega)
     ·first|omega|(simp[qr];omega)
     ·first|omega|(simp[qr];omega)
     ·rw[List.length_append,List.length_append]
      have:i*100≤100*100:=Nat.mul_le_mul_right 100 zO
      omega
     rintro v9 g3 g8 g2 ⟨r1,r2⟩
     simp only at r1 r2
     have f1:JN g (t:Int)=t:=by unfold JN;rw[if_neg zO]
     rw[f1,List.append_assoc,← D]at r2
     simp(disch:=first|(simp;done)|omega) [K,L,B]
     rw[P]
     exact⟨zS,r2.up (fun c _=>by simp) zL⟩
  ·have:j=l.length:=zO
   subst this
   simp(disch:=first|(simp;done)|omega) [K,c7,f2,f3,F]
   rw[hJ]
   have f8:=joa (g:=g) (M:=M) l i l.length
   have hT:∀x,x∈askT g M l i l.length ↔ x∈askE g M (Yb g lvl M i) i:=fun x=>by
    unfold askT
    rw[List.take_length]
    exact jbv hl i x
   rw[List.append_assoc]at qJ
   refine⟨zS,A++askT g M l i l.length,fun x=>?_,?_,?_⟩
   ·rw[List.mem_append,hA,hT]
    constructor
    ·rintro(⟨k,G,h⟩|h)
     ·exact⟨k,zO,h⟩
     ·exact⟨i,zO,h⟩
    ·rintro⟨k,G,h⟩
     rcases Nat.lt_or_ge k i with Q|Q
     ·exact .inl ⟨k,Q,h⟩
     ·rw[show k=i by omega]at h
      exact .inr h
   ·rw[List.length_append,Nat.succ_mul]
    omega
   ·have g6:=qJ.h
    refine AskJ.up (ob:=q.ob) (nx:=q.nx) ⟨⟨d7,c1,by rw[← List.append_assoc];exact c2,fun c H=>?_⟩,fun c Q h2=>?_,⟨d3,zO⟩,G,fun c h=>⟨h.1,h.2.1⟩⟩ (fun c _=>by simp) zL
    ·obtain⟨d1,d2⟩:=c3 c (by rw[O];exact .inl H)
     rw[← List.append_assoc]
     exact⟨d1.trans (pJ.e.choose_spec.2.2 c H).1,d2⟩
    ·exact(qJ.w c Q h2).trans (pJ.w c Q h2)
 ·have:i=(readH g).length:=zO
  subst this
  simp(disch:=first|(simp;done)|omega) [b0,a0]
  obtain⟨⟨N,e1,e2,_⟩,w,h,_,_⟩:=sJ
  exact jc3 (.inl rfl) (by simp[sd]) ⟨zL,⟨A,hA,zO,N,by simpa[rdV] using e1,e2.frame (fun _ _ _=>by simp) zL⟩,fun c Q h2=>by simpa using w c Q h2⟩
end
theorem sv93v {Yf:YF}{l u:Nat}{T:List Val'}(hT:T.length≤100000) {ob:ZO}{tk:Nat→Bool}{ro base ub:Nat}(ho:ob l=some ⟨u,.cells (T.flatMap jv)⟩) (b8:ro≤u) :
 ∃r,EvS E Yf.y 93 [.osl l u 0 T.length 2] ob tk ro base ub r∧CompP l u T.length (JB T T.length) ob tk ub r:=by
 refine X2 (af:=S93) rfl zD ?_
 show wpC E Yf S93.body _ (XY S93.res _)
 have b9:=j7 Q0 T
 by_cases h2:T.length<2
 ·have hc:JB T T.length=T:=by
   match T,h2 with
   | [],_=>rfl
   | [x],_=>rfl
   | _::_::_,h=>simp at h;omega
  have b0:(T.length:Int)<2:=zO
  rw[hc]
  simp[S93,b0]
  exact W1 zS ⟨zS,⟨_,by simpa using ho,b9,zR,List.take_of_length_le zO⟩,fun a h=>by simp,zS,by simp;omega⟩
 have b0:¬ (T.length:Int)<2:=zO
 simp[S93,b0]
 refine j9 [(2,5),(10,59)] (T.length - 1) (fun k s=>s.tm 3=.int .i64 ((1+k:Nat):Int)∧JB T (1+k)=T.take (1+k)∧s.ob=ob∧s.tk=tk∧ub≤s.nx) rfl rfl ⟨zS,?_,zS,zS,by simp;omega⟩ ?_
 ·rw[Nat.add_zero,jeu (T:=T) (j:=0) zO (fun h=>absurd h zO),List.take_succ_eq_append_getElem zO]
  rfl
 rintro k s hk ⟨P,c,b,K,c9⟩ f
 have f0:s.tm 0=.osl l u 0 T.length 2:=by rw[f.t 0 zS];simp
 have fd:s.df=[]:=by rw[f.d];simp
 have fr:s.ro=ro:=by rw[f.r];simp
 clear f
 obtain⟨q,hq⟩:∃q,1+k=q:=⟨_,rfl⟩
 rw[hq]at P c
 by_cases v:q<T.length
 ·have c7:(q:Int)<T.length:=zO
  have hw:=jh v zO
  have c3:IntKind.i64.wrap ((q:Int) - 1)=((q - 1:Nat):Int):=by rw[j4z zO zO];omega
  have i1:=idx2 (l:=l) (u:=u) (off:=0) (n:=T.length) (kk:=.i64) (X:=(q:Int)) rfl v
  have i0:=idx2 (l:=l) (u:=u) (off:=0) (n:=T.length) (kk:=.i64) (X:=((q - 1:Nat):Int)) rfl zO
  have l1:=ld2 ho v
  have l0:=ld2 ho (show q - 1<T.length by omega)
  have b5:T[q]=T[q - 1]→JB T (q+1)=JB T q:=jj5 zO v
  have d4:T[q]≠T[q - 1]→JB T (q+1)=JB T q++[T[q]]:=fun h=>jeu v fun _=>h
  have d3:T.take (q+1)=T.take q++[T[q]]:=List.take_succ_eq_append_getElem v
  have G:=jy6 T[q] (T[q - 1]' zO)
  rw[Nat.zero_add]at i1 i0
  generalize hx:T[q]=x at *
  generalize hy:T[q - 1]' zO=y at *
  generalize e4:((q - 1:Nat):Int)=Q1 at *
  cases J:(x == y)
  ·have d1:x≠y:=by simpa using J
   rw[J]at G
   simp[P,f0,c7,c3,i1,i0,b,l1,l0]
   simp[jv,← G,P,hw]
   refine⟨zO,zO,?_,b,K,zO⟩
   rw[show 1+(k+1)=q+1 by omega,d4 d1,c,d3]
  ·have he:x=y:=by simpa using J
   rw[J]at G
   simp[P,f0,c7,c3,i1,i0,b,l1,l0]
   have d0:=jfq (L:=l) (u:=u) (n:=T.length) (i:=q) zO
   simp[jv,← G,P,f0,d0]
   refine j9 [(3,3),(5,5),(29,53)] (T.length - q - 1) (fun j s=>s.tm 5=.int .i64 ((1+j:Nat):Int)∧∃w:Nat,s.tm 3=.int .i64 (w:Int)∧w=(JB T (q+1+j)).length ∧
    (∃M:List Val',s.ob l=some ⟨u,.cells (M.flatMap jv)⟩∧M.length=T.length∧M.take w=JB T (q+1+j)∧∀m,q+j≤m→M[m]? = T[m]?)∧(∀a,a≠l→s.ob a=ob a)∧s.tk=tk∧ub≤s.nx) rfl rfl
    ⟨zS,q,by simp[P],?_,⟨T,by simp[b,ho],rfl,?_,fun _ _=>rfl⟩,fun a h=>by simp[b],by simp[K],by simp;omega⟩ ?_
   ·rw[Nat.add_zero,b5 he,c,List.length_take];omega
   ·rw[Nat.add_zero,b5 he,c]
   clear c9 K b P
   rintro j s1 hj ⟨g5,w,g3,o,⟨M,gM,Z,B,F⟩,z,b6,e5⟩ f
   have g0:s1.tm 0=.osl l u 0 T.length 2:=by rw[f.t 0 zS];simp[f0]
   have g4:s1.tm 4=.osl l u (q*2) (T.length - q) 2:=by rw[f.t 4 zS];simp
   have gd:s1.df=[]:=by rw[f.d];simp[fd]
   have gr:s1.ro=ro:=by rw[f.r];simp[fr]
   clear f
   obtain⟨p,hp⟩:∃p,1+j=p:=⟨_,rfl⟩
   rw[hp]at g5
   rw[show q+1+j=q+p by omega]at o B
   have d9:=jgk T (q+p) zO
   have e0:w≤q+j:=by
    have e1:JB T (q+1)=T.take q:=by rw[b5 he,c]
    have a:∀j,q+1+j≤T.length→(JB T (q+1+j)).length≤q+j:=by
     intro j
     induction j with
     | zero=>intro _;rw[Nat.add_zero,e1,List.length_take];omega
     | succ j ih=>
      intro h
      have:=ih zO
      rw[← Nat.add_assoc]
      simp only[JB,List.length_append,List.getElem?_eq_getElem (show q+1+j<T.length by omega)]
      split <;> simp <;> omega
    have:=a j zO
    rw[show q+1+j=q+p by omega]at this
    omega
   by_cases c5:p<T.length - q
   ·have a0:q+p<T.length:=zO
    have I:(p:Int)<((T.length - q:Nat):Int):=zO
    have c6:=jh (i:=p) (N:=T.length) zO zO
    have Q:IntKind.i64.wrap ((p:Int) - 1)=((p - 1:Nat):Int):=by rw[j4z zO zO];omega
    have d2:=jh (i:=w) (N:=T.length) zO zO
    have k1:=idx2 (l:=l) (u:=u) (off:=q*2) (n:=T.length - q) (kk:=.i64) (X:=(p:Int)) rfl c5
    have k0:=idx2 (l:=l) (u:=u) (off:=q*2) (n:=T.length - q) (kk:=.i64) (X:=((p - 1:Nat):Int)) rfl zO
    have kw:=idx2 (l:=l) (u:=u) (off:=0) (n:=T.length) (kk:=.i64) (X:=(w:Int)) rfl zO
    rw[show q*2+p*2=(q+p)*2 by omega]at k1
    rw[show q*2+(p - 1)*2=(q+p - 1)*2 by omega]at k0
    rw[Nat.zero_add]at kw
    have c8:M[q+p]' zO=T[q+p]:=by
     have:=F (q+p) zO
     rw[List.getElem?_eq_getElem zO,List.getElem?_eq_getElem a0]at this
     exact Option.some.inj this
    have d8:M[q+p - 1]' zO=T[q+p - 1]' zO:=by
     have:=F (q+p - 1) zO
     rw[List.getElem?_eq_getElem zO,List.getElem?_eq_getElem zO]at this
     exact Option.some.inj this
    have m1:=ld2 gM (show q+p<M.length by omega)
    have m0:=ld2 gM (show q+p - 1<M.length by omega)
    rw[c8]at m1
    rw[d8]at m0
    have D:=j7 Q0 M
    have c0:=st2 (M:=M) (x:=w) zO T[q+p]
    have S:T[q+p]=T[q+p - 1]' zO→JB T (q+p+1)=JB T (q+p):=jj5 zO a0
    have O:T[q+p]≠T[q+p - 1]' zO→JB T (q+p+1)=JB T (q+p)++[T[q+p]]:=fun h=>jeu a0 fun _=>h
    have e:=jy6 T[q+p] (T[q+p - 1]' zO)
    have d7:w*2+2≤T.length*2:=zO
    generalize e2:T[q+p]=x2 at *
    generalize e6:T[q+p - 1]' zO=y2 at *
    generalize e3:((p - 1:Nat):Int)=Q2 at *
    generalize H:((T.length - q:Nat):Int)=Q3 at *
    cases g:(x2 == y2)
    ·have U:x2≠y2:=by simpa using g
     rw[g]at e
     simp[g5,g4,H,I,Q,k1,k0,m1,m0]
     simp[jv]at c0
     simp[jv,← e,g5,g4,g3,g0,c6,d2,k1,m1,kw,j0,gM,D,Z,d7,gr,b8,c0]
     refine⟨zO,zO,w+1,rfl,?_,⟨M.set w x2,rfl,by simp[Z],?_,fun m hm=>?_⟩,fun a h=>by simp[h,z],by simp[JD,b6],zO⟩
     ·rw[show q+1+(j+1)=q+p+1 by omega,O U,List.length_append,← o];rfl
     ·rw[show q+1+(j+1)=q+p+1 by omega,O U,← B]
      rw[List.take_set,List.take_succ_eq_append_getElem (show w<M.length by omega),List.set_append_right _ _ (by rw[List.length_take];omega),List.length_take,Nat.min_eq_left zO,Nat.sub_self]
      rfl
     ·rw[List.getElem?_set_ne zO]
      exact F m zO
    ·have c2:x2=y2:=by simpa using g
     rw[g]at e
     simp[g5,g4,H,I,Q,k1,k0,m1,m0]
     simp[jv,← e,g5,c6]
     exact⟨zO,zO,w,g3,by rw[show q+1+(j+1)=q+p+1 by omega,S c2];exact o,⟨M,gM,Z,by rw[show q+1+(j+1)=q+p+1 by omega,S c2];exact B,fun m hm=>F m zO⟩,z,b6,zO⟩
   ·have d5:q+p=T.length:=zO
    rw[d5]at o B
    have I:¬ (p:Int)<((T.length - q:Nat):Int):=zO
    generalize H:((T.length - q:Nat):Int)=Q3 at *
    have c4:w≤T.length:=zO
    have b7:=jfq (L:=l) (u:=u) c4
    have c1:=jv2 (L:=l) (u:=u) c4
    have D:=j7 Q0 M
    simp[g5,g4,H,I,g0,g3,b7]
    refine jxo (l:=l) (u:=u) (off:=w*2) (n:=T.length - w) (cs:=M.flatMap jv) zS (by simp[gM]) (by simp[gr,b8]) rfl (by rw[D];omega) ?_
    simp[g0,g3,c1]
    refine W1 (by simp[gd]) ⟨by simp[o],⟨_,by simp;rfl,?_,zO,?_⟩,fun a h=>by simp[h,z],by simp[JD,b6],by simp;omega⟩
    ·unfold j5
     have d6:(QV (T.length - w) [V.int .i64 0,V.int .i64 0]).length=(T.length - w)*2:=by simp[QV]
     simp only[List.length_append,List.length_take,List.length_drop,D,d6]
     omega
    ·rw[← o,← B]
     unfold j5
     rw[List.append_assoc,List.take_append_of_le_length (by rw[List.length_take,D];omega),List.take_take,Nat.min_self]
     exact Qy Q0 M w
 ·have:q=T.length:=zO
  subst this
  simp[P,f0]
  rw[List.take_length]at c
  rw[c]
  exact W1 (by simp[fd]) ⟨zS,⟨_,by simp[b,ho],b9,zR,List.take_of_length_le zO⟩,fun a h=>by simp[b],by simp[K],by simp;omega⟩
def toV (p:P2):Val':=⟨p.1,p.2⟩
theorem toV_inj {p q:P2}:toV p=toV q ↔ p=q:=by
 obtain⟨a,b⟩:=p
 obtain⟨c,d⟩:=q
 simp[toV]
theorem jz6 (L:List P2):L.flatMap edC=(L.map toV).flatMap jv:=by
 rw[List.flatMap_map]
 rfl
def cF:P2→List P2→List P2
 | _,[]=>[]
 | x,y::s=>if x=y then cF y s else y::cF y s
theorem jun (z:P2):∀ (r:List P2) (x:P2),cF x (r++[z])=cF x r++if (x::r).getLast? = some z then [] else [z]
 | [],x=>by
  by_cases h:x=z <;> simp[cF,h]
 | y::s,x=>by
  rw[List.cons_append,cF,cF,jun z s y,show(x::y::s).getLast? = (y::s).getLast? from by simp[List.getLast?_cons_cons]]
  by_cases h:x=y
  ·rw[if_pos h,if_pos h]
  ·rw[if_neg h,if_neg h,List.cons_append]
theorem jn6:∀ (r:List P2) (x:P2),QS (x::r)=x::cF x r
 | [],x=>rfl
 | y::s,x=>by
  have a:=jn6 s y
  rw[QS,a,cF]
theorem jj6 (x:P2) (r:List P2):∀j,j≤r.length→JB ((x::r).map toV) (j+1)=(x::cF x (r.take j)).map toV
 | 0,_=>by simp[JB,cF]
 | j+1,h=>by
  rw[JB,jj6 x r j zO,List.take_succ_eq_append_getElem zO,jun,← List.cons_append,List.map_append]
  congr 1
  have f:((x::r).map toV)[j+1]? = some (toV r[j]):=by rw[List.getElem?_map,List.getElem?_cons_succ,List.getElem?_eq_getElem zO];rfl
  have e:((x::r).map toV)[j+1 - 1]? = ((x::r.take j).getLast?).map toV:=by
   rw[Nat.add_sub_cancel,List.getElem?_map]
   congr 1
   rw[List.getLast?_eq_getElem?]
   cases j with
   | zero=>simp
   | succ j=>simp[List.length_take,Nat.min_eq_left (show j+1≤r.length by omega)]
  rw[f,e]
  by_cases b:(x::r.take j).getLast? = some r[j]
  ·rw[if_pos b,if_pos ⟨zO,by rw[b];rfl⟩]
   rfl
  ·rw[if_neg b,if_neg fun d=>b ?_]
   ·rfl
   ·obtain⟨_,a⟩:=d
    cases c:(x::r.take j).getLast? with
    | none=>rw[c]at a;cases a
    | some w=>
     rw[c]at a
     simp only[Option.map_some,Option.some.injEq]at a
     rw[toV_inj.1 a]
theorem jyr (L:List P2):JB (L.map toV) L.length=(QS L).map toV:=by
 cases L with
 | nil=>rfl
 | cons x r=>
  have:=jj6 x r r.length zR
  rw[List.take_length]at this
  rw[jn6]
  exact this
theorem sv93 {Yf:YF}{l u:Nat}{L:List P2}(j:L.length≤100000) {ob:ZO}{tk:Nat→Bool}{ro base ub:Nat}(h:ob l=some ⟨u,.cells (L.flatMap edC)⟩) (d:ro≤u) :
 ∃r,EvS E Yf.y 93 [.osl l u 0 L.length 2] ob tk ro base ub r∧r.1=.osl l u 0 (QS L).length 2∧∃cs,r.2.1 l=some ⟨u,.cells cs⟩∧(QS L).length*2≤cs.length∧cs.take ((QS L).length*2)=(QS L).flatMap edC:=by
 have a:(L.map toV).length=L.length:=List.length_map ..
 obtain⟨r,f,c,⟨cs,g,i,e,b⟩,_⟩:=sv93v (Yf:=Yf) (l:=l) (u:=u) (T:=L.map toV) (by rw[a];exact j) (ob:=ob) (tk:=tk) (ro:=ro) (base:=base) (ub:=ub) (by rw[← jz6];exact h) d
 rw[a]at f c i e b
 rw[jyr]at c e b
 rw[List.length_map]at c e b
 refine⟨r,f,c,cs,g,zO,?_⟩
 rw[b,jz6]
theorem juc:∀L:List P2,(L.flatMap edC).mapM int64? = some (Yl L)
 | []=>rfl
 | x::L=>by
  rw[List.flatMap_cons]
  show(V.int .i64 x.1::V.int .i64 x.2::L.flatMap edC).mapM int64? = _
  simp only[List.mapM_cons,juc L]
  rfl
theorem jfz:∀L:List P2,pairsI (Yl L)=L
 | []=>rfl
 | (a,b)::L=>by simp only[Yl,pairsI,jfz L]
theorem jny:∀L:List P2,(Yl L).map (V.int .i64)=L.flatMap edC
 | []=>rfl
 | (a,b)::L=>by simp only[Yl,List.map_cons,jny L,List.flatMap_cons,edC];rfl
theorem jfp:∀ {L:List P2},(∀z∈L,Y2 z.1=true∧Y2 z.2=true)→(Yl L).all Y2=true
 | [],_=>rfl
 | (a,b)::L,h=>by
  have c:=h (a,b) (List.mem_cons_self ..)
  simp only[Yl,List.all_cons,c.1,c.2,jfp fun z d=>h z (List.mem_cons_of_mem _ d),Bool.and_self]
theorem sv91 {Yf:YF}{l u:Nat}{L:List P2}(i:L.length≤100000) (d:∀z∈L,Y2 z.1=true∧Y2 z.2=true) {ob:ZO}{tk:Nat→Bool}{ro base ub:Nat}(f:ob l=some ⟨u,.cells (L.flatMap edC)⟩) (c:ro≤u) :
 ∃r,EvS E Yf.y 91 [.osl l u 0 L.length 2,.fn (.func 92) [] []] ob tk ro base ub r∧ub≤r.2.2.2∧∀a,r.2.1 a=if a=l then some ⟨u,.cells ((QP L).flatMap edC)⟩ else ob a:=by
 have e:=j7 Y0 L
 refine⟨(.tup [],upd ob l (some ⟨u,.cells ((QP L).flatMap edC)⟩),tk,ub),jh1 (m:=some 92) rfl ?_ rfl,zR,fun a=>by simp[j2]⟩
 have h:j0 ob l u=some (L.flatMap edC):=by simp[j0,f]
 have b:jmq (some 92) (Yl L)=true:=jfp d
 simp only[jou,jig,jfb,WV,h,Option.bind_some,if_true]
 rw[if_pos ⟨Nat.ble_eq▸c,trivial,zO,zO⟩,List.drop_zero,List.take_of_length_le zO,juc,Option.bind_some,if_pos b,jfz,jny]
 have:((QP L).flatMap edC).length=(L.flatMap edC).length:=by rw[j7 Y0,j7 Y0,(Jw L).length_eq]
 rw[j5,List.take_zero,List.nil_append,List.drop_of_length_le zO,List.append_nil]
theorem sv91n {Yf:YF}{ob:ZO}{tk:Nat→Bool}{ro base ub:Nat}:∃r,EvS E Yf.y 91 [.sl none true 0 [],.fn (.func 92) [] []] ob tk ro base ub r∧r.2.1=ob∧ub≤r.2.2.2 :=
 ⟨(.tup [],ob,tk,ub),jh1 (m:=some 92) rfl rfl rfl,rfl,zR⟩
theorem sv93n {Yf:YF}{ob:ZO}{tk:Nat→Bool}{ro base ub:Nat}:∃r,EvS E Yf.y 93 [.sl none true 0 []] ob tk ro base ub r∧r.1=.sl none true 0 []∧ub≤r.2.2.2:=by
 refine X2 (af:=S93) rfl zD ?_
 show wpC E Yf S93.body _ (XY S93.res _)
 simp[S93]
 exact W1 zS ⟨zS,zL⟩
theorem jkr {F:Env}{Yf:YF}{o:AOpr}{st:St}{ub:Nat}{K:St→Nat→Prop}(h:∀s u,s=st→u=ub→j6 F Yf o s u K):j6 F Yf o st ub K:=h st ub rfl rfl
def jg2 (g:Hist') (lvl:Int) (M:List Int):List P2 × Int:=if je9 g lvl M=0 then (jk (g.ts.length+1) (QR g lvl M),0) else ([],je9 g lvl M)
def SatR (r:List P2 × Int) (v:V):Prop:=∃nl,(nl=true→r.1=[])∧jy0 [.sl none nl r.1.length (r.1.flatMap edC),.int .i64 r.2] v
section
variable {g:Hist'}{M:List Int}
theorem ev42 (hs:Small g) (h8:g.ts.length≤8) {mn:Bool}(lvl:Int) (hM:M.length≤100):∃v,Ev E 42 [.int .i64 lvl,.agg (histC g),slOf mn intC M] v∧SatR (jg2 g lvl M) v:=by
 have c2:=ev52 hs
 have b5:=ev53 hs (b:=mn) M zO
 rw[is_eq]at b5
 have j:∀ {k:St}{e:Int},k.df=[]→k.tm 6=.sl none true 0 []→k.tm 7=.int .i64 e→jg2 g lvl M=([],e)→jbl [.t 6,.t 7] (SatR (jg2 g lvl M)) .ret k:=fun {k e} hd h6 h7 he=>by
  rw[he]
  exact jy8 (ns:=[6,7]) (vs:=[.sl none true 0 [],.int .i64 e]) (ls:=[.sl none true 0 [],.int .i64 e]) (fun r h=>⟨true,fun _=>rfl,h⟩) hd (by simp[h6,h7]) zS zS ⟨JF rfl,JF rfl,trivial⟩
 refine XP (af:=F42) rfl zD ?_
 simp[F42,j0,histC,slOf,V.cells,V.leaf]
 refine jR c2 (by simp[histC,slOf]) rfl (by simp[histC,slOf]) ?_
 cases G:JV g
 ·simp
  exact j (e:=4) zS zS zS (by simp[jg2,je9,G])
 by_cases D:lvl<1
 ·simp[D]
  exact j (e:=2) zS zS zS (by simp[jg2,je9,G,D])
 by_cases U:2<lvl
 ·simp[D,U]
  exact j (e:=2) zS zS zS (by simp[jg2,je9,G,D,U])
 simp[D,U,j0]
 refine jR b5 (by simp[histC,slOf]) rfl (by simp[histC,slOf]) ?_
 cases s:jb5 g M
 ·simp
  exact j (e:=2) zS zS zS (by simp[jg2,je9,G,D,U,s])
 have c9:lvl=1∨lvl=2:=zO
 have hE:jg2 g lvl M=(jk (g.ts.length+1) (QR g lvl M),0):=by simp[jg2,je9,G,D,U,s]
 rw[hE]
 obtain⟨vr,d1,b6⟩:=ev86 hs
 rw[show jbd g=readH g by simp[jbd,G]]at b6
 have e8:=Yi s
 have hR:(readH g).length≤100:=zO
 simp[j0]
 refine JU d1 (by simp[histC,slOf]) rfl (by simp[histC,slOf]) ?_
 refine Xv b6 fun rt add=>?_
 generalize c7:(readH g).isEmpty=rn
 clear c7
 simp[j5,V.cells,V.leaf]
 refine jkr fun k nx i P=>?_
 obtain⟨c,u1,I,gX⟩:∃c,c<nx∧k.tm 8=.ptr (2*c+1) c 0∧k.ob (2*c+1)=some ⟨c,.cells (mkS g (slOf mn intC M) (rdV rt rn (readH g)) (.sl none true 0 []))⟩:=by
  refine⟨1600,by rw[P];simp,by rw[i];simp,by rw[i];simp[mkS,histC,slOf,rdV]⟩
 have g0:k.tm 0=.int .i64 lvl:=by rw[i];simp
 have gd:k.df=[]:=by rw[i];simp
 have n:k.ro=0:=by rw[i];simp
 have c6:k.tm 32=.ptr (2*c+1) c 0:=by rw[← I,i];simp
 clear i P
 have b7:MkR g (slOf mn intC M) (rdV rt rn (readH g)) (2*c+1) c (c+1) k.ob nx []:=⟨_,gX,.inl ⟨rfl,rfl⟩⟩
 have K:Off (c+1) (2*c+1):=Off.new (Nat.lt_succ_self _)
 have d9:=QK g
 have d0:=jcr g 8 (comL g).length zO
 have d7:(sesL g (comL g).length).length≤72:=Nat.le_trans d0 (by have:(comL g).length*(8+1)≤8*9:=Nat.mul_le_mul_right 9 zO;omega)
 refine jZ (vs:=[.ptr (2*c+1) c 0]) (by simp[c6]) rfl (sv87 hs G h8 (lo:=c+1) b7 K zO ?_ ?_) ?_
 ·simp[n]
 ·simp[n]
 rintro v1 f1 e5 Q ⟨q1,B,a0⟩
 simp only at q1 B a0
 have f2:nx≤Q:=by first|omega|(simp at q1;omega)
 clear b7 gX
 simp[I]
 refine jZ (vs:=[.ptr (2*c+1) c 0]) zS rfl (sv88 (rt:=rt) (rn:=rn) (lo:=c+1) (B.keep (fun d8 _=>by simp) (K.up ?_) ?_) s K ?_ ?_ ?_ zO zO) ?_
 ·omega
 ·first|omega|(simp;done)|(simp;omega)
 ·first|omega|(simp;done)|(simp;omega)
 ·simp[n]
 ·simp[n]
 rintro v2 f4 f0 F ⟨q2,b8,O⟩
 simp only at q2 b8 O
 have f5:Q≤F:=by first|omega|(simp at q2;omega)
 clear B
 have d6:=jgv g M (readH g).length
 obtain⟨lv,l,m⟩:=b8
 simp[I,g0]
 refine jZ (vs:=[.ptr (2*c+1) c 0,.int .i64 lvl]) zS rfl (sv90 (rt:=rt) (rn:=rn) (mn:=mn) (lo:=c+1) (lv:=lv) ?_ (m.frame (fun u _ _=>by simp) ?_) K ?_ ?_ s h8 hR c9) ?_
 ·simpa using l
 ·first|omega|(simp;done)|(simp;omega)
 ·first|omega|(simp;done)|(simp;omega)
 ·simp[n]
 rintro v3 b0 e4 T ⟨q3,o,f,d4,rfl,hS⟩
 simp only at q3 o hS
 have e7:F≤T:=by first|omega|(simp at q3;omega)
 have x:b0 (2*c+1)=some ⟨c,.cells (mkS g (slOf mn intC M) (rdV rt rn (readH g)) lv)⟩:=by
  rw[o _ (K.up zL)]
  simpa using l
 have q:EdV b0 (c+1) F lv (sesL g (comL g).length++srcL g M (readH g).length):=m.frame (fun u _ h=>by
  rw[o _ (Off.new zL)]
  simp) zR
 clear l m
 simp
 refine jZ (vs:=[.ptr (2*c+1) c 0,.fn (.func f) [] d4]) zS rfl (sv89 (lvl:=lvl) (rt:=rt) (rn:=rn) (mn:=mn) (lo:=c+1) (lv:=lv) (Z:=sesL g (comL g).length++srcL g M (readH g).length) hs s hR hS (by simpa using x) (q.frame (fun u _ _=>by simp) zO) K zO ?_ ?_ (by rw[List.length_append];omega)) ?_
 ·simp[n]
 ·simp[n]
 rintro v4 e6 f3 c5 ⟨q4,⟨A,hA,e9,e1,d,w⟩,N⟩
 simp only at q4 d w N
 have e3:T≤c5:=by first|omega|(simp at q4;omega)
 have y:=j1c hA
 have L:=jri s y
 have b9:(sesL g (comL g).length++srcL g M (readH g).length++A).length≤100000:=by rw[List.length_append,List.length_append];omega
 have S:=We s y
 have X:=(Jw (sesL g (comL g).length++srcL g M (readH g).length++A)).length_eq
 generalize sesL g (comL g).length++srcL g M (readH g).length++A=Z at *
 have c1:∀z∈Z,Y2 z.1=true∧Y2 z.2=true:=fun z hz=>by
  obtain⟨a,b,rfl,ha,hb⟩:=L z hz
  simp only[Y2,Bool.and_eq_true,decide_eq_true_eq]
  omega
 clear x q hS o O a0 N hA
 rcases w with⟨rfl,rfl⟩|⟨u,rfl,d2,e2,e0⟩
 ·simp(disch:=first|(simp;done)|omega) [I,j0,d,mkS,histC]
  refine jZ (vs:=[.sl none true 0 [],.fn (.func 92) [] []]) zS rfl sv91n ?_
  rintro v5 p c3 d5 ⟨J,q5⟩
  simp only at J q5
  have H:p (2*c+1)=some ⟨c,.cells (mkS g (slOf mn intC M) (rdV rt rn (readH g)) (.sl none true 0 []))⟩:=by rw[J];simpa using d
  simp(disch:=first|(simp;done)|omega) [I,j0,H,mkS,histC]
  refine jZ (vs:=[.sl none true 0 []]) zS rfl sv93n ?_
  rintro v6 d3 c0 c8 ⟨rfl,q6⟩
  simp
  have he:jk (g.ts.length+1) (QR g lvl M)=[]:=S.symm
  rw[he]
  refine jy8 (ns:=[6,7]) (vs:=[.sl none true 0 [],.int .i64 0]) (ls:=[.sl none true 0 [],.int .i64 0]) (fun r h=>⟨true,fun _=>rfl,h⟩) (by simp[gd]) zS zS zS ⟨JF rfl,JF rfl,trivial⟩
 ·simp(disch:=first|(simp;done)|omega) [I,j0,d,mkS,histC]
  refine jZ (vs:=[.osl (2*u+1) u 0 Z.length 2,.fn (.func 92) [] []]) zS rfl (sv91 b9 c1 (by simpa using d2) ?_) ?_
  ·simp[n]
  rintro v5 p c3 d5 ⟨q5,J⟩
  simp only at J q5
  have H:p (2*c+1)=some ⟨c,.cells (mkS g (slOf mn intC M) (rdV rt rn (readH g)) (.osl (2*u+1) u 0 Z.length 2))⟩:=by
   rw[J,if_neg zO]
   simpa using d
  have c4:p (2*u+1)=some ⟨u,.cells ((QP Z).flatMap edC)⟩:=by rw[J,if_pos rfl]
  simp(disch:=first|(simp;done)|omega) [I,j0,H,mkS,histC]
  refine jZ (vs:=[.osl (2*u+1) u 0 (QP Z).length 2]) (by simp[X]) rfl (sv93 zO (by simpa using c4) ?_) ?_
  ·simp[n]
  rintro v6 d3 c0 c8 ⟨rfl,cs,h6,l6,t6⟩
  simp only at h6
  rw[S]at l6 t6 ⊢
  simp
  refine jy8 (ns:=[6,7]) (vs:=[.osl (2*u+1) u 0 (jk (g.ts.length+1) (QR g lvl M)).length 2,.int .i64 0]) (ls:=[.sl none false (jk (g.ts.length+1) (QR g lvl M)).length ((jk (g.ts.length+1) (QR g lvl M)).flatMap edC),.int .i64 0]) (fun r h=>⟨false,fun h=>(by cases h),h⟩) (by simp[gd]) zS zS zS ⟨QA rfl (jow (cs:=cs) (by simpa using h6) ?_ l6 t6 (j3n _)),JF rfl,trivial⟩
  simp[n]
end
def j46:List UInt8:=[98,101,103,105,110,32,115,10,114,101,97,100,32,115,32,121,32,50,10,119,114,105,116,101,32,115,32,120,32,49,10,111,107,32,115,10,98,101,103,105,110,32,116,10,114,101,97,100,32,116,32,120,32,49,10,119,114,105,116,101,32,116,32,121,32,50,10,111,107,32,116]
def H44:Hist':=⟨false,[[115],[116]],false,[[120],[121]],false,[⟨0,1,false,[⟨false,1,⟨1,2⟩⟩,⟨true,0,⟨1,1⟩⟩]⟩,⟨1,1,false,[⟨false,0,⟨1,1⟩⟩,⟨true,1,⟨1,2⟩⟩]⟩]⟩
theorem k44:(callers E 100 noY).d 57 [.str j46]=some (.tup [(.agg [(.sl (some (0,1)) false 2 [(.str [115]),(.str [116])]),(.sl (some (1,1)) false 2 [(.str [120]),(.str [121])]),(.sl (some (2,3)) false 2 [(.int .i64 0),(.int .i64 1),(.sl none false 2 [(.bool false),(.int .i64 1),(.int .i64 1),(.int .i64 2),(.bool true),(.int .i64 0),(.int .i64 1),(.int .i64 1)]),(.int .i64 1),(.int .i64 1),(.sl none false 2 [(.bool false),(.int .i64 0),(.int .i64 1),(.int .i64 1),(.bool true),(.int .i64 1),(.int .i64 1),(.int .i64 2)])])]),(.int .i64 0),(.int .i64 0)]):=by kernel_rfl
def ed44:List V:=[.int .i64 0,.int .i64 1,.int .i64 1,.int .i64 0,.int .i64 2,.int .i64 0,.int .i64 2,.int .i64 1]
theorem k97:(callers E 100 noY).d 97 [.int .i64 3,.sl none false 4 ed44]=some (.tup [.sl none true 0 [],.int .i64 3]):=by kernel_rfl
theorem k100:(callers E 100 noY).d 100 [.int .i64 3,.sl none false 4 ed44]=some (.tup [.sl (some (0,1)) false 2 [.int .i64 0,.int .i64 1],.int .i64 0]):=by kernel_rfl
def j4x (r:List Int × Int) (v:V):Prop:=∃nl,(nl=true→r.1=[])∧jy0 [.sl none nl r.1.length (r.1.flatMap intC),.int .i64 r.2] v
theorem jg4 {ub:Nat}{v:V}{r:List Int × Int}{K:Delta→Prop}(d:j4x r v) (h:∀t a add,(a=true→r.1=[])→K { v:=.tup [.sl t a r.1.length (r.1.flatMap intC),.int .i64 r.2],add:=add }):wpD (Xg ub v) K:=by
 obtain⟨a,b,c⟩:=d
 exact jo2 c fun t add=>h t a add b
theorem jhc {st:St}{a b:Nat}{r:List Int × Int}{t:Option (Nat × Nat)}{nl:Bool}(c:st.df=[]) (d:st.tm a=.sl t nl r.1.length (r.1.flatMap intC)) (e:st.tm b=.int .i64 r.2) (f:nl=true→r.1=[]):jbl [.t a,.t b] (j4x r) .ret st :=
 jy8 (ns:=[a,b]) (vs:=[.sl t nl r.1.length (r.1.flatMap intC),.int .i64 r.2]) (ls:=[.sl none nl r.1.length (r.1.flatMap intC),.int .i64 r.2]) (fun _ h=>⟨nl,f,h⟩) c (by simp[d,e]) zS zS ⟨QA rfl (WB _ t nl _ _),JF rfl,trivial⟩
section
variable {g:Hist'}{M:List Int}
theorem ev48 (p:Small g) (x:g.ts.length≤8) {mn:Bool}(lvl:Int) (s:M.length≤100) (R:List Int × Int)
 (b:je9 g lvl M=0→∀nl,(nl=true→jk (g.ts.length+1) (QR g lvl M)=[])→∃v,Ev E 100 [.int .i64 ((g.ts.length+1:Nat):Int),.sl none nl (jk (g.ts.length+1) (QR g lvl M)).length ((jk (g.ts.length+1) (QR g lvl M)).flatMap edC)] v∧j4x R v) :
 ∃v,Ev E 48 [.int .i64 lvl,.agg (histC g),slOf mn intC M] v∧j4x (if je9 g lvl M=0 then R else ([],je9 g lvl M)) v:=by
 obtain⟨m,d,f,j,o⟩:=ev42 p x (mn:=mn) lvl s
 have q:=jm (n:=((g.ts.length:Int)+1)) zO zO
 refine XP (af:=F48) rfl zD ?_
 simp[F48,j0,histC,slOf,V.cells,V.leaf]
 refine jR d (by simp[histC,slOf]) rfl (by simp[histC,slOf]) ?_
 refine jo2 o fun z i=>?_
 by_cases a:je9 g lvl M=0
 ·have h:jg2 g lvl M=(jk (g.ts.length+1) (QR g lvl M),0):=by simp[jg2,a]
  rw[h]at j ⊢
  obtain⟨v,c,u⟩:=b a f j
  rw[if_pos a]
  simp[j0,q]
  refine jR c (by simp[V.strip,V.strip1]) rfl zS ?_
  refine jg4 u fun y l k e=>?_
  simp
  exact jhc zS (by simp;rfl) zS e
 ·have h:jg2 g lvl M=([],je9 g lvl M):=by simp[jg2,a]
  rw[h,if_neg a]
  have w:(je9 g lvl M != 0)=true:=by simpa using a
  simp[w]
  exact jhc (r:=([],je9 g lvl M)) (t:=none) (nl:=true) zS zS zS (fun _=>rfl)
end
section
variable {g:Hist'}{M:List Int}
theorem ev47e (p:Small g) (y:g.ts.length≤8) {mn:Bool}(lvl:Int) (u:M.length≤100) (s:je9 g lvl M=0) {e:Int}(k:e≠0)
 (d:∀nl,(nl=true→jk (g.ts.length+1) (QR g lvl M)=[])→∃v,Ev E 97 [.int .i64 ((g.ts.length+1:Nat):Int),.sl none nl (jk (g.ts.length+1) (QR g lvl M)).length ((jk (g.ts.length+1) (QR g lvl M)).flatMap edC)] v∧j4x ([],e) v) :
 ∃v,Ev E 47 [.int .i64 lvl,.agg (histC g),slOf mn intC M] v∧j4x ([],e) v:=by
 obtain⟨l,b,c,h,m⟩:=ev42 p y (mn:=mn) lvl u
 have q:=jm (n:=((g.ts.length:Int)+1)) zO zO
 refine XP (af:=F47) rfl zD ?_
 simp[F47,j0,histC,slOf,V.cells,V.leaf]
 refine jR b (by simp[histC,slOf]) rfl (by simp[histC,slOf]) ?_
 refine jo2 m fun D f=>?_
 have z:jg2 g lvl M=(jk (g.ts.length+1) (QR g lvl M),0):=by simp[jg2,s]
 rw[z]at h ⊢
 obtain⟨v,a,w⟩:=d c h
 simp[j0,q]
 refine jR a (by simp[V.strip,V.strip1]) rfl zS ?_
 refine jg4 w fun B j i o=>?_
 have x:(e != 0)=true:=by simpa using k
 simp[x]
 exact jhc (r:=([],e)) (t:=none) (nl:=true) zS zS zS (fun _=>rfl)
end
theorem s44:Small H44:=⟨zD,zD,zD,zD,zD,zD⟩
theorem s44e:je9 H44 1 [1,0]=0:=by decide +kernel
theorem s44d:jk (H44.ts.length+1) (QR H44 1 [1,0])=[(0,1),(1,0),(2,0),(2,1)]:=by decide +kernel
theorem ev44:Ev E 44 [] (.bool true):=by
 obtain⟨u,q,j⟩:=ev48 s44 zD (mn:=false) (M:=[1,0]) 1 zD ([0,1],0) fun _ c d=>by
  rw[s44d]at d ⊢
  obtain rfl:c=false:=by cases c;rfl;cases d rfl
  exact⟨_,⟨100,k100⟩,false,fun h=>(by cases h),[.sl (some (0,1)) false 2 [.int .i64 0,.int .i64 1],.int .i64 0],rfl,rfl,zD⟩
 rw[if_pos s44e]at j
 obtain⟨v,p,n⟩:=ev47e s44 zD (mn:=false) (M:=[1,0]) 1 zD s44e (e:=3) zD fun c d=>by
  rw[s44d]at d ⊢
  obtain rfl:c=false:=by cases c;rfl;cases d rfl
  exact⟨_,⟨100,k97⟩,true,fun _=>rfl,[.sl none true 0 [],.int .i64 3],rfl,rfl,zD⟩
 have i:Ev E 57 [.str j46] _:=⟨100,k44⟩
 have s:∀c,Ev E 32 [slOf c intC [0,1],slOf false intC [0,1]] (.bool true):=fun c=>by
  have:=ev32 (a:=c) (b:=false) [0,1] [0,1] zD zD
  rwa [show(([0,1]:List Int) == [0,1])=true from rfl]at this
 refine jP (af:=F44) rfl ?_
 simp[F44]
 refine jR i rfl rfl rfl ?_
 simp[Xg,toksRes,V.toks,V.tok,jbo,jbn,Y3,Nat.blt,j0,j5]
 refine jS (cs:=[.int .i64 1,.int .i64 0]) (by simp[j5]) rfl rfl ?_
 simp
 refine jR q (by simp[slOf,intC,histC,H44,Jj,ji,opC,V.strip,V.strip1]) rfl (by simp[slOf,intC,histC]) ?_
 refine jg4 j fun t f l o=>?_
 simp[j0]
 refine jS (cs:=[.int .i64 1,.int .i64 0]) (by simp[j5]) rfl rfl ?_
 simp
 refine jR p (by simp[slOf,intC,histC,H44,Jj,ji,opC,V.strip,V.strip1]) rfl (by simp[slOf,intC,histC]) ?_
 refine jg4 n fun w m k r=>?_
 simp
 refine jS (cs:=[.int .i64 0,.int .i64 1]) (by simp[j5]) rfl rfl ?_
 simp
 refine jR (s f) (by simp[slOf,intC,V.strip,V.strip1]) rfl (by simp[slOf,intC]) ?_
 simp
 exact j3 rfl zS rfl
theorem jub (N:Nat) (p:Nat→Nat→Bool):(jk N p).length≤N*N:=by
 unfold jk
 rw[List.length_flatMap]
 have:∀l:List Nat,(l.map fun a=>(((List.range N).filter (p a)).map fun b:Nat=>((a:Int),(b:Int))).length).sum≤l.length*N:=by
  intro l
  induction l with
  | nil=>simp
  | cons x l c=>
   have d:((List.range N).filter (p x)).length≤N:=Nat.le_trans (List.length_filter_le _ _) zS
   simp only[List.map_cons,List.sum_cons,List.length_map,List.length_cons,Nat.succ_mul]
   simp only[List.length_map]at c
   omega
 simpa using this (List.range N)
def jkn (O:List Int) (x:Int):Nat→Int
 | 0=>-1
 | k+1=>if O.getD k 0=x then (k:Int) else jkn O x k
theorem ji1 {O:List Int}{x:Int}(h:x ∉ O):∀k,k≤O.length→jkn O x k = -1
 | 0,_=>rfl
 | k+1,hk=>by
  have e:O.getD k 0=O[k]:=by simp[List.getD_eq_getElem?_getD,List.getElem?_eq_getElem (show k<O.length by omega)]
  have a:¬ O[k]=x:=fun b=>h (by rw[← b];exact List.getElem_mem _)
  rw[jkn,e,if_neg a,ji1 h k zO]
theorem jry {O:List Int}(d:O.Nodup) {j:Nat}(c:j<O.length):∀k,k≤O.length→jkn O O[j] k=if j<k then (j:Int) else -1
 | 0,_=>rfl
 | k+1,hk=>by
  have a:k<O.length:=zO
  have e:O.getD k 0=O[k]:=by simp[List.getD_eq_getElem?_getD,List.getElem?_eq_getElem a]
  rw[jkn,e,jry d c k zO]
  by_cases h:k=j
  ·subst h
   rw[if_pos rfl,if_pos zO]
  ·have b:¬ O[k]=O[j]:=fun i=>h (jcv d a c i)
   rw[if_neg b]
   by_cases f:j<k
   ·rw[if_pos f,if_pos zO]
   ·rw[if_neg f,if_neg zO]
theorem ja3 {O:List Int}{x:Int}(h:x ∉ O):atO O x = -1:=by
 have a:=atO_neg.2 h
 unfold atO at a ⊢
 rcases jtz x O 0 with h2|h2
 ·exact h2
 ·omega
theorem j1k {O:List Int}(b:O.Nodup) (x:Int):jkn O x O.length=atO O x:=by
 by_cases h:x∈O
 ·obtain⟨j,a,rfl⟩:=List.getElem_of_mem h
  rw[jry b a _ zR,if_pos a,j32 b a]
 ·rw[ji1 h _ zR,ja3 h]
def ju5 (O:List Int) (L:List P2):Bool:=L.all fun z=>decide (atO O z.1<atO O z.2)
section
variable {g:Hist'}{M O:List Int}{lvl:Int}
theorem jur {t:Int}(c:t∈comL g) (b:badH g t≠[]):jel g lvl M O=false:=by
 obtain⟨i,a,rfl⟩:=List.getElem_of_mem c
 cases h:jel g lvl M O
 ·rfl
 ·unfold jel at h
  rw[Bool.and_eq_true,andTo_iff]at h
  have:=h.1 i a
  unfold sesB at this
  rw[Bool.and_eq_true]at this
  have e:(comL g).getD i 0=(comL g)[i]:=by simp[List.getD_eq_getElem?_getD,List.getElem?_eq_getElem a]
  rw[e,List.isEmpty_iff]at this
  exact absurd this.1 b
theorem jus (b:YK g O=true) {k:Nat}(h:Xe g k=true):0≤atO O (k:Int):=by
 have a:(k:Int)∈O:=(jpb b).mem_iff.2 (comL_mem.2 ⟨k,rfl,h⟩)
 rcases Int.lt_or_le (atO O (k:Int)) 0 with h1|h1
 ·exact absurd a (atO_neg.1 h1)
 ·exact h1
theorem jm9 (c:YK g O=true) {x:Int}(h:x<0∨(g.ts.length:Int)≤x):x ∉ O:=fun b=>by
 obtain⟨k,rfl,a⟩:=comL_mem.1 (ji6 c b)
 have:=Xj a
 omega
theorem ja4 (a:YK g O=true) (m:Int):atO O (JN g m)=atO O m:=by
 by_cases h:m<0
 ·unfold JN
  rw[if_pos h,ja3 (jm9 a (.inr (Int.le_refl _))),ja3 (jm9 a (.inl h))]
 ·unfold JN
  rw[if_neg h]
theorem jrj (H:jb5 g M=true) (f:YK g O=true) (s:∀t∈comL g,badH g t=[]) (I:lvl≠3):ju5 O (jk (g.ts.length+1) (QR g lvl M))=jel g lvl M O:=by
 have J:=Yi H
 have u:∀p,Wd g lvl M O p=Wd g lvl M [] p:=fun p=>jv6 I
 rw[Bool.eq_iff_iff]
 have j:=j35 g lvl M
 have c:∀z,z∈jk (g.ts.length+1) (QR g lvl M) ↔ (∃i,i<(comL g).length∧z∈jqi g i)∨∃i,i<(readH g).length∧(z=jos g M i∨z∈askE g M (Yb g lvl M i) i):=fun z=>by
  rw[← We H j,compP_mem,(Jw _).mem_iff]
  exact j z
 unfold ju5 jel
 rw[List.all_eq_true,Bool.and_eq_true,andTo_iff,andTo_iff]
 constructor
 ·intro h
  have F:∀z,z∈jk (g.ts.length+1) (QR g lvl M)→atO O z.1<atO O z.2:=fun z b=>by simpa using h z b
  refine⟨fun i a=>?_,fun i a=>?_⟩
  ·unfold sesB
   have e:(comL g).getD i 0=(comL g)[i]:=by simp[List.getD_eq_getElem?_getD,List.getElem?_eq_getElem a]
   rw[Bool.and_eq_true]
   refine⟨by rw[e,s _ (List.getElem_mem a)];rfl,?_⟩
   rw[andTo_iff]
   intro k l
   unfold je7
   cases r:sesAt g ((comL g).getD k 0).toNat == sesAt g ((comL g).getD i 0).toNat
   ·rfl
   ·rw[Bool.not_true,Bool.false_or,decide_eq_true_eq]
    refine F ((comL g).getD k 0,(comL g).getD i 0) ((c _).2 (.inl ⟨i,a,?_⟩))
    unfold jqi
    exact List.mem_cons_of_mem _ (List.mem_map.2 ⟨k,List.mem_filter.2 ⟨List.mem_range.2 l,r⟩,rfl⟩)
  ·have d:i<M.length:=zO
   unfold jit
   rw[List.getElem?_eq_getElem a,List.getElem?_eq_getElem d]
   have q:M.getD i 0=M[i]:=by simp[List.getD_eq_getElem?_getD,List.getElem?_eq_getElem d]
   have o:(readH g).getD i (0,0)=(readH g)[i]:=by simp[List.getD_eq_getElem?_getD,List.getElem?_eq_getElem a]
   simp only[Bool.and_eq_true,decide_eq_true_eq]
   refine⟨?_,?_⟩
   ·have:=F (jos g M i) ((c _).2 (.inr ⟨i,a,.inl rfl⟩))
    unfold jos at this
    rw[q,o]at this
    simp only at this
    rw[ja4 f]at this
    exact .inr this
   ·rw[List.all_eq_true]
    intro t x
    rw[u]at x
    unfold okB
    by_cases w:t=M[i]
    ·simp[w]
    ·cases D:Yj g t (jed g (readH g)[i])
     ·simp
     ·have:=F (t,JN g (M.getD i 0)) ((c _).2 (.inr ⟨i,a,.inr ?_⟩))
      ·simp only at this
       rw[q,ja4 f]at this
       simp[this]
      ·unfold askE Yb
       rw[q,o]
       refine List.mem_map.2 ⟨t,List.mem_filter.2 ⟨x,?_⟩,rfl⟩
       rw[D]
       simpa using w
 ·rintro⟨w,D⟩ z b
  rw[decide_eq_true_eq]
  rcases(c z).1 b with⟨i,a,b⟩|⟨i,a,b⟩
  ·have r:=w i a
   unfold sesB at r
   rw[Bool.and_eq_true,andTo_iff]at r
   unfold jqi at b
   rcases List.mem_cons.1 b with rfl|b
   ·obtain⟨k,l,m,_⟩:=jn7 a
    simp only
    rw[l,ja3 (jm9 f (.inr (Int.le_refl _)))]
    have:=jus f m
    omega
   ·obtain⟨k,l,rfl⟩:=List.mem_map.1 b
    obtain⟨y,B⟩:=List.mem_filter.1 l
    have:=r.2 k (List.mem_range.1 y)
    unfold je7 at this
    rw[B]at this
    simpa using this
  ·have d:i<M.length:=zO
   have v:=D i a
   unfold jit at v
   rw[List.getElem?_eq_getElem a,List.getElem?_eq_getElem d]at v
   have q:M.getD i 0=M[i]:=by simp[List.getD_eq_getElem?_getD,List.getElem?_eq_getElem d]
   have o:(readH g).getD i (0,0)=(readH g)[i]:=by simp[List.getD_eq_getElem?_getD,List.getElem?_eq_getElem a]
   simp only[Bool.and_eq_true,decide_eq_true_eq]at v
   rcases b with rfl|b
   ·unfold jos
    rw[q,o]
    simp only
    rw[ja4 f]
    rcases v.1 with h|h
    ·obtain⟨k,l,m,_⟩:=jdv a
     rw[o]at l
     rw[l,ja3 (jm9 f (.inl h))]
     have:=jus f m
     omega
    ·exact h
   ·unfold askE Yb at b
    rw[q,o]at b
    obtain⟨t,x,rfl⟩:=List.mem_map.1 b
    obtain⟨G,n⟩:=List.mem_filter.1 x
    simp only
    rw[ja4 f]
    have:=List.all_eq_true.1 v.2 t (by rw[u];exact G)
    unfold okB at this
    simp only[Bool.and_eq_true,bne_iff_ne,ne_eq]at n
    rw[n.1]at this
    simpa[n.2] using this
end
theorem jt3 {O:List Int}{L:List P2}{i:Nat}(h:i<L.length):ju5 O (L.take (i+1))=(ju5 O (L.take i) && decide (atO O L[i].1<atO O L[i].2)):=by
 unfold ju5
 rw[List.take_succ_eq_append_getElem h,List.all_append]
 simp
theorem ev14 (h:Hist') (lvl:Int) {nl ol:Bool}(M O:List Int):Ev E 14 [.int .i64 lvl,.agg (histC h),slOf nl intC M,slOf ol intC O] (.bool true):=by
 obtain⟨r,ev,hr⟩:=ev15 h
 have hs:=j5i h
 have h8:=j3a h
 generalize jc0 h=g at *
 have e3:Ql false [.int .i64 (M.length:Int),.int .i64 60]=some (.int .i64 ((min M.length 60:Nat):Int)):=jbg M.length 60
 have d5:min M.length 60≤M.length:=Nat.min_le_left _ _
 have g4:min M.length 60≤60:=Nat.min_le_right _ _
 generalize min M.length 60=k1 at *
 have f0:=jk0 jC none nl M d5
 have l1:(M.take k1).length≤60:=by rw[List.length_take];omega
 generalize M.take k1=M' at *
 have d4:Ql false [.int .i64 (O.length:Int),.int .i64 60]=some (.int .i64 ((min O.length 60:Nat):Int)):=jbg O.length 60
 have e8:min O.length 60≤O.length:=Nat.min_le_left _ _
 have g6:min O.length 60≤60:=Nat.min_le_right _ _
 generalize min O.length 60=k2 at *
 have d9:=jk0 jC none ol O e8
 have l2:(O.take k2).length≤60:=by rw[List.length_take];omega
 generalize O.take k2=O' at *
 obtain⟨vm,d6,f1⟩:=ev25 nl M' zO
 obtain⟨vo,d1,f4⟩:=ev25 ol O' zO
 obtain⟨h2,e9,u,f8,c5⟩:=ev42 hs h8 (mn:=false) (M:=M') lvl zO
 have e6:=ev23 hs (nl:=false) O' zO
 have b8:=ev39 g zO
 have g8:=QK g
 rw[show numsTo Jf g.ts g.ts.length=comL g from rfl]at b8
 refine jP (af:=F14) rfl ?_
 simp[F14,histC]
 refine jR ev44 zS rfl zS ?_
 simp[j0]
 refine JU ev (by simp[histC,slOf]) rfl (by simp[histC,slOf]) ?_
 refine j1e hr fun a1 b1 c1 f6=>?_
 simp[e3,f0,slOf]
 refine JU d6 (by simp[slOf]) rfl (by simp[slOf]) ?_
 refine Xv f1 fun a2 f7=>?_
 simp[d4,d9]
 refine JU d1 (by simp[slOf]) rfl (by simp[slOf]) ?_
 refine Xv f4 fun a3 g1=>?_
 simp[j5,j0]
 refine jR e9 (by simp[slOf,histC]) rfl (by simp[slOf,histC]) ?_
 refine jo2 c5 fun t1 add=>?_
 by_cases q:je9 g lvl M'=0
 ·have hE:jg2 g lvl M'=(jk (g.ts.length+1) (QR g lvl M'),0):=by simp[jg2,q]
  rw[hE]
  have hm:jb5 g M'=true:=by
   cases hm:jb5 g M'
   ·unfold je9 at q
    split at q
    ·cases q
    ·rw[if_pos (.inr (.inr hm))]at q
     cases q
   ·rfl
  have f3:lvl≠3:=by
   intro e
   unfold je9 at q
   split at q
   ·cases q
   ·rw[if_pos (.inr (.inl zO))]at q
    cases q
  have h1:=jub (g.ts.length+1) (QR g lvl M')
  have f5:(g.ts.length+1)*(g.ts.length+1)≤9*9:=Nat.mul_le_mul zO zO
  have p:=fun ho hb=>jrj (O:=O') hm ho hb f3
  have G:=fun ho=>ev24 hs (nl:=false) (on:=false) lvl (O:=O') hm ho
  simp[j0]
  refine jR e6 (by simp[histC,slOf]) rfl (by simp[histC,slOf]) ?_
  cases ho:YK g O'
  ·simp
   exact j3 zS zS rfl
  have p:=p ho
  have G:=G ho
  have e0:=jd3 ho
  generalize jk (g.ts.length+1) (QR g lvl M')=L at *
  simp[j0]
  refine jR b8 (by simp[slOf,histC]) rfl (by simp[slOf,histC]) ?_
  rw[jmv]
  simp
  refine jj fun n a=>?_
  obtain⟨F,gH⟩:∃o:Obj',o = { uid:=0,body:=OBody.cells [V.sl a1 g.sn g.ss.length (g.ss.flatMap Jj),V.sl b1 g.kn g.ks.length (g.ks.flatMap Jj),V.sl c1 g.tn g.ts.length (g.ts.flatMap ji)] }:=⟨_,rfl⟩
  have g0:n.tm 0=.int .i64 lvl:=by rw[a];simp
  have g2:n.tm 2=.sl a2 false M'.length (M'.flatMap intC):=by rw[a];simp
  have g3:n.tm 3=.sl a3 false O'.length (O'.flatMap intC):=by rw[a];simp
  have g5:n.tm 5=.ptr 10 0 0:=by rw[a];simp
  have g9:n.tm 9=.sl t1 u L.length (L.flatMap edC):=by rw[a];simp
  obtain⟨c8,c2⟩:∃t,n.tm 11=.sl t false (comL g).length ((comL g).flatMap intC):=⟨_,by rw[a];simp;rfl⟩
  have b7:n.tm 12=.int .i64 0:=by rw[a];simp
  have gB:n.ob 10=some F:=by rw[a,gH];simp
  have gd:n.df=[]:=by rw[a];simp
  have gr:n.ro=0:=by rw[a];simp
  clear a
  refine j9 [(8,8),(12,12),(58,77)] (comL g).length (fun i s=>s.tm 12=.int .i64 i∧s.ob 10=some F∧∀j (h:j<(comL g).length),j<i→badH g (comL g)[j]=[]) rfl rfl ⟨by simpa using b7,gB,fun j _ h=>by omega⟩ ?_
  rintro i s hi ⟨J,sB,hb⟩ f
  have S:s.tm 0=.int .i64 lvl:=by rw[f.t 0 zS,g0]
  have s2:s.tm 2=.sl a2 false M'.length (M'.flatMap intC):=by rw[f.t 2 zS,g2]
  have I:s.tm 3=.sl a3 false O'.length (O'.flatMap intC):=by rw[f.t 3 zS,g3]
  have P:s.tm 5=.ptr 10 0 0:=by rw[f.t 5 zS,g5]
  have K:s.tm 9=.sl t1 u L.length (L.flatMap edC):=by rw[f.t 9 zS,g9]
  have b0:s.tm 11=.sl c8 false (comL g).length ((comL g).flatMap intC):=by rw[f.t 11 zS,c2]
  have Q:s.df=[]:=by rw[f.d,gd]
  have sr:s.ro=0:=by rw[f.r,gr]
  clear f g0 g2 g3 g5 g9 c2 b7 gB gd gr
  by_cases c:i<(comL g).length
  ·have Z:=jh c zO
   have b5:=JQ jC c8 false (comL g) .i64 c
   have d2:=JP (comL g) c
   obtain⟨h0,e7,d3⟩:=ev40 hs (comL g)[i]
   have f2:=fun d8=>jur (g:=g) (M:=M') (O:=O') (lvl:=lvl) (List.getElem_mem c) d8
   generalize hx:(comL g)[i]=x at *
   simp(disch:=first|(simp;done)|omega) [J,b0,P,c,j0,sB,gH,b5,d2]
   refine JU e7 (by simp[histC,slOf]) rfl (by simp[histC,slOf]) ?_
   refine Xv d3 fun a6 f9=>?_
   cases D:badH g x with
   | nil=>
    simp(disch:=first|(simp;done)|omega) [J,Z,c]
    refine⟨by rw[← gH];exact sB,fun j hj g7=>?_⟩
    by_cases q:j=i
    ·subst q
     rw[hx]
     exact D
    ·exact hb j hj zO
   | cons b l=>
    rw[f2 (by rw[D];simp)]at G
    simp(disch:=first|(simp;done)|omega) [S,s2,I,P,j0,sB,gH]
    refine jR G (by simp[histC,slOf]) rfl (by simp[histC,slOf]) ?_
    simp
    exact j3 (by simp[Q]) zS rfl
  have e1:i=(comL g).length:=zO
  subst e1
  have D:∀t∈comL g,badH g t=[]:=fun t ht=>by
   obtain⟨j,hj,rfl⟩:=List.getElem_of_mem ht
   exact hb j hj hj
  have p:=p D
  clear hb
  simp(disch:=first|(simp;done)|omega) [J,b0]
  refine jj fun st2 a=>?_
  have g0:st2.tm 0=.int .i64 lvl:=by rw[a];simp[S]
  have g2:st2.tm 2=.sl a2 false M'.length (M'.flatMap intC):=by rw[a];simp[s2]
  have g3:st2.tm 3=.sl a3 false O'.length (O'.flatMap intC):=by rw[a];simp[I]
  have g5:st2.tm 5=.ptr 10 0 0:=by rw[a];simp[P]
  have g9:st2.tm 9=.sl t1 u L.length (L.flatMap edC):=by rw[a];simp[K]
  have c4:st2.tm 13=.bool true:=by rw[a];simp
  have c9:st2.tm 14=.int .i64 0:=by rw[a];simp
  have gB:st2.ob 10=some F:=by rw[a];simpa using sB
  have gd:st2.df=[]:=by rw[a];simp[Q]
  clear a S s2 I P K b0 J sB Q sr
  refine j9 [(13,17),(78,117)] L.length (fun i s=>s.tm 14=.int .i64 i∧s.tm 13=.bool (ju5 O' (L.take i))∧s.ob 10=some F) rfl rfl ⟨by simpa using c9,by simpa[ju5] using c4,gB⟩ ?_
  rintro i s hi ⟨w,v,sB⟩ f
  have S:s.tm 0=.int .i64 lvl:=by rw[f.t 0 zS,g0]
  have s2:s.tm 2=.sl a2 false M'.length (M'.flatMap intC):=by rw[f.t 2 zS,g2]
  have I:s.tm 3=.sl a3 false O'.length (O'.flatMap intC):=by rw[f.t 3 zS,g3]
  have P:s.tm 5=.ptr 10 0 0:=by rw[f.t 5 zS,g5]
  have K:s.tm 9=.sl t1 u L.length (L.flatMap edC):=by rw[f.t 9 zS,g9]
  have Q:s.df=[]:=by rw[f.d,gd]
  clear f g0 g2 g3 g5 g9 c4 c9 gB gd
  by_cases c:i<L.length
  ·have Z:=jh c zO
   have b5:=JQ Y0 t1 u L .i64 c
   have U:(L.flatMap edC)[i*2]? = some (.int .i64 L[i].1):=by
    have:=jW Y0 L c (by decide:0<2)
    rw[Nat.add_zero]at this
    rw[this]
    rfl
   have X:(L.flatMap edC)[i*2+1]? = some (.int .i64 L[i].2):=by rw[jW Y0 L c (by decide:1<2)];rfl
   have N:=jt3 (O:=O') c
   generalize L[i]=z at U X N
   obtain⟨A,B⟩:=z
   simp only at U X N
   simp(disch:=first|(simp;done)|omega) [w,K,c]
   refine jj fun m a=>?_
   have q0:m.tm 0=.int .i64 lvl:=by rw[a];simp[S]
   have q2:m.tm 2=.sl a2 false M'.length (M'.flatMap intC):=by rw[a];simp[s2]
   have q3:m.tm 3=.sl a3 false O'.length (O'.flatMap intC):=by rw[a];simp[I]
   have q5:m.tm 5=.ptr 10 0 0:=by rw[a];simp[P]
   have q9:m.tm 9=.sl t1 u L.length (L.flatMap edC):=by rw[a];simp[K]
   have c3:m.tm 13=.bool (ju5 O' (L.take i)):=by rw[a];simp[v]
   have d0:m.tm 14=.int .i64 i:=by rw[a];simp[w]
   have c0:m.tm 15=.int .i64 (-1):=by rw[a];simp
   have b6:m.tm 16=.int .i64 (-1):=by rw[a];simp
   have c7:m.tm 17=.int .i64 0:=by rw[a];simp
   have qB:m.ob 10=some F:=by rw[a];simpa using sB
   have qd:m.df=[]:=by rw[a];simp[Q]
   clear a S s2 I P K v w sB Q
   refine j9 [(15,17),(84,111)] O'.length (fun k s=>s.tm 17=.int .i64 k∧s.tm 15=.int .i64 (jkn O' A k)∧s.tm 16=.int .i64 (jkn O' B k)∧s.ob 10=some F) rfl rfl ⟨by simpa using c7,by simpa[jkn] using c0,by simpa[jkn] using b6,qB⟩ ?_
   rintro k s hk ⟨c6,a0,T,sB⟩ f
   have S:s.tm 0=.int .i64 lvl:=by rw[f.t 0 zS,q0]
   have I:s.tm 3=.sl a3 false O'.length (O'.flatMap intC):=by rw[f.t 3 zS,q3]
   have K:s.tm 9=.sl t1 u L.length (L.flatMap edC):=by rw[f.t 9 zS,q9]
   have v:s.tm 13=.bool (ju5 O' (L.take i)):=by rw[f.t 13 zS,c3]
   have w:s.tm 14=.int .i64 i:=by rw[f.t 14 zS,d0]
   have Q:s.df=[]:=by rw[f.d,qd]
   clear f q0 q2 q3 q5 q9 c3 d0 c0 b6 c7 qB qd
   by_cases H:k<O'.length
   ·have b9:=jh H zO
    have e5:=JQ jC a3 false O' .i64 H
    have e4:=JP O' H
    have hd:O'.getD k 0=O'[k]:=by simp[List.getD_eq_getElem?_getD,List.getElem?_eq_getElem H]
    have pA:jkn O' A (k+1)=if O'[k]=A then (k:Int) else jkn O' A k:=by rw[jkn,hd]
    have pB:jkn O' B (k+1)=if O'[k]=B then (k:Int) else jkn O' B k:=by rw[jkn,hd]
    generalize O'[k]=y at *
    cases cA:(y == A)
    all_goals
     cases cB:(y == B)
     all_goals
      simp(disch:=first|(simp;done)|omega) [c6,a0,T,w,K,I,H,e5,e4,b5,U,X,cA,cB,b9]
      simp only[beq_iff_eq,beq_eq_false_iff_ne,ne_eq]at cA cB
      refine⟨?_,?_,sB⟩
      ·rw[pA];simp[cA]
      ·rw[pB];simp[cB]
   ·have e2:k=O'.length:=zO
    subst e2
    rw[j1k e0]at a0 T
    cases hh:ju5 O' (L.take i)
    all_goals
     rw[hh]at v N
     simp(disch:=first|(simp;done)|omega) [c6,a0,T,w,v,I,Z,c]
     refine⟨?_,sB⟩
     rw[N]
     simp
  have e2:i=L.length:=zO
  subst e2
  rw[List.take_length,p]at v
  simp(disch:=first|(simp;done)|omega) [w,v,K,S,s2,I,P,j0,sB,gH]
  refine jR G (by simp[histC,slOf]) rfl (by simp[histC,slOf]) ?_
  simp
  exact j3 (by simp[Q]) zS rfl
 ·have hE:jg2 g lvl M'=([],je9 g lvl M'):=by simp[jg2,q]
  rw[hE]
  have hb:(je9 g lvl M' != 0)=true:=by simpa using q
  have d7:(je9 g lvl M' == 0)=false:=by simpa using q
  simp[hb,d7]
  exact j3 zS zS rfl
end Go.Pv.T
namespace Go.Pv.T
open Go Go.Pv Go.Proofs Go.Shelf
def renS:Ren where
 f:=fun x=>match x with
  | 189=>69
  | 125=>118
  | 257=>117
  | 128=>187
  | 129=>188
  | 294=>178
  | 295=>179
  | 296=>180
  | 297=>181
  | 298=>182
  | 299=>183
  | 216=>184
  | 300=>185
  | 301=>186
  | 328=>238
  | 329=>239
  | 330=>240
  | 331=>241
  | 332=>242
  | 215=>243
  | 343=>275
  | n=>n
 t:=fun x=>match x with
  | 28=>26
  | 3=>3
  | 46=>160
  | 0=>0
  | 51=>236
  | 53=>165
  | 4=>4
  | 183=>230
  | 182=>229
  | 131=>157
  | 5=>5
  | 9=>9
  | 218=>275
  | 222=>279
  | 228=>307
  | 229=>304
  | n=>n
 g:=fun x=>x
theorem laysS:Lays.n189 Tryz.prog renS where
 mixed:=by kernel_rfl
 f125:=Tryz.func118.trans (congrArg some (by kernel_rfl))
 f128:=Tryz.func187.trans (congrArg some (by kernel_rfl))
 f129:=Tryz.func188.trans (congrArg some (by kernel_rfl))
 f189:=Tryz.func69.trans (congrArg some (by kernel_rfl))
 f215:=Tryz.func243.trans (congrArg some (by kernel_rfl))
 f216:=Tryz.func184.trans (congrArg some (by kernel_rfl))
 f257:=Tryz.func117.trans (congrArg some (by kernel_rfl))
 f294:=Tryz.func178.trans (congrArg some (by kernel_rfl))
 f295:=Tryz.func179.trans (congrArg some (by kernel_rfl))
 f296:=Tryz.func180.trans (congrArg some (by kernel_rfl))
 f297:=Tryz.func181.trans (congrArg some (by kernel_rfl))
 f298:=Tryz.func182.trans (congrArg some (by kernel_rfl))
 f299:=Tryz.func183.trans (congrArg some (by kernel_rfl))
 f300:=Tryz.func185.trans (congrArg some (by kernel_rfl))
 f301:=Tryz.func186.trans (congrArg some (by kernel_rfl))
 f328:=Tryz.func238.trans (congrArg some (by kernel_rfl))
 f329:=Tryz.func239.trans (congrArg some (by kernel_rfl))
 f330:=Tryz.func240.trans (congrArg some (by kernel_rfl))
 f331:=Tryz.func241.trans (congrArg some (by kernel_rfl))
 f332:=Tryz.func242.trans (congrArg some (by kernel_rfl))
 f343:=Tryz.func275.trans (congrArg some (by kernel_rfl))
 t0:=Tryz.underlying0
 a0:=Tryz.isAgg0
 z0:=Tryz.sizeOf0
 v0:=Tryz.zeroValue0
 t3:=Tryz.underlying3
 a3:=Tryz.isAgg3
 z3:=Tryz.sizeOf3
 v3:=Tryz.zeroValue3
 t4:=Tryz.underlying4
 a4:=Tryz.isAgg4
 z4:=Tryz.sizeOf4
 v4:=Tryz.zeroValue4
 t5:=Tryz.underlying5
 a5:=Tryz.isAgg5
 z5:=Tryz.sizeOf5
 v5:=Tryz.zeroValue5
 t9:=Tryz.underlying9
 a9:=Tryz.isAgg9
 z9:=Tryz.sizeOf9
 v9:=Tryz.zeroValue9
 t28:=Tryz.underlying26
 a28:=Tryz.isAgg26
 z28:=Tryz.sizeOf26
 v28:=Tryz.zeroValue26
 t46:=Tryz.underlying160
 a46:=Tryz.isAgg160
 z46:=Tryz.sizeOf160
 v46:=Tryz.zeroValue160
 t51:=Tryz.underlying236
 a51:=Tryz.isAgg236
 z51:=Tryz.sizeOf236
 v51:=Tryz.zeroValue236
 t53:=Tryz.underlying165
 a53:=Tryz.isAgg165
 z53:=Tryz.sizeOf165
 v53:=Tryz.zeroValue165
 t131:=Tryz.underlying157
 a131:=Tryz.isAgg157
 z131:=Tryz.sizeOf157
 v131:=Tryz.zeroValue157
 t182:=Tryz.underlying229
 a182:=Tryz.isAgg229
 z182:=Tryz.sizeOf229
 v182:=Tryz.zeroValue229
 t183:=Tryz.underlying230
 a183:=Tryz.isAgg230
 z183:=Tryz.sizeOf230
 v183:=Tryz.zeroValue230
 t218:=Tryz.underlying275
 a218:=Tryz.isAgg275
 z218:=Tryz.sizeOf275
 v218:=Tryz.zeroValue275
 t222:=Tryz.underlying279
 a222:=Tryz.isAgg279
 z222:=Tryz.sizeOf279
 v222:=Tryz.zeroValue279
 t228:=Tryz.underlying307
 a228:=Tryz.isAgg307
 z228:=Tryz.sizeOf307
 v228:=Tryz.zeroValue307
 t229:=Tryz.underlying304
 a229:=Tryz.isAgg304
 z229:=Tryz.sizeOf304
 v229:=Tryz.zeroValue304
theorem jq9:jhz Tryz.prog 69 none:=by
 refine⟨⟨Tryz.f69,_,Tryz.func69,rfl,by kernel_rfl⟩,fun p cap w=>?_,fun blk off cap n zs w hlen _ h1 h2 h3=>?_⟩
 ·exact Any.slices_Sort_int_none laysS p cap w
 ·obtain rfl:zs.length=n:=by simpa[jfb] using hlen
  have:=Any.slices_Sort_int laysS blk off cap zs w h1 h2 h3
  rwa [jky]at this
end Go.Pv.T
namespace Go.Pv.T
open Go Go.Pv Go.Proofs Go.Shelf Go.Sort Go.Lib
def renF:Ren where
 f:=fun x=>match x with
  | 6=>91
  | 14=>141
  | 15=>118
  | 20=>195
  | 21=>196
  | 22=>197
  | 23=>198
  | 24=>199
  | 25=>200
  | 26=>201
  | 27=>202
  | 28=>187
  | 29=>188
  | 46=>245
  | 47=>239
  | 48=>240
  | 49=>246
  | 50=>247
  | 57=>277
  | n=>n
 t:=fun x=>match x with
  | 0=>0
  | 3=>3
  | 4=>4
  | 5=>5
  | 9=>9
  | 22=>58
  | 25=>130
  | 39=>160
  | 45=>229
  | 46=>230
  | 50=>157
  | 53=>236
  | 55=>165
  | 66=>275
  | 70=>279
  | 76=>307
  | 77=>304
  | 24=>70
  | n=>n
 g:=fun x=>x
theorem laysF:SlLaysF0.n6 Tryz.prog renF where
 mixed:=by kernel_rfl
 f6:=⟨Tryz.f91.name,by kernel_rfl,Tryz.func91.trans (congrArg some (by kernel_rfl))⟩
 f14:=⟨Tryz.f141.name,by kernel_rfl,Tryz.func141.trans (congrArg some (by kernel_rfl))⟩
 f15:=Tryz.func118.trans (congrArg some (by kernel_rfl))
 f20:=⟨Tryz.f195.name,by kernel_rfl,Tryz.func195.trans (congrArg some (by kernel_rfl))⟩
 f21:=⟨Tryz.f196.name,by kernel_rfl,Tryz.func196.trans (congrArg some (by kernel_rfl))⟩
 f22:=⟨Tryz.f197.name,by kernel_rfl,Tryz.func197.trans (congrArg some (by kernel_rfl))⟩
 f23:=⟨Tryz.f198.name,by kernel_rfl,Tryz.func198.trans (congrArg some (by kernel_rfl))⟩
 f24:=⟨Tryz.f199.name,by kernel_rfl,Tryz.func199.trans (congrArg some (by kernel_rfl))⟩
 f25:=⟨Tryz.f200.name,by kernel_rfl,Tryz.func200.trans (congrArg some (by kernel_rfl))⟩
 f26:=⟨Tryz.f201.name,by kernel_rfl,Tryz.func201.trans (congrArg some (by kernel_rfl))⟩
 f27:=⟨Tryz.f202.name,by kernel_rfl,Tryz.func202.trans (congrArg some (by kernel_rfl))⟩
 f28:=Tryz.func187.trans (congrArg some (by kernel_rfl))
 f29:=Tryz.func188.trans (congrArg some (by kernel_rfl))
 f46:=⟨Tryz.f245.name,by kernel_rfl,Tryz.func245.trans (congrArg some (by kernel_rfl))⟩
 f47:=Tryz.func239.trans (congrArg some (by kernel_rfl))
 f48:=Tryz.func240.trans (congrArg some (by kernel_rfl))
 f49:=⟨Tryz.f246.name,by kernel_rfl,Tryz.func246.trans (congrArg some (by kernel_rfl))⟩
 f50:=⟨Tryz.f247.name,by kernel_rfl,Tryz.func247.trans (congrArg some (by kernel_rfl))⟩
 f57:=⟨Tryz.f277.name,by kernel_rfl,Tryz.func277.trans (congrArg some (by kernel_rfl))⟩
 t0:=Tryz.underlying0
 a0:=Tryz.isAgg0
 z0:=Tryz.sizeOf0
 v0:=Tryz.zeroValue0
 t3:=Tryz.underlying3
 a3:=Tryz.isAgg3
 z3:=Tryz.sizeOf3
 v3:=Tryz.zeroValue3
 t4:=Tryz.underlying4
 a4:=Tryz.isAgg4
 z4:=Tryz.sizeOf4
 v4:=Tryz.zeroValue4
 t5:=Tryz.underlying5
 a5:=Tryz.isAgg5
 z5:=Tryz.sizeOf5
 v5:=Tryz.zeroValue5
 t9:=Tryz.underlying9
 a9:=Tryz.isAgg9
 z9:=Tryz.sizeOf9
 v9:=Tryz.zeroValue9
 t22:=Tryz.underlying58
 a22:=Tryz.isAgg58
 z22:=Tryz.sizeOf58
 v22:=Tryz.zeroValue58
 t25:=Tryz.underlying130
 a25:=Tryz.isAgg130
 z25:=Tryz.sizeOf130
 v25:=Tryz.zeroValue130
 t39:=Tryz.underlying160
 a39:=Tryz.isAgg160
 z39:=Tryz.sizeOf160
 v39:=Tryz.zeroValue160
 t45:=Tryz.underlying229
 a45:=Tryz.isAgg229
 z45:=Tryz.sizeOf229
 v45:=Tryz.zeroValue229
 t46:=Tryz.underlying230
 a46:=Tryz.isAgg230
 z46:=Tryz.sizeOf230
 v46:=Tryz.zeroValue230
 t50:=Tryz.underlying157
 a50:=Tryz.isAgg157
 z50:=Tryz.sizeOf157
 v50:=Tryz.zeroValue157
 t53:=Tryz.underlying236
 a53:=Tryz.isAgg236
 z53:=Tryz.sizeOf236
 v53:=Tryz.zeroValue236
 t55:=Tryz.underlying165
 a55:=Tryz.isAgg165
 z55:=Tryz.sizeOf165
 v55:=Tryz.zeroValue165
 t66:=Tryz.underlying275
 a66:=Tryz.isAgg275
 z66:=Tryz.sizeOf275
 v66:=Tryz.zeroValue275
 t70:=Tryz.underlying279
 a70:=Tryz.isAgg279
 z70:=Tryz.sizeOf279
 v70:=Tryz.zeroValue279
 t76:=Tryz.underlying307
 a76:=Tryz.isAgg307
 z76:=Tryz.sizeOf307
 v76:=Tryz.zeroValue307
 t77:=Tryz.underlying304
 a77:=Tryz.isAgg304
 z77:=Tryz.sizeOf304
 v77:=Tryz.zeroValue304
abbrev SP:Type:={ p:P2 // Y2 p.1=true∧Y2 p.2=true }
instance:Inhabited SP:=⟨⟨(0,0),zD⟩⟩
def j4u (x:SP):List Value:=[.int .i64 x.1.1,.int .i64 x.1.2]
def cfP (x y:SP):Int:=if x.1.1=y.1.1 then x.1.2 - y.1.2 else x.1.1 - y.1.1
theorem jcq {z:Int}(h:Y2 z=true):-1000000000000≤z∧z≤1000000000000:=by simpa[Y2] using h
theorem j3v (x y:SP) (W:World):Calls Tryz.prog 92 #[.agg #[.int .i64 x.1.1,.int .i64 x.1.2],.agg #[.int .i64 y.1.1,.int .i64 y.1.2]] W fun e w'=>e=.returned (.int .i64 (cfP x y))∧∃q os',w'=grow (W.drewN q) os':=by
 obtain⟨⟨a,b⟩,h1,h2⟩:=x
 obtain⟨⟨c,d⟩,h3,h4⟩:=y
 have:=jcq h1
 have:=jcq h2
 have:=jcq h3
 have:=jcq h4
 have w1:IntKind.i64.wrap (a - c)=a - c:=jm zO zO
 have w2:IntKind.i64.wrap (b - d)=b - d:=jm zO zO
 unfold cfP
 simp only
 by_cases h:a=c
 ·rw[if_pos h]
  have hb:(a != c)=false:=by simpa using h
  go_enter Tryz.func92,Tryz.ntmps92
  go_wp2
  go_ret
  exact⟨rfl,0,_,by rw[alloc_eq_grow,alloc_eq_grow,grow_grow];rfl⟩
 ·rw[if_neg h]
  have hb:(a != c)=true:=by simpa using h
  go_enter Tryz.func92,Tryz.ntmps92
  go_wp2
  go_ret
  exact⟨rfl,0,_,by rw[alloc_eq_grow,alloc_eq_grow,grow_grow];rfl⟩
theorem jne (x y:SP):ltOf cfP x y=true ↔ pLt x.1 y.1:=by
 unfold ltOf cfP pLt
 rw[decide_eq_true_eq]
 split <;> omega
theorem jan (x y:SP):ltOf cfP x y=false ↔ ¬ pLt x.1 y.1:=by rw[← jne];simp
theorem swoP:SWO (ltOf cfP) where
 irrefl x:=(jan x x).2 (XH _)
 trans x y z h1 h2:=(jne x z).2 (Xn ((jne x y).1 h1) ((jne y z).1 h2))
 ntrans x y z h1 h2:=by
  rw[jan]at *
  intro h
  rcases Wi x.1 y.1 with h3|h3|h3
  ·exact h1 h3
  ·rw[h3]at h
   exact h2 h
  ·exact h2 (Xn h3 h)
theorem totP (x y:SP) (h1:ltOf cfP x y=false) (h2:ltOf cfP y x=false):x=y:=by
 rw[jan]at h1 h2
 rcases Wi x.1 y.1 with h|h|h
 ·exact absurd h h1
 ·exact Subtype.ext h
 ·exact absurd h h2
theorem jlb {x y:P2}(h:Wh x y=true) (h':Wh y x=true):x=y:=by
 rw[pairLe_iff]at h h'
 rcases h with h|h
 ·rcases h' with h'|h'
  ·exact absurd (Xn h h') (XH _)
  ·exact h'.symm
 ·exact h
theorem jih:∀ {l m:List P2},l.Perm m→l.Pairwise (fun a b=>Wh a b=true)→m.Pairwise (fun a b=>Wh a b=true)→l=m
 | [],m,h,_,_=>(List.nil_perm.1 h).symm
 | x::r,m,h,hs,hm=>by
  cases m with
  | nil=>exact absurd h.length_eq zS
  | cons y q=>
   rw[List.pairwise_cons]at hs hm
   have hx:x∈y::q:=h.mem_iff.1 zS
   have hy:y∈x::r:=h.mem_iff.2 zS
   have e:x=y:=by
    rcases List.mem_cons.1 hx with h1|h1
    ·exact h1
    ·rcases List.mem_cons.1 hy with h2|h2
     ·exact h2.symm
     ·exact jlb (hs.1 y h2) (hm.1 x h1)
   subst e
   rw[jih ((List.perm_cons x).1 h) hs.2 hm.2]
theorem jpp (l:List SP):(l.mergeSort fun x y=>!(ltOf cfP) y x).map (·.1)=QP (l.map (·.1)):=by
 refine jih (((List.mergeSort_perm l _).map _).trans (Jw _).symm) ?_ (jgw _)
 rw[List.pairwise_map]
 refine(List.pairwise_mergeSort (fun a b c h1 h2=>?_) (fun a b=>?_) l).imp fun {a b} h=>?_
 ·simp only[Bool.not_eq_true']at *
  exact swoP.ntrans c b a h2 h1
 ·simp only[Bool.or_eq_true,Bool.not_eq_true',jan]
  rcases Wi a.1 b.1 with h|h|h
  ·exact .inl fun h'=>XH _ (Xn h h')
  ·rw[h];exact .inl (XH _)
  ·exact .inr fun h'=>XH _ (Xn h h')
 ·simp only[Bool.not_eq_true',jan]at h
  rw[pairLe_iff]
  rcases Wi a.1 b.1 with h1|h1|h1
  ·exact .inl h1
  ·exact .inr h1
  ·exact absurd h1 h
theorem jgg:∀ {n:Nat}{zs:List Int},zs.length=n*2→Yl (pairsI zs)=zs∧(pairsI zs).length=n
 | 0,zs,h=>by
  have:zs=[]:=List.length_eq_zero_iff.1 zO
  subst this
  exact⟨rfl,rfl⟩
 | n+1,[],h=>by simp at h
 | n+1,[_],h=>by simp at h;omega
 | n+1,a::b::r,h=>by
  obtain⟨h1,h2⟩:=jgg (n:=n) (zs:=r) (by simp at h;omega)
  exact⟨by simp only[pairsI,Yl,h1],by simp only[pairsI,List.length_cons,h2]⟩
theorem jdf:∀ {zs:List Int},zs.all Y2=true→∀z∈pairsI zs,Y2 z.1=true∧Y2 z.2=true
 | [],_,z,hz=>by simp[pairsI]at hz
 | [_],_,z,hz=>by simp[pairsI]at hz
 | a::b::r,h,z,hz=>by
  simp only[List.all_cons,Bool.and_eq_true]at h
  rcases List.mem_cons.1 hz with rfl|hz
  ·exact⟨h.1,h.2.1⟩
  ·exact jdf h.2.2 z hz
theorem jt6:∀L:List P2,(Yl L).length=L.length*2
 | []=>rfl
 | _::L=>by simp only[Yl,List.length_cons,jt6 L];omega
theorem jzz:∀ (L:List SP) (t:Nat),t<L.length*2→(j4u L[t / 2]!)[t % 2]! = .int .i64 (Yl (L.map (·.1)))[t]!
 | [],t,h=>by simp at h
 | x::L,0,_=>rfl
 | x::L,1,_=>rfl
 | x::L,t+2,h=>by
  have ih:=jzz L t (by simp at h;omega)
  have e1:(t+2) / 2=t / 2+1:=zO
  have e2:(t+2) % 2=t % 2:=zO
  rw[e1,e2]
  simpa[Yl] using ih
theorem jeo (L:List SP):flatK j4u 2 L.toArray=((Yl (L.map (·.1))).map (Value.int .i64)).toArray:=by
 apply Array.ext
 ·simp[jt6]
 ·intro t h1 h2
  have ht:t<L.length*2:=by simpa using h1
  have:=jzz L t ht
  have h3:=get_flatK j4u 2 L.toArray t (by simpa using ht)
  rw[getElem!_pos _ t h1]at h3
  rw[h3]
  have e:L.toArray[t / 2]! = L[t / 2]!:=zS
  rw[e,this,getElem!_pos _ t (by rw[jt6];simpa using ht)]
  simp
theorem jiy (off:Nat) (L:List Int) (c:Array Value):putCells id off (L.map (Value.int .i64)).toArray c=putCells (Value.int .i64) off L.toArray c:=by
 unfold putCells
 congr 1
 funext k x
 simp only[List.size_toArray,List.length_map]
 split
 ·rename_i h
  rw[getElem!_pos _ _ (by simp;omega),getElem!_pos _ _ (by simp;omega)]
  simp
 ·rfl
theorem jmr:jhz Tryz.prog 91 (some 92):=by
 refine⟨⟨Tryz.f91,_,Tryz.func91,rfl,by kernel_rfl⟩,fun p cap w=>?_,fun blk off cap n zs w hlen hmay hH hblk hn=>?_⟩
 ·exact AnyF.slices_SortFunc_none laysF p cap _ w
 ·obtain⟨h1,h2⟩:=jgg (n:=n) (zs:=zs) hlen
  have hsm:=jdf hmay
  obtain⟨L,hL⟩:∃L:List SP,L.map (·.1)=pairsI zs:=⟨(pairsI zs).pmap (fun p h=>⟨p,h⟩) hsm,by rw[List.map_pmap];simp⟩
  have hLl:L.length=n:=by rw[← h2,← hL,List.length_map]
  have eg:∀args w,(callFunc 92 args).run Tryz.prog w=.ok (.enter 92 args) w:=enters_of Tryz.func92 (by kernel_rfl) rfl
  have hz:zs=Yl (L.map (·.1)):=by rw[hL,h1]
  have hHK:HoldsK j4u 2 w blk off L.toArray:=by
   unfold HoldsK
   rw[jeo,← hz]
   intro j hj
   have hj':j<zs.length:=by simpa using hj
   have:=hH j (by simpa using hj')
   rw[getElem!_pos _ _ (by simpa using hj')]at this ⊢
   simpa using this
  have key:=AnyQ.slices_SortFunc_total laysF 2 Tryz.isAgg70 Tryz.sizeOf70 j4u (fun _=>rfl) (fun x v hv=>by simp[j4u]at hv;rcases hv with rfl|rfl <;> rfl) cfP swoP 92 #[] blk off cap L.toArray w eg
   (fun _ _ _ _ x y=>j3v x y _) hHK hblk (by simpa[hLl] using hn) totP
  rw[show L.toArray.size=n by simpa using hLl]at key
  refine key.mono ?_
  rintro e w' ⟨rfl,m,os,rfl⟩
  refine⟨rfl,m,os,?_⟩
  unfold sortWorldK putRowK
  rw[jeo,jpp,show L.toArray.toList.map (·.1)=pairsI zs from hL]
  unfold putRow
  congr 1
  congr 1
  funext c
  exact jiy off _ c
end Go.Pv.T
namespace Go.Pv.T
open Go Go.Pv Go.Proofs
theorem j1y (p:Option Addr) (cap:Nat) (w:World):Calls Tryz.prog 78 #[.slice p 0 cap] w fun e a=>e=.returned (.pointer (some ⟨w.heap.size,0,none⟩))∧∃t,a=w.alloc (.cells #[.int .u64 0,.int .u64 0,.int .u64 0,.int .u64 0,.int .u64 0,.int .u64 0,.int .u64 0,.int .u64 0] t):=by
 go_enter Tryz.func78,Tryz.ntmps78
 go_wp2
 refine wp_loop_rounds 1 ?_
 rw[rounds_succ]
 go_wp2
 go_ret
 exact⟨rfl,_,rfl⟩
theorem mkLaw:j4f Tryz.prog 78 j5o:=by
 refine⟨⟨_,_,Tryz.func78,rfl,by kernel_rfl⟩,fun p a w=>(j1y p a w).mono ?_⟩
 rintro e d ⟨rfl,t,rfl⟩
 refine⟨rfl,_,t,rfl,rfl,fun j x v c b=>?_⟩
 match j with
 | 0|1|2|3|4|5|6|7=>
  simp[j5o]at c b
  subst c b
  exact⟨rfl,fun I=>.int _ _⟩
 | j+8=>simp[j5o]at b
abbrev Jzz:=jJ Tryz.prog false
theorem j1 {P:Program} {r:Bool} {f:FuncId} {fn:Func} {af:AF} (h1:P.funcs[f]? = some fn) (m:Bool:=false) (h2:j3p P m r fn=some af:=by kernel_rfl) (h3:(fn.name == "runtime.NumGoroutine")=false:=by kernel_rfl) (h4:af.body.dstOk fn.ntmps=true:=by kernel_rfl):jJ P r f af:=by
  unfold j3p at h2
  cases hb:fn.body with
  | none=>rw[hb]at h2;cases h2
  | some c=>
    rw[hb,Option.bind_some]at h2
    cases hc:comp P m r c with
    | none=>rw[hc]at h2;cases h2
    | some b=>
      rw[hc,Option.bind_some]at h2
      cases hr:fn.results.toList.mapM (YP P) with
      | none=>rw[hr]at h2;cases h2
      | some res=>
        rw[hr]at h2
        cases h2
        exact⟨m,fn,c,h1,hb,hc,hr,h3,h4⟩
theorem j8f:Jzz 259 F259:=j1 Tryz.func259
theorem j8e:Jzz 261 F261:=j1 Tryz.func261
theorem j8d:Jzz 262 F262:=j1 Tryz.func262
theorem j8c:Jzz 263 F263:=j1 Tryz.func263
theorem j8b:Jzz 264 F264:=j1 Tryz.func264
theorem j8a:Jzz 265 F265:=j1 Tryz.func265
theorem j79:Jzz 266 F266:=j1 Tryz.func266
theorem j78:Jzz 267 F267:=j1 Tryz.func267
theorem j77:Jzz 268 F268:=j1 Tryz.func268
theorem j76:Jzz 269 F269:=j1 Tryz.func269
theorem j75:Jzz 273 F273:=j1 Tryz.func273
theorem j74:Jzz 278 F278:=j1 Tryz.func278
theorem j73:Jzz 279 F279:=j1 Tryz.func279
theorem j72:Jzz 280 F280:=j1 Tryz.func280
theorem j71:Jzz 281 F281:=j1 Tryz.func281
theorem j70:Jzz 284 F284:=j1 Tryz.func284
theorem j7z:Jzz 285 F285:=j1 Tryz.func285
theorem j7y:Jzz 286 F286:=j1 Tryz.func286
theorem j7x:Jzz 287 F287:=j1 Tryz.func287
theorem j7w:Jzz 288 F288:=j1 Tryz.func288
theorem j7v:Jzz 289 F289:=j1 Tryz.func289
theorem j7u:Jzz 290 F290:=j1 Tryz.func290
theorem j7t:Jzz 293 F293:=j1 Tryz.func293
theorem j7s:Jzz 300 F300:=j1 Tryz.func300
theorem j7r:Jzz 301 F301:=j1 Tryz.func301
theorem j7q:Jzz 302 F302:=j1 Tryz.func302
theorem j7p:Jzz 304 F304:=j1 Tryz.func304
theorem j7o:Jzz 307 F307:=j1 Tryz.func307
theorem j7n:Jzz 311 F311:=j1 Tryz.func311
theorem j7m:Jzz 320 F320:=j1 Tryz.func320
theorem j9t:Jzz 147 F147:=j1 Tryz.func147
theorem j9s:Jzz 148 F148:=j1 Tryz.func148
theorem j9r:Jzz 149 F149:=j1 Tryz.func149
theorem j9q:Jzz 152 F152:=j1 Tryz.func152
theorem j9p:Jzz 155 F155:=j1 Tryz.func155
theorem j9o:Jzz 157 F157:=j1 Tryz.func157
theorem j9n:Jzz 158 F158:=j1 Tryz.func158
theorem j9m:Jzz 159 F159:=j1 Tryz.func159
theorem j9l:Jzz 160 F160:=j1 Tryz.func160
theorem j9k:Jzz 161 F161:=j1 Tryz.func161
theorem j9j:Jzz 166 F166:=j1 Tryz.func166
theorem j9i:Jzz 167 F167:=j1 Tryz.func167
theorem j9h:Jzz 170 F170:=j1 Tryz.func170
theorem j9g:Jzz 172 F172:=j1 Tryz.func172
theorem j9f:Jzz 173 F173:=j1 Tryz.func173
theorem j9e:Jzz 174 F174:=j1 Tryz.func174
theorem j9d:Jzz 176 F176:=j1 Tryz.func176
theorem j9c:Jzz 177 F177:=j1 Tryz.func177
theorem j9b:Jzz 188 F188:=j1 Tryz.func188
theorem j9a:Jzz 189 F189:=j1 Tryz.func189
theorem j89:Jzz 190 F190:=j1 Tryz.func190
theorem j88:Jzz 194 F194:=j1 Tryz.func194
theorem j87:Jzz 206 F206:=j1 Tryz.func206
theorem j86:Jzz 208 F208:=j1 Tryz.func208
theorem j85:Jzz 209 F209:=j1 Tryz.func209
theorem j84:Jzz 210 F210:=j1 Tryz.func210
theorem j83:Jzz 212 F212:=j1 Tryz.func212
theorem j82:Jzz 214 F214:=j1 Tryz.func214
theorem j81:Jzz 216 F216:=j1 Tryz.func216
theorem j80:Jzz 217 F217:=j1 (m:=true) Tryz.func217
theorem j8z:Jzz 223 F223:=j1 Tryz.func223
theorem j8y:Jzz 224 F224:=j1 Tryz.func224
theorem j8x:Jzz 225 F225:=j1 Tryz.func225
theorem j8w:Jzz 226 F226:=j1 Tryz.func226
theorem j8v:Jzz 227 F227:=j1 Tryz.func227
theorem j8u:Jzz 228 F228:=j1 Tryz.func228
theorem j8t:Jzz 229 F229:=j1 Tryz.func229
theorem j8s:Jzz 230 F230:=j1 Tryz.func230
theorem j8r:Jzz 233 F233:=j1 Tryz.func233
theorem j8q:Jzz 234 F234:=j1 Tryz.func234
theorem j8p:Jzz 235 F235:=j1 Tryz.func235
theorem j8o:Jzz 236 F236:=j1 Tryz.func236
theorem j8n:Jzz 248 F248:=j1 Tryz.func248
theorem j8m:Jzz 249 F249:=j1 Tryz.func249
theorem j8l:Jzz 250 F250:=j1 Tryz.func250
theorem j8k:Jzz 251 F251:=j1 Tryz.func251
theorem j8j:Jzz 252 F252:=j1 Tryz.func252
theorem j8i:Jzz 253 F253:=j1 Tryz.func253
theorem j8h:Jzz 254 F254:=j1 Tryz.func254
theorem j8g:Jzz 258 F258:=j1 Tryz.func258
theorem okc14:Jzz 14 F14:=j1 Tryz.func14
theorem okc15:Jzz 15 F15:=j1 (m:=true) Tryz.func15
theorem okc21:Jzz 21 F21:=j1 Tryz.func21
theorem okc23:Jzz 23 F23:=j1 Tryz.func23
theorem okc24:Jzz 24 F24:=j1 Tryz.func24
theorem okc25:Jzz 25 F25:=j1 Tryz.func25
theorem okc31:Jzz 31 F31:=j1 Tryz.func31
theorem okc32:Jzz 32 F32:=j1 Tryz.func32
theorem okc33:Jzz 33 F33:=j1 Tryz.func33
theorem okc39:Jzz 39 F39:=j1 Tryz.func39
theorem okc40:Jzz 40 F40:=j1 Tryz.func40
theorem okc42:Jzz 42 F42:=j1 (m:=true) Tryz.func42
theorem okc44:Jzz 44 F44:=j1 Tryz.func44
theorem okc47:Jzz 47 F47:=j1 (m:=true) Tryz.func47
theorem okc48:Jzz 48 F48:=j1 (m:=true) Tryz.func48
theorem okc52:Jzz 52 F52:=j1 Tryz.func52
theorem okc53:Jzz 53 F53:=j1 Tryz.func53
theorem okc57:Jzz 57 F57:=j1 Tryz.func57
theorem okc58:Jzz 58 F58:=j1 (m:=true) Tryz.func58
theorem okc59:Jzz 59 F59:=j1 Tryz.func59
theorem okc60:Jzz 60 F60:=j1 Tryz.func60
theorem okc62:Jzz 62 F62:=j1 Tryz.func62
theorem okc63:Jzz 63 F63:=j1 Tryz.func63
theorem okc64:Jzz 64 F64:=j1 Tryz.func64
theorem okc71:Jzz 71 F71:=j1 Tryz.func71
theorem okc74:Jzz 74 F74:=j1 Tryz.func74
theorem okc75:Jzz 75 F75:=j1 Tryz.func75
theorem okc84:Jzz 84 F84:=j1 Tryz.func84
theorem okc86:Jzz 86 F86:=j1 Tryz.func86
theorem okc97:Jzz 97 F97:=j1 (m:=true) Tryz.func97
theorem okc100:Jzz 100 F100:=j1 (m:=true) Tryz.func100
theorem okc103:Jzz 103 F103:=j1 Tryz.func103
theorem okc104:Jzz 104 F104:=j1 Tryz.func104
theorem okc105:Jzz 105 F105:=j1 Tryz.func105
theorem j99:Jzz 106 F106:=j1 (m:=true) Tryz.func106
theorem j98:Jzz 108 F108:=j1 Tryz.func108
theorem j97:Jzz 109 F109:=j1 (m:=true) Tryz.func109
theorem j96:Jzz 110 F110:=j1 Tryz.func110
theorem j95:Jzz 116 F116:=j1 Tryz.func116
theorem j94:Jzz 118 F118:=j1 Tryz.func118
theorem j93:Jzz 120 F120:=j1 Tryz.func120
theorem j92:Jzz 121 F121:=j1 Tryz.func121
theorem j91:Jzz 122 F122:=j1 Tryz.func122
theorem j90:Jzz 124 F124:=j1 Tryz.func124
theorem j9z:Jzz 127 F127:=j1 Tryz.func127
theorem j9y:Jzz 128 F128:=j1 Tryz.func128
theorem j9x:Jzz 130 F130:=j1 Tryz.func130
theorem j9w:Jzz 136 F136:=j1 Tryz.func136
theorem j9v:Jzz 145 F145:=j1 Tryz.func145
theorem j9u:Jzz 146 F146:=j1 Tryz.func146
theorem fc_2Ok {f:FuncId}{af:AF}(h:fc_2 f=some af):Jzz f af:=by
  unfold fc_2 at h
  split at h
  · cases h;exact j8f
  · cases h;exact j8e
  · cases h;exact j8d
  · cases h;exact j8c
  · cases h;exact j8b
  · cases h;exact j8a
  · cases h;exact j79
  · cases h;exact j78
  · cases h;exact j77
  · cases h;exact j76
  · cases h;exact j75
  · cases h;exact j74
  · cases h;exact j73
  · cases h;exact j72
  · cases h;exact j71
  · cases h;exact j70
  · cases h;exact j7z
  · cases h;exact j7y
  · cases h;exact j7x
  · cases h;exact j7w
  · cases h;exact j7v
  · cases h;exact j7u
  · cases h;exact j7t
  · cases h;exact j7s
  · cases h;exact j7r
  · cases h;exact j7q
  · cases h;exact j7p
  · cases h;exact j7o
  · cases h;exact j7n
  · cases h;exact j7m
  · cases h
theorem fc_1Ok {f:FuncId}{af:AF}(h:fc_1 f=some af):Jzz f af:=by
  unfold fc_1 at h
  split at h
  · cases h;exact j9t
  · cases h;exact j9s
  · cases h;exact j9r
  · cases h;exact j9q
  · cases h;exact j9p
  · cases h;exact j9o
  · cases h;exact j9n
  · cases h;exact j9m
  · cases h;exact j9l
  · cases h;exact j9k
  · cases h;exact j9j
  · cases h;exact j9i
  · cases h;exact j9h
  · cases h;exact j9g
  · cases h;exact j9f
  · cases h;exact j9e
  · cases h;exact j9d
  · cases h;exact j9c
  · cases h;exact j9b
  · cases h;exact j9a
  · cases h;exact j89
  · cases h;exact j88
  · cases h;exact j87
  · cases h;exact j86
  · cases h;exact j85
  · cases h;exact j84
  · cases h;exact j83
  · cases h;exact j82
  · cases h;exact j81
  · cases h;exact j80
  · cases h;exact j8z
  · cases h;exact j8y
  · cases h;exact j8x
  · cases h;exact j8w
  · cases h;exact j8v
  · cases h;exact j8u
  · cases h;exact j8t
  · cases h;exact j8s
  · cases h;exact j8r
  · cases h;exact j8q
  · cases h;exact j8p
  · cases h;exact j8o
  · cases h;exact j8n
  · cases h;exact j8m
  · cases h;exact j8l
  · cases h;exact j8k
  · cases h;exact j8j
  · cases h;exact j8i
  · cases h;exact j8h
  · cases h;exact j8g
  · exact fc_2Ok h
theorem fcOk {f:FuncId}{af:AF}(h:fc f=some af):Jzz f af:=by
  unfold fc at h
  split at h
  · cases h;exact okc14
  · cases h;exact okc15
  · cases h;exact okc21
  · cases h;exact okc23
  · cases h;exact okc24
  · cases h;exact okc25
  · cases h;exact okc31
  · cases h;exact okc32
  · cases h;exact okc33
  · cases h;exact okc39
  · cases h;exact okc40
  · cases h;exact okc42
  · cases h;exact okc44
  · cases h;exact okc47
  · cases h;exact okc48
  · cases h;exact okc52
  · cases h;exact okc53
  · cases h;exact okc57
  · cases h;exact okc58
  · cases h;exact okc59
  · cases h;exact okc60
  · cases h;exact okc62
  · cases h;exact okc63
  · cases h;exact okc64
  · cases h;exact okc71
  · cases h;exact okc74
  · cases h;exact okc75
  · cases h;exact okc84
  · cases h;exact okc86
  · cases h;exact okc97
  · cases h;exact okc100
  · cases h;exact okc103
  · cases h;exact okc104
  · cases h;exact okc105
  · cases h;exact j99
  · cases h;exact j98
  · cases h;exact j97
  · cases h;exact j96
  · cases h;exact j95
  · cases h;exact j94
  · cases h;exact j93
  · cases h;exact j92
  · cases h;exact j91
  · cases h;exact j90
  · cases h;exact j9z
  · cases h;exact j9y
  · cases h;exact j9x
  · cases h;exact j9w
  · cases h;exact j9v
  · cases h;exact j9u
  · exact fc_1Ok h
theorem j6f:jJ Tryz.prog true 271 S271:=j1 (m:=true) Tryz.func271
theorem j6e:jJ Tryz.prog true 272 S272:=j1 (m:=true) Tryz.func272
theorem j6d:jJ Tryz.prog true 274 S274:=j1 (m:=true) Tryz.func274
theorem j6c:jJ Tryz.prog true 276 S276:=j1 (m:=true) Tryz.func276
theorem j6b:jJ Tryz.prog true 291 S291:=j1 (m:=true) Tryz.func291
theorem j6a:jJ Tryz.prog true 292 S292:=j1 (m:=true) Tryz.func292
theorem j59:jJ Tryz.prog true 294 S294:=j1 (m:=true) Tryz.func294
theorem j58:jJ Tryz.prog true 295 S295:=j1 (m:=true) Tryz.func295
theorem j57:jJ Tryz.prog true 296 S296:=j1 (m:=true) Tryz.func296
theorem j56:jJ Tryz.prog true 303 S303:=j1 (m:=true) Tryz.func303
theorem j55:jJ Tryz.prog true 305 S305:=j1 (m:=true) Tryz.func305
theorem j54:jJ Tryz.prog true 312 S312:=j1 (m:=true) Tryz.func312
theorem oks51:jJ Tryz.prog true 51 S51:=j1 (m:=true) Tryz.func51
theorem oks78:jJ Tryz.prog true 78 S78:=j1 (m:=true) Tryz.func78
theorem oks81:jJ Tryz.prog true 81 S81:=j1 (m:=true) Tryz.func81
theorem oks87:jJ Tryz.prog true 87 S87:=j1 (m:=true) Tryz.func87
theorem oks88:jJ Tryz.prog true 88 S88:=j1 (m:=true) Tryz.func88
theorem oks89:jJ Tryz.prog true 89 S89:=j1 (m:=true) Tryz.func89
theorem oks90:jJ Tryz.prog true 90 S90:=j1 (m:=true) Tryz.func90
theorem oks93:jJ Tryz.prog true 93 S93:=j1 (m:=true) Tryz.func93
theorem j7l:jJ Tryz.prog true 111 S111:=j1 (m:=true) Tryz.func111
theorem j7k:jJ Tryz.prog true 124 S124:=j1 (m:=true) Tryz.func124
theorem j7j:jJ Tryz.prog true 127 S127:=j1 (m:=true) Tryz.func127
theorem j7i:jJ Tryz.prog true 128 S128:=j1 (m:=true) Tryz.func128
theorem j7h:jJ Tryz.prog true 130 S130:=j1 (m:=true) Tryz.func130
theorem j7g:jJ Tryz.prog true 137 S137:=j1 (m:=true) Tryz.func137
theorem j7f:jJ Tryz.prog true 138 S138:=j1 (m:=true) Tryz.func138
theorem j7e:jJ Tryz.prog true 139 S139:=j1 (m:=true) Tryz.func139
theorem j7d:jJ Tryz.prog true 140 S140:=j1 (m:=true) Tryz.func140
theorem j7c:jJ Tryz.prog true 144 S144:=j1 (m:=true) Tryz.func144
theorem j7b:jJ Tryz.prog true 145 S145:=j1 (m:=true) Tryz.func145
theorem j7a:jJ Tryz.prog true 146 S146:=j1 (m:=true) Tryz.func146
theorem j69:jJ Tryz.prog true 147 S147:=j1 (m:=true) Tryz.func147
theorem j68:jJ Tryz.prog true 148 S148:=j1 (m:=true) Tryz.func148
theorem j67:jJ Tryz.prog true 149 S149:=j1 (m:=true) Tryz.func149
theorem j66:jJ Tryz.prog true 153 S153:=j1 (m:=true) Tryz.func153
theorem j65:jJ Tryz.prog true 154 S154:=j1 (m:=true) Tryz.func154
theorem j64:jJ Tryz.prog true 156 S156:=j1 (m:=true) Tryz.func156
theorem j63:jJ Tryz.prog true 168 S168:=j1 (m:=true) Tryz.func168
theorem j62:jJ Tryz.prog true 169 S169:=j1 (m:=true) Tryz.func169
theorem j61:jJ Tryz.prog true 171 S171:=j1 (m:=true) Tryz.func171
theorem j60:jJ Tryz.prog true 189 S189:=j1 (m:=true) Tryz.func189
theorem j6z:jJ Tryz.prog true 192 S192:=j1 (m:=true) Tryz.func192
theorem j6y:jJ Tryz.prog true 193 S193:=j1 (m:=true) Tryz.func193
theorem j6x:jJ Tryz.prog true 194 S194:=j1 (m:=true) Tryz.func194
theorem j6w:jJ Tryz.prog true 204 S204:=j1 (m:=true) Tryz.func204
theorem j6v:jJ Tryz.prog true 205 S205:=j1 (m:=true) Tryz.func205
theorem j6u:jJ Tryz.prog true 206 S206:=j1 (m:=true) Tryz.func206
theorem j6t:jJ Tryz.prog true 207 S207:=j1 (m:=true) Tryz.func207
theorem j6s:jJ Tryz.prog true 208 S208:=j1 (m:=true) Tryz.func208
theorem j6r:jJ Tryz.prog true 209 S209:=j1 (m:=true) Tryz.func209
theorem j6q:jJ Tryz.prog true 210 S210:=j1 (m:=true) Tryz.func210
theorem j6p:jJ Tryz.prog true 213 S213:=j1 (m:=true) Tryz.func213
theorem j6o:jJ Tryz.prog true 215 S215:=j1 (m:=true) Tryz.func215
theorem j6n:jJ Tryz.prog true 231 S231:=j1 (m:=true) Tryz.func231
theorem j6m:jJ Tryz.prog true 232 S232:=j1 (m:=true) Tryz.func232
theorem j6l:jJ Tryz.prog true 237 S237:=j1 (m:=true) Tryz.func237
theorem j6k:jJ Tryz.prog true 244 S244:=j1 (m:=true) Tryz.func244
theorem j6j:jJ Tryz.prog true 248 S248:=j1 (m:=true) Tryz.func248
theorem j6i:jJ Tryz.prog true 249 S249:=j1 (m:=true) Tryz.func249
theorem j6h:jJ Tryz.prog true 255 S255:=j1 (m:=true) Tryz.func255
theorem j6g:jJ Tryz.prog true 270 S270:=j1 (m:=true) Tryz.func270
theorem fs_1Ok {f:FuncId}{af:AF}(h:fs_1 f=some af):jJ Tryz.prog true f af:=by
  unfold fs_1 at h
  split at h
  · cases h;exact j6f
  · cases h;exact j6e
  · cases h;exact j6d
  · cases h;exact j6c
  · cases h;exact j6b
  · cases h;exact j6a
  · cases h;exact j59
  · cases h;exact j58
  · cases h;exact j57
  · cases h;exact j56
  · cases h;exact j55
  · cases h;exact j54
  · cases h
theorem fsOk {f:FuncId}{af:AF}(h:fs f=some af):jJ Tryz.prog true f af:=by
  unfold fs at h
  split at h
  · cases h;exact oks51
  · cases h;exact oks78
  · cases h;exact oks81
  · cases h;exact oks87
  · cases h;exact oks88
  · cases h;exact oks89
  · cases h;exact oks90
  · cases h;exact oks93
  · cases h;exact j7l
  · cases h;exact j7k
  · cases h;exact j7j
  · cases h;exact j7i
  · cases h;exact j7h
  · cases h;exact j7g
  · cases h;exact j7f
  · cases h;exact j7e
  · cases h;exact j7d
  · cases h;exact j7c
  · cases h;exact j7b
  · cases h;exact j7a
  · cases h;exact j69
  · cases h;exact j68
  · cases h;exact j67
  · cases h;exact j66
  · cases h;exact j65
  · cases h;exact j64
  · cases h;exact j63
  · cases h;exact j62
  · cases h;exact j61
  · cases h;exact j60
  · cases h;exact j6z
  · cases h;exact j6y
  · cases h;exact j6x
  · cases h;exact j6w
  · cases h;exact j6v
  · cases h;exact j6u
  · cases h;exact j6t
  · cases h;exact j6s
  · cases h;exact j6r
  · cases h;exact j6q
  · cases h;exact j6p
  · cases h;exact j6o
  · cases h;exact j6n
  · cases h;exact j6m
  · cases h;exact j6l
  · cases h;exact j6k
  · cases h;exact j6j
  · cases h;exact j6i
  · cases h;exact j6h
  · cases h;exact j6g
  · exact fs_1Ok h
theorem envOk:EnvOk Tryz.prog E:=⟨fun _ _ h=>fcOk h,fun _ _ h=>fsOk h,(fun f m h=>by
  simp only[E]at h
  split at h
  · cases h;exact jq9
  · cases h;exact jmr
  · cases h),(fun f cs h=>by
  simp only[E]at h
  split at h
  · cases h;exact mkLaw
  · cases h)⟩
end Go.Pv.T
namespace Go.Pv.T
open Go Go.Pv Go.Proofs Go.ChangeShapes Go.WideShapes Go.ChangeAt Go.RowKit Go.Proofs.YtphecmnehkdihaaGreatDoor
theorem own:ownKnob Tryz.prog.godebug=none:=by kernel_rfl
theorem js3:laidOutB Tryz.prog=true:=by kernel_rfl
theorem mixed:Tryz.prog.follows .mixedOrders=true:=by kernel_rfl
def jpq:List (String × DataW Unit):=[("math/bits.deBruijn64tab",Rows.laid_math_bits_deBruijn64tab),("unicode/utf8.acceptRanges",Rows.laid_unicode_utf8_acceptRanges),("deemster/event.words",Rows.laid_deemster_event_words),("unicode/utf8.first",Rows.laid_unicode_utf8_first)]
def js1:V→Value
  | .int k n=>.int k n
  | .str s=>.string ⟨s.toArray⟩
  | _=>.nilFunc
def putCells (h:Array Obj) (g:Nat) (cs:Array Value):Array Obj:=h.modify g fun
    | .cells _ t frozen=>.cells cs t frozen
    | o=>o
def jmc:Array Value:=#[.int .u8 128,.int .u8 191,.int .u8 160,.int .u8 191,.int .u8 128,.int .u8 159,.int .u8 144,.int .u8 191,.int .u8 128,.int .u8 143,.int .u8 0,.int .u8 0,.int .u8 0,.int .u8 0,.int .u8 0,.int .u8 0,.int .u8 0,.int .u8 0,.int .u8 0,.int .u8 0,.int .u8 0,.int .u8 0,.int .u8 0,.int .u8 0,.int .u8 0,.int .u8 0,.int .u8 0,.int .u8 0,.int .u8 0,.int .u8 0,.int .u8 0,.int .u8 0]
noncomputable def laidWorld (os:Os):World :=
  let w0:=World.holding Tryz.prog os ⟨#[],#[],[]⟩
  { w0 with heap:=putCells (putCells (putCells (putCells w0.heap 0 (bruij.map js1).toArray) 1 (words.map js1).toArray) 2 (utf8first.map js1).toArray) 3 jmc }
theorem jyn (os:Os) (args:Array Value):laidMetH Tryz.prog jpq ((laidWorld os).forCall (fun _ _=>0) ⟨#[],args,[]⟩).memory:=by
  rw[MakeChecks.laidMetH_plain _ _ _ (by kernel_rfl)]
  exact laidMet_of_run' 8 (by kernel_rfl) (by kernel_rfl)
theorem gWords:Tryz.prog.globalNamed "deemster/event.words" = some 1:=by kernel_rfl
theorem gFirst:Tryz.prog.globalNamed "unicode/utf8.first" = some 2:=by kernel_rfl
theorem gBruij:Tryz.prog.globalNamed "math/bits.deBruijn64tab" = some 0:=by kernel_rfl
theorem tBruij:(Tryz.prog.globals[0]?).map (·.type)=some 281:=by kernel_rfl
theorem tWords:(Tryz.prog.globals[1]?).map (·.type)=some 300:=by kernel_rfl
theorem tFirst:(Tryz.prog.globals[2]?).map (·.type)=some 319:=by kernel_rfl
def Xu (W:World):IMap:=fun b o=>W.cell? ⟨b,o,none⟩
theorem juk (W:World):jkl (Xu W) W:=fun _ _ _ h=>h
def jkp:DataW Unit→V
  | .lit (.int k n)=>.int k n
  | .lit (.string s)=>.str s
  | _=>.undef
theorem jma     {W:World} {t e:TypeId} {n fuel:Nat} {cs:List Value} {ds:List (DataW Unit)} {p:List MemPlace} (ht:Tryz.prog.underlying t=some (.array n e)) (hc:Tryz.prog.cellsOf e=1)
    (he:Tryz.prog.underlying e=some .string∨∃k,Tryz.prog.underlying e=some (.int k)) (h:DataW.trod (fun _=>()) Tryz.prog W 0 (fun _=>true) false fuel t cs=some (.agg ds,p)) (I:IMap) :
    ∀ (j:Nat) (d:DataW Unit),ds[j]? = some d→∃x,cs[j]? = some x∧RepP I x (jkp d):=by
  obtain⟨xs,m,rfl,hx,hlen,hn,hel⟩:=DataW.trod_array ht h
  intro j d hd
  simp only[Prod.mk.injEq,DataW.agg.injEq]at hx
  rw[hx.1,List.getElem?_map]at hd
  cases hy:xs[j]? with
  | none=>simp[hy]at hd
  | some y=>
    rw[hy]at hd
    simp only[Option.map_some,Option.some.injEq]at hd
    have hj:j<n:=by rw[← hn];exact(List.getElem?_eq_some_iff.1 hy).1
    have:=hel j hj
    rw[hc,Nat.mul_one,hy]at this
    have one:∀c,(cs.drop j).take 1=[c]→cs[j]? = some c:=by
      intro c hcc
      have:=congrArg List.head? hcc
      simpa[List.head?_take,List.head?_drop] using this
    rcases he with he|⟨k,he⟩
    · obtain⟨s,e1,e2,_⟩:=DataW.trod_string he this
      refine⟨_,one _ e1,?_⟩
      rw[← hd,e2]
      exact RepP.str s
    · obtain⟨s,e1,e2,_⟩:=DataW.trod_int he this
      refine⟨_,one _ e1,?_⟩
      rw[← hd,e2]
      exact RepP.int k s
theorem jnt    {W:World} {nm:String} {g:Nat} {cs:Array Value} {ds:List (DataW Unit)} (hg:Tryz.prog.globalNamed nm=some g) (hv:W.var? Tryz.prog nm=some cs) (hp:(ds.map jkp ).all V.pureLeaf=true)
    (h:∀ (j:Nat) (d:DataW Unit),ds[j]? = some d→∃x,cs.toList[j]? = some x∧RepP (Xu W) x (jkp d)):RepP (Xu W) (.pointer (some ⟨g,0,none⟩)) (.eptr (ds.map jkp) 0):=by
  have hc:=World.var?_cell hg hv
  refine RepP.eptr g 0 0 (ds.map jkp) (fun j=>(cs[j]?).getD .nilFunc) (fun j hj=>?_) (fun j v hj=>?_) (fun j v hj=>?_)
  · rw[List.length_map]at hj
    obtain⟨x,hx,_⟩:=h j ds[j] (List.getElem?_eq_getElem hj)
    have hx':cs[j]? = some x:=by simpa using hx
    show W.cell? ⟨g,0+j,none⟩=_
    rw[Nat.zero_add,hc j,hx']
    rfl
  · exact List.all_eq_true.1 hp v (List.mem_of_getElem? hj)
  · rw[List.getElem?_map]at hj
    cases hd:ds[j]? with
    | none=>rw[hd]at hj;cases hj
    | some d=>
      rw[hd]at hj
      cases hj
      obtain⟨x,hx,hr⟩:=h j d hd
      have hx':cs[j]? = some x:=by simpa using hx
      rw[hx']
      exact hr
def aggOf:DataW Unit→List (DataW Unit)
  | .agg l=>l
  | _=>[]
theorem jvn:(aggOf Rows.laid_deemster_event_words).map jkp=words:=by kernel_rfl
theorem jyv:(aggOf Rows.laid_math_bits_deBruijn64tab).map jkp=bruij:=by kernel_rfl
theorem jup:Rows.laid_math_bits_deBruijn64tab=.agg (aggOf Rows.laid_math_bits_deBruijn64tab):=by kernel_rfl
theorem jp8:((aggOf Rows.laid_math_bits_deBruijn64tab).map jkp).all V.pureLeaf=true:=by kernel_rfl
theorem jyd:(aggOf Rows.laid_unicode_utf8_first).map jkp=utf8first:=by kernel_rfl
theorem jt4:Rows.laid_unicode_utf8_first=.agg (aggOf Rows.laid_unicode_utf8_first):=by kernel_rfl
theorem jom:((aggOf Rows.laid_deemster_event_words).map jkp).all V.pureLeaf=true:=by kernel_rfl
theorem jpz:((aggOf Rows.laid_unicode_utf8_first).map jkp).all V.pureLeaf=true:=by kernel_rfl
theorem jkf       {H:Type} {enc:TypeId × Value→H} {W W':World} (hb:Below W.heap.size W W'):∀ {ts:List TypeId} {vs:List Value} {ds:List (DataW H)} {ps:List MemPlace},
    (∀t∈ts,Tryz.prog.readableRec t=true∧t<Tryz.prog.types.size)→(∀x∈ps,x.block<W.heap.size) →
    DataW.TrodAll enc Tryz.prog W 0 (fun _=>true) true ts vs ds ps→DataW.TrodAll enc Tryz.prog W' 0 (fun b=>decide (b<W.heap.size)) true ts vs ds ps
  | [],[],[],_,_,_,h=>h
  | t::ts,v::vs,d::ds,_,ht,hlt,⟨p,q,h1,h2,e⟩=>by
    subst e
    exact⟨p,q,Below.trod js3 (ht t (List.mem_cons_self ..)).1 (ht t (List.mem_cons_self ..)).2 h1 hb (fun x hx=>hlt x (List.mem_append_left _ hx)),
      jkf hb (fun t' h'=>ht t' (List.mem_cons_of_mem _ h')) (fun x hx=>hlt x (List.mem_append_right _ hx)) h2,rfl⟩
  | [],_::_,_,_,_,_,h=>h.elim
  | [],[],_::_,_,_,_,h=>h.elim
  | _::_,[],_,_,_,_,h=>h.elim
  | _::_,_::_,[],_,_,_,h=>h.elim
theorem jrx       {H:Type} {enc:TypeId × Value→H} {fn:Func} {s:ChangeSpec} {W W':World} {args:Array Value} {ds gs:List (DataW H)} {before:List MemPlace} (hW:DataW.Whole enc Tryz.prog fn.params.toList s.vars false W args.toList ds gs before)
    (hv:s.vars=[]) (hr:fn.resultTypes = #[4]) (hs:(s.fn H ds).results=[.lit (.bool true)]) (ha:(s.fn H ds).args=ds) (hvs:(s.fn H ds).vars=[])
    (ht:∀t∈fn.params.toList,Tryz.prog.readableRec t=true∧t<Tryz.prog.types.size) (hg:W.grownBy W' none):s.post enc Tryz.prog fn false true false false W args (.bool true) W':=by
  have hb:Below W.heap.size W W':=(Below.refl _ W).grown hg zR (fun _ h=>by cases h)
  have hW':=hW
  obtain⟨p,q,hA,hV,rfl,_,_⟩:=hW
  rw[hv]at hV
  obtain⟨rfl,rfl⟩:=trodVars_none hV
  have hlt:∀x∈p,x.block<W.heap.size:=fun x hx=>by simpa using hW'.lt x (List.mem_append_left _ hx)
  refine⟨ds,[],_,[],p,[],hW',?_,?_,?_,hb.frame _,fun h=>by cases h⟩
  · rw[List.append_nil,hs,hr]
    exact trodAll_mk1 (shut_bool Tryz.underlying4 _)
  · rw[List.append_nil,ha]
    exact jkf hb ht hlt hA
  · rw[List.append_nil,hvs,hv]
    rfl
end Go.Pv.T
namespace Go.Pv.T
open Go Go.Pv Go.Proofs Go.ChangeShapes Go.WideShapes Go.ChangeAt Go.RowKit
inductive Ty where
 | bool
 | int (k:IntKind)
 | str
 | unit
 | pair (a b:Ty)
 | slice (t:Ty)
def Ty.cells:Ty→Nat
 | .unit=>0
 | .pair a b=>a.cells+b.cells
 | _=>1
inductive Sh:Ty→List V→Prop where
 | bool (b:Bool):Sh .bool [.bool b]
 | int (k:IntKind) (n:Int):Sh (.int k) [.int k n]
 | str (s:List UInt8):Sh .str [.str s]
 | unit:Sh .unit []
 | pair {a b:Ty}{va vb:List V}(ha:Sh a va) (hb:Sh b vb):Sh (.pair a b) (va++vb)
 | nil {t:Ty}:Sh (.slice t) [.sl none true 0 []]
 | slice {t:Ty}(es:List (List V)) (hn:es.length≤maxLen) (h:∀e∈es,Sh t e):Sh (.slice t) [.sl none false es.length es.flatten]
def WM (P:Program) (g:TypeId→Option Ty):List Field→Nat→Option Ty
 | [],_=>some .unit
 | f::r,off=>if f.offset=off then (g f.type).bind fun a=>if P.cellsOf f.type=a.cells then (WM P g r (off+a.cells)).map (.pair a) else none else none
def jy7 (P:Program):Nat→TypeId→Option Ty
 | 0,_=>none
 | n+1,t=>match P.underlying t with
  | some .bool=>some .bool
  | some (.int k)=>some (.int k)
  | some .string=>some .str
  | some (.slice e)=>(jy7 P n e).bind fun ty=>if P.cellsOf e=ty.cells then some (.slice ty) else none
  | some (.struct fs)=>(WM P (jy7 P n) fs.toList 0).bind fun ty=>if P.cellsOf t=ty.cells then some ty else none
  | _=>none
theorem Sh.len {t:Ty}{vs:List V}(h:Sh t vs):vs.length=t.cells:=by
 induction h with
 | pair _ _ b a=>simp[Ty.cells,b,a]
 | _=>rfl
theorem Sh.pure {t:Ty}{vs:List V}(h:Sh t vs):∀v∈vs,v.pureLeaf=true:=by
 induction h with
 | pair _ _ c b=>intro v a;rcases List.mem_append.1 a with h|h;exact c v h;exact b v h
 | unit=>intro v a;cases a
 | _=>intro v a;rw[List.mem_singleton]at a;subst a;rfl
def Reps (I:IMap) (cs:List Value) (vs:List V):Prop:=cs.length=vs.length∧∀ (j:Nat) (x:Value) (v:V),cs[j]? = some x→vs[j]? = some v→RepP I x v
theorem Reps.one {I:IMap}{x:Value}{v:V}(h:RepP I x v):Reps I [x] [v] :=
 ⟨rfl,fun j y u a b=>by
  match j,a,b with
  | 0,a,b=>cases a;cases b;exact h
  | j+1,a,_=>simp at a⟩
theorem jhq {f:Type}{sz:Nat}(c:0<sz):∀ (es:List (List f)),(∀e∈es,e.length=sz)→∀j,es.flatten[j]? = (es[j / sz]?).bind fun e=>e[j % sz]?
 | [],_,j=>by simp
 | e::es,h,j=>by
  have b:=h e (List.mem_cons_self ..)
  rw[List.flatten_cons,List.getElem?_append,b]
  split
  ·rename_i a
   rw[Nat.div_eq_of_lt a,Nat.mod_eq_of_lt a]
   rfl
  ·rename_i g
   have d:j=(j - sz)+sz:=zO
   rw[jhq c es (fun e b=>h e (List.mem_cons_of_mem _ b)) (j - sz)]
   conv=>rhs;rw[d,Nat.add_div_right _ c,Nat.add_mod_right]
   rfl
theorem jnz {a:Type}{sz:Nat}:∀ (es:List (List a)),(∀e∈es,e.length=sz)→es.flatten.length=es.length*sz
 | [],_=>by simp
 | e::es,h=>by
  rw[List.flatten_cons,List.length_append,h e (List.mem_cons_self ..),jnz es (fun e b=>h e (List.mem_cons_of_mem _ b)),List.length_cons,Nat.succ_mul]
  omega
section
variable {H:Type}{enc:TypeId × Value→H}{W:World}{P:Program}
theorem ji4 {e:Type}{p:Nat→e→Prop}:∀ (n:Nat),(∀i,i<n→∃a,p i a)→∃l:List e,l.length=n∧∀i a,l[i]? = some a→p i a
 | 0,_=>⟨[],rfl,fun i a h=>by simp at h⟩
 | n+1,h=>by
  obtain⟨l,d,g⟩:=ji4 n (fun i k=>h i zO)
  obtain⟨a,f⟩:=h n zO
  refine⟨l++[a],by simp[d],fun i b c=>?_⟩
  rw[List.getElem?_append]at c
  split at c
  ·exact g i b c
  ·rename_i j
   have:i=n:=by
    have:=(List.getElem?_eq_some_iff.1 c).1
    simp at this
    omega
   subst this
   simp[d]at c
   subst c
   exact f
theorem jgi {g:TypeId→Option Ty}{n:Nat}{cs:List Value}(w:∀t ty,g t=some ty→∀cs x,DataW.trod enc P W 0 (fun _=>true) true n t cs=some x→∃e,Sh ty e∧Reps (Xu W) cs e) :
 ∀ (fs:List Field) (off:Nat) (ty:Ty),WM P g fs off=some ty→(∀f∈fs,∃x,DataW.trod enc P W 0 (fun _=>true) true n f.type ((cs.drop f.offset).take (P.cellsOf f.type))=some x)→cs.length=off+ty.cells →
  ∃e,Sh ty e∧Reps (Xu W) (cs.drop off) e
 | [],off,ty,h,_,hl=>by
  simp only[WM,Option.some.injEq]at h
  subst h
  simp only[Ty.cells,Nat.add_zero]at hl
  exact⟨[],.unit,by simp[hl],fun j x v _ I=>by simp at I⟩
 | f::r,off,ty,h,hx,hl=>by
  simp only[WM]at h
  split at h
  ·rename_i d
   cases p:g f.type with
   | none=>rw[p]at h;cases h
   | some a=>
    rw[p,Option.bind_some]at h
    split at h
    ·rename_i D
     cases s:WM P g r (off+a.cells) with
     | none=>rw[s]at h;cases h
     | some b=>
      rw[s]at h
      cases h
      simp only[Ty.cells]at hl
      obtain⟨x,q⟩:=hx f (List.mem_cons_self ..)
      obtain⟨J,l,c⟩:=w f.type a p _ _ q
      obtain⟨F,z,m⟩:=jgi w r (off+a.cells) b s (fun B G=>hx B (List.mem_cons_of_mem _ G)) zO
      refine⟨J++F,.pair l z,?_,fun j y u o i=>?_⟩
      ·have:=l.len;have:=z.len
       simp only[List.length_drop,List.length_append]
       omega
      ·rw[d,D]at c
       rw[List.getElem?_append]at i
       rw[l.len]at i
       rw[List.getElem?_drop]at o
       split at i
       ·rename_i k
        exact c.2 j y u (by rw[List.getElem?_take,if_pos k,List.getElem?_drop];exact o) i
       ·rename_i K
        exact m.2 (j - a.cells) y u (by rw[List.getElem?_drop,show off+a.cells+(j - a.cells)=off+j from by omega];exact o) i
    ·cases h
  ·cases h
theorem jmz:∀ (n:Nat) (t:TypeId) (ty:Ty),jy7 P n t=some ty→∀ (B:Nat) (cs:List Value) (x:DataW H × List MemPlace),DataW.trod enc P W 0 (fun _=>true) true B t cs=some x→∃I,Sh ty I∧Reps (Xu W) cs I
 | 0,_,_,h,_,_,_,_=>by cases h
 | n+1,t,ty,h,B,cs,x,K=>by
  simp only[jy7]at h
  split at h
  ·rename_i r
   cases h
   obtain⟨b,rfl,_⟩:=DataW.trod_bool r K
   exact⟨_,.bool b,Reps.one (.bool b)⟩
  ·rename_i k r
   cases h
   obtain⟨b,rfl,_⟩:=DataW.trod_int r K
   exact⟨_,.int k b,Reps.one (.int k b)⟩
  ·rename_i r
   cases h
   obtain⟨s,rfl,_⟩:=DataW.trod_string r K
   exact⟨_,.str s.data.toList,Reps.one (.str s)⟩
  ·rename_i e r
   cases L:jy7 P n e with
   | none=>rw[L]at h;cases h
   | some g=>
    rw[L,Option.bind_some]at h
    split at h
    ·rename_i hc
     cases h
     rcases DataW.trod_slice r K with⟨rfl,_⟩|⟨a,len,c1,b8,c3,m,_,rfl,_,_,M,hm,c4,G,_,_⟩
     ·exact⟨_,.nil,Reps.one .slnil⟩
     ·have a0:∀i,i<len→∃I,Sh g I∧∃c,W.cells? 0 (a.add (i*g.cells)) g.cells=some c∧Reps (Xu W) c I:=by
       intro i N
       have w:=G i N
       rw[List.getElem?_eq_getElem zO,hc]at w
       obtain⟨c,b5,b0⟩:=Option.bind_eq_some_iff.1 w
       obtain⟨I,h3,h4⟩:=jmz n e g L m c _ b0
       exact⟨I,h3,c,b5,h4⟩
      obtain⟨p,w,h2⟩:=ji4 len a0
      have X:∀e∈p,Sh g e:=fun e L=>by
       obtain⟨i,N⟩:=List.getElem?_of_mem L
       exact(h2 i e N).1
      have U:∀e∈p,e.length=g.cells:=fun e L=>(X e L).len
      have F:∀ (j:Nat) (v:V),p.flatten[j]? = some v→0<g.cells∧j / g.cells<len∧∃y,W.cell? ((a.add (j / g.cells*g.cells)).add (j % g.cells))=some y∧RepP (Xu W) y v∧v.pureLeaf=true:=by
       intro j v d
       have S:0<g.cells:=by
        rcases Nat.eq_zero_or_pos g.cells with h|h
        ·have:=jnz p U
         rw[h,Nat.mul_zero]at this
         rw[List.length_eq_zero_iff.1 this]at d
         simp at d
        ·exact h
       rw[jhq S p U]at d
       cases z:p[j / g.cells]? with
       | none=>rw[z]at d;cases d
       | some e=>
        rw[z,Option.bind_some]at d
        have J:j / g.cells<len:=by rw[← w];exact(List.getElem?_eq_some_iff.1 z).1
        obtain⟨Z,c,b6,T⟩:=h2 _ e z
        have c2:=Nat.mod_lt j S
        have q:=(World.cells?_some b6).2.2 _ c2
        have b9:c.length=g.cells:=by rw[T.1,Z.len]
        rw[List.getElem?_eq_getElem zO]at q
        exact⟨S,J,_,q,T.2 _ _ v (List.getElem?_eq_getElem zO) d,Z.pure v (List.mem_of_getElem? d)⟩
      have D:p.flatten≠[]→a.spot=none:=by
       intro c0
       obtain⟨v,hv⟩:∃v,p.flatten[0]? = some v:=by
        cases O:p.flatten with
        | nil=>exact absurd O c0
        | cons v l=>exact⟨v,rfl⟩
       obtain⟨S,_,y,u,_⟩:=F 0 v hv
       rw[Nat.zero_div,Nat.zero_mod,Nat.zero_mul]at u
       simpa[Addr.add] using World.cell?_spot u
      have o:∀ (j:Nat) (v:V),p.flatten[j]? = some v→∃y,W.cell? ⟨a.block,a.off+j,none⟩=some y∧RepP (Xu W) y v:=by
       intro j v d
       obtain⟨S,_,y,u,hr,_⟩:=F j v d
       have hs:=D (fun h=>by rw[h]at d;simp at d)
       obtain⟨b,off,sp⟩:=a
       simp only at hs
       subst hs
       rw[add_plain,add_plain]at u
       refine⟨y,?_,hr⟩
       rw[← u,Nat.add_assoc,Nat.div_add_mod']
      rw[← w]at M
      refine⟨_,.slice p (Nat.le_trans M hm) X,Reps.one ?_⟩
      rw[w]at M ⊢
      refine RepP.sl a len c1 p.flatten (fun j=>(W.cell? ⟨a.block,a.off+j,none⟩).getD .nilFunc) D M hm (fun j d=>?_) (fun j v d=>?_) (fun j v d=>?_)
      ·obtain⟨y,u,_⟩:=o j _ (List.getElem?_eq_getElem d)
       show W.cell? _=some ((W.cell? _).getD _)
       rw[u]
       rfl
      ·exact(F j v d).2.2.choose_spec.2.2
      ·obtain⟨y,u,hr⟩:=o j v d
       show RepP _ ((W.cell? _).getD _) v
       rw[u]
       exact hr
    ·cases h
  ·rename_i fs r
   cases O:WM P (jy7 P n) fs.toList 0 with
   | none=>rw[O]at h;cases h
   | some b=>
    rw[O,Option.bind_some]at h
    split at h
    ·rename_i hc
     cases h
     obtain⟨xs,m,rfl,_,M,hn,G⟩:=DataW.trod_struct r K
     have:=jgi (n:=m) (cs:=cs) (fun t ty h cs x K=>jmz n t ty h m cs x K) fs.toList 0 ty O (fun f b7=>by
      obtain⟨i,N⟩:=List.getElem?_of_mem b7
      have Q:fs[i]? = some f:=by simpa using N
      have w:=G i f Q
      have J:i<xs.length:=by rw[hn];exact(Array.getElem?_eq_some_iff.1 Q).1
      rw[List.getElem?_eq_getElem J]at w
      exact⟨_,w⟩) (by rw[Nat.zero_add,M,hc])
     simpa using this
    ·cases h
  ·cases h
end
end Go.Pv.T
namespace Go.Pv.T
open Go Go.Pv Go.Proofs Go.ChangeShapes Go.WideShapes Go.ChangeAt Go.RowKit Go.Proofs.YtphecmnehkdihaaGreatDoor
theorem jyx      {W:World} {t e:TypeId} {n fuel:Nat} {cs:List Value} {ds:List (DataW Unit)} {p:List MemPlace} {f0 f1:Field} {k0 k1:IntKind} (ht:Tryz.prog.underlying t=some (.array n e)) (hc:Tryz.prog.cellsOf e=2)
    (he:Tryz.prog.underlying e=some (.struct #[f0,f1])) (o0:f0.offset=0) (o1:f1.offset=1) (c0:Tryz.prog.cellsOf f0.type=1) (c1:Tryz.prog.cellsOf f1.type=1)
    (u0:Tryz.prog.underlying f0.type=some (.int k0)) (u1:Tryz.prog.underlying f1.type=some (.int k1)) (h:DataW.trod (fun _=>()) Tryz.prog W 0 (fun _=>true) false fuel t cs=some (.agg ds,p)) (I:IMap) :
    ∀ (j:Nat) (d:DataW Unit),(ds.map aggOf).flatten[j]? = some d→∃x,cs[j]? = some x∧RepP I x (jkp d):=by
  obtain⟨xs,m,rfl,hx,hlen,hn,hel⟩:=DataW.trod_array ht h
  simp only[Prod.mk.injEq,DataW.agg.injEq]at hx
  have one:∀ (l:List Value) (j:Nat) c,(l.drop j).take 1=[c]→l[j]? = some c:=by
    intro l j c hcc
    have:=congrArg List.head? hcc
    simpa[List.head?_take,List.head?_drop] using this
  have each:∀ (j:Nat) (y:DataW Unit × List MemPlace),xs[j]? = some y→∃d0 d1 x0 x1,y.1=.agg [d0,d1]∧cs[j*2]? = some x0∧RepP I x0 (jkp d0)∧cs[j*2+1]? = some x1∧RepP I x1 (jkp d1):=by
    intro j y hy
    have hj:j<n:=by rw[← hn];exact(List.getElem?_eq_some_iff.1 hy).1
    have h2:=hel j hj
    rw[hc,hy]at h2
    obtain⟨y0,y1,m',e1,hl2,g0,g1⟩:=trod_struct2 he h2
    rw[o0,c0]at g0
    rw[o1,c1]at g1
    obtain⟨z0,a0,b0,_⟩:=DataW.trod_int u0 g0
    obtain⟨z1,a1,b1,_⟩:=DataW.trod_int u1 g1
    have q0:=one _ _ _ a0
    have q1:=one _ _ _ a1
    rw[List.getElem?_take,if_pos zO,List.getElem?_drop]at q0 q1
    refine⟨y0.1,y1.1,_,_,by rw[e1],by simpa using q0,?_,q1,?_⟩
    · rw[b0];exact RepP.int k0 z0
    · rw[b1];exact RepP.int k1 z1
  have hds:ds=xs.map (·.1):=hx.1
  have len2:∀e∈ds.map aggOf,e.length=2:=by
    intro e he
    rw[hds,List.map_map]at he
    obtain⟨y,hy,rfl⟩:=List.mem_map.1 he
    obtain⟨j,hj⟩:=List.getElem?_of_mem hy
    obtain⟨d0,d1,x0,x1,e,_⟩:=each j y hj
    simp only[Function.comp,e,aggOf,List.length_cons,List.length_nil]
  intro k d hd
  rw[jhq zD _ len2]at hd
  rw[hds,List.map_map,List.getElem?_map]at hd
  cases hy:xs[k / 2]? with
  | none=>rw[hy]at hd;cases hd
  | some y=>
    rw[hy]at hd
    obtain⟨d0,d1,x0,x1,e,g0,r0,g1,r1⟩:=each _ y hy
    simp only[Option.map_some,Option.bind_some,Function.comp,e,aggOf]at hd
    rcases Nat.mod_two_eq_zero_or_one k with hk|hk
    · rw[hk]at hd
      cases hd
      rw[show k / 2*2=k from by omega]at g0
      exact⟨x0,g0,r0⟩
    · rw[hk]at hd
      cases hd
      rw[show k / 2*2+1=k from by omega]at g1
      exact⟨x1,g1,r1⟩
def accD:List (DataW Unit):=((aggOf Rows.laid_unicode_utf8_acceptRanges).map aggOf).flatten
theorem gAcc:Tryz.prog.globalNamed "unicode/utf8.acceptRanges" = some 3:=by kernel_rfl
theorem acc_eq:accD.map jkp=accR:=by kernel_rfl
theorem j37:Rows.laid_unicode_utf8_acceptRanges=.agg (aggOf Rows.laid_unicode_utf8_acceptRanges):=by kernel_rfl
theorem jyz:(accD.map jkp).all V.pureLeaf=true:=by kernel_rfl
theorem tAcc:(Tryz.prog.globals[3]?).map (·.type)=some 322:=by kernel_rfl
theorem glOk {W:World}(h:laidMetH Tryz.prog jpq W):GlOk E (Xu W):=by
  rw[MakeChecks.laidMetH_plain _ _ _ (by kernel_rfl)]at h
  obtain⟨ps,⟨g3,t3,cs3,f3,p3,q3,hg3,ht3,hv3,hd3,⟨g2,t2,cs2,f2,p2,q2,hg2,ht2,hv2,hd2,⟨g0,t0,cs0,f0,p0,q0,hg0,ht0,hv0,hd0,⟨g1,t1,cs1,f1,p1,q1,hg1,ht1,hv1,hd1,_,_⟩,_⟩,_⟩,_⟩,_,_⟩:=h
  obtain rfl:=Option.some.inj (gWords.symm.trans hg0)
  obtain rfl:=Option.some.inj (gFirst.symm.trans hg1)
  obtain rfl:=Option.some.inj (tWords.symm.trans ht0)
  obtain rfl:=Option.some.inj (tFirst.symm.trans ht1)
  obtain rfl:=Option.some.inj (gBruij.symm.trans hg3)
  obtain rfl:=Option.some.inj (tBruij.symm.trans ht3)
  obtain rfl:=Option.some.inj (gAcc.symm.trans hg2)
  obtain rfl:=Option.some.inj (tAcc.symm.trans ht2)
  intro g cs hcs
  simp only[E]at hcs
  split at hcs
  · cases hcs
    rw[← jyv]
    rw[jup]at hd3
    exact jnt gBruij hv3 jp8 (jma Tryz.underlying281 (by kernel_rfl) (Or.inr ⟨.u8,by kernel_rfl⟩) hd3 _)
  · cases hcs
    rw[← jvn]
    exact jnt gWords hv0 jom (jma Tryz.underlying300 (by kernel_rfl) (Or.inl (by kernel_rfl)) hd0 _)
  · cases hcs
    rw[← jyd]
    rw[jt4]at hd1
    exact jnt gFirst hv1 jpz (jma Tryz.underlying319 (by kernel_rfl) (Or.inr ⟨.u8,by kernel_rfl⟩) hd1 _)
  · cases hcs
    rw[← acc_eq]
    rw[j37]at hd2
    exact jnt gAcc hv2 jyz (jyx (k0:=.u8) (k1:=.u8) Tryz.underlying322 (by kernel_rfl) Tryz.underlying321 rfl rfl (by kernel_rfl) (by kernel_rfl) (by kernel_rfl) (by kernel_rfl) hd2 _)
  · cases hcs
theorem jp7        {f:FuncId} {W:World} {args:Array Value} {vs:List V} (hL:laidMetH Tryz.prog jpq   W) (hlen:args.size=vs.length) (hr:∀ (j:Nat) (x:Value) (v:V),args[j]? = some x→vs[j]? = some v→RepP (Xu     W) x v)
    (he:Ev E f vs (.bool true)):Calls Tryz.prog f args W fun e w'=>e=.returned (.bool true)∧W.grownBy w' none:=by
  refine(Ev.sound mixed envOk he W (Xu W) args (juk W) (glOk hL) hlen hr).mono fun e W' ⟨x,τ,I',h1,h2,_,_,_,h3,_⟩=>⟨?_,h2⟩
  rw[h1]
  have h4:RepP I' x (.bool true):=h3
  cases h4
  rfl
abbrev j44:Ty:=.pair (.int .i64) (.pair (.int .i64) .unit)
abbrev opTy:Ty:=.pair .bool (.pair (.int .i64) (.pair j44 .unit))
abbrev j47:Ty:=.pair (.int .i64) (.pair (.int .i64) (.pair (.slice opTy) .unit))
abbrev jzx:Ty:=.pair (.slice .str) (.pair (.slice .str) (.pair (.slice j47) .unit))
theorem jac {α:Type}{t:Ty}{f:α→List V}(hf:∀e,Sh t e→∃a,e=f a) {vs:List V}(h:Sh (.slice t) vs):∃nl l,vs=[slOf nl f l]:=by
 cases h with
 | nil=>exact⟨true,[],rfl⟩
 | slice es hn h=>
  have all:∀es:List (List V),(∀e∈es,Sh t e)→∃l:List α,es=l.map f:=by
   intro es
   induction es with
   | nil=>intro _;exact⟨[],rfl⟩
   | cons e es ih=>
    intro h
    obtain⟨a,rfl⟩:=hf e (h e (List.mem_cons_self ..))
    obtain⟨l,rfl⟩:=ih (fun e he=>h e (List.mem_cons_of_mem _ he))
    exact⟨a::l,rfl⟩
  obtain⟨l,rfl⟩:=all es h
  exact⟨false,l,by simp[slOf,List.flatMap]⟩
theorem j5m {vs:List V}(h:Sh j44 vs):∃v:Val',vs=jv v:=by
 cases h with
 | pair ha hb=>cases ha with
  | int _ k=>cases hb with
   | pair hc hd=>cases hc with
    | int _ n=>cases hd;exact⟨⟨k,n⟩,rfl⟩
theorem sh_op {vs:List V}(h:Sh opTy vs):∃o:Op',vs=opC o:=by
 cases h with
 | pair ha hb=>cases ha with
  | bool w=>cases hb with
   | pair hc hd=>cases hc with
    | int _ k=>cases hd with
     | pair he hf=>
      obtain⟨v,rfl⟩:=j5m he
      cases hf
      exact⟨⟨w,k,v⟩,rfl⟩
theorem j5n {vs:List V}(h:Sh j47 vs):∃t:Txn',vs=ji t:=by
 cases h with
 | pair ha hb=>cases ha with
  | int _ s=>cases hb with
   | pair hc hd=>cases hc with
    | int _ f=>cases hd with
     | pair he hf=>
      obtain⟨nl,l,rfl⟩:=jac (f:=opC) (fun e=>sh_op) he
      cases hf
      exact⟨⟨s,f,nl,l⟩,rfl⟩
theorem jze {vs:List V}(h:Sh .str vs):∃s:List UInt8,vs=Jj s:=by
 cases h with
 | str s=>exact⟨s,rfl⟩
theorem j01 {vs:List V}(h:Sh jzx vs):∃g:Hist',vs=histC g:=by
 cases h with
 | pair ha hb=>cases hb with
  | pair hc hd=>cases hd with
   | pair he hf=>
    obtain⟨n0,l0,rfl⟩:=jac (f:=Jj) (fun e=>jze) ha
    obtain⟨n1,l1,rfl⟩:=jac (f:=Jj) (fun e=>jze) hc
    obtain⟨n2,l2,rfl⟩:=jac (f:=ji) (fun e=>j5n) he
    cases hf
    exact⟨⟨n0,l0,n1,l1,n2,l2⟩,rfl⟩
theorem jjr {v:V}(h:v.pureLeaf=true):v.leaf=true:=by cases v <;> first|rfl|cases h
section
variable {H:Type}{enc:TypeId × Value→H}{W:World}{v:Value}{d:DataW H}{p:List MemPlace}{base:Nat}
theorem joq {t:TypeId}{fs:Array Field}{n:Nat}{ty:Ty}(ht:Tryz.prog.underlying t=some (.struct fs)) (hty:jy7 Tryz.prog n t=some ty) (hval:Value.okWide Tryz.prog W .any base t v)
 (h:DataW.Trod enc Tryz.prog W 0 (fun _=>true) true t v d p):∃vs,Sh ty vs∧RepP (Xu W) v (.agg vs):=by
 obtain⟨cs,rfl,_⟩:=okWide_struct ht hval
 obtain⟨fuel,hf⟩:=h
 obtain⟨vs,hs,hr⟩:=jmz n t ty hty fuel _ _ hf
 refine⟨vs,hs,RepP.agg cs vs (by simpa[Value.cells] using hr.1) (fun j v hj=>jjr (hs.pure v (List.mem_of_getElem? hj))) (fun j x v hx hv=>hr.2 j x v (by simpa[Value.cells] using hx) hv)⟩
theorem jyu {t:TypeId}{n:Nat}{ty:Ty}(hc:v.cells.toList=[v]) (hty:jy7 Tryz.prog n t=some ty)
 (h:DataW.Trod enc Tryz.prog W 0 (fun _=>true) true t v d p):∃vs,Sh ty vs∧Reps (Xu W) [v] vs:=by
 obtain⟨fuel,hf⟩:=h
 rw[hc]at hf
 exact jmz n t ty hty fuel _ _ hf
theorem j1h (ts:List TypeId) (h:(ts.all fun t=>Tryz.prog.readableRec t && decide (t<Tryz.prog.types.size))=true) (t:TypeId) (ht:t∈ts):Tryz.prog.readableRec t=true∧t<Tryz.prog.types.size:=by
 have:=List.all_eq_true.1 h t ht
 simpa using this
theorem jx8 (hval:Value.okWide Tryz.prog W .any base 25 v) (h:DataW.Trod enc Tryz.prog W 0 (fun _=>true) true 25 v d p):∃g:Hist',RepP (Xu W) v (.agg (histC g)):=by
 obtain⟨vs,hs,hr⟩:=joq (n:=8) (ty:=jzx) Tryz.underlying25 (by kernel_rfl) hval h
 obtain⟨g,rfl⟩:=j01 hs
 exact⟨g,hr⟩
theorem jnp (hval:Value.okWide Tryz.prog W .any base 26 v) (h:DataW.Trod enc Tryz.prog W 0 (fun _=>true) true 26 v d p):∃ (nl:Bool) (l:List Int),RepP (Xu W) v (slOf nl intC l):=by
 obtain⟨a0,len,cap,rfl⟩:=okWide_slice Tryz.underlying26 hval
 obtain⟨vs,hs,hr⟩:=jyu (n:=4) (ty:=.slice (.int .i64)) rfl (by kernel_rfl) h
 obtain⟨nl,l,rfl⟩:=jac (f:=intC) (fun e he=>by cases he with|int _ k=>exact⟨k,rfl⟩) hs
 exact⟨nl,l,hr.2 0 _ _ rfl rfl⟩
theorem j22 (hval:Value.okWide Tryz.prog W .any base 3 v):∃n:Int,RepP (Xu W) v (.int .i64 n):=by
 obtain⟨n,rfl⟩:=okWide_int Tryz.underlying3 hval
 exact⟨n,RepP.int .i64 n⟩
end
section
end
end Go.Pv.T
