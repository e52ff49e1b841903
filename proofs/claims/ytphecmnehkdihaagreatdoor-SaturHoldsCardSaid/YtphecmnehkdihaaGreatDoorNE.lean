/- Lists: whether a number is in one, where; the same places; what is committed. -/
import Derived.Test.YtphecmnehkdihaaGreatDoorND
set_option maxRecDepth 100000
set_option maxHeartbeats 8000000
namespace Go.Pv.T
open Go Go.Pv
theorem ev62 {a:Bool}(l:List Int) (v:l.length≤1000000000) (k:Int):Ev E 62 [slOf a intC l,.int .i64 k] (.bool (l.contains k)):=by
 refine jP (af:=F62) rfl ?_
 obtain⟨c,p⟩:∃c,l.contains k=c:=⟨_,rfl⟩
 rw[p]
 simp[F62]
 refine j9 [(4,30)] l.length (fun i s=>s.tm 5=.int .i64 i∧(l.drop i).contains k=c) rfl rfl ⟨zS,by simpa using p⟩ ?_
 rintro i s w ⟨m,h⟩ f
 have n:s.tm 0=slOf a intC l:=by rw[f.t 0 zS];simp
 have r:s.tm 1=.int .i64 k:=by rw[f.t 1 zS];simp
 have q:s.df=[]:=by rw[f.d];simp
 clear f
 by_cases b:i<l.length
 ·have u:=jh b zO
  have o:=JP l b
  rw[List.drop_eq_getElem_cons b,List.contains_cons]at h
  cases j:(l[i] == k)
  ·have g:(k == l[i])=false:=by rw[beq_eq_false_iff_ne]at j ⊢;exact fun e=>j e.symm
   rw[g,Bool.false_or]at h
   simp[m,n,r,b,j4 jC,o,j,u]
   simpa using h
  ·have g:(k == l[i])=true:=by rw[beq_iff_eq]at j ⊢;exact j.symm
   rw[g,Bool.true_or]at h
   simp[m,n,r,b,j4 jC,o,j]
   exact j3 (by simp[q]) (by rw[← h];simp) rfl
 ·have:i=l.length:=zO
  subst this
  rw[List.drop_length]at h
  simp[m,n]
  exact j3 (by simp[q]) (by rw[← h];simp) rfl
def jb8:List Int→Int→Nat→Int
 | [],_,_=>-1
 | x::r,k,n=>if k == x then n else jb8 r k (n+1)
theorem jhp (k:Int):∀ (l:List Int) (n:Nat),decide (jb8 l k n<0) = !l.contains k
 | [],n=>rfl
 | x::r,n=>by
  rw[jb8,List.contains_cons]
  cases h:(k == x)
  ·simpa using jhp k r (n+1)
  ·simp
theorem ev127 {a:Bool}(l:List Int) (q:l.length≤1000000000) (k:Int):Ev E 127 [slOf a intC l,.int .i64 k] (.int .i64 (jb8 l k 0)):=by
 refine jP (af:=F127) rfl ?_
 simp[F127]
 refine j9 [(4,5),(8,30)] l.length (fun i s=>s.tm 8=.int .i64 i∧jb8 (l.drop i) k i=jb8 l k 0) rfl rfl ⟨zS,zS⟩ ?_
 rintro i s r ⟨h,c⟩ f
 have j:s.tm 0=slOf a intC l:=by rw[f.t 0 zS];simp
 have o:s.tm 1=.int .i64 k:=by rw[f.t 1 zS];simp
 have g:s.tm 7=.int .i64 l.length:=by rw[f.t 7 zS];simp
 have n:s.df=[]:=by rw[f.d];simp
 clear f
 by_cases b:i<l.length
 ·have p:=jh b zO
  have m:=JP l b
  rw[List.drop_eq_getElem_cons b,jb8]at c
  cases e:(k == l[i])
  ·rw[e]at c
   simp[h,j,o,g,b,j4 jC,m,e,p]
   simpa using c
  ·rw[e]at c
   simp[h,j,o,g,b,j4 jC,m,e]
   exact j3 (by simp[n]) (by rw[← c];simp) rfl
 ·have:i=l.length:=zO
  subst this
  rw[List.drop_length,jb8]at c
  simp[h,g]
  exact j3 (by simp[n]) (by rw[← c];simp) rfl
theorem Q8 (l:List (Int × Int)) (ob:ZO) {i:Nat}(h:i<l.length):Yw ob (some 2) (.eptr (l.flatMap jD) (i*2))=some (.agg [.int .i64 (l[i]).1,.int .i64 (l[i]).2]):=jb jO ob l h
def Jf (t:Txn'):Bool:=t.f == 1
def comH (g:Hist'):List Int:=if JV g then numsTo Jf g.ts g.ts.length else []
theorem ev71 {g:Hist'}(F:Small g):∃v,Ev E 71 [.agg (histC g)] v∧SlR v (comH g).isEmpty (comH g).length ((comH g).flatMap intC):=by
 have m:=ev52 F
 have H:=F.ts
 refine XP (af:=F71) rfl zD ?_
 unfold comH
 cases q:JV g
 ·rw[q]at m
  simp[F71,histC,j0]
  refine jR m (by simp[histC]) rfl (by simp[histC]) ?_
  simp
  exact slE (t:=none) (nl:=true) (k:=0) (cs:=[]) (fun r h=>h) zS zS
 rw[q]at m
 simp[F71,histC,j0]
 refine jR m (by simp[histC]) rfl (by simp[histC]) ?_
 simp[j0]
 refine j9 [(3,5),(12,24)] g.ts.length (fun i s=>s.tm 12=.int .i64 i∧Grow s.tk 0 s.nx intC 1 (numsTo Jf g.ts i) (s.tm 3)) rfl rfl ⟨zS,by simp[numsTo];exact Grow.nil _ _ _ _ _⟩ ?_
 rintro i s hi ⟨j,z⟩ f
 have w:s.tm 10=slOf g.tn ji g.ts:=by rw[f.t 10 zS];simp
 have n:s.tm 11=.int .i64 g.ts.length:=by rw[f.t 11 zS];simp
 have J:s.df=[]:=by rw[f.d];simp
 have D:s.fb=0:=by rw[f.b];simp
 have fr:s.ro=0:=by rw[f.r];simp
 clear f
 by_cases e:i<g.ts.length
 ·have q:=jh e zO
  have c:=Jc (p:=Jf) e
  obtain⟨t,x⟩:∃t,g.ts[i]=t:=⟨_,rfl⟩
  rw[x]at c
  have I:=JG Jf g.ts i
  cases hi:Jf t
  ·have o:(t.f == 1)=false:=hi
   rw[hi]at c
   simp only[Bool.false_eq_true,if_false,List.append_nil]at c
   simp[j,w,n,e,j4 j8,jb j8,x,ji,j0,D,fr,j5,o,q]
   rw[c];exact z.mono (fun u _ _ h=>by simpa[JD] using h) zO
  ·have o:(t.f == 1)=true:=hi
   rw[hi]at c
   simp only[if_true]at c
   simp[j,w,n,e,j4 j8,jb j8,x,ji,j0,D,fr,j5,o]
   refine jS (cs:=[.int .i64 i]) (by simp[j5]) rfl rfl ?_
   simp
   refine YB (f:=intC) (lo:=0) (hi:=s.nx) (l:=numsTo Jf g.ts i) (a:=(i:Int)) (v:=s.tm 3) (z.mono (fun u _ _ h=>by simp[JC,h]) zR) zS (by simp[jI,intC]) jC zD rfl zO zO (fun K G=>?_)
   have B:numsTo Jf g.ts (i+1)≠[]:=by rw[c];simp
   have y:(numsTo Jf g.ts i).length+1=(numsTo Jf g.ts (i+1)).length:=by rw[c];simp
   rw[← c,y]
   simp[j,q]
   exact⟨e,.inr ⟨B,_,rfl,by simp[JC],Nat.zero_le _,zO⟩⟩
 ·have:i=g.ts.length:=zO
  subst this
  obtain⟨t,x⟩:=z.form
  simp[j,n]
  exact slE (t:=t) (nl:=(numsTo Jf g.ts g.ts.length).isEmpty) (k:=(numsTo Jf g.ts g.ts.length).length) (cs:=(numsTo Jf g.ts g.ts.length).flatMap intC) (fun r h=>h) (by simp[J]) (by simp[x])
theorem ev84n (t:Txn') (L:t.ops.length≤1000000) (k:Int) {n:Nat}(M:n≤t.ops.length):Ev E 84 [.agg (ji t),.int .i64 n,.int .i64 k] (.tup [.agg (jv (JM k t.ops n).1),.bool (JM k t.ops n).2]):=by
 refine jP (af:=F84) rfl ?_
 simp[F84,ji,j0,j5]
 refine j9 [(9,10),(12,45)] n (fun i s=>s.tm 10=.int .i64 i∧s.ob 6=some ⟨0,.cells (ji t)⟩∧s.ob 12=some ⟨64,.cells [.int .i64 0,.int .i64 0]⟩∧s.ob 16=some ⟨256,.cells (jv (JM k t.ops i).1)⟩∧s.tm 9=.bool (JM k t.ops i).2) rfl rfl
  ⟨zS,by simp[ji],zS,by simp[JM,jv],by simp[JM]⟩ ?_
 rintro i s N ⟨m,z,h,j,B⟩ f
 have u:s.tm 1=.int .i64 n:=by rw[f.t 1 zS];simp
 have I:s.tm 2=.int .i64 k:=by rw[f.t 2 zS];simp
 have D:s.tm 3=.ptr 6 0 0:=by rw[f.t 3 zS];simp
 have G:s.tm 6=.ptr 12 64 0:=by rw[f.t 6 zS];simp
 have H:s.tm 8=.ptr 16 256 0:=by rw[f.t 8 zS];simp
 have K:s.df=[]:=by rw[f.d];simp
 have fr:s.ro=0:=by rw[f.r];simp
 clear f
 by_cases p:i<n
 ·have a:i<t.ops.length:=zO
  have F:=jh a zO
  have c:=Q7 (k:=k) a
  obtain⟨o,x⟩:∃o,t.ops[i]=o:=⟨_,rfl⟩
  rw[x]at c
  have y:(t.ops.flatMap opC)[i*4]? = some (.bool o.w):=by
   have:=jW jF t.ops a (by decide:0<4)
   rw[Nat.add_zero,x]at this
   rw[this];rfl
  have a1:(t.ops.flatMap opC)[i*4+1]? = some (.int .i64 o.key):=by
   rw[jW jF t.ops a (by decide:1<4),x];rfl
  have a2:∀ob,Yw ob (some 2) (.eptr (t.ops.flatMap opC) (i*4+2))=some (.agg (jv o.v)):=fun ob=>by
   have J:i*4+4≤t.ops.length*4:=zO
   rw[jbk,Q9,if_pos (by rw[j7 jF];omega)]
   have:=Xb jF t.ops i a
   rw[x]at this
   have e:((t.ops.flatMap opC).drop (i*4+2)).take 2=((((t.ops.flatMap opC).drop (i*4)).take 4).drop 2):=by
    rw[List.drop_take,List.drop_drop]
   rw[e,this]
   rfl
  cases b:o.w
  ·have q:wkB k o=false:=by unfold wkB;rw[b];rfl
   rw[q]at c
   simp only[Bool.false_eq_true,if_false]at c
   simp[m,u,D,z,j0,ji,p,a,j4 jF,y,b,F,h,j,B]
   exact⟨by rw[c],by rw[c]⟩
  ·cases g:(o.key == k)
   ·have q:wkB k o=false:=by unfold wkB;rw[b,g];rfl
    rw[q]at c
    simp only[Bool.false_eq_true,if_false]at c
    simp[m,u,I,D,z,j0,ji,p,a,j4 jF,y,a1,b,g,F,h,j,B]
    exact⟨by rw[c],by rw[c]⟩
   ·have q:wkB k o=true:=by unfold wkB;rw[b,g];rfl
    rw[q]at c
    simp only[if_true]at c
    simp[m,u,I,D,H,z,j0,ji,p,a,j4 jF,y,a1,a2,b,g,F,h,j,jv,fr,j5]
    rw[c]
    simp
 ·have:i=n:=zO
  subst this
  simp[m,u,H,j,j0,B,G,h,jv,fr,j5]
  exact J0 (by simp[K]) (l:=[.agg (jv (JM k t.ops i).1),.bool (JM k t.ops i).2]) (by simp[jp,j0,G,jv]) rfl rfl
theorem ev120 {g:Hist'}(o:Small g) (a b:Int):Ev E 120 [.agg (histC g),.agg (jD (a,b))] (.bool (opAt g a b).isSome):=by
 have m:=ev58 o
 have r:=o.ts
 refine jP (af:=F120) rfl ?_
 obtain⟨R,c⟩:∃R,opAt g a b=R:=⟨_,rfl⟩
 rw[c]
 unfold opAt at c
 simp[F120,histC,j0,jD]
 refine JU m (by simp[histC]) rfl (by simp[histC]) ?_
 cases h:Wp g
 ·rw[Qm h]
  rw[h]at c
  subst c
  simp
  exact j3 zS zS rfl
 rw[h]at c
 rw[Yh h]
 by_cases w:a<0
 ·have d:¬ 0≤a:=zO
  rw[if_neg (by simp;omega)]at c
  subst c
  simp[d,j0]
  exact j3 zS zS rfl
 have d:0≤a:=zO
 by_cases s:(g.ts.length:Int)≤a
 ·have e:¬ (a<(g.ts.length:Int)):=zO
  rw[if_neg (by simp;omega)]at c
  subst c
  simp[d,e,j0]
  exact j3 zS zS rfl
 have e:a<(g.ts.length:Int):=zO
 by_cases u:b<0
 ·have l:¬ 0≤b:=zO
  rw[if_neg (by simp;omega)]at c
  subst c
  simp[d,e,l,j0]
  exact j3 zS zS rfl
 have l:0≤b:=zO
 obtain⟨i,rfl⟩:∃i:Nat,a=i:=⟨a.toNat,zO⟩
 have k:i<g.ts.length:=zO
 rw[Int.toNat_natCast,JA k]at c
 obtain⟨t,p⟩:∃t,g.ts[i]=t:=⟨_,rfl⟩
 rw[p]at c
 have f:(g.ts.flatMap ji)[i*3+2]? = some (slOf t.nl opC t.ops):=by
  rw[jW j8 g.ts k (by decide:2<3),p];rfl
 by_cases v:(t.ops.length:Int)≤b
 ·have n:¬ (b<(t.ops.length:Int)):=zO
  rw[if_neg (by simp;omega)]at c
  subst c
  simp[d,e,l,n,j0,k,j4 j8,f]
  exact j3 zS zS rfl
 have n:b<(t.ops.length:Int):=zO
 obtain⟨j,rfl⟩:∃j:Nat,b=j:=⟨b.toNat,zO⟩
 have q:j<t.ops.length:=zO
 rw[if_pos (by simp;omega),Int.toNat_natCast,List.getElem?_eq_getElem q]at c
 subst c
 simp[d,e,l,n,j0,k,j4 j8,f]
 exact j3 zS zS rfl
def jo9 (g:Hist') (a b:Int):Val' × Bool:=match opAt g a b with
 | some o=>JM o.key (g.ts.getD a.toNat ⟨0,0,true,[]⟩).ops b.toNat
 | none=>(⟨0,0⟩,false)
def jai (g:Hist') (a b:Int):Bool:=match opAt g a b with
 | some o=>!o.w && !(jo9 g a b).2
 | none=>false
theorem ev121 {g:Hist'}(p:Small g) (a b:Int):Ev E 121 [.agg (histC g),.agg (jD (a,b))] (.tup [.agg (jv (jo9 g a b).1),.bool (jo9 g a b).2]):=by
 have c:=ev120 p a b
 refine jP (af:=F121) rfl ?_
 unfold jo9
 cases d:opAt g a b with
 | none=>
  rw[d]at c
  simp[F121,histC,jD,j0]
  refine jR c (by simp[histC,jD]) rfl (by simp[histC,jD]) ?_
  simp[j0,j5]
  exact J0 zS (l:=[.agg (jv ⟨0,0⟩),.bool false]) (by simp[jp,j0,jv]) rfl rfl
 | some o=>
  rw[d]at c
  obtain⟨i,j,rfl,rfl,e,m,q⟩:=jd6 d
  have r:=p.os _ (List.getElem_mem e)
  have h:=ev84n g.ts[i] zO o.key (n:=j) zO
  simp only[Int.toNat_natCast]
  rw[JA e]
  have k:(g.ts.flatMap ji)[i*3+2]? = some (slOf (g.ts[i]).nl opC (g.ts[i]).ops):=by
   rw[jW j8 g.ts e (by decide:2<3)];rfl
  have f:((g.ts[i]).ops.flatMap opC)[j*4+1]? = some (.int .i64 o.key):=by
   rw[jW jF (g.ts[i]).ops m (by decide:1<4),q];rfl
  simp[F121,histC,jD,j0]
  refine jR c (by simp[histC,jD]) rfl (by simp[histC,jD]) ?_
  simp[j0,e,m,j4 j8,j4 jF,jb j8,k,f]
  refine JU h (by simp[ji]) rfl (by simp[ji]) ?_
  rw[Jh (by simp[V.plain,jv])]
  generalize (JM o.key g.ts[i].ops j).1=rv at *
  generalize (JM o.key g.ts[i].ops j).2=rb at *
  simp[jv,j0,j5]
  exact J0 zS (l:=[.agg [.int .i64 rv.kind,.int .i64 rv.n],.bool rb]) (by simp[jp,j0]) rfl rfl
theorem ev74 {g:Hist'}(m:Small g) (a b:Int):Ev E 74 [.agg (histC g),.agg (jD (a,b))] (.bool (jai g a b)):=by
 have c:=ev120 m a b
 have e:=ev121 m a b
 refine jP (af:=F74) rfl ?_
 unfold jai
 cases d:opAt g a b with
 | none=>
  rw[d]at c
  simp[F74,histC,jD,j0]
  refine JU c (by simp[histC,jD]) rfl (by simp[histC,jD]) ?_
  simp
  exact j3 zS zS rfl
 | some o=>
  rw[d]at c
  obtain⟨i,j,rfl,rfl,l,k,p⟩:=jd6 d
  have f:(g.ts.flatMap ji)[i*3+2]? = some (slOf (g.ts[i]).nl opC (g.ts[i]).ops):=by
   rw[jW j8 g.ts l (by decide:2<3)];rfl
  have h:((g.ts[i]).ops.flatMap opC)[j*4]? = some (.bool o.w):=by
   have:=jW jF (g.ts[i]).ops k (by decide:0<4)
   rw[Nat.add_zero,p]at this
   rw[this];rfl
  simp[F74,histC,jD,j0]
  refine JU c (by simp[histC,jD]) rfl (by simp[histC,jD]) ?_
  generalize jo9 g (i:Int) (j:Int)=ow at *
  cases n:o.w
  ·simp[j0,l,k,j4 j8,j4 jF,f,h,n]
   refine jR e (by simp[histC,jD]) rfl (by simp[histC,jD]) ?_
   rw[Jh (by simp[V.plain,jv])]
   simp[jv,j0,j5]
   exact j3 zS zS rfl
  ·simp[j0,l,k,j4 j8,j4 jF,f,h,n]
   exact j3 zS zS rfl
theorem ev136 {g:Hist'}(F:Small g) (a b:Int):Ev E 136 [.agg (histC g),.agg (jD (a,b))] (.bool (jai g a b)):=by
 have e:=ev176 F a
 refine jP (af:=F136) rfl ?_
 unfold jai
 cases c:opAt g a b with
 | none=>
  simp[F136,histC,jD,j0]
  refine jR e (by simp[histC]) rfl (by simp[histC]) ?_
  rw[Y9 rfl,jN]
  have r:b<0∨((Jk g a).2.length:Int)≤b:=by
   unfold opAt at c
   unfold Jk
   by_cases d:(Wp g && (decide (0≤a) && decide (a<g.ts.length)))=true
   ·rw[if_pos d]
    simp only[Bool.and_eq_true,decide_eq_true_eq]at d
    by_cases m:b<0
    ·exact .inl m
    ·by_cases B:b<((g.ts.getD a.toNat ⟨0,0,true,[]⟩).ops.length:Int)
     ·rw[if_pos (by simp only[Bool.and_eq_true,decide_eq_true_eq];exact⟨d.1,d.2.1,d.2.2,zO,B⟩)]at c
      rw[List.getElem?_eq_none_iff]at c
      exact absurd c zO
     ·exact .inr (Int.not_lt.1 B)
   ·rw[if_neg d]
    by_cases m:b<0
    ·exact .inl m
    ·exact .inr (by simp;omega)
  generalize Jk g a=oo at *
  by_cases d:b<0
  ·simp[j0,d]
   exact j3 zS zS rfl
  ·have m:(oo.2.length:Int)≤b:=by rcases r with h|h;exact absurd h d;exact h
   simp[j0,d,m]
   exact j3 zS zS rfl
 | some o=>
  have s:Wp g=true:=by
   unfold opAt at c
   cases J:Wp g
   ·rw[J]at c;cases c
   ·rfl
  unfold jo9
  rw[c]
  obtain⟨i,j,rfl,rfl,x,p,D⟩:=jd6 c
  simp only[Int.toNat_natCast]
  rw[JA x]
  have y:Jk g (i:Int)=((g.ts[i]).nl,(g.ts[i]).ops):=by
   unfold Jk
   rw[s,if_pos (by simp;omega)]
   simp only[Int.toNat_natCast]
   rw[JA x]
  rw[y]at e
  have K:=F.os _ (List.getElem_mem x)
  have u:((g.ts[i]).ops.flatMap opC)[j*4]? = some (.bool o.w):=by
   have:=jW jF (g.ts[i]).ops p (by decide:0<4)
   rw[Nat.add_zero,D]at this
   rw[this];rfl
  have v:((g.ts[i]).ops.flatMap opC)[j*4+1]? = some (.int .i64 o.key):=by
   rw[jW jF (g.ts[i]).ops p (by decide:1<4),D];rfl
  have H:decide ((j:Int)<0)=false:=zS
  have M:decide (((g.ts[i]).ops.length:Int)≤j)=false:=by simp;omega
  have L:((g.ts[i]).ops.length≤j)=False:=by simp;omega
  have I:(((g.ts[i]).ops.length:Int)≤j)=False:=by simp;omega
  have f:j≤(g.ts[i]).ops.length:=zO
  have z:QQ 4 none (some (.int .i64 (j:Int))) (slOf (g.ts[i]).nl opC (g.ts[i]).ops)=some (slOf (g.ts[i]).nl opC ((g.ts[i]).ops.take j)):=by
   have d:=jrc (kk:=.i64) (t:=none) (nl:=(g.ts[i]).nl) (sz:=4) (cs:=(g.ts[i]).ops.flatMap opC) (n:=(g.ts[i]).ops.length) (k:=j) f (j7 jF _)
   refine Eq.trans d ?_
   have m:((g.ts[i]).ops.flatMap opC).take (j*4)=((g.ts[i]).ops.take j).flatMap opC:=by
    conv=>lhs;rw[← List.take_append_drop j (g.ts[i]).ops,List.flatMap_append]
    rw[List.take_left']
    rw[j7 jF,List.length_take,Nat.min_eq_left f]
   rw[m,slOf,List.length_take,Nat.min_eq_left f]
  have q:=ev177 (g.ts[i]).nl ((g.ts[i]).ops.take j) (by rw[List.length_take];omega) o.key
  have l:(WK ((g.ts[i]).ops.take j) o.key).2=(JM o.key (g.ts[i]).ops j).2:=by
   unfold WK
   rw[jdw _ _ _ zR,jdw _ _ _ f,List.take_length]
  simp[F136,histC,jD,j0]
  refine jR e (by simp[histC]) rfl (by simp[histC]) ?_
  rw[Y9 rfl,jN]
  cases G:o.w
  ·simp[j0,H,I,p,j4 jF,u,G]
   simp[z,v,p,j4 jF,j0]
   refine JU q zS rfl zS ?_
   rw[Jh (by simp[V.plain,jv])]
   rw[← l]
   generalize WK ((g.ts[i]).ops.take j) o.key=lw at *
   simp[jv,j0,j5]
   refine⟨by simp[XA,jay,jaz,jb9,rdOb,rdTk,lOf,Delta.wo,Delta.wt];try decide,?_⟩
   exact j3 zS zS rfl
  ·simp[j0,H,I,p,j4 jF,u,G]
   exact j3 zS zS rfl
def jt (g:Hist') (i:Nat):Nat→List (Int × Int)
 | 0=>[]
 | k+1=>jt g i k++(if jai g i k then [((i:Int),(k:Int))] else [])
def X8 (g:Hist'):Nat→List (Int × Int)
 | 0=>[]
 | i+1=>X8 g i++(match g.ts[i]? with|some t=>if Jf t then jt g i t.ops.length else []|none=>[])
def readH (g:Hist'):List (Int × Int):=X8 g g.ts.length
theorem Yt (g:Hist') (i:Nat):∀k,(jt g i k).length≤k
 | 0=>Nat.le_refl _
 | k+1=>by
  have:=Yt g i k
  simp only[jt,List.length_append]
  split <;> simp <;> omega
theorem Q6 {g:Hist'}(a:Small g):∀i,(X8 g i).length≤i*1000
 | 0=>Nat.zero_le _
 | i+1=>by
  have:=Q6 a i
  simp only[X8,List.length_append]
  rw[show(i+1)*1000=i*1000+1000 by omega]
  split
  ·rename_i t b
   have d:=Yt g i t.ops.length
   have c:=a.os t (List.mem_of_getElem? b)
   split
   ·omega
   ·simp only[List.length_nil];omega
  ·simp only[List.length_nil];omega
theorem jds {g:Hist'}{i:Nat}(h:i<g.ts.length):X8 g (i+1)=X8 g i++(if Jf g.ts[i] then jt g i (g.ts[i]).ops.length else []):=by
 simp only[X8,List.getElem?_eq_getElem h]
theorem ev31 {g:Hist'}(D:Small g):∃v,Ev E 31 [.agg (histC g)] v∧SlR v false (readH g).length ((readH g).flatMap jD):=by
 have b5:=D.ts
 refine XP (af:=F31) rfl zD ?_
 simp[F31,histC]
 refine jS (cs:=[]) rfl rfl rfl ?_
 simp
 refine j9 [(3,6),(8,44)] g.ts.length (fun i s=>s.tm 4=.int .i64 i∧s.ob 2=some ⟨0,.cells (histC g)⟩∧GrowT s.tk s.nx jD 2 (X8 g i) (s.tm 3)) rfl rfl ⟨zS,by simp[histC],by rw[X8];exact⟨128,zS,by simp[JC],zS⟩⟩ ?_
 rintro i s hi ⟨G,M,P⟩ f
 have K:s.tm 1=.ptr 2 0 0:=by rw[f.t 1 zS];simp
 have T:s.df=[]:=by rw[f.d];simp
 have fb:s.fb=0:=by rw[f.b];simp
 have fr:s.ro=0:=by rw[f.r];simp
 clear f
 by_cases e:i<g.ts.length
 ·have Z:=jh e zO
  simp[G,K,M,j0,histC,e]
  refine j9 [(3,3),(5,6),(15,44)] (g.ts[i]).ops.length (fun k m=>m.tm 5=.int .i64 k∧m.ob 2=some ⟨0,.cells (histC g)⟩∧GrowT m.tk m.nx jD 2 (X8 g i++(if Jf g.ts[i] then jt g i k else [])) (m.tm 3)) rfl rfl ⟨zS,by simp[M],by simp[jt];exact P.mono (fun _ _ h=>h) zO⟩ ?_
  rintro k m hk ⟨y,o,j⟩ f
  have J:m.tm 1=.ptr 2 0 0:=by rw[f.t 1 zS];simp[K]
  have H:m.tm 4=.int .i64 i:=by rw[f.t 4 zS];simp[G]
  have ed:m.df=[]:=by rw[f.d];simp[T]
  have N:m.fb=0:=by rw[f.b];simp[fb]
  have S:m.ro=0:=by rw[f.r];simp[fr]
  clear f
  have I:=ev74 D (i:Int) (k:Int)
  have b0:=D.os _ (List.getElem_mem e)
  have z:(g.ts.flatMap ji)[i*3+1]? = some (.int .i64 (g.ts[i]).f):=by
   rw[jW j8 g.ts e (by decide:1<3)];rfl
  have q:(g.ts.flatMap ji)[i*3+2]? = some (slOf (g.ts[i]).nl opC (g.ts[i]).ops):=by
   rw[jW j8 g.ts e (by decide:2<3)];rfl
  by_cases n:k<(g.ts[i]).ops.length
  ·have p:=jh n zO
   have x:(X8 g i++(if Jf g.ts[i] then jt g i k else [])).length≤1001000:=by
    have h1:=Q6 D i
    have h2:=Yt g i k
    have:i*1000≤1000*1000:=Nat.mul_le_mul_right _ zO
    rw[List.length_append]
    split
    ·omega
    ·simp only[List.length_nil];omega
   cases F:Jf g.ts[i]
   ·have w:((g.ts[i]).f == 1)=false:=F
    rw[F]at j
    simp[y,J,H,o,j0,histC,e,j4 j8,q,z,n,j5,N,S,w,p]
    simpa using j.mono (fun u _ h=>by simpa[JD] using h) zO
   ·have w:((g.ts[i]).f == 1)=true:=F
    rw[F]at j x
    simp only[if_true]at j x
    simp[y,J,H,o,j0,histC,e,j4 j8,q,z,n,j5,N,S,w]
    refine jR I (by simp[histC,jD]) rfl (by simp[histC,jD]) ?_
    cases O:jai g i k
    ·simp[y,p,o,histC]
     have c:jt g i (k+1)=jt g i k:=by rw[jt,O];simp
     rw[c]
     exact⟨n,j.mono (fun u _ h=>by simpa[JD] using h) zO⟩
    ·simp[j0]
     have c:X8 g i++jt g i (k+1)=(X8 g i++jt g i k)++[((i:Int),(k:Int))]:=by rw[jt,O,List.append_assoc];simp
     refine jS (cs:=jD (i,k)) (by simp[j5,jD]) rfl rfl ?_
     simp
     refine QF (f:=jD) (hi:=m.nx) (l:=X8 g i++jt g i k) (a:=((i:Int),(k:Int))) (v:=m.tm 3) (j.mono (fun u _ h=>by simp[JC,h]) zR) zS (by simp[jI,jD]) jO zD rfl zO zO (fun a0 U=>?_)
     have B:(X8 g i++jt g i k).length+1=(X8 g i++jt g i (k+1)).length:=by rw[c,List.length_append (bs:=[_])];rfl
     rw[← c,B]
     obtain⟨L,Q⟩:∃L,X8 g i++jt g i (k+1)=L:=⟨_,rfl⟩
     rw[Q]
     simp[y,p,o,histC,Q]
     exact⟨n,_,rfl,by simp[JC],zO⟩
  ·have:k=(g.ts[i]).ops.length:=zO
   subst this
   simp[y,J,H,o,j0,histC,e,j4 j8,q,Z]
   rw[jds e]
   exact j.mono (fun _ _ h=>h) zO
 ·have:i=g.ts.length:=zO
  subst this
  obtain⟨u,X,_,_⟩:=P
  simp[G,K,M,j0,histC]
  exact slE (t:=some (u,2)) (nl:=false) (k:=(readH g).length) (cs:=(readH g).flatMap jD) (fun r h=>h) (by simp[T]) (by simp[X,readH])
def rdOf (g:Hist') (x:Int):List (Int × Int):=jt g x.toNat (g.ts.getD x.toNat ⟨0,0,true,[]⟩).ops.length
theorem jk6 {g:Hist'}{i:Nat}(h:i<g.ts.length):rdOf g i=jt g i (g.ts[i]).ops.length:=by
 unfold rdOf
 rw[Int.toNat_natCast,JA h]
theorem jdu {g:Hist'}:∀n,n≤g.ts.length→(numsTo Jf g.ts n).flatMap (rdOf g)=X8 g n
 | 0,_=>rfl
 | n+1,h=>by
  rw[Jc zO,jds zO,List.flatMap_append,jdu n zO]
  cases Jf g.ts[n]
  ·rfl
  ·simp[jk6 (show n<g.ts.length by omega)]
def jbd (g:Hist'):List (Int × Int):=if JV g then readH g else []
theorem jo4 (g:Hist'):(comH g).flatMap (rdOf g)=jbd g:=by
 unfold comH jbd
 split
 ·exact jdu _ zR
 ·rfl
theorem j3r {g:Hist'}:∀x∈comH g,0≤x∧x<g.ts.length:=by
 unfold comH
 split
 ·exact(Wl (p:=Jf) (ts:=g.ts) _ zR).1
 ·simp
theorem jys (g:Hist'):(comH g).length≤g.ts.length:=by
 unfold comH
 split
 ·exact JG _ _ _
 ·simp
theorem jda {g:Hist'}(b:Small g):∀ (l:List Int),(∀x∈l,0≤x∧x<g.ts.length)→(l.flatMap (rdOf g)).length≤l.length*1000
 | [],_=>Nat.zero_le _
 | x::l,h=>by
  obtain⟨f,j⟩:=h x (List.mem_cons_self ..)
  obtain⟨i,rfl⟩:∃i:Nat,x=i:=⟨x.toNat,zO⟩
  have a:i<g.ts.length:=zO
  have:=jda b l fun y c=>h y (List.mem_cons_of_mem _ c)
  have d:=Yt g i (g.ts[i]).ops.length
  have e:=b.os _ (List.getElem_mem a)
  rw[List.flatMap_cons,List.length_append,jk6 a,List.length_cons,Nat.succ_mul]
  omega
theorem ev86 {g:Hist'}(H:Small g):∃v,Ev E 86 [.agg (histC g)] v∧SlR v (jbd g).isEmpty (jbd g).length ((jbd g).flatMap jD):=by
 have b7:=H.ts
 obtain⟨vc,Z,X⟩:=ev71 H
 have b8:=jys g
 have q:=j3r (g:=g)
 rw[← jo4]
 generalize comH g=C at *
 obtain⟨L,hL⟩:∃L,C.flatMap (rdOf g)=L:=⟨_,rfl⟩
 rw[hL]
 refine XP (af:=F86) rfl zD ?_
 simp[F86,histC,j0]
 refine jR Z (by simp[histC]) rfl (by simp[histC]) ?_
 refine Xv X fun tc b0=>?_
 simp
 refine j9 [(3,7),(11,36)] C.length (fun i s=>s.tm 11=.int .i64 i∧s.ob 2=some ⟨0,.cells (histC g)⟩∧Grow s.tk 0 s.nx jD 2 ((C.take i).flatMap (rdOf g)) (s.tm 3)) rfl rfl ⟨zS,by simp[histC],by simp;exact Grow.nil _ _ _ _ _⟩ ?_
 rintro i s hi ⟨w,o2,O⟩ f
 have f1:s.tm 1=.ptr 2 0 0:=by rw[f.t 1 zS];simp
 have f9:s.tm 9=.sl tc C.isEmpty C.length (C.flatMap intC):=by rw[f.t 9 zS];simp
 have K:s.tm 10=.int .i64 C.length:=by rw[f.t 10 zS];simp
 have fd:s.df=[]:=by rw[f.d];simp
 have fb:s.fb=0:=by rw[f.b];simp
 have fr:s.ro=0:=by rw[f.r];simp
 clear f
 by_cases m:i<C.length
 ·have hw:=jh m zO
  obtain⟨x,J⟩:∃x,C[i]=x:=⟨_,rfl⟩
  obtain⟨x1,x2⟩:=q x (J▸List.getElem_mem m)
  obtain⟨j,rfl⟩:∃j:Nat,x=j:=⟨x.toNat,zO⟩
  have Q:j<g.ts.length:=zO
  have B:=JP C m
  rw[J]at B
  have a0:(g.ts.flatMap ji)[j*3+2]? = some (slOf (g.ts[j]).nl opC (g.ts[j]).ops):=by
   rw[jW j8 g.ts Q (by decide:2<3)];rfl
  have I:JK 1 (.sl tc C.isEmpty C.length (C.flatMap intC)) (.int .i64 (i:Int))=some (.eptr (C.flatMap intC) (i*1)):=by
   simp only[Ws,j7 jC]
   rw[if_pos (by simp;omega)]
   rfl
  rw[Nat.mul_one]at I
  simp[w,f1,f9,K,o2,j0,histC,m,I,B,Q,j4 j8,a0]
  obtain⟨P,T⟩:∃P,(C.take i).flatMap (rdOf g)=P:=⟨_,rfl⟩
  have c1:P.length≤1000000:=by
   have h1:=jda H (C.take i) (fun x J=>q x (List.mem_of_mem_take J))
   rw[T,List.length_take]at h1
   have:min i C.length*1000≤1000*1000:=Nat.mul_le_mul_right _ zO
   omega
  have y:(C.take (i+1)).flatMap (rdOf g)=P++jt g j (g.ts[j]).ops.length:=by
   rw[List.take_succ_eq_append_getElem m,List.flatMap_append,T,J]
   simp[jk6 Q]
  rw[T]at O
  refine j9 [(3,3),(6,7),(22,35)] (g.ts[j]).ops.length (fun k e=>e.tm 22=.int .i64 k∧e.ob 2=some ⟨0,.cells (histC g)⟩∧Grow e.tk 0 e.nx jD 2 (P++jt g j k) (e.tm 3)) rfl rfl ⟨zS,by simp[o2],by simp[jt];exact O.mono (fun _ _ _ h=>h) zO⟩ ?_
  rintro k e hk ⟨p,o,z⟩ f
  have e1:e.tm 1=.ptr 2 0 0:=by rw[f.t 1 zS];simp[f1]
  have e5:e.tm 5=.int .i64 j:=by rw[f.t 5 zS];simp
  have U:e.tm 11=.int .i64 i:=by rw[f.t 11 zS];simp[w]
  have D:e.tm 21=.int .i64 (g.ts[j]).ops.length:=by rw[f.t 21 zS];simp
  have ed:e.df=[]:=by rw[f.d];simp[fd]
  have eb:e.fb=0:=by rw[f.b];simp[fb]
  have er:e.ro=0:=by rw[f.r];simp[fr]
  clear f
  have S:=ev136 H (j:Int) (k:Int)
  have b6:=H.os _ (List.getElem_mem Q)
  have c0:=Yt g j k
  by_cases n:k<(g.ts[j]).ops.length
  ·have F:=jh n zO
   simp[p,e1,e5,D,o,j0,histC,n,j5,eb,er]
   refine jR S (by simp[histC,jD]) rfl (by simp[histC,jD]) ?_
   cases ho:jai g j k
   ·have c:jt g j (k+1)=jt g j k:=by rw[jt,ho];simp
    simp[p,F,o,histC]
    rw[c]
    exact⟨n,z.mono (fun u _ _ h=>by simpa[JD] using h) zO⟩
   ·have c:P++jt g j (k+1)=(P++jt g j k)++[((j:Int),(k:Int))]:=by rw[jt,ho,List.append_assoc];simp
    simp[j0]
    refine jS (cs:=jD (j,k)) (by simp[j5,jD]) rfl rfl ?_
    simp
    refine YB (f:=jD) (lo:=0) (hi:=e.nx) (l:=P++jt g j k) (a:=((j:Int),(k:Int))) (v:=e.tm 3) (z.mono (fun u _ _ h=>by simp[JC,h]) zR) zS (by simp[jI,jD]) jO zD rfl (by rw[List.length_append];omega) (by rw[List.length_append];omega) (fun b9 b5=>?_)
    have N:(P++jt g j k).length+1=(P++jt g j (k+1)).length:=by rw[c,List.length_append (bs:=[_])];rfl
    have G:P++jt g j (k+1)≠[]:=by rw[c];simp
    rw[← c,N]
    obtain⟨M,hM⟩:∃M,P++jt g j (k+1)=M:=⟨_,rfl⟩
    rw[hM]at G ⊢
    simp[p,F,o,histC,hM]
    exact⟨n,.inr ⟨G,_,rfl,by simp[JC],Nat.zero_le _,zO⟩⟩
  ·have:k=(g.ts[j]).ops.length:=zO
   subst this
   simp[p,U,D,o,histC,hw]
   rw[y]
   exact⟨m,z.mono (fun _ _ _ h=>h) zO⟩
 ·have:i=C.length:=zO
  subst this
  rw[List.take_length,hL]at O
  obtain⟨t,ht⟩:=O.form
  simp[w,K]
  exact slE (t:=t) (nl:=L.isEmpty) (k:=L.length) (cs:=L.flatMap jD) (fun r h=>h) (by simp[fd]) (by simp[ht])
section
end
def jnf (x:Bool × List Int):List V:=[.sl none x.1 x.2.length (x.2.flatMap intC)]
@[simp] theorem jhg (x:Bool × List Int):(jnf x).length=1:=rfl
def badO (ops:List Op') (k:Nat) (o:Op'):Bool:=!o.w && ((o.v.kind != 2) && ((JM o.key ops k).2 && !(((JM o.key ops k).1.kind == o.v.kind) && ((JM o.key ops k).1.n == o.v.n))))
def Wz (ops:List Op'):Nat→List Int
 | 0=>[]
 | k+1=>Wz ops k++(match ops[k]? with|some o=>if badO ops k o then [(k:Int)] else []|none=>[])
theorem jp9 {ops:List Op'}{k:Nat}(h:k<ops.length):Wz ops (k+1)=Wz ops k++if badO ops k ops[k] then [(k:Int)] else []:=by simp[Wz,List.getElem?_eq_getElem h]
theorem jkc (ops:List Op'):∀k,(Wz ops k).length≤k
 | 0=>by simp[Wz]
 | k+1=>by
  have:=jkc ops k
  simp only[Wz,List.length_append]
  split
  ·split <;> simp <;> omega
  ·simp;omega
def badH (g:Hist') (i:Int):List Int:=Wz (Jk g i).2 (Jk g i).2.length
theorem ev40 {g:Hist'}(hs:Small g) (a:Int):∃v,Ev E 40 [.agg (histC g),.int .i64 a] v∧SlR v false (badH g a).length ((badH g a).flatMap intC):=by
 have b5:=ev58 hs
 have c0:=hs.ts
 refine XP (af:=F40) rfl zD ?_
 obtain⟨B,q⟩:∃B,badH g a=B:=⟨_,rfl⟩
 rw[q]
 unfold badH Jk at q
 have x:∀ {Z:St},Z.df=[]→B=[]→(∃t,Z.tm 4=.sl t false 0 [])→jbl [.t 4] (fun v=>SlR v false B.length (B.flatMap intC)) .ret Z:=by
  rintro Z hd rfl ⟨t,X⟩
  exact slE (t:=t) (nl:=false) (k:=0) (cs:=[]) (fun r h=>h) hd X
 simp[F40,histC]
 refine jS (cs:=[]) rfl rfl rfl ?_
 simp[j0]
 refine jR b5 (by simp[histC]) rfl (by simp[histC]) ?_
 cases U:Wp g
 ·rw[Qm U]
  rw[U]at q
  simp
  exact x zS (by simpa[Wz] using q.symm) ⟨some (128,1),zS⟩
 rw[U]at q
 rw[Yh U]
 by_cases k1:a<0
 ·rw[if_neg (by simp;omega)]at q
  simp[k1]
  exact x zS (by simpa[Wz] using q.symm) ⟨some (128,1),zS⟩
 by_cases k2:(g.ts.length:Int)≤a
 ·rw[if_neg (by simp;omega)]at q
  simp[k1,k2,j0]
  exact x zS (by simpa[Wz] using q.symm) ⟨some (128,1),zS⟩
 obtain⟨i,rfl⟩:∃i:Nat,a=i:=⟨a.toNat,zO⟩
 have hi:i<g.ts.length:=zO
 rw[if_pos (by simp;omega)]at q
 simp only[Int.toNat_natCast]at q
 rw[JA hi]at q
 have Q:=hs.os _ (List.getElem_mem hi)
 have y:=jb j8 (fun _=>none) g.ts hi
 obtain⟨t,X⟩:∃t,g.ts[i]=t:=⟨_,rfl⟩
 have y:∀ob,Yw ob (some 3) (.eptr (g.ts.flatMap ji) (i*3))=some (.agg (ji t)):=fun ob=>by rw[jb j8 ob g.ts hi,X]
 rw[X]at q Q
 clear x
 obtain⟨s0,f0,nl,e⟩:=t
 simp only at q Q
 have b0:¬ ((i:Int)<0):=zO
 have a0:¬ ((g.ts.length:Int)≤i):=zO
 have b6:¬ (g.ts.length≤i):=zO
 simp[b0,a0,j0,hi,j4 j8,y,ji,j5]
 refine j9 [(5,5),(7,9),(31,83)] e.length (fun k s=>s.tm 7=.int .i64 k∧s.ob 12=some ⟨1472,.cells (ji ⟨s0,f0,nl,e⟩)⟩∧GrowT s.tk s.nx intC 1 (Wz e k) (s.tm 5)) rfl rfl ⟨zS,by simp[ji],by simp[Wz];exact⟨128,zS,by simp[JC],zS⟩⟩ ?_
 rintro k s hk ⟨I,p,J⟩ f
 have G:s.tm 6=.ptr 12 1472 0:=by rw[f.t 6 zS];simp
 have fd:s.df=[]:=by rw[f.d];simp
 have fb:s.fb=0:=by rw[f.b];simp
 have fr:s.ro=0:=by rw[f.r];simp
 clear f
 by_cases j:k<e.length
 ·have z:=jh j zO
  have c:=jp9 j
  have b8:=jkc e k
  obtain⟨o,P⟩:∃o,e[k]=o:=⟨_,rfl⟩
  rw[P]at c
  unfold badO at c
  have L:(e.flatMap opC)[k*4]? = some (.bool o.w):=by
   have:=jW jF e j (by decide:0<4)
   rw[Nat.add_zero,P]at this
   rw[this];rfl
  have q1:(e.flatMap opC)[k*4+1]? = some (.int .i64 o.key):=by rw[jW jF e j (by decide:1<4),P];rfl
  have q2:(e.flatMap opC)[k*4+2]? = some (.int .i64 o.v.kind):=by rw[jW jF e j (by decide:2<4),P];rfl
  have a2:∀ob,Yw ob (some 2) (.eptr (e.flatMap opC) (k*4+2))=some (.agg (jv o.v)):=fun ob=>by
   have:=Xb jF e k j
   have h4:=j7 jF e
   simp only[Yw,XQ]
   rw[if_pos zO]
   congr 2
   rw[P]at this
   have h2:((e.flatMap opC).drop (k*4+2)).take 2=((((e.flatMap opC).drop (k*4)).take 4).drop 2).take 2:=by
    rw[List.drop_take,List.drop_drop,List.take_take];rfl
   rw[h2,this];rfl
  have N:=ev84n ⟨s0,f0,nl,e⟩ (by simp;omega) o.key (n:=k) (by simp;omega)
  simp only at N
  simp[I,G,p,j0,ji,j,j4 jF,q1]
  refine JU N (by simp[ji]) rfl (by simp[ji]) ?_
  rw[Jh (by simp[V.plain,jv])]
  generalize JM o.key e k=H at *
  obtain⟨H,rb⟩:=H
  simp only at c
  simp[jv,j0,j5,fb,fr]
  refine⟨by simp[XA,jay,jaz,jb9,rdOb,rdTk,lOf,Delta.wo,Delta.wt,G];try decide,?_⟩
  cases hw:o.w
  ·rw[hw]at c L
   cases rb
   ·simp only[Bool.false_and,Bool.and_false,Bool.false_eq_true,if_false,List.append_nil]at c
    simp[I,G,z,p,j0,ji,j,j4 jF,L]
    rw[c]
    refine J.mono (fun u S h=>?_) zO
    first|exact h|simpa[JD] using h
   ·cases O:(o.v.kind == 2)
    ·have m:(o.v.kind != 2)=true:=by simp only[bne,O,Bool.not_false]
     rw[m]at c
     simp only[Bool.not_false,Bool.true_and]at c
     have K:=a2
     simp only[jv]at K
     cases F:((H.kind == o.v.kind) && (H.n == o.v.n))
     ·rw[F]at c
      have D:((o.v.kind == H.kind) && (o.v.n == H.n))=false:=by rw[← F,Bool.beq_comm,Bool.beq_comm (a:=o.v.n)]
      simp only[Bool.not_false,if_true]at c
      simp[I,G,p,j0,ji,j,j4 jF,L,q2,m,K,D]
      refine jS (cs:=intC k) (by simp[j5,intC]) rfl rfl ?_
      simp
      refine QF (f:=intC) (hi:=s.nx) (l:=Wz e k) (a:=(k:Int)) (v:=s.tm 5) (J.mono (fun u _ h=>by simp[JC,h]) zR) zS (by simp[jI,intC]) jC zD rfl zO zO (fun b9 b7=>?_)
      have T:(Wz e k).length+1=(Wz e (k+1)).length:=by rw[c];simp
      rw[← c,T]
      obtain⟨M,hM⟩:∃M,Wz e (k+1)=M:=⟨_,rfl⟩
      rw[hM]
      simp[I,z,p,ji,hM]
      exact⟨j,_,rfl,by simp[JC],zO⟩
     ·rw[F]at c
      have D:((o.v.kind == H.kind) && (o.v.n == H.n))=true:=by rw[← F,Bool.beq_comm,Bool.beq_comm (a:=o.v.n)]
      simp only[Bool.not_true,Bool.false_eq_true,if_false,List.append_nil]at c
      simp[I,G,z,p,j0,ji,j,j4 jF,L,q2,m,K,D]
      rw[c]
      refine J.mono (fun u S h=>?_) zO
      first|exact h|simpa[JD] using h
    ·have m:(o.v.kind != 2)=false:=by simp only[bne,O,Bool.not_true]
     rw[m]at c
     simp only[Bool.false_and,Bool.and_false,Bool.false_eq_true,if_false,List.append_nil]at c
     simp[I,G,z,p,j0,ji,j,j4 jF,L,q2,m]
     rw[c]
     refine J.mono (fun u S h=>?_) zO
     first|exact h|simpa[JD] using h
  ·rw[hw]at c L
   simp only[Bool.not_true,Bool.false_and,Bool.false_eq_true,if_false,List.append_nil]at c
   simp[I,G,z,p,j0,ji,j,j4 jF,L]
   rw[c]
   refine J.mono (fun u S h=>?_) zO
   first|exact h|simpa[JD] using h
 ·have:k=e.length:=zO
  subst this
  rw[q]at J
  obtain⟨u,S,_,_⟩:=J
  simp[I,G,p,j0,ji]
  exact slE (t:=some (u,1)) (nl:=false) (k:=B.length) (cs:=B.flatMap intC) (fun r h=>h) (by simp[fd]) (by simp[S])
end Go.Pv.T
namespace Go.Pv.T
open Go Go.Pv
end Go.Pv.T
namespace Go.Pv.T
open Go Go.Pv
end Go.Pv.T
namespace Go.Pv.T
open Go Go.Pv
end Go.Pv.T
namespace Go.Pv.T
open Go Go.Pv
theorem jxo {E:Env}{Yf:YF}{st:St}{ub:Nat}{K:St→Nat→Prop}{d:Option Nat}{nm:Bool}{sz l u off n:Nat}{zero cs:List V}{x:A}(c:eval E st.tm x=.osl l u off n sz) (e:st.ob l=some ⟨u,.cells cs⟩) (b:st.ro≤u) (f:zero.length=sz) (g:off+n*sz≤cs.length)
 (h:WW K st d ub { v:=jq,obs:=[(l,⟨u,.cells (j5 cs off (QV n zero))⟩)] }):j6 E Yf ⟨d,.clear sz zero x,none,nm⟩ st ub K:=by
 have a:j0 st.ob l u=some cs:=by simp[j0,e]
 rw[jM _ rfl rfl]
 simp only[aop,c]
 rw[if_pos ⟨Nat.ble_eq▸b,trivial,f⟩,a,Option.bind_some,if_pos g,jN]
 exact h
end Go.Pv.T
namespace Go.Pv.T
open Go Go.Pv
end Go.Pv.T
namespace Go.Pv.T
open Go Go.Pv
theorem jiv {g:Hist'}(a:Small g):(jbd g).length≤1000000:=by
 unfold jbd
 have:=Q6 a g.ts.length
 have b:=a.ts
 have:g.ts.length*1000≤1000*1000:=Nat.mul_le_mul_right _ b
 split
 ·unfold readH;omega
 ·simp
def choW (g:Hist'):List (Bool × List Int):=(jbd g).map fun p=>((ofH g p.1 p.2).isEmpty,ofH g p.1 p.2)
theorem jrd (T:List Int):SlR (jhn T) T.isEmpty T.length (T.flatMap intC):=by
 unfold jhn
 cases T with
 | nil=>exact⟨none,rfl,zS⟩
 | cons a l=>exact⟨some (0,1),rfl,zS⟩
theorem ev161 {g:Hist'}(z:Small g):∃v,Ev E 161 [.agg (histC g)] v∧SlR v (choW g).isEmpty (choW g).length ((choW g).flatMap jnf):=by
 obtain⟨vr,D,n⟩:=ev86 z
 have B:=jiv z
 obtain⟨L,O⟩:∃L,jbd g=L:=⟨_,rfl⟩
 obtain⟨C,N⟩:∃C,choW g=C:=⟨_,rfl⟩
 have m:C=L.map fun p=>((ofH g p.1 p.2).isEmpty,ofH g p.1 p.2):=by rw[← N,← O];rfl
 have y:C.length=L.length:=by rw[m];simp
 rw[N]
 rw[O]at n B
 refine XP (af:=F161) rfl zD ?_
 simp[F161,histC,j0]
 refine jR D (by simp[histC]) rfl (by simp[histC]) ?_
 refine Xv n fun H K=>?_
 simp
 refine j9 [(3,5),(9,20)] L.length (fun i s=>s.tm 9=.int .i64 i∧s.ob 2=some ⟨0,.cells (histC g)⟩∧Grow s.tk 0 s.nx jnf 1 (C.take i) (s.tm 3)) rfl rfl ⟨zS,by simp[histC],by simp;exact Grow.nil _ _ _ _ _⟩ ?_
 rintro i s hi ⟨x,P,G⟩ f
 have f1:s.tm 1=.ptr 2 0 0:=by rw[f.t 1 zS];simp
 have f7:s.tm 7=.sl H L.isEmpty L.length (L.flatMap jD):=by rw[f.t 7 zS];simp
 have J:s.tm 8=.int .i64 L.length:=by rw[f.t 8 zS];simp
 have fd:s.df=[]:=by rw[f.d];simp
 have fb:s.fb=0:=by rw[f.b];simp
 have fr:s.ro=0:=by rw[f.r];simp
 clear f
 by_cases e:i<L.length
 ·have U:=jh e zO
  have F:JK 2 (.sl H L.isEmpty L.length (L.flatMap jD)) (.int .i64 (i:Int))=some (.eptr (L.flatMap jD) (i*2)):=by
   simp only[Ws,j7 jO]
   rw[if_pos (by simp;omega)]
   rfl
  have hp:=fun ob=>Q8 L ob e
  have o:C[i]? = some ((ofH g (L[i]).1 (L[i]).2).isEmpty,ofH g (L[i]).1 (L[i]).2):=by
   rw[m,List.getElem?_map,List.getElem?_eq_getElem e];rfl
  have j:=ev217 z (L[i]).1 (L[i]).2
  generalize (L[i]).1=a at *
  generalize (L[i]).2=b at *
  obtain⟨T,hT⟩:∃T,ofH g a b=T:=⟨_,rfl⟩
  rw[hT]at j o
  simp[x,f1,f7,J,P,j0,histC,e,F,hp,j5,fb,fr]
  refine jR j (by simp[histC,jD]) rfl (by simp[histC,jD]) ?_
  refine Xv (jrd T) fun t add=>?_
  simp
  have c:C.take (i+1)=C.take i++[(T.isEmpty,T)]:=by
   rw[List.take_add_one,o];rfl
  have a0:i<C.length:=zO
  have S:(C.take i).length=i:=by rw[List.length_take];omega
  refine jS (cs:=[.sl t T.isEmpty T.length (T.flatMap intC)]) (by simp[j5]) rfl (by simp[V.strip1,V.pureLeaf]) ?_
  simp[V.strip1]
  refine YB (f:=jnf) (lo:=0) (hi:=s.nx) (l:=C.take i) (a:=(T.isEmpty,T)) (v:=s.tm 3) (G.mono (fun u _ _ h=>by simp[JC,h]) zR) zS (by simp[jI,jnf]) jhg zD (by simp[jnf,V.pureLeaf]) zO zO (fun Z Q=>?_)
  have q:C.take (i+1)≠[]:=by rw[c];simp
  have w:(C.take i).length+1=(C.take (i+1)).length:=by rw[c,List.length_append];rfl
  rw[← c,w]
  obtain⟨M,I⟩:∃M,C.take (i+1)=M:=⟨_,rfl⟩
  rw[I]at q ⊢
  simp[x,U,P,histC,I]
  exact⟨e,.inr ⟨q,_,rfl,by simp[JC],Nat.zero_le _,zO⟩⟩
 ·have:i=L.length:=zO
  subst this
  rw[← y,List.take_length]at G
  obtain⟨t,X⟩:=G.form
  simp[x,J]
  exact slE (t:=t) (nl:=C.isEmpty) (k:=C.length) (cs:=C.flatMap jnf) (fun r h=>h) (by simp[fd]) (by simp[X])
def jqk (g:Hist'):List (Bool × List Int):=(readH g).map fun p=>(false,ofH g p.1 p.2)
theorem jdr {g:Hist'}(a:Small g):(readH g).length≤1000000:=by
 have:=Q6 a g.ts.length
 have b:=a.ts
 have:g.ts.length*1000≤1000*1000:=Nat.mul_le_mul_right _ b
 unfold readH;omega
def jfi:List (Bool × List Int)→List Int→Bool
 | [],_=>true
 | _::_,[]=>false
 | c::cs,m::ms=>c.2.contains m && jfi cs ms
def jb5 (g:Hist') (M:List Int):Bool:=JV g && (M.length == (jqk g).length && jfi (jqk g) M)
theorem lst_at (C:List (Bool × List Int)) {i:Nat}(h:i<C.length):(C.flatMap jnf)[i]? = some (.sl none (C[i]).1 (C[i]).2.length ((C[i]).2.flatMap intC)):=by
 have:=jW jhg C h (by decide:0<1)
 rw[Nat.mul_one,Nat.add_zero]at this
 rw[this];rfl
theorem j1x {g:Hist'}(c:Wp g=true) (a b:Int):(ofH g a b).length≤41:=by
 unfold ofH
 split
 ·split
  ·simp
  ·exact j1w (jzq c) a _
 ·simp
theorem kD_own {st:St}{ub:Nat}{K:List FP→St→Prop}{d:Option Nat}{nm:Bool}{r:List AOpr}{f:FuncId}{xs:List A}{vs a:List V}{v:V}{δ:Delta}(j:xs.map (eval E st.tm)=vs) (i:E.sh nm f=true) (g:E.tw f=true)
 (k:vs.mapM (Yz st.ob)=some a) (b:Ev E f a v) (c:QN (jH d nm st.fb ub) ub v=some δ)
 (h:jE E r (st.app d δ) (ub+64) (kFp { wo:=δ.wo,all:=true,seen:=fun l=>(st.ob l).isSome,nw:=true } K)):jE E (⟨d,.call f xs,none,nm⟩::r) st ub K:=by
 have e:jB E nm (eval E st.tm) (.call f xs)=some (f,vs):=by simp only[jB,i,j,Bool.not_true,Bool.false_and,Bool.false_eq_true,if_false]
 simp only[jE,wanted,e]
 exact .inr (.inl ⟨i,g,a,v,k,b,δ,by rw[name_eq'];exact c,h⟩)
where
 name_eq':∀ {d:Option Nat}{op:AOp}{nm:Bool}{fb ub:Nat},AOpr.name ⟨d,op,none,nm⟩ fb ub=jH d nm fb ub:=by
  intro d op nm fb ub;cases nm <;> rfl
end Go.Pv.T
namespace Go.Pv.T
open Go Go.Pv
end Go.Pv.T
namespace Go.Pv.T
open Go Go.Pv
end Go.Pv.T
namespace Go.Pv.T
open Go Go.Pv
end Go.Pv.T
namespace Go.Pv.T
open Go Go.Pv
theorem jh2 {f:FuncId}{af:AF}{args:List V}{ob:ZO}{tk:Nat→Bool}{base ub:Nat}{P:V→Prop}(e:E.fs f=some af) (b:af.body.one=true) (h:wpC E Xx af.body (Jm args ob (fun _=>false) ub base ub) (jbl af.res P)) (g:E.fz f=false:=by rfl):∃r,EvO E f args ob tk base ub r∧P r:=by
 obtain⟨n,x,c,r,i,d⟩:=ji8 b h fun _=>rfl
 refine⟨r,⟨n+1,?_⟩,d⟩
 simp only[callers,e,Option.bind_some,g,Bool.false_eq_true,if_false]
 rw[show jX E (callers E n) noY n af.body (Jm args ob (fun _=>false) ub base ub)=some [x] from c]
 exact jhb (List.cons_ne_nil _ _) (fun y a=>by rw[List.mem_singleton]at a;subst a;exact i)
def jy0 (l:List V) (v:V):Prop:=∃vs,v=.tup vs∧vs.map V.strip1=l∧∀p∈vs.flatMap V.toks,p<64
def noAgg:V→Bool
 | .agg _=>false
 | _=>true
theorem jzg {ub:Nat}{v:V}{l:List V}{K:Delta→Prop}(f:jy0 l v) (c:l.all noAgg=true) (h:∀ws add,ws.map V.strip1=l→K { v:=.tup ws,add:=add }):wpD (Xg ub v) K:=by
 obtain⟨a,rfl,b,i⟩:=f
 have e:Xg ub (.tup a)=some { v:=.tup (a.map (jbn ub)),add:=(a.flatMap V.toks).map (ub + ·) }:=by
  rw[Xg,if_pos (by simpa only[toksRes,List.all_eq_true,Nat.blt_eq] using i)]
  rfl
 rw[e,jN]
 refine h _ _ ?_
 rw[← b,List.map_map]
 refine List.map_congr_left fun w g=>?_
 have j:noAgg w.strip1=true:=List.all_eq_true.1 c _ (by rw[← b];exact List.mem_map.2 ⟨w,g,rfl⟩)
 cases w with
 | agg=>cases j
 | sl t k n cs=>cases t <;> rfl
 | _=>rfl
theorem jdc {w:V}{nl:Bool}{n:Nat}{cs:List V}(h:w.strip1=.sl none nl n cs):∃t,w=.sl t nl n cs:=by
 cases w <;> simp[V.strip1]at h
 obtain⟨rfl,rfl,rfl⟩:=h
 exact⟨_,rfl⟩
theorem jkw {w:V}{b:Bool}(h:w.strip1=.bool b):w=.bool b:=by cases w <;> simp[V.strip1]at h;subst h;rfl
theorem jor {w:V}{k:IntKind}{b:Int}(h:w.strip1=.int k b):w=.int k b:=by cases w <;> simp[V.strip1]at h;obtain⟨rfl,rfl⟩:=h;rfl
theorem map2 {c e:Type}{f:c→e}{ws:List c}{a b:e}(h:ws.map f=[a,b]):∃x y,ws=[x,y]∧f x=a∧f y=b:=by
 match ws with
 | [x,y]=>simp only[List.map_cons,List.map_nil,List.cons.injEq,and_true]at h;exact⟨x,y,rfl,h.1,h.2⟩
 | []=>simp at h
 | [_]=>simp at h
 | _::_::_::_=>simp at h
theorem map3 {e g:Type}{f:e→g}{ws:List e}{a b c:g}(h:ws.map f=[a,b,c]):∃x y z,ws=[x,y,z]∧f x=a∧f y=b∧f z=c:=by
 match ws with
 | [x,y,z]=>simp only[List.map_cons,List.map_nil,List.cons.injEq,and_true]at h;exact⟨x,y,z,rfl,h.1,h.2.1,h.2.2⟩
 | []=>simp at h
 | [_]=>simp at h
 | [_,_]=>simp at h
 | _::_::_::_::_=>simp at h
theorem jzh {ub:Nat}{v:V}{a1 a2 b:Bool}{g i:Nat}{f e:List V}{K:Delta→Prop}(m:jy0 [.sl none a1 g f,.sl none a2 i e,.bool b] v)
 (h:∀c a add,K { v:=.tup [.sl c a1 g f,.sl a a2 i e,.bool b],add:=add }):wpD (Xg ub v) K:=by
 refine jzg m rfl fun ws add n=>?_
 obtain⟨x,y,z,rfl,k,l,j⟩:=map3 n
 obtain⟨c,rfl⟩:=jdc k
 obtain⟨a,rfl⟩:=jdc l
 obtain rfl:=jkw j
 exact h c a add
theorem jo2 {ub:Nat}{v:V}{a1:Bool}{k:IntKind}{b:Int}{e:Nat}{c:List V}{K:Delta→Prop}(i:jy0 [.sl none a1 e c,.int k b] v)
 (h:∀a add,K { v:=.tup [.sl a a1 e c,.int k b],add:=add }):wpD (Xg ub v) K:=by
 refine jzg i rfl fun ws add j=>?_
 obtain⟨x,z,rfl,g,f⟩:=map2 j
 obtain⟨a,rfl⟩:=jdc g
 obtain rfl:=jor f
 exact h a add
def j4d (st:St) (v w:V):Prop:=∀keep i,∃a,XS st keep i v=some a∧a.strip1=w∧(a.toks=[]∨a.toks=[i])
def jod (st:St):List V→List V→Prop
 | [],[]=>True
 | v::vs,w::ws=>j4d st v w∧jod st vs ws
 | _,_=>False
theorem JF {st:St}{v:V}(h:v.pureLeaf=true):j4d st v v:=by
 intro keep i
 refine⟨v,?_,Xf h,.inl ?_⟩
 ·cases v with
  | agg=>cases h
  | fn=>cases h
  | _=>exact Xo (st:=st) (keep:=keep) (i:=i) h
 ·cases v with
  | agg=>cases h
  | _=>exact jmh h
theorem QA {st:St}{v:V}{nl:Bool}{n:Nat}{cs:List V}(e:v.leaf=true) (h:jcn st v nl n cs):j4d st v (.sl none nl n cs):=by
 intro keep i
 obtain⟨a,b,c⟩:=h keep i
 refine⟨.sl a nl n cs,?_,rfl,?_⟩
 ·rw[← b]
  cases v with
  | agg=>cases e
  | fn=>simp only[jn,JH]at b;split at b <;> cases b
  | _=>rfl
 ·rcases c with rfl|⟨z,rfl⟩
  ·exact .inl rfl
  ·exact .inr rfl
theorem Yu {st:St}{keep:Bool}:∀ {vs ls:List V}{i:Nat},jod st vs ls→∃b,JJ st keep i vs=some b∧b.map V.strip1=ls∧(∀p∈b.flatMap V.toks,i≤p∧p<i+16*vs.length)∧nodup (b.flatMap V.toks)=true
 | [],[],i,_=>⟨[],rfl,rfl,zS,rfl⟩
 | v::vs,w::ws,i,h=>by
  obtain⟨a,j,n,e⟩:=h.1 keep i
  obtain⟨b,k,l,g,f⟩:=Yu (keep:=keep) (i:=i+16) h.2
  refine⟨a::b,by simp only[JJ,j,Option.bind_some,k,Option.map_some],by rw[List.map_cons,n,l],fun p c=>?_,?_⟩
  ·rw[List.flatMap_cons,List.mem_append]at c
   simp only[List.length_cons]
   rcases c with c|c
   ·rcases e with e|e <;> rw[e]at c <;> simp at c
    omega
   ·have:=g p c;omega
  ·rw[List.flatMap_cons]
   rcases e with e|e <;> rw[e]
   ·exact f
   ·simp only[List.singleton_append,nodup,Bool.and_eq_true,f,and_true,Bool.not_eq_true']
    rw[Bool.eq_false_iff]
    intro m
    obtain⟨p,c,o⟩:=List.any_eq_true.1 m
    have:=Nat.eq_of_beq_eq_true o
    have:=g p c
    omega
 | [],_::_,_,h=>h.elim
 | _::_,[],_,h=>h.elim
theorem jmy (st:St):∀a:List Nat,(a.map ARes.t).mapM (jp st)=some (a.map st.tm)
 | []=>rfl
 | n::a=>by rw[List.map_cons,List.mapM_cons,jmy st a];rfl
theorem jy8 {ns:List Nat}{st:St}{vs ls:List V}{P:V→Prop}(l:∀r,jy0 ls r→P r) (j:st.df=[]) (h:ns.map st.tm=vs) (u:2≤vs.length) (x:vs.length≤4) (f:jod st vs ls):jbl (ns.map .t) P .ret st:=by
 obtain⟨c,m,g,q,k⟩:=Yu (keep:=nodup (vs.flatMap V.toks)) (i:=0) f
 have e:2≤c.length:=by
  have o:=congrArg List.length g
  have:∀ {vs ls:List V},jod st vs ls→vs.length=ls.length:=by
   intro vs
   induction vs with
   | nil=>intro ls h;cases ls with|nil=>rfl|cons=>exact h.elim
   | cons v vs s=>intro ls h;cases ls with|nil=>exact h.elim|cons w ws=>rw[List.length_cons,List.length_cons,s h.2]
  have:=this f
  simp only[List.length_map]at o
  omega
 refine⟨.tup c,?_,l _ ⟨c,rfl,g,fun p n=>by have:=q p n;omega⟩⟩
 simp only[ja7,Ym j,Yg j,if_true,jmy,h,Option.bind_some,Yv,m,k]
 match c,e with
 | a::b::r,_=>rfl
theorem ev25 (b:Bool) (l:List Int) (c:l.length≤1000000000):∃v,Ev E 25 [slOf b intC l] v∧SlR v false l.length (l.flatMap intC):=by
 refine XP (af:=F25) rfl zD ?_
 simp[F25]
 refine jS (cs:=[]) rfl rfl rfl ?_
 simp
 refine jfd (f:=intC) (l:=l) (u:=64) zS (by simp[JC]) (by simp[jil jC]) jC zD (by simp[intC,V.pureLeaf]) zO zO (fun t a add _ _=>?_)
 simp
 exact slE (t:=t) (nl:=false) (k:=l.length) (cs:=l.flatMap intC) (fun r h=>h) zS zS
section
variable {E:Env}{Yf:YF}{st:St}{ub:Nat}{K:St→Nat→Prop}{d:Option Nat}{nm:Bool}
theorem jnl {sz a n:Nat}{zero:List V}{x y:A}(b:eval E st.tm x=.int .i64 (n:Int)) (e:eval E st.tm y=.int .i64 (n:Int)) (f:n*a≤140737488355328) (i:n≤140737488355328) (g:zero.length=sz) (c:0<sz)
 (h:WW K st d ub { v:=.osl (jH d nm st.fb ub) ub 0 n sz,obs:=[(jH d nm st.fb ub,⟨ub,.cells (QV n zero)⟩)] }):j6 E Yf ⟨d,.mkSl true sz a zero x y,none,nm⟩ st ub K:=by
 rw[jM _ rfl rfl]
 simp only[aop,b,e]
 rw[if_pos (by refine⟨zO,zO,?_,zO,g,c⟩;rw[← Int.natCast_mul];exact Int.ofNat_le.2 f),if_neg zS,Jd,jN]
 simp only[Int.toNat_natCast,Jo]
 exact h
end
def Upto (n i:Nat) (J:List Int) (cs:List V):Prop:=cs.length=n∧(∀j,j<i→cs[j]? = (J.flatMap intC)[j]?)∧cs.all V.pureLeaf=true
theorem Upto.set {n i:Nat}{J:List Int}{cs:List V}(h:Upto n i J cs) (hi:i<n) {x:Int}(l:J[i]? = some x):Upto n (i+1) J (j5 cs i [.int .i64 x]):=by
 obtain⟨k,m,g⟩:=h
 have f:j5 cs i [.int .i64 x]=cs.set i (.int .i64 x):=by
  unfold j5
  rw[List.set_eq_take_append_cons_drop,if_pos zO,List.append_assoc]
  rfl
 rw[f]
 refine⟨by rw[List.length_set];exact k,fun j o=>?_,?_⟩
 ·by_cases a:j=i
  ·subst a
   have c:=(List.getElem?_eq_some_iff.1 l)
   rw[List.getElem?_set_self zO,JP J c.1,c.2]
  ·rw[List.getElem?_set_ne (fun e=>a e.symm)]
   exact m j zO
 ·refine List.all_eq_true.2 fun y b=>?_
  rcases List.mem_or_eq_of_mem_set b with b|rfl
  ·exact List.all_eq_true.1 g y b
  ·rfl
theorem Upto.whole {n:Nat}{J:List Int}{cs:List V}(h:Upto n n J cs) (b:J.length=n):cs=J.flatMap intC:=by
 apply List.ext_getElem?
 intro j
 by_cases a:j<n
 ·exact h.2.1 j a
 ·rw[List.getElem?_eq_none (by rw[h.1];omega),List.getElem?_eq_none (by rw[j7 jC];omega)]
theorem Upto.zero (n:Nat) (J:List Int):Upto n 0 J (QV n [.int .i64 0]):=by
 refine⟨by simp[QV],fun j b=>by omega,?_⟩
 refine List.all_eq_true.2 fun y a=>?_
 simp only[QV,List.mem_map]at a
 obtain⟨i,_,rfl⟩:=a
 simp[V.pureLeaf,Nat.mod_one]
theorem jzs {st:St}{ub:Nat}{K:List FP→St→Prop}{d:Option Nat}{nm:Bool}{r:List AOpr}{f:FuncId}{xs:List A}{vs:List V}{v:V}{δ:Delta}(g:xs.map (eval E st.tm)=vs) (i:E.sh nm f=false) (hp:(vs.all fun v=>v.strip.pureTop)=false)
 (a:EvO E f vs st.ob st.tk ((st.fb+d.getD 0+1)*1024) (ub+64*(r.length+1)) v) (c:Xg ub v=some δ)
 (h:jE E r (st.app d δ) (ub+64) (kFp { wt:=δ.wt,all:=true,seen:=fun l=>(st.ob l).isSome } K)):jE E (⟨d,.call f xs,none,nm⟩::r) st ub K:=by
 have b:(xs.all fun x=>(eval E st.tm x).strip.pureTop)=false:=by
  rw[← g,List.all_map]at hp
  exact hp
 have e:jB E nm (eval E st.tm) (.call f xs)=some (f,vs):=by simp only[jB,i,g,b,Bool.not_false,Bool.and_false,Bool.false_eq_true,if_false]
 simp only[jE,wanted,e]
 exact .inl ⟨i,v,a,δ,c,h⟩
def blC (b:Bool):List V:=[.bool b]
@[simp] theorem jl8 (b:Bool):(blC b).length=1:=rfl
theorem bl_at (l:List Bool) {i:Nat}(h:i<l.length):(l.flatMap blC)[i]? = some (.bool l[i]):=by
 have:=jW jl8 l h (by decide:0<1)
 simpa[blC] using this
end Go.Pv.T
namespace Go.Pv.T
open Go Go.Pv Go.Sort
@[simp] theorem cellV_lf (v:Val'):(jbt v).leaf=true:=by unfold jbt;split;rfl;split <;> rfl
def lessV (a b:Val'):Bool:=if a.kind=b.kind then (a.kind == 1 && decide (a.n<b.n)) else decide (a.kind<b.kind)
def cmpV (a b:Val'):Int:=if jon a && jon b && lessV a b then -1 else if jon b && jon a && lessV b a then 1 else 0
abbrev VV:Type:={ v:Val' // jon v=true }
instance:Inhabited VV:=⟨⟨⟨0,0⟩,rfl⟩⟩
def vvC (v:VV):List V:=jv v.1
@[simp] theorem j0n (v:VV):(vvC v).length=2:=rfl
@[simp] theorem vvC_leaf (v:VV):∀x∈vvC v,x.leaf=true:=by
 intro x a
 simp only[vvC,jv,List.mem_cons,List.not_mem_nil,or_false]at a
 rcases a with rfl|rfl <;> rfl
@[simp] theorem j43 (v:VV):(vvC v).all V.leaf=true:=rfl
@[simp] theorem j4g (v:VV):(vvC v).map V.strip1=vvC v:=rfl
@[simp] theorem vvC_pure (v:VV):(vvC v).all V.pureLeaf=true:=rfl
def ltVV (a b:VV):Bool:=decide (cmpV a.1 b.1<0)
@[simp] theorem ltVV_fold (a b:VV):decide (cmpV a.1 b.1<0)=ltVV a b:=rfl
@[simp] theorem arrV_len (d:Array VV):(arr vvC d).length=d.size*2:=juu (sz:=2) j0n d
end Go.Pv.T
namespace Go.Pv.T.Vs
open Go Go.Pv Go.Pv.T Go.Sort
end Go.Pv.T.Vs
namespace Go.Pv.T.Vs
open Go Go.Pv Go.Pv.T Go.Sort
end Go.Pv.T.Vs
namespace Go.Pv.T.Vs
open Go Go.Pv Go.Pv.T Go.Sort
end Go.Pv.T.Vs
namespace Go.Pv.T.Vs
open Go Go.Pv Go.Pv.T Go.Sort
end Go.Pv.T.Vs
namespace Go.Pv.T.Vs
open Go Go.Pv Go.Pv.T Go.Sort
end Go.Pv.T.Vs
namespace Go.Pv.T.Vs
open Go Go.Pv Go.Pv.T Go.Sort
end Go.Pv.T.Vs
namespace Go.Pv.T.Vs
open Go Go.Pv Go.Pv.T Go.Sort
end Go.Pv.T.Vs
namespace Go.Pv.T.Vs
open Go Go.Pv Go.Pv.T Go.Sort
end Go.Pv.T.Vs
namespace Go.Pv.T.Vs
open Go Go.Pv Go.Pv.T Go.Sort
end Go.Pv.T.Vs
namespace Go.Pv.T.Vs
open Go Go.Pv Go.Pv.T Go.Sort
end Go.Pv.T.Vs
namespace Go.Pv.T.Vs
open Go Go.Pv Go.Pv.T Go.Sort
end Go.Pv.T.Vs
namespace Go.Pv.T
open Go Go.Pv
@[simp] theorem Q0 (v:Val'):(jv v).length=2:=rfl
theorem jy6 (a b:Val'):(a == b)=(a.kind == b.kind && a.n == b.n):=by
 obtain⟨a1,a2⟩:=a
 obtain⟨b1,b2⟩:=b
 rw[Bool.eq_iff_iff]
 simp
theorem jw8 (ob:ZO) (l:List Val') {i:Nat}(h:i<l.length):Yw ob (some 2) (.eptr (l.flatMap jv) (i*2))=some (.agg (jv l[i])):=jb Q0 ob l h
def idxJ:List (Bool × List Int)→List Int→List Int
 | c::cs,m::ms=>jb8 c.2 m 0::idxJ cs ms
 | _,_=>[]
theorem jnr:∀ (C:List (Bool × List Int)) (M:List Int),C.length=M.length→(idxJ C M).length=C.length
 | [],[],_=>rfl
 | c::cs,m::ms,h=>by simp only[idxJ,List.length_cons]at h ⊢;rw[jnr cs ms zO]
 | [],_::_,h=>by simp at h
 | _::_,[],h=>by simp at h
theorem jty:∀ (C:List (Bool × List Int)) (M:List Int) (i:Nat) (h:i<C.length) (a:i<M.length),(idxJ C M)[i]? = some (jb8 (C[i]).2 M[i] 0)
 | c::cs,m::ms,0,_,_=>rfl
 | c::cs,m::ms,i+1,h,a=>by
  simp only[idxJ,List.getElem?_cons_succ,List.getElem_cons_succ]
  exact jty cs ms i (by simpa using h) (by simpa using a)
 | [],_,_,h,_=>by simp at h
 | _::_,[],_,_,h=>by simp at h
def Xw (g:Hist') (M:List Int):Option (List Int):=if JV g && ((choW g).length == M.length && (idxJ (choW g) M).all fun x=>decide (0≤x)) then some (idxJ (choW g) M) else none
def jmd (g:Hist') (r:Option (List Int)) (v:V):Prop:=match r with
 | some J=>jy0 [.sl none (choW g).isEmpty (choW g).length ((choW g).flatMap jnf),.sl none false J.length (J.flatMap intC),.bool true] v
 | none=>jy0 [.sl none true 0 [],.sl none true 0 [],.bool false] v
theorem jyt {g:Hist'}(a:Small g):(choW g).length≤1000000:=by unfold choW;rw[List.length_map];exact jiv a
theorem j3u {g:Hist'}(_:Small g):∀x∈choW g,x.1=x.2.isEmpty∧x.2.length≤41:=by
 intro x a
 unfold choW jbd at a
 split at a
 ·rename_i b
  obtain⟨p,_,rfl⟩:=List.mem_map.1 a
  have c:Wp g=true:=by unfold JV at b;simp only[Bool.and_eq_true]at b;exact b.1
  exact⟨rfl,j1x c _ _⟩
 ·simp at a
theorem ev106 {g:Hist'}(hs:Small g) {b:Bool}(M:List Int) (hM:M.length≤1000000):∃v,Ev E 106 [.agg (histC g),slOf b intC M] v∧jmd g (Xw g M) v:=by
 obtain⟨vc,b9,L⟩:=ev161 hs
 have c0:=ev52 hs
 have a0:=jyt hs
 have Q:=j3u hs
 have D:∀ {o:St}{P:V→Prop},o.df=[]→o.tm 4=.sl none true 0 []→o.tm 5=.sl none true 0 []→o.tm 6=.bool false→Xw g M=none→jbl [.t 4,.t 5,.t 6] (jmd g (Xw g M)) .ret o:=by
  intro o _ hd h4 h5 h6 hp
  rw[hp]
  exact jy8 (ns:=[4,5,6]) (vs:=[.sl none true 0 [],.sl none true 0 [],.bool false]) (fun r h=>h) hd (by simp[h4,h5,h6]) zS zS ⟨JF rfl,JF rfl,JF rfl,trivial⟩
 refine XP (af:=F106) rfl zD ?_
 obtain⟨P,hP⟩:∃P,jmd g (Xw g M)=P:=⟨_,rfl⟩
 have w:=fun o h1 h2 h3 h4 h5=>hP▸@D o (fun _=>True) h1 h2 h3 h4 h5
 rw[hP]
 obtain⟨C,hC⟩:∃C,choW g=C:=⟨_,rfl⟩
 rw[hC]at L a0 Q
 simp[F106,histC,j0]
 refine jR b9 (by simp[histC]) rfl (by simp[histC]) ?_
 refine Xv L fun tc c1=>?_
 simp[j0]
 refine jR c0 (by simp[histC]) rfl (by simp[histC]) ?_
 cases hw:JV g
 ·simp
  exact w _ zS zS zS zS (by simp[Xw,hw])
 by_cases z:¬ C.length=M.length
 ·have B:((C.length:Int) != M.length)=true:=by simp;omega
  simp[B]
  exact w _ zS zS zS zS (by simp[Xw,hC,z])
 have z:C.length=M.length:=Classical.byContradiction z
 have B:((C.length:Int) != M.length)=false:=by simp;omega
 simp[B]
 refine jnl (n:=M.length) zS zS zO zO rfl zD ?_
 simp
 obtain⟨J,hJ⟩:∃J,idxJ C M=J:=⟨_,rfl⟩
 have T:J.length=M.length:=by rw[← hJ,jnr C M z];exact z
 have p:=jty C M
 rw[hJ]at p
 have e:Xw g M=if J.all (fun x=>decide (0≤x)) then some J else none:=by
  unfold Xw
  rw[hC,hJ,hw,z]
  simp
 refine j9 [(4,6),(9,10),(28,47)] C.length (fun i s=>s.tm 28=.int .i64 i∧(∃cs,s.ob 2433=some ⟨1216,.cells cs⟩∧Upto M.length i J cs)∧(J.take i).all (fun x=>decide (0≤x))=true) rfl rfl ⟨zS,⟨_,zS,Upto.zero _ _⟩,zS⟩ ?_
 rintro i s hi ⟨q,⟨cs,U,G⟩,k⟩ f
 have f1:s.tm 1=slOf b intC M:=by rw[f.t 1 zS];simp
 have f7:s.tm 7=.sl tc C.isEmpty C.length (C.flatMap jnf):=by rw[f.t 7 zS];simp
 have f8:s.tm 8=.osl 2433 1216 0 M.length 1:=by rw[f.t 8 zS];simp
 have b7:s.tm 26=.sl tc C.isEmpty C.length (C.flatMap jnf):=by rw[f.t 26 zS];simp
 have H:s.tm 27=.int .i64 C.length:=by rw[f.t 27 zS];simp
 have fd:s.df=[]:=by rw[f.d];simp
 have fr:s.ro=0:=by rw[f.r];simp
 clear f
 by_cases j:i<C.length
 ·have b5:=jh j zO
  have c:i<M.length:=zO
  have h1:=lst_at C j
  have h2:=JP M c
  have O:JK 1 (.sl tc C.isEmpty C.length (C.flatMap jnf)) (.int .i64 (i:Int))=some (.eptr (C.flatMap jnf) (i*1)):=by
   simp only[Ws,j7 jhg]
   rw[if_pos (by simp;omega)]
   rfl
  rw[Nat.mul_one]at O
  have b0:=idxN (l:=2433) (u:=1216) (n:=M.length) (kk:=.i64) (X:=(i:Int)) rfl c
  have I:=ev127 (a:=(C[i]).1) (C[i]).2 (by have:=(Q _ (List.getElem_mem j)).2;omega) M[i]
  have m:=p i j c
  generalize jb8 (C[i]).2 M[i] 0=x at *
  have K:=G.set c m
  have S:(j5 cs i [.int .i64 x])[i]? = some (.int .i64 x):=by
   rw[K.2.1 i zO]
   have Z:=List.getElem?_eq_some_iff.1 m
   rw[JP J Z.1,Z.2]
  have b6:=G.1
  have b8:i+1≤M.length:=c
  simp[q,f1,f8,b7,H,j,c,O,j4 jC,h1,h2]
  refine jR I (by simp[slOf]) rfl (by simp[slOf]) ?_
  simp[b0,U,j0,fr,b6,b8,f8,S]
  by_cases hx:x<0
  ·simp[hx]
   refine w _ (by simp[fd]) zS zS zS ?_
   rw[e]
   have hm:x∈J:=List.mem_of_getElem? m
   rw[if_neg]
   rw[List.all_eq_true]
   intro h
   have:=h x hm
   simp at this
   omega
  ·simp[hx,q,b5]
   refine⟨j,K,fun y F=>?_⟩
   rw[List.take_add_one,m,List.mem_append]at F
   rcases F with F|F
   ·simpa using List.all_eq_true.1 k y F
   ·simp at F;omega
 ·have:i=C.length:=zO
  subst this
  simp[q,H]
  rw[List.take_of_length_le zO]at k
  rw[z]at G
  have N:=G.whole T
  rw[← hP,e,if_pos k]
  subst N
  refine jy8 (ns:=[4,5,6]) (vs:=[.sl tc C.isEmpty C.length (C.flatMap jnf),.osl 2433 1216 0 M.length 1,.bool true]) (fun r h=>h) (by simp[fd]) (by simp[f7,f8]) zS zS ⟨?_,?_,JF rfl,trivial⟩
  ·rw[hC];exact QA rfl (WB _ _ _ _ _)
  ·rw[T];exact QA rfl (jik (by simp[U]) G.1 (by simp[fr]) G.2.2)
theorem ev53 {g:Hist'}(f:Small g) {b:Bool}(M:List Int) (h:M.length≤1000000):Ev E 53 [.agg (histC g),slOf b intC M] (.bool (Xw g M).isSome):=by
 obtain⟨v,i,a⟩:=ev106 f (b:=b) M h
 refine jP (af:=F53) rfl ?_
 simp[F53,histC,j0]
 refine jR i (by simp[histC,slOf]) rfl (by simp[histC,slOf]) ?_
 cases c:Xw g M with
 | none=>
  rw[c]at a
  refine jzh a fun e d add=>?_
  simp
  exact j3 zS zS rfl
 | some J=>
  rw[c]at a
  refine jzh a fun e d add=>?_
  simp
  exact j3 zS zS rfl
theorem jkh:∀ (C D:List (Bool × List Int)) (M:List Int),C.map (·.2)=D.map (·.2)→jfi D M=((idxJ C M).all (fun x=>decide (0≤x)) && decide (C.length≤M.length))
 | [],[],M,_=>by cases M <;> simp[jfi,idxJ]
 | c::C,d::D,[],_=>by simp[jfi]
 | c::C,d::D,m::M,h=>by
  simp only[List.map_cons,List.cons.injEq]at h
  have e:=jkh C D M h.2
  have b:=jhp m c.2 0
  have a:decide (0≤jb8 c.2 m 0)=c.2.contains m:=by
   have:decide (0≤jb8 c.2 m 0) = !decide (jb8 c.2 m 0<0):=by
    by_cases h:jb8 c.2 m 0<0
    ·simp[h];
    ·simp[h];omega
   rw[this,b,Bool.not_not]
  simp only[jfi,idxJ,List.all_cons,e,a,← h.1,List.length_cons,Nat.add_le_add_iff_right]
  rw[Bool.and_assoc]
 | [],_::_,_,h=>by simp at h
 | _::_,[],_,h=>by simp at h
theorem juj {g:Hist'}(a:JV g=true):(choW g).map (·.2)=(jqk g).map (·.2):=by
 unfold choW jqk jbd
 rw[if_pos a]
 simp[List.map_map,Function.comp_def]
theorem j3t {g:Hist'}(a:JV g=true):(choW g).length=(jqk g).length:=by
 have:=congrArg List.length (juj a)
 simpa using this
theorem is_eq (g:Hist') (M:List Int):(Xw g M).isSome=jb5 g M:=by
 unfold Xw jb5
 cases d:JV g
 ·simp
 ·rw[jkh _ _ M (juj d),j3t d]
  by_cases a:M.length=(jqk g).length
  ·have c:((jqk g).length == M.length)=true:=by simp[a]
   have b:(M.length == (jqk g).length)=true:=by simp[a]
   rw[c,b]
   simp only[Bool.true_and,a,Nat.le_refl,decide_true,Bool.and_true]
   split
   ·rename_i h;simp[h]
   ·rename_i h;simp only[Option.isSome_none];simpa using h
  ·have c:((jqk g).length == M.length)=false:=by simp;omega
   have b:(M.length == (jqk g).length)=false:=by simp;omega
   rw[c,b]
   simp
@[simp] theorem eqVV_bool (ob:ZO) (neg a b:Bool):ju7 ob neg .bool (.bool a) (.bool b)=some (.bool (xor neg (a == b))):=rfl
theorem j1e {ub:Nat}{r:V}{g:Hist'}{K:Delta→Prop}(h:jqg r g)
 (d:∀a b c add,K { v:=.agg [.sl a g.sn g.ss.length (g.ss.flatMap Jj),.sl b g.kn g.ks.length (g.ks.flatMap Jj),.sl c g.tn g.ts.length (g.ts.flatMap ji)],add:=add }):wpD (Xg ub r) K:=by
 obtain⟨a,b,c,add,e⟩:=jo3 (ub:=ub) h
 rw[e,jN]
 exact d a b c add
theorem Qy {c:Type}{f:c→List V}{k:Nat}(b:∀a,(f a).length=k):∀ (l:List c) (n:Nat),(l.flatMap f).take (n*k)=(l.take n).flatMap f
 | [],n=>by simp
 | a::l,0=>by simp
 | a::l,n+1=>by
  rw[List.flatMap_cons,List.take_succ_cons,List.flatMap_cons,Nat.succ_mul,Nat.add_comm,← b a,List.take_length_add_append,b a,Qy b l n]
section
variable {E:Env}{st:St}{ub:Nat}{K:List FP→St→Prop}{d:Option Nat}{nm:Bool}{r:List AOpr}
theorem nbeq {a b:Nat}(h:a≠b):a.beq b=false:=by
 cases e:a.beq b
 ·rfl
 ·exact absurd (Nat.eq_of_beq_eq_true e) h
@[simp] theorem j0o (v:Val'):(jv v).map V.strip1=jv v:=rfl
end
theorem jk0 {c:Type}{f:c→List V}{sz:Nat}(b:∀a,(f a).length=sz) (t:Option (Nat × Nat)) (nl:Bool) (l:List c) {k:Nat}(i:k≤l.length):QQ sz none (some (.int .i64 (k:Int))) (.sl t nl l.length (l.flatMap f))=some (.sl none nl (l.take k).length ((l.take k).flatMap f)):=by
 have g:(l.take k).length=k:=by rw[List.length_take];omega
 have e:=Qy b l k
 have h:(k:Int)≤l.length:=zO
 simp[QQ,Jt,j7 b,g,e,h]
theorem jfq {L u n i:Nat}(h:i≤n):QQ 2 (some (.int .i64 (i:Int))) none (.osl L u 0 n 2)=some (.osl L u (i*2) (n - i) 2):=by
 have a:(i:Int)≤n:=zO
 simp[QQ,Jt]
 omega
theorem jv2 {L u n i:Nat}(h:i≤n):QQ 2 none (some (.int .i64 (i:Int))) (.osl L u 0 n 2)=some (.osl L u 0 i 2):=by
 have a:(i:Int)≤n:=zO
 simp[QQ,Jt,a]
theorem idx2 {l u off n x:Nat}{kk:IntKind}{X:Int}(a:X=(x:Nat)) (b:x<n):JK 2 (.osl l u off n 2) (.int kk X)=some (.ptr l u (off+x*2)):=by
 subst a
 have:(x:Int)<n:=zO
 simp[JK,this]
theorem ld2 {ob:ZO}{l u:Nat}{M:List Val'}{x:Nat}(a:ob l=some ⟨u,.cells (M.flatMap jv)⟩) (b:x<M.length):Yw ob (some 2) (.ptr l u (x*2))=some (.agg (jv M[x])):=by
 have h:=jw8 ob M b
 rw[← h]
 simp only[Yw,j0,a,if_true,Option.bind_some]
theorem st2 {M:List Val'}{x:Nat}(a:x<M.length) (v:Val'):j5 (M.flatMap jv) (x*2) (jv v)=(M.set x v).flatMap jv:=jnx Q0 v M x a
def JB (T:List Val'):Nat→List Val'
 | 0=>[]
 | j+1=>JB T j++(if 0<j∧T[j - 1]? = T[j]? then [] else T[j]?.toList)
theorem jgk (T:List Val'):∀j,j≤T.length→(JB T j).length≤j
 | 0,_=>by simp[JB]
 | j+1,h=>by
  have:=jgk T j zO
  simp only[JB,List.length_append,List.getElem?_eq_getElem (show j<T.length by omega)]
  split <;> simp <;> omega
theorem jj5 {T:List Val'}{j:Nat}(a:0<j) (h:j<T.length) (b:T[j]=T[j - 1]):JB T (j+1)=JB T j:=by
 simp only[JB]
 rw[if_pos ⟨a,by rw[List.getElem?_eq_getElem zO,List.getElem?_eq_getElem h,b]⟩,List.append_nil]
theorem jeu {T:List Val'}{j:Nat}(h:j<T.length) (c:0<j→T[j]≠T[j - 1]):JB T (j+1)=JB T j++[T[j]]:=by
 simp only[JB]
 rw[if_neg,List.getElem?_eq_getElem h]
 ·rfl
 ·rintro⟨b,a⟩
  rw[List.getElem?_eq_getElem zO,List.getElem?_eq_getElem h]at a
  exact c b (Option.some.inj a).symm
def CompP (l u n:Nat) (C:List Val') (ob:ZO) (tk:Nat→Bool) (ub:Nat) (r:V × (ZO) × (Nat→Bool) × Nat):Prop :=
 r.1=.osl l u 0 C.length 2∧(∃cs,r.2.1 l=some ⟨u,.cells cs⟩∧cs.length=n*2∧C.length≤n∧cs.take (C.length*2)=C.flatMap jv)∧(∀key,key≠l→r.2.1 key=ob key)∧r.2.2.1=tk∧ub≤r.2.2.2
end Go.Pv.T
namespace Go.Pv.T
open Go Go.Pv
end Go.Pv.T
namespace Go.Pv.T
open Go Go.Pv
end Go.Pv.T
namespace Go.Pv.T
open Go Go.Pv
end Go.Pv.T
namespace Go.Pv.T
open Go Go.Pv
@[simp] theorem j4h (v:Val'):(jv v).all V.leaf=true:=rfl
theorem jow {st:St}{L u n sz:Nat}{cs c:List V}(g:st.ob L=some ⟨u,.cells cs⟩) (e:st.ro≤u) (p:n*sz≤cs.length) (o:cs.take (n*sz)=c) (hp:c.all V.pureLeaf=true):jcn st (.osl L u 0 n sz) false n c:=by
 have b:j0 st.ob L u=some cs:=by simp[j0,g]
 have f:∀ (k:Nat) (l:List V),l.all V.pureLeaf=true→l.mapM (JH st (k+1))=some l:=by
  intro k l
  induction l with
  | nil=>intro _;rfl
  | cons a l m=>
   intro h
   simp only[List.all_cons,Bool.and_eq_true]at h
   rw[List.mapM_cons,m h.2]
   have:JH st (k+1) a=some a:=by
    have:=Xo (st:=st) (keep:=false) (i:=0) h.1
    cases a with
    | sl t q n cs=>cases t with
     | none=>rfl
     | some t=>cases h.1
    | osl=>cases h.1
    | _=>simp only[JH,h.1,if_true]
   rw[this]
   rfl
 have j:JH st 6 (.osl L u 0 n sz)=some (.sl none false n c):=by
  show((j0 st.ob L u).bind fun cs=>if Nat.ble st.ro u=true∧0+n*sz≤cs.length then (((cs.drop 0).take (n*sz)).mapM (JH st 5)).map fun d=>V.sl none false n d else none)=_
  rw[b,Option.bind_some,if_pos ⟨Nat.ble_eq▸e,zO⟩,List.drop_zero,o,f 4 c hp]
  rfl
 intro keep i
 refine⟨_,by simp only[jn,j,Option.bind_some,b,Option.map_some];rfl,?_⟩
 split
 ·exact .inr ⟨_,rfl⟩
 ·exact .inl rfl
end Go.Pv.T
namespace Go.Pv.T
open Go Go.Pv
end Go.Pv.T
namespace Go.Pv.T
open Go Go.Pv
end Go.Pv.T
namespace Go.Pv.T
open Go Go.Pv
end Go.Pv.T
namespace Go.Pv.T
open Go Go.Pv
end Go.Pv.T
namespace Go.Pv.T
open Go Go.Pv
end Go.Pv.T
namespace Go.Pv.T
open Go Go.Pv
section
end
theorem jss {c:Type}(k0:Int) (b:c) (m:List (Int × c)) (k:Int) (a:c):jh3 ((k0,b)::m) k a=if k=k0 then (k,a)::m else (k0,b)::jh3 m k a:=by
 unfold jh3
 rw[JO]
 by_cases h:k=k0
 ·simp[h]
 ·rw[if_neg h,if_neg h]
  cases JO m k <;> simp
theorem Wn {f:Type}(k:Int) (a:f) (c:Int):∀m:List (Int × f),(JO (jh3 m k a) c).map (·.2)=if c=k then some a else (JO m c).map (·.2)
 | []=>by
  by_cases h:c=k <;> simp[jh3,JO,h]
 | (k0,b)::m=>by
  rw[jss]
  have g:=Wn k a c m
  by_cases h:k=k0
  ·subst h
   rw[if_pos rfl,JO,JO]
   by_cases d:c=k <;> simp[d]
  ·rw[if_neg h,JO,JO]
   by_cases d:c=k0
   ·subst d
    simp[show ¬ c=k from fun e=>h e.symm]
   ·rw[if_neg d,if_neg d]
    simp only[Option.map_map]
    have e:((fun x:Nat × f=>x.2) ∘ fun p:Nat × f=>(p.1+1,p.2))=fun x=>x.2:=rfl
    rw[e]
    exact g
theorem jf7 {a:Type}{k:a→a}{y:a}:∀ {l:List a}{i:Nat},y∈l.modify i k→y∈l∨∃x,l[i]? = some x∧y=k x
 | [],i,h=>by simp at h
 | x::l,0,h=>by
  rw[List.modify_cons]at h
  simp only[if_true,List.mem_cons]at h
  rcases h with rfl|h
  ·exact .inr ⟨x,rfl,rfl⟩
  ·exact .inl (List.mem_cons_of_mem _ h)
 | x::l,i+1,h=>by
  rw[List.modify_cons]at h
  simp only[Nat.add_one_ne_zero,if_false,Nat.add_sub_cancel,List.mem_cons]at h
  rcases h with rfl|h
  ·exact .inl (List.mem_cons_self ..)
  ·rcases jf7 h with h|⟨z,b,c⟩
   ·exact .inl (List.mem_cons_of_mem _ h)
   ·exact .inr ⟨z,by simpa using b,c⟩
section
variable {g:Hist'}{cs:List Bool}{lo:List Val'}
theorem readIn_mem {i:Nat}{p:Int × Int}:∀ {n:Nat},p∈jt g i n ↔ ∃k:Nat,k<n∧p=((i:Int),(k:Int))∧jai g i k=true
 | 0=>by simp[jt]
 | n+1=>by
  simp only[jt,List.mem_append,readIn_mem (n:=n)]
  constructor
  ·rintro(⟨k,c,a⟩|h)
   ·exact⟨k,zO,a⟩
   ·split at h
    ·rename_i b
     exact⟨n,zO,by simpa using h,b⟩
    ·simp at h
  ·rintro⟨k,c,a,b⟩
   rcases Nat.lt_succ_iff_lt_or_eq.1 c with h|h
   ·exact .inl ⟨k,h,a,b⟩
   ·subst h
    right
    simp[b,a]
end
section
end
def hd1 (c:Bool × List Int):Int:=c.2.headD 0
end Go.Pv.T
namespace Go.Pv.T
open Go Go.Pv
end Go.Pv.T
namespace Go.Pv.T
open Go Go.Pv
theorem ev39 (h:Hist') (r:h.ts.length≤1000):Ev E 39 [.agg (histC h)] (.sl (some (0,1)) false (numsTo Jf h.ts h.ts.length).length ((numsTo Jf h.ts h.ts.length).flatMap intC)):=by
 refine jP (af:=F39) rfl ?_
 simp[F39,histC]
 refine jS (cs:=[]) rfl rfl rfl ?_
 simp
 refine YT (n:=h.ts.length) (fun k s=>∃i u,k=h.ts.length - i∧i≤h.ts.length∧s.df=[]∧s.fb=0∧s.ro=0∧s.tm 1=.ptr 2 0 0∧s.ob 2=some ⟨0,.cells (histC h)⟩∧s.tm 4=.int .i64 i∧s.tk u=true ∧
  s.tm 3=.sl (some (u,1)) false (numsTo Jf h.ts i).length ((numsTo Jf h.ts i).flatMap intC))
  ⟨0,128,by simp[numsTo,histC]⟩ ?_
 rintro k s ⟨i,u,rfl,q,l,c,b,e,g,d,m,j⟩
 by_cases a:i<h.ts.length
 ·simp[e,g,d,j0,histC,a,j4 j8,jW j8,ji]
  have p:=JG Jf h.ts i
  cases o:h.ts[i].f == 1
  ·simp[d]
   refine⟨h.ts.length - (i+1),zO,i+1,⟨rfl,zO,l,c,b,e,by simpa[histC] using g,by rw[jm zO zO];simp,u,m,?_⟩⟩
   rw[j,Jc a,Jf,o]
   simp
  ·simp[j,d]
   refine jS (cs:=[.int .i64 i]) (by simp[j5]) rfl rfl ?_
   simp
   refine Jz (u:=u) (nl:=false) (n:=(numsTo Jf h.ts i).length) (cs:=(numsTo Jf h.ts i).flatMap intC) (ys:=[.int .i64 i]) zS (by simp[JC,m]) (by simp[jI]) zS (by rw[j7 jC]) zD rfl (by simp;omega) (by simp;omega) ?_
   simp[d,l,c,b,e,g,histC]
   refine⟨h.ts.length - (i+1),zO,i+1,rfl,zO,by rw[jm zO zO];simp,Or.inl ?_⟩
   rw[Jc a,Jf,o]
   simp[intC]
 ·have:i=h.ts.length:=zO
  subst this
  simp[e,g,d,j0,histC]
  exact jet (u:=u) (by simpa using l) (by simp[j]) (by simpa using m)
def je5 (f:Nat→Bool):Nat→Bool
 | 0=>true
 | k+1=>je5 f k && f k
theorem andTo_iff {f:Nat→Bool}:∀ {n:Nat},je5 f n=true ↔ ∀k,k<n→f k=true
 | 0=>by simp[je5]
 | n+1=>by
  rw[je5,Bool.and_eq_true,andTo_iff]
  constructor
  ·rintro⟨h,a⟩ k b
   rcases Nat.lt_or_ge k n with h1|h1
   ·exact h k h1
   ·have:k=n:=zO
    exact this▸a
  ·exact fun h=>⟨fun k b=>h k zO,h n zO⟩
theorem XF {f:Nat→Bool}{k n:Nat}(a:k<n) (h:f k=false):je5 f n=false:=by
 cases e:je5 f n with
 | false=>rfl
 | true=>rw[andTo_iff.1 e k a]at h;cases h
def Xz (f:Nat→Bool):Nat→List Int
 | 0=>[]
 | k+1=>Xz f k++(if f k then [(k:Int)] else [])
theorem jer (f:Nat→Bool):∀n,(Xz f n).length≤n
 | 0=>Nat.le_refl _
 | n+1=>by
  have:=jer f n
  simp only[Xz,List.length_append]
  split <;> simp <;> omega
theorem filTo_mem {f:Nat→Bool}{x:Int}:∀ {n:Nat},x∈Xz f n ↔ ∃k:Nat,k<n∧x=k∧f k=true
 | 0=>by simp[Xz]
 | n+1=>by
  rw[Xz,List.mem_append,filTo_mem]
  constructor
  ·rintro(⟨k,d,b,a⟩|h)
   ·exact⟨k,zO,b,a⟩
   ·cases c:f n
    ·simp[c]at h
    ·simp[c]at h;exact⟨n,zO,h,c⟩
  ·rintro⟨k,d,b,a⟩
   rcases Nat.lt_or_ge k n with h|h
   ·exact .inl ⟨k,h,b,a⟩
   ·have:k=n:=zO
    subst this
    exact .inr (by simp[a,b])
theorem jes {f a:Nat→Bool}:∀ {n:Nat},(∀k,k<n→f k=a k)→Xz f n=Xz a n
 | 0,_=>rfl
 | n+1,h=>by rw[Xz,Xz,jes fun k b=>h k zO,h n zO]
def Xe (g:Hist') (a:Nat):Bool:=match g.ts[a]? with|some t=>Jf t|none=>false
def sesAt (g:Hist') (a:Nat):Int:=match g.ts[a]? with|some t=>t.s|none=>0
def jml (p:Txn'→Bool) (ts:List Txn') (a:Nat):Bool:=match ts[a]? with|some t=>p t|none=>false
theorem QB (p:Txn'→Bool) (ts:List Txn'):∀n,numsTo p ts n=Xz (jml p ts) n
 | 0=>rfl
 | n+1=>by
  rw[numsTo,Xz,QB p ts n]
  congr 1
  unfold jml
  cases ts[n]? <;> rfl
theorem Xj {g:Hist'}{a:Nat}(h:Xe g a=true):a<g.ts.length:=by
 unfold Xe at h
 cases b:g.ts[a]? with
 | none=>rw[b]at h;cases h
 | some t=>exact(List.getElem?_eq_some_iff.1 b).1
def comL (g:Hist'):List Int:=numsTo Jf g.ts g.ts.length
theorem comL_mem {g:Hist'}{x:Int}:x∈comL g ↔ ∃k:Nat,x=k∧Xe g k=true:=by
 rw[comL,QB,filTo_mem]
 exact⟨fun⟨k,_,b,a⟩=>⟨k,b,a⟩,fun⟨k,b,a⟩=>⟨k,Xj a,b,a⟩⟩
theorem jug {g:Hist'}(h:JV g=true):comH g=comL g:=by rw[comH,if_pos h];rfl
def j26 (R:List (Int × Int)) (M:List Int) (a b:Nat):Bool:=(R.zip M).any fun x=>x.2 == (a:Int) && x.1.1 == (b:Int)
def jcj (g:Hist') (M:List Int) (a b:Nat):Bool:=Xe g a && Xe g b && ((decide (a<b) && sesAt g a == sesAt g b) || j26 (readH g) M a b)
def war (r:Nat→Nat→Bool):Nat→Nat→Nat→Bool
 | 0,b,a=>r a b
 | k+1,b,a=>war r k b a || (war r k b k && war r k k a)
theorem Qv {r:Nat→Nat→Bool}:∀ {K k:Nat},k<K→∀ {b a:Nat},war r K b k=true→war r K k a=true→war r K b a=true
 | K+1,k,hk,b,a,c,d=>by
  simp only[war,Bool.or_eq_true,Bool.and_eq_true]at c d ⊢
  rcases Nat.lt_or_ge k K with hlt|hge
  ·rcases c with c|⟨c,f⟩ <;> rcases d with d|⟨d,e⟩
   ·exact .inl (Qv hlt c d)
   ·exact .inr ⟨Qv hlt c d,e⟩
   ·exact .inr ⟨c,Qv hlt f d⟩
   ·exact .inr ⟨c,e⟩
  ·have:k=K:=zO
   subst this
   rcases c with c|⟨c,f⟩ <;> rcases d with d|⟨d,e⟩
   ·exact .inr ⟨c,d⟩
   ·exact .inr ⟨c,e⟩
   ·exact .inr ⟨c,d⟩
   ·exact .inr ⟨c,e⟩
theorem jku {r:Nat→Nat→Bool}{b a:Nat}(h:r a b=true):∀K,war r K b a=true
 | 0=>h
 | K+1=>by simp[war,jku h K]
theorem jmg {r:Nat→Nat→Bool}{p:Nat→Prop}{q:Nat→Prop}(c:∀a b,q b→r a b=true→p a) (d:∀b,p b→q b):∀ (K:Nat) {b a:Nat},q b→war r K b a=true→p a
 | 0,b,a,hb,h=>c a b hb h
 | K+1,b,a,hb,h=>by
  simp only[war,Bool.or_eq_true,Bool.and_eq_true]at h
  rcases h with h|⟨h,e⟩
  ·exact jmg c d K hb h
  ·exact jmg c d K (d _ (jmg c d K hb h)) e
def farB (g:Hist') (M:List Int) (t a:Nat):Bool:=war (jcj g M) g.ts.length t a
theorem jif {g:Hist'}{M:List Int}{a b:Nat}(h:jcj g M a b=true):Xe g a=true∧Xe g b=true:=by
 simp only[jcj,Bool.and_eq_true]at h
 exact h.1
def atO (O:List Int) (t:Int):Int:=jb8 O t 0
theorem jtz (k:Int):∀ (l:List Int) (n:Nat),jb8 l k n = -1∨(n:Int)≤jb8 l k n
 | [],n=>.inl rfl
 | x::r,n=>by
  rw[jb8]
  split
  ·exact .inr (Int.le_refl _)
  ·rcases jtz k r (n+1) with h|h
   ·exact .inl h
   ·exact .inr zO
theorem atO_neg {O:List Int}{t:Int}:atO O t<0 ↔ t ∉ O:=by
 have h:=jhp t O 0
 unfold atO
 constructor
 ·intro a b
  have:O.contains t=true:=by simpa using b
  rw[this]at h
  simp at h
  omega
 ·intro a
  have:O.contains t=false:=by simpa using a
  rw[this]at h
  simpa using h
def jed (g:Hist') (p:Int × Int):Int:=match opAt g p.1 p.2 with|some o=>o.key|none=>0
def Yj (g:Hist') (t key:Int):Bool:=(WK (Jk g t).2 key).2
def rcB (R:List (Int × Int)) (M:List Int) (p:Int × Int) (t:Int):Bool:=(R.zip M).any fun x=>x.1.1 == p.1 && (decide (x.1.2<p.2) && x.2 == t)
def jbb (g:Hist') (lvl:Int) (M O:List Int) (p:Int × Int) (t:Nat):Bool :=
 if lvl=1 then rcB (readH g) M p t else if lvl=2 then farB g M p.1.toNat t else if lvl=3 then Xe g t && decide (atO O t<atO O p.1) else false
def Wd (g:Hist') (lvl:Int) (M O:List Int) (p:Int × Int):List Int:=Xz (jbb g lvl M O p) g.ts.length
def okB (g:Hist') (O:List Int) (p:Int × Int) (m t:Int):Bool:=t == m || (!Yj g t (jed g p) || decide (atO O t<atO O m))
def jit (g:Hist') (lvl:Int) (M O:List Int) (i:Nat):Bool:=match (readH g)[i]?,M[i]? with
 | some p,some m=>decide (m<0∨atO O m<atO O p.1) && (Wd g lvl M O p).all (okB g O p m)
 | _,_=>true
def je7 (g:Hist') (O:List Int) (b a:Nat):Bool:=!(sesAt g ((comL g).getD a 0).toNat == sesAt g ((comL g).getD b 0).toNat) || decide (atO O ((comL g).getD a 0)<atO O ((comL g).getD b 0))
def sesB (g:Hist') (O:List Int) (b:Nat):Bool:=(badH g ((comL g).getD b 0)).isEmpty && je5 (je7 g O b) b
def jel (g:Hist') (lvl:Int) (M O:List Int):Bool:=je5 (sesB g O) (comL g).length && je5 (jit g lvl M O) (readH g).length
def YK (g:Hist') (O:List Int):Bool:=JV g && ((comL g).length == O.length && je5 (fun i=>(comL g).contains (O.getD i 0) && !(O.take i).contains (O.getD i 0)) O.length)
theorem com_f {g:Hist'}(c:JV g=true) {a:Nat}{t:Txn'}(b:g.ts[a]? = some t) (j:t.f≠2):Xe g a=true:=by
 unfold JV at c
 simp only[Bool.and_eq_true,List.isEmpty_iff]at c
 obtain⟨d,h,_⟩:=c
 have i:t.f≠3:=fun e=>by
  have:((a:Nat):Int)∈XT g:=by
   rw[XT,QB,filTo_mem]
   exact⟨a,(List.getElem?_eq_some_iff.1 b).1,rfl,by simp[jml,b,X1,e]⟩
  rw[h]at this
  cases this
 unfold Wp at d
 simp only[Bool.and_eq_true,List.all_eq_true]at d
 have:=d.2.1 t (List.mem_of_getElem? b)
 simp only[jcp,Bool.and_eq_true,decide_eq_true_eq]at this
 simp only[Xe,b,Jf,beq_iff_eq]
 omega
theorem of_com {g:Hist'}(f:JV g=true) {a b x:Int}(h:x∈ofH g a b):x = -1∨x∈comL g:=by
 unfold ofH at h
 split at h
 ·split at h
  ·cases h
  ·rw[ofL,List.mem_append]at h
   rcases h with h|h
   ·unfold Jl at h
    split at h
    ·cases h
    ·exact .inl (by simpa using h)
   ·have d:=(List.mem_filter.1 h).1
    rw[writersH,QB,filTo_mem]at d
    obtain⟨k,d,i,c⟩:=d
    refine .inr (comL_mem.2 ⟨k,i,?_⟩)
    unfold jml at c
    cases e:g.ts[k]? with
    | none=>rw[e]at c;cases c
    | some t=>
     rw[e]at c
     simp only[wrB,Bool.and_eq_true,bne_iff_ne,ne_eq]at c
     exact com_f f e c.1
 ·cases h
theorem jki:∀ {C:List (Bool × List Int)}{M:List Int}{i:Nat}{c:Bool × List Int},jfi C M=true→C[i]? = some c→∃m,M[i]? = some m∧m∈c.2
 | [],_,_,_,_,hc=>by simp at hc
 | _::_,[],_,_,h,_=>by simp[jfi]at h
 | d::C,m::M,0,c,h,hc=>by
  simp only[jfi,Bool.and_eq_true]at h
  simp at hc
  subst hc
  exact⟨m,rfl,by simpa using h.1⟩
 | d::C,m::M,i+1,c,h,hc=>by
  simp only[jfi,Bool.and_eq_true]at h
  simpa using jki h.2 (by simpa using hc)
section
variable {g:Hist'}{M O:List Int}
theorem jw6 (h:jb5 g M=true) {i:Nat}{p:Int × Int}(hp:(readH g)[i]? = some p):∃m,M[i]? = some m∧m∈ofH g p.1 p.2:=by
 unfold jb5 at h
 simp only[Bool.and_eq_true]at h
 exact jki (c:=(false,ofH g p.1 p.2)) h.2.2 (by simp[jqk,hp])
theorem Yi (h:jb5 g M=true):M.length=(readH g).length:=by
 unfold jb5 at h
 simp only[Bool.and_eq_true,beq_iff_eq]at h
 simpa[jqk] using h.2.1
theorem jd7 (h:jb5 g M=true):JV g=true:=by
 unfold jb5 at h
 simp only[Bool.and_eq_true]at h
 exact h.1
theorem j1z (h:jb5 g M=true) {m:Int}(d:m∈M):m = -1∨m∈comL g:=by
 obtain⟨i,c,e⟩:=List.getElem_of_mem d
 have a:i<(readH g).length:=by rw[← Yi h];exact c
 obtain⟨j,b,f⟩:=jw6 h (List.getElem?_eq_getElem a)
 rw[List.getElem?_eq_getElem c]at b
 cases b
 rw[← e]
 exact of_com (jd7 h) f
theorem jdt {p:Int × Int}:∀ {n:Nat},p∈X8 g n→∃ (i k:Nat) (t:Txn'),p=((i:Int),(k:Int))∧g.ts[i]? = some t∧Jf t=true∧k<t.ops.length∧jai g i k=true
 | 0,h=>by simp[X8]at h
 | n+1,h=>by
  rw[X8,List.mem_append]at h
  rcases h with h|h
  ·exact jdt h
  ·cases a:g.ts[n]? with
   | none=>rw[a]at h;cases h
   | some t=>
    rw[a]at h
    simp only at h
    split at h
    ·rename_i d
     obtain⟨k,c,e,b⟩:=readIn_mem.1 h
     exact⟨n,k,t,e,a,d,c,b⟩
    ·cases h
theorem jwc {p:Int × Int}(h:p∈readH g):p.1∈comL g:=by
 obtain⟨i,k,t,rfl,b,a,_⟩:=jdt h
 exact comL_mem.2 ⟨i,rfl,by simp[Xe,b,a]⟩
/-! Orders -/
theorem ji7 (h:YK g O=true):(comL g).length=O.length:=by
 unfold YK at h
 simp only[Bool.and_eq_true,beq_iff_eq]at h
 exact h.2.1
theorem jm4 (h:YK g O=true) {i:Nat}(hi:i<O.length):O[i]∈comL g∧O[i] ∉ O.take i:=by
 unfold YK at h
 simp only[Bool.and_eq_true]at h
 have:=andTo_iff.1 h.2.2 i hi
 simpa[List.getD_eq_getElem?_getD,List.getElem?_eq_getElem hi] using this
theorem jna:∀ {L:List Int},(∀i (hi:i<L.length),L[i] ∉ L.take i)→L.Nodup
 | [],_=>List.nodup_nil
 | x::r,h=>by
  rw[List.nodup_cons]
  constructor
  ·intro a
   obtain⟨i,hi,e⟩:=List.getElem_of_mem a
   have:=h (i+1) (by simpa using hi)
   simp[e]at this
  ·refine jna fun i hi b=>?_
   have:=h (i+1) (by simpa using hi)
   simp[b]at this
theorem jd3 (h:YK g O=true):O.Nodup:=jna fun _ a=>(jm4 h a).2
theorem ji6 (h:YK g O=true) {x:Int}(b:x∈O):x∈comL g:=by
 obtain⟨i,a,e⟩:=List.getElem_of_mem b
 exact e▸(jm4 h a).1
theorem j3q (g:Hist'):(comL g).Pairwise (· < ·):=(Wl (p:=Jf) (ts:=g.ts) g.ts.length zR).2
theorem jd0:∀ {O C:List Int},O.Nodup→(∀x∈O,x∈C)→C.length=O.length→O.Perm C
 | [],C,_,_,h=>by
  have:C=[]:=List.length_eq_zero_iff.1 h
  rw[this]
 | x::r,C,hn,hs,h=>by
  rw[List.nodup_cons]at hn
  have d:=hs x zS
  have b:=List.perm_cons_erase d
  refine(List.Perm.cons x (jd0 hn.2 (fun y c=>?_) ?_)).trans b.symm
  ·have a:y≠x:=fun e=>hn.1 (e▸c)
   exact(List.mem_erase_of_ne a).2 (hs y (by simp[c]))
  ·have:=b.length_eq
   simp at this h
   omega
theorem jpb (h:YK g O=true):O.Perm (comL g):=jd0 (jd3 h) (fun _=>ji6 h) (ji7 h)
/-! Where each stands -/
theorem jns:∀ {l:List Int}{n k:Nat}(h:k<l.length),l.Nodup→jb8 l l[k] n=(n+k:Nat)
 | x::r,n,0,_,_=>by simp[jb8]
 | x::r,n,k+1,h,hn=>by
  rw[List.nodup_cons]at hn
  have b:k<r.length:=by simpa using h
  have a:((r[k]) == x)=false:=by
   rw[beq_eq_false_iff_ne]
   exact fun e=>hn.1 (e▸List.getElem_mem b)
  simp only[List.getElem_cons_succ,jb8,a,Bool.false_eq_true,if_false]
  rw[jns b hn.2]
  omega
theorem j32 (a:O.Nodup) {k:Nat}(h:k<O.length):atO O O[k]=k:=by
 rw[atO,jns h a,Nat.zero_add]
/-! Sessions -/
/-! What reads see -/
/-! Levels -/
end
section
end
section
end
end Go.Pv.T
namespace Go.Pv.T
open Go Go.Pv
end Go.Pv.T
namespace Go.Pv.T
open Go Go.Pv
theorem j3g {a:Bool}(l:List Int) (u:l.length≤1000000000) (k:Int):Ev E 63 [slOf a intC l,.int .i64 k] (.int .i64 (atO l k)):=by
 refine jP (af:=F63) rfl ?_
 unfold atO
 simp[F63]
 refine j9 [(4,18)] l.length (fun i s=>s.tm 5=.int .i64 i∧jb8 (l.drop i) k i=jb8 l k 0) rfl rfl ⟨zS,zS⟩ ?_
 rintro i s r ⟨j,c⟩ f
 have m:s.tm 0=slOf a intC l:=by rw[f.t 0 zS];simp
 have p:s.tm 1=.int .i64 k:=by rw[f.t 1 zS];simp
 have o:s.df=[]:=by rw[f.d];simp
 clear f
 by_cases b:i<l.length
 ·have q:=jh b zO
  have n:=JP l b
  rw[List.drop_eq_getElem_cons b,jb8]at c
  cases h:(l[i] == k)
  ·have g:(k == l[i])=false:=by rw[beq_eq_false_iff_ne]at h ⊢;exact fun e=>h e.symm
   rw[g]at c
   simp only[Bool.false_eq_true,if_false]at c
   simp[j,m,p,b,j4 jC,n,h,q]
   exact c
  ·have g:(k == l[i])=true:=by rw[beq_iff_eq]at h ⊢;exact h.symm
   rw[g]at c
   simp only[if_true]at c
   simp[j,m,p,b,j4 jC,n,h]
   exact j3 (by simp[o]) (by rw[← c];simp) rfl
 ·have:i=l.length:=zO
  subst this
  rw[List.drop_length,jb8]at c
  simp[j,m]
  exact j3 (by simp[o]) (by rw[← c];simp) rfl
theorem ev64 {g:Hist'}(h:Small g) (i key:Int):Ev E 64 [.agg (histC g),.int .i64 i,.int .i64 key] (.tup [.agg (jv (WK (Jk g i).2 key).1),.bool (WK (Jk g i).2 key).2]):=by
 have a:=ev58 h
 refine jP (af:=F64) rfl ?_
 cases d:Wp g
 ·rw[Qm d]at a
  have b:Jk g i=(true,[]):=by unfold Jk;rw[d];rfl
  rw[b]
  simp[F64,histC,j0]
  refine jR a (by simp[histC]) rfl (by simp[histC]) ?_
  simp[j0,j5]
  exact J0 zS (l:=[.agg (jv ⟨0,0⟩),.bool false]) (by simp[jp,j0,jv]) rfl rfl
 ·rw[Yh d]at a
  by_cases j:0≤i
  ·by_cases k:i<g.ts.length
   ·obtain⟨n,rfl⟩:∃n:Nat,i=n:=⟨i.toNat,zO⟩
    have c:n<g.ts.length:=zO
    have b:(Jk g (n:Int)).2=(g.ts[n]).ops:=by unfold Jk;simp[d,c,List.getD_eq_getElem?_getD]
    rw[b,WK]
    have m:=h.os _ (List.getElem_mem c)
    have f:=ev84 g.ts[n] zO key
    have e:(g.ts.flatMap ji)[n*3+2]? = some (slOf (g.ts[n]).nl opC (g.ts[n]).ops):=by rw[jW j8 g.ts c (by decide:2<3)];rfl
    simp[F64,histC,j0]
    refine jR a (by simp[histC]) rfl (by simp[histC]) ?_
    simp[j0,c,Nat.not_le.2 c,show ¬ ((n:Int)<0) by omega,j4 j8,jb j8,e]
    refine JU f (by simp[ji]) rfl (by simp[ji]) ?_
    rw[Jh (by simp[V.plain,jv])]
    generalize (JM key g.ts[n].ops g.ts[n].ops.length).1=rv at *
    generalize (JM key g.ts[n].ops g.ts[n].ops.length).2=rb at *
    simp[jv,j0,j5]
    exact J0 zS (l:=[.agg [.int .i64 rv.kind,.int .i64 rv.n],.bool rb]) (by simp[jp,j0]) rfl rfl
   ·have b:Jk g i=(true,[]):=by unfold Jk;simp[k]
    rw[b]
    simp[F64,histC,j0]
    refine jR a (by simp[histC]) rfl (by simp[histC]) ?_
    simp[j0,j5,show ¬ i<0 by omega,show(g.ts.length:Int)≤i by omega]
    exact J0 zS (l:=[.agg (jv ⟨0,0⟩),.bool false]) (by simp[jp,j0,jv]) rfl rfl
  ·have b:Jk g i=(true,[]):=by unfold Jk;simp[j]
   rw[b]
   simp[F64,histC,j0]
   refine jR a (by simp[histC]) rfl (by simp[histC]) ?_
   simp[j0,j5,show i<0 by omega]
   exact J0 zS (l:=[.agg (jv ⟨0,0⟩),.bool false]) (by simp[jp,j0,jv]) rfl rfl
theorem jhs {g:Hist'}{a:Nat}(h:a<g.ts.length):Xe g a=((g.ts[a]).f == 1):=by simp[Xe,Jf,h]
theorem jcs {g:Hist'}{a:Nat}(h:a<g.ts.length):sesAt g a=(g.ts[a]).s:=by simp[sesAt,h]
theorem jrz (l:List (Int × Int)) {i:Nat}(h:i<l.length):(l.flatMap jD)[i*2]? = some (.int .i64 (l[i]).1)∧(l.flatMap jD)[i*2+1]? = some (.int .i64 (l[i]).2):=by
 have a:=jW jO l h (by decide:0<2)
 have b:=jW jO l h (by decide:1<2)
 rw[Nat.add_zero]at a
 exact⟨a.trans rfl,b.trans rfl⟩
theorem ev122 {g:Hist'}(J:Small g) {nl:Bool}{M:List Int}(hM:M.length=(readH g).length) {a b:Nat}(n:a<g.ts.length) (q:b<g.ts.length) :
 Ev E 122 [.agg (histC g),slOf false jD (readH g),slOf nl intC M,.int .i64 (a:Int),.int .i64 (b:Int)] (.bool (jcj g M a b)):=by
 have Q:=jdr J
 have a0:=J.ts
 refine jP (af:=F122) rfl ?_
 unfold jcj
 rw[jhs n,jhs q,jcs n,jcs q]
 generalize readH g=R at *
 have H:(g.ts.flatMap ji)[a*3+1]? = some (.int .i64 (g.ts[a]).f):=by rw[jW j8 g.ts n (by decide:1<3)];rfl
 have N:(g.ts.flatMap ji)[b*3+1]? = some (.int .i64 (g.ts[b]).f):=by rw[jW j8 g.ts q (by decide:1<3)];rfl
 have sa:(g.ts.flatMap ji)[a*3]? = some (.int .i64 (g.ts[a]).s):=by have:=jW j8 g.ts n (by decide:0<3);rw[Nat.add_zero]at this;rw[this];rfl
 have S:(g.ts.flatMap ji)[b*3]? = some (.int .i64 (g.ts[b]).s):=by have:=jW j8 g.ts q (by decide:0<3);rw[Nat.add_zero]at this;rw[this];rfl
 have w:∀ {x:Int}{c:Bool},(x == 1)=c→(x != 1) = !c:=fun h=>by rw[← h];rfl
 cases r:((g.ts[a]).f == 1)
 ·simp[F122,histC,j0,n,j4 j8,H,w r]
  exact j3 zS zS rfl
 cases y:((g.ts[b]).f == 1)
 ·simp[F122,histC,j0,n,q,j4 j8,H,N,w r,w y]
  exact j3 zS zS rfl
 obtain⟨c,G⟩:∃c,j26 R M a b=c:=⟨_,rfl⟩
 rw[G]
 unfold j26 at G
 simp[F122,histC,j0,n,q,j4 j8,H,N,w r,w y]
 generalize z:jqj E Xx _ _=KK
 have p:∀o:St,o.tm 1=slOf false jD R→o.tm 2=slOf nl intC M→o.tm 3=.int .i64 (a:Int)→o.tm 4=.int .i64 (b:Int)→o.df=[]→o.tm 45=.bool (decide (a<b) && (g.ts[a]).s == (g.ts[b]).s)→KK .nrm o:=by
  intro o T X Z U K v
  rw[← z]
  clear z
  generalize (decide (a<b) && (g.ts[a]).s == (g.ts[b]).s)=c0 at *
  cases c0
  ·simp only[Bool.false_or]
   simp[v]
   refine j9 [(10,11),(46,66)] R.length (fun i s=>s.tm 11=.int .i64 i∧((R.drop i).zip (M.drop i)).any (fun x=>x.2 == (a:Int) && x.1.1 == (b:Int))=c) rfl rfl ⟨zS,by simpa using G⟩ ?_
   rintro i s hi ⟨l,m⟩ f
   have D:s.tm 1=slOf false jD R:=by rw[f.t 1 zS];simp[T]
   have I:s.tm 2=slOf nl intC M:=by rw[f.t 2 zS];simp[X]
   have F:s.tm 3=.int .i64 (a:Int):=by rw[f.t 3 zS];simp[Z]
   have O:s.tm 4=.int .i64 (b:Int):=by rw[f.t 4 zS];simp[U]
   have P:s.df=[]:=by rw[f.d];simp[K]
   clear f
   by_cases j:i<R.length
   ·have L:=jh j zO
    have e:i<M.length:=zO
    have r:=JP M e
    have y:=(jrz R j).1
    rw[List.drop_eq_getElem_cons j,List.drop_eq_getElem_cons e,List.zip_cons_cons,List.any_cons]at m
    cases u:(M[i] == (a:Int))
    ·rw[u,Bool.false_and,Bool.false_or]at m
     simp[l,D,I,F,j,e,j4 jC,r,u,L]
     exact m
    ·cases B:((R[i]).1 == (b:Int))
     ·rw[u,B,Bool.true_and,Bool.false_or]at m
      simp[l,D,I,F,O,j,e,j4 jC,j4 jO,r,y,u,B,L]
      exact m
     ·rw[u,B,Bool.true_and,Bool.true_or]at m
      simp[l,D,I,F,O,j,e,j4 jC,j4 jO,r,y,u,B]
      exact j3 (by simp[P]) (by simp[← m]) rfl
   ·have:i=R.length:=zO
    subst this
    rw[List.drop_length]at m
    simp[l,D]
    exact j3 (by simp[P]) (by simp[← m]) rfl
  ·simp[v]
   exact j3 (by simp[K]) zS rfl
 by_cases k:a<b
 ·simp[k,j0,n,q,j4 j8,sa,S]
  exact p _ zS zS zS zS zS (by simp[k])
 ·simp[k]
  exact p _ zS zS zS zS zS (by simp[k])
theorem jn9 (l:List Bool) {i:Nat}(h:i<l.length):(l.map V.bool)[i]? = some (.bool l[i]):=by simp[h]
theorem jot (bs:List Bool) (k:Nat) (b:Bool) (h:k<bs.length):j5 (bs.map V.bool) k [.bool b]=(bs.set k b).map V.bool:=by
 unfold j5
 rw[List.map_set,List.set_eq_take_append_cons_drop,if_pos (by simpa using h)]
 simp
section
variable (g:Hist') (M:List Int) (t:Nat)
def jeq (bs:List Bool) (a b:Nat):Bool:=!bs.getD a false && ((b == t || bs.getD b false) && jcj g M a b)
def FarS (bs:List Bool):Prop:=bs.length=g.ts.length∧∀a,bs.getD a false=true→farB g M t a=true
def FarR (bs0:List Bool) (i j:Nat) (bs:List Bool) (more:Bool):Prop:=FarS g M t bs∧(more=false→bs=bs0∧∀a b,(a<i∨a=i∧b<j)→b<g.ts.length→jeq g M t bs0 a b=false) ∧
 (more=true→bs.count false+1≤bs0.count false)
end
section
variable {g:Hist'}{M:List Int}{t:Nat}
theorem FarS.fire {bs:List Bool}(h:FarS g M t bs) (j:t<g.ts.length) {a b:Nat}(i:b<g.ts.length) (d:jeq g M t bs a b=true):FarS g M t (bs.set a true):=by
 refine⟨by simp[h.1],fun x f=>?_⟩
 unfold jeq at d
 simp only[Bool.and_eq_true,Bool.or_eq_true,beq_iff_eq]at d
 by_cases c:x=a
 ·subst c
  rcases d.2.1 with rfl|h2
  ·exact jku d.2.2 _
  ·exact Qv i (h.2 b h2) (jku d.2.2 _)
 ·refine h.2 x ?_
  rw[List.getD_eq_getElem?_getD,List.getElem?_set_ne (fun e=>c e.symm)]at f
  simpa[List.getD_eq_getElem?_getD] using f
theorem jp6 {bs:List Bool}{a:Nat}(b:a<bs.length) (c:bs.getD a false=false):(bs.set a true).count false+1=bs.count false:=by
 have e:bs[a]=false:=by simpa[List.getD_eq_getElem?_getD,b] using c
 have d:0<bs.count false:=List.count_pos_iff.2 (e▸List.getElem_mem b)
 rw[List.count_set b,e]
 simp
 omega
theorem FarR.next {e bs:List Bool}{i j:Nat}{m:Bool}(h:FarR g M t e i j bs m) (u:t<g.ts.length) (hi:i<g.ts.length) (s:j<g.ts.length) :
 FarR g M t e i (j+1) (if jeq g M t bs i j then bs.set i true else bs) (m || jeq g M t bs i j):=by
 obtain⟨f,o,n⟩:=h
 cases d:jeq g M t bs i j
 ·simp only[Bool.or_false,Bool.false_eq_true,if_false]
  refine⟨f,fun k=>?_,n⟩
  obtain⟨rfl,p⟩:=o k
  refine⟨rfl,fun a b c q=>?_⟩
  rcases c with c|⟨rfl,c⟩
  ·exact p a b (.inl c) q
  ·rcases Nat.lt_succ_iff_lt_or_eq.1 c with h|h
   ·exact p a b (.inr ⟨rfl,h⟩) q
   ·subst h;exact d
 ·simp only[Bool.or_true,if_true]
  have l:bs.getD i false=false:=by
   unfold jeq at d
   simp only[Bool.and_eq_true,Bool.not_eq_true']at d
   exact d.1
  have r:=jp6 (by rw[f.1];exact hi) l
  refine⟨f.fire u s d,fun k=>(by cases k),fun _=>?_⟩
  cases m
  ·rw[(o rfl).1]at r ⊢
   omega
  ·have:=n rfl
   omega
theorem FarR.row {d bs:List Bool}{i:Nat}{m:Bool}(h:FarR g M t d i g.ts.length bs m):FarR g M t d (i+1) 0 bs m:=by
 refine⟨h.1,fun e=>⟨(h.2.1 e).1,fun a b c f=>(h.2.1 e).2 a b ?_ f⟩,h.2.2⟩
 rcases c with c|⟨_,c⟩
 ·rcases Nat.lt_succ_iff_lt_or_eq.1 c with h1|h1
  ·exact .inl h1
  ·exact .inr ⟨h1,f⟩
 ·omega
theorem j3b {bs:List Bool}(j:FarS g M t bs) (n:t<g.ts.length) (h:∀a b,a<g.ts.length→b<g.ts.length→jeq g M t bs a b=false):bs=(List.range g.ts.length).map (farB g M t):=by
 apply List.ext_getElem
 ·simp[j.1]
 intro a k o
 have m:a<g.ts.length:=by rw[← j.1];exact k
 rw[List.getElem_map,List.getElem_range]
 have l:bs.getD a false=bs[a]:=by simp[List.getD_eq_getElem?_getD,k]
 cases i:farB g M t a
 ·cases e:bs[a]
  ·rfl
  ·rw[j.2 a (by rw[l,e])]at i;cases i
 ·have:=jmg (r:=jcj g M) (p:=fun a=>bs.getD a false=true∧a<g.ts.length) (q:=fun b=>b=t∨bs.getD b false=true∧b<g.ts.length) (fun a b e d=>by
   have c:=Xj (jif d).1
   have f:=Xj (jif d).2
   have:=h a b c f
   unfold jeq at this
   rw[d,Bool.and_true]at this
   rcases e with rfl|⟨e,_⟩
   ·simp at this
    exact⟨by simpa[List.getD_eq_getElem?_getD] using this,c⟩
   ·rw[e]at this
    simp at this
    exact⟨by simpa[List.getD_eq_getElem?_getD] using this,c⟩) (fun b e=>.inr e) g.ts.length (b:=t) (.inl rfl) i
  rw[l]at this
  exact this.1
end
theorem j3z (bs:List Bool):bs.map V.bool=bs.flatMap blC:=by induction bs <;> simp_all [blC]
theorem bl_end {st:St}{q l u n:Nat}{bs:List Bool}{P:V→Prop}(m:∀r,SlR r false n (bs.flatMap blC)→P r) (o:st.df=[]) (s:st.tm q=.osl l u 0 n 1) (c:st.ob l=some ⟨u,.cells (bs.flatMap blC)⟩) (k:bs.length=n) (_:0<n) (y:st.ro=0):jbl [.t q] P .ret st:=by
 have h:(bs.flatMap blC).length=n:=by rw[j7 jl8,Nat.mul_one,k]
 have a:j0 st.ob l u=some (bs.flatMap blC):=by simp[j0,c]
 have i:(bs.flatMap blC).mapM (JH st 5)=some (bs.flatMap blC):=by
  clear a c h k m
  induction bs with
  | nil=>rfl
  | cons b bs w=>
   rw[List.flatMap_cons]
   show(V.bool b::bs.flatMap blC).mapM (JH st 5)=_
   rw[List.mapM_cons,w]
   rfl
 have v:JH st 6 (.osl l u 0 n 1)=some (.sl none false n (bs.flatMap blC)):=by
  show((j0 st.ob l u).bind fun cs=>if Nat.ble st.ro u=true∧0+n*1≤cs.length then (((cs.drop 0).take (n*1)).mapM (JH st 5)).map fun e=>V.sl none false n e else none)=_
  rw[a,Option.bind_some,if_pos ⟨Nat.ble_eq▸zO,zO⟩,List.drop_zero,Nat.mul_one,List.take_of_length_le zO,i]
  rfl
 have c:∃t:Option (Nat × Nat),jn st true 0 (.osl l u 0 n 1)=some (.sl t false n (bs.flatMap blC))∧∀p∈t.toList,p.1<64:=by
  simp only[jn,v,Option.bind_some,a,Option.map_some]
  refine⟨_,rfl,fun p d=>?_⟩
  split at d
  ·simp at d;subst d;decide
  ·simp at d
 obtain⟨t,j,f⟩:=c
 have g:[ARes.t q].mapM (jp st)=some [.osl l u 0 n 1]:=by simp[jp,s]
 refine⟨.sl t false n (bs.flatMap blC),?_,m _ ⟨t,rfl,f⟩⟩
 simp only[ja7,Ym o,Yg o,if_true,g,Option.bind_some,Yv]
 have x:nodup ([V.osl l u 0 n 1].flatMap V.toks)=true:=rfl
 rw[x]
 simp only[JJ,XS,j,Option.bind_some,Option.map_some]
 cases t <;> rfl
theorem ev75 {g:Hist'}(hs:Small g) {nl:Bool}{M:List Int}(hM:M.length=(readH g).length) {t:Nat}(ht:t<g.ts.length) :
 ∃v,Ev E 75 [.agg (histC g),slOf false jD (readH g),slOf nl intC M,.int .i64 (t:Int)] v∧SlR v false g.ts.length (((List.range g.ts.length).map (farB g M t)).flatMap blC):=by
 have d5:=hs.ts
 have d1:0<g.ts.length:=zO
 refine XP (af:=F75) rfl zD ?_
 simp[F75,histC,j0]
 refine jxh (n:=g.ts.length) zS zS zO zO zO rfl zD ?_
 simp[jfw]
 refine jj fun P q=>?_
 have g1:P.tm 1=slOf false jD (readH g):=by rw[q];simp
 have g2:P.tm 2=slOf nl intC M:=by rw[q];simp
 have g3:P.tm 3=.int .i64 (t:Int):=by rw[q];simp
 have g4:P.tm 4=.ptr 8 0 0:=by rw[q];simp
 have g9:P.tm 9=.osl 32 320 0 g.ts.length 1:=by rw[q];simp
 have d0:P.tm 10=.bool true:=by rw[q];simp
 have p8:P.ob 8=some ⟨0,.cells (histC g)⟩:=by rw[q];simp[histC]
 have d3:P.ob 32=some ⟨320,.cells ((List.replicate g.ts.length false).map V.bool)⟩:=by rw[q];simp
 have gd:P.df=[]:=by rw[q];simp
 have gr:P.ro=0:=by rw[q];simp
 have gb:P.fb=0:=by rw[q];simp
 clear q
 obtain⟨J,hJ⟩:∃J:Nat→St→Prop,J=fun k s=>∃bs m,FarS g M t bs∧(m=false→∀a b,a<g.ts.length→b<g.ts.length→jeq g M t bs a b=false)∧bs.count false+(if m then 1 else 0)≤k ∧
  s.tm 1=slOf false jD (readH g)∧s.tm 2=slOf nl intC M∧s.tm 3=.int .i64 (t:Int)∧s.tm 4=.ptr 8 0 0∧s.tm 9=.osl 32 320 0 g.ts.length 1∧s.tm 10=.bool m∧s.ob 8=some ⟨0,.cells (histC g)⟩∧s.ob 32=some ⟨320,.cells (bs.map V.bool)⟩∧s.df=[]∧s.ro=0∧s.fb=0:=⟨_,rfl⟩
 refine YT (n:=g.ts.length+1) J (by
  rw[hJ]
  exact⟨List.replicate g.ts.length false,true,⟨zS,fun a h=>by simp[List.getD_eq_getElem?_getD,List.getElem?_replicate]at h;split at h <;> cases h⟩,(fun h=>by cases h),zS,g1,g2,g3,g4,g9,d0,p8,d3,gd,gr,gb⟩) ?_
 intro k s c0
 rw[hJ]at c0
 obtain⟨S,m,hF,c9,hk,s1,s2,s3,s4,s9,c4,o8,b8,sd,sr,sb⟩:=c0
 cases m
 ·simp[c4]
  have c5:=j3b hF ht (c9 rfl)
  rw[c5,j3z]at b8
  refine bl_end (l:=32) (u:=320) (n:=g.ts.length) (bs:=(List.range g.ts.length).map (farB g M t)) (fun r h=>h) (by simp[sd]) (by simp[s9]) (by simpa using b8) zS d1 (by simp[sr])
 ·simp only[if_true]at hk
  simp[c4]
  obtain⟨I,hI⟩:∃I:Nat→St→Prop,I=fun i s=>s.tm 11=.int .i64 i∧∃bs m,FarR g M t S i 0 bs m∧s.tm 10=.bool m∧s.ob 8=some ⟨0,.cells (histC g)⟩∧s.ob 32=some ⟨320,.cells (bs.map V.bool)⟩:=⟨_,rfl⟩
  refine j9 [(10,12),(18,58)] g.ts.length I rfl rfl (by
   rw[hI]
   exact⟨zS,S,false,⟨hF,fun _=>⟨rfl,fun a b h _=>by omega⟩,fun h=>by cases h⟩,zS,by simpa using o8,by simpa using b8⟩) ?_
  intro i w hi c3 f
  rw[hI]at c3
  obtain⟨b6,b9,m1,hR,c1,v8,c6⟩:=c3
  have f1:w.tm 1=slOf false jD (readH g):=by rw[f.t 1 zS];simp[s1]
  have f2:w.tm 2=slOf nl intC M:=by rw[f.t 2 zS];simp[s2]
  have f3:w.tm 3=.int .i64 (t:Int):=by rw[f.t 3 zS];simp[s3]
  have f4:w.tm 4=.ptr 8 0 0:=by rw[f.t 4 zS];simp[s4]
  have f9:w.tm 9=.osl 32 320 0 g.ts.length 1:=by rw[f.t 9 zS];simp[s9]
  have fd:w.df=[]:=by rw[f.d];simp[sd]
  have fr:w.ro=0:=by rw[f.r];simp[sr]
  have fb:w.fb=0:=by rw[f.b];simp[sb]
  clear f
  by_cases L:i<g.ts.length
  ·simp[b6,f4,v8,j0,histC,L]
   obtain⟨I2,b5⟩:∃I2:Nat→St→Prop,I2=fun j s=>s.tm 12=.int .i64 j∧∃bs m,FarR g M t S i j bs m∧s.tm 10=.bool m∧s.ob 8=some ⟨0,.cells (histC g)⟩∧s.ob 32=some ⟨320,.cells (bs.map V.bool)⟩:=⟨_,rfl⟩
   refine j9 [(10,10),(12,12),(25,58)] g.ts.length I2 rfl rfl (by
    rw[b5]
    exact⟨zS,b9,m1,hR,by simpa using c1,by simpa using v8,by simpa using c6⟩) ?_
   intro j x hj c7 f
   rw[b5]at c7
   obtain⟨y,bs,m,b0,O,H,o⟩:=c7
   have x1:x.tm 1=slOf false jD (readH g):=by rw[f.t 1 zS];simp[f1]
   have x2:x.tm 2=slOf nl intC M:=by rw[f.t 2 zS];simp[f2]
   have x3:x.tm 3=.int .i64 (t:Int):=by rw[f.t 3 zS];simp[f3]
   have x4:x.tm 4=.ptr 8 0 0:=by rw[f.t 4 zS];simp[f4]
   have x9:x.tm 9=.osl 32 320 0 g.ts.length 1:=by rw[f.t 9 zS];simp[f9]
   have D:x.tm 11=.int .i64 (i:Int):=by rw[f.t 11 zS];simp[b6]
   have xd:x.df=[]:=by rw[f.d];simp[fd]
   have xr:x.ro=0:=by rw[f.r];simp[fr]
   have xb:x.fb=0:=by rw[f.b];simp[fb]
   clear f
   by_cases e:j<g.ts.length
   ·have hw:=jh e zO
    have B:=b0.next ht L e
    have d4:bs.length=g.ts.length:=b0.1.1
    have F:=idxN (l:=32) (u:=320) (n:=g.ts.length) (kk:=.i64) (X:=(i:Int)) rfl L
    have b7:=idxN (l:=32) (u:=320) (n:=g.ts.length) (kk:=.i64) (X:=(j:Int)) rfl e
    have K:=jn9 bs (i:=i) zO
    have a0:=jn9 bs (i:=j) zO
    have d2:bs.getD i false=bs[i]:=by simp[List.getD_eq_getElem?_getD,show i<bs.length by omega]
    have c8:bs.getD j false=bs[j]:=by simp[List.getD_eq_getElem?_getD,show j<bs.length by omega]
    have G:=ev122 hs (nl:=nl) hM L e
    have Q:((j:Int) == (t:Int))=(j == t):=by rw[Bool.eq_iff_iff];simp;omega
    unfold jeq at B
    rw[d2,c8]at B
    have c2:=jot bs i true zO
    have p:∀ (x':St) (Z:List Bool) (m':Bool),FarR g M t S i (j+1) Z m'→x'.tm 12=.int .i64 ((j+1:Nat):Int)→x'.tm 10=.bool m'→x'.ob 8=some ⟨0,.cells (histC g)⟩→x'.ob 32=some ⟨320,.cells (Z.map V.bool)⟩→I2 (j+1) x':=fun x' Z m' a1 a2 a3 a4 a5=>by rw[b5];exact⟨a2,Z,m',a1,a3,a4,a5⟩
    cases U:bs[i]
    ·have N:∀c:Bool,jcj g M i j=c→((j == t) || bs[j])=true→FarR g M t S i (j+1) (if c then bs.set i true else bs) (m || c):=fun c hc hq=>by
      rw[U,hc,hq]at B
      simpa using B
     cases T:(j == t)
     ·cases cj:bs[j]
      ·rw[U,T,cj]at B
       simp at B
       simp[y,x4,x3,x9,D,H,o,j0,histC,e,F,b7,K,a0,U,cj,Q,T,hw]
       exact p _ bs m B zS (by simp[O]) (by simp[H,histC]) (by simp[o])
      ·rw[T,cj]at N
       cases cs:jcj g M i j
       ·have z:=N false cs rfl
        rw[cs]at G
        simp at z
        simp[y,x4,x3,x9,D,x1,x2,H,o,j0,histC,e,F,b7,K,a0,U,cj,Q,T]
        refine jR G (by simp[histC]) rfl (by simp[histC]) ?_
        simp[hw,y,e]
        exact p _ bs m z zS (by simp[O]) (by simp[H,histC]) (by simp[o])
       ·have z:=N true cs rfl
        rw[cs]at G
        simp at z
        simp[y,x4,x3,x9,D,x1,x2,H,o,j0,histC,e,F,b7,K,a0,U,cj,Q,T]
        refine jR G (by simp[histC]) rfl (by simp[histC]) ?_
        simp[hw,y,e,x9,D,F,o,j0,c2,xr]
        exact⟨zO,p _ (bs.set i true) true z zS zS (by simp[H,histC]) (by simp[List.map_set])⟩
     ·cases cs:jcj g M i j
      ·have z:=N false cs (by rw[T];rfl)
       rw[cs]at G
       simp at z
       simp[y,x4,x3,x9,D,x1,x2,H,o,j0,histC,e,F,K,U,Q,T]
       refine jR G (by simp[histC]) rfl (by simp[histC]) ?_
       simp[hw,y,e]
       exact p _ bs m z zS (by simp[O]) (by simp[H,histC]) (by simp[o])
      ·have z:=N true cs (by rw[T];rfl)
       rw[cs]at G
       simp at z
       simp[y,x4,x3,x9,D,x1,x2,H,o,j0,histC,e,F,K,U,Q,T]
       refine jR G (by simp[histC]) rfl (by simp[histC]) ?_
       simp[hw,y,e,x9,D,F,o,j0,c2,xr]
       exact⟨zO,p _ (bs.set i true) true z zS zS (by simp[H,histC]) (by simp[List.map_set])⟩
    ·rw[U]at B
     simp at B
     simp[y,x4,x9,D,H,o,j0,histC,e,F,K,U,hw]
     exact p _ bs m B zS (by simp[O]) (by simp[H,histC]) (by simp[o])
   ·have:j=g.ts.length:=zO
    subst this
    have hw:=jh L zO
    simp[y,x4,H,j0,histC,D,hw,L]
    rw[hI]
    exact⟨zS,bs,m,b0.row,by simpa using O,by simpa[histC] using H,by simpa using o⟩
  ·have:i=g.ts.length:=zO
   subst this
   simp[b6,f4,v8,j0,histC]
   refine⟨k - 1,zO,?_⟩
   rw[hJ]
   refine⟨b9,m1,hR.1,fun hm a b ha hb=>?_,?_,by simpa using f1,by simpa using f2,by simpa using f3,by simpa using f4,by simpa using f9,by simpa using c1,by simpa[histC] using v8,by simpa using c6,by simp[fd],by simp[fr],by simp[fb]⟩
   ·rw[(hR.2.1 hm).1]
    exact(hR.2.1 hm).2 a b (.inl ha) hb
   ·cases m1
    ·rw[(hR.2.1 rfl).1];simp;omega
    ·have:=hR.2.2 rfl;simp;omega
theorem ev33 {g:Hist'}(hs:Small g) {nl on:Bool}{M O:List Int}(hM:M.length=(readH g).length) (hO:O.length≤1000000) (lvl:Int) {q:Nat}(hq:q<(readH g).length) {t:Nat}(ht:t<g.ts.length) (o:((readH g)[q]).1=t) :
 ∃v,Ev E 33 [.int .i64 lvl,.agg (histC g),slOf nl intC M,slOf on intC O,.int .i64 (q:Int)] v∧SlR v false (Wd g lvl M O (readH g)[q]).length ((Wd g lvl M O (readH g)[q]).flatMap intC):=by
 have f7:=hs.ts
 have f4:=jdr hs
 obtain⟨vr,e5,e4⟩:=ev31 hs
 obtain⟨vp,e9,b8⟩:=ev75 hs (nl:=nl) hM ht
 refine XP (af:=F33) rfl zD ?_
 obtain⟨p,hp⟩:∃p,(readH g)[q]=p:=⟨_,rfl⟩
 have b9:=jrz (readH g) hq
 have f5:=jb jO (fun _=>none) (readH g) hq
 rw[hp]at o b9 ⊢
 obtain⟨F,hF⟩:∃F,(fun i=>jbb g lvl M O p i)=F:=⟨_,rfl⟩
 have j:∀i,jbb g lvl M O p i=F i:=fun i=>congrFun hF i
 have hL:Wd g lvl M O p=Xz F g.ts.length:=by unfold Wd;rw[← hF]
 rw[hL]
 have d1:lvl=1→∀i:Nat,F i=rcB (readH g) M p i:=fun h i=>by rw[← j];simp[jbb,h]
 have d5:lvl=2→∀i,F i=farB g M t i:=fun h i=>by rw[← j];simp[jbb,h,o]
 have d6:lvl=3→∀i:Nat,F i=(Xe g i && decide (atO O i<atO O t)):=fun h i=>by rw[← j];simp[jbb,h,o]
 have d0:lvl≠1→lvl≠2→lvl≠3→∀i,F i=false:=fun h1 h2 h3 i=>by rw[← j];simp[jbb,h1,h2,h3]
 clear j hF
 obtain⟨B,hB⟩:∃B,(List.range g.ts.length).map (farB g M t)=B:=⟨_,rfl⟩
 rw[hB]at b8
 have d9:B.length=g.ts.length:=by rw[← hB];simp
 have e6:∀i (h:i<B.length),B[i]=farB g M t i:=fun i h=>by simp[← hB]
 clear hL
 generalize readH g=R at *
 simp[F33,histC,j0]
 refine jR e5 (by simp[histC]) rfl (by simp[histC]) ?_
 refine Xv e4 fun tr f2=>?_
 simp
 refine jS (cs:=[]) rfl rfl rfl ?_
 have b7:=fun ob=>Q8 R ob hq
 simp only[hp]at b7
 simp[j0,hq,JQ jO,b7,j5]
 simp only[o]at b7 b9
 simp[o]
 refine jR e9 (by simp[histC,slOf]) rfl (by simp[histC]) ?_
 rw[← d9]at b8
 refine Xv b8 fun tp f0=>?_
 simp
 refine jj fun H e=>?_
 have g0:H.tm 0=.int .i64 lvl:=by rw[e];simp
 have g2:H.tm 2=slOf nl intC M:=by rw[e];simp
 have g3:H.tm 3=slOf on intC O:=by rw[e];simp
 have g6:H.tm 6=.ptr 12 0 0:=by rw[e];simp
 have d7:H.tm 11=.sl tr false R.length (R.flatMap jD):=by rw[e];simp
 have d8:H.tm 13=.ptr 26 704 0:=by rw[e];simp
 have e8:H.tm 14=.sl tp false B.length (B.flatMap blC):=by rw[e];simp
 have d3:H.tm 15=.int .i64 0:=by rw[e];simp
 have d2:H.ob 12=some ⟨0,.cells (histC g)⟩:=by rw[e];simp[histC]
 have d4:H.ob 26=some ⟨704,.cells [.int .i64 (t:Int),.int .i64 p.2]⟩:=by rw[e];simp
 have gG:GrowT H.tk H.nx intC 1 (Xz F 0) (H.tm 12):=by rw[e];exact⟨_,by simp[Xz];rfl,by simp[JC],zS⟩
 have gd:H.df=[]:=by rw[e];simp
 have gr:H.ro=0:=by rw[e];simp
 have gb:H.fb=0:=by rw[e];simp
 clear e
 obtain⟨I,hI⟩:∃I:Nat→St→Prop,I=fun i s=>s.tm 15=.int .i64 i∧s.ob 12=some ⟨0,.cells (histC g)⟩∧s.ob 26=some ⟨704,.cells [.int .i64 (t:Int),.int .i64 p.2]⟩∧GrowT s.tk s.nx intC 1 (Xz F i) (s.tm 12):=⟨_,rfl⟩
 refine j9 [(12,12),(15,17),(31,105)] g.ts.length I rfl rfl (by
  rw[hI]
  exact⟨by simpa using d3,d2,d4,gG⟩) ?_
 intro i s hi c5 f
 rw[hI]at c5
 obtain⟨w,L,a0,hG⟩:=c5
 have s0:s.tm 0=.int .i64 lvl:=by rw[f.t 0 zS];simp[g0]
 have s2:s.tm 2=slOf nl intC M:=by rw[f.t 2 zS];simp[g2]
 have s3:s.tm 3=slOf on intC O:=by rw[f.t 3 zS];simp[g3]
 have s6:s.tm 6=.ptr 12 0 0:=by rw[f.t 6 zS];simp[g6]
 have e0:s.tm 11=.sl tr false R.length (R.flatMap jD):=by rw[f.t 11 zS];simp[d7]
 have c6:s.tm 13=.ptr 26 704 0:=by rw[f.t 13 zS];simp[d8]
 have e7:s.tm 14=.sl tp false B.length (B.flatMap blC):=by rw[f.t 14 zS];simp[e8]
 have sd:s.df=[]:=by rw[f.d];simp[gd]
 have sr:s.ro=0:=by rw[f.r];simp[gr]
 have sb:s.fb=0:=by rw[f.b];simp[gb]
 clear f
 by_cases z:i<g.ts.length
 ·have hw:=jh z zO
  have f3:=jer F i
  simp[w,s6,L,j0,histC,z,s0]
  generalize c4:jqj E Xx _ _=KK
  have G:∀x:St,x.tm 16=.bool (F i)→x.tm 15=.int .i64 i→x.ob=s.ob→x.tk=s.tk→s.nx≤x.nx→x.tm 12=s.tm 12→KK .nrm x:=by
   intro x n J S U xn b0
   rw[← c4]
   clear c4
   have m:Xz F (i+1)=Xz F i++(if F i then [(i:Int)] else []):=rfl
   cases hf:F i
   ·rw[hf]at n m
    simp only[Bool.false_eq_true,if_false,List.append_nil]at m
    simp[n,J,hw,z]
    rw[hI]
    refine⟨zS,by simp[S,L],by simp[S,a0],?_⟩
    rw[m]
    simpa[b0,U] using hG.mono (nx':=x.nx+64+64+64+64) (fun _ _ h=>h) zO
   ·rw[hf]at n m
    simp only[if_true]at m
    simp[n,J]
    refine jS (cs:=intC i) (by simp[j5,intC]) rfl rfl ?_
    simp[intC]
    refine QF (hi:=s.nx) (f:=intC) (l:=Xz F i) (a:=(i:Int)) (v:=s.tm 12) (hG.mono (fun u _ h=>by simp[JC,U,h]) zR) (by simp[b0]) (by simp[jI,intC]) jC zD (by simp[intC,V.pureLeaf]) zO zO (fun f6 f1=>?_)
    rw[← m]
    have c9:(Xz F i).length+1=(Xz F (i+1)).length:=by rw[m];simp
    rw[c9]
    obtain⟨Q,hQ⟩:∃Q,Xz F (i+1)=Q:=⟨_,rfl⟩
    rw[hQ]
    simp[J,hw,z]
    rw[hI]
    refine⟨zS,by simp[S,L],by simp[S,a0],?_⟩
    rw[hQ]
    exact⟨_,by simp;rfl,by simp[JC],zS⟩
  by_cases e1:lvl=1
  ·simp[e1]
   have hc:=d1 e1 i
   unfold rcB at hc
   refine j9 [(16,17),(41,75)] R.length (fun k x=>x.tm 17=.int .i64 k∧(∃b6,x.tm 16=.bool b6∧(b6 || ((R.drop k).zip (M.drop k)).any fun y=>y.1.1 == p.1 && (decide (y.1.2<p.2) && y.2 == (i:Int)))=F i)∧x.ob=s.ob∧x.tk=s.tk∧s.nx≤x.nx) rfl rfl ⟨zS,⟨false,zS,by simpa using hc.symm⟩,zS,zS,by simp;omega⟩ ?_
   rintro k x hk ⟨P,⟨b6,n,c⟩,S,U,xn⟩ f
   have J:x.tm 15=.int .i64 i:=by rw[f.t 15 zS];simp[w]
   have x2:x.tm 2=slOf nl intC M:=by rw[f.t 2 zS];simp[s2]
   have K:x.tm 11=.sl tr false R.length (R.flatMap jD):=by rw[f.t 11 zS];simp[e0]
   have b5:x.tm 13=.ptr 26 704 0:=by rw[f.t 13 zS];simp[c6]
   have b0:x.tm 12=s.tm 12:=by rw[f.t 12 zS];simp
   clear f
   have X:x.ob 26=some ⟨704,.cells [.int .i64 (t:Int),.int .i64 p.2]⟩:=by rw[S];exact a0
   by_cases D:k<R.length
   ·have T:=jh D zO
    have Z:k<M.length:=zO
    have h1:=JP M Z
    have h2:=jrz R D
    rw[List.drop_eq_getElem_cons D,List.drop_eq_getElem_cons Z,List.zip_cons_cons,List.any_cons,← Bool.or_assoc]at c
    rw[o]at c
    cases b6
    ·cases N:((R[k]).1 == (t:Int))
     ·rw[N]at c
      simp[P,n,K,b5,X,j0,D,JQ jO,h2,N,T]
      exact⟨by simpa[o] using c,S,U,zO⟩
     ·by_cases c2:(R[k]).2<p.2
      ·cases c3:(M[k] == (i:Int))
       ·rw[N,c3,decide_eq_true c2]at c
        simp[P,n,K,b5,X,x2,J,j0,D,Z,JQ jO,j4 jC,h1,h2,N,c2,c3,T]
        exact⟨by simpa[o] using c,S,U,zO⟩
       ·rw[N,c3,decide_eq_true c2]at c
        simp[P,n,K,b5,X,x2,J,j0,D,Z,JQ jO,j4 jC,h1,h2,N,c2,c3,T]
        exact⟨by simpa[o] using c,S,U,zO⟩
      ·rw[N,decide_eq_false c2]at c
       simp[P,n,K,b5,X,j0,D,JQ jO,h2,N,c2,T]
       exact⟨by simpa[o] using c,S,U,zO⟩
    ·simp[P,n,K,D,T]
     exact⟨by simpa[o] using c,S,U,zO⟩
   ·have:k=R.length:=zO
    subst this
    rw[List.drop_length]at c
    simp at c
    simp[P,K]
    exact G _ (by simp[n,c]) (by simp[J]) (by simp[S]) (by simp[U]) (by simp;omega) (by simp[b0])
  ·have b1:(lvl == 1)=false:=by simpa using e1
   by_cases e2:lvl=2
   ·have c0:=bl_at B (i:=i) zO
    rw[e6 i zO,← d5 e2 i]at c0
    have c7:=JQ jl8 tp false B .i64 (i:=i) zO
    rw[Nat.mul_one]at c7
    simp[e2,e7,w,c7,c0]
    exact G _ zS (by simp[w]) zS zS (by simp;omega) zS
   ·have b2:(lvl == 2)=false:=by simpa using e2
    by_cases e3:lvl=3
    ·have c8:(g.ts.flatMap ji)[i*3+1]? = some (.int .i64 (g.ts[i]).f):=by rw[jW j8 g.ts z (by decide:1<3)];rfl
     have j:=d6 e3 i
     rw[jhs z]at j
     have ea:=j3g (a:=on) O zO (i:Int)
     have eb:=j3g (a:=on) O zO (t:Int)
     cases N:((g.ts[i]).f == 1)
     ·rw[N,Bool.false_and]at j
      simp[e3,s6,L,j0,histC,w,z,j4 j8,c8,N]
      exact G _ (by simp[j]) (by simp[w]) zS zS (by simp;omega) zS
     ·rw[N,Bool.true_and]at j
      simp[e3,s6,L,j0,histC,w,z,j4 j8,c8,N,s3]
      refine JU ea zS rfl zS ?_
      simp[c6,a0,j0,s3]
      refine JU eb zS rfl zS ?_
      simp
      exact G _ (by simp[j]) (by simp[w]) zS zS (by simp;omega) zS
    ·have b3:(lvl == 3)=false:=by simpa using e3
     simp[b1,b2,b3]
     exact G _ (by simp[d0 e1 e2 e3]) (by simp[w]) zS zS (by simp;omega) zS
 ·have:i=g.ts.length:=zO
  subst this
  obtain⟨u,hu,_,_⟩:=hG
  simp[w,s6,L,j0,histC]
  exact slE (t:=some (u,1)) (nl:=false) (k:=(Xz F g.ts.length).length) (cs:=(Xz F g.ts.length).flatMap intC) (fun r h=>h) (by simp[sd]) (by simp[hu])
theorem QK (g:Hist'):(comL g).length≤g.ts.length:=JG Jf g.ts g.ts.length
theorem ev23 {g:Hist'}(F:Small g) {nl:Bool}(O:List Int) (P:O.length≤1000000):Ev E 23 [.agg (histC g),slOf nl intC O] (.bool (YK g O)):=by
 have y:=F.ts
 have e:=ev21 F
 have m:=ev39 g y
 have M:=QK g
 refine jP (af:=F23) rfl ?_
 unfold YK
 have p:numsTo Jf g.ts g.ts.length=comL g:=rfl
 rw[p]at m
 generalize comL g=C at *
 obtain⟨f,q⟩:∃f:Nat→Bool,(fun i=>C.contains (O.getD i 0) && !(O.take i).contains (O.getD i 0))=f:=⟨_,rfl⟩
 have b:∀i (h:i<O.length),f i=(C.contains O[i] && !(O.take i).contains O[i]):=fun i h=>by rw[← q];simp only[JA h]
 rw[q]
 clear q
 cases G:JV g
 ·rw[G]at e
  simp[F23,histC,j0]
  refine jR e (by simp[histC]) rfl (by simp[histC]) ?_
  simp
  exact j3 zS zS rfl
 rw[G]at e
 simp[F23,histC,j0]
 refine jR e (by simp[histC]) rfl (by simp[histC]) ?_
 simp[j0]
 refine jR m (by simp[histC]) rfl (by simp[histC]) ?_
 refine Xv (nl:=false) (n:=C.length) (cs:=C.flatMap intC) ⟨_,rfl,zS⟩ fun L H=>?_
 simp
 by_cases v:C.length=O.length
 ·simp[v]
  refine j9 [(4,4),(6,6),(17,39)] O.length (fun i s=>s.tm 6=.int .i64 i∧∀k,k<i→f k=true) rfl rfl ⟨zS,fun k I=>by omega⟩ ?_
  rintro i s Q ⟨o,j⟩ fr
  have w:s.tm 1=slOf nl intC O:=by rw[fr.t 1 zS];simp
  have J:s.tm 5=.sl L false C.length (C.flatMap intC):=by rw[fr.t 5 zS];simp[v]
  have z:s.df=[]:=by rw[fr.d];simp
  clear fr
  by_cases c:i<O.length
  ·have r:=jh c zO
   have B:=JP O c
   have N:=ev62 (a:=false) C zO O[i]
   have K:=ev62 (a:=nl) (O.take i) (by simp;omega) O[i]
   have b:=b i c
   simp[o,w,J,c,j4 jC,B]
   refine JU N (by simp[slOf]) rfl zS ?_
   cases D:C.contains O[i]
   ·rw[D,Bool.false_and]at b
    simp
    exact j3 (by simp[z]) (by simp[XF c b]) rfl
   ·rw[D,Bool.true_and]at b
    have u:QQ 1 none (some (.int .i64 (i:Int))) (slOf nl intC O)=some (slOf nl intC (O.take i)):=jk0 jC none nl O zO
    simp[o,w,c,j4 jC,B,u]
    refine JU K zS rfl zS ?_
    cases l:(O.take i).contains O[i]
    ·rw[l]at b
     simp[r,o,c]
     intro k I
     rcases Nat.lt_succ_iff_lt_or_eq.1 I with h|h
     ·exact j k h
     ·subst h;exact b
    ·rw[l]at b
     simp
     exact j3 (by simp[z]) (by simp[XF c b]) rfl
  ·have:i=O.length:=zO
   subst this
   simp[o,w]
   exact j3 (by simp[z]) (by simp[andTo_iff.2 j]) rfl
 ·have x:((C.length:Int) != O.length)=true:=by simp;omega
  simp[x]
  exact j3 zS (by simp[v]) rfl
theorem jrs {g:Hist'}(c:Wp g=true) {q:Nat}(b:q<(readH g).length):∃ (i k:Nat) (hi:i<g.ts.length) (a:k<(g.ts[i]).ops.length),(readH g)[q]=((i:Int),(k:Int))∧jed g (readH g)[q]=((g.ts[i]).ops[k]).key∧Xe g i=true:=by
 obtain⟨i,k,t,e,f,d,a,_⟩:=jdt (List.getElem_mem b)
 obtain⟨hi,rfl⟩:=List.getElem?_eq_some_iff.1 f
 refine⟨i,k,hi,a,e,?_,by simpa[Xe,hi] using d⟩
 rw[e]
 have:opAt g (i:Int) (k:Int)=some (g.ts[i]).ops[k]:=by
  unfold opAt
  simp[c,hi,a,List.getD_eq_getElem?_getD]
 unfold jed
 simp only[this]
theorem jia {g:Hist'}(h:JV g=true):Wp g=true:=by
 unfold JV at h
 simp only[Bool.and_eq_true]at h
 exact h.1
theorem ev24 {g:Hist'}(hs:Small g) {nl on:Bool}(lvl:Int) {M O:List Int}(d4:jb5 g M=true) (ho:YK g O=true):Ev E 24 [.int .i64 lvl,.agg (histC g),slOf nl intC M,slOf on intC O] (.bool (jel g lvl M O)):=by
 have d8:=hs.ts
 have i6:=jdr hs
 have g7:=Yi d4
 have i5:=ji7 ho
 have i3:=QK g
 have d7:=jia (jd7 d4)
 have e0:=ev39 g d8
 obtain⟨vr,g4,h5⟩:=ev31 hs
 have f0:numsTo Jf g.ts g.ts.length=comL g:=rfl
 rw[f0]at e0
 refine jP (af:=F24) rfl ?_
 unfold jel
 obtain⟨f1,c3⟩:∃f,sesB g O=f:=⟨_,rfl⟩
 obtain⟨f2,e5⟩:∃f,jit g lvl M O=f:=⟨_,rfl⟩
 rw[c3,e5]
 simp[F24,histC,j0]
 refine JU e0 (by simp[histC]) rfl (by simp[histC]) ?_
 refine Xv (nl:=false) (n:=(comL g).length) (cs:=(comL g).flatMap intC) ⟨_,rfl,zS⟩ fun tc i0=>?_
 simp[j0]
 refine JU g4 (by simp[histC]) rfl (by simp[histC]) ?_
 refine Xv h5 fun tr i2=>?_
 simp
 refine jj fun Q D=>?_
 have g0:Q.tm 0=.int .i64 lvl:=by rw[D];simp
 have g2:Q.tm 2=slOf nl intC M:=by rw[D];simp
 have g3:Q.tm 3=slOf on intC O:=by rw[D];simp
 have g5:Q.tm 5=.ptr 10 0 0:=by rw[D];simp
 have g9:Q.tm 9=.sl tc false (comL g).length ((comL g).flatMap intC):=by rw[D];simp
 have h3:Q.tm 10=.sl tr false (readH g).length ((readH g).flatMap jD):=by rw[D];simp
 have h0:Q.tm 11=.int .i64 0:=by rw[D];simp
 have f8:Q.ob 10=some ⟨0,.cells (histC g)⟩:=by rw[D];simp[histC]
 have gd:Q.df=[]:=by rw[D];simp
 have gr:Q.ro=0:=by rw[D];simp
 have gb:Q.fb=0:=by rw[D];simp
 clear D
 refine j9 [(8,8),(11,12),(23,75)] (comL g).length (fun i s=>s.tm 11=.int .i64 i∧s.ob 10=some ⟨0,.cells (histC g)⟩∧∀k,k<i→f1 k=true) rfl rfl ⟨by simpa using h0,f8,fun k hk=>by omega⟩ ?_
 rintro i s hi ⟨c6,d1,F⟩ fr
 have s0:s.tm 0=.int .i64 lvl:=by rw[fr.t 0 zS];simp[g0]
 have s2:s.tm 2=slOf nl intC M:=by rw[fr.t 2 zS];simp[g2]
 have s3:s.tm 3=slOf on intC O:=by rw[fr.t 3 zS];simp[g3]
 have s5:s.tm 5=.ptr 10 0 0:=by rw[fr.t 5 zS];simp[g5]
 have s9:s.tm 9=.sl tc false (comL g).length ((comL g).flatMap intC):=by rw[fr.t 9 zS];simp[g9]
 have h4:s.tm 10=.sl tr false (readH g).length ((readH g).flatMap jD):=by rw[fr.t 10 zS];simp[h3]
 have sd:s.df=[]:=by rw[fr.d];simp[gd]
 have sr:s.ro=0:=by rw[fr.r];simp[gr]
 have sb:s.fb=0:=by rw[fr.b];simp[gb]
 clear fr
 have P:∀ {k:Nat},k<(comL g).length→JK 1 (.sl tc false (comL g).length ((comL g).flatMap intC)) (.int .i64 (k:Int))=some (.eptr ((comL g).flatMap intC) k):=fun {k} h=>by have:=JQ jC tc false (comL g) .i64 h;rwa [Nat.mul_one]at this
 by_cases c:i<(comL g).length
 ·have hw:=jh c zO
  obtain⟨vb,h6,g1⟩:=ev40 hs ((comL g)[i])
  have h1:=JP (comL g) c
  have B:f1 i=((badH g ((comL g)[i])).isEmpty && je5 (je7 g O i) i):=by rw[← c3,sesB,JA c]
  simp[c6,s9,s5,d1,j0,histC,c,P c,h1]
  refine JU h6 (by simp[histC]) rfl (by simp[histC]) ?_
  refine Xv g1 fun tb h9=>?_
  cases L:(badH g ((comL g)[i])).isEmpty
  ·rw[L,Bool.false_and]at B
   have d0:0<(badH g ((comL g)[i])).length:=List.length_pos_iff.2 (fun e=>by rw[e]at L;cases L)
   simp[d0]
   exact j3 (by simp[sd]) (by simp[XF c B]) rfl
  ·rw[L,Bool.true_and]at B
   have d0:¬ 0<(badH g ((comL g)[i])).length:=by rw[List.isEmpty_iff]at L;rw[L];simp
   simp[d0]
   refine j9 [(8,8),(12,12),(37,75)] i (fun k x=>x.tm 12=.int .i64 k∧x.ob 10=some ⟨0,.cells (histC g)⟩∧∀j,j<k→je7 g O i j=true) rfl rfl ⟨zS,by simpa[histC] using d1,fun k hk=>by omega⟩ ?_
   rintro k x hk ⟨b9,J,c9⟩ fr
   have x3:x.tm 3=slOf on intC O:=by rw[fr.t 3 zS];simp[s3]
   have x5:x.tm 5=.ptr 10 0 0:=by rw[fr.t 5 zS];simp[s5]
   have x9:x.tm 9=.sl tc false (comL g).length ((comL g).flatMap intC):=by rw[fr.t 9 zS];simp[s9]
   have b5:x.tm 11=.int .i64 i:=by rw[fr.t 11 zS];simp[c6]
   have xd:x.df=[]:=by rw[fr.d];simp[sd]
   clear fr
   by_cases U:k<i
   ·have a0:k<(comL g).length:=zO
    have e6:=jh U zO
    have T:=JP (comL g) a0
    obtain⟨a,ea,d3⟩:=comL_mem.1 (List.getElem_mem a0)
    obtain⟨b,eb,h7⟩:=comL_mem.1 (List.getElem_mem c)
    have o:je7 g O i k=(!(sesAt g a == sesAt g b) || decide (atO O a<atO O b)):=by unfold je7;rw[JA a0,JA c,ea,eb];rfl
    have ha:=Xj d3
    have hb:=Xj h7
    rw[jcs ha,jcs hb]at o
    have sa:(g.ts.flatMap ji)[a*3]? = some (.int .i64 (g.ts[a]).s):=by have:=jW j8 g.ts ha (by decide:0<3);rw[Nat.add_zero]at this;rw[this];rfl
    have e7:(g.ts.flatMap ji)[b*3]? = some (.int .i64 (g.ts[b]).s):=by have:=jW j8 g.ts hb (by decide:0<3);rw[Nat.add_zero]at this;rw[this];rfl
    have e1:=j3g (a:=on) O zO (a:Int)
    have e2:=j3g (a:=on) O zO (b:Int)
    rw[ea]at T
    rw[eb]at h1
    cases c0:((g.ts[a]).s == (g.ts[b]).s)
    ·rw[c0]at o
     simp at o
     simp[b9,b5,x5,x9,J,j0,histC,U,P a0,P c,h1,T,ha,hb,j4 j8,sa,e7,c0,e6]
     intro j hj
     rcases Nat.lt_succ_iff_lt_or_eq.1 hj with h|h
     ·exact c9 j h
     ·subst h;exact o
    ·rw[c0]at o
     simp only[Bool.not_true,Bool.false_or]at o
     simp[b9,b5,x5,x9,x3,J,j0,histC,U,P a0,P c,h1,T,ha,hb,j4 j8,sa,e7,c0]
     refine JU e1 zS rfl zS ?_
     simp[b5,x9,x3,P c,h1]
     refine JU e2 zS rfl zS ?_
     by_cases G:atO O a<atO O b
     ·rw[decide_eq_true G]at o
      simp[show ¬ atO O (b:Int)≤atO O (a:Int) by omega,b9,e6,U]
      refine⟨by simpa[histC] using J,fun j hj=>?_⟩
      rcases Nat.lt_succ_iff_lt_or_eq.1 hj with h|h
      ·exact c9 j h
      ·subst h;exact o
     ·rw[decide_eq_false G]at o
      simp[show atO O (b:Int)≤atO O (a:Int) by omega]
      exact j3 (by simp[xd]) (by simp[XF c (B.trans (XF U o))]) rfl
   ·have:k=i:=zO
    subst this
    simp[b9,b5,hw,c]
    refine⟨by simpa[histC] using J,fun j hj=>?_⟩
    rcases Nat.lt_succ_iff_lt_or_eq.1 hj with h|h
    ·exact F j h
    ·subst h;rw[B];exact andTo_iff.2 c9
 ·have:i=(comL g).length:=zO
  subst this
  rw[andTo_iff.2 F,Bool.true_and]
  clear F c3
  simp[c6,s9]
  refine j9 [(8,8),(13,18),(76,163)] (readH g).length (fun i s=>s.tm 13=.int .i64 i∧s.ob 10=some ⟨0,.cells (histC g)⟩∧∀k,k<i→f2 k=true) rfl rfl ⟨zS,by simpa using d1,fun k hk=>by omega⟩ ?_
  rintro i w hi ⟨N,e9,F⟩ fr
  have w0:w.tm 0=.int .i64 lvl:=by rw[fr.t 0 zS];simp[s0]
  have w2:w.tm 2=slOf nl intC M:=by rw[fr.t 2 zS];simp[s2]
  have w3:w.tm 3=slOf on intC O:=by rw[fr.t 3 zS];simp[s3]
  have w5:w.tm 5=.ptr 10 0 0:=by rw[fr.t 5 zS];simp[s5]
  have e8:w.tm 10=.sl tr false (readH g).length ((readH g).flatMap jD):=by rw[fr.t 10 zS];simp[h4]
  have wd:w.df=[]:=by rw[fr.d];simp[sd]
  have wr:w.ro=0:=by rw[fr.r];simp[sr]
  have wb:w.fb=0:=by rw[fr.b];simp[sb]
  clear fr
  by_cases c:i<(readH g).length
  ·have hw:=jh c zO
   have H:i<M.length:=zO
   obtain⟨a,k,ha,hk,hp,c2,d3⟩:=jrs d7 c
   have c5:=Q8 (readH g) w.ob c
   have I:=JP M H
   obtain⟨vs,f3,c8⟩:=ev33 hs (nl:=nl) (on:=on) (M:=M) (O:=O) g7 zO lvl c ha (by rw[hp])
   have B:f2 i=(decide (M[i]<0∨atO O M[i]<atO O a) && (Wd g lvl M O (readH g)[i]).all (okB g O (readH g)[i] M[i])):=by
    rw[← e5,jit,List.getElem?_eq_getElem c,List.getElem?_eq_getElem H]
    simp only[hp]
   have e1:=j3g (a:=on) O zO M[i]
   have e2:=j3g (a:=on) O zO (a:Int)
   rw[hp]at c5
   simp only at c5
   obtain⟨m,f6⟩:∃m,M[i]=m:=⟨_,rfl⟩
   rw[f6]at I B e1
   obtain⟨p,f9⟩:∃p,(readH g)[i]=p:=⟨_,rfl⟩
   rw[f9]at hp c2 c8 B
   obtain⟨S,hS⟩:∃S,Wd g lvl M O p=S:=⟨_,rfl⟩
   rw[hS]at c8 B
   have g8:∀x∈S,∃n:Nat,x=n∧n<g.ts.length:=fun x hx=>by
    rw[← hS]at hx
    obtain⟨n,h1,T,_⟩:=filTo_mem.1 hx
    exact⟨n,T,h1⟩
   have i4:S.length≤1000:=by
    rw[← hS]
    exact Nat.le_trans (jer _ _) d8
   clear hS
   simp[N,e8,c,JQ jO,c5,j5,wb,j0,wr,w2,H,j4 jC,I]
   generalize c4:jqj E Xx _ _=KK
   have c1:∀x:St,∀u,(decide (m<0∨atO O m<atO O a)=true)→x.tm 103=.bool false→x.tm 0=.int .i64 lvl→x.tm 2=slOf nl intC M→x.tm 3=slOf on intC O→x.tm 5=.ptr 10 0 0→x.tm 13=.int .i64 i→x.tm 14=.ptr 28 u 0→x.ob 10=some ⟨0,.cells (histC g)⟩→x.ob 28=some ⟨u,.cells [.int .i64 (a:Int),.int .i64 (k:Int)]⟩→x.df=[]→x.ro=0→x.fb=0→KK .nrm x:=by
    intro x u hc e4 x0 x2 x3 x5 d6 f7 J f5 xd xr xb
    rw[← c4]
    clear c4
    rw[hc,Bool.true_and]at B
    simp[e4,x0,x2,x3,x5,d6,J,j0,histC]
    refine jR f3 (by simp[histC]) rfl (by simp[histC]) ?_
    refine Xv c8 fun ts i1=>?_
    have P:∀ {j:Nat},j<S.length→JK 1 (.sl ts false S.length (S.flatMap intC)) (.int .i64 (j:Int))=some (.eptr (S.flatMap intC) j):=fun {j} h=>by have:=JQ jC ts false S .i64 h;rwa [Nat.mul_one]at this
    have h8:(g.ts.flatMap ji)[a*3+2]? = some (slOf (g.ts[a]).nl opC (g.ts[a]).ops):=by rw[jW j8 g.ts ha (by decide:2<3)];rfl
    have f4:((g.ts[a]).ops.flatMap opC)[k*4+1]? = some (.int .i64 ((g.ts[a]).ops[k]).key):=by rw[jW jF (g.ts[a]).ops hk (by decide:1<4)];rfl
    simp
    refine j9 [(8,8),(16,18),(110,163)] S.length (fun j y=>y.tm 16=.int .i64 j∧y.ob 10=some ⟨0,.cells (histC g)⟩∧y.ob 28=some ⟨u,.cells [.int .i64 (a:Int),.int .i64 (k:Int)]⟩∧∀q,q<j→okB g O p m (S.getD q 0)=true) rfl rfl ⟨zS,by simpa[histC] using J,by simpa using f5,fun q hq=>by omega⟩ ?_
    rintro j y hj ⟨K,b0,b7,d9⟩ fr
    have y2:y.tm 2=slOf nl intC M:=by rw[fr.t 2 zS];simp[x2]
    have y3:y.tm 3=slOf on intC O:=by rw[fr.t 3 zS];simp[x3]
    have y5:y.tm 5=.ptr 10 0 0:=by rw[fr.t 5 zS];simp[x5]
    have Z:y.tm 13=.int .i64 i:=by rw[fr.t 13 zS];simp[d6]
    have g6:y.tm 14=.ptr 28 u 0:=by rw[fr.t 14 zS];simp[f7]
    have X:y.tm 15=.sl ts false S.length (S.flatMap intC):=by rw[fr.t 15 zS];simp
    have yd:y.df=[]:=by rw[fr.d];simp[xd]
    have yr:y.ro=0:=by rw[fr.r];simp[xr]
    have yb:y.fb=0:=by rw[fr.b];simp[xb]
    clear fr
    by_cases v:j<S.length
    ·have d2:=jh v zO
     have T:=JP S v
     obtain⟨b,eb,hb⟩:=g8 _ (List.getElem_mem v)
     have el:=ev64 hs (b:Int) ((g.ts[a]).ops[k]).key
     have ez:(WK (Jk g (b:Int)).2 ((g.ts[a]).ops[k]).key).2=Yj g b (jed g p):=by rw[c2];rfl
     rw[ez]at el
     have l:okB g O p m (S.getD j 0)=((b:Int) == m || (!Yj g b (jed g p) || decide (atO O b<atO O m))):=by rw[JA v,eb];rfl
     have e3:=j3g (a:=on) O zO (b:Int)
     rw[eb]at T
     simp[K,X,g6,y5,b0,b7,j0,histC,v,P v,T,ha,hk,j4 j8,j4 jF,h8,f4]
     refine JU el (by simp[histC]) rfl (by simp[histC]) ?_
     rw[Jh (by simp[V.plain,jv])]
     generalize (WK (Jk g (b:Int)).2 ((g.ts[a]).ops[k]).key).1=rv at *
     generalize Yj g b (jed g p)=rb at *
     simp[jv,j5,yb,yr,j0]
     refine⟨by simp[XA,jay,jaz,jb9,rdOb,rdTk,lOf,Delta.wo,Delta.wt,y5];decide,?_⟩
     have next:okB g O p m (S.getD j 0)=true→∀q,q<j+1→okB g O p m (S.getD q 0)=true:=fun h q hq=>by
      rcases Nat.lt_succ_iff_lt_or_eq.1 hq with h'|h'
      ·exact d9 q h'
      ·subst h';exact h
     cases b8:((b:Int) == m)
     ·have b6:((b:Int) != m)=true:=by rw[bne,b8];rfl
      rw[b8,Bool.false_or]at l
      cases rb
      ·simp at l
       simp[K,X,y2,Z,P v,T,H,j4 jC,I,b6,d2,v,b0,b7,histC]
       exact next l
      ·simp only[Bool.not_true,Bool.false_or]at l
       simp[K,X,y2,y3,Z,P v,T,H,j4 jC,I,b6]
       refine JU e3 zS rfl zS ?_
       simp[y2,y3,Z,H,j4 jC,I]
       refine JU e1 zS rfl zS ?_
       by_cases G:atO O b<atO O m
       ·rw[decide_eq_true G]at l
        simp[show ¬ atO O m≤atO O b by omega,K,d2,v,b0,b7,histC]
        exact next l
       ·rw[decide_eq_false G]at l
        simp[show atO O m≤atO O b by omega]
        exact j3 (by simp[yd]) (by
         have:S.all (okB g O p m)=false:=by
          cases h:S.all (okB g O p m)
          ·rfl
          ·have:=List.all_eq_true.1 h _ (List.getElem_mem v)
           rw[← JA v (d:=0),l]at this
           cases this
         simp[XF c (B.trans this)]) rfl
     ·have b6:((b:Int) != m)=false:=by rw[bne,b8];rfl
      rw[b8,Bool.true_or]at l
      simp[K,X,y2,Z,P v,T,H,j4 jC,I,b6,d2,v,b0,b7,histC]
      exact next l
    ·have:j=S.length:=zO
     subst this
     clear v
     have c7:S.all (okB g O p m)=true:=by
      rw[List.all_eq_true]
      intro z hz
      obtain⟨q,hq,e⟩:=List.getElem_of_mem hz
      have:=d9 q hq
      rwa [JA hq,e]at this
     simp[K,X,Z,hw,c]
     refine⟨by simpa[histC] using b0,fun q hq=>?_⟩
     rcases Nat.lt_succ_iff_lt_or_eq.1 hq with h|h
     ·exact F q h
     ·subst h;rw[B];exact c7
   by_cases d5:m<0
   ·simp[show ¬ 0≤m by omega]
    exact c1 _ (w.nx+64+64+64+64+64+64+64+64) (by simp[d5]) zS (by simp[w0]) (by simp[w2]) (by simp[w3]) (by simp[w5]) (by simp[N]) zS (by simp[e9]) zS (by simp[wd]) (by simp[wr]) (by simp[wb])
   ·simp[show 0≤m by omega,w3,w2,N,H,j4 jC,I]
    refine JU e1 zS rfl zS ?_
    simp[j0,w3]
    refine JU e2 zS rfl zS ?_
    by_cases G:atO O m<atO O (a:Int)
    ·simp[show ¬ atO O (a:Int)≤atO O m by omega]
     exact c1 _ (w.nx+64+64+64+64+64+64+64+64) (by simp[G]) zS (by simp[w0]) (by simp[w2]) (by simp[w3]) (by simp[w5]) (by simp[N]) zS (by simp[e9]) zS (by simp[wd]) (by simp[wr]) (by simp[wb])
    ·simp[show atO O (a:Int)≤atO O m by omega]
     rw[← c4]
     simp
     exact j3 (by simp[wd]) (by simp[XF c (B.trans (by simp[d5,G]))]) rfl
  ·have:i=(readH g).length:=zO
   subst this
   simp[N,e8]
   exact j3 (by simp[wd]) (by simp[andTo_iff.2 F]) rfl
def Off (ub key:Nat):Prop:=∀m,ub≤m→¬ key=2*m+1
theorem Off.up {ub a key:Nat}(h:Off ub key) (b:ub≤a):Off a key:=fun m c=>h m (Nat.le_trans b c)
theorem Off.new {ub m:Nat}(h:m<ub):Off ub (2*m+1):=fun k a e=>by omega
theorem idx0 {l u n x sz:Nat}{kk:IntKind}(a:x<n):JK sz (.osl l u 0 n sz) (.int kk (x:Int))=some (.ptr l u (x*sz)):=by simp[JK,a]
theorem juq {a b:Nat}(h:¬ a=b):Nat.beq a b=false:=by
 cases e:Nat.beq a b
 ·rfl
 ·exact absurd (Nat.eq_of_beq_eq_true e) h
end Go.Pv.T
namespace Go.Pv.T
open Go Go.Pv
end Go.Pv.T
namespace Go.Pv.T
open Go Go.Pv
theorem jQ {a b:Nat}:(2*a=2*b)=(a=b):=propext ⟨fun h=>by omega,fun h=>by rw[h]⟩
structure WN where
 kW:Nat
 uW:Nat
 kR:Nat
 uR:Nat
 kA:Nat
 uA:Nat
 kL:Nat
 uL:Nat
 kS:Nat
 uS:Nat
 kP:Nat
 uP:Nat
section
variable {g:Hist'}{lvl:Int}{M:List Int}{N:WN}{A L S:List (Int × Int)}{P:Int→List Int}{ob ob':ZO}{ub ub':Nat}
theorem Off.ne {key:Nat}(h:Off ub key):∀m,ub≤m→¬ key=2*m+1:=h
end
end Go.Pv.T
namespace Go.Pv.T
section
end
end Go.Pv.T
namespace Go.Pv.T
open Go Go.Pv
def setC (w:Nat):List V:=[.int .u64 w,.int .u64 0,.int .u64 0,.int .u64 0,.int .u64 0,.int .u64 0,.int .u64 0,.int .u64 0]
theorem jio:setC 0=j5o:=rfl
theorem jt1 {n:Nat}(h:n<64):IntKind.i64.wrap ((n:Int) / 64)=0:=by
 rw[show(n:Int) / 64=0 by omega];rfl
theorem jt0 {n:Nat}(h:n<64):(n:Int).tmod 64=n:=Int.tmod_eq_of_lt zO zO
theorem j0r {w n:Nat}(a:n<64):Y5 .shr (.int .u64 (w:Int)) (.int .i64 (n:Int))=some (.int .u64 ((w >>> n:Nat):Int)):=by
 simp only[Y5,Q5]
 rw[if_neg zO]
 congr 2
 rw[Int.toNat_natCast,show IntKind.u64.bits=64 from rfl,Nat.min_eq_left (Nat.le_of_lt a),Nat.shiftRight_eq_div_pow,Int.fdiv_eq_ediv_of_nonneg _ (Int.le_of_lt (Int.pow_pos zD))]
 simp
theorem j0s {n:Nat}(h:n<64):Y5 .shl (.int .u64 1) (.int .i64 (n:Int))=some (.int .u64 ((1 <<< n:Nat):Int)):=by
 have b:2 ^ n<2 ^ 64:=Nat.pow_lt_pow_right zD h
 have:=jqy (a:=1) (k:=n) rfl zO zO
 rw[Nat.one_shiftLeft]
 rw[Nat.one_mul]at this
 exact this
theorem j30 (w n:Nat):((((w >>> n) &&& 1:Nat):Int) == 1)=w.testBit n:=by
 rw[Nat.testBit,Nat.and_comm 1,Nat.and_one_is_mod]
 rcases Nat.mod_two_eq_zero_or_one (w >>> n) with h|h <;> rw[h] <;> rfl
theorem j45 {w n:Nat}(a:w<2 ^ 64):w >>> n<2 ^ 64:=by
 rw[Nat.shiftRight_eq_div_pow]
 exact Nat.lt_of_le_of_lt (Nat.div_le_self _ _) a
theorem jzl {n:Nat}(h:n<64):1 <<< n<2 ^ 64:=by
 rw[Nat.one_shiftLeft]
 exact Nat.pow_lt_pow_right zD h
theorem or_lt {w n:Nat}(a:w<2 ^ 64) (h:n<64):w ||| 1 <<< n<2 ^ 64:=Nat.or_lt_two_pow a (jzl h)
@[simp] theorem eqVV_pn (ob:ZO) (neg:Bool) (l u o:Nat):ju7 ob neg .ptr (.ptr l u o) .nilptr=some (.bool (xor neg false)):=rfl
@[simp] theorem idxArr0 (k u:Nat):Yk 8 1 (.ptr k u 0) (.int .i64 0)=some (.ptr k u 0):=rfl
section
variable {ob:ZO}{ub k u w n:Nat}
theorem ev189 (a:n<500):Ev E 189 [.int .i64 (n:Int)] (.bool true):=by
 refine jP (af:=F189) rfl ?_
 simp[F189]
 exact j3 zS (by simp;omega) rfl
theorem jz3 (a:n<500) (tk:Nat→Bool) (base:Nat):EvO E 128 [.ptr k u 0,.int .i64 (n:Int)] ob tk base ub (.int .i64 0):=by
 refine X6 (af:=S128) rfl ?_
 simp[S128]
 refine jR (ev189 a) zS rfl zS ?_
 simp
 exact j3 zS zS rfl
theorem jz4 (f:ob k=some ⟨u,.cells (setC w)⟩) (i:Off ub k) (c:n<64) (h:w<2 ^ 64) (tk:Nat→Bool) (base:Nat):EvO E 124 [.ptr k u 0,.int .i64 (n:Int)] ob tk base ub (.bool (w.testBit n)):=by
 refine X6 (af:=S124) rfl ?_
 have g:=i.ne
 simp[S124]
 refine js (vs:=[.ptr k u 0,.int .i64 n]) zS rfl rfl (jz3 zO _ _) ?_
 have e:=j0r (w:=w) c
 have a:=jkv (m:=1) (b:=1) rfl (j45 (n:=n) h) zD
 have d:=j30 w n
 generalize w >>> n &&& 1=z at a d
 generalize w >>> n=q at e a
 simp(disch:=first|(simp;done)|omega) [jt1 c,jt0 c,j0,f,setC,e,a,d]
 exact j3 zS zS rfl
def PutR (ob:ZO) (ub k u w:Nat) (r:V × (ZO) × (Nat→Bool) × Nat):Prop :=
 r.1=.int .i64 0∧(∀key,Off ub key→r.2.1 key=if key=k then some ⟨u,.cells (setC w)⟩ else ob key)∧ub≤r.2.2.2
theorem sv81 {Yf:YF}{tk:Nat→Bool}{ro base:Nat}(b:ob k=some ⟨u,.cells (setC w)⟩) (i:Off ub k) (c:ro≤u) (a:n<64) (h:w<2 ^ 64) :
 ∃r,EvS E Yf.y 81 [.ptr k u 0,.int .i64 (n:Int)] ob tk ro base ub r∧PutR ob ub k u (w ||| 1 <<< n) r:=by
 refine X2 (af:=S81) rfl zD ?_
 show wpC E Yf S81.body _ (XY S81.res _)
 have g:=i.ne
 simp[S81]
 refine js (vs:=[.ptr k u 0,.int .i64 n]) zS rfl rfl (jz3 zO _ _) ?_
 have e:=j0s a
 have d:=jic h (jzl a)
 generalize w ||| 1 <<< n=z at d ⊢
 generalize 1 <<< n=q at e d
 simp(disch:=first|(simp;done)|omega) [jt1 a,jt0 a,j0,b,setC,e,d,j5]
 refine⟨c,W1 zS ⟨zS,fun f b=>?_,by simp;omega⟩⟩
 have g:=b.ne
 simp(disch:=first|(simp;done)|omega) [setC]
end
def ints (L:List Nat):List Int:=L.map fun a:Nat=>(a:Int)
section
end
def jd (w:Nat):List Nat:=(List.range 9).filter fun i=>w.testBit i
def js0 (w:Nat):Nat:=(jd w).headD 0
theorem bitsUp_mem {w a:Nat}:a∈jd w ↔ a<9∧w.testBit a=true:=by simp[jd]
theorem je0:jd 0=[]:=rfl
theorem k_bits:((List.range 512).all fun w=>w == 0 || (jd w == js0 w::jd (w &&& (w - 1)) && decide (w &&& (w - 1)<512)))=true:=by kernel_rfl
theorem jkb {w:Nat}(a:w<512) (h:w≠0):jd w=js0 w::jd (w &&& (w - 1))∧w &&& (w - 1)<512:=by
 have:=List.all_eq_true.1 k_bits w (List.mem_range.2 a)
 simpa[h] using this
theorem k190:((List.range 512).all fun w=>w == 0 || (match (callers E 2 noY).d 190 [.int .u64 (w:Nat)] with|some r=>V.eqb r (.int .i64 (js0 w:Nat))|none=>false))=true:=by kernel_rfl
theorem ev190 {w:Nat}(b:w<512) (h:w≠0):Ev E 190 [.int .u64 (w:Nat)] (.int .i64 (js0 w:Nat)):=by
 have:=List.all_eq_true.1 k190 w (List.mem_range.2 b)
 simp only[beq_iff_eq,Bool.or_eq_true,h,false_or]at this
 split at this
 ·rename_i r a
  exact⟨2,by rw[a,Wv _ _ this]⟩
 ·cases this
theorem low_lt {w:Nat}(a:w<512) (h:w≠0):js0 w<9:=by
 have:js0 w∈jd w:=by rw[(jkb a h).1];exact List.mem_cons_self ..
 exact(bitsUp_mem.1 this).1
theorem jhu (w:Nat):(jd w).length≤9:=by
 unfold jd
 exact Nat.le_trans (List.length_filter_le _ _) zS
theorem jk3 {w i:Nat}(h:i<8):(setC w)[i]? = some (.int .u64 (if i=0 then w else 0:Nat)):=by
 match i,h with
 | 0,_=>rfl
 | 1,_=>rfl
 | 2,_=>rfl
 | 3,_=>rfl
 | 4,_=>rfl
 | 5,_=>rfl
 | 6,_=>rfl
 | 7,_=>rfl
section
variable {ob:ZO}{ub k u w:Nat}
theorem jt9 (hk:ob k=some ⟨u,.cells (setC w)⟩) (ho:Off ub k) (hw:w<512) (tk:Nat→Bool) (base:Nat):EvO E 130 [.ptr k u 0] ob tk base ub (jhn (ints (jd w))):=by
 refine X6 (af:=S130) rfl ?_
 have g:=ho.ne
 have b6:(setC w).length=8:=rfl
 simp[S130,j0,hk,b6]
 refine jj fun o c=>?_
 have g3:o.tm 3=.sl none true 0 []:=by rw[c];simp
 have b5:o.tm 11=.agg (setC w):=by rw[c];simp[setC]
 have Z:o.tm 12=.int .i64 0:=by rw[c];simp
 have gd:o.df=[]:=by rw[c];simp
 have gr:o.ro=ub:=by rw[c];simp
 have gn:ub≤o.nx:=by rw[c];simp;omega
 clear c
 obtain⟨n0,c2⟩:∃n,n=o.nx:=⟨_,rfl⟩
 obtain⟨P,I⟩:∃P:Nat→Nat→Prop,P=fun hi u=>ub≤u∧u<hi:=⟨_,rfl⟩
 obtain⟨J,hJ⟩:∃J:Nat→St→Prop,J=fun i s=>s.tm 12=.int .i64 i∧IntsO s.ob (P s.nx) (if i=0 then [] else ints (jd w)) (s.tm 3)∧ub≤s.nx:=⟨_,rfl⟩
 refine j9 [(3,5),(12,30)] 8 J rfl rfl (by rw[hJ];exact⟨by simpa using Z,.inl ⟨rfl,g3⟩,gn⟩) ?_
 intro i s hi N f
 rw[hJ]at N
 obtain⟨D,K,sn⟩:=N
 have b7:s.tm 11=.agg (setC w):=by rw[f.t 11 zS];simp[b5]
 have sd:s.df=[]:=by rw[f.d];simp[gd]
 have sr:s.ro=ub:=by rw[f.r];simp[gr]
 clear f
 by_cases H:i<8
 ·have b0:=jh H zD
  have Q:Qp none 8 1 (.agg (setC w)) (.int .i64 (i:Int))=some (.int .u64 (if i=0 then w else 0:Nat)):=by
   have:=jk3 (w:=w) H
   have S:(i:Int)<8:=zO
   simp[Qp,S,XQ,this]
  have S:(i:Int)<8:=zO
  generalize F:(if i=0 then w else 0:Nat)=x0 at Q
  simp[D,b7,S,Q]
  refine jj fun o c=>?_
  have t3:o.tm 3=s.tm 3:=by rw[c];simp
  have t4:o.tm 4=.int .i64 i:=by rw[c];simp
  have t5:o.tm 5=.int .u64 x0:=by rw[c];simp
  have b8:o.tm 12=.int .i64 i:=by rw[c];simp[D]
  have td:o.df=[]:=by rw[c];simp[sd]
  have tr:o.ro=ub:=by rw[c];simp[sr]
  have to:o.ob=s.ob:=by rw[c];simp
  have tn:s.nx≤o.nx:=by rw[c];simp;omega
  clear c
  obtain⟨J2,G⟩:∃J2:Nat→St→Prop,J2=fun n s=>∃x L,n=(jd x).length∧x<512∧(x=0∨i=0)∧s.tm 5=.int .u64 (x:Nat)∧L++ints (jd x)=ints (jd w)∧IntsO s.ob (P s.nx) L (s.tm 3)∧ub≤s.nx:=⟨_,rfl⟩
  refine YU (n:=(jd x0).length) [(3,3),(5,5),(16,29)] J2 rfl rfl ?_ ?_
  ·rw[G]
   by_cases v:i=0
   ·rw[if_pos v]at F K
    subst F
    refine⟨w,[],rfl,hw,.inr v,t5,rfl,?_,zO⟩
    rw[to,t3]
    exact K.frame (fun _ _=>rfl) fun u j=>by rw[I]at j ⊢;exact⟨j.1,by have:=j.2;omega⟩
   ·rw[if_neg v]at F K
    subst F
    refine⟨0,ints (jd w),rfl,zD,.inl rfl,t5,by simp[je0,ints],?_,zO⟩
    rw[to,t3]
    exact K.frame (fun _ _=>rfl) fun u j=>by rw[I]at j ⊢;exact⟨j.1,by have:=j.2;omega⟩
  ·intro n q hq f
   rw[G]at hq
   obtain⟨x,L,rfl,hx,b9,U,T,qI,qn⟩:=hq
   have q4:q.tm 4=.int .i64 i:=by rw[f.t 4 zS];simp[t4]
   have a0:q.tm 12=.int .i64 i:=by rw[f.t 12 zS];simp[b8]
   have qd:q.df=[]:=by rw[f.d];simp[td]
   have qr:q.ro=ub:=by rw[f.r];simp[tr]
   clear f
   by_cases O:x=0
   ·subst O
    simp[U,a0,b0,H]
    rw[hJ]
    rw[je0,show ints []=[] from rfl,List.append_nil]at T
    subst T
    refine⟨zS,?_,by simp;omega⟩
    simp
    exact qI.frame (fun _ _=>rfl) fun u j=>by rw[I]at j ⊢;exact⟨j.1,by have:=j.2;simp at this ⊢;omega⟩
   ·have v:i=0:=b9.resolve_left O
    subst v
    obtain⟨e1,e2⟩:=jkb hx O
    have ex:((x:Int) != 0)=true:=by simp;omega
    have c0:=low_lt hx O
    have M:IntKind.u64.wrap ((x:Int) - 1)=((x - 1:Nat):Int):=by
     rw[IntKind.wrap_u64]
     omega
    have B:=jkv (a:=x) (b:=x - 1) (m:=((x - 1:Nat):Int)) rfl zO zO
    generalize x &&& (x - 1)=y at B e1 e2
    rw[← M]at B
    have hz:IntKind.i64.wrap ((js0 x:Nat):Int)=((js0 x:Nat):Int):=jm zO zO
    have c1:L.length≤9:=by
     have h1:=congrArg List.length T
     have S:=jhu w
     simp[ints]at h1
     omega
    simp[U,q4,ex]
    refine jR (ev190 hx O) zS rfl zS ?_
    simp[hz,show IntKind.i64.wrap 0=0 from rfl]
    refine Je (cs:=[.int .i64 ((js0 x:Nat):Int)]) (by simp[j5]) rfl rfl ?_
    simp
    refine QG (p:=P q.nx) (l:=L) (z:=((js0 x:Nat):Int)) (X:=2*(q.nx+512)+1) (uX:=q.nx+512) zS (qI.frame (fun u j=>?_) fun _ h=>h) (by simp[Nat.add_assoc]) (by simp[Nat.add_assoc]) (fun u j=>by rw[I]at j;simp[qr];exact j.1) zO fun kl c3=>?_
    ·rw[I]at j
     have:=j.2
     simp(disch:=first|(simp;done)|omega) [jQ]
     intro e
     omega
    simp[U,B]
    refine⟨(jd y).length,by rw[e1];simp,?_⟩
    rw[G]
    refine⟨y,L++[((js0 x:Nat):Int)],rfl,e2,.inr rfl,zS,by rw[← T,e1];simp[ints],.inr ⟨zS,q.nx+576,by simp[Nat.add_assoc],by simp[Nat.add_assoc,je2],?_⟩,by simp;omega⟩
    rw[I]
    simp
    omega
 ·have:i=8:=zO
  subst this
  simp[D]
  exact Yx (by simp[sd]) zS K (fun u j=>by rw[I]at j;simp[sr];exact j.1)
end
section
end
section
end
theorem jno (L:List Nat):(ints L).length=L.length:=by simp[ints]
section
end
end Go.Pv.T
namespace Go.Pv.T
open Go Go.Pv
end Go.Pv.T
namespace Go.Pv.T
open Go Go.Pv
/-! What goes before,by loops. -/
def sB (g:Hist') (a b:Nat):Bool:=Xe g a && (Xe g b && (decide (a<b) && sesAt g a == sesAt g b))
def fD2 (r:Nat→Nat→Bool) (k b0 b a:Nat):Bool:=if b<b0 then war r (k+1) b a else war r k b a
theorem jvo (r:Nat→Nat→Bool) (k a:Nat):war r (k+1) k a=war r k k a:=by
 rw[war]
 cases war r k k a <;> simp
theorem jz0 (r:Nat→Nat→Bool) (k b a:Nat):fD2 r k b b a=war r k b a:=by simp[fD2]
theorem jyk {r:Nat→Nat→Bool}{k c:Nat}(h:war r k c k=false) (b a:Nat):fD2 r k c b a=fD2 r k (c+1) b a:=by
 unfold fD2
 rcases Nat.lt_trichotomy b c with h1|h1|h1
 ·rw[if_pos h1,if_pos zO]
 ·subst h1
  rw[if_neg zO,if_pos zO,war,h,Bool.false_and,Bool.or_false]
 ·rw[if_neg zO,if_neg zO]
theorem jyj (r:Nat→Nat→Bool) (k b a:Nat):fD2 r k 0 b a=war r k b a:=by simp[fD2]
theorem j3c {r:Nat→Nat→Bool}{k n b:Nat}(c:b<n) (a:Nat):fD2 r k n b a=war r (k+1) b a:=by simp[fD2,c]
section
end
theorem ju4 {l u n x:Nat}{kk:IntKind}(a:x<n):JK 1 (.osl l u 0 n 1) (.int kk (x:Int))=some (.ptr l u x):=idxN rfl a
theorem j1a {g:Hist'}{t:Nat}(a:t<g.ts.length):(g.ts.flatMap ji)[t*3]? = some (.int .i64 (sesAt g t)):=by
 have:=jW j8 g.ts a (by decide:0<3)
 rw[Nat.add_zero]at this
 rw[this]
 simp[ji,sesAt,a]
theorem jwa (n:Nat) (v:V):QV n [v]=List.replicate n v:=by
 unfold QV
 refine List.ext_getElem zS fun i b a=>?_
 simp[Nat.mod_one]
@[simp] theorem eqVV_sl (ob:ZO) (neg nl:Bool) (t a:Option (Nat × Nat)) (n:Nat) (cs:List V):ju7 ob neg .sl (.sl t nl n cs) (.sl a true 0 [])=some (.bool (xor neg nl)):=rfl
end Go.Pv.T
namespace Go.Pv.T
open Go Go.Pv
end Go.Pv.T
namespace Go.Pv.T
open Go Go.Pv
end Go.Pv.T
namespace Go.Pv.T
open Go Go.Pv
end Go.Pv.T
namespace Go.Pv.T
open Go Go.Pv
end Go.Pv.T
namespace Go.Pv.T
open Go Go.Pv
section
end
theorem jv0 {c:Type}{f:c→List V}{k:Nat}(b:∀a,(f a).length=k) (nl:Bool) (l:List c) (n:Nat) (kk:IntKind):QQ k none (some (.int kk ((min l.length n:Nat):Int))) (slOf nl f l)=some (.sl none nl (min l.length n) ((l.take n).flatMap f)):=by
 have d:=jrc (kk:=kk) (t:=none) (nl:=nl) (sz:=k) (cs:=l.flatMap f) (n:=l.length) (k:=min l.length n) (Nat.min_le_left _ _) (j7 b _)
 refine Eq.trans d ?_
 rw[Qy b]
 congr 2
 rcases Nat.le_total l.length n with h|h
 ·rw[Nat.min_eq_left h,List.take_length,List.take_of_length_le h]
 ·rw[Nat.min_eq_right h]
theorem jov {st:St}{k:Nat}{v:V}(h:v.pureLeaf=true):JH st (k+1) v=some v:=by
 cases v with
 | sl t b n cs=>cases t with
  | none=>rfl
  | some t=>cases h
 | osl l u a n s=>cases h
 | _=>simp[JH,h]
theorem jde {st:St}{k:Nat}:∀ {l:List V},l.all V.pureLeaf=true→l.mapM (JH st (k+1))=some l
 | [],_=>rfl
 | v::l,h=>by
  rw[List.all_cons,Bool.and_eq_true]at h
  rw[List.mapM_cons,jov h.1,jde h.2]
  rfl
theorem jxb (l:List Op'):(l.flatMap opC).all V.pureLeaf=true:=by
 rw[List.all_flatMap,List.all_eq_true]
 intro t _
 rfl
theorem jnd {f:V→Option V}:∀ {l m l' a:List V},l.mapM f=some l'→m.mapM f=some a→(l++m).mapM f=some (l'++a)
 | [],m,l',a,h,h'=>by
  cases (show some []=some l' from h)
  exact h'
 | v::l,m,l',a,h,h'=>by
  rw[List.mapM_cons]at h
  rw[List.cons_append,List.mapM_cons]
  cases c:f v with
  | none=>rw[c]at h;cases h
  | some e=>
   rw[c]at h
   cases b:l.mapM f with
   | none=>rw[b]at h;cases h
   | some r=>
    rw[b]at h
    cases (show some (e::r)=some l' from h)
    rw[jnd b h']
    rfl
def txU (p:Txn' × Nat):List V:=[.int .i64 p.1.s,.int .i64 p.1.f,.osl (2*p.2+1) p.2 0 p.1.ops.length 4]
@[simp] theorem W9 (p:Txn' × Nat):(txU p).length=3:=rfl
structure InO (ob:ZO) (lo hi:Nat) (p:Txn' × Nat):Prop where
 nl:p.1.nl=false
 lo:lo≤p.2
 hi:p.2<hi
 ob:∃X,ob (2*p.2+1)=some ⟨p.2,.cells X⟩∧p.1.ops.length*4≤X.length∧X.take (p.1.ops.length*4)=p.1.ops.flatMap opC
theorem InO.frame {ob ob':ZO}{lo hi a:Nat}{p:Txn' × Nat}(h:InO ob lo hi p) (b:ob' (2*p.2+1)=ob (2*p.2+1)) (c:hi≤a):InO ob' lo a p :=
 ⟨h.nl,h.lo,by have:=h.hi;omega,by rw[b];exact h.ob⟩
def TsO (ob:ZO) (lo hi:Nat) (P:List (Txn' × Nat)) (v:V):Prop :=
 (∀p∈P,InO ob lo hi p)∧((P=[]∧v=.sl none true 0 [])∨(P≠[]∧∃u,lo≤u∧u<hi∧(∀p∈P,p.2≠u)∧v=.osl (2*u+1) u 0 P.length 3∧ob (2*u+1)=some ⟨u,.cells (P.flatMap txU)⟩))
theorem TsO.frame {ob ob':ZO}{lo hi a:Nat}{P:List (Txn' × Nat)}{v:V}(h:TsO ob lo hi P v) (g:∀u,lo≤u→u<hi→ob' (2*u+1)=ob (2*u+1)) (k:hi≤a):TsO ob' lo a P v:=by
 refine⟨fun p e=>(h.1 p e).frame (g _ (h.1 p e).lo (h.1 p e).hi) k,?_⟩
 rcases h.2 with b|⟨c,u,f,b,i,l,j⟩
 ·exact .inl b
 ·exact .inr ⟨c,u,f,zO,i,l,by rw[g u f b];exact j⟩
theorem jvz {st:St}{lo hi:Nat}{p:Txn' × Nat}(h:InO st.ob lo hi p) (g:st.ro≤lo):JH st 5 (.osl (2*p.2+1) p.2 0 p.1.ops.length 4)=some (slOf p.1.nl opC p.1.ops):=by
 obtain⟨X,f,i,c⟩:=h.ob
 have e:=h.lo
 have a:j0 st.ob (2*p.2+1) p.2=some X:=by simp[j0,f]
 show((j0 st.ob (2*p.2+1) p.2).bind fun cs=>if Nat.ble st.ro p.2=true∧0+p.1.ops.length*4≤cs.length then (((cs.drop 0).take (p.1.ops.length*4)).mapM (JH st 4)).map fun b=>V.sl none false p.1.ops.length b else none)=_
 rw[a,Option.bind_some,if_pos ⟨Nat.ble_eq▸zO,zO⟩,List.drop_zero,c,jde (jxb _),h.nl]
 rfl
theorem jij {st:St}{lo hi:Nat}(a:st.ro≤lo):∀ {P:List (Txn' × Nat)},(∀p∈P,InO st.ob lo hi p)→(P.flatMap txU).mapM (JH st 5)=some ((P.map (·.1)).flatMap ji)
 | [],_=>rfl
 | p::P,h=>by
  rw[List.flatMap_cons,List.map_cons,List.flatMap_cons]
  refine jnd ?_ (jij a fun q b=>h q (List.mem_cons_of_mem _ b))
  have:=jvz (h p (List.mem_cons_self ..)) a
  show[V.int .i64 p.1.s,.int .i64 p.1.f,.osl (2*p.2+1) p.2 0 p.1.ops.length 4].mapM (JH st 5)=_
  rw[List.mapM_cons,List.mapM_cons,List.mapM_cons,this]
  rfl
theorem TsO.out {st:St}{lo hi:Nat}{P:List (Txn' × Nat)}{v:V}(h:TsO st.ob lo hi P v) (j:st.ro≤lo):jcn st v P.isEmpty P.length ((P.map (·.1)).flatMap ji):=by
 rcases h.2 with⟨rfl,rfl⟩|⟨e,u,l,m,k,rfl,c⟩
 ·exact WB _ none true 0 []
 ·intro keep i
  have a:j0 st.ob (2*u+1) u=some (P.flatMap txU):=by simp[j0,c]
  have f:JH st 6 (.osl (2*u+1) u 0 P.length 3)=some (.sl none false P.length ((P.map (·.1)).flatMap ji)):=by
   show((j0 st.ob (2*u+1) u).bind fun cs=>if Nat.ble st.ro u=true∧0+P.length*3≤cs.length then (((cs.drop 0).take (P.length*3)).mapM (JH st 5)).map fun b=>V.sl none false P.length b else none)=_
   rw[a,Option.bind_some,if_pos ⟨Nat.ble_eq▸zO,by rw[j7 W9];omega⟩,List.drop_zero,← j7 W9 P,List.take_length,jij j h.1]
   rfl
  have g:P.isEmpty=false:=by cases P <;> simp_all
  rw[g]
  refine⟨_,by simp only[jn,f,Option.bind_some,a,Option.map_some];rfl,?_⟩
  split
  ·exact .inr ⟨_,rfl⟩
  ·exact .inl rfl
section
variable {Yf:YF}{st:St}{ub:Nat}{K:St→Nat→Prop}{d:Nat}
theorem jxn {y:Type}{f:y→List V}{l:List y}{z sz c:Nat}{s x:A}(w:eval E st.tm s=.osl (2*z+1) z 0 0 sz) (o:st.ob (2*z+1)=some ⟨z,.cells []⟩) (m:st.ro≤z)
 (r:jI st.ob sz (eval E st.tm x)=some (l.flatMap f)) (v:∀a,(f a).length=sz) (i:0<sz) (hp:(l.flatMap f).all V.leaf=true) (F:l.length*c≤140737488355328) (p:l.length≤140737488355328)
 (h:∀ (g:St) (u:Nat),(u=z∨u=ub)→g.ob (2*u+1)=some ⟨u,.cells (l.flatMap f)⟩→(∀b,b≠2*z+1→b≠2*ub+1→g.ob b=st.ob b)→(∀t,g.tm t=if t=d then .osl (2*u+1) u 0 l.length sz else st.tm t)→g.df=st.df→g.ro=st.ro→g.fb=st.fb→g.tk=st.tk→K g (ub+64)) :
 j6 E Yf ⟨some d,.append true sz c s x,none,true⟩ st ub K:=by
 cases l with
 | nil=>
  rw[jM _ rfl rfl]
  simp only[aop,w,r,Option.bind_some,List.flatMap_nil,if_true]
  have j:j0 st.ob (2*z+1) z=some []:=by simp[j0,o]
  rw[j,Option.bind_some,Wa]
  show WW K st (some d) ub _
  rw[jat]
  exact h _ z (.inl rfl) (by simpa using o) (fun b _ _=>by simp) (fun t=>by rw[jkd];rfl) rfl rfl rfl zS
 | cons a l=>
  have k:((a::l).flatMap f).length / sz=(a::l).length:=by rw[j7 v];exact Nat.mul_div_cancel _ i
  have q:(a::l).flatMap f≠[]:=fun e=>by have:=congrArg List.length e;rw[j7 v]at this;have:=Nat.mul_pos (show 0<(a::l).length by simp) i;simp_all
  refine YA (l:=2*z+1) (u:=z) (n:=0) (cs:=[]) (ys:=(a::l).flatMap f) w r o q m zS i hp (by rw[k,Nat.zero_add];exact F) (by rw[k,Nat.zero_add];exact p) ?_
  rw[jat,k,Nat.zero_add]
  refine h _ ub (.inr rfl) ?_ (fun b D B=>?_) (fun t=>by rw[jkd];rfl) rfl rfl rfl ?_
  ·simp[jH]
  ·simp[jH,D,B]
  ·rfl
theorem jlt {lo hi:Nat}{P:List (Txn' × Nat)}{p:Txn' × Nat}{s x:A}(j:TsO st.ob lo hi P (eval E st.tm s)) (y:hi≤ub) (F:st.ro≤lo) (k:jI st.ob 3 (eval E st.tm x)=some (txU p)) (hp:InO st.ob hi ub p) (I:lo≤hi) (r:P.length≤100000)
 (h:∀ (c:St) (o:V),TsO c.ob lo (ub+64) (P++[p]) o→(∀b,(∀u,lo≤u→u<hi→b≠2*u+1)→b≠2*ub+1→c.ob b=st.ob b)→(∀t,c.tm t=if t=d then o else st.tm t)→c.df=st.df→c.ro=st.ro→c.fb=st.fb→c.tk=st.tk→K c (ub+64)) :
 j6 E Yf ⟨some d,.append true 3 40 s x,none,true⟩ st ub K:=by
 have H:=hp.lo
 have D:=hp.hi
 rcases j.2 with⟨rfl,w⟩|⟨J,u,z,G,v,L,B⟩
 ·refine X9 (n:=0) (cs:=[]) (ys:=txU p) w k (by simp[txU]) zD rfl zS zS ?_
  rw[jat,show(txU p).length / 3=1 by rw[W9]]
  refine h _ (.osl (2*ub+1) ub 0 1 3) ⟨?_,.inr ⟨zS,ub,zO,zO,?_,zS,?_⟩⟩ (fun b m f=>?_) (fun t=>by rw[jkd];rfl) rfl rfl rfl ?_
  ·intro q a
   simp only[List.nil_append,List.mem_singleton]at a
   subst a
   refine⟨hp.nl,zO,zO,?_⟩
   have:¬ 2*q.2=2*ub:=zO
   simpa[jH,Ju,this] using hp.ob
  ·intro q a
   simp only[List.nil_append,List.mem_singleton]at a
   subst a
   omega
  ·simp[jH,Ju]
  ·simp[jH,Ju,f]
  ·rfl
 ·refine YA (l:=2*u+1) (u:=u) (n:=P.length) (cs:=P.flatMap txU) (ys:=txU p) L k B (by simp[txU]) zO (by rw[j7 W9];omega) zD rfl (by simp;omega) (by simp;omega) ?_
  rw[jat,show(txU p).length / 3=1 by rw[W9]]
  refine h _ (.osl (2*ub+1) ub 0 (P.length+1) 3) ⟨?_,.inr ⟨zS,ub,zO,zO,?_,zS,?_⟩⟩ (fun b m f=>?_) (fun t=>by rw[jkd];rfl) rfl rfl rfl ?_
  ·intro q a
   rw[List.mem_append,List.mem_singleton]at a
   rcases a with a|rfl
   ·have hi:=j.1 q a
    refine⟨hi.nl,hi.lo,by have:=hi.hi;omega,?_⟩
    have i:¬ 2*q.2=2*ub:=by have:=hi.hi;omega
    have g:¬ 2*q.2=2*u:=by have:=v q a;omega
    simpa[jH,i,g] using hi.ob
   ·refine⟨hp.nl,zO,zO,?_⟩
    have i:¬ 2*q.2=2*ub:=zO
    have g:¬ 2*q.2=2*u:=zO
    simpa[jH,i,g] using hp.ob
  ·intro q a
   rw[List.mem_append,List.mem_singleton]at a
   rcases a with a|rfl
   ·have:=(j.1 q a).hi;omega
   ·omega
  ·simp[jH]
   exact List.take_of_length_le (by rw[j7 W9];omega)
  ·have e:=m u z G
   simp[jH,e,f]
  ·rfl
end
section
variable {E:Env}{st:St}{ub:Nat}{K:List FP→St→Prop}{d:Option Nat}{r:List AOpr}
theorem YL {sz n:Nat}{zero:List V}{a:List (Nat × Nat × A)}{cs:List V}(c:fill zero (jx (eval E st.tm) a)=some cs) (b:cs.length=n*sz) (hp:cs.all V.leaf=true)
 (h:jas E r K (eval E st.tm) (.buildSl true sz zero a n) st d ub { v:=.osl (2*ub+1) ub 0 n sz,obs:=[(2*ub+1,⟨ub,.cells cs⟩)] }):jE E (⟨d,.buildSl true sz zero a n,none,true⟩::r) st ub K:=by
 rw[XK rfl]
 simp only[aop,c,Option.bind_some,if_true]
 rw[if_pos ⟨b,hp⟩,Jd,jN]
 exact h
end
theorem jeg {a b:Type}{l:List a}{m:List b}(h:l.length=m.length):l.isEmpty=m.isEmpty:=by
 cases l <;> cases m <;> simp_all
def StO (ob:ZO) (lo hi:Nat) (l:List (List UInt8)) (v:V):Prop :=
 (l=[]∧v=.sl none true 0 [])∨(l≠[]∧∃u,lo≤u∧u<hi∧v=.osl (2*u+1) u 0 l.length 1∧ob (2*u+1)=some ⟨u,.cells (l.flatMap Jj)⟩)
theorem StO.frame {ob ob':ZO}{lo hi lo' a:Nat}{l:List (List UInt8)}{v:V}(h:StO ob lo hi l v) (e:∀u,lo≤u→u<hi→ob' (2*u+1)=ob (2*u+1)) (i:lo'≤lo) (j:hi≤a):StO ob' lo' a l v:=by
 rcases h with h|⟨b,u,d,f,c,g⟩
 ·exact .inl h
 ·exact .inr ⟨b,u,zO,zO,c,by rw[e u d f];exact g⟩
theorem StO.leaf {ob:ZO}{lo hi:Nat}{l:List (List UInt8)}{v:V}(h:StO ob lo hi l v):v.leaf=true∧v.cells=[v]:=by
 rcases h with⟨_,rfl⟩|⟨_,u,_,_,rfl,_⟩ <;> exact⟨rfl,rfl⟩
theorem TsO.leaf {ob:ZO}{lo hi:Nat}{P:List (Txn' × Nat)}{v:V}(h:TsO ob lo hi P v):v.leaf=true∧v.cells=[v]:=by
 rcases h.2 with⟨_,rfl⟩|⟨_,u,_,_,_,rfl,_⟩ <;> exact⟨rfl,rfl⟩
theorem StO.out {st:St}{lo hi:Nat}{l:List (List UInt8)}{v:V}(h:StO st.ob lo hi l v) (e:st.ro≤lo):jcn st v l.isEmpty l.length (l.flatMap Jj):=by
 rcases h with⟨rfl,rfl⟩|⟨c,u,d,f,rfl,a⟩
 ·exact WB _ none true 0 []
 ·have b:l.isEmpty=false:=by cases l <;> simp_all
  rw[b]
  exact jik a (by rw[j7 Y6,Nat.mul_one]) zO (by rw[List.all_flatMap,List.all_eq_true];intro _ _;rfl)
theorem jT (st:St) (d:Option Nat) (v:V) (l k:Nat) (o':Obj') (ks:List Nat):(st.app d { v:=v,obs:=[(l,o')],kill:=ks }).ob k=if k=l then some o' else if ks.any (Nat.beq k) then none else st.ob k:=by
 simp[St.app,JI,j2]
theorem jee {E:Env}{st:St}{ub:Nat}{K:List FP→St→Prop}{d:Option Nat}{r:List AOpr}{lo hi:Nat}{l:List (List UInt8)}{c:List UInt8}{s x:A}(z:StO st.ob lo hi l (eval E st.tm s)) (i:jI st.ob 1 (eval E st.tm x)=some (Jj c)) (q:st.ro≤lo) (m:l.length≤1000)
 (h:∀j:List Nat,(∀k∈j,∃u,lo≤u∧u<hi∧k=2*u+1)→jas E r K (eval E st.tm) (.append true 1 16 s x) st d ub { v:=.osl (2*ub+1) ub 0 (l.length+1) 1,obs:=[(2*ub+1,⟨ub,.cells ((l++[c]).flatMap Jj)⟩)],kill:=j }) :
 jE E (⟨d,.append true 1 16 s x,none,true⟩::r) st ub K:=by
 rw[XK rfl]
 rcases z with⟨rfl,o⟩|⟨w,u,p,t,n,y⟩
 ·simp only[aop,o,i,Option.bind_some]
  rw[if_neg (by simp[Jj]),if_pos (show(true && true)=true from rfl),if_pos ⟨zD,rfl,by simp[Jj],by simp[Jj]⟩,Jd,jN]
  have:=h [] (fun k b=>by cases b)
  have e:([]++[c]).flatMap Jj=Jj c:=zS
  rw[e]at this
  have g:(Jj c).length / 1=1:=by simp[Jj]
  rw[g]
  exact this
 ·have f:j0 st.ob (2*u+1) u=some (l.flatMap Jj):=by simp[j0,y]
  simp only[aop,n,i,Option.bind_some,f]
  have a:(l.flatMap Jj).length=l.length:=by rw[j7 Y6,Nat.mul_one]
  rw[if_neg (by simp[Jj]),if_pos ⟨Nat.ble_eq▸zO,trivial,trivial,by rw[a];omega,zD,rfl,by simp[Jj];omega,by simp[Jj];omega⟩,jN]
  have:=h [2*u+1] (fun k b=>by simp only[List.mem_singleton]at b;exact⟨u,p,t,b⟩)
  have e:(l++[c]).flatMap Jj=(l.flatMap Jj).take (l.length*1)++Jj c:=by
   rw[List.take_of_length_le (by rw[a];omega),List.flatMap_append]
   simp
  rw[e]at this
  have g:(Jj c).length / 1=1:=by simp[Jj]
  rw[g]
  exact this
theorem j0c {ks:List Nat}{key:Nat}(h:∀k∈ks,key≠k):ks.any (Nat.beq key)=false:=by
 rw[List.any_eq_false]
 intro k a b
 exact h k a (Nat.eq_of_beq_eq_true b)
def jff:C:=tlC (tlC S51.body)
def jfe:C:=tlC jff
def jhr:C:=tlC jfe
def jyf:C:=tlC jhr
structure FewO (h:Hist') (ob0:ZO) (ub ro:Nat) (s:St) (a b N1 N2:Nat) (Sv Kv Tv:V) (P:List (Txn' × Nat)):Prop where
 t1:s.tm 1=.ptr (2*ub+1) ub 0
 t2:s.tm 2=.ptr (2*(ub+64)+1) (ub+64) 0
 t3:s.tm 3=.ptr (2*(ub+192)+1) (ub+192) 0
 d:s.df=[]
 ro:s.ro=ro
 o1:s.ob (2*ub+1)=some ⟨ub,.cells (histC h)⟩
 o2:s.ob (2*(ub+64)+1)=some ⟨ub+64,.cells [.sl none true 0 [],.sl none true 0 [],.sl none true 0 []]⟩
 o3:s.ob (2*(ub+192)+1)=some ⟨ub+192,.cells [Sv,Kv,Tv]⟩
 gS:StO s.ob (ub+256) N1 (W4 a h.ss) Sv
 gK:StO s.ob N1 N2 (W4 b h.ks) Kv
 gT:TsO s.ob N2 s.nx P Tv
 n0:ub+256≤N1
 n1:N1≤N2
 n2:N2≤s.nx
 fr:∀key,(∀m,ub≤m→key≠2*m+1)→s.ob key=ob0 key
theorem few0S {h:Hist'}{Yf:YF}{ob:ZO}{tk:Nat→Bool}{ro base ub:Nat}{Q:Ex→St→Prop}(d:ro≤ub) (a:∀s,FewO h ob ub ro s 0 0 s.nx s.nx (.sl none true 0 []) (.sl none true 0 []) (.sl none true 0 []) []→wpC E Yf jff s Q) :
 wpC E Yf S51.body (Jm [.agg (histC h)] ob tk ro base ub) Q:=by
 have e:S51.body=.seq (hdC S51.body) (.seq (hdC (tlC S51.body)) jff):=rfl
 rw[e]
 simp[hdC,tlC,S51,histC,j0,j5]
 have a1:¬ 2*ub=2*(ub+64):=zO
 have a2:¬ 2*ub=2*(ub+64+64+64):=zO
 have a3:¬ 2*(ub+64)=2*(ub+64+64+64):=zO
 refine⟨zO,a _ ⟨zS,zS,zS,zS,zS,by simp[histC,a1,a2],by simp[a3],zS,.inl ⟨rfl,rfl⟩,.inl ⟨rfl,rfl⟩,⟨zS,.inl ⟨rfl,rfl⟩⟩,zS,zR,zR,fun c b=>?_⟩⟩
 have g:=b ub zR
 have f:=b (ub+64) zO
 have i:=b (ub+64+64+64) zO
 simp[g,f,i]
theorem jyi:jff=.seq (hdC jff) jfe:=rfl
theorem few1O {h:Hist'}{Yf:YF}{ob0:ZO}{ub ro:Nat}{L:St}{Q:Ex→St→Prop}(b9:ro≤ub) (hs:FewO h ob0 ub ro L 0 0 L.nx L.nx (.sl none true 0 []) (.sl none true 0 []) (.sl none true 0 []) [])
 (p:∀s z,FewO h ob0 ub ro s 25 0 s.nx s.nx z (.sl none true 0 []) (.sl none true 0 []) []→wpC E Yf jfe s Q):wpC E Yf jff L Q:=by
 rw[jyi]
 obtain⟨q,J,t,K,fr,v,I,x,N,gK,gT,n0,n1,n2,H⟩:=hs
 simp[hdC,jff,tlC,S51]
 refine j9 [(4,4),(9,37)] 25 (fun i s=>s.tm 4=.int .i64 i∧i≤h.ss.length∧∃z,FewO h ob0 ub ro s i 0 s.nx s.nx z (.sl none true 0 []) (.sl none true 0 []) []) rfl rfl ?_ ?_
 ·refine⟨zS,zS,.sl none true 0 [],⟨by simp[q],by simp[J],by simp[t],by simp[K],by simp[fr],by simp[v],by simp[I],by simp[x],.inl ⟨rfl,rfl⟩,.inl ⟨rfl,rfl⟩,⟨zS,.inl ⟨rfl,rfl⟩⟩,by simp;omega,zR,zR,fun a e=>by simp[H a e]⟩⟩
 rintro i s hi ⟨G,a0,z,q,J,t,K,fr,v,I,x,N,gK,gT,n0,n1,n2,H⟩ f
 clear f
 have n:¬ (i<h.ss.length∧i<25)→∀g:St,(g.tm 1=s.tm 1∧g.tm 2=s.tm 2∧g.tm 3=s.tm 3)→g.df=s.df→g.ro=s.ro→g.ob=s.ob→s.nx≤g.nx→wpC E Yf jfe g Q:=by
  intro hx g ⟨q1,q2,q3⟩ e2 e3 w e5
  refine p g z ⟨q1.trans q,q2.trans J,q3.trans t,by rw[e2];exact K,by rw[e3];exact fr,by rw[w];exact v,by rw[w];exact I,by rw[w];exact x,?_,.inl ⟨rfl,rfl⟩,⟨zS,.inl ⟨rfl,rfl⟩⟩,zO,zR,zR,fun a e=>by rw[w];exact H a e⟩
  rw[← jn1 a0 hi hx,w]
  exact N.frame (fun _ _ _=>rfl) zR e5
 have o:s.ob (2*ub+1)=some ⟨ub,.cells [slOf h.sn Jj h.ss,slOf h.kn Jj h.ks,slOf h.tn ji h.ts]⟩:=v
 by_cases b:i<h.ss.length
 ·by_cases r:i<25
  ·have hw:=jh r zO
   have d:(i:Int)<25:=zO
   obtain⟨c,hc⟩:∃c,h.ss[i]=c:=⟨_,rfl⟩
   have y:=jfl h.ss b
   have m:=jj4 b r
   rw[hc]at y m
   have B:=jbg c.length 100
   have D:=jms (l:=c) (kk:=.i64) (Nat.min_le_left c.length 100)
   have b0:=jdb c
   rw[b0]at D
   rw[show((100:Nat):Int)=100 from rfl]at B
   simp[B,D,G,q,o,j0,b,d,t,x,j4 Y6,y]
   refine YL (cs:=[.str (c.take 100)]) (by simp[j5]) rfl rfl ?_
   simp
   have b5:s.nx≤(s.nx+64+64+64+64+64+64+64+64+64+64+64+64+64+64+64+64+64+64+64+64+64+64+64+64):=zO
   have b8:s.nx≤(s.nx+64+64+64+64+64+64+64+64+64+64+64+64+64+64+64+64+64+64+64+64+64+64+64+64+64):=zO
   have b7:(s.nx+64+64+64+64+64+64+64+64+64+64+64+64+64+64+64+64+64+64+64+64+64+64+64+64)<(s.nx+64+64+64+64+64+64+64+64+64+64+64+64+64+64+64+64+64+64+64+64+64+64+64+64+64):=zO
   have b6:=jn0 i h.ss
   refine jee (lo:=ub+256) (hi:=s.nx) (l:=W4 i h.ss) (c:=c.take 100) ?_ (by simp[jI,j0];rfl) (by simp[fr];omega) zO fun ks S=>?_
   ·simp
    refine N.frame (fun u O P=>?_) zR zR
    have e1:¬ 2*u=2*(s.nx+64+64+64+64+64+64+64+64+64+64+64+64+64+64+64+64+64+64+64+64+64+64+64+64):=zO
    simp[e1]
   rw[← m]
   have F:(W4 i h.ss).length+1=(W4 (i+1) h.ss).length:=by rw[m];simp
   rw[F]
   have j:∀a,(∀u,ub+256≤u→u<s.nx→a≠2*u+1)→ks.any (Nat.beq a)=false:=fun a e=>j0c fun k M=>by
    obtain⟨u,O,P,h3⟩:=S k M
    rw[h3];exact e u O P
   have X:=j (2*ub+1) (fun u _ _=>by omega)
   have Z:=j (2*(ub+64)+1) (fun u _ _=>by omega)
   have U:=j (2*(ub+192)+1) (fun u _ _=>by omega)
   have w1:¬ 2*ub=2*(s.nx+64+64+64+64+64+64+64+64+64+64+64+64+64+64+64+64+64+64+64+64+64+64+64+64+64):=zO
   have w2:¬ 2*(ub+64)=2*(s.nx+64+64+64+64+64+64+64+64+64+64+64+64+64+64+64+64+64+64+64+64+64+64+64+64+64):=zO
   have w3:¬ 2*(ub+192)=2*(s.nx+64+64+64+64+64+64+64+64+64+64+64+64+64+64+64+64+64+64+64+64+64+64+64+64+64):=zO
   have w4:¬ 2*ub=2*(s.nx+64+64+64+64+64+64+64+64+64+64+64+64+64+64+64+64+64+64+64+64+64+64+64+64):=zO
   have w5:¬ 2*(ub+64)=2*(s.nx+64+64+64+64+64+64+64+64+64+64+64+64+64+64+64+64+64+64+64+64+64+64+64+64):=zO
   have w6:¬ 2*(ub+192)=2*(s.nx+64+64+64+64+64+64+64+64+64+64+64+64+64+64+64+64+64+64+64+64+64+64+64+64):=zO
   have w7:¬ 2*(s.nx+64+64+64+64+64+64+64+64+64+64+64+64+64+64+64+64+64+64+64+64+64+64+64+64+64)=2*(ub+192):=zO
   have w8:¬ 2*ub=2*(ub+192):=zO
   have w9:¬ 2*(ub+64)=2*(ub+192):=zO
   simp[t,j0,jT,U,w3,w6,x,fr,j5,G,hw]
   refine⟨zO,?_,?_⟩
   ·simp[XA,jay,jaz,jb9,rdOb,rdTk,lOf,Delta.wo,Delta.wt]
    exact nbeq zO
   have T:W4 (i+1) h.ss≠[]:=by rw[m];simp
   refine⟨r,zO,.osl (2*(s.nx+64+64+64+64+64+64+64+64+64+64+64+64+64+64+64+64+64+64+64+64+64+64+64+64+64)+1) (s.nx+64+64+64+64+64+64+64+64+64+64+64+64+64+64+64+64+64+64+64+64+64+64+64+64+64) 0 (W4 (i+1) h.ss).length 1,⟨by simp[q],by simp[J],by simp[t],by simp[K],by simp[fr],by simp[jT,X,w1,w4,w8,v],by simp[jT,Z,w2,w5,w9,I],zS,
    .inr ⟨T,(s.nx+64+64+64+64+64+64+64+64+64+64+64+64+64+64+64+64+64+64+64+64+64+64+64+64+64),zO,zS,rfl,by simp[jT,w7]⟩,.inl ⟨rfl,rfl⟩,⟨zS,.inl ⟨rfl,rfl⟩⟩,by simp;omega,zR,zR,fun a e=>?_⟩⟩
   have k1:=e (ub+192) zO
   have k2:=e (s.nx+64+64+64+64+64+64+64+64+64+64+64+64+64+64+64+64+64+64+64+64+64+64+64+64+64) zO
   have k3:=e (s.nx+64+64+64+64+64+64+64+64+64+64+64+64+64+64+64+64+64+64+64+64+64+64+64+64) zO
   have k4:=j a (fun u O P=>e u zO)
   simp[jT,k1,k2,k3,k4]
   exact H a e
  ·have d:¬ (i:Int)<25:=zO
   simp[G,q,o,j0,b,d]
   exact n zO _ ⟨zS,zS,zS⟩ zS zS (by funext k;simp) (by simp;omega)
 ·simp[G,q,o,j0,b]
  exact n zO _ ⟨zS,zS,zS⟩ zS zS (by funext k;simp) (by simp;omega)
theorem jyh:jfe=.seq (hdC jfe) jhr:=rfl
theorem few2O {h:Hist'}{Yf:YF}{ob0:ZO}{ub ro:Nat}{s0:St}{Q:Ex→St→Prop}{G:Nat}{S0:V}(c3:ro≤ub) (hs:FewO h ob0 ub ro s0 25 0 G s0.nx S0 (.sl none true 0 []) (.sl none true 0 []) [])
 (p:∀s x,FewO h ob0 ub ro s 25 45 G s.nx S0 x (.sl none true 0 []) []→wpC E Yf jhr s Q):wpC E Yf jfe s0 Q:=by
 rw[jyh]
 obtain⟨q,O,v,P,fr,w,N,y,H,gK,gT,K,n1,n2,J⟩:=hs
 simp[hdC,jfe,jff,tlC,S51]
 refine j9 [(5,5),(38,66)] 45 (fun i s=>s.tm 5=.int .i64 i∧i≤h.ks.length∧∃x,FewO h ob0 ub ro s 25 i G s.nx S0 x (.sl none true 0 []) []) rfl rfl ?_ ?_
 ·refine⟨zS,zS,.sl none true 0 [],⟨by simp[q],by simp[O],by simp[v],by simp[P],by simp[fr],by simp[w],by simp[N],by simp[y],H.frame (fun _ _ _=>by simp) zR zR,.inl ⟨rfl,rfl⟩,⟨zS,.inl ⟨rfl,rfl⟩⟩,K,by simp;omega,zR,fun a g=>by simp[J a g]⟩⟩
 rintro i s hi ⟨I,b7,x,q,O,v,P,fr,w,N,y,H,gK,gT,K,n1,n2,J⟩ f
 clear f
 have n:¬ (i<h.ks.length∧i<45)→∀j:St,(j.tm 1=s.tm 1∧j.tm 2=s.tm 2∧j.tm 3=s.tm 3)→j.df=s.df→j.ro=s.ro→j.ob=s.ob→s.nx≤j.nx→wpC E Yf jhr j Q:=by
  intro hx j ⟨q1,q2,q3⟩ e2 e3 t e5
  refine p j x ⟨q1.trans q,q2.trans O,q3.trans v,by rw[e2];exact P,by rw[e3];exact fr,by rw[t];exact w,by rw[t];exact N,by rw[t];exact y,by rw[t];exact H,?_,⟨zS,.inl ⟨rfl,rfl⟩⟩,K,zO,zR,fun a g=>by rw[t];exact J a g⟩
  rw[← jn1 b7 hi hx,t]
  exact gK.frame (fun _ _ _=>rfl) zR e5
 have o:s.ob (2*ub+1)=some ⟨ub,.cells [slOf h.sn Jj h.ss,slOf h.kn Jj h.ks,slOf h.tn ji h.ts]⟩:=w
 by_cases b:i<h.ks.length
 ·by_cases r:i<45
  ·have hw:=jh r zO
   have e:(i:Int)<45:=zO
   obtain⟨c,hc⟩:∃c,h.ks[i]=c:=⟨_,rfl⟩
   have z:=jfl h.ks b
   have m:=jj4 b r
   rw[hc]at z m
   have B:=jbg c.length 100
   have D:=jms (l:=c) (kk:=.i64) (Nat.min_le_left c.length 100)
   have b8:=jdb c
   rw[b8]at D
   rw[show((100:Nat):Int)=100 from rfl]at B
   simp[B,D,I,q,o,j0,b,e,v,y,j4 Y6,z]
   refine YL (cs:=[.str (c.take 100)]) (by simp[j5]) rfl rfl ?_
   simp
   have b9:s.nx≤(s.nx+64+64+64+64+64+64+64+64+64+64+64+64+64+64+64+64+64+64+64+64+64+64+64+64):=zO
   have c2:s.nx≤(s.nx+64+64+64+64+64+64+64+64+64+64+64+64+64+64+64+64+64+64+64+64+64+64+64+64+64):=zO
   have c1:(s.nx+64+64+64+64+64+64+64+64+64+64+64+64+64+64+64+64+64+64+64+64+64+64+64+64)<(s.nx+64+64+64+64+64+64+64+64+64+64+64+64+64+64+64+64+64+64+64+64+64+64+64+64+64):=zO
   have c0:=jn0 i h.ks
   refine jee (lo:=G) (hi:=s.nx) (l:=W4 i h.ks) (c:=c.take 100) ?_ (by simp[jI,j0];rfl) (by simp[fr];omega) zO fun ks Z=>?_
   ·simp
    refine gK.frame (fun u L M=>?_) zR zR
    have e1:¬ 2*u=2*(s.nx+64+64+64+64+64+64+64+64+64+64+64+64+64+64+64+64+64+64+64+64+64+64+64+64):=zO
    simp[e1]
   rw[← m]
   have F:(W4 i h.ks).length+1=(W4 (i+1) h.ks).length:=by rw[m];simp
   rw[F]
   have d:∀a,(∀u,G≤u→u<s.nx→a≠2*u+1)→ks.any (Nat.beq a)=false:=fun a g=>j0c fun k U=>by
    obtain⟨u,L,M,h3⟩:=Z k U
    rw[h3];exact g u L M
   have b5:=d (2*ub+1) (fun u _ _=>by omega)
   have b6:=d (2*(ub+64)+1) (fun u _ _=>by omega)
   have b0:=d (2*(ub+192)+1) (fun u _ _=>by omega)
   have w1:¬ 2*ub=2*(s.nx+64+64+64+64+64+64+64+64+64+64+64+64+64+64+64+64+64+64+64+64+64+64+64+64+64):=zO
   have w2:¬ 2*(ub+64)=2*(s.nx+64+64+64+64+64+64+64+64+64+64+64+64+64+64+64+64+64+64+64+64+64+64+64+64+64):=zO
   have w3:¬ 2*(ub+192)=2*(s.nx+64+64+64+64+64+64+64+64+64+64+64+64+64+64+64+64+64+64+64+64+64+64+64+64+64):=zO
   have w4:¬ 2*ub=2*(s.nx+64+64+64+64+64+64+64+64+64+64+64+64+64+64+64+64+64+64+64+64+64+64+64+64):=zO
   have w5:¬ 2*(ub+64)=2*(s.nx+64+64+64+64+64+64+64+64+64+64+64+64+64+64+64+64+64+64+64+64+64+64+64+64):=zO
   have w6:¬ 2*(ub+192)=2*(s.nx+64+64+64+64+64+64+64+64+64+64+64+64+64+64+64+64+64+64+64+64+64+64+64+64):=zO
   have w7:¬ 2*(s.nx+64+64+64+64+64+64+64+64+64+64+64+64+64+64+64+64+64+64+64+64+64+64+64+64+64)=2*(ub+192):=zO
   have w8:¬ 2*ub=2*(ub+192):=zO
   have w9:¬ 2*(ub+64)=2*(ub+192):=zO
   simp[v,j0,jT,b0,w3,w6,y,fr,j5,I,hw]
   refine⟨zO,?_,?_⟩
   ·simp[XA,jay,jaz,jb9,rdOb,rdTk,lOf,Delta.wo,Delta.wt]
    exact nbeq zO
   have a0:W4 (i+1) h.ks≠[]:=by rw[m];simp
   refine⟨r,zO,.osl (2*(s.nx+64+64+64+64+64+64+64+64+64+64+64+64+64+64+64+64+64+64+64+64+64+64+64+64+64)+1) (s.nx+64+64+64+64+64+64+64+64+64+64+64+64+64+64+64+64+64+64+64+64+64+64+64+64+64) 0 (W4 (i+1) h.ks).length 1,⟨by simp[q],by simp[O],by simp[v],by simp[P],by simp[fr],by simp[jT,b5,w1,w4,w8,w],by simp[jT,b6,w2,w5,w9,N],zS,
    H.frame (fun u L M=>?_) zR zR,.inr ⟨a0,(s.nx+64+64+64+64+64+64+64+64+64+64+64+64+64+64+64+64+64+64+64+64+64+64+64+64+64),zO,zS,rfl,by simp[jT,w7]⟩,⟨zS,.inl ⟨rfl,rfl⟩⟩,K,by first|omega|(simp;omega),zR,fun a g=>?_⟩⟩
   ·have X:¬ 2*u=2*(ub+192):=zO
    have T:¬ 2*u=2*(s.nx+64+64+64+64+64+64+64+64+64+64+64+64+64+64+64+64+64+64+64+64+64+64+64+64+64):=zO
    have k3:¬ 2*u=2*(s.nx+64+64+64+64+64+64+64+64+64+64+64+64+64+64+64+64+64+64+64+64+64+64+64+64):=zO
    have S:=d (2*u+1) (fun u' _ _=>by omega)
    simp[jT,X,T,k3,S]
   have X:=g (ub+192) zO
   have T:=g (s.nx+64+64+64+64+64+64+64+64+64+64+64+64+64+64+64+64+64+64+64+64+64+64+64+64+64) zO
   have k3:=g (s.nx+64+64+64+64+64+64+64+64+64+64+64+64+64+64+64+64+64+64+64+64+64+64+64+64) zO
   have S:=d a (fun u L M=>g u zO)
   simp[jT,X,T,k3,S]
   exact J a g
  ·have e:¬ (i:Int)<45:=zO
   simp[I,q,o,j0,b,e]
   exact n zO _ ⟨zS,zS,zS⟩ zS zS (by funext k;simp) (by simp;omega)
 ·simp[I,q,o,j0,b]
  exact n zO _ ⟨zS,zS,zS⟩ zS zS (by funext k;simp) (by simp;omega)
section
end
section
end
section
end
section
end
section
end
section
end
section
end
section
end
section
end
def H20:Hist':=⟨false,[[115]],false,[[120]],false,[⟨0,1,false,[⟨false,0,⟨0,0⟩⟩]⟩]⟩
end Go.Pv.T
namespace Go.Pv.T
open Go Go.Pv
end Go.Pv.T
namespace Go.Pv.T
open Go Go.Pv
end Go.Pv.T
namespace Go.Pv.T
open Go Go.Pv
end Go.Pv.T
namespace Go.Pv.T
open Go Go.Pv
theorem jyg:jhr=.seq (hdC jhr) jyf:=rfl
theorem few3O {h:Hist'}{Yf:YF}{ob0:ZO}{ub ro:Nat}{s0:St}{Q:Ex→St→Prop}{N1 N2:Nat}{S0 K0:V}(c7:ro≤ub) (hs:FewO h ob0 ub ro s0 25 45 N1 N2 S0 K0 (.sl none true 0 []) [])
 (v:∀s F P,P.map (·.1)=(h.ts.take 45).map fewT→FewO h ob0 ub ro s 25 45 N1 N2 S0 K0 F P→wpC E Yf jyf s Q):wpC E Yf jhr s0 Q:=by
 rw[jyg]
 obtain⟨x,f2,G,fd,fr,K,o2,T,gS,gK,gT,n0,n1,n2,ff⟩:=hs
 simp[hdC,jhr,jfe,jff,tlC,S51]
 refine j9 [(6,7),(67,98)] 45 (fun i s=>s.tm 6=.int .i64 i∧i≤h.ts.length∧∃F P,P.map (·.1)=(h.ts.take i).map fewT∧FewO h ob0 ub ro s 25 45 N1 N2 S0 K0 F P) rfl rfl ?_ ?_
 ·refine⟨zS,zS,.sl none true 0 [],[],zS,⟨by simp[x],by simp[f2],by simp[G],by simp[fd],by simp[fr],by simp[K],by simp[o2],by simp[T],gS.frame (fun _ _ _=>by simp) zR zR,gK.frame (fun _ _ _=>by simp) zR zR,⟨zS,.inl ⟨rfl,rfl⟩⟩,n0,n1,by simp;omega,fun a e=>by simp[ff a e]⟩⟩
 rintro i s hi ⟨h4,b7,F,P,hP,x,f2,G,fd,fr,K,o2,T,gS,gK,gT,n0,n1,n2,ff⟩ f
 clear f
 have q:¬ (i<h.ts.length∧i<45)→∀m:St,(m.tm 1=s.tm 1∧m.tm 2=s.tm 2∧m.tm 3=s.tm 3)→m.df=s.df→m.ro=s.ro→m.ob=s.ob→s.nx≤m.nx→wpC E Yf jyf m Q:=by
  intro hx m ⟨q1,q2,q3⟩ o e3 w e5
  refine v m F P (hP.trans (j29 b7 hi hx)) ⟨q1.trans x,q2.trans f2,q3.trans G,by rw[o];exact fd,by rw[e3];exact fr,by rw[w];exact K,by rw[w];exact o2,by rw[w];exact T,by rw[w];exact gS,by rw[w];exact gK,?_,n0,n1,zO,fun a e=>by rw[w];exact ff a e⟩
  exact gT.frame (fun _ _ _=>by rw[w]) e5
 have r:s.ob (2*ub+1)=some ⟨ub,.cells [slOf h.sn Jj h.ss,slOf h.kn Jj h.ks,slOf h.tn ji h.ts]⟩:=K
 by_cases n:i<h.ts.length
 ·by_cases a0:i<45
  ·have hw:=jh a0 zO
   have g:(i:Int)<45:=zO
   obtain⟨t,ht⟩:∃t,h.ts[i]=t:=⟨_,rfl⟩
   have D:=jbg t.ops.length 25
   rw[show((25:Nat):Int)=25 from rfl]at D
   have N:=jv0 jF t.nl t.ops 25 .i64
   have b5:min t.ops.length 25=(t.ops.take 25).length:=by rw[List.length_take,Nat.min_comm]
   rw[b5]at N D
   generalize hL:t.ops.take 25=L at *
   have c5:L.length≤25:=by rw[← hL,List.length_take];omega
   have I:(L.flatMap opC).all V.leaf=true:=by rw[List.all_flatMap,List.all_eq_true];intro _ _;rfl
   obtain⟨z,hz⟩:∃z,s.nx=z:=⟨_,rfl⟩
   simp[h4,x,r,j0,n,g,j4 j8,jb j8,ht,ji,fr,j5,hz]
   refine⟨zO,?_⟩
   refine Je (cs:=[]) rfl rfl rfl ?_
   simp[j0]
   obtain⟨d,hB⟩:∃y,(z+64+64+64+64+64+64+64+64+64+64+64+64+64+64+64+64)=y:=⟨_,rfl⟩
   obtain⟨b,hA⟩:∃y,(z+64+64+64+64+64+64+64+64+64+64+64+64+64+64)=y:=⟨_,rfl⟩
   have b9:d=b+128:=zO
   have c2:z+896=b:=zO
   rw[hB,hA]
   have w1:¬ 2*b=2*d:=zO
   have w2:¬ 2*d=2*b:=zO
   simp[j0,w1,D,N]
   refine jxn (f:=opC) (l:=L) (z:=d) zS zS (by simp[fr];omega) (by simp[slOf,jI,j7 jF]) jF zD I zO zO ?_
   intro s1 u hu c0 cf H cd cr cb ck
   have c6:d≤u:=zO
   have c1:u≤d+512:=zO
   have cA:s1.ob (2*b+1)=some ⟨b,.cells [.int .i64 t.s,.int .i64 t.f,slOf t.nl opC t.ops]⟩:=by
    rw[cf _ zO zO];simp[w1]
   have cO:∀a,a≠2*b+1→a≠2*d+1→a≠2*(d+512)+1→s1.ob a=s.ob a:=by
    intro a k1 k2 k3
    rw[cf _ k2 zO]
    simp[k1,k2]
   have v1:¬ 2*b=2*(ub+192):=zO
   have v2:¬ 2*(ub+192)=2*b:=zO
   have c3:s1.ob (2*(ub+192)+1)=some ⟨ub+192,.cells [S0,K0,F]⟩:=(cO _ zO zO zO).trans T
   have b6:ro≤b:=zO
   simp[H,j0,cA,cr,fr,j5,G,c3,v2,b6]
   obtain⟨p,hp⟩:∃p,(fewT t,u)=p:=⟨_,rfl⟩
   have Z:txU p=[.int .i64 t.s,.int .i64 t.f,.osl (2*u+1) u 0 L.length 4]:=by
    rw[← hp]
    simp[txU,fewT,← hL]
   refine Je (cs:=txU p) (by rw[Z];simp[j5]) rfl (by rw[Z];rfl) ?_
   simp
   obtain⟨U,hE⟩:∃y,(d+64+64+64+64+64+64+64+64+64+64+64+64+64+64)=y:=⟨_,rfl⟩
   have c4:d+896=U:=zO
   rw[hE]
   have c8:P.length=i:=by
    have:=congrArg List.length hP
    rw[List.length_map,List.length_map,List.length_take]at this
    omega
   have B:p.2=u:=by rw[← hp]
   have X:p.1=fewT t:=by rw[← hp]
   have J:p.1.ops=L:=by rw[X];exact hL
   rw[hz]at gT n2
   have j:∀y,y<z→s1.ob (2*y+1)=s.ob (2*y+1):=fun y y2=>cO _ zO zO zO
   refine jlt (lo:=N2) (hi:=z) (P:=P) (p:=p) ?_ zO (by simp[cr,fr];omega) (by simp[jI,j0];rfl) ?_ n2 zO ?_
   ·simp
    refine gT.frame (fun y y1 y2=>?_) zR
    have c:¬ 2*y=2*U:=zO
    have o:¬ 2*y=2*b:=zO
    simp[c,o]
    exact j y y2
   ·refine⟨by rw[X];rfl,by rw[B];omega,by rw[B];omega,L.flatMap opC,?_,?_,?_⟩
    ·rw[B]
     have c:¬ 2*u=2*U:=zO
     have o:¬ 2*u=2*b:=zO
     simp[c,o]
     exact c0
    ·rw[J,j7 jF];exact Nat.le_refl _
    ·rw[J,← j7 jF,List.take_length]
   intro s4 v4 O x4 xt xd xr xb xk
   obtain⟨S,b0⟩:=O.leaf
   have M:∀y,(y<N2)→s4.ob (2*y+1)=s.ob (2*y+1):=by
    intro y hy
    rw[x4 _ (fun y y1 y2=>by omega) zO]
    have c:¬ 2*y=2*U:=zO
    have o:¬ 2*y=2*b:=zO
    simp[c,o]
    exact j y zO
   have x3:=(M (ub+192) zO).trans T
   have b8:(P++[p]).map (·.1)=(h.ts.take (i+1)).map fewT:=by
    rw[List.map_append,hP,List.take_succ_eq_append_getElem n,List.map_append,ht,← hp]
    rfl
   simp[xt,H,G,j0,x3,xr,cr,fr,j5,S,b0,h4,hw]
   have b1:¬ 2*ub=2*(ub+192):=zO
   have b2:¬ 2*(ub+64)=2*(ub+192):=zO
   refine⟨zO,a0,zO,v4,P++[p],by rw[b8,List.map_take],⟨by simp[xt,H,x],by simp[xt,H,f2],by simp[xt,H,G],by simp[xd,cd,fd],by simp[xr,cr,fr],by simp[b1];exact(M ub zO).trans K,by simp[b2];exact(M (ub+64) zO).trans o2,zS,
    gS.frame (fun y h1 h2=>?_) zR zR,gK.frame (fun y h1 h2=>?_) zR zR,O.frame (fun y h1 h2=>?_) (by simp <;> omega),n0,n1,by simp <;> omega,fun a e=>?_⟩⟩
   ·have c:¬ 2*y=2*(ub+192):=zO
    simp[c]
    exact M y zO
   ·have c:¬ 2*y=2*(ub+192):=zO
    simp[c]
    exact M y zO
   ·have c:¬ 2*y=2*(ub+192):=zO
    simp[c]
   ·have c:=e (ub+192) zO
    have o:=e U zO
    have e3:=e b zO
    simp[c]
    rw[x4 _ (fun y y1 y2=>e y zO) (e _ zO)]
    simp[o,e3]
    exact(cO a e3 (e d zO) (e (d+512) zO)).trans (ff a e)
  ·have g:¬ (i:Int)<45:=zO
   simp[h4,x,r,j0,n,g]
   exact q zO _ ⟨zS,zS,zS⟩ zS zS (by funext k;simp) (by simp;omega)
 ·simp[h4,x,r,j0,n]
  exact q zO _ ⟨zS,zS,zS⟩ zS zS (by funext k;simp) (by simp;omega)
def FewP (h:Hist') (ob:ZO) (ub:Nat) (r:V × (ZO) × (Nat→Bool) × Nat):Prop :=
 ∃Sv Kv Tv P N1 N2,r.1=.agg [Sv,Kv,Tv]∧StO r.2.1 (ub+256) N1 (W4 25 h.ss) Sv∧StO r.2.1 N1 N2 (W4 45 h.ks) Kv∧TsO r.2.1 N2 r.2.2.2 P Tv∧P.map (·.1)=(h.ts.take 45).map fewT∧ub+256≤N1∧N1≤N2∧N2≤r.2.2.2 ∧
  ∀key,(∀m,ub≤m→key≠2*m+1)→r.2.1 key=ob key
theorem sv51 {Yf:YF}{h:Hist'}{ob:ZO}{tk:Nat→Bool}{ro base ub:Nat}(a:ro≤ub):∃r,EvS E Yf.y 51 [.agg (histC h)] ob tk ro base ub r∧FewP h ob ub r:=by
 refine X2 (af:=S51) rfl zD ?_
 show wpC E Yf S51.body _ (XY S51.res _)
 refine few0S a fun O c=>?_
 refine few1O a c fun K j d=>?_
 refine few2O a d fun I k x=>?_
 refine few3O a x fun N m P q t=>?_
 obtain⟨S,n,s,D,fr,J,F,G,i,p,l,v,w,L,u⟩:=t
 obtain⟨lS,T⟩:=i.leaf
 obtain⟨z,H⟩:=p.leaf
 obtain⟨B,M⟩:=l.leaf
 have b1:¬ 2*(ub+192)=2*(ub+64):=zO
 have g:S51.res=[.cell 2 (some 3)]:=rfl
 rw[g]
 generalize f:XY [.cell 2 (some 3)] (FewP h ob ub)=Q
 simp[jyf,jhr,jfe,jff,tlC,S51,n,s,F,G,j0,fr,j5,lS,z,B]
 refine⟨zO,?_⟩
 rw[← f]
 refine⟨(.agg [j,k,m],_,_,_),by simp[endS,D,jp,n,j0];exact⟨rfl,rfl,rfl⟩,j,k,m,P,_,_,rfl,i.frame (fun y c d=>?_) zR zR,p.frame (fun y c d=>?_) zR zR,l.frame (fun y c d=>?_) ?_,q,v,w,?_,fun e o=>?_⟩
 ·have b:¬ 2*y=2*(ub+64):=zO
  simp[b]
 ·have b:¬ 2*y=2*(ub+64):=zO
  simp[b]
 ·have b:¬ 2*y=2*(ub+64):=zO
  simp[b]
 ·simp;omega
 ·simp;omega
 ·have b:=o (ub+64) zO
  simp[b]
  exact u e o
def jim (t:Txn'):Txn':={ t with ops:=t.ops.take 6 }
def jc0 (h:Hist'):Hist':=if 8<(j4t h).ts.length then { j4t h with tn:=true,ts:=[] } else { j4t h with ts:=(j4t h).ts.map jim }
def mixT (P:List (Txn' × Nat)) (i:Nat):List (Txn' × Nat):=P.mapIdx fun j p=>if j<i then (jim p.1,p.2) else p
theorem WI {P:List (Txn' × Nat)}{i:Nat}:(mixT P i).length=P.length:=by simp[mixT]
theorem jst {P:List (Txn' × Nat)}:mixT P 0=P:=by
 apply List.ext_getElem?
 intro n
 simp[mixT]
theorem jw4 {P:List (Txn' × Nat)}:(mixT P P.length).map (·.1)=(P.map (·.1)).map jim:=by
 apply List.ext_getElem?
 intro n
 simp only[mixT,List.getElem?_map,List.getElem?_mapIdx]
 cases h:P[n]? with
 | none=>rfl
 | some o=>
  have:=(List.getElem?_eq_some_iff.1 h).1
  simp[this]
theorem jln {P:List (Txn' × Nat)}{i:Nat}(h:i<P.length):(mixT P i)[i]'(by rw[WI];exact h)=P[i]:=by simp[mixT]
theorem jjl {P:List (Txn' × Nat)}{i:Nat}(_:i<P.length):mixT P (i+1)=(mixT P i).modify i fun p=>(jim p.1,p.2):=by
 apply List.ext_getElem?
 intro n
 simp only[mixT,List.getElem?_mapIdx,List.getElem?_modify]
 cases c:P[n]? with
 | none=>simp
 | some o=>
  simp only[Option.map_some,Option.map_eq_map]
  by_cases a:i=n
  ·subst a
   simp
  ·simp only[if_neg a]
   by_cases b:n<i
   ·rw[if_pos b,if_pos zO]
   ·rw[if_neg zO,if_neg b]
theorem jqz:∀ {P:List (Txn' × Nat)}{i:Nat}(h:i<P.length),j5 (P.flatMap txU) (i*3+2) [.osl (2*(P[i]).2+1) (P[i]).2 0 (jim (P[i]).1).ops.length 4]=(P.modify i fun p=>(jim p.1,p.2)).flatMap txU
 | [],_,h=>by simp at h
 | p::P,0,_=>by simp[List.modify_cons,j5,txU,jim]
 | p::P,i+1,h=>by
  have a:=jqz (P:=P) (i:=i) (by simpa using h)
  simp only[List.modify_cons,Nat.add_one_ne_zero,if_false,Nat.add_sub_cancel,List.flatMap_cons,List.getElem_cons_succ]
  rw[← a]
  have:(i+1)*3+2=(txU p).length+(i*3+2):=by simp;omega
  rw[this]
  simp only[j5,Nat.add_assoc]
  rw[List.take_length_add_append,List.drop_length_add_append]
  simp only[List.append_assoc]
theorem InO.six {ob:ZO}{lo hi:Nat}{p:Txn' × Nat}(h:InO ob lo hi p):InO ob lo hi (jim p.1,p.2):=by
 obtain⟨X,b,c,a⟩:=h.ob
 refine⟨h.nl,h.lo,h.hi,X,b,?_,?_⟩
 ·simp only[jim,List.length_take];omega
 ·have e:X.take ((jim p.1).ops.length*4)=(X.take (p.1.ops.length*4)).take ((jim p.1).ops.length*4):=by
   rw[List.take_take]
   congr 1
   simp only[jim,List.length_take]
   omega
  rw[e,a,jvr]
  congr 1
  simp only[jim,List.length_take]
  rcases Nat.le_total p.1.ops.length 6 with h'|h'
  ·rw[Nat.min_eq_right h',List.take_length,List.take_of_length_le h']
  ·rw[Nat.min_eq_left h']
theorem jv1 {L u n i:Nat}(h:i≤n):QQ 4 none (some (.int .i64 (i:Int))) (.osl L u 0 n 4)=some (.osl L u 0 i 4):=by
 simp[QQ,Jt,h]
theorem TsO.len {ob:ZO}{lo hi:Nat}{P:List (Txn' × Nat)}{v:V}(h:TsO ob lo hi P v):QY v=some (.int .i64 P.length):=by
 rcases h.2 with⟨rfl,rfl⟩|⟨_,u,_,_,_,rfl,_⟩ <;> rfl
theorem ev15 (h:Hist'):∃v,Ev E 15 [.agg (histC h)] v∧jqg v (jc0 h):=by
 refine XP (af:=F15) rfl zD ?_
 generalize b8:(jbl [.cell 2 (some 3)] fun r=>jqg r (jc0 h))=PP
 simp[F15,histC,j0,b8]
 refine jZ (vs:=[.agg (histC h)]) (by simp[histC]) rfl (sv51 (h:=h) (Nat.zero_le _)) ?_
 rintro v b0 d0 D ⟨Sv,Kv,Tv,P,N1,U,hv,B,F,N,hP,n0,n1,n2,ff⟩
 simp only at hv B F N hP n0 n1 n2 ff
 subst hv
 obtain⟨lS,cS⟩:=B.leaf
 obtain⟨lK,cK⟩:=F.leaf
 obtain⟨lT,cT⟩:=N.leaf
 have c0:=N.len
 have b1:b0 1=some ⟨0,.cells (histC h)⟩:=by rw[ff 1 (fun m hm=>by omega)];simp[histC]
 have b2:b0 129=some ⟨64,.cells [.sl none true 0 [],.sl none true 0 [],.sl none true 0 []]⟩:=by rw[ff 129 (fun m hm=>by omega)];simp
 have e1:(jc0 h).ss=W4 25 h.ss:=by unfold jc0;split <;> rfl
 have e2:(jc0 h).sn=(W4 25 h.ss).isEmpty:=by unfold jc0;split <;> rfl
 have e3:(jc0 h).ks=W4 45 h.ks:=by unfold jc0;split <;> rfl
 have e4:(jc0 h).kn=(W4 45 h.ks).isEmpty:=by unfold jc0;split <;> rfl
 have G:(j4t h).ts.length=P.length:=by
  show((h.ts.take 45).map fewT).length=P.length
  rw[← hP,List.length_map]
 simp[b1,j0,histC,j5]
 generalize hK:jqj E Xx _ PP=K
 have J:∀ (s:St) (c:List (Txn' × Nat)) (o:V),c.length≤8→(jc0 h).ts=(c.map (·.1)).map jim→(jc0 h).tn=c.isEmpty→s.tm 1=.ptr 1 0 0→s.tm 2=.ptr 129 64 0→s.df=[]→s.ro=0→s.fb=0→D≤s.nx →
  s.ob 1=some ⟨0,.cells [Sv,Kv,o]⟩→s.ob 129=some ⟨64,.cells [.sl none true 0 [],.sl none true 0 [],.sl none true 0 []]⟩→StO s.ob (192+256) N1 (W4 25 h.ss) Sv→StO s.ob N1 U (W4 45 h.ks) Kv→TsO s.ob U D c o→K .nrm s:=by
  intro s c o d2 b5 c3 g1 g2 gd gr gb gn p1 p2 B F N
  rw[← hK,jhl]
  clear hK
  have c2:=N.leaf
  simp
  refine j9 [(3,3),(11,37)] c.length (fun i s=>s.tm 3=.int .i64 i∧s.ob 1=some ⟨0,.cells [Sv,Kv,o]⟩∧s.ob 129=some ⟨64,.cells [.sl none true 0 [],.sl none true 0 [],.sl none true 0 []]⟩∧StO s.ob (192+256) N1 (W4 25 h.ss) Sv∧StO s.ob N1 U (W4 45 h.ks) Kv∧TsO s.ob U D (mixT c i) o) rfl rfl
   ⟨zS,by simp[p1],by simp[p2],B.frame (fun _ _ _=>by simp) zR zR,F.frame (fun _ _ _=>by simp) zR zR,by rw[jst];exact N.frame (fun _ _ _=>by simp) zR⟩ ?_
  clear B F
  rintro i X hi ⟨h3,o1,o2,B,F,gX⟩ f
  have f1:X.tm 1=.ptr 1 0 0:=by rw[f.t 1 zS];simp[g1]
  have f2:X.tm 2=.ptr 129 64 0:=by rw[f.t 2 zS];simp[g2]
  have fd:X.df=[]:=by rw[f.d];simp[gd]
  have fb:X.fb=0:=by rw[f.b];simp[gb]
  have fr:X.ro=0:=by rw[f.r];simp[gr]
  clear f
  have O:=gX.len
  rw[WI]at O
  by_cases j:i<c.length
  ·have hw:=jh j zO
   have p:i<(mixT c i).length:=by rw[WI];exact j
   rcases gX.2 with⟨he,_⟩|⟨d1,u,h1,h2,h4,rfl,h5⟩
   ·rw[he]at p;simp at p
   have c9:=gX.1 (c[i]) (by rw[← jln j];exact List.getElem_mem p)
   have a0:JK 3 (.osl (2*u+1) u 0 (mixT c i).length 3) (.int .i64 (i:Int))=some (.ptr (2*u+1) u (i*3)):=by simp[JK,p]
   have T:((mixT c i).flatMap txU)[i*3+2]? = some (.osl (2*(c[i]).2+1) (c[i]).2 0 (c[i]).1.ops.length 4):=by
    rw[jW W9 _ p (by decide:2<3),jln j]
    rfl
   have k:=jqz (P:=mixT c i) (i:=i) p
   rw[← jjl j]at k
   simp only[jln j]at k
   have b7:=jbg (c[i]).1.ops.length 6
   rw[show((6:Nat):Int)=6 from rfl]at b7
   have c5:=fun L u=>jv1 (L:=L) (u:=u) (n:=(c[i]).1.ops.length) (i:=min (c[i]).1.ops.length 6) (Nat.min_le_left _ _)
   have c6:(jim (c[i]).1).ops.length=min (c[i]).1.ops.length 6:=by simp only[jim,List.length_take,Nat.min_comm]
   rw[c6]at k
   have c8:¬ 2*u=0:=zO
   have c4:¬ 2*u=128:=zO
   have b9:i*3+2+1≤((mixT c i).flatMap txU).length:=by rw[j7 W9];omega
   simp[h3,f1,o1,j0,O,j,a0,h5,T,b7,c5,fr,c8,c4,k]
   have I:∀q∈mixT c (i+1),InO X.ob U D q∧q.2≠u:=by
    intro q I
    rw[jjl j]at I
    rcases jf7 I with I|⟨x,hx,rfl⟩
    ·exact⟨gX.1 q I,h4 q I⟩
    ·have b6:=List.mem_of_getElem? hx
     exact⟨(gX.1 x b6).six,h4 x b6⟩
   have M:(mixT c (i+1)).length=(mixT c i).length:=by rw[WI,WI]
   refine⟨by have:=b9;simp only[List.length_flatMap,W9]at this;exact this,hw,o2,B.frame (fun y Z y2=>?_) zR zR,F.frame (fun y Z y2=>?_) zR zR,fun q S=>?_,.inr ⟨?_,u,h1,h2,fun q S=>(I q S).2,by rw[M],zS⟩⟩
   ·have w:¬ 2*y=2*u:=zO
    simp[w]
   ·have w:¬ 2*y=2*u:=zO
    simp[w]
   ·obtain⟨a,b⟩:=I q S
    have w:¬ 2*q.2=2*u:=zO
    exact a.frame (by simp[w]) zR
   ·intro e
    rw[e]at M
    simp at M
    omega
  ·have:i=c.length:=zO
   subst this
   simp[h3,f1,o1,j0,O,f2,o2,j5,fr,B.leaf.1,F.leaf.1,c2.1]
   rw[← b8]
   have c7:(mixT c c.length).isEmpty=(jc0 h).tn:=by rw[c3];exact jeg WI
   refine kE1 (g:=jc0 h) (l:=129) (u:=64) (x:=Sv) (y:=Kv) (z:=o) (by simp[fd]) (by simp[f2]) zS ?_ ?_ ?_
   ·rw[e1,e2]
    refine StO.out (lo:=192+256) (hi:=N1) (B.frame (fun y H q2=>?_) zR zR) (by simp[fr])
    have w:¬ 2*y=128:=zO
    simp[w]
   ·rw[e3,e4]
    refine StO.out (lo:=N1) (hi:=U) (F.frame (fun y H q2=>?_) zR zR) (by simp[fr])
    have w:¬ 2*y=128:=zO
    simp[w]
   ·have c1:(jc0 h).ts.length=(mixT c c.length).length:=by rw[b5,WI];simp
    rw[c1,← c7,b5,← jw4]
    refine TsO.out (lo:=U) (hi:=D) (gX.frame (fun y H q2=>?_) zR) (by simp[fr])
    have w:¬ 2*y=128:=zO
    simp[w]
 refine⟨⟨lS,lK,lT⟩,?_⟩
 simp[c0]
 have H:∀y,192≤y→¬ 2*y=0:=fun y hy=>by omega
 by_cases h8:8<P.length
 ·have Q:(8:Int)<(P.length:Int):=zO
  simp[Q,j0,j5]
  exact J _ [] (.sl none true 0 []) zS (by unfold jc0;rw[if_pos (by rw[G];exact h8)];rfl) (by unfold jc0;rw[if_pos (by rw[G];exact h8)];rfl) zS zS zS zS zS (by simp <;> omega) zS (by simp[b2])
   (B.frame (fun y Z y2=>by simp[H y zO]) zR zR) (F.frame (fun y Z y2=>by simp[H y zO]) zR zR) ⟨zS,.inl ⟨rfl,rfl⟩⟩
 ·have Q:¬ (8:Int)<(P.length:Int):=zO
  simp[Q]
  exact J _ P Tv zO (by unfold jc0;rw[if_neg (by rw[G];exact h8),hP];rfl) (by unfold jc0;rw[if_neg (by rw[G];exact h8)];show((h.ts.take 45).map fewT).isEmpty=_;rw[← hP];exact jeg zS) zS zS zS zS zS (by simp <;> omega) zS (by simp[b2])
   (B.frame (fun y Z y2=>by simp[H y zO]) zR zR) (F.frame (fun y Z y2=>by simp[H y zO]) zR zR) (N.frame (fun y Z y2=>by simp[H y zO]) zR)
theorem j5i (h:Hist'):Small (jc0 h):=by
 have a:=jrb h
 unfold jc0
 split
 ·exact⟨a.ss,a.sl,a.ks,a.kl,zS,zS⟩
 ·refine⟨a.ss,a.sl,a.ks,a.kl,by simpa using a.ts,fun t c=>?_⟩
  simp only[List.mem_map]at c
  obtain⟨d,b,rfl⟩:=c
  have:=a.os d b
  simp only[jim,List.length_take]
  omega
end Go.Pv.T
namespace Go.Pv.T
open Go Go.Pv
end Go.Pv.T
namespace Go.Pv.T
open Go Go.Pv
theorem f20:Small H20:=⟨zD,zD,zD,zD,zD,zD⟩
theorem j3a (h:Hist'):(jc0 h).ts.length≤8:=by
 unfold jc0
 split
 ·simp
 ·rename_i a
  simp only[List.length_map]
  omega
end Go.Pv.T
namespace Go.Pv.T
open Go Go.Pv
end Go.Pv.T
namespace Go.Pv.T
open Go Go.Pv
section
variable {E:Env}{st:St}{ub:Nat}{K:List FP→St→Prop}{d:Option Nat}{nm:Bool}{r:List AOpr}
theorem Jn {a b:Nat}(h:a≠b):Nat.beq a b=false:=by cases c:Nat.beq a b;rfl;exact absurd (Nat.eq_of_beq_eq_true c) h
end
section
end
abbrev P2:Type:=Int × Int
def pLt (x y:P2):Prop:=x.1<y.1∨x.1=y.1∧x.2<y.2
theorem pairLe_iff {x y:P2}:Wh x y=true ↔ pLt x y∨x=y:=by
 obtain⟨a,b⟩:=x
 obtain⟨c,d⟩:=y
 simp only[Wh,pLt,Bool.or_eq_true,Bool.and_eq_true,decide_eq_true_eq,Prod.mk.injEq]
 omega
theorem XH (x:P2):¬ pLt x x:=by unfold pLt;omega
theorem Xn {x y z:P2}(h:pLt x y) (a:pLt y z):pLt x z:=by unfold pLt at *;omega
theorem Wi (x y:P2):pLt x y∨x=y∨pLt y x:=by
 obtain⟨a,b⟩:=x
 obtain⟨c,d⟩:=y
 simp only[pLt,Prod.mk.injEq]
 omega
theorem jeh (x:P2):∀l:List P2,(jzw x l).Perm (x::l)
 | []=>List.Perm.refl _
 | y::r=>by
  unfold jzw
  split
  ·exact List.Perm.refl _
  ·exact((jeh x r).cons y).trans (List.Perm.swap x y r)
theorem Jw:∀l:List P2,(QP l).Perm l
 | []=>List.Perm.refl _
 | x::r=>(jeh x (QP r)).trans ((Jw r).cons x)
theorem jtw (x:P2):∀ {l:List P2},l.Pairwise (fun a b=>Wh a b=true)→(jzw x l).Pairwise fun a b=>Wh a b=true
 | [],_=>List.pairwise_singleton _ _
 | y::r,h=>by
  rw[List.pairwise_cons]at h
  unfold jzw
  split
  ·rename_i c
   rw[List.pairwise_cons]
   refine⟨fun z d=>?_,List.pairwise_cons.2 h⟩
   rcases List.mem_cons.1 d with rfl|d
   ·exact c
   ·rw[pairLe_iff]at c ⊢
    have:=pairLe_iff.1 (h.1 z d)
    rcases c with c|rfl
    ·rcases this with h2|rfl
     ·exact .inl (Xn c h2)
     ·exact .inl c
    ·exact this
  ·rename_i c
   rw[List.pairwise_cons]
   refine⟨fun z d=>?_,jtw x h.2⟩
   rcases List.mem_cons.1 ((jeh x r).mem_iff.1 d) with rfl|d
   ·rw[pairLe_iff]at c ⊢
    rcases Wi y z with h|h|h
    ·exact .inl h
    ·exact .inr h
    ·exact absurd (.inl h) c
   ·exact h.1 z d
theorem jgw:∀l:List P2,(QP l).Pairwise fun a b=>Wh a b=true
 | []=>List.Pairwise.nil
 | x::r=>jtw x (jgw r)
def QS:List P2→List P2
 | []=>[]
 | x::r=>x::match QS r with
  | []=>[]
  | y::s=>if x=y then s else y::s
theorem compP_mem {z:P2}:∀ {l:List P2},z∈QS l ↔ z∈l
 | []=>Iff.rfl
 | x::r=>by
  have a:=compP_mem (z:=z) (l:=r)
  rw[QS]
  cases h:QS r with
  | nil=>
   rw[h]at a
   simp only[List.not_mem_nil,false_iff]at a
   simp[a]
  | cons y s=>
   rw[h]at a
   simp only
   split
   ·rename_i e
    subst e
    simp only[List.mem_cons]at a ⊢
    constructor
    ·exact fun h=>h.elim .inl fun h=>.inr (a.1 (.inr h))
    ·exact fun h=>h.elim .inl fun h=>a.2 h
   ·simp only[List.mem_cons]at a ⊢
    rw[a]
theorem jn5:∀ {l:List P2},l.Pairwise (fun a b=>Wh a b=true)→(QS l).Pairwise pLt
 | [],_=>List.Pairwise.nil
 | x::r,h=>by
  rw[List.pairwise_cons]at h
  have d:=jn5 h.2
  rw[QS]
  cases i:QS r with
  | nil=>exact List.pairwise_singleton _ _
  | cons y s=>
   rw[i]at d
   rw[List.pairwise_cons]at d
   have j:y∈r:=compP_mem.1 (by rw[i];exact List.mem_cons_self ..)
   have f:=pairLe_iff.1 (h.1 y j)
   simp only
   split
   ·rename_i e
    subst e
    exact List.pairwise_cons.2 d
   ·rename_i e
    have c:pLt x y:=f.resolve_right e
    rw[List.pairwise_cons]
    refine⟨fun z g=>?_,List.pairwise_cons.2 d⟩
    rcases List.mem_cons.1 g with rfl|g
    ·exact c
    ·exact Xn c (d.1 z g)
theorem jix:∀ {l m:List P2},l.Pairwise pLt→m.Pairwise pLt→(∀z,z∈l ↔ z∈m)→l=m
 | [],[],_,_,_=>rfl
 | [],y::m,_,_,h=>absurd ((h y).2 (List.mem_cons_self ..)) List.not_mem_nil
 | x::l,[],_,_,h=>absurd ((h x).1 (List.mem_cons_self ..)) List.not_mem_nil
 | x::l,y::m,h1,h2,h=>by
  rw[List.pairwise_cons]at h1 h2
  have b:=List.mem_cons.1 ((h x).1 (List.mem_cons_self ..))
  have c:=List.mem_cons.1 ((h y).2 (List.mem_cons_self ..))
  have e:x=y:=by
   rcases b with e|b
   ·exact e
   ·rcases c with e|c
    ·exact e.symm
    ·exact absurd (Xn (h1.1 y c) (h2.1 x b)) (XH _)
  subst e
  rw[jix h1.2 h2.2 fun z=>?_]
  constructor
  ·intro a
   rcases List.mem_cons.1 ((h z).1 (List.mem_cons_of_mem _ a)) with e|h'
   ·subst e
    exact absurd (h1.1 z a) (XH _)
   ·exact h'
  ·intro a
   rcases List.mem_cons.1 ((h z).2 (List.mem_cons_of_mem _ a)) with e|h'
   ·subst e
    exact absurd (h2.1 z a) (XH _)
   ·exact h'
def jk (N:Nat) (p:Nat→Nat→Bool):List P2:=(List.range N).flatMap fun a=>((List.range N).filter (p a)).map fun b:Nat=>((a:Int),(b:Int))
theorem edgesOf_mem {N:Nat}{p:Nat→Nat→Bool}{z:P2}:z∈jk N p ↔ ∃a b:Nat,a<N∧b<N∧p a b=true∧z=((a:Int),(b:Int)):=by
 unfold jk
 simp only[List.mem_flatMap,List.mem_range,List.mem_map,List.mem_filter]
 constructor
 ·rintro⟨a,d,b,⟨c,e⟩,rfl⟩
  exact⟨a,b,d,c,e,rfl⟩
 ·rintro⟨a,b,d,c,e,rfl⟩
  exact⟨a,d,b,⟨c,e⟩,rfl⟩
theorem jp2 (N:Nat) (p:Nat→Nat→Bool):(jk N p).Pairwise pLt:=by
 unfold jk
 rw[List.pairwise_flatMap]
 refine⟨fun a _=>?_,?_⟩
 ·rw[List.pairwise_map]
  refine(List.pairwise_lt_range.filter _).imp fun {b c} h=>?_
  exact Or.inr ⟨rfl,Int.ofNat_lt.2 h⟩
 ·refine List.pairwise_lt_range.imp fun {a b} h x d y e=>?_
  obtain⟨_,_,rfl⟩:=List.mem_map.1 d
  obtain⟨_,_,rfl⟩:=List.mem_map.1 e
  exact Or.inl (Int.ofNat_lt.2 h)
theorem juf {N:Nat}{p:Nat→Nat→Bool}{l:List P2}(h:∀z,z∈l ↔ ∃a b:Nat,a<N∧b<N∧p a b=true∧z=((a:Int),(b:Int))):QS (QP l)=jk N p :=
 jix (jn5 (jgw l)) (jp2 N p) fun z=>by rw[compP_mem,(Jw l).mem_iff,h,edgesOf_mem]
def JN (g:Hist') (x:Int):Int:=if x<0 then g.ts.length else x
def jqi (g:Hist') (i:Nat):List P2:=((g.ts.length:Int),(comL g).getD i 0)::((List.range i).filter fun k=>sesAt g ((comL g).getD k 0).toNat == sesAt g ((comL g).getD i 0).toNat).map fun k=>((comL g).getD k 0,(comL g).getD i 0)
def jos (g:Hist') (M:List Int) (i:Nat):P2:=(JN g (M.getD i 0),((readH g).getD i (0,0)).1)
def askE (g:Hist') (M:List Int) (seen:List Int) (i:Nat):List P2:=(seen.filter fun t=>Yj g t (jed g ((readH g).getD i (0,0))) && (t != M.getD i 0)).map fun t=>(t,JN g (M.getD i 0))
def Yb (g:Hist') (lvl:Int) (M:List Int) (i:Nat):List Int:=Wd g lvl M [] ((readH g).getD i (0,0))
def QR (g:Hist') (lvl:Int) (M:List Int) (a b:Nat):Bool :=
 (a == g.ts.length && Xe g b) || ((Xe g a && Xe g b && decide (a<b) && (sesAt g a == sesAt g b)) ||
  (List.range (readH g).length).any fun i=>jos g M i == ((a:Int),(b:Int)) || (askE g M (Yb g lvl M i) i).contains ((a:Int),(b:Int)))
def jqf (g:Hist') (lvl:Int) (M:List Int) (l:List P2):Prop:=∀z,z∈l ↔ (∃i,i<(comL g).length∧z∈jqi g i)∨∃i,i<(readH g).length∧(z=jos g M i∨z∈askE g M (Yb g lvl M i) i)
section
variable {g:Hist'}{lvl:Int}{M:List Int}
theorem jn7 {i:Nat}(h:i<(comL g).length):∃k:Nat,(comL g).getD i 0=k∧Xe g k=true∧k<g.ts.length:=by
 have e:(comL g).getD i 0=(comL g)[i]:=by simp[List.getD_eq_getElem?_getD,List.getElem?_eq_getElem h]
 obtain⟨k,b,a⟩:=comL_mem.1 (List.getElem_mem h)
 exact⟨k,by rw[e,b],a,Xj a⟩
theorem jz8 {i k:Nat}(hi:i<(comL g).length) (c:k<i):(comL g).getD k 0<(comL g).getD i 0:=by
 have d:=j3q g
 have b:(comL g).getD i 0=(comL g)[i]:=by simp[List.getD_eq_getElem?_getD,List.getElem?_eq_getElem hi]
 have a:(comL g).getD k 0=(comL g)[k]' zO:=by simp[List.getD_eq_getElem?_getD,List.getElem?_eq_getElem (show k<(comL g).length by omega)]
 rw[b,a]
 exact List.pairwise_iff_getElem.1 d k i zO hi c
theorem jdv {i:Nat}(h:i<(readH g).length):∃k:Nat,((readH g).getD i (0,0)).1=k∧Xe g k=true∧k<g.ts.length:=by
 have e:(readH g).getD i (0,0)=(readH g)[i]:=by simp[List.getD_eq_getElem?_getD,List.getElem?_eq_getElem h]
 obtain⟨k,b,a⟩:=comL_mem.1 (jwc (List.getElem_mem h))
 exact⟨k,by rw[e,b],a,Xj a⟩
theorem jsx (b:jb5 g M=true) {i:Nat}(h:i<(readH g).length):M.getD i 0<0∨∃k:Nat,M.getD i 0=k∧Xe g k=true∧k<g.ts.length:=by
 have a:i<M.length:=by rw[Yi b];exact h
 have e:M.getD i 0=M[i]:=by simp[List.getD_eq_getElem?_getD,List.getElem?_eq_getElem a]
 rcases j1z b (List.getElem_mem a) with h1|h1
 ·exact .inl (by rw[e,h1];decide)
 ·obtain⟨k,d,c⟩:=comL_mem.1 h1
  exact .inr ⟨k,by rw[e,d],c,Xj c⟩
theorem jrh {i:Nat}{t:Int}(h:t∈Yb g lvl M i):∃k:Nat,t=k∧k<g.ts.length:=by
 unfold Yb Wd at h
 obtain⟨k,a,e,_⟩:=filTo_mem.1 h
 exact⟨k,e,a⟩
theorem We (J:jb5 g M=true) {l:List P2}(h:jqf g lvl M l):QS (QP l)=jk (g.ts.length+1) (QR g lvl M):=by
 refine juf fun z=>?_
 rw[h]
 constructor
 ·rintro(⟨i,f,d⟩|⟨i,f,d⟩)
  ·obtain⟨b,s,q,B⟩:=jn7 f
   unfold jqi at d
   rw[s]at d
   rcases List.mem_cons.1 d with rfl|d
   ·exact⟨g.ts.length,b,zO,zO,by simp[QR,q],rfl⟩
   ·obtain⟨k,p,rfl⟩:=List.mem_map.1 d
    obtain⟨D,m⟩:=List.mem_filter.1 p
    have n:=List.mem_range.1 D
    obtain⟨a,o,G,r⟩:=jn7 (show k<(comL g).length by omega)
    have v:=jz8 f n
    rw[o]at m ⊢
    rw[o,s]at v
    refine⟨a,b,zO,zO,?_,rfl⟩
    simp only[Int.toNat_natCast]at m
    simp[QR,G,q,m,Int.ofNat_lt.1 v]
  ·have u:∀a b:Nat,z=((a:Int),(b:Int))→QR g lvl M a b=true:=fun a b e=>by
    unfold QR
    rw[Bool.or_eq_true,Bool.or_eq_true]
    refine .inr (.inr (List.any_eq_true.2 ⟨i,List.mem_range.2 f,?_⟩))
    rw[Bool.or_eq_true]
    rcases d with d|d
    ·exact .inl (by rw[← d,e];simp)
    ·exact .inr (by rw[e]at d;simpa using d)
   obtain⟨b,s,_,B⟩:=jdv f
   have O:∃a:Nat,JN g (M.getD i 0)=a∧a<g.ts.length+1:=by
    unfold JN
    rcases jsx J f with h|⟨k,p,_,H⟩
    ·exact⟨g.ts.length,by rw[if_pos h],zO⟩
    ·exact⟨k,by rw[if_neg zO,p],zO⟩
   obtain⟨a,o,r⟩:=O
   rcases d with d|d
   ·have e:z=((a:Int),(b:Int)):=by rw[d,jos,o,s]
    exact⟨a,b,r,zO,u a b e,e⟩
   ·unfold askE at d
    obtain⟨t,N,e⟩:=List.mem_map.1 d
    obtain⟨c,P,K⟩:=jrh (List.mem_filter.1 N).1
    have e:z=((c:Int),(a:Int)):=by rw[← e,P,o]
    exact⟨c,a,zO,zO,u c a e,e⟩
 ·rintro⟨a,b,o,s,j,rfl⟩
  unfold QR at j
  rw[Bool.or_eq_true,Bool.or_eq_true]at j
  rcases j with j|j|j
  ·rw[Bool.and_eq_true]at j
   obtain⟨w,F⟩:=j
   have w:a=g.ts.length:=by simpa using w
   obtain⟨i,f,e⟩:=List.getElem_of_mem (comL_mem.2 ⟨b,rfl,F⟩)
   refine .inl ⟨i,f,?_⟩
   unfold jqi
   rw[show(comL g).getD i 0=(b:Int) by simp[List.getD_eq_getElem?_getD,List.getElem?_eq_getElem f,e],w]
   exact List.mem_cons_self ..
  ·simp only[Bool.and_eq_true,decide_eq_true_eq]at j
   obtain⟨⟨⟨w,F⟩,Q⟩,L⟩:=j
   obtain⟨i,f,e⟩:=List.getElem_of_mem (comL_mem.2 ⟨b,rfl,F⟩)
   obtain⟨k,p,I⟩:=List.getElem_of_mem (comL_mem.2 ⟨a,rfl,w⟩)
   have x:(comL g).getD i 0=(b:Int):=by simp[List.getD_eq_getElem?_getD,List.getElem?_eq_getElem f,e]
   have y:(comL g).getD k 0=(a:Int):=by simp[List.getD_eq_getElem?_getD,List.getElem?_eq_getElem p,I]
   have n:k<i:=by
    rcases Nat.lt_trichotomy k i with h|h|h
    ·exact h
    ·subst h
     rw[x]at y
     omega
    ·have:=jz8 p h
     rw[x,y]at this
     omega
   refine .inl ⟨i,f,?_⟩
   unfold jqi
   refine List.mem_cons_of_mem _ (List.mem_map.2 ⟨k,List.mem_filter.2 ⟨List.mem_range.2 n,?_⟩,by rw[x,y]⟩)
   rw[x,y,Int.toNat_natCast,Int.toNat_natCast]
   exact L
  ·obtain⟨i,f,h⟩:=List.any_eq_true.1 j
   refine .inr ⟨i,List.mem_range.1 f,?_⟩
   rw[Bool.or_eq_true]at h
   rcases h with h|h
   ·exact .inl (by simpa using(beq_iff_eq.1 h).symm)
   ·exact .inr (by simpa using h)
end
def edC (p:P2):List V:=[.int .i64 p.1,.int .i64 p.2]
theorem Y0 (p:P2):(edC p).length=2:=rfl
theorem j3n (L:List P2):(L.flatMap edC).all V.pureLeaf=true:=by
 rw[List.all_flatMap,List.all_eq_true]
 intro _ _
 rfl
def EdV (ob:ZO) (lo hi:Nat) (v:V) (L:List P2):Prop :=
 (v=.sl none true 0 []∧L=[])∨∃u,v=.osl (2*u+1) u 0 L.length 2∧ob (2*u+1)=some ⟨u,.cells (L.flatMap edC)⟩∧lo≤u∧u<hi
theorem EdV.frame {ob ob':ZO}{lo hi a:Nat}{v:V}{L:List P2}(h:EdV ob lo hi v L) (f:∀u,lo≤u→u<hi→ob' (2*u+1)=ob (2*u+1)) (g:hi≤a):EdV ob' lo a v L:=by
 rcases h with h|⟨u,c,e,b,d⟩
 ·exact .inl h
 ·exact .inr ⟨u,c,(f u b d).trans e,b,zO⟩
theorem EdV.len {ob:ZO}{lo hi:Nat}{v:V}{L:List P2}(h:EdV ob lo hi v L):QY v=some (.int .i64 (L.length:Nat)):=by
 rcases h with⟨rfl,rfl⟩|⟨u,rfl,_⟩ <;> rfl
theorem jlv {F:Env}{Yf:YF}{lo hi ub:Nat}{v:V}{L:List P2}{p:P2}{s x:A}{st:St}{K:St→Nat→Prop}{d:Option Nat}(e:eval F st.tm s=v) (j:EdV st.ob lo hi v L) (g:st.ro≤lo) (b:jI st.ob 2 (eval F st.tm x)=some (edC p)) (l:L.length≤1000000)
 (h:∀a:List Nat,(a=[]∨∃u,lo≤u∧u<hi∧a=[2*u+1]∧st.ob (2*u+1)=some ⟨u,.cells (L.flatMap edC)⟩)→WW K st d ub { v:=.osl (2*ub+1) ub 0 (L.length+1) 2,obs:=[(2*ub+1,⟨ub,.cells ((L++[p]).flatMap edC)⟩)],kill:=a }):j6 F Yf ⟨d,.append true 2 16 s x,none,true⟩ st ub K:=by
 rcases j with⟨rfl,rfl⟩|⟨u,rfl,c,f,i⟩
 ·refine X9 e b (by simp[edC]) zD rfl (by simp[edC]) (by simp[edC]) ?_
  simpa[edC,jH] using h [] (.inl rfl)
 ·have k:=j7 Y0 L
  refine YA (cs:=L.flatMap edC) e b c (by simp[edC]) zO zO zD rfl (by simp[edC];omega) (by simp[edC];omega) ?_
  have:=h [2*u+1] (.inr ⟨u,f,i,rfl,c⟩)
  rw[List.take_of_length_le zO]
  simpa[edC,jH] using this
section
end
end Go.Pv.T
namespace Go.Pv.T
open Go Go.Pv
end Go.Pv.T
namespace Go.Pv.T
open Go Go.Pv
def IntL (ob:ZO) (lo hi:Nat) (v:V) (L:List Int):Prop:=∃u,v=.osl (2*u+1) u 0 L.length 1∧ob (2*u+1)=some ⟨u,.cells (L.flatMap intC)⟩∧lo≤u∧u<hi
def EdL (ob:ZO) (lo hi:Nat) (v:V) (L:List P2):Prop:=∃u,v=.osl (2*u+1) u 0 L.length 2∧ob (2*u+1)=some ⟨u,.cells (L.flatMap edC)⟩∧lo≤u∧u<hi
section
end
section
end
def je9 (g:Hist') (lvl:Int) (M:List Int):Int:=if !JV g then 4 else if lvl<1∨2<lvl∨jb5 g M=false then 2 else 0
section
end
theorem jlx {st:St}{ub lo hi:Nat}{K:List FP→St→Prop}{d:Option Nat}{r:List AOpr}{v:V}{L:List P2}{p:P2}{s x:A}(i:eval E st.tm s=v) (m:EdV st.ob lo hi v L) (k:st.ro≤lo) (f:jI st.ob 2 (eval E st.tm x)=some (edC p)) (q:L.length≤1000000)
 (h:∀e:List Nat,(e=[]∨∃u,lo≤u∧u<hi∧e=[2*u+1])→jas E r K (eval E st.tm) (.append true 2 16 s x) st d ub { v:=.osl (2*ub+1) ub 0 (L.length+1) 2,obs:=[(2*ub+1,⟨ub,.cells ((L++[p]).flatMap edC)⟩)],kill:=e }):jE E (⟨d,.append true 2 16 s x,none,true⟩::r) st ub K:=by
 rw[XK rfl]
 have b:edC p≠[]:=by simp[edC]
 have a:(edC p).all V.leaf=true:=rfl
 have n:=j7 Y0 L
 rcases m with⟨rfl,rfl⟩|⟨u,rfl,o,j,l⟩
 ·simp only[aop,i,f,Option.bind_some,if_neg b,Bool.and_self,if_true,Jo,Wk]
  rw[if_pos ⟨zD,a,by simp[edC],by simp[edC]⟩]
  simp only[Jd,jN]
  have:=h [] (.inl rfl)
  simpa[edC] using this
 ·have c:j0 st.ob (2*u+1) u=some (L.flatMap edC):=by simp[j0,o]
  simp only[aop,i,f,c,Option.bind_some,if_neg b,Jo,Wk]
  rw[if_pos ⟨Nat.ble_eq▸zO,trivial,trivial,zO,zD,a,by simp[edC];omega,by simp[edC];omega⟩,jN]
  have:=h [2*u+1] (.inr ⟨u,j,l,rfl⟩)
  rw[show(L.flatMap edC).take (L.length*2)=L.flatMap edC from List.take_of_length_le zO]
  simpa[edC,List.flatMap_append] using this
def mkS (g:Hist') (mv rv lv:V):List V:=histC g++[mv,rv,lv]
def MkR (g:Hist') (mv rv:V) (kX uX lo:Nat) (ob:ZO) (ub:Nat) (L:List P2):Prop:=∃lv,ob kX=some ⟨uX,.cells (mkS g mv rv lv)⟩∧EdV ob lo ub lv L
theorem MkR.keep {g:Hist'}{mv rv:V}{kX uX lo ub b:Nat}{ob ob':ZO}{L:List P2}(h:MkR g mv rv kX uX lo ob ub L) (c:∀a,Off ub a→ob' a=ob a) (e:Off ub kX) (j:ub≤b):MkR g mv rv kX uX lo ob' b L:=by
 obtain⟨i,d,f⟩:=h
 exact⟨i,(c _ e).trans d,f.frame (fun u _ h=>c _ (Off.new h)) j⟩
section
variable {g:Hist'}{mv rv:V}{kX uX lo:Nat}{ob:ZO}{ub:Nat}{L:List P2}
theorem jz2 (a:∃b,ob kX=some ⟨uX,.cells (mkS g mv rv b)⟩) (x:Int) (tk:Nat→Bool) (base ub:Nat):EvO E 192 [.ptr kX uX 0,.int .i64 x] ob tk base ub (.int .i64 (JN g x)):=by
 obtain⟨b,a⟩:=a
 refine X6 (af:=S192) rfl ?_
 unfold JN
 by_cases h:x<0
 ·simp[S192,j0,a,mkS,histC,h]
  exact j3 rfl zS rfl
 ·simp[S192,h]
  exact j3 rfl zS rfl
theorem EdV.at {ob:ZO}{lo hi:Nat}{v:V}{L:List P2}(h:EdV ob lo hi v L):∃b a,lo≤b∧(a≤hi∨a=lo)∧EdV ob b a v L∧∀u,b≤u→u<a→v=.osl (2*u+1) u 0 L.length 2:=by
 rcases h with⟨a,c⟩|⟨u,a,c,e,f⟩
 ·exact⟨lo,lo,zR,.inr rfl,.inl ⟨a,c⟩,fun u h d=>by omega⟩
 ·exact⟨u,u+1,e,.inl zO,.inr ⟨u,a,c,zR,Nat.lt_succ_self _⟩,fun w h d=>by rw[a,show w=u by omega]⟩
def jy1 (v:V) (L:List P2) (key:Nat):Prop:=∀u,v=.osl (2*u+1) u 0 L.length 2→key≠2*u+1
theorem EdV.off {ob:ZO}{lo hi:Nat}{v:V}{L:List P2}(h:EdV ob lo hi v L) {key:Nat}(b:Off lo key):jy1 v L key:=by
 intro u a
 rcases h with⟨rfl,_⟩|⟨w,rfl,_,c,_⟩
 ·cases a
 ·have:w=u:=by injection a
  exact b u zO
theorem jq3 {Yf:YF}{tk:Nat→Bool}{ro base:Nat}{lv:V}(d:ob kX=some ⟨uX,.cells (mkS g mv rv lv)⟩) (B:EdV ob lo ub lv L) (n:Off lo kX) (s:lo≤ub) (F:ro≤lo) (z:ro≤uX) (M:L.length≤100000) (a b:Int) :
 ∃r,EvS E Yf.y 137 [.ptr kX uX 0,.int .i64 a,.int .i64 b] ob tk ro base ub r∧ub≤r.2.2.2∧(∃i,r.2.1 kX=some ⟨uX,.cells (mkS g mv rv i)⟩∧EdL r.2.1 ub r.2.2.2 i (L++[(JN g a,JN g b)]))∧∀c,Off ub c→c≠kX→jy1 lv L c→r.2.1 c=ob c:=by
 have k:=(n.up s).ne
 obtain⟨K,f,O,N,H,I⟩:=B.at
 refine X2 (af:=S137) rfl zD ?_
 show wpC E Yf S137.body _ (XY S137.res _)
 simp(disch:=first|(simp;done)|omega) [S137,j0,d,mkS,histC]
 refine jzs (vs:=[.ptr kX uX 0,.int .i64 a]) zS rfl rfl (jz2 (g:=g) (mv:=mv) (rv:=rv) ⟨lv,by simpa using d⟩ _ _ _ _) (Y9 rfl) ?_
 simp
 refine jzs (vs:=[.ptr kX uX 0,.int .i64 b]) zS rfl rfl (jz2 (g:=g) (mv:=mv) (rv:=rv) ⟨lv,by simpa using d⟩ _ _ _ _) (Y9 rfl) ?_
 simp[j5]
 refine YL (cs:=[.int .i64 (JN g a),.int .i64 (JN g b)]) (by simp[j5]) rfl rfl ?_
 simp
 refine jlx (lo:=K) (hi:=f) (v:=lv) (L:=L) (p:=(JN g a,JN g b)) zS (H.frame (fun u f l=>?_) zR) (by simp;omega) (by simp[jI,j0,edC]) zO fun G t=>?_
 ·have o:∀m,ub≤m→¬ u=m:=fun m j=>by omega
  simp(disch:=first|(simp;done)|omega) [jQ,o]
 have h:∀c,jy1 lv L c→G.any (Nat.beq c)=false:=fun c n=>by
  rcases t with rfl|⟨u,f,l,rfl⟩
  ·rfl
  ·simp only[List.any_cons,List.any_nil,Bool.or_false]
   exact juq (n u (I u f l))
 have q:=h _ (B.off n)
 generalize x:List.flatMap edC (L++[(JN g a,JN g b)])=cs9
 simp(disch:=first|(simp;done)|omega) [j0,d,mkS,histC,q,jT,k,j5]
 have D:∀m,ub≤m→Nat.beq kX (2*m+1)=false:=fun m j=>Jn (k m j)
 have w:∀m,ub≤m→Nat.beq (2*m+1) kX=false:=fun m j=>Jn (Ne.symm (k m j))
 refine⟨z,by simp(disch:=first|(simp;done)|omega) [XA,jay,jaz,jb9,rdOb,rdTk,lOf,uOf,Delta.wo,Delta.wt,D],?_⟩
 refine jc3 (.inl rfl) zS ⟨zL,⟨.osl (2*(ub+832)+1) (ub+832) 0 (L.length+1) 2,by simp[Nat.add_assoc],ub+832,zS,?_,zO,zL⟩,fun c f l J=>?_⟩
 ·simp(disch:=first|(simp;done)|omega) [jT,Nat.add_assoc,x]
  exact fun e=>absurd e.symm (k _ zO)
 ·have o:=f.ne
  simp(disch:=first|(simp;done)|omega) [jT,l,o,h c J]
theorem sv137 {Yf:YF}{tk:Nat→Bool}{ro base:Nat}(p:MkR g mv rv kX uX lo ob ub L) (t:Off lo kX) (d:lo≤ub) (e:ro≤lo) (h:ro≤uX) (m:L.length≤100000) (a b:Int) :
 ∃r,EvS E Yf.y 137 [.ptr kX uX 0,.int .i64 a,.int .i64 b] ob tk ro base ub r∧ub≤r.2.2.2∧MkR g mv rv kX uX lo r.2.1 r.2.2.2 (L++[(JN g a,JN g b)])∧∀c,Off lo c→c≠kX→r.2.1 c=ob c:=by
 obtain⟨B,f,k⟩:=p
 obtain⟨r,n,s,⟨i,l,u,v,o,z,w⟩,x⟩:=jq3 (Yf:=Yf) (tk:=tk) (ro:=ro) (base:=base) f k t d e h m a b
 exact⟨r,n,s,⟨i,l,.inr ⟨u,v,o,zO,w⟩⟩,fun c j q=>x c (j.up d) q (k.off j)⟩
end
def ptC (u:Nat):List V:=[.ptr (2*u+1) u 0]
theorem jg5 (u:Nat):(ptC u).length=1:=rfl
def slU (o:Option Nat) (n sz:Nat):V:=match o with
 | none=>.sl none true 0 []
 | some u=>.osl (2*u+1) u 0 n sz
structure Gr (lo hi uG:Nat) (ut uf ue:Option Nat) (tu fu:List Nat) (WT WF:Nat→Nat) (T:List P2) (ob:ZO):Prop where
 o:ob (2*uG+1)=some ⟨uG,.cells [slU ut tu.length 1,slU uf fu.length 1,slU ue T.length 2,.bool true]⟩
 t:∀u,ut=some u→ob (2*u+1)=some ⟨u,.cells (tu.flatMap ptC)⟩
 f:∀u,uf=some u→ob (2*u+1)=some ⟨u,.cells (fu.flatMap ptC)⟩
 e:∀u,ue=some u→ob (2*u+1)=some ⟨u,.cells (T.flatMap edC)⟩
 z:(ut=none→tu=[])∧(uf=none→fu=[])∧(ue=none→T=[])
 st:∀i (h:i<tu.length),ob (2*tu[i]+1)=some ⟨tu[i],.cells (setC (WT i))⟩
 sf:∀i (h:i<fu.length),ob (2*fu[i]+1)=some ⟨fu[i],.cells (setC (WF i))⟩
 nT:tu.Nodup
 nF:fu.Nodup
 nX:∀x∈tu,x ∉ fu
 nS:∀x,x∈tu∨x∈fu→x≠uG∧ut≠some x∧uf≠some x∧ue≠some x
 nG:ut≠some uG∧uf≠some uG∧ue≠some uG
 nU:∀x,ut=some x→uf≠some x∧ue≠some x
 nV:∀x,uf=some x→ue≠some x
 rG:lo≤uG∧uG<hi
 rL:∀x,ut=some x∨uf=some x∨ue=some x→lo≤x∧x<hi
 rS:∀x,x∈tu∨x∈fu→lo≤x∧x<hi
section
variable {lo hi hi' uG:Nat}{ut uf ue:Option Nat}{tu fu:List Nat}{WT WF:Nat→Nat}{T:List P2}{ob ob':ZO}
theorem Gr.keep (h:Gr lo hi uG ut uf ue tu fu WT WF T ob) (c:∀x,lo≤x→x<hi→ob' (2*x+1)=ob (2*x+1)) (g:hi≤hi'):Gr lo hi' uG ut uf ue tu fu WT WF T ob':=by
 have d:=fun x a=>c x (h.rL x a).1 (h.rL x a).2
 have j:=fun x a=>c x (h.rS x a).1 (h.rS x a).2
 exact⟨(c uG h.rG.1 h.rG.2).trans h.o,fun u b=>(d u (.inl b)).trans (h.t u b),fun u b=>(d u (.inr (.inl b))).trans (h.f u b),fun u b=>(d u (.inr (.inr b))).trans (h.e u b),h.z,
  fun i hi=>(j _ (.inl (List.getElem_mem hi))).trans (h.st i hi),fun i hi=>(j _ (.inr (List.getElem_mem hi))).trans (h.sf i hi),h.nT,h.nF,h.nX,h.nS,h.nG,h.nU,h.nV,
  ⟨h.rG.1,Nat.lt_of_lt_of_le h.rG.2 g⟩,fun x a=>⟨(h.rL x a).1,Nat.lt_of_lt_of_le (h.rL x a).2 g⟩,fun x a=>⟨(h.rS x a).1,Nat.lt_of_lt_of_le (h.rS x a).2 g⟩⟩
theorem Gr.wide {lo':Nat}(h:Gr lo hi uG ut uf ue tu fu WT WF T ob) (b:lo'≤lo):Gr lo' hi uG ut uf ue tu fu WT WF T ob :=
 ⟨h.o,h.t,h.f,h.e,h.z,h.st,h.sf,h.nT,h.nF,h.nX,h.nS,h.nG,h.nU,h.nV,⟨Nat.le_trans b h.rG.1,h.rG.2⟩,fun x a=>⟨Nat.le_trans b (h.rL x a).1,(h.rL x a).2⟩,fun x a=>⟨Nat.le_trans b (h.rS x a).1,(h.rS x a).2⟩⟩
theorem Gr.off (_:Gr lo hi uG ut uf ue tu fu WT WF T ob) {x:Nat}(a:x<hi):Off hi (2*x+1):=Off.new a
theorem jcv {b:Type}{l:List b}(h:l.Nodup) {i j:Nat}(hi:i<l.length) (a:j<l.length) (e:l[i]=l[j]):i=j:=by
 rcases Nat.lt_trichotomy i j with h1|h1|h1
 ·exact absurd e (List.pairwise_iff_getElem.1 h i j hi a h1)
 ·exact h1
 ·exact absurd e.symm (List.pairwise_iff_getElem.1 h j i a hi h1)
theorem Gr.putT (h:Gr lo hi uG ut uf ue tu fu WT WF T ob) {a w:Nat}(l:a<tu.length) (q:ob' (2*tu[a]+1)=some ⟨tu[a],.cells (setC w)⟩) (g:∀x,lo≤x→x<hi→x≠tu[a]→ob' (2*x+1)=ob (2*x+1)) (d:hi≤hi') :
 Gr lo hi' uG ut uf ue tu fu (fun i=>if i=a then w else WT i) WF T ob':=by
 have k:tu[a]∈tu:=List.getElem_mem l
 obtain⟨p,r,s,v⟩:=h.nS _ (.inl k)
 have j:=fun x (b:ut=some x∨uf=some x∨ue=some x)=>g x (h.rL x b).1 (h.rL x b).2 (fun e=>by subst e;rcases b with b|b|b <;> contradiction)
 have m:=fun x b=>g x (h.rS x b).1 (h.rS x b).2
 refine⟨(g uG h.rG.1 h.rG.2 (Ne.symm p)).trans h.o,fun u c=>(j u (.inl c)).trans (h.t u c),fun u c=>(j u (.inr (.inl c))).trans (h.f u c),fun u c=>(j u (.inr (.inr c))).trans (h.e u c),h.z,
  fun i hi=>?_,fun i hi=>(m _ (.inr (List.getElem_mem hi)) (fun e=>h.nX _ k (e▸List.getElem_mem hi))).trans (h.sf i hi),h.nT,h.nF,h.nX,h.nS,h.nG,h.nU,h.nV,
  ⟨h.rG.1,Nat.lt_of_lt_of_le h.rG.2 d⟩,fun x b=>⟨(h.rL x b).1,Nat.lt_of_lt_of_le (h.rL x b).2 d⟩,fun x b=>⟨(h.rS x b).1,Nat.lt_of_lt_of_le (h.rS x b).2 d⟩⟩
 by_cases e:i=a
 ·subst e
  rw[if_pos rfl]
  exact q
 ·rw[if_neg e]
  exact(m _ (.inl (List.getElem_mem hi)) (fun n=>e (jcv h.nT hi l n))).trans (h.st i hi)
theorem Gr.putF (h:Gr lo hi uG ut uf ue tu fu WT WF T ob) {a w:Nat}(l:a<fu.length) (q:ob' (2*fu[a]+1)=some ⟨fu[a],.cells (setC w)⟩) (g:∀x,lo≤x→x<hi→x≠fu[a]→ob' (2*x+1)=ob (2*x+1)) (d:hi≤hi') :
 Gr lo hi' uG ut uf ue tu fu WT (fun i=>if i=a then w else WF i) T ob':=by
 have k:fu[a]∈fu:=List.getElem_mem l
 obtain⟨p,r,s,v⟩:=h.nS _ (.inr k)
 have j:=fun x (b:ut=some x∨uf=some x∨ue=some x)=>g x (h.rL x b).1 (h.rL x b).2 (fun e=>by subst e;rcases b with b|b|b <;> contradiction)
 have m:=fun x b=>g x (h.rS x b).1 (h.rS x b).2
 refine⟨(g uG h.rG.1 h.rG.2 (Ne.symm p)).trans h.o,fun u c=>(j u (.inl c)).trans (h.t u c),fun u c=>(j u (.inr (.inl c))).trans (h.f u c),fun u c=>(j u (.inr (.inr c))).trans (h.e u c),h.z,
  fun i hi=>(m _ (.inl (List.getElem_mem hi)) (fun e=>h.nX _ (List.getElem_mem hi) (e▸k))).trans (h.st i hi),fun i hi=>?_,h.nT,h.nF,h.nX,h.nS,h.nG,h.nU,h.nV,
  ⟨h.rG.1,Nat.lt_of_lt_of_le h.rG.2 d⟩,fun x b=>⟨(h.rL x b).1,Nat.lt_of_lt_of_le (h.rL x b).2 d⟩,fun x b=>⟨(h.rS x b).1,Nat.lt_of_lt_of_le (h.rS x b).2 d⟩⟩
 by_cases e:i=a
 ·subst e
  rw[if_pos rfl]
  exact q
 ·rw[if_neg e]
  exact(m _ (.inr (List.getElem_mem hi)) (fun n=>e (jcv h.nF hi l n))).trans (h.sf i hi)
theorem Gr.edge (h:Gr lo hi uG ut uf ue tu fu WT WF T ob) {x:Nat}{p:P2}(o:ob' (2*uG+1)=some ⟨uG,.cells [slU ut tu.length 1,slU uf fu.length 1,slU (some x) (T.length+1) 2,.bool true]⟩) (m:ob' (2*x+1)=some ⟨x,.cells ((T++[p]).flatMap edC)⟩)
 (j:∀y,lo≤y→y<hi→y≠uG→ue≠some y→ob' (2*y+1)=ob (2*y+1)) (v:hi≤x) (r:x<hi'):Gr lo hi' uG ut uf (some x) tu fu WT WF (T++[p]) ob':=by
 have g:hi≤hi':=zO
 have k:lo≤x:=by have:=h.rG;omega
 have ne:∀y,ut=some y∨uf=some y∨ue=some y→y≠x:=fun y a e=>by have:=(h.rL y a).2;omega
 have s:∀y,y∈tu∨y∈fu→y≠x:=fun y a e=>by have:=(h.rS y a).2;omega
 refine⟨by rw[List.length_append];exact o,fun u b=>(j u (h.rL u (.inl b)).1 (h.rL u (.inl b)).2 (fun e=>h.nG.1 (e▸b)) (h.nU u b).2).trans (h.t u b),fun u b=>(j u (h.rL u (.inr (.inl b))).1 (h.rL u (.inr (.inl b))).2 (fun e=>h.nG.2.1 (e▸b)) (h.nV u b)).trans (h.f u b),
  fun u b=>by cases b;exact m,⟨h.z.1,h.z.2.1,fun e=>by cases e⟩,fun i hi=>?_,fun i hi=>?_,h.nT,h.nF,h.nX,fun y a=>?_,⟨h.nG.1,h.nG.2.1,fun e=>?_⟩,fun y a=>⟨(h.nU y a).1,fun e=>ne y (.inl a) (by injection e with e;exact e.symm)⟩,fun y a e=>ne y (.inr (.inl a)) (by injection e with e;exact e.symm),
  ⟨h.rG.1,Nat.lt_of_lt_of_le h.rG.2 g⟩,fun y a=>?_,fun y a=>⟨(h.rS y a).1,Nat.lt_of_lt_of_le (h.rS y a).2 g⟩⟩
 ·have c:=List.getElem_mem hi
  obtain⟨d,_,_,l⟩:=h.nS _ (.inl c)
  exact(j _ (h.rS _ (.inl c)).1 (h.rS _ (.inl c)).2 d l).trans (h.st i hi)
 ·have c:=List.getElem_mem hi
  obtain⟨d,_,_,l⟩:=h.nS _ (.inr c)
  exact(j _ (h.rS _ (.inr c)).1 (h.rS _ (.inr c)).2 d l).trans (h.sf i hi)
 ·obtain⟨d,n,q,_⟩:=h.nS y a
  exact⟨d,n,q,fun e=>s y a (by injection e with e;exact e.symm)⟩
 ·have:=h.rG.2
  injection e with e
  omega
 ·rcases a with a|a|a
  ·exact⟨(h.rL y (.inl a)).1,Nat.lt_of_lt_of_le (h.rL y (.inl a)).2 g⟩
  ·exact⟨(h.rL y (.inr (.inl a))).1,Nat.lt_of_lt_of_le (h.rL y (.inr (.inl a))).2 g⟩
  ·cases a
   exact⟨k,r⟩
theorem Gr.node {a b c d:Nat}(h:Gr lo hi uG ut uf none tu fu (fun _=>0) (fun _=>0) [] ob) (x:ob' (2*uG+1)=some ⟨uG,.cells [slU (some b) (tu.length+1) 1,slU (some d) (fu.length+1) 1,.sl none true 0 [],.bool true]⟩)
 (v:ob' (2*b+1)=some ⟨b,.cells ((tu++[a]).flatMap ptC)⟩) (t:ob' (2*d+1)=some ⟨d,.cells ((fu++[c]).flatMap ptC)⟩) (r:ob' (2*a+1)=some ⟨a,.cells (setC 0)⟩) (B:ob' (2*c+1)=some ⟨c,.cells (setC 0)⟩)
 (D:∀y,lo≤y→y<hi→y≠uG→ut≠some y→uf≠some y→ob' (2*y+1)=ob (2*y+1)) (w:hi≤a∧a<b∧b<c∧c<d∧d<hi'):Gr lo hi' uG (some b) (some d) none (tu++[a]) (fu++[c]) (fun _=>0) (fun _=>0) [] ob':=by
 obtain⟨J,G,K,I,F⟩:=w
 have H:hi≤hi':=zO
 have l:=h.rG
 have g:∀y,y∈tu∨y∈fu→lo≤y∧y<hi:=h.rS
 have o:∀y,y∈tu∨y∈fu→ob' (2*y+1)=ob (2*y+1):=fun y f=>by
  obtain⟨s,p,q,_⟩:=h.nS y f
  exact D y (g y f).1 (g y f).2 s p q
 have j:∀y,y∈tu++[a]∨y∈fu++[c]→(y∈tu∨y∈fu)∨y=a∨y=c:=fun y f=>by
  simp only[List.mem_append,List.mem_singleton]at f
  rcases f with(h|h)|(h|h)
  ·exact .inl (.inl h)
  ·exact .inr (.inl h)
  ·exact .inl (.inr h)
  ·exact .inr (.inr h)
 refine⟨by simpa[slU] using x,fun u k=>(by cases k;exact v),fun u k=>(by cases k;exact t),fun u k=>(by cases k),⟨fun e=>(by cases e),fun e=>(by cases e),fun _=>rfl⟩,fun i hi=>?_,fun i hi=>?_,?_,?_,fun y f=>?_,fun y f=>?_,⟨fun e=>?_,fun e=>?_,fun e=>(by cases e)⟩,
  fun y f=>⟨fun e=>?_,fun e=>(by cases e)⟩,fun y _ e=>(by cases e),⟨l.1,zO⟩,fun y f=>?_,fun y f=>?_⟩
 ·by_cases e:i<tu.length
  ·rw[List.getElem_append_left e]
   exact(o _ (.inl (List.getElem_mem e))).trans (h.st i e)
  ·have:i=tu.length:=by rw[List.length_append,List.length_singleton]at hi;omega
   subst this
   rw[List.getElem_append_right zR]
   simpa using r
 ·by_cases e:i<fu.length
  ·rw[List.getElem_append_left e]
   exact(o _ (.inr (List.getElem_mem e))).trans (h.sf i e)
  ·have:i=fu.length:=by rw[List.length_append,List.length_singleton]at hi;omega
   subst this
   rw[List.getElem_append_right zR]
   simpa using B
 ·rw[List.nodup_append]
  exact⟨h.nT,zS,fun y f z m e=>by rw[List.mem_singleton]at m;have:=(g y (.inl f)).2;omega⟩
 ·rw[List.nodup_append]
  exact⟨h.nF,zS,fun y f z m e=>by rw[List.mem_singleton]at m;have:=(g y (.inr f)).2;omega⟩
 ·simp only[List.mem_append,List.mem_singleton]at f ⊢
  rintro(n|n)
  ·rcases f with h3|h3
   ·exact h.nX y h3 n
   ·have:=(g y (.inr n)).2;omega
  ·rcases f with h3|h3
   ·have:=(g y (.inl h3)).2;omega
   ·omega
 ·refine⟨?_,fun e=>?_,fun e=>?_,fun e=>(by cases e)⟩
  ·rcases j y f with h3|h3|h3
   ·exact(h.nS y h3).1
   ·omega
   ·omega
  ·injection e with e
   rcases j y f with h3|h3|h3
   ·have:=(g y h3).2;omega
   ·omega
   ·omega
  ·injection e with e
   rcases j y f with h3|h3|h3
   ·have:=(g y h3).2;omega
   ·omega
   ·omega
 ·injection e with e;omega
 ·injection e with e;omega
 ·injection f with f
  injection e with e
  omega
 ·rcases f with f|f|f
  ·injection f with f;omega
  ·injection f with f;omega
  ·cases f
 ·rcases j y f with h3|h3|h3
  ·have:=g y h3;omega
  ·omega
  ·omega
end
def Jq (o:Option Nat):List Nat:=match o with
 | none=>[]
 | some u=>[2*u+1]
theorem jef {st:St}{ub:Nat}{K:List FP→St→Prop}{d:Option Nat}{r:List AOpr}{ut:Option Nat}{tu:List Nat}{a:Nat}{s x:A}(g:eval E st.tm s=slU ut tu.length 1) (j:∀u,ut=some u→st.ob (2*u+1)=some ⟨u,.cells (tu.flatMap ptC)⟩∧st.ro≤u) (k:ut=none→tu=[])
 (f:jI st.ob 1 (eval E st.tm x)=some (ptC a)) (n:tu.length≤1000000)
 (h:jas E r K (eval E st.tm) (.append true 1 8 s x) st d ub { v:=.osl (2*ub+1) ub 0 (tu.length+1) 1,obs:=[(2*ub+1,⟨ub,.cells ((tu++[a]).flatMap ptC)⟩)],kill:=Jq ut }):jE E (⟨d,.append true 1 8 s x,none,true⟩::r) st ub K:=by
 rw[XK rfl]
 have c:ptC a≠[]:=by simp[ptC]
 have b:(ptC a).all V.leaf=true:=rfl
 have l:=j7 jg5 tu
 cases ut with
 | none=>
  have:=k rfl
  subst this
  simp only[aop,g,slU,f,Option.bind_some,if_neg c,Bool.and_self,if_true,Jo,Wk]
  rw[if_pos ⟨zD,b,by simp[ptC],by simp[ptC]⟩]
  simp only[Jd,jN]
  simpa[ptC,Jq] using h
 | some u=>
  obtain⟨m,i⟩:=j u rfl
  have e:j0 st.ob (2*u+1) u=some (tu.flatMap ptC):=by simp[j0,m]
  simp only[aop,g,slU,f,e,Option.bind_some,if_neg c,Jo,Wk]
  rw[if_pos ⟨Nat.ble_eq▸i,trivial,trivial,zO,zD,b,by simp[ptC];omega,by simp[ptC];omega⟩,jN]
  rw[show(tu.flatMap ptC).take (tu.length*1)=tu.flatMap ptC from List.take_of_length_le zO]
  simpa[ptC,Jq,List.flatMap_append] using h
theorem j16 (l u o:Nat):lOf (.ptr l u o)=[l]:=rfl
theorem j17 (l u o n z:Nat):lOf (.osl l u o n z)=[l]:=rfl
theorem beqN {a b:Nat}(h:¬ a=b):Nat.beq (2*a+1) (2*b+1)=false:=Jn zO
theorem jud (a:Nat) (x y:List Nat):jaz (a::x) y=(!(y.any fun b=>Nat.beq a b) && jaz x y):=by simp[jaz,Bool.not_or]
theorem jyo (y:List Nat):jaz [] y=true:=rfl
theorem jyp (x a y:List Nat):jaz (x++a) y=(jaz x y && jaz a y):=by simp[jaz,List.any_append,Bool.not_or]
section
variable {ob:ZO}{ub:Nat}
def PgR (ob:ZO) (ub n:Nat) (WT WF:Nat→Nat) (k:Nat) (r:V × (ZO) × (Nat→Bool) × Nat):Prop :=
 ∃uG ut uf ue tu fu T,r.1=.tup [.ptr (2*uG+1) uG 0,.int .i64 0]∧Gr ub r.2.2.2 uG (some ut) (some uf) ue tu fu WT WF T r.2.1∧tu.length=n∧fu.length=n∧T.length≤k∧ub≤r.2.2.2∧∀key,Off ub key→r.2.1 key=ob key
theorem sv204 {Yf:YF}{tk:Nat→Bool}{ro base n:Nat}(c2:ro≤ub) (X:0<n) (h9:n≤9):∃r,EvS E Yf.y 204 [.int .i64 (n:Int)] ob tk ro base ub r∧PgR ob ub n (fun _=>0) (fun _=>0) 0 r:=by
 refine X2 (af:=S204) rfl zD ?_
 show wpC E Yf S204.body _ (XY S204.res _)
 have b8:¬ (n:Int)<0:=zO
 have Z:¬ (500:Int)<n:=zO
 simp(disch:=first|(simp;done)|omega) [S204,b8,Z,V.cells,j5]
 refine jj fun D l=>?_
 obtain⟨p,u1,u2,g4,gG⟩:∃u,ub≤u∧u<D.nx∧D.tm 4=.ptr (2*u+1) u 0∧D.ob (2*u+1)=some ⟨u,.cells [.sl none true 0 [],.sl none true 0 [],.sl none true 0 [],.bool true]⟩:=by
  refine⟨ub+576,zO,by rw[l];first|omega|(simp;done)|(simp;omega),by rw[l];simp,by rw[l];simp[Nat.add_assoc]⟩
 have b5:D.tm 13=.int .i64 n:=by rw[l];simp
 have S:D.tm 14=.int .i64 0:=by rw[l];simp
 have gd:D.df=[]:=by rw[l];simp
 have gr:D.ro=ro:=by rw[l];simp
 have go:∀g,Off ub g→D.ob g=ob g:=fun g v=>by
  have:=v.ne
  rw[l]
  simp(disch:=first|(simp;done)|omega) [this]
 clear l
 obtain⟨J,hJ⟩:∃J:Nat→St→Prop,J=fun i s=>s.tm 14=.int .i64 i∧(∃ut k tu K,Gr ub s.nx p ut k none tu K (fun _=>0) (fun _=>0) [] s.ob∧tu.length=i∧K.length=i∧((ut=none∧k=none∧i=0)∨∃a b,ut=some a∧k=some b))∧ub≤s.nx∧∀g,Off ub g→s.ob g=ob g:=⟨_,rfl⟩
 refine j9 [(14,36)] n J rfl rfl ?_ ?_
 ·rw[hJ]
  refine⟨by simpa using S,⟨none,none,[],[],⟨by simpa[slU] using gG,fun u h=>(by cases h),fun u h=>(by cases h),fun u h=>(by cases h),⟨fun _=>rfl,fun _=>rfl,fun _=>rfl⟩,fun i h=>(by simp at h),fun i h=>(by simp at h),List.nodup_nil,List.nodup_nil,fun x h=>(by simp at h),fun x h=>(by simp at h),⟨zS,zS,zS⟩,fun x h=>(by cases h),fun x h=>(by cases h),⟨u1,u2⟩,fun x h=>(by simp at h),fun x h=>(by simp at h)⟩,rfl,rfl,.inl ⟨rfl,rfl,rfl⟩⟩,zO,go⟩
 clear S go gG u2
 intro i s hi M f
 rw[hJ]at M
 obtain⟨I,⟨ut,k,tu,K,j,ht,hf,q⟩,sn,so⟩:=M
 have s4:s.tm 4=.ptr (2*p+1) p 0:=by rw[f.t 4 zS,g4]
 have N:s.tm 13=.int .i64 n:=by rw[f.t 13 zS,b5]
 have sd:s.df=[]:=by rw[f.d,gd]
 have sr:s.ro=ro:=by rw[f.r,gr]
 clear f
 by_cases F:i<n
 ·have a0:=jh F zO
  have G:=j.o
  have b0:=j.rG
  have nG:∀m,s.nx≤m→¬ p=m:=fun m w=>by omega
  have kt:∀m,s.nx≤m→(Jq ut).any (Nat.beq (2*m+1))=false:=fun m w=>by
   cases ut with
   | none=>rfl
   | some u=>
    have:=j.rL u (.inl rfl)
    simp only[Jq,List.any_cons,List.any_nil,Bool.or_false]
    exact Jn zO
  have U:∀m,s.nx≤m→(Jq k).any (Nat.beq (2*m+1))=false:=fun m w=>by
   cases k with
   | none=>rfl
   | some u=>
    have:=j.rL u (.inr (.inl rfl))
    simp only[Jq,List.any_cons,List.any_nil,Bool.or_false]
    exact Jn zO
  have H:∀x,ut≠some x→(Jq ut).any (Nat.beq (2*x+1))=false:=fun x hx=>by
   cases ut with
   | none=>rfl
   | some u=>
    simp only[Jq,List.any_cons,List.any_nil,Bool.or_false]
    exact Jn fun e=>hx (by rw[show x=u by omega])
  have O:∀x,k≠some x→(Jq k).any (Nat.beq (2*x+1))=false:=fun x hx=>by
   cases k with
   | none=>rfl
   | some u=>
    simp only[Jq,List.any_cons,List.any_nil,Bool.or_false]
    exact Jn fun e=>hx (by rw[show x=u by omega])
  have c1:∀g,Off ub g→(Jq ut).any (Nat.beq g)=false:=fun g v=>by
   cases ut with
   | none=>rfl
   | some u=>
    have:=j.rL u (.inl rfl)
    simp only[Jq,List.any_cons,List.any_nil,Bool.or_false]
    exact Jn (v u this.1)
  have c0:∀g,Off ub g→(Jq k).any (Nat.beq g)=false:=fun g v=>by
   cases k with
   | none=>rfl
   | some u=>
    have:=j.rL u (.inr (.inl rfl))
    simp only[Jq,List.any_cons,List.any_nil,Bool.or_false]
    exact Jn (v u this.1)
  simp(disch:=first|(simp;done)|omega) [I,N,s4,F,j0,G]
  refine jzt zS rfl rfl rfl ?_
  simp
  refine YL (cs:=ptC (s.nx+448)) (by simp[j5,ptC,Nat.add_assoc,V.cells,V.leaf]) rfl rfl ?_
  simp
  refine jef (ut:=ut) (tu:=tu) (a:=s.nx+448) zS (fun u L=>?_) j.z.1 (by simp[jI,j0,ptC,Nat.add_assoc]) zO ?_
  ·have:=j.rL u (.inl L)
   have nu:∀m,s.nx≤m→¬ u=m:=fun m w=>by omega
   refine⟨?_,by simp[sr];omega⟩
   simp(disch:=first|(simp;done)|omega) [jQ,nu,j.t u L]
  have k1:=H p j.nG.1
  simp(disch:=first|(simp;done)|omega) [jT,j0,G,jQ,nG,k1,s4]
  refine jzt zS rfl rfl rfl ?_
  simp
  refine YL (cs:=ptC (s.nx+896)) (by simp[j5,ptC,Nat.add_assoc,V.cells,V.leaf]) rfl rfl ?_
  simp
  refine jef (ut:=k) (tu:=K) (a:=s.nx+896) zS (fun u L=>?_) j.z.2.1 (by simp[jI,j0,ptC,Nat.add_assoc]) zO ?_
  ·have:=j.rL u (.inr (.inl L))
   have nu:∀m,s.nx≤m→¬ u=m:=fun m w=>by omega
   have k2:=H u fun e=>(j.nU u e).1 L
   refine⟨?_,by simp[sr];omega⟩
   simp(disch:=first|(simp;done)|omega) [jT,jQ,nu,j.f u L,k2]
  have k3:=O p j.nG.2.1
  simp(disch:=first|(simp;done)|omega) [jT,j0,G,jQ,nG,k1,k3,j5]
  have b6:(∀m,s.nx≤m→Nat.beq (2*p+1) (2*m+1)=false)∧(∀m,s.nx≤m→Nat.beq (2*m+1) (2*p+1)=false):=⟨fun m w=>Jn zO,fun m w=>Jn zO⟩
  obtain⟨Q,T⟩:=b6
  have P:∀o:Option Nat,(o=ut∨o=k)→∀n,lOf (slU o n 1)=Jq o∧uOf (slU o n 1)=[]:=fun o _ n=>by cases o <;> exact⟨rfl,rfl⟩
  have hd1:=P ut (.inl rfl)
  have b9:=P k (.inr rfl)
  have kk:(Jq ut).any (fun a=>(Jq k).any fun b=>Nat.beq a b)=false∧(Jq k).any (fun a=>(Jq ut).any fun b=>Nat.beq a b)=false:=by
   rcases q with⟨rfl,rfl,rfl⟩|⟨a,b,rfl,rfl⟩
   ·exact⟨rfl,rfl⟩
   ·have:=(j.nU a rfl).1
    have c5:a≠b:=fun e=>this (by rw[e])
    simp only[Jq,List.any_cons,List.any_nil,Bool.or_false]
    exact⟨Jn zO,Jn zO⟩
  have c4:∀m,s.nx≤m→(Jq ut).any (fun a=>Nat.beq a (2*m+1))=false:=fun m w=>by
   cases ut with
   | none=>rfl
   | some u=>
    have:=j.rL u (.inl rfl)
    simp only[Jq,List.any_cons,List.any_nil,Bool.or_false]
    exact Jn zO
  have c3:∀m,s.nx≤m→(Jq k).any (fun a=>Nat.beq a (2*m+1))=false:=fun m w=>by
   cases k with
   | none=>rfl
   | some u=>
    have:=j.rL u (.inr (.inl rfl))
    simp only[Jq,List.any_cons,List.any_nil,Bool.or_false]
    exact Jn zO
  have b7:(Jq ut).any (fun a=>Nat.beq a (2*p+1))=false∧(Jq k).any (fun a=>Nat.beq a (2*p+1))=false:=by
   rcases q with⟨rfl,rfl,rfl⟩|⟨a,b,rfl,rfl⟩
   ·exact⟨rfl,rfl⟩
   ·have X:=j.nG
    simp only[Jq,List.any_cons,List.any_nil,Bool.or_false]
    exact⟨Jn fun e=>X.1 (by rw[show a=p by omega]),Jn fun e=>X.2.1 (by rw[show b=p by omega])⟩
  refine⟨zO,by simp(disch:=first|(simp;done)|omega) [XA,jay,jaz,jb9,rdOb,rdTk,lOf,uOf,Delta.wo,Delta.wt,Q,T,b7],jw2 (by simp(disch:=first|(simp;done)|omega) [jsq,jpn,Wm,jud,jyo,jyp,jb9,rdOb,rdTk,j16,j17,Delta.wo,Delta.wt,Q,T,hd1,b9,kt,U,k1,k3,beqN]),?_⟩
  simp(disch:=first|(simp;done)|omega) [I,a0,F]
  rw[hJ]
  have B:∀m,s.nx≤m→¬ m=p:=fun m w=>by omega
  refine⟨zS,⟨some (s.nx+576),some (s.nx+1024),tu++[s.nx+448],K++[s.nx+896],j.node (a:=s.nx+448) (b:=s.nx+576) (c:=s.nx+896) (d:=s.nx+1024) ?_ ?_ ?_ ?_ ?_ (fun y X h2 h3 h4 h5=>?_) ⟨zO,zO,zO,zO,zL⟩,by simp[ht],by simp[hf],.inr ⟨_,_,rfl,rfl⟩⟩,zL,fun g v=>?_⟩
  ·simp(disch:=first|(simp;done)|omega) [slU,Nat.add_assoc]
  ·simp(disch:=first|(simp;done)|omega) [jT,jQ,B,U,Nat.add_assoc]
  ·simp(disch:=first|(simp;done)|omega) [jT,jQ,B,Nat.add_assoc]
  ·simp(disch:=first|(simp;done)|omega) [jT,jQ,B,kt,U,Nat.add_assoc,jio]
  ·simp(disch:=first|(simp;done)|omega) [jT,jQ,B,U,Nat.add_assoc,jio]
  ·have ny:∀m,s.nx≤m→¬ y=m:=fun m w=>by omega
   have q1:=H y h4
   have q2:=O y h5
   simp(disch:=first|(simp;done)|omega) [jT,jQ,ny,q1,q2,h3]
  ·have q1:=c1 g v
   have q2:=c0 g v
   have q3:=(v.up (show ub≤s.nx by omega)).ne
   have q4:¬ g=2*p+1:=v p b0.1
   simp(disch:=first|(simp;done)|omega) [jT,q1,q2,q3,q4]
   exact so g v
 ·have:i=n:=zO
  subst this
  simp(disch:=first|(simp;done)|omega) [I,N,s4]
  rcases q with⟨_,_,rfl⟩|⟨a,b,rfl,rfl⟩
  ·omega
  refine jn4 (by simp[sd]) ⟨p,a,b,none,tu,K,[],zS,j.keep (fun x _ _=>by simp) zL,ht,hf,zS,zL,fun g v=>by simpa using so g v⟩
end
section
variable {lo hi uG:Nat}{ut uf:Nat}{ue:Option Nat}{tu fu:List Nat}{WT WF:Nat→Nat}{T:List P2}{ob:ZO}{ub:Nat}
theorem jt8 (b:Gr lo hi uG (some ut) (some uf) ue tu fu WT WF T ob) (e:hi≤ub) (tk:Nat→Bool) (base:Nat):EvO E 248 [.ptr (2*uG+1) uG 0] ob tk base ub (.bool true):=by
 have a:=b.o
 have c:∀m,ub≤m→¬ uG=m:=fun m d=>by have:=b.rG;omega
 refine X6 (af:=S248) rfl ?_
 simp(disch:=first|(simp;done)|omega) [S248,j0,a]
 exact j3 zS zS rfl
theorem jn3 (c:Gr lo hi uG (some ut) (some uf) ue tu fu WT WF T ob) (d:hi≤ub) (a:Int) (tk:Nat→Bool) (base:Nat):EvO E 206 [.ptr (2*uG+1) uG 0,.int .i64 a] ob tk base ub (.bool (decide (0≤a) && decide (a<tu.length))):=by
 have b:=c.o
 have e:∀m,ub≤m→¬ uG=m:=fun m f=>by have:=c.rG;omega
 refine X6 (af:=S206) rfl ?_
 simp(disch:=first|(simp;done)|omega) [S206]
 refine js (vs:=[.ptr (2*uG+1) uG 0]) zS rfl rfl (jt8 (c.keep (fun x _ _=>by simp) d) zO _ _) ?_
 by_cases h:0≤a
 ·simp(disch:=first|(simp;done)|omega) [j0,b,slU,h]
  exact j3 zS zS rfl
 ·simp(disch:=first|(simp;done)|omega) [h]
  exact j3 zS zS rfl
theorem ji0 {l:List Nat}{i:Nat}(h:i<l.length):(l.flatMap ptC)[i]? = some (.ptr (2*l[i]+1) l[i] 0):=by
 have:=jW jg5 l h (by decide:0<1)
 rw[Nat.mul_one,Nat.add_zero]at this
 rw[this]
 rfl
theorem evo249 (c:Gr lo hi uG (some ut) (some uf) ue tu fu WT WF T ob) (v:hi≤ub) {a b:Nat}(d:a<tu.length) (s:b<64) (r:WT a<2 ^ 64) (tk:Nat→Bool) (base:Nat):EvO E 249 [.ptr (2*uG+1) uG 0,.int .i64 (a:Int),.int .i64 (b:Int)] ob tk base ub (.bool ((WT a).testBit b)):=by
 have f:=c.o
 have e:=c.t ut rfl
 have y:∀m,ub≤m→¬ uG=m:=fun m g=>by have:=c.rG;omega
 have z:∀m,ub≤m→¬ ut=m:=fun m g=>by have:=c.rL ut (.inl rfl);omega
 have h:=c.st a d
 have q:=c.rS tu[a] (.inl (List.getElem_mem d))
 have j:=ju4 (l:=2*ut+1) (u:=ut) (kk:=.i64) d
 have i:=ji0 d
 have p:((a:Int)<(tu.length:Int)):=zO
 refine X6 (af:=S249) rfl ?_
 simp(disch:=first|(simp;done)|omega) [S249]
 refine js (vs:=[.ptr (2*uG+1) uG 0,.int .i64 a]) zS rfl rfl (jn3 (c.keep (fun x _ _=>by simp) v) zO _ _ _) ?_
 simp(disch:=first|(simp;done)|omega) [j0,f,slU,d,e,j,i]
 refine js (vs:=[.ptr (2*tu[a]+1) tu[a] 0,.int .i64 b]) zS rfl rfl (jz4 (w:=WT a) (by simpa using h) (Off.new zO) s r _ _) ?_
 simp
 exact j3 zS zS rfl
end
section
variable {ub n k:Nat}{uG ut uf:Nat}{ue:Option Nat}{tu fu:List Nat}{WT WF:Nat→Nat}{T:List P2}{lo:Nat}{ob:ZO}
def GPut (lo:Nat) (ob:ZO) (ub uG ut uf:Nat) (tu fu:List Nat) (WT WF:Nat→Nat) (k:Nat) (r:V × (ZO) × (Nat→Bool) × Nat):Prop :=
 ∃bb ue T,r.1=.tup [.bool bb,.int .i64 0]∧Gr lo r.2.2.2 uG (some ut) (some uf) ue tu fu WT WF T r.2.1∧T.length≤k∧ub≤r.2.2.2∧∀key,Off lo key→r.2.1 key=ob key
theorem jzj {w b:Nat}(h:w.testBit b=true):w ||| 1 <<< b=w:=by
 refine Nat.eq_of_testBit_eq fun i=>?_
 rw[Nat.testBit_or,Nat.one_shiftLeft,Nat.testBit_two_pow]
 by_cases e:b=i
 ·subst e;simp[h]
 ·simp[e]
def Dual (n:Nat) (WT WF:Nat→Nat):Prop:=∀a b,a<n→b<n→(WT a).testBit b=(WF b).testBit a
theorem jls {F:Env}{Yf:YF}{q:Nat}{ue:Option Nat}{T:List P2}{p:P2}{s x:A}{st:St}{K:St→Nat→Prop}{d:Option Nat}(b:eval F st.tm s=slU ue T.length 2) (e:∀u,ue=some u→st.ob (2*u+1)=some ⟨u,.cells (T.flatMap edC)⟩∧st.ro≤u) (f:ue=none→T=[])
 (a:jI st.ob 2 (eval F st.tm x)=some (edC p)) (j:T.length≤1000000) (h:WW K st d q { v:=.osl (2*q+1) q 0 (T.length+1) 2,obs:=[(2*q+1,⟨q,.cells ((T++[p]).flatMap edC)⟩)],kill:=Jq ue }):j6 F Yf ⟨d,.append true 2 16 s x,none,true⟩ st q K:=by
 cases ue with
 | none=>
  have:=f rfl
  subst this
  refine X9 b a (by simp[edC]) zD rfl (by simp[edC]) (by simp[edC]) ?_
  simpa[edC,jH,Jq] using h
 | some u=>
  obtain⟨i,c⟩:=e u rfl
  have g:=j7 Y0 T
  refine YA (cs:=T.flatMap edC) b a i (by simp[edC]) c zO zD rfl (by simp[edC];omega) (by simp[edC];omega) ?_
  rw[List.take_of_length_le zO]
  simpa[edC,jH,Jq] using h
theorem jjs {ue:Option Nat}{x:Nat}(h:ue≠some x):(Jq ue).any (Nat.beq (2*x+1))=false:=by
 cases ue with
 | none=>rfl
 | some u=>
  simp only[Jq,List.any_cons,List.any_nil,Bool.or_false]
  exact Jn fun e=>h (by rw[show x=u by omega])
theorem js4 {ue:Option Nat}{key l:Nat}(h:∀u,ue=some u→l≤u) (a:Off l key):(Jq ue).any (Nat.beq key)=false:=by
 cases ue with
 | none=>rfl
 | some u=>
  simp only[Jq,List.any_cons,List.any_nil,Bool.or_false]
  exact Jn (a u (h u rfl))
theorem sv205 {Yf:YF}{tk:Nat→Bool}{ro base:Nat}(g:Gr lo ub uG (some ut) (some uf) ue tu fu WT WF T ob) (c2:ro≤lo) (L:tu.length=n) (hf:fu.length=n) (h9:n≤64) {a b:Nat}(Z:a<n) (hb:b<n) (b5:∀i,i<n→WT i<2 ^ n) (b9:∀i,i<n→WF i<2 ^ n) (hd:Dual n WT WF) (hT:T.length≤100000) :
 ∃r,EvS E Yf.y 205 [.ptr (2*uG+1) uG 0,.int .i64 (a:Int),.int .i64 (b:Int)] ob tk ro base ub r∧GPut lo ob ub uG ut uf tu fu (fun i=>if i=a then WT a ||| 1 <<< b else WT i) (fun i=>if i=b then WF b ||| 1 <<< a else WF i) (T.length+1) r:=by
 have hp:(2:Nat) ^ n≤2 ^ 64:=Nat.pow_le_pow_right zD h9
 have w1:WT a<2 ^ 64:=Nat.lt_of_lt_of_le (b5 a Z) hp
 have w2:WF b<2 ^ 64:=Nat.lt_of_lt_of_le (b9 b hb) hp
 have c1:=g.o
 have b7:=g.rG
 have nG:∀m,ub≤m→¬ uG=m:=fun m I=>by omega
 refine X2 (af:=S205) rfl zD ?_
 show wpC E Yf S205.body _ (XY S205.res _)
 simp(disch:=first|(simp;done)|omega) [S205]
 refine js (vs:=[.ptr (2*uG+1) uG 0]) zS rfl rfl (jt8 (g.keep (fun x _ _=>by simp) zR) zO _ _) ?_
 simp
 refine js (vs:=[.ptr (2*uG+1) uG 0,.int .i64 a]) zS rfl rfl (jn3 (g.keep (fun x _ _=>by simp) zR) zO _ _ _) ?_
 simp(disch:=first|(simp;done)|omega) [L,Z]
 refine js (vs:=[.ptr (2*uG+1) uG 0,.int .i64 b]) zS rfl rfl (jn3 (g.keep (fun x _ _=>by simp) zR) zO _ _ _) ?_
 simp(disch:=first|(simp;done)|omega) [L,hb]
 refine js (vs:=[.ptr (2*uG+1) uG 0,.int .i64 a,.int .i64 b]) zS rfl rfl (evo249 (g.keep (fun x _ _=>by simp) zR) zO zO zO w1 _ _) ?_
 cases hh:(WT a).testBit b
 ·have q:a<tu.length:=zO
  have B:b<fu.length:=zO
  have b6:=g.t ut rfl
  have nt:∀m,ub≤m→¬ ut=m:=fun m I=>by have:=g.rL ut (.inl rfl);omega
  have P:=ju4 (l:=2*ut+1) (u:=ut) (kk:=.i64) q
  have e2:=ji0 q
  have e3:=ju4 (l:=2*uf+1) (u:=uf) (kk:=.i64) B
  have e4:=ji0 B
  rw[L]at P
  rw[hf]at e3
  have a0:=g.rS tu[a] (.inl (List.getElem_mem q))
  have c0:=g.rS fu[b] (.inr (List.getElem_mem B))
  have hs:=g.st a q
  simp(disch:=first|(simp;done)|omega) [j0,c1,slU,b6,L,P,e2]
  refine jZ (vs:=[.ptr (2*tu[a]+1) tu[a] 0,.int .i64 b]) zS rfl (sv81 (w:=WT a) (by simpa using hs) (Off.new zL) (by simp;omega) zO w1) ?_
  rintro v1 N c5 j ⟨_,v,H⟩
  simp only at v H
  have q1:ub≤j:=by first|omega|(simp at H;omega)
  have s:Gr lo j uG (some ut) (some uf) ue tu fu (fun i=>if i=a then WT a ||| 1 <<< b else WT i) WF T N:=by
   refine g.putT q ?_ (fun x h1 h2 h3=>?_) q1
   ·have:=v (2*tu[a]+1) (Off.new zL)
    rwa [if_pos rfl]at this
   ·have:=v (2*x+1) (Off.new zL)
    rw[if_neg zO]at this
    simpa using this
  have b8:∀c,Off lo c→N c=ob c:=fun c h=>by
   have:=v c (h.up zL)
   rw[if_neg (h tu[a] a0.1)]at this
   simpa using this
  clear v H
  have D:=s.o
  have F:=s.f uf rfl
  have c3:∀m,j≤m→¬ uG=m:=fun m I=>by omega
  have c4:∀m,j≤m→¬ uf=m:=fun m I=>by have:=g.rL uf (.inr (.inl rfl));omega
  have M:=s.sf b B
  simp(disch:=first|(simp;done)|omega) [j0,D,slU,F,hf,e3,e4]
  refine jZ (vs:=[.ptr (2*fu[b]+1) fu[b] 0,.int .i64 a]) zS rfl (sv81 (w:=WF b) (by simpa using M) (Off.new zL) (by simp;omega) zO w2) ?_
  rintro v2 O c6 d ⟨_,v,H⟩
  simp only at v H
  have q2:j≤d:=by first|omega|(simp at H;omega)
  have J:Gr lo d uG (some ut) (some uf) ue tu fu (fun i=>if i=a then WT a ||| 1 <<< b else WT i) (fun i=>if i=b then WF b ||| 1 <<< a else WF i) T O:=by
   refine s.putF B ?_ (fun x h1 h2 h3=>?_) q2
   ·have:=v (2*fu[b]+1) (Off.new zL)
    rwa [if_pos rfl]at this
   ·have:=v (2*x+1) (Off.new zL)
    rw[if_neg zO]at this
    simpa using this
  have X:∀c,Off lo c→O c=ob c:=fun c h=>by
   have:=v c (h.up zL)
   rw[if_neg (h fu[b] c0.1)]at this
   rw[← b8 c h]
   simpa using this
  clear v H D F s M
  have G:=J.o
  have S:∀m,d≤m→¬ uG=m:=fun m I=>by omega
  simp(disch:=first|(simp;done)|omega) [j0,G,j5]
  refine Je (cs:=[.int .i64 (a:Int),.int .i64 (b:Int)]) (by simp[j5]) rfl rfl ?_
  simp
  refine jls (ue:=ue) (T:=T) (p:=((a:Int),(b:Int))) zS (fun u Q=>?_) g.z.2.2 (by simp[jI,j0,edC]) zO ?_
  ·have:=g.rL u (.inr (.inr Q))
   have nu:∀m,d≤m→¬ u=m:=fun m I=>by omega
   refine⟨?_,by simp;omega⟩
   simp(disch:=first|(simp;done)|omega) [jQ,nu,J.e u Q]
  have k1:=jjs (ue:=ue) g.nG.2.2
  simp(disch:=first|(simp;done)|omega) [jT,j0,G,jQ,S,j5,k1]
  have K:∀m,d≤m→¬ m=uG:=fun m I=>by omega
  refine⟨zO,jn4 zS ⟨true,some (d+576),T++[((a:Int),(b:Int))],zS,J.edge (x:=d+576) (p:=((a:Int),(b:Int))) ?_ ?_ (fun y h1 h2 h3 h4=>?_) zO zL,zS,zL,fun c h=>?_⟩⟩
  ·simp(disch:=first|(simp;done)|omega) [slU,Nat.add_assoc,L,hf]
  ·simp(disch:=first|(simp;done)|omega) [jT,jQ,K,Nat.add_assoc,slU]
  ·have ny:∀m,d≤m→¬ y=m:=fun m I=>by omega
   have U:=jjs h4
   simp(disch:=first|(simp;done)|omega) [jT,jQ,ny,U,h3]
  ·have U:=js4 (ue:=ue) (l:=lo) (fun u Q=>(g.rL u (.inr (.inr Q))).1) h
   have q3:=(h.up (show lo≤d by omega)).ne
   have q4:¬ c=2*uG+1:=h uG b7.1
   simp(disch:=first|(simp;done)|omega) [jT,U,q3,q4]
   exact X c h
 ·simp
  have b0:(WF b).testBit a=true:=by rw[← hd a b Z hb];exact hh
  have P:(fun i=>if i=a then WT a ||| 1 <<< b else WT i)=WT:=funext fun i=>by
   split
   ·rename_i e;rw[e,jzj hh]
   ·rfl
  have e2:(fun i=>if i=b then WF b ||| 1 <<< a else WF i)=WF:=funext fun i=>by
   split
   ·rename_i e;rw[e,jzj b0]
   ·rfl
  rw[P,e2]
  exact jn4 zS ⟨false,ue,T,zS,g.keep (fun x _ _=>by simp) zL,zO,zL,fun c h=>by simp⟩
end
def rowW (L:List P2) (a:Nat):Nat:=L.foldl (fun w z=>if z.1=(a:Int) then w ||| 1 <<< z.2.toNat else w) 0
def colW (L:List P2) (b:Nat):Nat:=L.foldl (fun w z=>if z.2=(b:Int) then w ||| 1 <<< z.1.toNat else w) 0
theorem jis (L:List P2) (z:P2) (a:Nat):rowW (L++[z]) a=if z.1=(a:Int) then rowW L a ||| 1 <<< z.2.toNat else rowW L a:=by simp[rowW]
theorem jj8 (L:List P2) (z:P2) (b:Nat):colW (L++[z]) b=if z.2=(b:Int) then colW L b ||| 1 <<< z.1.toNat else colW L b:=by simp[colW]
def InG (n:Nat) (L:List P2):Prop:=∀z∈L,∃a b:Nat,z=((a:Int),(b:Int))∧a<n∧b<n
theorem jc9 {n:Nat}(p:List P2→Nat→Nat) (f:∀a,p [] a=0) (q:P2→Int × Int) (j:∀L z a,p (L++[z]) a=if (q z).1=(a:Int) then p L a ||| 1 <<< (q z).2.toNat else p L a) (L:List P2) (l:∀z∈L,0≤(q z).2∧(q z).2<n) :
 ∀k,k≤L.length→∀a,p (L.take k) a<2 ^ n∧∀b,(p (L.take k) a).testBit b=(L.take k).any fun z=>decide ((q z).1=(a:Int)∧(q z).2=(b:Int))
 | 0,_,a=>by
  rw[List.take_zero,f]
  exact⟨Nat.two_pow_pos n,fun b=>by simp⟩
 | k+1,hk,a=>by
  obtain⟨g,i⟩:=jc9 p f q j L l k zO a
  have m:L[k]∈L:=List.getElem_mem zO
  obtain⟨o,r⟩:=l _ m
  rw[List.take_succ_eq_append_getElem zO,j]
  obtain⟨c,h⟩:=Int.eq_ofNat_of_zero_le o
  have d:c<n:=zO
  by_cases e:(q L[k]).1=(a:Int)
  ·rw[if_pos e,h]
   refine⟨Nat.or_lt_two_pow g (by rw[Int.toNat_natCast,Nat.one_shiftLeft];exact Nat.pow_lt_pow_right zD d),fun b=>?_⟩
   rw[Nat.testBit_or,i,List.any_append,Int.toNat_natCast,Nat.one_shiftLeft,Nat.testBit_two_pow]
   simp[e,h,Int.ofNat_inj]
  ·rw[if_neg e]
   refine⟨g,fun b=>?_⟩
   rw[i,List.any_append]
   simp[e]
theorem Ys {n:Nat}{L:List P2}(h:InG n L) (a:Nat):rowW L a<2 ^ n∧∀b:Nat,(rowW L a).testBit b=L.contains ((a:Int),(b:Int)):=by
 have:=jc9 (n:=n) rowW (fun _=>rfl) (fun z=>(z.1,z.2)) jis L (fun z e=>by obtain⟨c,d,rfl,_,f⟩:=h z e;simp;omega) L.length zR a
 rw[List.take_length]at this
 refine⟨this.1,fun b=>?_⟩
 rw[this.2,Bool.eq_iff_iff]
 simp[List.any_eq_true]
theorem jj7 {n:Nat}{L:List P2}(h:InG n L) (b:Nat):colW L b<2 ^ n∧∀a:Nat,(colW L b).testBit a=L.contains ((a:Int),(b:Int)):=by
 have:=jc9 (n:=n) colW (fun _=>rfl) (fun z=>(z.2,z.1)) jj8 L (fun z f=>by obtain⟨c,d,rfl,e,_⟩:=h z f;simp;omega) L.length zR b
 rw[List.take_length]at this
 refine⟨this.1,fun a=>?_⟩
 rw[this.2,Bool.eq_iff_iff]
 simp only[List.any_eq_true,decide_eq_true_eq,List.contains_iff_mem]
 constructor
 ·rintro⟨z,f,g,e⟩
  obtain⟨x,y⟩:=z
  simp only at g e
  subst g e
  exact f
 ·exact fun i=>⟨_,i,rfl,rfl⟩
theorem InG.take {n:Nat}{L:List P2}(h:InG n L) (k:Nat):InG n (L.take k):=fun z a=>h z (List.mem_of_mem_take a)
def EdA (lo:Nat) (ob:ZO) (v:V) (L:List P2):Prop :=
 (∃t nl,v=.sl t nl L.length (L.flatMap edC))∨∃k u,v=.osl k u 0 L.length 2∧ob k=some ⟨u,.cells (L.flatMap edC)⟩∧Off lo k
theorem EdA.len {lo:Nat}{ob:ZO}{v:V}{L:List P2}(h:EdA lo ob v L):QY v=some (.int .i64 (L.length:Nat)):=by
 rcases h with⟨t,a,rfl⟩|⟨k,u,rfl,_⟩ <;> rfl
theorem EdA.at {lo:Nat}{ob:ZO}{v:V}{L:List P2}(h:EdA lo ob v L) {i:Nat}(hi:i<L.length) :
 ∃p,JK 2 v (.int .i64 (i:Int))=some p∧∀a:ZO,(∀b,Off lo b→a b=ob b)→Yw a (some 2) p=some (.agg [.int .i64 L[i].1,.int .i64 L[i].2]):=by
 have f:=Xb Y0 L i hi
 have l:i*2+2≤(L.flatMap edC).length:=by rw[j7 Y0];omega
 have c:XQ (some 2) (L.flatMap edC) (i*2)=some (.agg [.int .i64 L[i].1,.int .i64 L[i].2]):=by
  simp only[XQ]
  rw[if_pos l,f]
  rfl
 rcases h with⟨t,g,rfl⟩|⟨k,u,rfl,d,e⟩
 ·refine⟨_,JQ Y0 t g L .i64 hi,fun a _=>?_⟩
  simpa[Yw] using c
 ·refine⟨_,idx0 hi,fun a j=>?_⟩
  have:j0 a k u=some (L.flatMap edC):=by simp[j0,j k e,d]
  simp only[Yw,this,Option.bind_some]
  exact c
theorem EdA.up {lo lo':Nat}{ob ob':ZO}{v:V}{L:List P2}(h:EdA lo ob v L) (e:∀a,Off lo a→ob' a=ob a) (c:lo≤lo'):EdA lo' ob' v L:=by
 rcases h with h|⟨k,u,d,f,b⟩
 ·exact .inl h
 ·exact .inr ⟨k,u,d,(e k b).trans f,b.up c⟩
section
variable {ub n:Nat}{ob:ZO}{L:List P2}{v:V}
theorem dual_W (h:InG n L):Dual n (rowW L) (colW L):=fun a b _ _=>by rw[(Ys h a).2,(jj7 h b).2]
theorem jrm:rowW []=fun _=>0:=rfl
theorem juh:colW []=fun _=>0:=rfl
theorem j49 {Yf:YF}{tk:Nat→Bool}{ro base:Nat}(b8:ro≤ub) (h1:0<n) (h9:n≤9) (hv:EdA ub ob v L) (N:InG n L) (hl:L.length≤10000) :
 ∃r,EvS E Yf.y 144 [.int .i64 (n:Int),v] ob tk ro base ub r∧PgR ob ub n (rowW L) (colW L) L.length r:=by
 have M:=hv.len
 refine X2 (af:=S144) rfl zD ?_
 show wpC E Yf S144.body _ (XY S144.res _)
 simp(disch:=first|(simp;done)|omega) [S144]
 refine jZ (vs:=[.int .i64 n]) zS rfl (sv204 (by simp;omega) h1 h9) ?_
 rintro v1 a0 b9 D ⟨uG,ut,uf,b0,tu,fu,T0,rfl,B,ht,hf,S,q1,w⟩
 simp only at B q1 w
 simp(disch:=first|(simp;done)|omega) [M]
 refine jj fun l g=>?_
 have c3:ub≤D:=by first|omega|(simp at q1;omega)
 have g6:l.tm 6=.ptr (2*uG+1) uG 0:=by rw[g];simp
 have g7:l.tm 7=.int .i64 0:=by rw[g];simp
 have b6:l.tm 20=v:=by rw[g];simp
 have b5:l.tm 21=.int .i64 L.length:=by rw[g];simp
 have I:l.tm 22=.int .i64 0:=by rw[g];simp
 have gd:l.df=[]:=by rw[g];simp
 have gr:l.ro=ro:=by rw[g];simp
 have gn:D≤l.nx:=by rw[g];first|omega|(simp;done)|(simp;omega)
 have go:l.ob=a0:=by rw[g];simp
 clear g
 obtain⟨J,X⟩:∃J:Nat→St→Prop,J=fun i s=>s.tm 22=.int .i64 i∧(∃ue T,Gr ub s.nx uG (some ut) (some uf) ue tu fu (rowW (L.take i)) (colW (L.take i)) T s.ob∧T.length≤i)∧ub≤s.nx∧∀c,Off ub c→s.ob c=ob c:=⟨_,rfl⟩
 have o:=B.wide (lo':=ub) zL
 refine j9 [(4,5),(9,11),(22,38)] L.length J rfl rfl ?_ ?_
 ·rw[X]
  refine⟨by simpa using I,⟨b0,T0,?_,S⟩,zO,fun c k=>?_⟩
  ·rw[List.take_zero,jrm,juh,go]
   exact o.keep (fun _ _ _=>rfl) zO
  ·rw[go]
   have:=w c (k.up zL)
   simpa using this
 clear I go gn B o w
 intro i s hi F f
 rw[X]at F
 obtain⟨u,⟨ue,T,Q,hT⟩,sn,O⟩:=F
 have s6:s.tm 6=.ptr (2*uG+1) uG 0:=by rw[f.t 6 zS,g6]
 have s7:s.tm 7=.int .i64 0:=by rw[f.t 7 zS,g7]
 have U:s.tm 20=v:=by rw[f.t 20 zS,b6]
 have K:s.tm 21=.int .i64 L.length:=by rw[f.t 21 zS,b5]
 have sd:s.df=[]:=by rw[f.d,gd]
 have sr:s.ro=ro:=by rw[f.r,gr]
 clear f
 by_cases h:i<L.length
 ·have P:=jh h zO
  obtain⟨p,Z,H⟩:=hv.at h
  obtain⟨a,b,hz,ha,hb⟩:=N _ (List.getElem_mem h)
  have G:L.take (i+1)=L.take i++[((a:Int),(b:Int))]:=by rw[List.take_succ_eq_append_getElem h,hz]
  rw[hz]at H
  simp(disch:=first|(simp;done)|omega) [u,K,U,h,Z]
  rw[H _ fun c k=>by simpa using O c k]
  simp(disch:=first|(simp;done)|omega) [s6,j0,j5]
  refine⟨by simp[sr];omega,?_⟩
  refine jZ (vs:=[.ptr (2*uG+1) uG 0,.int .i64 a,.int .i64 b]) zS rfl (sv205 (n:=n) (lo:=ub) (Q.keep (fun x _ _=>?_) ?_) ?_ ht hf zO ha hb (fun i _=>(Ys (N.take _) i).1) (fun i _=>(jj7 (N.take _) i).1) (dual_W (N.take _)) zO) ?_
  ·have:∀m,s.nx≤m→¬ x=m:=fun m hm=>by omega
   simp(disch:=first|(simp;done)|omega) [jQ,this]
  ·show _≤_
   first|omega|(simp;omega)
  ·first|omega|(simp[sr];omega)
  rintro v2 c4 c2 c0 ⟨bb,b7,T2,rfl,z,c1,q2,q⟩
  simp only at z q2 q
  simp(disch:=first|(simp;done)|omega) [u,P,h]
  rw[X]
  refine⟨zS,⟨b7,T2,?_,zO⟩,zL,fun c k=>?_⟩
  ·have e1:(fun j=>if j=a then rowW (L.take i) a ||| 1 <<< b else rowW (L.take i) j)=rowW (L.take (i+1)):=funext fun x=>by
    rw[G,jis]
    by_cases e:x=a
    ·subst e;simp
    ·rw[if_neg e,if_neg (by simp only;omega)]
   have e2:(fun j=>if j=b then colW (L.take i) b ||| 1 <<< a else colW (L.take i) j)=colW (L.take (i+1)):=funext fun x=>by
    rw[G,jj8]
    by_cases e:x=b
    ·subst e;simp
    ·rw[if_neg e,if_neg (by simp only;omega)]
   rw[e1,e2]at z
   exact z.keep (fun x _ _=>by simp) zL
  ·have:=q c k
   have hn:=k.up (show ub≤s.nx by omega)
   have:=hn.ne
   simp
   rw[q c k]
   simp(disch:=first|(simp;done)|omega) [this]
   exact O c k
 ·have:i=L.length:=zO
  subst this
  rw[List.take_length]at Q
  simp(disch:=first|(simp;done)|omega) [u,K,s6,s7]
  exact jn4 (by simp[sd]) ⟨uG,ut,uf,ue,tu,fu,T,zS,Q.keep (fun x _ _=>by simp) zL,ht,hf,hT,zL,fun c k=>by simpa using O c k⟩
end
section
variable {lo hi uG:Nat}{ut uf:Nat}{ue:Option Nat}{tu fu:List Nat}{WT WF:Nat→Nat}{T:List P2}{ob:ZO}{ub:Nat}
theorem evo208 (b:Gr lo hi uG (some ut) (some uf) ue tu fu WT WF T ob) (c:hi≤ub) (tk:Nat→Bool) (base:Nat):EvO E 208 [.ptr (2*uG+1) uG 0] ob tk base ub (.int .i64 tu.length):=by
 have a:=b.o
 have d:∀m,ub≤m→¬ uG=m:=fun m e=>by have:=b.rG;omega
 refine X6 (af:=S208) rfl ?_
 simp(disch:=first|(simp;done)|omega) [S208]
 refine js (vs:=[.ptr (2*uG+1) uG 0]) zS rfl rfl (jt8 (b.keep (fun x _ _=>by simp) c) zO _ _) ?_
 simp(disch:=first|(simp;done)|omega) [j0,a,slU]
 exact j3 zS zS rfl
theorem evo146 (b:Gr lo hi uG (some ut) (some uf) ue tu fu WT WF T ob) (z:hi≤ub) {a:Nat}(c:a<tu.length) (s:WT a<512) (tk:Nat→Bool) (base:Nat):∃v,EvO E 146 [.ptr (2*uG+1) uG 0,.int .i64 (a:Int)] ob tk base ub v∧j0e (ints (jd (WT a))) v:=by
 have e:=b.o
 have d:=b.t ut rfl
 have B:∀m,ub≤m→¬ uG=m:=fun m g=>by have:=b.rG;omega
 have D:∀m,ub≤m→¬ ut=m:=fun m g=>by have:=b.rL ut (.inl rfl);omega
 have i:=b.st a c
 have q:=b.rS tu[a] (.inl (List.getElem_mem c))
 have p:=ju4 (l:=2*ut+1) (u:=ut) (kk:=.i64) c
 have j:=ji0 c
 refine jh2 (af:=S146) rfl zD ?_
 simp(disch:=first|(simp;done)|omega) [S146]
 refine js (vs:=[.ptr (2*uG+1) uG 0,.int .i64 a]) zS rfl rfl (jn3 (b.keep (fun x _ _=>by simp) z) zO _ _ _) ?_
 simp(disch:=first|(simp;done)|omega) [j0,e,slU,c,d,p,j]
 obtain⟨nl,f⟩:=QC (ints (jd (WT a)))
 refine js (vs:=[.ptr (2*tu[a]+1) tu[a] 0]) zS rfl rfl (jt9 (w:=WT a) (by simpa using i) (Off.new zO) s _ _) ?_
 refine Xv f fun y add=>?_
 simp
 exact slE (t:=y) (nl:=nl) (k:=(ints (jd (WT a))).length) (cs:=(ints (jd (WT a))).flatMap intC) (fun r h=>⟨nl,h⟩) zS zS
end
end Go.Pv.T
