/- The read at a place. -/
import Derived.Test.YtphecmnehkdihaaGreatDoorSD
namespace Go.Pv.T
open Go Go.Pv
def opAt (h:Hist') (a b:Int):Option Op' :=
 if X6 h && (decide (0≤a) && (decide (a<h.ts.length) && (decide (0≤b) && decide (b<((h.ts.getD a.toNat ⟨0,0,true,[]⟩).ops.length:Nat))))) then (h.ts.getD a.toNat ⟨0,0,true,[]⟩).ops[b.toNat]? else none
def op0:Op':=⟨false,0,0,0⟩
theorem ev254 {h:Hist'} (hs:Small h) (a b:Int):Ev E 254 [.agg (j3 h),.agg (jG (a,b))] (.tup [.agg (opC ((opAt h a b).getD op0)),.bool ((opAt h a b).any fun o=>!o.w)]):=by
 have e70:=jnr hs
 have hts:=hs.ts
 refine jR (af:=F254) rfl ?_
 obtain ⟨R,hR⟩:∃ R,opAt h a b=R:=⟨_,rfl⟩
 rw [hR]
 unfold opAt at hR
 simp [F254,j3,j2,jG]
 generalize hK:jn5 E Xo (C.seq (C.draw _ _) _) (juu _ _)=K
 have hret:∀ s:St,juu [.cell 4 (some 4),.t 5] (.tup [.agg (opC (R.getD op0)),.bool (R.any fun o=>!o.w)]) .ret s→K .ret s:=fun s h=>by
  rw [← hK,jlj]
  exact h
 refine Jp e70 (by simp [j3]) rfl (by simp [j3]) ?_
 cases hm:X6 h
 ·rw [jao hm]
  rw [hm] at hR
  subst hR
  simp [j2,splice]
  exact hret _ (JD (by simp) (l:=[.agg (opC op0),.bool false]) (by simp [jn,j2,opC,op0]) rfl rfl)
 rw [hm] at hR
 rw [W5 hm]
 by_cases k1:a<0
 ·rw [if_neg (by simp;omega)] at hR
  subst hR
  simp [k1,j2,splice]
  exact hret _ (JD (by simp) (l:=[.agg (opC op0),.bool false]) (by simp [jn,j2,opC,op0]) rfl rfl)
 by_cases k2:(h.ts.length:Int)≤a
 ·rw [if_neg (by simp;omega)] at hR
  subst hR
  simp [k1,k2,j2,splice]
  exact hret _ (JD (by simp) (l:=[.agg (opC op0),.bool false]) (by simp [jn,j2,opC,op0]) rfl rfl)
 obtain ⟨i,rfl⟩:∃ i:Nat,a=i:=⟨a.toNat,by omega⟩
 have hi:i<h.ts.length:=by omega
 rw [Int.toNat_natCast,jr hi] at hR
 obtain ⟨t,ht⟩:∃ t,h.ts[i]=t:=⟨_,rfl⟩
 rw [ht] at hR
 have hos:=hs.os t (ht ▸ List.getElem_mem hi)
 have hl3:(h.ts.flatMap txnC)[i * 3+2]? = some (slOf t.nl opC t.ops):=by
  rw [je j9 h.ts hi (by decide:2<3),ht];rfl
 by_cases k3:b<0
 ·rw [if_neg (by simp;omega)] at hR
  subst hR
  simp [k1,k2,k3,j2,splice]
  exact hret _ (JD (by simp) (l:=[.agg (opC op0),.bool false]) (by simp [jn,j2,opC,op0]) rfl rfl)
 by_cases k4:(t.ops.length:Int)≤b
 ·rw [if_neg (by simp;omega)] at hR
  subst hR
  simp [k1,k2,k3,k4,j2,splice,hi,j7 j9,hl3]
  exact hret _ (JD (by simp) (l:=[.agg (opC op0),.bool false]) (by simp [jn,j2,opC,op0]) rfl rfl)
 obtain ⟨j,rfl⟩:∃ j:Nat,b=j:=⟨b.toNat,by omega⟩
 have hj:j<t.ops.length:=by omega
 rw [if_pos (by simp;omega),Int.toNat_natCast,List.getElem?_eq_getElem hj] at hR
 obtain ⟨o,ho⟩:∃ o,t.ops[j]=o:=⟨_,rfl⟩
 rw [ho] at hR
 subst hR
 have k4':¬ t.ops.length≤j:=by omega
 have k2':¬ h.ts.length≤i:=by omega
 have rest:∀ s:St,s.tm 2 = .ptr 4 0 0→s.tm 3 = .ptr 6 64 0→s.tm 4 = .ptr 8 128 0→s.ob 4=some ⟨0,.cells (j3 h)⟩→s.ob 6=some ⟨64,.cells [.int .i64 i,.int .i64 j]⟩→s.ob 8=some ⟨128,.cells [.bool false,.int .i64 0,.int .i64 0,.int .i64 0]⟩→s.df=[]→s.ro=0→s.fb=0→K .nrm s:=by
  intro s h2 h3 h4 o4 o6 o8 hd hr hf
  rw [← hK,jf8]
  simp [h2,h3,o4,o6,j2,j3,hi,j7 j9,hl3,hj,j7 jJ,ja jJ,ho,opC,splice,hf,hr]
  refine ⟨by simp [X5,Wv,jdr,jaz,rdOb,rdTk,lOf,Delta.wo,Delta.wt];try decide,?_⟩
  simp [h4,o8,j2,hr,splice]
  refine ⟨by simp [X5,Wv,jdr,jaz,rdOb,rdTk,lOf,Delta.wo,Delta.wt,h4];try decide,?_⟩
  exact JD (by simp [hd]) (l:=[.agg (opC o),.bool !o.w]) (by simp [jn,j2,opC,h4]) rfl (by simp [jxk,opC])
 clear hK
 simp [k1,k2,k3,k4,j2,hi,j7 j9,hl3]
 exact rest _ (by simp) (by simp) (by simp) (by simp [j3]) (by simp) (by simp) (by simp) (by simp) (by simp)
end Go.Pv.T

/- What others leave of a key. -/
namespace Go.Pv.T
open Go Go.Pv
def valV (v:Val'):V:=.agg (J9 v)
def XB (g:Hist') (key i:Int):Val':=(WP (XM g i).2 key).1
def JQ (g:Hist') (a key:Int) (W:List Int):List (Int × Val'):=(W.filter fun i=>!(i == a)).map fun i=>(i,XB g key i)
theorem Ya {p:Txn'→Bool} {ts:List Txn'}:∀ n,n≤ts.length→(∀ x∈numsTo p ts n,0≤x∧x<n)∧(numsTo p ts n).Pairwise (· < ·)
 | 0,_=>by simp [numsTo]
 | n+1,h=>by
  have ih:=Ya (p:=p) (ts:=ts) n (by omega)
  have e:=JC (p:=p) (show n<ts.length by omega)
  rw [e]
  cases hp:p ts[n]
  ·simp only [Bool.false_eq_true,if_false,List.append_nil]
   exact ⟨fun x hx=>by have:=ih.1 x hx;omega,ih.2⟩
  ·simp only [if_true]
   refine ⟨fun x hx=>?_,?_⟩
   ·rcases List.mem_append.1 hx with h | h
    ·have:=ih.1 x h;omega
    ·rw [List.mem_singleton] at h;omega
   ·rw [List.pairwise_append]
    refine ⟨ih.2,List.pairwise_singleton _ _,fun x hx y hy=>?_⟩
    rw [List.mem_singleton] at hy
    have:=ih.1 x hx
    omega
theorem jt3 {α:Type} {m:List (Int × α)} {k:Int} {a:α} (h:k ∉ m.map (·.1)):jam m k a=m++[(k,a)]:=by
 unfold jam
 rw [mfind_none.2 h]
theorem jft {g:Hist'} {a key:Int} {W:List Int} {i:Nat} (hi:i<W.length):JQ g a key (W.take (i+1))=JQ g a key (W.take i)++(if W[i]=a then [] else [(W[i],XB g key W[i])]):=by
 unfold JQ
 rw [List.take_succ_eq_append_getElem hi,List.filter_append,List.map_append]
 by_cases h:W[i]=a <;> simp [h]
theorem jhi {g:Hist'} {a key:Int} {W:List Int} (hW:W.Pairwise (· < ·)) {i:Nat} (hi:i<W.length):W[i] ∉ (JQ g a key (W.take i)).map (·.1):=by
 intro h
 unfold JQ at h
 rw [List.map_map] at h
 obtain ⟨x,hx,he⟩:=List.mem_map.1 h
 have hx':=(List.mem_filter.1 hx).1
 simp only [Function.comp] at he
 obtain ⟨j,hj,rfl⟩:=List.getElem_of_mem hx'
 rw [List.length_take] at hj
 rw [List.getElem_take] at he
 have:=List.pairwise_iff_getElem.1 hW j i (by omega) hi (by omega)
 omega
def OthR (g:Hist') (a key:Int) (W:List Int) (ob:Nat→Option Obj') (ub:Nat) (r:V × (Nat→Option Obj') × (Nat→Bool) × Nat):Prop :=
 ∃ M U ver:Nat,r.1 = .map (2 * M+1) U∧ub≤M∧M<r.2.2.2∧ub≤U∧r.2.1 (2 * M+1)=some ⟨U,.mp ver (MP valV (JQ g a key W))⟩∧(∀ k,(∀ m,ub≤m→k≠2 * m+1)→r.2.1 k=ob k)∧ub≤r.2.2.2
theorem sv255 {Yf:YF} {g:Hist'} (hs:Small g) (hm:X6 g=true) (a key:Int) {ob:Nat→Option Obj'} {tk:Nat→Bool} {ro base ub:Nat} (hru:ro≤ub) :
 ∃ r,EvS E Yf.y 255 [.agg (j3 g),.int .i64 a,.int .i64 key] ob tk ro base ub r∧OthR g a key (writersH g key) ob ub r:=by
 refine YK (af:=S255) rfl (by decide) ?_
 show wpC E Yf S255.body _ (YQ S255.res _)
 obtain ⟨vw,e72,hv⟩:=ev281 hs hm key
 obtain ⟨W,hW⟩:∃ W,writersH g key=W:=⟨_,rfl⟩
 have hWl:W.length≤1000:=by have h1:=J8 (wrB key) g.ts g.ts.length;have h2:=hs.ts;rw [← hW];unfold writersH;omega
 have hWp:W.Pairwise (· < ·):=by rw [← hW];exact (Ya _ (Nat.le_refl _)).2
 rw [hW] at hv ⊢
 have n1:¬ 2 * ub=2 * (ub+64+64):=by omega
 have n2:¬ 2 * (ub+64+64)=2 * ub:=by omega
 simp [S255,j3,j2,n1]
 refine jL e72 (by simp [j3]) rfl (by simp [j3]) ?_
 obtain ⟨nl,hv⟩:=hv
 obtain ⟨t,add,hret⟩:=jjc (ub:=ub+64+64+64+64+64+64) hv
 rw [hret]
 simp
 refine jz fun st hst=>?_
 obtain ⟨M,hM⟩:∃ M,M=ub+64+64:=⟨_,rfl⟩
 have g1:st.tm 1 = .int .i64 a:=by rw [hst];simp
 have g2:st.tm 2 = .int .i64 key:=by rw [hst];simp
 have g3:st.tm 3 = .ptr (2 * ub+1) ub 0:=by rw [hst];simp
 have g7:st.tm 7 = .map (2 * M+1) M:=by rw [hst,hM];simp
 have g13:st.tm 13 = .sl t nl W.length (W.flatMap intC):=by rw [hst];simp
 have g14:st.tm 14 = .int .i64 W.length:=by rw [hst];simp
 have g15:st.tm 15 = .int .i64 0:=by rw [hst];simp
 have gd:st.df=[]:=by rw [hst];simp
 have gr:st.ro=ro:=by rw [hst];simp
 have gn:M<st.nx:=by rw [hst,hM];simp
 have ph:st.ob (2 * ub+1)=some ⟨ub,.cells (j3 g)⟩:=by rw [hst];simp [n1,j3]
 have pm:st.ob (2 * M+1)=some ⟨M,.mp 0 []⟩:=by rw [hst,hM];simp
 have pf:∀ k,(∀ m,ub≤m→k≠2 * m+1)→st.ob k=ob k:=by
  intro k hk
  have h1:=hk ub (by omega)
  have h2:=hk (ub+64+64) (by omega)
  rw [hst];simp [h1,h2]
 clear hst hret
 have hMu:ub<M:=by omega
 clear hM n1 n2
 refine jB [(9,9),(15,31)] W.length (fun i s=>s.tm 15 = .int .i64 i∧M<s.nx∧s.ob (2 * ub+1)=some ⟨ub,.cells (j3 g)⟩∧(∀ k,(∀ m,ub≤m→k≠2 * m+1)→s.ob k=ob k)∧∃ ver,s.ob (2 * M+1)=some ⟨M,.mp ver (MP valV (JQ g a key (W.take i)))⟩) rfl rfl
  ⟨by simp [g15],gn,ph,pf,0,by simp [pm,JQ,MP]⟩ ?_
 rintro i s hi ⟨h15,hn,oh,of,ver,om⟩ f
 have f1:s.tm 1 = .int .i64 a:=by rw [f.t 1 (by simp),g1]
 have f2:s.tm 2 = .int .i64 key:=by rw [f.t 2 (by simp),g2]
 have f3:s.tm 3 = .ptr (2 * ub+1) ub 0:=by rw [f.t 3 (by simp),g3]
 have f7:s.tm 7 = .map (2 * M+1) M:=by rw [f.t 7 (by simp),g7]
 have f13:s.tm 13 = .sl t nl W.length (W.flatMap intC):=by rw [f.t 13 (by simp),g13]
 have f14:s.tm 14 = .int .i64 W.length:=by rw [f.t 14 (by simp),g14]
 have fd:s.df=[]:=by rw [f.d,gd]
 have fr:s.ro=ro:=by rw [f.r,gr]
 clear f
 by_cases hlt:i<W.length
 ·have hw:=jl hlt (by omega)
  obtain ⟨x,hx⟩:∃ x,W[i]=x:=⟨_,rfl⟩
  have hI:JH 1 (.sl t nl W.length (W.flatMap intC)) (.int .i64 (i:Int))=some (.eptr (W.flatMap intC) i):=by
   simp [JH,hlt,jA jD]
  have hLd:∀ ob,QH ob none (.eptr (W.flatMap intC) i)=some (.int .i64 x):=fun ob=>by
   have h:=je jD W hlt (by decide:0<1)
   rw [hx,Nat.mul_one,Nat.add_zero] at h
   rw [jat]
   simpa [Y1,intC] using h
  have hsn:=jft (g:=g) (a:=a) (key:=key) hlt
  have hnw:=jhi (g:=g) (a:=a) (key:=key) hWp hlt
  rw [hx] at hsn hnw
  by_cases hxa:x=a
  ·rw [if_pos hxa,List.append_nil] at hsn
   subst hxa
   simp [h15,f13,f14,hlt,hI,hLd,f1,hw]
   exact ⟨by omega,oh,of,ver,by rw [hsn];exact om⟩
  ·rw [if_neg hxa] at hsn
   have hxa':(x != a)=true:=by simpa using hxa
   have e116:=j62 hs x key
   simp [h15,f13,f14,hlt,hI,hLd,f1,hxa',f2,f3,oh,j2,f7,j3]
   refine jL e116 (by simp [j3]) rfl (by simp [j3]) ?_
   rw [JB (by simp [V.plain,J9])]
   have hlv:valV (WP (XM g x).2 key).1=valV (XB g key x):=rfl
   simp
   refine Yc (f:=valV) (a:=XB g key x) (ver:=ver) (l:=2 * M+1) (u:=M) (k:=x) (JQ g a key (W.take i)) (by simp) (by simp) (by simp [valV,XB,J9]) (by simpa using om) (by simp [fr];omega) ?_
   rw [jt3 hnw,← hsn]
   have nM:¬ 2 * ub+1=2 * M+1:=by omega
   have nM':¬ 2 * ub=2 * M:=by omega
   simp [h15,hw,nM',oh,j3]
   refine ⟨hlt,by omega,fun k hk=>?_⟩
   have:=hk M (by omega)
   rw [if_neg this]
   exact of k hk
 ·have:i=W.length:=by omega
  subst this
  rw [List.take_length] at om
  simp [h15,f14,f7]
  exact Qt (by simp [fd]) ⟨M,M,ver,by simp,by omega,by simp;omega,by omega,by simpa using om,by simpa using of,by simp;omega⟩
end Go.Pv.T

/- Ranges over maps; slices of ints that grow. -/
namespace Go.Pv.T
open Go Go.Pv
section
variable {E:Env} {Yf:YF} {st:St} {ub:Nat} {K:St→Nat→Prop} {d:Option Nat} {nm:Bool}
theorem jjx {x:A} {l u ver:Nat} {es:List (V × V)} (hx:eval E st.tm x = .map l u) (ho:st.ob l=some ⟨u,.mp ver es⟩)
 (h:QM K st d ub { v:=.iter (jO d nm st.fb ub) ub,obs:=[(jO d nm st.fb ub,⟨ub,.miter l u ver es none⟩)] }):j8 E Yf ⟨d,.range false x,none,nm⟩ st ub K:=by
 rw [jS _ rfl rfl]
 have h1:jd st.ob l u=some es:=by simp [jd,ho]
 have h2:J5 st.ob l=ver:=by simp [J5,ho]
 simp only [aop,hx,h1,h2,Option.bind_some,JR,jP,X9]
 exact h
theorem jhf {l u l' u' ver:Nat} {δ:Delta}:∀ {es pre:List (V × V)},δ∈jhg l u l' u' ver pre es→∃ a k v b,es=a++(k,v)::b∧δ = { v:=.tup [.bool true,k,v],obs:=[(l,⟨u,.miter l' u' ver (pre++a++b) (some (k,v))⟩)] }
 | [],_,h=>by simp [jhg] at h
 | (k,v)::r,pre,h=>by
  rw [jhg,List.mem_cons] at h
  rcases h with h | h
  ·exact ⟨[],k,v,r,rfl,by rw [h];simp⟩
  ·obtain ⟨a,k',v',b,e,hd⟩:=jhf h
   exact ⟨(k,v)::a,k',v',b,by rw [e];rfl,by rw [hd];simp⟩
theorem jne {x:A} {l u l' u' ver:Nat} {left es:List (V × V)} {last:Option (V × V)} (hx:eval E st.tm x = .iter l u) (ho:st.ob l=some ⟨u,.miter l' u' ver left last⟩) (hm:st.ob l'=some ⟨u',.mp ver es⟩) (hro:st.ro≤u)
 (h0:left=[]→Q2 K st d ub (.tup [.bool false]))
 (h1:∀ a k v b,left=a++(k,v)::b→QM K st d ub { v:=.tup [.bool true,k,v],obs:=[(l,⟨u,.miter l' u' ver (a++b) (some (k,v))⟩)] }):j8 E Yf ⟨d,.nextMap x,none,nm⟩ st ub K:=by
 have e1:(jd st.ob l' u').isSome=true:=by simp [jd,hm]
 have e2:J5 st.ob l'=ver:=by simp [J5,hm]
 simp only [j8,wanted,jg,jF]
 cases left with
 | nil =>
  refine ⟨[{ v:=.tup [.bool false] }],?_,?_⟩
  ·simp only [jfx,hx,ho]
   rw [if_pos ⟨Nat.ble_eq ▸ hro,trivial,e1,e2⟩]
  ·intro δ hδ
   rw [List.mem_singleton] at hδ
   subst hδ
   have:=h0 rfl
   rw [Wx]
   exact this
 | cons p r =>
  refine ⟨jhg l u l' u' ver [] (p::r),?_,?_⟩
  ·simp only [jfx,hx,ho]
   rw [if_pos ⟨Nat.ble_eq ▸ hro,trivial,e1,e2⟩]
  ·intro δ hδ
   obtain ⟨a,k,v,b,e,hd⟩:=jhf hδ
   subst hd
   exact h1 a k v b e
theorem jul {x:A} {l u l' u' ver:Nat} {left es:List (V × V)} {k v:V} (hx:eval E st.tm x = .iter l u) (ho:st.ob l=some ⟨u,.miter l' u' ver left (some (k,v))⟩) (hm:st.ob l'=some ⟨u',.mp ver es⟩)
 (h:Q2 K st d ub (.tup [k,v])):j8 E Yf ⟨d,.entry x,none,nm⟩ st ub K:=by
 have e1:(jd st.ob l' u').isSome=true:=by simp [jd,hm]
 have e2:J5 st.ob l'=ver:=by simp [J5,hm]
 rw [jS _ rfl rfl]
 simp only [aop,hx,ho]
 rw [if_pos ⟨trivial,e1,e2⟩,Yn,Wx]
 exact h
end
def IntsO (ob:Nat→Option Obj') (p:Nat→Prop) (l:List Int) (v:V):Prop :=
 (l=[]∧v = .sl none true 0 [])∨(l≠[]∧∃ u,v = .osl (2 * u+1) u 0 l.length 1∧ob (2 * u+1)=some ⟨u,.cells (l.flatMap intC)⟩∧p u)
theorem IntsO.frame {ob ob':Nat→Option Obj'} {p p':Nat→Prop} {l:List Int} {v:V} (h:IntsO ob p l v) (hf:∀ u,p u→ob' (2 * u+1)=ob (2 * u+1)) (hh:∀ u,p u→p' u):IntsO ob' p' l v:=by
 rcases h with h | ⟨h1,u,h2,h3,h4⟩
 ·exact Or.inl h
 ·exact Or.inr ⟨h1,u,h2,(hf u h4).trans h3,hh u h4⟩
theorem jry (st:St) (d:Option Nat) (v:V) (l:Nat) (o:Obj') (kl:List Nat) (k:Nat):(st.app d { v:=v,obs:=[(l,o)],kill:=kl }).ob k=if k=l then some o else if kl.any (Nat.beq k) then none else st.ob k:=by
 simp [St.app,JJ,j6]
theorem Qy (st:St) (d:Option Nat) (v:V) (l:Nat) (o:Obj') (kl:List Nat) (k:Nat) (h:k ∉ kl):(st.app d { v:=v,obs:=[(l,o)],kill:=kl }).ob k=if k=l then some o else st.ob k:=by
 rw [jry]
 have:(kl.any (Nat.beq k))=false:=by
  rw [List.any_eq_false]
  intro x hx hb
  exact h (Nat.eq_of_beq_eq_true hb ▸ hx)
 rw [this]
 rfl
theorem jae (st:St) (k:Nat):∀ l:List Int,(l.flatMap intC).mapM (JF st (k+1))=some (l.flatMap intC)
 | []=>rfl
 | a::l=>by
  show ((V.int .i64 a)::l.flatMap intC).mapM _=_
  rw [List.mapM_cons,jae st k l]
  rfl
def Wu (T:List Int):V:=if T.isEmpty then .sl none true 0 [] else .sl (some (0,1)) false T.length (T.flatMap intC)
theorem Qm {st:St} {p:Nat→Prop} {n:Nat} {T:List Int} {v:V} (hd:st.df=[]) (hv:st.tm n=v) (h:IntsO st.ob p T v) (hro:∀ u,p u→st.ro≤u):juu [.t n] (Wu T) .ret st:=by
 show QN [.t n] (.ret,st)=some (Wu T)
 rcases h with ⟨rfl,rfl⟩ | ⟨hne,u,rfl,hob,hp⟩
 ·exact j4 hd (by rw [hv];rfl) rfl
 ·have hoc:j2 st.ob (2 * u+1) u=some (T.flatMap intC):=by simp [j2,hob]
  have hlen:(T.flatMap intC).length=T.length:=by rw [jA jD];omega
  have hemp:T.isEmpty=false:=by cases T with | nil=>exact absurd rfl hne | cons=>rfl
  have hpos:0<T.length:=List.length_pos_iff.2 hne
  have hs:JF st 6 (.osl (2 * u+1) u 0 T.length 1)=some (.sl none false T.length (T.flatMap intC)):=by
   show ((j2 st.ob (2 * u+1) u).bind fun cs=>if Nat.ble st.ro u=true∧0+T.length * 1≤cs.length then (((cs.drop 0).take (T.length * 1)).mapM (JF st 5)).map fun cs'=>V.sl none false T.length cs' else none)=_
   rw [hoc,Option.bind_some]
   rw [if_pos ⟨Nat.ble_eq ▸ hro u hp,by omega⟩]
   rw [List.drop_zero,Nat.mul_one,List.take_of_length_le (by omega),jae]
   rfl
  have ho:jh st true 0 (.osl (2 * u+1) u 0 T.length 1)=some (.sl (some (0,1)) false T.length (T.flatMap intC)):=by
   simp only [jh,hs,Option.bind_some,hoc,Option.map_some]
   have hb:(true && Nat.beq 0 0 && Nat.blt 0 T.length && Nat.beq (T.length * 1) (T.flatMap intC).length)=true:=by
    rw [hlen,Nat.mul_one,Nat.beq_refl,Nat.beq_refl]
    simp
    exact hpos
   rw [hb]
   rfl
  have hto:X8 st true 0 (.osl (2 * u+1) u 0 T.length 1)=some (.sl (some (0,1)) false T.length (T.flatMap intC)):=ho
  have hr:[ARes.t n].mapM (jn st)=some [.osl (2 * u+1) u 0 T.length 1]:=by simp [jn,hv]
  simp only [QN,Y6 hd,Y2 hd,if_true,hr,Option.bind_some,YG]
  have hn:nodup ([V.osl (2 * u+1) u 0 T.length 1].flatMap V.toks)=true:=rfl
  rw [hn]
  simp only [J6,hto,Option.bind_some,Option.map_some]
  rw [Wu,hemp]
  rfl
theorem jav {E:Env} {Yf:YF} {st:St} {ub:Nat} {K:St→Nat→Prop} {d:Option Nat} {p:Nat→Prop} {l:List Int} {z:Int} {v:V} {s x:A} {X uX:Nat} (hs:eval E st.tm s=v) (hv:IntsO st.ob p l v) (hx:eval E st.tm x = .osl X uX 0 1 1) (hX:st.ob X=some ⟨uX,.cells [.int .i64 z]⟩) (hro:∀ u,p u→st.ro≤u) (hl:l.length≤1000)
 (h:∀ kl:List Nat,(∀ k∈kl,∃ u,p u∧k=2 * u+1)→QM K st d ub { v:=.osl (2 * ub+1) ub 0 (l++[z]).length 1,obs:=[(2 * ub+1,⟨ub,.cells ((l++[z]).flatMap intC)⟩)],kill:=kl }) :
 j8 E Yf ⟨d,.append true 1 8 s x,none,true⟩ st ub K:=by
 have hsc:jM st.ob 1 (eval E st.tm x)=some [.int .i64 z]:=by
  rw [hx]
  simp [jM,j2,hX]
 rcases hv with ⟨rfl,rfl⟩ | ⟨hne,u,rfl,hob,hp⟩
 ·refine Q3 hs hsc (by simp) (by decide) rfl (by simp) (by simp) ?_
  simpa [intC,jO] using h [] (by simp)
 ·have hlen:(l.flatMap intC).length=l.length:=by rw [jA jD];omega
  refine Wj (cs:=l.flatMap intC) hs hsc hob (by simp) (hro u hp) (by omega) (by decide) rfl (by simp;omega) (by simp;omega) ?_
  have:=h [2 * u+1] (by simp;exact ⟨u,hp,rfl⟩)
  rw [Nat.mul_one,List.take_of_length_le (by omega)]
  simpa [intC,jO] using this
end Go.Pv.T

/- Who may have written what is read: the program's walk. -/
namespace Go.Pv.T
open Go Go.Pv
def Ww (o:Op') (v:Val'):Bool:=o.v.kind == 2 || (v.kind == o.v.kind && v.n == o.v.n)
def jq (o:Op'):List Int:=if o.v.kind=1 then [] else [-1]
def ofL (g:Hist') (a:Int) (o:Op'):List Int:=jq o++(writersH g o.key).filter fun i=>!(i == a) && Ww o (XB g o.key i)
def ofH (g:Hist') (a b:Int):List Int:=match opAt g a b with
 | some o=>if o.w then [] else ofL g a o
 | none=>[]
theorem jma (g:Hist') (k:Int):(writersH g k).Pairwise (· < ·)∧∀ x∈writersH g k,0≤x:=by
 have:=Ya (p:=wrB k) (ts:=g.ts) g.ts.length (Nat.le_refl _)
 exact ⟨this.2,fun x hx=>(this.1 x hx).1⟩
theorem jm6 (g:Hist') (a:Int) (o:Op'):(ofL g a o).Pairwise (·≤·):=by
 have h:=jma g o.key
 unfold ofL jq
 rw [List.pairwise_append]
 refine ⟨?_,?_,?_⟩
 ·split <;> simp
 ·exact ((h.1.imp (fun h=>Int.le_of_lt h)).filter _)
 ·intro x hx y hy
  have hy':=h.2 y (List.mem_filter.1 hy).1
  split at hx
  ·cases hx
  ·rw [List.mem_singleton] at hx;omega
theorem jb3 (g:Hist') (k:Int):(writersH g k).length≤g.ts.length:=by
 unfold writersH
 exact J8 (wrB k) g.ts g.ts.length
theorem jyt {g:Hist'} (hm:g.ts.length≤40) (a:Int) (o:Op'):(ofL g a o).length≤41:=by
 unfold ofL jq
 rw [List.length_append]
 have h1:=List.length_filter_le (fun i=>!(i == a) && Ww o (XB g o.key i)) (writersH g o.key)
 have h2:=jb3 g o.key
 split <;> simp <;> omega
theorem jqe {g:Hist'} (hm:X6 g=true):g.ts.length≤40:=by
 unfold X6 Xf at hm
 simp only [Bool.and_eq_true,decide_eq_true_eq] at hm
 exact hm.1.2.2.2.2
def XZ (o:Op') (P:List (Int × Val')):List Int:=(P.filter fun p=>Ww o p.2).map (·.1)
theorem jji {g:Hist'} {a:Int} {o:Op'} {P:List (Int × Val')} (h:P.Perm (JQ g a o.key (writersH g o.key))):(jq o++XZ o P).Perm (ofL g a o):=by
 unfold ofL
 refine List.Perm.append_left _ ?_
 have h2:(XZ o P).Perm (XZ o (JQ g a o.key (writersH g o.key))):=(h.filter _).map _
 refine h2.trans ?_
 have e:XZ o (JQ g a o.key (writersH g o.key))=(writersH g o.key).filter fun i=>!(i == a) && Ww o (XB g o.key i):=by
  unfold XZ JQ
  rw [List.filter_map,List.map_map,List.filter_filter]
  have:((fun x:Int × Val'=>x.1) ∘ fun i=>(i,XB g o.key i))=id:=rfl
  rw [this,List.map_id]
  congr 1
  funext i
  simp only [Function.comp,Bool.and_comm]
 rw [e]
theorem jv1 {m:List (Int × Val')} {A B:List (V × V)} {k v:V} (h:MP valV m=A++(k,v)::B):∃ A' p B',m=A'++p::B'∧A=MP valV A'∧B=MP valV B'∧k = .int .i64 p.1∧v=valV p.2:=by
 unfold MP at h
 obtain ⟨A',C,e1,e2,e3⟩:=List.map_eq_append_iff.1 h
 obtain ⟨p,B',e4,e5,e6⟩:=List.map_eq_cons_iff.1 e3
 subst e4
 have:=Prod.mk.inj e5
 exact ⟨A',p,B',e1,e2.symm,e6.symm,this.1.symm,this.2.symm⟩
theorem jw6 (a b:List (Int × Val')):MP valV a++MP valV b=MP valV (a++b):=by simp [MP]
theorem jwm {x:Nat} (h:640≤x):¬ 2 * x=1152:=by omega
theorem ev217 {g:Hist'} (hs:Small g) (a b:Int):Ev E 217 [.agg (j3 g),.agg (jG (a,b))] (Wu (ofH g a b)):=by
 have e74:=ev254 hs a b
 refine jR (af:=F217) rfl ?_
 unfold ofH
 cases hop:opAt g a b with
 | none =>
  rw [hop] at e74
  simp [F217,j3,j2,jG]
  refine jL e74 (by simp [j3,jG]) rfl (by simp [j3,jG]) ?_
  rw [JB (by simp [V.plain,opC])]
  simp [splice,opC,op0,j2]
  exact Qm (p:=fun _=>True) (by simp) rfl (Or.inl ⟨rfl,by simp⟩) (by simp)
 | some o =>
  rw [hop] at e74
  simp only [Option.getD_some,Option.any_some] at e74
  have hmay:X6 g=true:=by
   unfold opAt at hop
   cases hm:X6 g
   ·rw [hm] at hop;cases hop
   ·rfl
  have hts:=jqe hmay
  simp [F217,j3,j2,jG]
  refine jL e74 (by simp [j3,jG]) rfl (by simp [j3,jG]) ?_
  rw [JB (by simp [V.plain,opC])]
  cases hw:o.w
  ·simp [splice,opC,j2]
   generalize hK:jn5 E Xo _ (juu _ _)=K
   have rest:∀ (s:St) (v:V),s.tm 2 = .ptr 1 0 0→s.tm 3 = .ptr 129 64 0→s.tm 5 = .ptr 1153 576 0→s.ob 1=some ⟨0,.cells (j3 g)⟩→s.ob 129=some ⟨64,.cells [.int .i64 a,.int .i64 b]⟩→s.ob 1153=some ⟨576,.cells (opC o)⟩ →
    s.tm 7=v→IntsO s.ob (fun u=>640≤u∧u<s.nx) (jq o) v→s.df=[]→s.ro=0→640≤s.nx→K .nrm s:=by
    intro s v h2 h3 h5 o1 o3 o5 h7 hv hd hr hn
    rw [← hK]
    clear hK
    simp [h2,h3,h5,o1,o3,o5,j2,opC,j3]
    refine JS (vs:=[.agg (j3 g),.int .i64 a,.int .i64 o.key]) (by simp [j3]) rfl (sv255 hs hmay a o.key (by simp [hr])) ?_
    rintro w ob1 tk1 ub1 ⟨M,U,ver,e1,e2,e3,e4,e5,e6,e7⟩
    simp only at e1 e3 e5 e6 e7
    subst e1
    simp
    refine jjx (l:=2 * M+1) (u:=U) (ver:=ver) (by simp) (by simpa using e5) ?_
    simp
    refine jz fun st hst=>?_
    have hub0:640≤ub1:=by first | omega | (simp at e7;omega)
    have hM0:640≤M:=by first | omega | (simp at e2;omega)
    obtain ⟨OTH,hOTH⟩:∃ l,JQ g a o.key (writersH g o.key)=l:=⟨_,rfl⟩
    rw [hOTH] at e5 hst
    have hfr:∀ k,(∀ m,s.nx≤m→k≠2 * m+1)→ob1 k=s.ob k:=fun k hk=>(e6 k (fun m hm=>hk m (by first | omega | (simp at hm;omega)))).trans (by simp)
    have hMs:s.nx≤M:=by first | omega | (simp at e2;omega)
    have g5:st.tm 5 = .ptr 1153 576 0:=by rw [hst];simp [h5]
    have g7:st.tm 7=v:=by rw [hst];simp [h7]
    have g31:st.tm 31 = .iter (2 * ub1+1) ub1:=by rw [hst];simp
    have gd:st.df=[]:=by rw [hst];simp [hd]
    have gr:st.ro=0:=by rw [hst];simp [hr]
    have gn:ub1<st.nx:=by rw [hst];simp
    have gf:∀ k,k≠2 * ub1+1→st.ob k=ob1 k:=by
     intro k hk
     rw [hst];simp [hk]
    have pi:st.ob (2 * ub1+1)=some ⟨ub1,.miter (2 * M+1) U ver (MP valV OTH) none⟩:=by rw [hst];simp
    have pm:st.ob (2 * M+1)=some ⟨U,.mp ver (MP valV OTH)⟩:=(gf _ (by omega)).trans e5
    have p5:st.ob 1153=some ⟨576,.cells (opC o)⟩:=(gf _ (by omega)).trans ((hfr _ (fun m hm=>by omega)).trans o5)
    have pv:IntsO st.ob (fun u=>640≤u∧u≠M∧u≠ub1∧u<st.nx) (jq o++XZ o []) v:=by
     rw [show XZ o []=[] from rfl,List.append_nil]
     refine hv.frame (fun u hu=>?_) (fun u hu=>⟨hu.1,by omega,by first | omega | (simp at e7;omega),by first | omega | (simp at e7;omega)⟩)
     exact (gf _ (by first | omega | (simp at e7;omega))).trans (hfr _ (fun m hm=>by omega))
    clear hst e6 e5 hfr
    obtain ⟨J,hJ⟩:∃ J:Nat→St→Prop,J=fun n s=>∃ (P m':List (Int × Val')) (v:V) (last:Option (V × V)),n=m'.length∧(P++m').Perm OTH∧s.tm 7=v∧IntsO s.ob (fun u=>640≤u∧u≠M∧u≠ub1∧u<s.nx) (jq o++XZ o P) v ∧
     s.ob (2 * ub1+1)=some ⟨ub1,.miter (2 * M+1) U ver (MP valV m') last⟩∧s.ob (2 * M+1)=some ⟨U,.mp ver (MP valV OTH)⟩∧s.ob 1153=some ⟨576,.cells (opC o)⟩∧ub1<s.nx:=⟨_,rfl⟩
    refine Ym (n:=OTH.length) [(7,9),(32,50)] J rfl rfl (by rw [hJ];exact ⟨[],OTH,v,none,rfl,by simp,g7,pv,pi,pm,p5,gn⟩) ?_
    clear h7 hv g7 pv pi pm p5 gn v
    intro n s hJs f
    rw [hJ] at hJs
    obtain ⟨P,m',v,last,rfl,hperm,h7,hv,oi,om,o5',hn1⟩:=hJs
    have f5:s.tm 5 = .ptr 1153 576 0:=by rw [f.t 5 (by simp)];exact g5
    have f31:s.tm 31 = .iter (2 * ub1+1) ub1:=by rw [f.t 31 (by simp)];exact g31
    have fd:s.df=[]:=by rw [f.d];exact gd
    have fr:s.ro=0:=by rw [f.r];exact gr
    clear f
    have hPl:(P++m').length≤40:=by
     rw [hperm.length_eq,← hOTH]
     unfold JQ
     rw [List.length_map]
     have:=List.length_filter_le (fun i=>!(i == a)) (writersH g o.key)
     have:=jb3 g o.key
     omega
    rw [List.length_append] at hPl
    have hpl:(XZ o P).length≤P.length:=by
     unfold XZ
     rw [List.length_map]
     exact List.length_filter_le _ _
    have hsl:(jq o).length≤1:=by unfold jq;split <;> simp
    simp
    refine jne (l:=2 * ub1+1) (u:=ub1) (l':=2 * M+1) (u':=U) (ver:=ver) (es:=MP valV OTH) (left:=MP valV m') (by simp [f31]) oi om (by simp [fr]) ?_ ?_
    ·intro hemp
     have hm0:m'=[]:=by
      unfold MP at hemp
      exact List.map_eq_nil_iff.1 hemp
     subst hm0
     rw [List.append_nil] at hperm
     have hpp:=jji (g:=g) (a:=a) (o:=o) (P:=P) (by rw [hOTH];exact hperm)
     have hlen:=hpp.length_eq
     simp [h7]
     rcases hv with ⟨hnil,rfl⟩ | ⟨hne,u,rfl,hob,hu⟩
     ·rw [hnil] at hpp
      have hT:ofL g a o=[]:=List.perm_nil.1 hpp.symm
      refine JS (vs:=[.sl none true 0 []]) (by simp) rfl j1x ?_
      rintro w ob2 tk2 ub2 ⟨q1,q2,q3⟩
      simp [h7]
      exact Qm (p:=fun _=>True) (by simp [fd]) rfl (Or.inl ⟨hT,by simp⟩) (by simp [fr])
     ·refine JS (vs:=[.osl (2 * u+1) u 0 (jq o++XZ o P).length 1]) (by simp) rfl (sv69 hpp (jm6 g a o) (by rw [List.length_append];omega) (by simpa using hob) (by simp [fr]) (fun m hm=>by have:=hu.2.2.2;first | omega | (simp at hm;omega)) (by simp [fr])) ?_
      rintro w ob2 tk2 ub2 hat
      simp only at hat
      simp [h7]
      refine Qm (p:=fun _=>True) (by simp [fd]) rfl (Or.inr ⟨?_,u,?_,by simpa using hat.1,trivial⟩) (by simp [fr])
      ·intro hT
       rw [hT] at hpp
       exact hne (List.perm_nil.1 hpp)
      ·rw [← hlen];simp
    ·intro A k w B hsp
     obtain ⟨A',q,B',rfl,rfl,rfl,rfl,rfl⟩:=jv1 hsp
     have hperm':((P++[q])++(A'++B')).Perm OTH:=by
      refine List.Perm.trans ?_ hperm
      rw [List.append_assoc]
      exact List.Perm.append_left _ (by simpa using List.perm_middle.symm)
     have nM:¬ 2 * M+1=2 * ub1+1:=by omega
     simp
     refine jul (l:=2 * ub1+1) (u:=ub1) (l':=2 * M+1) (u':=U) (ver:=ver) (es:=MP valV OTH) (left:=MP valV A'++MP valV B') (k:=.int .i64 q.1) (v:=valV q.2) (by simp [f31]) (by simp) (by simp [show ¬ 2 * M=2 * ub1 by omega,om]) ?_
     have n5:¬ 1153=2 * ub1+1:=by omega
     simp [valV,J9,splice,fr,j2]
     generalize hK2:jn5 E Xo (C.cond _ _ _) _=K2
     have restF:∀ (s1:St) (fit:Bool),fit=Ww o q.2→s1.tm 46 = .bool fit→s1.tm 7=v→s1.tm 8 = .int .i64 q.1→IntsO s1.ob (fun u=>640≤u∧u≠M∧u≠ub1∧u<s1.nx) (jq o++XZ o P) v →
      s1.ob (2 * ub1+1)=some ⟨ub1,.miter (2 * M+1) U ver (MP valV (A'++B')) (some (.int .i64 q.1,valV q.2))⟩→s1.ob (2 * M+1)=some ⟨U,.mp ver (MP valV OTH)⟩→s1.ob 1153=some ⟨576,.cells (opC o)⟩→ub1<s1.nx→s1.df=[]→s1.ro=0→K2 .nrm s1:=by
      intro s1 fit hfit h46 h7 h8 hv oi om o5 hn hd hr
      rw [← hK2]
      have hpk:XZ o (P++[q])=XZ o P++(if fit then [q.1] else []):=by
       unfold XZ
       rw [List.filter_append,List.map_append,hfit]
       cases hf:Ww o q.2 <;> simp [hf]
      have hml:(A'++B').length<(A'++q::B').length:=by simp
      cases fit
      ·simp only [Bool.false_eq_true,if_false,List.append_nil] at hpk
       simp [h46]
       exact ⟨(A'++B').length,by first | omega | (simp;done) | (simp;omega),by rw [hJ];exact ⟨P++[q],A'++B',v,some (.int .i64 q.1,valV q.2),rfl,hperm',by simp [h7],by rw [hpk];exact hv.frame (fun u _=>by simp) (fun u hu=>⟨hu.1,hu.2.1,hu.2.2.1,by have:=hu.2.2.2;first | omega | (simp;omega)⟩),by simp [oi],by simp [om],by simp [o5],by first | omega | (simp;omega)⟩⟩
      ·simp only [if_true] at hpk
       simp [h46,h7,h8]
       refine XP (cs:=[.int .i64 q.1]) (by simp [splice]) rfl rfl ?_
       simp
       refine jav (p:=fun u=>640≤u∧u≠M∧u≠ub1∧u<s1.nx) (l:=jq o++XZ o P) (z:=q.1) (v:=v) (X:=2 * (s1.nx+64+64)+1) (uX:=s1.nx+64+64) (by simp) (hv.frame (fun u hu=>?_) (fun _ h=>h)) (by simp) (by simp) (by simp [hr]) (by rw [List.length_append];simp at hPl;omega) (fun kl hkl=>?_)
       ·have:¬ 2 * u=2 * (s1.nx+64+64):=by have:=hu.2.2.2;omega
        simp [this]
       have nk:∀ z:Nat,(∀ u,640≤u→u≠M→u≠ub1→z≠2 * u+1)→z ∉ kl:=fun z hz hm=>by
        obtain ⟨u,hu,e⟩:=hkl z hm
        exact hz u hu.1 hu.2.1 hu.2.2.1 e
       have k1:=nk (2 * ub1+1) (fun u _ _ h e=>h (by omega))
       have k2:=nk (2 * M+1) (fun u _ h _ e=>h (by omega))
       have k3:=nk 1153 (fun u h _ _ e=>by omega)
       obtain ⟨Z,hZ⟩:∃ Z,s1.nx+64+64+64=Z:=⟨_,rfl⟩
       have d1:¬ 2 * ub1+1=2 * Z+1:=by omega
       have d2:¬ 2 * M+1=2 * Z+1:=by omega
       have d3:¬ 1153=2 * Z+1:=by omega
       have b1:¬ 2 * ub1+1=2 * (s1.nx+64+64)+1:=by omega
       have b2:¬ 2 * M+1=2 * (s1.nx+64+64)+1:=by omega
       have b3:¬ 1153=2 * (s1.nx+64+64)+1:=by omega
       have hnx:∀ X:Prop,X→X:=fun _ h=>h
       simp only [hZ]
       simp
       refine ⟨(A'++B').length,by first | omega | (simp;done) | (simp;omega),?_⟩
       rw [hJ]
       refine ⟨P++[q],A'++B',.osl (2 * Z+1) Z 0 (jq o++XZ o (P++[q])).length 1,some (.int .i64 q.1,valV q.2),rfl,hperm',by simp [hpk],Or.inr ⟨by rw [hpk];simp,Z,rfl,?_,by omega,by omega,by omega,?_⟩,?_,?_,?_,?_⟩
       ·simp only [J1,Y0]
        rw [jry,if_pos rfl,hpk]
        simp
       ·first | omega | (simp;done) | (simp;omega)
       ·simp only [J1,Y0]
        rw [Qy _ _ _ _ _ _ _ k1,if_neg d1]
        simp only [Ja,Y0,if_neg b1]
        exact oi
       ·simp only [J1,Y0]
        rw [Qy _ _ _ _ _ _ _ k2,if_neg d2]
        simp only [Ja,Y0,if_neg b2]
        exact om
       ·simp only [J1,Y0]
        rw [Qy _ _ _ _ _ _ _ k3,if_neg d3]
        simp only [Ja,Y0,if_neg b3]
        exact o5
       ·first | omega | (simp;done) | (simp;omega)
     clear hK2
     have c1:¬ 2 * ub1=2 * (s.nx+64+64+64+64+64):=by omega
     have c2:¬ 2 * M=2 * (s.nx+64+64+64+64+64):=by omega
     have c3:¬ 2 * M=2 * ub1:=by omega
     have hsn:640≤s.nx+64+64+64+64+64:=Nat.le_trans (Nat.le_trans hub0 (Nat.le_of_lt hn1)) (by simp [Nat.add_assoc])
     have nq:=jwm hsn
     have n5':=jwm hub0
     cases hk2:(o.v.kind == 2)
     ·simp [f5,o5',j2,opC,n5,nq,hk2]
      refine restF _ (q.2.kind == o.v.kind && q.2.n == o.v.n) (by unfold Ww;rw [hk2];rfl) (by simp) (by simp [h7]) (by simp) (hv.frame (fun u hu=>?_) (fun u hu=>⟨hu.1,hu.2.1,hu.2.2.1,by have:=hu.2.2.2;first | omega | (simp;omega)⟩)) (by simp [c1,jw6,valV,J9]) (by simp [c2,c3,om]) (by simp [nq,n5',o5',opC]) (by first | omega | (simp;omega)) (by simp [fd]) (by simp [fr])
      have a1:¬ 2 * u=2 * (s.nx+64+64+64+64+64):=by have:=hu.2.2.2;omega
      have a2:¬ 2 * u=2 * ub1:=by have:=hu.2.2.1;omega
      simp [a1,a2]
     ·simp [f5,o5',j2,opC,n5,nq,hk2]
      refine restF _ true (by unfold Ww;rw [hk2];rfl) (by simp) (by simp [h7]) (by simp) (hv.frame (fun u hu=>?_) (fun u hu=>⟨hu.1,hu.2.1,hu.2.2.1,by have:=hu.2.2.2;first | omega | (simp;omega)⟩)) (by simp [c1,jw6,valV,J9]) (by simp [c2,c3,om]) (by simp [nq,n5',o5',opC]) (by first | omega | (simp;omega)) (by simp [fd]) (by simp [fr])
      have a1:¬ 2 * u=2 * (s.nx+64+64+64+64+64):=by have:=hu.2.2.2;omega
      have a2:¬ 2 * u=2 * ub1:=by have:=hu.2.2.1;omega
      simp [a1,a2]
   clear hK
   refine jzd fun st hst=>?_
   have g2:st.tm 2 = .ptr 1 0 0:=by rw [hst];simp
   have g3:st.tm 3 = .ptr 129 64 0:=by rw [hst];simp
   have g5:st.tm 5 = .ptr 1153 576 0:=by rw [hst];simp
   have g7:st.tm 7 = .sl none true 0 []:=by rw [hst];simp
   have p1:st.ob 1=some ⟨0,.cells (j3 g)⟩:=by rw [hst];simp [j3]
   have p3:st.ob 129=some ⟨64,.cells [.int .i64 a,.int .i64 b]⟩:=by rw [hst];simp
   have p5:st.ob 1153=some ⟨576,.cells (opC o)⟩:=by rw [hst];simp [opC,hw]
   have gd:st.df=[]:=by rw [hst];simp
   have gr:st.ro=0:=by rw [hst];simp
   have gn:640≤st.nx:=by rw [hst];simp
   clear hst
   cases hk1:(o.v.kind != 1)
   ·have hk:o.v.kind=1:=by simpa using hk1
    simp
    exact rest _ _ g2 g3 g5 p1 p3 p5 g7 (Or.inl ⟨by simp [jq,hk],rfl⟩) gd gr gn
   ·have hk:¬ o.v.kind=1:=by simpa using hk1
    simp [g7]
    refine XP (cs:=[.int .i64 (-1)]) (by simp [splice]) rfl rfl ?_
    simp
    refine jav (p:=fun _=>False) (l:=[]) (z:=-1) (v:=.sl none true 0 []) (X:=2 * (st.nx+64)+1) (uX:=st.nx+64) (by simp) (Or.inl ⟨rfl,rfl⟩) (by simp) (by simp) (fun _ h=>h.elim) (by simp) (fun kl hkl=>?_)
    have hkl0:kl=[]:=by
     cases kl with
     | nil=>rfl
     | cons k _=>obtain ⟨_,h,_⟩:=hkl k (by simp);exact h.elim
    subst hkl0
    have n1:¬ 1=2 * (st.nx+64+64)+1:=by omega
    have n1':¬ 1=2 * (st.nx+64)+1:=by omega
    have n3:¬ 129=2 * (st.nx+64+64)+1:=by omega
    have n3':¬ 129=2 * (st.nx+64)+1:=by omega
    have n5:¬ 1153=2 * (st.nx+64+64)+1:=by omega
    have n5':¬ 1153=2 * (st.nx+64)+1:=by omega
    simp
    refine rest _ (.osl (2 * (st.nx+64+64)+1) (st.nx+64+64) 0 1 1) (by simp [g2]) (by simp [g3]) (by simp [g5]) ?_ ?_ ?_ (by simp) (Or.inr ⟨by simp [jq,hk],st.nx+64+64,by simp [jq,hk],by simp [jq,hk,intC],by omega,by simp⟩) (by simp [gd]) (by simp [gr]) (by simp;omega)
    ·simp only [J1,Y0,Ja,if_neg n1,if_neg n1'];exact p1
    ·simp only [J1,Y0,Ja,if_neg n3,if_neg n3'];exact p3
    ·simp only [J1,Y0,Ja,if_neg n5,if_neg n5'];exact p5
  ·simp [splice,opC,j2]
   exact Qm (p:=fun _=>True) (by simp) rfl (Or.inl ⟨rfl,by simp⟩) (by simp)
end Go.Pv.T

/- Who may have written what is read: the reference's read. -/
namespace Go.Pv.T
open Go Go.Pv
set_option maxRecDepth 100000 in
theorem ev175 {h:Hist'} (hs:Small h) (a b:Int):Ev E 175 [.agg (j3 h),.agg (jG (a,b))] (.bool ((opAt h a b).any fun o=>!o.w)):=by
 have e32:=ev58 hs
 have hts:=hs.ts
 refine jR (af:=F175) rfl ?_
 obtain ⟨R,hR⟩:∃ R,opAt h a b=R:=⟨_,rfl⟩
 rw [hR]
 unfold opAt at hR
 simp [F175,j3,j2,jG]
 refine Jp e32 (by simp [j3]) rfl (by simp [j3]) ?_
 cases hm:X6 h
 ·rw [jao hm]
  rw [hm] at hR
  subst hR
  simp
  exact j4 (by simp) (by simp) rfl
 rw [hm] at hR
 rw [W5 hm]
 by_cases k1n:a<0
 ·have k1:¬ 0≤a:=by omega
  rw [if_neg (by simp;omega)] at hR
  subst hR
  simp [k1,j2]
  exact j4 (by simp) (by simp) rfl
 have k1:0≤a:=by omega
 by_cases k2n:(h.ts.length:Int)≤a
 ·have k2:¬ (a<(h.ts.length:Int)):=by omega
  rw [if_neg (by simp;omega)] at hR
  subst hR
  simp [k1,k2,j2]
  exact j4 (by simp) (by simp) rfl
 have k2:a<(h.ts.length:Int):=by omega
 by_cases k3n:b<0
 ·have k3:¬ 0≤b:=by omega
  rw [if_neg (by simp;omega)] at hR
  subst hR
  simp [k1,k2,k3,j2]
  exact j4 (by simp) (by simp) rfl
 have k3:0≤b:=by omega
 obtain ⟨i,rfl⟩:∃ i:Nat,a=i:=⟨a.toNat,by omega⟩
 have hi:i<h.ts.length:=by omega
 rw [Int.toNat_natCast,jr hi] at hR
 obtain ⟨t,ht⟩:∃ t,h.ts[i]=t:=⟨_,rfl⟩
 rw [ht] at hR
 have hl3:(h.ts.flatMap txnC)[i * 3+2]? = some (slOf t.nl opC t.ops):=by
  rw [je j9 h.ts hi (by decide:2<3),ht];rfl
 by_cases k4n:(t.ops.length:Int)≤b
 ·have k4:¬ (b<(t.ops.length:Int)):=by omega
  rw [if_neg (by simp;omega)] at hR
  subst hR
  simp [k1,k2,k3,k4,j2,hi,j7 j9,hl3]
  exact j4 (by simp) (by simp) rfl
 have k4:b<(t.ops.length:Int):=by omega
 obtain ⟨j,rfl⟩:∃ j:Nat,b=j:=⟨b.toNat,by omega⟩
 have hj:j<t.ops.length:=by omega
 rw [if_pos (by simp;omega),Int.toNat_natCast,List.getElem?_eq_getElem hj] at hR
 obtain ⟨o,ho⟩:∃ o,t.ops[j]=o:=⟨_,rfl⟩
 rw [ho] at hR
 subst hR
 have a0:(t.ops.flatMap opC)[j * 4]? = some (.bool o.w):=by
  have:=je jJ t.ops hj (by decide:0<4)
  rw [Nat.add_zero,ho] at this
  rw [this];rfl
 simp [k1,k2,k3,k4,j2,hi,j7 j9,hl3]
 simp [hj,j7 jJ,a0]
 exact j4 (by simp) (by simp) rfl
end Go.Pv.T

/- Who may have written what is read: the reference's list. -/
namespace Go.Pv.T
open Go Go.Pv
def jo0 (o:Op') (a:Int) (i:Nat) (t:Txn'):Bool:=(!((i:Int) == a) && (t.f != 2)) && ((js o.key t.ops t.ops.length).2 && Ww o (js o.key t.ops t.ops.length).1)
def XY (ts:List Txn') (a:Int) (o:Op'):Nat→List Int
 | 0=>jq o
 | i+1=>XY ts a o i++(match ts[i]? with | some t=>if jo0 o a i t then [(i:Int)] else [] | none=>[])
theorem jer {ts:List Txn'} {a:Int} {o:Op'} {i:Nat} (h:i<ts.length):XY ts a o (i+1)=XY ts a o i++(if jo0 o a i ts[i] then [(i:Int)] else []):=by
 simp [XY,List.getElem?_eq_getElem h]
theorem jhb (ts:List Txn') (a:Int) (o:Op'):∀ i,(XY ts a o i).length≤i+1
 | 0=>by unfold XY jq;split <;> simp
 | i+1=>by
  have:=jhb ts a o i
  simp only [XY,List.length_append]
  split
  ·split <;> simp <;> omega
  ·simp;omega
theorem jau {g:Hist'} (hm:X6 g=true) (key:Int) {i:Nat} (h:i<g.ts.length):XB g key i=(js key g.ts[i].ops g.ts[i].ops.length).1:=by
 unfold XB WP XM
 rw [hm,if_pos (by simp;omega)]
 simp only [Int.toNat_natCast]
 rw [jr h]
theorem jk1 {g:Hist'} (hm:X6 g=true) (a:Int) (o:Op'):∀ i,i≤g.ts.length→XY g.ts a o i=jq o++(numsTo (wrB o.key) g.ts i).filter fun i=>!(i == a) && Ww o (XB g o.key i)
 | 0,_=>by simp [XY,numsTo]
 | i+1,h=>by
  rw [jer (by omega),JC (by omega),List.filter_append,jk1 hm a o i (by omega),List.append_assoc]
  congr 2
  have hr:=Qa o.key (g.ts[i]).ops (g.ts[i]).ops.length (Nat.le_refl _)
  rw [List.take_length] at hr
  have hl:=jau hm o.key (show i<g.ts.length by omega)
  unfold jo0 wrB
  rw [hr]
  cases h1:(g.ts[i].ops.any (wkB o.key)) <;> cases h2:(g.ts[i].f != 2) <;> cases h3:((i:Int) == a) <;> simp [List.filter_cons,h3,hl]
theorem jo6 {g:Hist'} (hm:X6 g=true) (a:Int) (o:Op'):XY g.ts a o g.ts.length=ofL g a o:=jk1 hm a o _ (Nat.le_refl _)
theorem Qf {g:Hist'} {a b:Int} {o:Op'} (h:opAt g a b=some o):∃ i j:Nat,a=i∧b=j∧∃ (hi:i<g.ts.length) (hj:j<(g.ts[i]).ops.length),(g.ts[i]).ops[j]=o:=by
 unfold opAt at h
 by_cases hc:(X6 g && (decide (0≤a) && (decide (a<g.ts.length) && (decide (0≤b) && decide (b<((g.ts.getD a.toNat ⟨0,0,true,[]⟩).ops.length:Nat))))))=true
 ·rw [if_pos hc] at h
  simp only [Bool.and_eq_true,decide_eq_true_eq] at hc
  obtain ⟨_,h1,h2,h3,h4⟩:=hc
  obtain ⟨i,rfl⟩:∃ i:Nat,a=i:=⟨a.toNat,by omega⟩
  obtain ⟨j,rfl⟩:∃ j:Nat,b=j:=⟨b.toNat,by omega⟩
  have hi:i<g.ts.length:=by omega
  rw [Int.toNat_natCast,jr hi] at h h4
  have hj:j<(g.ts[i]).ops.length:=by omega
  rw [Int.toNat_natCast,List.getElem?_eq_getElem hj] at h
  exact ⟨i,j,rfl,rfl,hi,hj,Option.some.inj h⟩
 ·rw [if_neg hc] at h
  cases h
theorem j63 {g:Hist'} (hs:Small g) (a b:Int):∃ v,Ev E 112 [.agg (j3 g),.agg (jG (a,b))] v∧SlR v false (ofH g a b).length ((ofH g a b).flatMap intC):=by
 have e77:=ev175 hs a b
 refine Xi (af:=F112) rfl (by decide) ?_
 unfold ofH
 cases hop:opAt g a b with
 | none =>
  rw [hop] at e77
  simp [F112,j3,jG]
  refine jK (cs:=[]) rfl rfl rfl ?_
  simp [j2]
  refine jL e77 (by simp [j3,jG]) rfl (by simp [j3,jG]) ?_
  simp
  exact slE (t:=some (192,1)) (nl:=false) (k:=0) (cs:=[]) (fun r h=>h) (by simp) (by simp)
 | some o =>
  rw [hop] at e77
  simp only [Option.any_some] at e77
  have hmay:X6 g=true:=by
   unfold opAt at hop
   cases hm:X6 g
   ·rw [hm] at hop;cases hop
   ·rfl
  have hts:=jqe hmay
  simp [F112,j3,jG]
  refine jK (cs:=[]) rfl rfl rfl ?_
  simp [j2]
  refine jL e77 (by simp [j3,jG]) rfl (by simp [j3,jG]) ?_
  cases hw:o.w
  ·obtain ⟨i,j,rfl,rfl,hi,hj,ho⟩:=Qf hop
   have hl3:(g.ts.flatMap txnC)[i * 3+2]? = some (slOf (g.ts[i]).nl opC (g.ts[i]).ops):=by
    rw [je j9 g.ts hi (by decide:2<3)];rfl
   have hl4:=fun ob=>ja jJ ob (g.ts[i]).ops hj
   rw [ho] at hl4
   simp [j2,hi,hj,j7 j9,j7 jJ,hl3,hl4]
   refine ⟨by simp [opC],by simp [X5,Wv,jdr,jaz,rdOb,rdTk,lOf,Delta.wo,Delta.wt,opC];try decide,?_⟩
   simp [opC]
   generalize hK:jn5 E Xo _ (jgb _ _)=K
   have rest:∀ (s:St) (U:Nat) (v:V),s.tm 2 = .ptr 4 0 0→s.tm 3 = .ptr 6 64 0→s.tm 6 = .ptr 12 U 0→s.ob 4=some ⟨0,.cells (j3 g)⟩→s.ob 6=some ⟨64,.cells [.int .i64 i,.int .i64 j]⟩→s.ob 12=some ⟨U,.cells (opC o)⟩ →
    s.tm 5=v→GrowT s.tk s.nx intC 1 (jq o) v→s.df=[]→s.ro=0→s.fb=0→K .nrm s:=by
    intro s U v h2 h3 h6 o4 o6 o12 h5 hv hd hr hb
    rw [← hK]
    clear hK e77 hop
    simp
    generalize (i:Int)=a at *
    refine jB [(5,5),(7,9),(34,90)] g.ts.length (fun n s=>s.tm 7 = .int .i64 n∧s.ob 4=some ⟨0,.cells (j3 g)⟩∧s.ob 6=some ⟨64,.cells [.int .i64 a,.int .i64 j]⟩∧s.ob 12=some ⟨U,.cells (opC o)⟩∧GrowT s.tk s.nx intC 1 (XY g.ts a o n) (s.tm 5)) rfl rfl ⟨by simp,by simp [o4],by simp [o6],by simp [o12],by rw [XY];simp [h5];exact hv.mono (fun _ _ h=>h) (by omega)⟩ ?_
    rintro n s' hn ⟨h7,o4,o6,o12,hG⟩ f
    have f2:s'.tm 2 = .ptr 4 0 0:=by rw [f.t 2 (by simp)];simp [h2]
    have f3:s'.tm 3 = .ptr 6 64 0:=by rw [f.t 3 (by simp)];simp [h3]
    have f6:s'.tm 6 = .ptr 12 U 0:=by rw [f.t 6 (by simp)];simp [h6]
    have fd:s'.df=[]:=by rw [f.d];simp [hd]
    have fb:s'.fb=0:=by rw [f.b];simp [hb]
    have fr:s'.ro=0:=by rw [f.r];simp [hr]
    clear f
    by_cases hlt:n<g.ts.length
    ·have hw:=jl hlt (by omega)
     have hsn:=jer (a:=a) (o:=o) hlt
     obtain ⟨t,ht⟩:∃ t,g.ts[n]=t:=⟨_,rfl⟩
     rw [ht] at hsn
     have hos:=hs.os t (ht ▸ List.getElem_mem hlt)
     have hll:=jhb g.ts a o n
     have hff:(g.ts.flatMap txnC)[n * 3+1]? = some (.int .i64 t.f):=by
      rw [je j9 g.ts hlt (by decide:1<3),ht];rfl
     have hfo:(g.ts.flatMap txnC)[n * 3+2]? = some (slOf t.nl opC t.ops):=by
      rw [je j9 g.ts hlt (by decide:2<3),ht];rfl
     have e78:=ev84 t (by omega) o.key
     simp [h7,f2,f6,o4,o12,j2,j3,opC,hlt,j7 j9,ja j9,ht,hfo]
     refine Jp e78 (by simp [txnC]) rfl (by simp [txnC]) ?_
     rw [JB (by simp [V.plain,J9])]
     have hsee:jo0 o a n t=((!((n:Int) == a) && (t.f != 2)) && ((js o.key t.ops t.ops.length).2 && Ww o (js o.key t.ops t.ops.length).1)):=rfl
     generalize (js o.key t.ops t.ops.length).1=rv at *
     generalize (js o.key t.ops t.ops.length).2=rb at *
     have o4':s'.ob 4=some ⟨0,.cells [slOf g.sn strC g.ss,slOf g.kn strC g.ks,slOf g.tn txnC g.ts]⟩:=o4
     have o12':s'.ob 12=some ⟨U,.cells [.bool o.w,.int .i64 o.key,.int .i64 o.v.kind,.int .i64 o.v.n]⟩:=o12
     have skip:jo0 o a n t=false→XY g.ts a o (n+1)=XY g.ts a o n:=fun h=>by rw [hsn,h];simp
     simp [J9,j2,fb,fr,splice,f3,o6,h7]
     refine ⟨by simp [X5,Wv,jdr,jaz,rdOb,rdTk,lOf,Delta.wo,Delta.wt];try decide,?_⟩
     cases h1:((n:Int) != a)
     ·have h1b:((n:Int) == a)=true:=by simpa [bne] using h1
      have hsk:=skip (by rw [hsee,h1b];rfl)
      simp [o4',o6,o12',h7,hw,hlt]
      rw [hsk];exact hG.mono (fun u _ h=>by simpa [jv] using h) (by omega)
     have h1b:((n:Int) == a)=false:=by simpa [bne] using h1
     cases h2:(t.f != 2)
     ·have hsk:=skip (by rw [hsee,h1b,h2];rfl)
      simp [h2,f2,o4',o6,o12',h7,hw,j2,hlt,j7 j9,hff]
      rw [hsk];exact hG.mono (fun u _ h=>by simpa [jv] using h) (by omega)
     cases rb
     ·have hsk:=skip (by rw [hsee,h1b,h2];rfl)
      simp [h2,f2,o4',o6,o12',h7,hw,j2,hlt,j7 j9,hff]
      rw [hsk];exact hG.mono (fun u _ h=>by simpa [jv] using h) (by omega)
     cases h4:(o.v.kind == 2)
     ·cases h5:(rv.kind == o.v.kind && rv.n == o.v.n)
      ·have hsk:=skip (by rw [hsee,h1b,h2];unfold Ww;rw [h4,h5];rfl)
       simp [h2,h4,h5,f2,f6,o4',o6,o12',h7,hw,j2,hlt,j7 j9,hff]
       rw [hsk];exact hG.mono (fun u _ h=>by simpa [jv] using h) (by omega)
      ·have h3f:Ww o rv=true:=by unfold Ww;rw [h4,h5];rfl
       have hsn2:XY g.ts a o (n+1)=XY g.ts a o n++[(n:Int)]:=by rw [hsn,hsee];simp [h1b,h2,h3f]
       simp [h2,h4,h5,f2,f6,o4',o12',h7,j2,hlt,j7 j9,hff]
       refine jK (cs:=[.int .i64 n]) (by simp [splice]) rfl rfl ?_
       simp
       refine Xv (f:=intC) (hi:=s'.nx) (l:=XY g.ts a o n) (a:=(n:Int)) (v:=s'.tm 5) (hG.mono (fun u _ h=>by simp [ji,h]) (Nat.le_refl _)) (by simp) (by simp [jM,intC]) jD (by decide) rfl (by omega) (by omega) (fun del hdel=>?_)
       have hlen:(XY g.ts a o n).length+1=(XY g.ts a o (n+1)).length:=by rw [hsn2];simp
       rw [← hsn2,hlen]
       simp [h7,hw,o4',o6,o12']
       exact ⟨hlt,_,rfl,by simp [ji],by omega⟩
     ·have h3f:Ww o rv=true:=by unfold Ww;rw [h4];rfl
      have hsn2:XY g.ts a o (n+1)=XY g.ts a o n++[(n:Int)]:=by rw [hsn,hsee];simp [h1b,h2,h3f]
      simp [h2,h4,f2,f6,o4',o12',h7,j2,hlt,j7 j9,hff]
      refine jK (cs:=[.int .i64 n]) (by simp [splice]) rfl rfl ?_
      simp
      refine Xv (f:=intC) (hi:=s'.nx) (l:=XY g.ts a o n) (a:=(n:Int)) (v:=s'.tm 5) (hG.mono (fun u _ h=>by simp [ji,h]) (Nat.le_refl _)) (by simp) (by simp [jM,intC]) jD (by decide) rfl (by omega) (by omega) (fun del hdel=>?_)
      have hlen:(XY g.ts a o n).length+1=(XY g.ts a o (n+1)).length:=by rw [hsn2];simp
      rw [← hsn2,hlen]
      simp [h7,hw,o4',o6,o12']
      exact ⟨hlt,_,rfl,by simp [ji],by omega⟩
    ·have:n=g.ts.length:=by omega
     subst this
     obtain ⟨u,hv,_,_⟩:=hG
     simp [h7,f2,o4,j2,j3]
     rw [← jo6 hmay]
     exact slE (t:=some (u,1)) (nl:=false) (k:=(XY g.ts a o g.ts.length).length) (cs:=(XY g.ts a o g.ts.length).flatMap intC) (fun r h=>h) (by simp [fd]) (by simp [hv])
   by_cases hk:o.v.kind=1
   ·simp [hk]
    refine rest _ 1280 _ (by simp) (by simp) (by simp) (by simp [j3]) (by simp) (by simp [opC,hk]) (by simp;rfl) ?_ (by simp) (by simp) (by simp)
    exact ⟨192,by simp [jq,hk],by simp [ji],by simp⟩
   ·have hkb:(o.v.kind != 1)=true:=by simp [hk]
    simp [hkb]
    refine jK (cs:=[.int .i64 (-1)]) (by simp [splice]) rfl rfl ?_
    simp
    refine Xv (f:=intC) (hi:=576) (l:=[]) (a:=-1) (v:=.sl (some (192,1)) false 0 []) ⟨192,rfl,by simp [ji],by omega⟩ (by simp) (by simp [jM,intC]) jD (by decide) rfl (by simp) (by simp) (fun del hdel=>?_)
    simp
    refine rest _ 1280 _ (by simp) (by simp) (by simp) (by simp [j3]) (by simp) (by simp [opC]) (by simp;rfl) ?_ (by simp) (by simp) (by simp)
    exact ⟨1792,by simp [jq,hk],by simp [ji],by simp⟩
  ·simp
   exact slE (t:=some (192,1)) (nl:=false) (k:=0) (cs:=[]) (fun r h=>h) (by simp) (by simp)
end Go.Pv.T

/- Whole histories; comparing lists. -/
namespace Go.Pv.T
open Go Go.Pv
theorem XH {ub:Nat} {v:V} {nl:Bool} {n:Nat} {cs:List V} {K:Delta→Prop} (hv:SlR v nl n cs) (h:∀ t add,K { v:=.sl t nl n cs,add:=add }):wpD (Xj ub v) K:=by
 obtain ⟨t,add,hr⟩:=jjc (ub:=ub) hv
 rw [hr,jP]
 exact h t add
theorem len0 {α:Type} (l:List α):((l.length:Int) == 0)=l.isEmpty:=by cases l <;> simp <;> omega
theorem len0b {α β:Type} (l:List α) (m:List β):((l.length:Int)+m.length == 0)=(l.isEmpty && m.isEmpty):=by cases l <;> cases m <;> simp <;> omega
def jm (g:Hist'):Bool:=X6 g && ((XJ g).isEmpty && (jas g).isEmpty)
theorem ev52 {g:Hist'} (hs:Small g):Ev E 52 [.agg (j3 g)] (.bool (jm g)):=by
 have e70:=jnr hs
 refine jR (af:=F52) rfl ?_
 unfold jm
 cases hm:X6 g
 ·simp [F52,j3,j2]
  refine jL e70 (by simp [j3]) rfl (by simp [j3]) ?_
  have hb:(errH g == 0)=false:=by simp [jao hm]
  simp [hb]
  exact j4 (by simp) (by simp) rfl
 ·rw [W5 hm] at e70
  obtain ⟨vi,evi,nli,hvi⟩:=ev104 hs hm
  obtain ⟨vl,evl,nll,hvl⟩:=ev105 hs hm
  simp [F52,j3,j2]
  refine jL e70 (by simp [j3]) rfl (by simp [j3]) ?_
  simp [j2]
  refine jL evi (by simp [j3]) rfl (by simp [j3]) ?_
  refine XH hvi fun t add=>?_
  have hz:=len0 (XJ g)
  cases hb:(XJ g).isEmpty
  ·rw [hb] at hz
   simp [hz]
   exact j4 (by simp) (by simp) rfl
  ·rw [hb] at hz
   simp [hz,j2]
   refine jL evl (by simp [j3]) rfl (by simp [j3]) ?_
   refine XH hvl fun t add=>?_
   simp
   exact j4 (by simp) (by simp [len0]) rfl
theorem ev21 {g:Hist'} (hs:Small g):Ev E 21 [.agg (j3 g)] (.bool (jm g)):=by
 have e32:=ev58 hs
 refine jR (af:=F21) rfl ?_
 unfold jm
 cases hm:X6 g
 ·simp [F21,j3,j2]
  refine Jp e32 (by simp [j3]) rfl (by simp [j3]) ?_
  have hb:(errH g == 0)=false:=by simp [jao hm]
  simp [hb]
  exact j4 (by simp) (by simp) rfl
 ·rw [W5 hm] at e32
  have evi:=ev59 g (by have:=hs.ts;omega)
  obtain ⟨vl,evl,nll,hvl⟩:=ev60 hs
  have B:=j7i hs
  have bi:=B.i
  have bl:=B.l
  have hw:IntKind.i64.wrap (((XJ g).length:Int)+(jas g).length)=((XJ g).length:Int)+(jas g).length:=J0 (by omega) (by omega)
  simp [F21,j3,j2]
  refine Jp e32 (by simp [j3]) rfl (by simp [j3]) ?_
  simp [j2]
  refine Jp evi (by simp [j3]) rfl (by simp [j3]) ?_
  rw [jte]
  simp [j2]
  refine Jp evl (by simp [j3]) rfl (by simp [j3]) ?_
  refine XH hvl fun t add=>?_
  simp [hw]
  exact j4 (by simp) (by simp [len0b]) rfl
theorem ev32 {a b:Bool} (l m:List Int) (hl:l.length≤1000000000) (hm:m.length≤1000000000):Ev E 32 [slOf a intC l,slOf b intC m] (.bool (l == m)):=by
 refine jR (af:=F32) rfl ?_
 have il:∀ (l:List Int) (i:Nat) (h:i<l.length),(l.flatMap intC)[i]? = some (.int .i64 l[i]):=fun l i h=>by
  have:=je jD l h (by decide:0<1)
  rw [Nat.mul_one,Nat.add_zero] at this
  rw [this];rfl
 by_cases hlm:l.length=m.length
 ·simp [F32,hlm]
  refine jB [(4,5),(11,40)] l.length (fun i s=>s.tm 5 = .int .i64 i∧l.take i=m.take i) rfl rfl ⟨by simp,by simp⟩ ?_
  rintro i s hi ⟨h5,hT⟩ f
  have f0:s.tm 0=slOf a intC l:=by rw [f.t 0 (by simp)];simp
  have f1:s.tm 1=slOf b intC m:=by rw [f.t 1 (by simp)];simp
  have fd:s.df=[]:=by rw [f.d];simp
  clear f
  by_cases hlt:i<l.length
  ·have hw:=jl hlt (by omega)
   have hlt2:i<m.length:=by omega
   have h1:=il l i hlt
   have h2:=il m i hlt2
   cases hne:(l[i] != m[i])
   ·have he:l[i]=m[i]:=by simpa using hne
    simp [h5,f0,f1,hlt,hlt2,j7 jD,h1,h2,hne,hw]
    rw [List.take_succ_eq_append_getElem hlt,List.take_succ_eq_append_getElem hlt2,hT,he]
   ·have hn:l[i]≠m[i]:=by simpa using hne
    simp [h5,f0,f1,hlt,hlt2,j7 jD,h1,h2,hne]
    refine j4 (by simp [fd]) ?_ rfl
    have:(l == m)=false:=by
     rw [beq_eq_false_iff_ne]
     intro e
     subst e
     exact hn rfl
    simp [this]
  ·have:i=l.length:=by omega
   subst this
   simp [h5,f0]
   refine j4 (by simp [fd]) ?_ rfl
   have:l=m:=by rw [List.take_length,hlm,List.take_length] at hT;exact hT
   simp [this]
 ·have hne:((l.length:Int) != m.length)=true:=by simp;omega
  simp [F32,hne]
  refine j4 (by simp) ?_ rfl
  have:(l == m)=false:=by
   rw [beq_eq_false_iff_ne]
   intro e
   subst e
   exact hlm rfl
  simp [this]
end Go.Pv.T

/- Lists: whether a number is in one, where; the same places; what is committed. -/
namespace Go.Pv.T
open Go Go.Pv
theorem ev62 {a:Bool} (l:List Int) (hl:l.length≤1000000000) (k:Int):Ev E 62 [slOf a intC l,.int .i64 k] (.bool (l.contains k)):=by
 refine jR (af:=F62) rfl ?_
 obtain ⟨c,hc⟩:∃ c,l.contains k=c:=⟨_,rfl⟩
 rw [hc]
 simp [F62]
 refine jB [(4,30)] l.length (fun i s=>s.tm 5 = .int .i64 i∧(l.drop i).contains k=c) rfl rfl ⟨by simp,by simpa using hc⟩ ?_
 rintro i s hi ⟨h5,hT⟩ f
 have f0:s.tm 0=slOf a intC l:=by rw [f.t 0 (by simp)];simp
 have f1:s.tm 1 = .int .i64 k:=by rw [f.t 1 (by simp)];simp
 have fd:s.df=[]:=by rw [f.d];simp
 clear f
 by_cases hlt:i<l.length
 ·have hw:=jl hlt (by omega)
  have h1:=JL l hlt
  rw [List.drop_eq_getElem_cons hlt,List.contains_cons] at hT
  cases he:(l[i] == k)
  ·have he':(k == l[i])=false:=by rw [beq_eq_false_iff_ne] at he ⊢;exact fun e=>he e.symm
   rw [he',Bool.false_or] at hT
   simp [h5,f0,f1,hlt,j7 jD,h1,he,hw]
   simpa using hT
  ·have he':(k == l[i])=true:=by rw [beq_iff_eq] at he ⊢;exact he.symm
   rw [he',Bool.true_or] at hT
   simp [h5,f0,f1,hlt,j7 jD,h1,he]
   exact j4 (by simp [fd]) (by rw [← hT];simp) rfl
 ·have:i=l.length:=by omega
  subst this
  rw [List.drop_length] at hT
  simp [h5,f0]
  exact j4 (by simp [fd]) (by rw [← hT];simp) rfl
def idxI:List Int→Int→Nat→Int
 | [],_,_=>-1
 | x::r,k,n=>if k == x then n else idxI r k (n+1)
theorem jge (k:Int):∀ (l:List Int) (n:Nat),decide (idxI l k n<0) = !l.contains k
 | [],n=>rfl
 | x::r,n=>by
  rw [idxI,List.contains_cons]
  cases h:(k == x)
  ·simpa using jge k r (n+1)
  ·simp
theorem ev127 {a:Bool} (l:List Int) (hl:l.length≤1000000000) (k:Int):Ev E 127 [slOf a intC l,.int .i64 k] (.int .i64 (idxI l k 0)):=by
 refine jR (af:=F127) rfl ?_
 simp [F127]
 refine jB [(4,5),(8,30)] l.length (fun i s=>s.tm 8 = .int .i64 i∧idxI (l.drop i) k i=idxI l k 0) rfl rfl ⟨by simp,by simp⟩ ?_
 rintro i s hi ⟨h5,hT⟩ f
 have f0:s.tm 0=slOf a intC l:=by rw [f.t 0 (by simp)];simp
 have f1:s.tm 1 = .int .i64 k:=by rw [f.t 1 (by simp)];simp
 have f7:s.tm 7 = .int .i64 l.length:=by rw [f.t 7 (by simp)];simp
 have fd:s.df=[]:=by rw [f.d];simp
 clear f
 by_cases hlt:i<l.length
 ·have hw:=jl hlt (by omega)
  have h1:=JL l hlt
  rw [List.drop_eq_getElem_cons hlt,idxI] at hT
  cases he:(k == l[i])
  ·rw [he] at hT
   simp [h5,f0,f1,f7,hlt,j7 jD,h1,he,hw]
   simpa using hT
  ·rw [he] at hT
   simp [h5,f0,f1,f7,hlt,j7 jD,h1,he]
   exact j4 (by simp [fd]) (by rw [← hT];simp) rfl
 ·have:i=l.length:=by omega
  subst this
  rw [List.drop_length,idxI] at hT
  simp [h5,f7]
  exact j4 (by simp [fd]) (by rw [← hT];simp) rfl
theorem Yz (l:List (Int × Int)) (ob:Nat→Option Obj') {i:Nat} (h:i<l.length):QH ob (some 2) (.eptr (l.flatMap jG) (i * 2))=some (.agg [.int .i64 (l[i]).1,.int .i64 (l[i]).2]):=ja jX ob l h
def JE (t:Txn'):Bool:=t.f == 1
def comH (g:Hist'):List Int:=if jm g then numsTo JE g.ts g.ts.length else []
theorem j1j {g:Hist'} (hs:Small g):∃ v,Ev E 71 [.agg (j3 g)] v∧SlR v (comH g).isEmpty (comH g).length ((comH g).flatMap intC):=by
 have e83:=ev52 hs
 have hts:=hs.ts
 refine Xi (af:=F71) rfl (by decide) ?_
 unfold comH
 cases hw:jm g
 ·rw [hw] at e83
  simp [F71,j3,j2]
  refine jL e83 (by simp [j3]) rfl (by simp [j3]) ?_
  simp
  exact slE (t:=none) (nl:=true) (k:=0) (cs:=[]) (fun r h=>h) (by simp) (by simp)
 rw [hw] at e83
 simp [F71,j3,j2]
 refine jL e83 (by simp [j3]) rfl (by simp [j3]) ?_
 simp [j2]
 refine jB [(3,5),(12,24)] g.ts.length (fun i s=>s.tm 12 = .int .i64 i∧Grow s.tk 0 s.nx intC 1 (numsTo JE g.ts i) (s.tm 3)) rfl rfl ⟨by simp,by simp [numsTo];exact Grow.nil _ _ _ _ _⟩ ?_
 rintro i s hi ⟨h12,hG⟩ f
 have f10:s.tm 10=slOf g.tn txnC g.ts:=by rw [f.t 10 (by simp)];simp
 have f11:s.tm 11 = .int .i64 g.ts.length:=by rw [f.t 11 (by simp)];simp
 have fd:s.df=[]:=by rw [f.d];simp
 have fb:s.fb=0:=by rw [f.b];simp
 have fr:s.ro=0:=by rw [f.r];simp
 clear f
 by_cases hlt:i<g.ts.length
 ·have hw:=jl hlt (by omega)
  have hsn:=JC (p:=JE) hlt
  obtain ⟨t,ht⟩:∃ t,g.ts[i]=t:=⟨_,rfl⟩
  rw [ht] at hsn
  have hll:=J8 JE g.ts i
  cases hi:JE t
  ·have hi':(t.f == 1)=false:=hi
   rw [hi] at hsn
   simp only [Bool.false_eq_true,if_false,List.append_nil] at hsn
   simp [h12,f10,f11,hlt,j7 j9,ja j9,ht,txnC,j2,fb,fr,splice,hi',hw]
   rw [hsn];exact hG.mono (fun u _ _ h=>by simpa [jv] using h) (by omega)
  ·have hi':(t.f == 1)=true:=hi
   rw [hi] at hsn
   simp only [if_true] at hsn
   simp [h12,f10,f11,hlt,j7 j9,ja j9,ht,txnC,j2,fb,fr,splice,hi']
   refine jK (cs:=[.int .i64 i]) (by simp [splice]) rfl rfl ?_
   simp
   refine XQ (f:=intC) (lo:=0) (hi:=s.nx) (l:=numsTo JE g.ts i) (a:=(i:Int)) (v:=s.tm 3) (hG.mono (fun u _ _ h=>by simp [ji,h]) (Nat.le_refl _)) (by simp) (by simp [jM,intC]) jD (by decide) rfl (by omega) (by omega) (fun del hdel=>?_)
   have hne:numsTo JE g.ts (i+1)≠[]:=by rw [hsn];simp
   have hlen:(numsTo JE g.ts i).length+1=(numsTo JE g.ts (i+1)).length:=by rw [hsn];simp
   rw [← hsn,hlen]
   simp [h12,hw]
   exact ⟨hlt,.inr ⟨hne,_,rfl,by simp [ji],Nat.zero_le _,by omega⟩⟩
 ·have:i=g.ts.length:=by omega
  subst this
  obtain ⟨t,ht⟩:=hG.form
  simp [h12,f11]
  exact slE (t:=t) (nl:=(numsTo JE g.ts g.ts.length).isEmpty) (k:=(numsTo JE g.ts g.ts.length).length) (cs:=(numsTo JE g.ts g.ts.length).flatMap intC) (fun r h=>h) (by simp [fd]) (by simp [ht])
end Go.Pv.T

/- Reads that see what others wrote. -/
namespace Go.Pv.T
open Go Go.Pv
theorem ev84n (t:Txn') (ht:t.ops.length≤1000000) (k:Int) {n:Nat} (hn:n≤t.ops.length):Ev E 84 [.agg (txnC t),.int .i64 n,.int .i64 k] (.tup [.agg (J9 (js k t.ops n).1),.bool (js k t.ops n).2]):=by
 refine jR (af:=F84) rfl ?_
 simp [F84,txnC,j2,splice]
 refine jB [(9,10),(12,45)] n (fun i s=>s.tm 10 = .int .i64 i∧s.ob 6=some ⟨0,.cells (txnC t)⟩∧s.ob 12=some ⟨64,.cells [.int .i64 0,.int .i64 0]⟩∧s.ob 16=some ⟨256,.cells (J9 (js k t.ops i).1)⟩∧s.tm 9 = .bool (js k t.ops i).2) rfl rfl
  ⟨by simp,by simp [txnC],by simp,by simp [js,J9],by simp [js]⟩ ?_
 rintro i s hi ⟨h10,o6,o12,o16,h9⟩ f
 have f1:s.tm 1 = .int .i64 n:=by rw [f.t 1 (by simp)];simp
 have f2:s.tm 2 = .int .i64 k:=by rw [f.t 2 (by simp)];simp
 have f3:s.tm 3 = .ptr 6 0 0:=by rw [f.t 3 (by simp)];simp
 have f6:s.tm 6 = .ptr 12 64 0:=by rw [f.t 6 (by simp)];simp
 have f8:s.tm 8 = .ptr 16 256 0:=by rw [f.t 8 (by simp)];simp
 have fd:s.df=[]:=by rw [f.d];simp
 have fr:s.ro=0:=by rw [f.r];simp
 clear f
 by_cases hin:i<n
 ·have hlt:i<t.ops.length:=by omega
  have hw:=jl hlt (by omega)
  have hs:=Wc (k:=k) hlt
  obtain ⟨o,ho⟩:∃ o,t.ops[i]=o:=⟨_,rfl⟩
  rw [ho] at hs
  have a0:(t.ops.flatMap opC)[i * 4]? = some (.bool o.w):=by
   have:=je jJ t.ops hlt (by decide:0<4)
   rw [Nat.add_zero,ho] at this
   rw [this];rfl
  have a1:(t.ops.flatMap opC)[i * 4+1]? = some (.int .i64 o.key):=by
   rw [je jJ t.ops hlt (by decide:1<4),ho];rfl
  have a2:∀ ob,QH ob (some 2) (.eptr (t.ops.flatMap opC) (i * 4+2))=some (.agg (J9 o.v)):=fun ob=>by
   have hle:i * 4+4≤t.ops.length * 4:=by omega
   rw [jat,Wd,if_pos (by rw [jA jJ];omega)]
   have:=Yg jJ t.ops i hlt
   rw [ho] at this
   have e:((t.ops.flatMap opC).drop (i * 4+2)).take 2=((((t.ops.flatMap opC).drop (i * 4)).take 4).drop 2):=by
    rw [List.drop_take,List.drop_drop]
   rw [e,this]
   rfl
  cases hwk:o.w
  ·have hk:wkB k o=false:=by unfold wkB;rw [hwk];rfl
   rw [hk] at hs
   simp only [Bool.false_eq_true,if_false] at hs
   simp [h10,f1,f3,o6,j2,txnC,hin,hlt,j7 jJ,a0,hwk,hw,o12,o16,h9]
   exact ⟨by rw [hs],by rw [hs]⟩
  ·cases hke:(o.key == k)
   ·have hk:wkB k o=false:=by unfold wkB;rw [hwk,hke];rfl
    rw [hk] at hs
    simp only [Bool.false_eq_true,if_false] at hs
    simp [h10,f1,f2,f3,o6,j2,txnC,hin,hlt,j7 jJ,a0,a1,hwk,hke,hw,o12,o16,h9]
    exact ⟨by rw [hs],by rw [hs]⟩
   ·have hk:wkB k o=true:=by unfold wkB;rw [hwk,hke];rfl
    rw [hk] at hs
    simp only [if_true] at hs
    simp [h10,f1,f2,f3,f8,o6,j2,txnC,hin,hlt,j7 jJ,a0,a1,a2,hwk,hke,hw,o12,o16,J9,fr,splice]
    rw [hs]
    simp
 ·have:i=n:=by omega
  subst this
  simp [h10,f1,f8,o16,j2,h9,f6,o12,J9,fr,splice]
  exact JD (by simp [fd]) (l:=[.agg (J9 (js k t.ops i).1),.bool (js k t.ops i).2]) (by simp [jn,j2,f6,J9]) rfl rfl
theorem j61 {g:Hist'} (hs:Small g) (a b:Int):Ev E 120 [.agg (j3 g),.agg (jG (a,b))] (.bool (opAt g a b).isSome):=by
 have e32:=ev58 hs
 have hts:=hs.ts
 refine jR (af:=F120) rfl ?_
 obtain ⟨R,hR⟩:∃ R,opAt g a b=R:=⟨_,rfl⟩
 rw [hR]
 unfold opAt at hR
 simp [F120,j3,j2,jG]
 refine Jp e32 (by simp [j3]) rfl (by simp [j3]) ?_
 cases hm:X6 g
 ·rw [jao hm]
  rw [hm] at hR
  subst hR
  simp
  exact j4 (by simp) (by simp) rfl
 rw [hm] at hR
 rw [W5 hm]
 by_cases k1n:a<0
 ·have k1:¬ 0≤a:=by omega
  rw [if_neg (by simp;omega)] at hR
  subst hR
  simp [k1,j2]
  exact j4 (by simp) (by simp) rfl
 have k1:0≤a:=by omega
 by_cases k2n:(g.ts.length:Int)≤a
 ·have k2:¬ (a<(g.ts.length:Int)):=by omega
  rw [if_neg (by simp;omega)] at hR
  subst hR
  simp [k1,k2,j2]
  exact j4 (by simp) (by simp) rfl
 have k2:a<(g.ts.length:Int):=by omega
 by_cases k3n:b<0
 ·have k3:¬ 0≤b:=by omega
  rw [if_neg (by simp;omega)] at hR
  subst hR
  simp [k1,k2,k3,j2]
  exact j4 (by simp) (by simp) rfl
 have k3:0≤b:=by omega
 obtain ⟨i,rfl⟩:∃ i:Nat,a=i:=⟨a.toNat,by omega⟩
 have hi:i<g.ts.length:=by omega
 rw [Int.toNat_natCast,jr hi] at hR
 obtain ⟨t,ht⟩:∃ t,g.ts[i]=t:=⟨_,rfl⟩
 rw [ht] at hR
 have hl3:(g.ts.flatMap txnC)[i * 3+2]? = some (slOf t.nl opC t.ops):=by
  rw [je j9 g.ts hi (by decide:2<3),ht];rfl
 by_cases k4n:(t.ops.length:Int)≤b
 ·have k4:¬ (b<(t.ops.length:Int)):=by omega
  rw [if_neg (by simp;omega)] at hR
  subst hR
  simp [k1,k2,k3,k4,j2,hi,j7 j9,hl3]
  exact j4 (by simp) (by simp) rfl
 have k4:b<(t.ops.length:Int):=by omega
 obtain ⟨j,rfl⟩:∃ j:Nat,b=j:=⟨b.toNat,by omega⟩
 have hj:j<t.ops.length:=by omega
 rw [if_pos (by simp;omega),Int.toNat_natCast,List.getElem?_eq_getElem hj] at hR
 subst hR
 simp [k1,k2,k3,k4,j2,hi,j7 j9,hl3]
 exact j4 (by simp) (by simp) rfl
end Go.Pv.T

/- Reads that see what others wrote: the reference's own, and both Outers. -/
namespace Go.Pv.T
open Go Go.Pv
def jjj (g:Hist') (a b:Int):Val' × Bool:=match opAt g a b with
 | some o=>js o.key (g.ts.getD a.toNat ⟨0,0,true,[]⟩).ops b.toNat
 | none=>(⟨0,0⟩,false)
def Jz (g:Hist') (a b:Int):Bool:=match opAt g a b with
 | some o=>!o.w && !(jjj g a b).2
 | none=>false
theorem ev121 {g:Hist'} (hs:Small g) (a b:Int):Ev E 121 [.agg (j3 g),.agg (jG (a,b))] (.tup [.agg (J9 (jjj g a b).1),.bool (jjj g a b).2]):=by
 have e131:=j61 hs a b
 refine jR (af:=F121) rfl ?_
 unfold jjj
 cases hop:opAt g a b with
 | none =>
  rw [hop] at e131
  simp [F121,j3,jG,j2]
  refine jL e131 (by simp [j3,jG]) rfl (by simp [j3,jG]) ?_
  simp [j2,splice]
  exact JD (by simp) (l:=[.agg (J9 ⟨0,0⟩),.bool false]) (by simp [jn,j2,J9]) rfl rfl
 | some o =>
  rw [hop] at e131
  obtain ⟨i,j,rfl,rfl,hi,hj,ho⟩:=Qf hop
  have hos:=hs.os _ (List.getElem_mem hi)
  have e78:=ev84n g.ts[i] (by omega) o.key (n:=j) (by omega)
  simp only [Int.toNat_natCast]
  rw [jr hi]
  have hl3:(g.ts.flatMap txnC)[i * 3+2]? = some (slOf (g.ts[i]).nl opC (g.ts[i]).ops):=by
   rw [je j9 g.ts hi (by decide:2<3)];rfl
  have hlk:((g.ts[i]).ops.flatMap opC)[j * 4+1]? = some (.int .i64 o.key):=by
   rw [je jJ (g.ts[i]).ops hj (by decide:1<4),ho];rfl
  simp [F121,j3,jG,j2]
  refine jL e131 (by simp [j3,jG]) rfl (by simp [j3,jG]) ?_
  simp [j2,hi,hj,j7 j9,j7 jJ,ja j9,hl3,hlk]
  refine Jp e78 (by simp [txnC]) rfl (by simp [txnC]) ?_
  rw [JB (by simp [V.plain,J9])]
  generalize (js o.key g.ts[i].ops j).1=rv at *
  generalize (js o.key g.ts[i].ops j).2=rb at *
  simp [J9,j2,splice]
  exact JD (by simp) (l:=[.agg [.int .i64 rv.kind,.int .i64 rv.n],.bool rb]) (by simp [jn,j2]) rfl rfl
theorem ev74 {g:Hist'} (hs:Small g) (a b:Int):Ev E 74 [.agg (j3 g),.agg (jG (a,b))] (.bool (Jz g a b)):=by
 have e131:=j61 hs a b
 have e132:=ev121 hs a b
 refine jR (af:=F74) rfl ?_
 unfold Jz
 cases hop:opAt g a b with
 | none =>
  rw [hop] at e131
  simp [F74,j3,jG,j2]
  refine Jp e131 (by simp [j3,jG]) rfl (by simp [j3,jG]) ?_
  simp
  exact j4 (by simp) (by simp) rfl
 | some o =>
  rw [hop] at e131
  obtain ⟨i,j,rfl,rfl,hi,hj,ho⟩:=Qf hop
  have hl3:(g.ts.flatMap txnC)[i * 3+2]? = some (slOf (g.ts[i]).nl opC (g.ts[i]).ops):=by
   rw [je j9 g.ts hi (by decide:2<3)];rfl
  have hlw:((g.ts[i]).ops.flatMap opC)[j * 4]? = some (.bool o.w):=by
   have:=je jJ (g.ts[i]).ops hj (by decide:0<4)
   rw [Nat.add_zero,ho] at this
   rw [this];rfl
  simp [F74,j3,jG,j2]
  refine Jp e131 (by simp [j3,jG]) rfl (by simp [j3,jG]) ?_
  generalize jjj g (i:Int) (j:Int)=ow at *
  cases hw:o.w
  ·simp [j2,hi,hj,j7 j9,j7 jJ,hl3,hlw,hw]
   refine jL e132 (by simp [j3,jG]) rfl (by simp [j3,jG]) ?_
   rw [JB (by simp [V.plain,J9])]
   simp [J9,j2,splice]
   exact j4 (by simp) (by simp) rfl
  ·simp [j2,hi,hj,j7 j9,j7 jJ,hl3,hlw,hw]
   exact j4 (by simp) (by simp) rfl
end Go.Pv.T

/- Reads that see what others wrote: the given Outer. -/
namespace Go.Pv.T
open Go Go.Pv
theorem ev136 {g:Hist'} (hs:Small g) (a b:Int):Ev E 136 [.agg (j3 g),.agg (jG (a,b))] (.bool (Jz g a b)):=by
 have e129:=j0f hs a
 refine jR (af:=F136) rfl ?_
 unfold Jz
 cases hop:opAt g a b with
 | none =>
  simp [F136,j3,jG,j2]
  refine jL e129 (by simp [j3]) rfl (by simp [j3]) ?_
  rw [YX rfl,jP]
  have hout:b<0∨((XM g a).2.length:Int)≤b:=by
   unfold opAt at hop
   unfold XM
   by_cases h1:(X6 g && (decide (0≤a) && decide (a<g.ts.length)))=true
   ·rw [if_pos h1]
    simp only [Bool.and_eq_true,decide_eq_true_eq] at h1
    by_cases h2:b<0
    ·exact .inl h2
    ·by_cases h3:b<((g.ts.getD a.toNat ⟨0,0,true,[]⟩).ops.length:Int)
     ·rw [if_pos (by simp only [Bool.and_eq_true,decide_eq_true_eq];exact ⟨h1.1,h1.2.1,h1.2.2,by omega,h3⟩)] at hop
      rw [List.getElem?_eq_none_iff] at hop
      exact absurd hop (by omega)
     ·exact .inr (Int.not_lt.1 h3)
   ·rw [if_neg h1]
    by_cases h2:b<0
    ·exact .inl h2
    ·exact .inr (by simp;omega)
  generalize XM g a=oo at *
  by_cases h1:b<0
  ·simp [j2,h1]
   exact j4 (by simp) (by simp) rfl
  ·have h2:(oo.2.length:Int)≤b:=by rcases hout with h | h;exact absurd h h1;exact h
   simp [j2,h1,h2]
   exact j4 (by simp) (by simp) rfl
 | some o =>
  have hmay:X6 g=true:=by
   unfold opAt at hop
   cases hm:X6 g
   ·rw [hm] at hop;cases hop
   ·rfl
  unfold jjj
  rw [hop]
  obtain ⟨i,j,rfl,rfl,hi,hj,ho⟩:=Qf hop
  simp only [Int.toNat_natCast]
  rw [jr hi]
  have hoo:XM g (i:Int)=((g.ts[i]).nl,(g.ts[i]).ops):=by
   unfold XM
   rw [hmay,if_pos (by simp;omega)]
   simp only [Int.toNat_natCast]
   rw [jr hi]
  rw [hoo] at e129
  have hos:=hs.os _ (List.getElem_mem hi)
  have hlw:((g.ts[i]).ops.flatMap opC)[j * 4]? = some (.bool o.w):=by
   have:=je jJ (g.ts[i]).ops hj (by decide:0<4)
   rw [Nat.add_zero,ho] at this
   rw [this];rfl
  have hlk:((g.ts[i]).ops.flatMap opC)[j * 4+1]? = some (.int .i64 o.key):=by
   rw [je jJ (g.ts[i]).ops hj (by decide:1<4),ho];rfl
  have n1:decide ((j:Int)<0)=false:=by simp
  have n2:decide (((g.ts[i]).ops.length:Int)≤j)=false:=by simp;omega
  have n3:((g.ts[i]).ops.length≤j)=False:=by simp;omega
  have n4:(((g.ts[i]).ops.length:Int)≤j)=False:=by simp;omega
  have hle:j≤(g.ts[i]).ops.length:=by omega
  have hsl:jaf 4 none (some (.int .i64 (j:Int))) (slOf (g.ts[i]).nl opC (g.ts[i]).ops)=some (slOf (g.ts[i]).nl opC ((g.ts[i]).ops.take j)):=by
   have h1:=ji6 (kk:=.i64) (t:=none) (nl:=(g.ts[i]).nl) (sz:=4) (cs:=(g.ts[i]).ops.flatMap opC) (n:=(g.ts[i]).ops.length) (k:=j) hle (jA jJ _)
   refine Eq.trans h1 ?_
   have h2:((g.ts[i]).ops.flatMap opC).take (j * 4)=((g.ts[i]).ops.take j).flatMap opC:=by
    conv=>lhs;rw [← List.take_append_drop j (g.ts[i]).ops,List.flatMap_append]
    rw [List.take_left']
    rw [jA jJ,List.length_take,Nat.min_eq_left hle]
   rw [h2,slOf,List.length_take,Nat.min_eq_left hle]
  have e130:=j0e (g.ts[i]).nl ((g.ts[i]).ops.take j) (by rw [List.length_take];omega) o.key
  have hlast:(WP ((g.ts[i]).ops.take j) o.key).2=(js o.key (g.ts[i]).ops j).2:=by
   unfold WP
   rw [Qa _ _ _ (Nat.le_refl _),Qa _ _ _ hle,List.take_length]
  simp [F136,j3,jG,j2]
  refine jL e129 (by simp [j3]) rfl (by simp [j3]) ?_
  rw [YX rfl,jP]
  cases hw:o.w
  ·simp [j2,n1,n4,hj,j7 jJ,hlw,hw]
   simp [hsl,hlk,hj,j7 jJ,j2]
   refine Jp e130 (by simp) rfl (by simp) ?_
   rw [JB (by simp [V.plain,J9])]
   rw [← hlast]
   generalize WP ((g.ts[i]).ops.take j) o.key=lw at *
   simp [J9,j2,splice]
   refine ⟨by simp [X5,Wv,jdr,jaz,rdOb,rdTk,lOf,Delta.wo,Delta.wt];try decide,?_⟩
   exact j4 (by simp) (by simp) rfl
  ·simp [j2,n1,n4,hj,j7 jJ,hlw,hw]
   exact j4 (by simp) (by simp) rfl
end Go.Pv.T

/- The reads that count: the reference's list. -/
namespace Go.Pv.T
open Go Go.Pv
def jo (g:Hist') (i:Nat):Nat→List (Int × Int)
 | 0=>[]
 | k+1=>jo g i k++(if Jz g i k then [((i:Int),(k:Int))] else [])
def JU (g:Hist'):Nat→List (Int × Int)
 | 0=>[]
 | i+1=>JU g i++(match g.ts[i]? with | some t=>if JE t then jo g i t.ops.length else [] | none=>[])
def readH (g:Hist'):List (Int × Int):=JU g g.ts.length
theorem YY (g:Hist') (i:Nat):∀ k,(jo g i k).length≤k
 | 0=>Nat.le_refl _
 | k+1=>by
  have:=YY g i k
  simp only [jo,List.length_append]
  split <;> simp <;> omega
set_option maxRecDepth 100000 in
theorem Wb {g:Hist'} (hs:Small g):∀ i,(JU g i).length≤i * 1000
 | 0=>Nat.zero_le _
 | i+1=>by
  have:=Wb hs i
  simp only [JU,List.length_append]
  rw [show (i+1) * 1000=i * 1000+1000 by omega]
  split
  ·rename_i t ht
   have h1:=YY g i t.ops.length
   have h2:=hs.os t (List.mem_of_getElem? ht)
   split
   ·omega
   ·simp only [List.length_nil];omega
  ·simp only [List.length_nil];omega
theorem jco {g:Hist'} {i:Nat} (h:i<g.ts.length):JU g (i+1)=JU g i++(if JE g.ts[i] then jo g i (g.ts[i]).ops.length else []):=by
 simp only [JU,List.getElem?_eq_getElem h]
set_option maxRecDepth 100000 in
theorem ev31 {g:Hist'} (hs:Small g):∃ v,Ev E 31 [.agg (j3 g)] v∧SlR v false (readH g).length ((readH g).flatMap jG):=by
 have hts:=hs.ts
 refine Xi (af:=F31) rfl (by decide) ?_
 simp [F31,j3]
 refine jK (cs:=[]) rfl rfl rfl ?_
 simp
 refine jB [(3,6),(8,44)] g.ts.length (fun i s=>s.tm 4 = .int .i64 i∧s.ob 2=some ⟨0,.cells (j3 g)⟩∧GrowT s.tk s.nx jG 2 (JU g i) (s.tm 3)) rfl rfl ⟨by simp,by simp [j3],by rw [JU];exact ⟨128,by simp,by simp [ji],by simp⟩⟩ ?_
 rintro i s hi ⟨h4,o2,hG⟩ f
 have f1:s.tm 1 = .ptr 2 0 0:=by rw [f.t 1 (by simp)];simp
 have fd:s.df=[]:=by rw [f.d];simp
 have fb:s.fb=0:=by rw [f.b];simp
 have fr:s.ro=0:=by rw [f.r];simp
 clear f
 by_cases hlt:i<g.ts.length
 ·have hw:=jl hlt (by omega)
  simp [h4,f1,o2,j2,j3,hlt]
  refine jB [(3,3),(5,6),(15,44)] (g.ts[i]).ops.length (fun k s'=>s'.tm 5 = .int .i64 k∧s'.ob 2=some ⟨0,.cells (j3 g)⟩∧GrowT s'.tk s'.nx jG 2 (JU g i++(if JE g.ts[i] then jo g i k else [])) (s'.tm 3)) rfl rfl ⟨by simp,by simp [o2],by simp [jo];exact hG.mono (fun _ _ h=>h) (by omega)⟩ ?_
  rintro k s' hk ⟨h5,o2',hG'⟩ f
  have e1:s'.tm 1 = .ptr 2 0 0:=by rw [f.t 1 (by simp)];simp [f1]
  have e4:s'.tm 4 = .int .i64 i:=by rw [f.t 4 (by simp)];simp [h4]
  have ed:s'.df=[]:=by rw [f.d];simp [fd]
  have eb:s'.fb=0:=by rw [f.b];simp [fb]
  have er:s'.ro=0:=by rw [f.r];simp [fr]
  clear f
  have e90:=ev74 hs (i:Int) (k:Int)
  have hos:=hs.os _ (List.getElem_mem hlt)
  have hff:(g.ts.flatMap txnC)[i * 3+1]? = some (.int .i64 (g.ts[i]).f):=by
   rw [je j9 g.ts hlt (by decide:1<3)];rfl
  have hfo:(g.ts.flatMap txnC)[i * 3+2]? = some (slOf (g.ts[i]).nl opC (g.ts[i]).ops):=by
   rw [je j9 g.ts hlt (by decide:2<3)];rfl
  by_cases hkt:k<(g.ts[i]).ops.length
  ·have hw':=jl hkt (by omega)
   have hll:(JU g i++(if JE g.ts[i] then jo g i k else [])).length≤1001000:=by
    have h1:=Wb hs i
    have h2:=YY g i k
    have:i * 1000≤1000 * 1000:=Nat.mul_le_mul_right _ (by omega)
    rw [List.length_append]
    split
    ·omega
    ·simp only [List.length_nil];omega
   cases hc:JE g.ts[i]
   ·have hc':((g.ts[i]).f == 1)=false:=hc
    rw [hc] at hG'
    simp [h5,e1,e4,o2',j2,j3,hlt,j7 j9,hfo,hff,hkt,splice,eb,er,hc',hw']
    simpa using hG'.mono (fun u _ h=>by simpa [jv] using h) (by omega)
   ·have hc':((g.ts[i]).f == 1)=true:=hc
    rw [hc] at hG' hll
    simp only [if_true] at hG' hll
    simp [h5,e1,e4,o2',j2,j3,hlt,j7 j9,hfo,hff,hkt,splice,eb,er,hc']
    refine jL e90 (by simp [j3,jG]) rfl (by simp [j3,jG]) ?_
    cases ho:Jz g i k
    ·simp [h5,hw',o2',j3]
     have hstep:jo g i (k+1)=jo g i k:=by rw [jo,ho];simp
     rw [hstep]
     exact ⟨hkt,hG'.mono (fun u _ h=>by simpa [jv] using h) (by omega)⟩
    ·simp [j2]
     have hstep:JU g i++jo g i (k+1)=(JU g i++jo g i k)++[((i:Int),(k:Int))]:=by rw [jo,ho,List.append_assoc];simp
     refine jK (cs:=jG (i,k)) (by simp [splice,jG]) rfl rfl ?_
     simp
     refine Xv (f:=jG) (hi:=s'.nx) (l:=JU g i++jo g i k) (a:=((i:Int),(k:Int))) (v:=s'.tm 3) (hG'.mono (fun u _ h=>by simp [ji,h]) (Nat.le_refl _)) (by simp) (by simp [jM,jG]) jX (by decide) rfl (by omega) (by omega) (fun del hdel=>?_)
     have hlen:(JU g i++jo g i k).length+1=(JU g i++jo g i (k+1)).length:=by rw [hstep,List.length_append (bs:=[_])];rfl
     rw [← hstep,hlen]
     obtain ⟨L,hL⟩:∃ L,JU g i++jo g i (k+1)=L:=⟨_,rfl⟩
     rw [hL]
     simp [h5,hw',o2',j3,hL]
     exact ⟨hkt,_,rfl,by simp [ji],by omega⟩
  ·have:k=(g.ts[i]).ops.length:=by omega
   subst this
   simp [h5,e1,e4,o2',j2,j3,hlt,j7 j9,hfo,hw]
   rw [jco hlt]
   exact hG'.mono (fun _ _ h=>h) (by omega)
 ·have:i=g.ts.length:=by omega
  subst this
  obtain ⟨u,hv,_,_⟩:=hG
  simp [h4,f1,o2,j2,j3]
  exact slE (t:=some (u,2)) (nl:=false) (k:=(readH g).length) (cs:=(readH g).flatMap jG) (fun r h=>h) (by simp [fd]) (by simp [hv,readH])
end Go.Pv.T

/- The reads that count: the given list. -/
namespace Go.Pv.T
open Go Go.Pv
def rdOf (g:Hist') (x:Int):List (Int × Int):=jo g x.toNat (g.ts.getD x.toNat ⟨0,0,true,[]⟩).ops.length
theorem jjd {g:Hist'} {i:Nat} (h:i<g.ts.length):rdOf g i=jo g i (g.ts[i]).ops.length:=by
 unfold rdOf
 rw [Int.toNat_natCast,jr h]
theorem jcq {g:Hist'}:∀ n,n≤g.ts.length→(numsTo JE g.ts n).flatMap (rdOf g)=JU g n
 | 0,_=>rfl
 | n+1,h=>by
  rw [JC (by omega),jco (by omega),List.flatMap_append,jcq n (by omega)]
  cases JE g.ts[n]
  ·rfl
  ·simp [jjd (show n<g.ts.length by omega)]
def jaj (g:Hist'):List (Int × Int):=if jm g then readH g else []
theorem jmt (g:Hist'):(comH g).flatMap (rdOf g)=jaj g:=by
 unfold comH jaj
 split
 ·exact jcq _ (Nat.le_refl _)
 ·rfl
theorem j0k {g:Hist'}:∀ x∈comH g,0≤x∧x<g.ts.length:=by
 unfold comH
 split
 ·exact (Ya (p:=JE) (ts:=g.ts) _ (Nat.le_refl _)).1
 ·simp
theorem jvu (g:Hist'):(comH g).length≤g.ts.length:=by
 unfold comH
 split
 ·exact J8 _ _ _
 ·simp
theorem jb7 {g:Hist'} (hs:Small g):∀ (l:List Int),(∀ x∈l,0≤x∧x<g.ts.length)→(l.flatMap (rdOf g)).length≤l.length * 1000
 | [],_=>Nat.zero_le _
 | x::l,h=>by
  obtain ⟨h1,h2⟩:=h x (List.mem_cons_self ..)
  obtain ⟨i,rfl⟩:∃ i:Nat,x=i:=⟨x.toNat,by omega⟩
  have hi:i<g.ts.length:=by omega
  have:=jb7 hs l fun y hy=>h y (List.mem_cons_of_mem _ hy)
  have h3:=YY g i (g.ts[i]).ops.length
  have h4:=hs.os _ (List.getElem_mem hi)
  rw [List.flatMap_cons,List.length_append,jjd hi,List.length_cons,Nat.succ_mul]
  omega
end Go.Pv.T

/- The reads that count: the given list's walk. -/
namespace Go.Pv.T
open Go Go.Pv
set_option maxRecDepth 100000 in
theorem ev86 {g:Hist'} (hs:Small g):∃ v,Ev E 86 [.agg (j3 g)] v∧SlR v (jaj g).isEmpty (jaj g).length ((jaj g).flatMap jG):=by
 have hts:=hs.ts
 obtain ⟨vc,evc,hvc⟩:=j1j hs
 have hCl:=jvu g
 have hClt:=j0k (g:=g)
 rw [← jmt]
 generalize comH g=C at *
 obtain ⟨L,hL⟩:∃ L,C.flatMap (rdOf g)=L:=⟨_,rfl⟩
 rw [hL]
 refine Xi (af:=F86) rfl (by decide) ?_
 simp [F86,j3,j2]
 refine jL evc (by simp [j3]) rfl (by simp [j3]) ?_
 refine XH hvc fun tc addc=>?_
 simp
 refine jB [(3,7),(11,36)] C.length (fun i s=>s.tm 11 = .int .i64 i∧s.ob 2=some ⟨0,.cells (j3 g)⟩∧Grow s.tk 0 s.nx jG 2 ((C.take i).flatMap (rdOf g)) (s.tm 3)) rfl rfl ⟨by simp,by simp [j3],by simp;exact Grow.nil _ _ _ _ _⟩ ?_
 rintro i s hi ⟨h11,o2,hG⟩ f
 have f1:s.tm 1 = .ptr 2 0 0:=by rw [f.t 1 (by simp)];simp
 have f9:s.tm 9 = .sl tc C.isEmpty C.length (C.flatMap intC):=by rw [f.t 9 (by simp)];simp
 have f10:s.tm 10 = .int .i64 C.length:=by rw [f.t 10 (by simp)];simp
 have fd:s.df=[]:=by rw [f.d];simp
 have fb:s.fb=0:=by rw [f.b];simp
 have fr:s.ro=0:=by rw [f.r];simp
 clear f
 by_cases hlt:i<C.length
 ·have hw:=jl hlt (by omega)
  obtain ⟨x,hx⟩:∃ x,C[i]=x:=⟨_,rfl⟩
  obtain ⟨x1,x2⟩:=hClt x (hx ▸ List.getElem_mem hlt)
  obtain ⟨j,rfl⟩:∃ j:Nat,x=j:=⟨x.toNat,by omega⟩
  have hj:j<g.ts.length:=by omega
  have hci:=JL C hlt
  rw [hx] at hci
  have hfo:(g.ts.flatMap txnC)[j * 3+2]? = some (slOf (g.ts[j]).nl opC (g.ts[j]).ops):=by
   rw [je j9 g.ts hj (by decide:2<3)];rfl
  have hix:JH 1 (.sl tc C.isEmpty C.length (C.flatMap intC)) (.int .i64 (i:Int))=some (.eptr (C.flatMap intC) (i * 1)):=by
   simp only [Y4,jA jD]
   rw [if_pos (by simp;omega)]
   rfl
  rw [Nat.mul_one] at hix
  simp [h11,f1,f9,f10,o2,j2,j3,hlt,hix,hci,hj,j7 j9,hfo]
  obtain ⟨P,hP⟩:∃ P,(C.take i).flatMap (rdOf g)=P:=⟨_,rfl⟩
  have hPl:P.length≤1000000:=by
   have h1:=jb7 hs (C.take i) (fun x hx=>hClt x (List.mem_of_mem_take hx))
   rw [hP,List.length_take] at h1
   have:min i C.length * 1000≤1000 * 1000:=Nat.mul_le_mul_right _ (by omega)
   omega
  have hnext:(C.take (i+1)).flatMap (rdOf g)=P++jo g j (g.ts[j]).ops.length:=by
   rw [List.take_succ_eq_append_getElem hlt,List.flatMap_append,hP,hx]
   simp [jjd hj]
  rw [hP] at hG
  refine jB [(3,3),(6,7),(22,35)] (g.ts[j]).ops.length (fun k s'=>s'.tm 22 = .int .i64 k∧s'.ob 2=some ⟨0,.cells (j3 g)⟩∧Grow s'.tk 0 s'.nx jG 2 (P++jo g j k) (s'.tm 3)) rfl rfl ⟨by simp,by simp [o2],by simp [jo];exact hG.mono (fun _ _ _ h=>h) (by omega)⟩ ?_
  rintro k s' hk ⟨h22,o2',hG'⟩ f
  have e1:s'.tm 1 = .ptr 2 0 0:=by rw [f.t 1 (by simp)];simp [f1]
  have e5:s'.tm 5 = .int .i64 j:=by rw [f.t 5 (by simp)];simp
  have e11:s'.tm 11 = .int .i64 i:=by rw [f.t 11 (by simp)];simp [h11]
  have e21:s'.tm 21 = .int .i64 (g.ts[j]).ops.length:=by rw [f.t 21 (by simp)];simp
  have ed:s'.df=[]:=by rw [f.d];simp [fd]
  have eb:s'.fb=0:=by rw [f.b];simp [fb]
  have er:s'.ro=0:=by rw [f.r];simp [fr]
  clear f
  have e89:=ev136 hs (j:Int) (k:Int)
  have hos:=hs.os _ (List.getElem_mem hj)
  have hrl:=YY g j k
  by_cases hkt:k<(g.ts[j]).ops.length
  ·have hw':=jl hkt (by omega)
   simp [h22,e1,e5,e21,o2',j2,j3,hkt,splice,eb,er]
   refine jL e89 (by simp [j3,jG]) rfl (by simp [j3,jG]) ?_
   cases ho:Jz g j k
   ·have hstep:jo g j (k+1)=jo g j k:=by rw [jo,ho];simp
    simp [h22,hw',o2',j3]
    rw [hstep]
    exact ⟨hkt,hG'.mono (fun u _ _ h=>by simpa [jv] using h) (by omega)⟩
   ·have hstep:P++jo g j (k+1)=(P++jo g j k)++[((j:Int),(k:Int))]:=by rw [jo,ho,List.append_assoc];simp
    simp [j2]
    refine jK (cs:=jG (j,k)) (by simp [splice,jG]) rfl rfl ?_
    simp
    refine XQ (f:=jG) (lo:=0) (hi:=s'.nx) (l:=P++jo g j k) (a:=((j:Int),(k:Int))) (v:=s'.tm 3) (hG'.mono (fun u _ _ h=>by simp [ji,h]) (Nat.le_refl _)) (by simp) (by simp [jM,jG]) jX (by decide) rfl (by rw [List.length_append];omega) (by rw [List.length_append];omega) (fun del hdel=>?_)
    have hlen:(P++jo g j k).length+1=(P++jo g j (k+1)).length:=by rw [hstep,List.length_append (bs:=[_])];rfl
    have hne:P++jo g j (k+1)≠[]:=by rw [hstep];simp
    rw [← hstep,hlen]
    obtain ⟨M,hM⟩:∃ M,P++jo g j (k+1)=M:=⟨_,rfl⟩
    rw [hM] at hne ⊢
    simp [h22,hw',o2',j3,hM]
    exact ⟨hkt,.inr ⟨hne,_,rfl,by simp [ji],Nat.zero_le _,by omega⟩⟩
  ·have:k=(g.ts[j]).ops.length:=by omega
   subst this
   simp [h22,e11,e21,o2',j3,hw]
   rw [hnext]
   exact ⟨hlt,hG'.mono (fun _ _ _ h=>h) (by omega)⟩
 ·have:i=C.length:=by omega
  subst this
  rw [List.take_length,hL] at hG
  obtain ⟨t,ht⟩:=hG.form
  simp [h11,f10]
  exact slE (t:=t) (nl:=L.isEmpty) (k:=L.length) (cs:=L.flatMap jG) (fun r h=>h) (by simp [fd]) (by simp [ht])
end Go.Pv.T

/- The choices: lists of lists. -/
namespace Go.Pv.T
open Go Go.Pv
section
variable {E:Env} {st:St} {ub:Nat} {K:List FP→St→Prop} {d:Option Nat} {nm:Bool} {r:List AOpr}
theorem jnk {α:Type} {f:α→List V} {sz bytes hi:Nat} {l:List α} {a:α} {v:V} {s x:A} (hg:GrowT st.tk hi f sz l v) (hs:eval E st.tm s=v) (hx:jM st.ob sz (eval E st.tm x)=some (f a)) (hf:∀ a,(f a).length=sz) (h0:0<sz)
 (hp:(f a).all V.pureLeaf=true) (hb:(l.length+1) * bytes≤140737488355328) (hb2:l.length+1≤140737488355328)
 (h:∀ del:Option Nat,(∀ u,del=some u→u<hi)→Wt E r K (eval E st.tm) (.append false sz bytes s x) st d ub { v:=.sl (some (ub,sz)) false (l.length+1) ((l++[a]).flatMap f),del:=del,add:=[ub] }):jI E (⟨d,.append false sz bytes s x,none,nm⟩::r) st ub K:=by
 have hne:f a≠[]:=fun e=>by have:=hf a;rw [e] at this;simp at this;omega
 have h1:(f a).length / sz=1:=by rw [hf];exact Nat.div_self h0
 rw [JT rfl]
 obtain ⟨u,rfl,ht,h3⟩:=hg
 simp only [aop,hs,hx,Option.bind_some,if_neg hne,Bool.false_and,Bool.false_eq_true,if_false]
 rw [if_pos ⟨by rw [jA hf],h0,hp,by rw [h1];exact hb,by rw [h1];exact hb2⟩,if_pos (by simp [ht]),jP,h1]
 have:=h (some u) (fun u' e=>by cases e;exact h3)
 simpa using this
end
def jc5 (x:Bool × List Int):List V:=[.sl none x.1 x.2.length (x.2.flatMap intC)]
@[simp] theorem Qi (x:Bool × List Int):(jc5 x).length=1:=rfl
end Go.Pv.T

/- Bad reads of a transaction: the given list. -/
namespace Go.Pv.T
open Go Go.Pv
def j1m (ops:List Op') (k:Nat) (o:Op'):Bool:=!o.w && ((o.v.kind != 2) && ((js o.key ops k).2 && !(((js o.key ops k).1.kind == o.v.kind) && ((js o.key ops k).1.n == o.v.n))))
def Y9 (ops:List Op'):Nat→List Int
 | 0=>[]
 | k+1=>Y9 ops k++(match ops[k]? with | some o=>if j1m ops k o then [(k:Int)] else [] | none=>[])
theorem jny {ops:List Op'} {k:Nat} (h:k<ops.length):Y9 ops (k+1)=Y9 ops k++if j1m ops k ops[k] then [(k:Int)] else []:=by simp [Y9,List.getElem?_eq_getElem h]
theorem jij (ops:List Op'):∀ k,(Y9 ops k).length≤k
 | 0=>by simp [Y9]
 | k+1=>by
  have:=jij ops k
  simp only [Y9,List.length_append]
  split
  ·split <;> simp <;> omega
  ·simp;omega
def QO (g:Hist') (i:Int):List Int:=Y9 (XM g i).2 (XM g i).2.length
theorem jet (key:Int) (ops:List Op') (k:Nat):∀ j,j≤k→js key (ops.take k) j=js key ops j
 | 0,_=>rfl
 | j+1,h=>by
  simp only [js,jet key ops k j (by omega),List.getElem?_take_of_lt (show j<k by omega)]
theorem jna (key:Int) (ops:List Op') {k:Nat} (h:k≤ops.length):WP (ops.take k) key=js key ops k:=by
 unfold WP
 rw [List.length_take,Nat.min_eq_left h,jet key ops k k (Nat.le_refl _)]
theorem joq {nl:Bool} {ops:List Op'} {k:Nat} (h:k≤ops.length):jaf 4 none (some (.int .i64 (k:Int))) (slOf nl opC ops)=some (slOf nl opC (ops.take k)):=by
 have h1:=ji6 (kk:=.i64) (t:=none) (nl:=nl) (sz:=4) (cs:=ops.flatMap opC) (n:=ops.length) (k:=k) h (jA jJ _)
 refine Eq.trans h1 ?_
 have h2:(ops.flatMap opC).take (k * 4)=(ops.take k).flatMap opC:=by
  conv=>lhs;rw [← List.take_append_drop k ops,List.flatMap_append]
  rw [List.take_left']
  rw [jA jJ,List.length_take,Nat.min_eq_left h]
 rw [h2,slOf,List.length_take,Nat.min_eq_left h]
set_option maxRecDepth 100000 in
theorem ev114 {g:Hist'} (hs:Small g) (i:Int):∃ v,Ev E 114 [.agg (j3 g),.int .i64 i] v∧SlR v (QO g i).isEmpty (QO g i).length ((QO g i).flatMap intC):=by
 have e129:=j0f hs i
 have hol:=jhj hs i
 unfold QO
 refine Xi (af:=F114) rfl (by decide) ?_
 generalize XM g i=oo at *
 obtain ⟨nl,ops⟩:=oo
 simp only at e129 hol ⊢
 simp [F114,j3,j2]
 refine jL e129 (by simp [j3]) rfl (by simp [j3]) ?_
 rw [YX rfl,jP]
 simp
 refine jB [(5,5),(7,10),(16,49)] ops.length (fun k s=>s.tm 16 = .int .i64 k∧Grow s.tk 0 s.nx intC 1 (Y9 ops k) (s.tm 5)) rfl rfl ⟨by simp,by simp [Y9];exact Grow.nil _ _ _ _ _⟩ ?_
 rintro k s hk ⟨h16,hG⟩ f
 have f6:s.tm 6=slOf nl opC ops:=by rw [f.t 6 (by simp)];simp
 have f14:s.tm 14=slOf nl opC ops:=by rw [f.t 14 (by simp)];simp
 have f15:s.tm 15 = .int .i64 ops.length:=by rw [f.t 15 (by simp)];simp
 have fd:s.df=[]:=by rw [f.d];simp
 have fb:s.fb=0:=by rw [f.b];simp
 have fr:s.ro=0:=by rw [f.r];simp
 clear f
 by_cases hlt:k<ops.length
 ·have hw':=jl hlt (by omega)
  have hstep:=jny hlt
  have hbl:=jij ops k
  obtain ⟨o,ho⟩:∃ o,ops[k]=o:=⟨_,rfl⟩
  have hload:QH s.ob (some 4) (.eptr (ops.flatMap opC) (k * 4))=some (.agg (opC o)):=by rw [ja jJ s.ob ops hlt,ho]
  have hsl:=joq (nl:=nl) (ops:=ops) (k:=k) (by omega)
  have e130:=j0e nl (ops.take k) (by rw [List.length_take];omega) o.key
  rw [jna _ _ (by omega)] at e130
  rw [ho] at hstep
  unfold j1m at hstep
  cases hw:o.w
  ·rw [hw] at hstep
   cases hk2:(o.v.kind == 2)
   ·have hne2:(o.v.kind != 2)=true:=by simp only [bne,hk2,Bool.not_false]
    rw [hne2] at hstep
    simp only [Bool.not_false,Bool.true_and] at hstep
    simp [h16,f6,f14,f15,hlt,j7 jJ,hload,j2,opC,splice,fb,fr,hw,hk2,hsl]
    refine Jp e130 (by simp) rfl (by simp) ?_
    rw [JB (by simp [V.plain,J9])]
    generalize js o.key ops k=rv at *
    obtain ⟨rv,rb⟩:=rv
    simp only at hstep
    simp [J9,j2,splice,fb,fr]
    refine ⟨by simp [X5,Wv,jdr,jaz,rdOb,rdTk,lOf,Delta.wo,Delta.wt];try decide,?_⟩
    cases rb
    ·simp [h16,hw']
     simp only [Bool.false_and,Bool.false_eq_true,if_false,List.append_nil] at hstep
     rw [hstep]
     exact ⟨hlt,hG.mono (fun u _ hu h=>by simpa [jv] using h) (by omega)⟩
    ·cases heq:((rv.kind == o.v.kind) && (rv.n == o.v.n))
     ·rw [heq] at hstep
      simp only [Bool.true_and,Bool.not_false,if_true] at hstep
      simp [j2,heq]
      refine jK (cs:=intC k) (by simp [splice,intC]) rfl rfl ?_
      simp
      refine XQ (f:=intC) (lo:=0) (hi:=s.nx) (l:=Y9 ops k) (a:=(k:Int)) (v:=s.tm 5) (hG.mono (fun u _ _ h=>by simp [ji,h]) (Nat.le_refl _)) (by simp) (by simp [jM,intC]) jD (by decide) rfl (by omega) (by omega) (fun del hdel=>?_)
      have hlen:(Y9 ops k).length+1=(Y9 ops (k+1)).length:=by rw [hstep];simp
      have hne:Y9 ops (k+1)≠[]:=by rw [hstep];simp
      rw [← hstep,hlen]
      obtain ⟨M,hM⟩:∃ M,Y9 ops (k+1)=M:=⟨_,rfl⟩
      rw [hM] at hne ⊢
      simp [h16,hw',hM]
      exact ⟨hlt,.inr ⟨hne,_,rfl,by simp [ji],Nat.zero_le _,by omega⟩⟩
     ·rw [heq] at hstep
      simp only [Bool.true_and,Bool.not_true,Bool.false_eq_true,if_false,List.append_nil] at hstep
      simp [j2,heq,h16,hw']
      rw [hstep]
      exact ⟨hlt,hG.mono (fun u _ hu h=>by simpa [jv] using h) (by omega)⟩
   ·have hne2:(o.v.kind != 2)=false:=by simp only [bne,hk2,Bool.not_true]
    rw [hne2] at hstep
    simp only [Bool.false_and,Bool.and_false,Bool.false_eq_true,if_false,List.append_nil] at hstep
    simp [h16,f14,f15,hlt,j7 jJ,hload,j2,opC,splice,fb,fr,hw,hk2,hw']
    rw [hstep]
    exact hG.mono (fun u _ hu h=>by simpa [jv] using h) (by omega)
  ·rw [hw] at hstep
   simp only [Bool.not_true,Bool.false_and,Bool.false_eq_true,if_false,List.append_nil] at hstep
   simp [h16,f14,f15,hlt,j7 jJ,hload,j2,opC,splice,fb,fr,hw,hw']
   rw [hstep]
   exact hG.mono (fun u _ hu h=>by simpa [jv] using h) (by omega)
 ·have:k=ops.length:=by omega
  subst this
  obtain ⟨t,ht⟩:=hG.form
  simp [h16,f15]
  exact slE (t:=t) (nl:=(Y9 ops ops.length).isEmpty) (k:=(Y9 ops ops.length).length) (cs:=(Y9 ops ops.length).flatMap intC) (fun r h=>h) (by simp [fd]) (by simp [ht])
end Go.Pv.T

/- Bad reads of a transaction: the reference. -/
namespace Go.Pv.T
open Go Go.Pv
end Go.Pv.T

/- The knower: what it has learned; learning. -/
namespace Go.Pv.T
open Go Go.Pv
structure KnS where
 m:List (Int × Int)
 n:List (Int × Int)
 hop:Bool
 more:Bool
structure Kn (g:Hist') (uK um un:Nat) (s:KnS) (ob:Nat→Option Obj') (ub:Nat):Prop where
 lt:um<un∧un<uK∧uK<ub
 k:ob (2 * uK+1)=some ⟨uK,.cells [slOf g.sn strC g.ss,slOf g.kn strC g.ks,slOf g.tn txnC g.ts,.map (2 * um+1) um,.map (2 * un+1) un,.bool s.hop,.bool s.more]⟩
 m:∃ ver,ob (2 * um+1)=some ⟨um,.mp ver (MP jbg s.m)⟩
 n:∃ ver,ob (2 * un+1)=some ⟨un,.mp ver (MP jbg s.n)⟩
def KnP (g:Hist') (uK um un:Nat) (s':KnS) (ob:Nat→Option Obj') (ub:Nat) (r:V × (Nat→Option Obj') × (Nat→Bool) × Nat):Prop :=
 Kn g uK um un s' r.2.1 r.2.2.2∧(∀ key,key≠2 * uK+1→key≠2 * um+1→key≠2 * un+1→(∀ m,ub≤m→key≠2 * m+1)→r.2.1 key=ob key)∧ub≤r.2.2.2
def KnS.learnM (s:KnS) (t:Int):KnS:=if X1 s.m t=0 then { s with m:=jam s.m t 1,more:=true } else s
def KnS.learnN (s:KnS) (t:Int):KnS:=if X1 s.n t=0 then { s with n:=jam s.n t 1,more:=true } else s
end Go.Pv.T

/- The knower: a transaction can't have committed. -/
namespace Go.Pv.T
open Go Go.Pv
def KnS.fails (s:KnS) (f:Int) (t:Int):KnS:=if f=1 then { s with hop:=true } else if f=3 then s.learnN t else s
theorem KnP.mono {g:Hist'} {uK um un:Nat} {s':KnS} {ob ob1:Nat→Option Obj'} {ub ub1:Nat} {r:V × (Nat→Option Obj') × (Nat→Bool) × Nat} (h:KnP g uK um un s' ob1 ub1 r)
 (ho:∀ key,key≠2 * uK+1→key≠2 * um+1→key≠2 * un+1→(∀ m,ub≤m→key≠2 * m+1)→ob1 key=ob key) (hu:ub≤ub1):KnP g uK um un s' ob ub r :=
 ⟨h.1,fun key h1 h2 h3 h4=>(h.2.1 key h1 h2 h3 (fun m hm=>h4 m (by omega))).trans (ho key h1 h2 h3 h4),Nat.le_trans hu h.2.2⟩
theorem Kn.up {g:Hist'} {uK um un:Nat} {s:KnS} {ob ob1:Nat→Option Obj'} {ub ub1:Nat} (h:Kn g uK um un s ob ub) (ho:ob1=ob) (hu:ub≤ub1):Kn g uK um un s ob1 ub1 :=
 ⟨⟨h.lt.1,h.lt.2.1,Nat.lt_of_lt_of_le h.lt.2.2 hu⟩,by rw [ho];exact h.k,by rw [ho];exact h.m,by rw [ho];exact h.n⟩
end Go.Pv.T

/- The knower: who is left; deleting from a slice. -/
namespace Go.Pv.T
open Go Go.Pv
end Go.Pv.T

/- slices.DeleteFunc on numbers of one's own. -/
namespace Go.Pv.T
open Go Go.Pv
end Go.Pv.T

/- The knower: what a transaction tells. -/
namespace Go.Pv.T
open Go Go.Pv
def KnS.left (s:KnS) (g:Hist') (a b:Int):List Int:=(ofH g a b).filter fun t=>!decide (0<X1 s.n t)
def KnS.op (s:KnS) (g:Hist') (f:Int) (t k:Nat) (o:Op'):KnS :=
 if o.v.kind == 2 || !Jz g t k then s else
 if (s.left g t k).length=0 then s.fails f t else
 if (s.left g t k).length == 1 && (decide (0≤(s.left g t k).headD 0) && decide (0<X1 s.m t)) then s.learnM ((s.left g t k).headD 0) else s
def KnS.ops (s:KnS) (g:Hist') (f:Int) (t:Nat) (l:List Op'):Nat→KnS
 | 0=>s
 | k+1=>match l[k]? with
  | some o=>(s.ops g f t l k).op g f t k o
  | none=>s.ops g f t l k
def KnS.txn (s:KnS) (g:Hist') (t:Nat) (f:Int) (l:List Op'):KnS:=(if (QO g t).isEmpty then s else s.fails f t).ops g f t l l.length
theorem Kn.keep {g:Hist'} {uK um un:Nat} {s:KnS} {ob ob1:Nat→Option Obj'} {ub ub1:Nat} (h:Kn g uK um un s ob ub) (ho:∀ key,(∀ m,ub≤m→key≠2 * m+1)→ob1 key=ob key) (hu:ub≤ub1):Kn g uK um un s ob1 ub1:=by
 obtain ⟨⟨l1,l2,l3⟩,hk,⟨vm,hm⟩,⟨vn,hn⟩⟩:=h
 exact ⟨⟨l1,l2,by omega⟩,(ho _ fun m h e=>by omega).trans hk,⟨vm,(ho _ fun m h e=>by omega).trans hm⟩,⟨vn,(ho _ fun m h e=>by omega).trans hn⟩⟩
def Aside (uK um un:Nat) (ob:Nat→Option Obj') (ub:Nat) (ob1:Nat→Option Obj'):Prop:=∀ key,key≠2 * uK+1→key≠2 * um+1→key≠2 * un+1→(∀ m,ub≤m→key≠2 * m+1)→ob1 key=ob key
theorem Aside.trans {uK um un:Nat} {ob ob1 ob2:Nat→Option Obj'} {ub ub1:Nat} (h:Aside uK um un ob ub ob1) (h':Aside uK um un ob1 ub1 ob2) (hu:ub≤ub1):Aside uK um un ob ub ob2 :=
 fun key h1 h2 h3 h4=>(h' key h1 h2 h3 fun m hm=>h4 m (by omega)).trans (h key h1 h2 h3 h4)
end Go.Pv.T

/- The choices: the given list of lists. -/
namespace Go.Pv.T
open Go Go.Pv
theorem jhc {g:Hist'} (hs:Small g):(jaj g).length≤1000000:=by
 unfold jaj
 have:=Wb hs g.ts.length
 have h2:=hs.ts
 have:g.ts.length * 1000≤1000 * 1000:=Nat.mul_le_mul_right _ h2
 split
 ·unfold readH;omega
 ·simp
def choW (g:Hist'):List (Bool × List Int):=(jaj g).map fun p=>((ofH g p.1 p.2).isEmpty,ofH g p.1 p.2)
theorem jow (T:List Int):SlR (Wu T) T.isEmpty T.length (T.flatMap intC):=by
 unfold Wu
 cases T with
 | nil=>exact ⟨none,rfl,by simp⟩
 | cons a l=>exact ⟨some (0,1),rfl,by simp⟩
theorem ev161 {g:Hist'} (hs:Small g):∃ v,Ev E 161 [.agg (j3 g)] v∧SlR v (choW g).isEmpty (choW g).length ((choW g).flatMap jc5):=by
 obtain ⟨vr,evr,hvr⟩:=ev86 hs
 have hll:=jhc hs
 obtain ⟨L,hL⟩:∃ L,jaj g=L:=⟨_,rfl⟩
 obtain ⟨C,hC⟩:∃ C,choW g=C:=⟨_,rfl⟩
 have hCL:C=L.map fun p=>((ofH g p.1 p.2).isEmpty,ofH g p.1 p.2):=by rw [← hC,← hL];rfl
 have hCl:C.length=L.length:=by rw [hCL];simp
 rw [hC]
 rw [hL] at hvr hll
 refine Xi (af:=F161) rfl (by decide) ?_
 simp [F161,j3,j2]
 refine jL evr (by simp [j3]) rfl (by simp [j3]) ?_
 refine XH hvr fun tc addc=>?_
 simp
 refine jB [(3,5),(9,20)] L.length (fun i s=>s.tm 9 = .int .i64 i∧s.ob 2=some ⟨0,.cells (j3 g)⟩∧Grow s.tk 0 s.nx jc5 1 (C.take i) (s.tm 3)) rfl rfl ⟨by simp,by simp [j3],by simp;exact Grow.nil _ _ _ _ _⟩ ?_
 rintro i s hi ⟨h9,o2,hG⟩ f
 have f1:s.tm 1 = .ptr 2 0 0:=by rw [f.t 1 (by simp)];simp
 have f7:s.tm 7 = .sl tc L.isEmpty L.length (L.flatMap jG):=by rw [f.t 7 (by simp)];simp
 have f8:s.tm 8 = .int .i64 L.length:=by rw [f.t 8 (by simp)];simp
 have fd:s.df=[]:=by rw [f.d];simp
 have fb:s.fb=0:=by rw [f.b];simp
 have fr:s.ro=0:=by rw [f.r];simp
 clear f
 by_cases hlt:i<L.length
 ·have hw:=jl hlt (by omega)
  have hix:JH 2 (.sl tc L.isEmpty L.length (L.flatMap jG)) (.int .i64 (i:Int))=some (.eptr (L.flatMap jG) (i * 2)):=by
   simp only [Y4,jA jX]
   rw [if_pos (by simp;omega)]
   rfl
  have hp:=fun ob=>Yz L ob hlt
  have hCi:C[i]? = some ((ofH g (L[i]).1 (L[i]).2).isEmpty,ofH g (L[i]).1 (L[i]).2):=by
   rw [hCL,List.getElem?_map,List.getElem?_eq_getElem hlt];rfl
  have e27:=ev217 hs (L[i]).1 (L[i]).2
  generalize (L[i]).1=a at *
  generalize (L[i]).2=b at *
  obtain ⟨T,hT⟩:∃ T,ofH g a b=T:=⟨_,rfl⟩
  rw [hT] at e27 hCi
  simp [h9,f1,f7,f8,o2,j2,j3,hlt,hix,hp,splice,fb,fr]
  refine jL e27 (by simp [j3,jG]) rfl (by simp [j3,jG]) ?_
  refine XH (jow T) fun t add=>?_
  simp
  have hstep:C.take (i+1)=C.take i++[(T.isEmpty,T)]:=by
   rw [List.take_add_one,hCi];rfl
  have hil:i<C.length:=by omega
  have htl:(C.take i).length=i:=by rw [List.length_take];omega
  refine jK (cs:=[.sl t T.isEmpty T.length (T.flatMap intC)]) (by simp [splice]) rfl (by simp [V.strip1,V.pureLeaf]) ?_
  simp [V.strip1]
  refine XQ (f:=jc5) (lo:=0) (hi:=s.nx) (l:=C.take i) (a:=(T.isEmpty,T)) (v:=s.tm 3) (hG.mono (fun u _ _ h=>by simp [ji,h]) (Nat.le_refl _)) (by simp) (by simp [jM,jc5]) Qi (by decide) (by simp [jc5,V.pureLeaf]) (by omega) (by omega) (fun del hdel=>?_)
  have hne:C.take (i+1)≠[]:=by rw [hstep];simp
  have hlen:(C.take i).length+1=(C.take (i+1)).length:=by rw [hstep,List.length_append];rfl
  rw [← hstep,hlen]
  obtain ⟨M,hM⟩:∃ M,C.take (i+1)=M:=⟨_,rfl⟩
  rw [hM] at hne ⊢
  simp [h9,hw,o2,j3,hM]
  exact ⟨hlt,.inr ⟨hne,_,rfl,by simp [ji],Nat.zero_le _,by omega⟩⟩
 ·have:i=L.length:=by omega
  subst this
  rw [← hCl,List.take_length] at hG
  obtain ⟨t,ht⟩:=hG.form
  simp [h9,f8]
  exact slE (t:=t) (nl:=C.isEmpty) (k:=C.length) (cs:=C.flatMap jc5) (fun r h=>h) (by simp [fd]) (by simp [ht])
end Go.Pv.T

/- The choices: the reference's list of lists. -/
namespace Go.Pv.T
open Go Go.Pv
def choR (g:Hist'):List (Bool × List Int):=(readH g).map fun p=>(false,ofH g p.1 p.2)
theorem Jo {g:Hist'} (hs:Small g):(readH g).length≤1000000:=by
 have:=Wb hs g.ts.length
 have h2:=hs.ts
 have:g.ts.length * 1000≤1000 * 1000:=Nat.mul_le_mul_right _ h2
 unfold readH;omega
theorem ev61 {g:Hist'} (hs:Small g):∃ v,Ev E 61 [.agg (j3 g)] v∧SlR v false (choR g).length ((choR g).flatMap jc5):=by
 obtain ⟨vr,evr,hvr⟩:=ev31 hs
 have hll:=Jo hs
 obtain ⟨L,hL⟩:∃ L,readH g=L:=⟨_,rfl⟩
 obtain ⟨C,hC⟩:∃ C,choR g=C:=⟨_,rfl⟩
 have hCL:C=L.map fun p=>(false,ofH g p.1 p.2):=by rw [← hC,← hL];rfl
 have hCl:C.length=L.length:=by rw [hCL];simp
 rw [hC]
 rw [hL] at hvr hll
 refine Xi (af:=F61) rfl (by decide) ?_
 simp [F61,j3,j2]
 refine jL evr (by simp [j3]) rfl (by simp [j3]) ?_
 refine XH hvr fun tc addc=>?_
 simp
 refine jK (cs:=[]) rfl rfl rfl ?_
 simp
 refine jB [(4,5),(9,24)] L.length (fun i s=>s.tm 5 = .int .i64 i∧s.ob 2=some ⟨0,.cells (j3 g)⟩∧GrowT s.tk s.nx jc5 1 (C.take i) (s.tm 4)) rfl rfl ⟨by simp,by simp [j3],⟨256,by simp,by simp [ji],by simp⟩⟩ ?_
 rintro i s hi ⟨h5,o2,hG⟩ f
 have f1:s.tm 1 = .ptr 2 0 0:=by rw [f.t 1 (by simp)];simp
 have f3:s.tm 3 = .sl tc false L.length (L.flatMap jG):=by rw [f.t 3 (by simp)];simp
 have fd:s.df=[]:=by rw [f.d];simp
 clear f
 by_cases hlt:i<L.length
 ·have hw:=jl hlt (by omega)
  have hix:JH 2 (.sl tc false L.length (L.flatMap jG)) (.int .i64 (i:Int))=some (.eptr (L.flatMap jG) (i * 2)):=by
   simp only [Y4,jA jX]
   rw [if_pos (by simp;omega)]
   rfl
  have hp:=fun ob=>Yz L ob hlt
  have hCi:C[i]? = some (false,ofH g (L[i]).1 (L[i]).2):=by
   rw [hCL,List.getElem?_map,List.getElem?_eq_getElem hlt];rfl
  obtain ⟨vo,evo,hvo⟩:=j63 hs (L[i]).1 (L[i]).2
  generalize (L[i]).1=a at *
  generalize (L[i]).2=b at *
  obtain ⟨T,hT⟩:∃ T,ofH g a b=T:=⟨_,rfl⟩
  rw [hT] at hvo hCi
  have hstep:C.take (i+1)=C.take i++[(false,T)]:=by
   rw [List.take_add_one,hCi];rfl
  have hil:i<C.length:=by omega
  have htl:(C.take i).length=i:=by rw [List.length_take];omega
  simp [h5,f1,f3,o2,j2,j3,hlt,hix,hp]
  refine Jp evo (by simp [j3,jG]) rfl (by simp [j3,jG]) ?_
  refine XH hvo fun t add=>?_
  simp
  refine jnj (cs:=[.sl t false T.length (T.flatMap intC)]) (by simp [splice]) rfl (by simp [V.strip1,V.pureLeaf]) ?_
  simp [V.strip1]
  refine jnk (f:=jc5) (hi:=s.nx) (l:=C.take i) (a:=(false,T)) (v:=s.tm 4) (hG.mono (fun u _ h=>by simp [ji,h]) (Nat.le_refl _)) (by simp) (by simp [jM,jc5]) Qi (by decide) (by simp [jc5,V.pureLeaf]) (by omega) (by omega) (fun del hdel=>?_)
  have hlen:(C.take i).length+1=(C.take (i+1)).length:=by rw [hstep,List.length_append];rfl
  rw [← hstep,hlen]
  obtain ⟨M,hM⟩:∃ M,C.take (i+1)=M:=⟨_,rfl⟩
  rw [hM]
  simp [h5,hw,o2,j3,hM]
  exact ⟨hlt,_,rfl,by simp [ji],by omega⟩
 ·have:i=L.length:=by omega
  subst this
  rw [← hCl,List.take_length] at hG
  obtain ⟨u,hv,_,_⟩:=hG
  simp [h5,f3]
  exact slE (t:=some (u,1)) (nl:=false) (k:=C.length) (cs:=C.flatMap jc5) (fun r h=>h) (by simp [fd]) (by simp [hv])
end Go.Pv.T

/- Whether a list is a map: the reference. -/
namespace Go.Pv.T
open Go Go.Pv
def jaa:List (Bool × List Int)→List Int→Bool
 | [],_=>true
 | _::_,[]=>false
 | c::cs,m::ms=>c.2.contains m && jaa cs ms
def jbr (g:Hist') (M:List Int):Bool:=jm g && (M.length == (choR g).length && jaa (choR g) M)
theorem jwo (C:List (Bool × List Int)) {i:Nat} (h:i<C.length):(C.flatMap jc5)[i]? = some (.sl none (C[i]).1 (C[i]).2.length ((C[i]).2.flatMap intC)):=by
 have:=je Qi C h (by decide:0<1)
 rw [Nat.mul_one,Nat.add_zero] at this
 rw [this];rfl
theorem jp2 {g:Hist'} (hm:X6 g=true) (a b:Int):(ofH g a b).length≤41:=by
 unfold ofH
 split
 ·split
  ·simp
  ·exact jyt (jqe hm) a _
 ·simp
theorem ev22 {g:Hist'} (hs:Small g) {b:Bool} (M:List Int) (_:M.length≤1000000000):Ev E 22 [.agg (j3 g),slOf b intC M] (.bool (jbr g M)):=by
 have e37:=ev21 hs
 refine jR (af:=F22) rfl ?_
 unfold jbr
 cases hw:jm g
 ·rw [hw] at e37
  simp [F22,j3,j2]
  refine jL e37 (by simp [j3]) rfl (by simp [j3]) ?_
  simp
  exact j4 (by simp) (by simp) rfl
 rw [hw] at e37
 obtain ⟨vc,evc,hvc⟩:=ev61 hs
 have hrl:=Jo hs
 have hCl:(choR g).length≤1000000:=by unfold choR;rw [List.length_map];exact hrl
 have hCo:∀ x∈choR g,x.2.length≤41:=by
  intro x hx
  unfold choR at hx
  obtain ⟨p,_,rfl⟩:=List.mem_map.1 hx
  have hm:X6 g=true:=by unfold jm at hw;simp only [Bool.and_eq_true] at hw;exact hw.1
  exact jp2 hm _ _
 generalize choR g=C at *
 simp [F22,j3,j2]
 refine jL e37 (by simp [j3]) rfl (by simp [j3]) ?_
 simp [j2]
 refine jL evc (by simp [j3]) rfl (by simp [j3]) ?_
 refine XH hvc fun tc addc=>?_
 by_cases hl:M.length=C.length
 ·obtain ⟨R,hR⟩:∃ R,jaa C M=R:=⟨_,rfl⟩
  rw [hR]
  simp [hl]
  refine jB [(4,4),(6,6),(17,32)] C.length (fun i s=>s.tm 6 = .int .i64 i∧jaa (C.drop i) (M.drop i)=R) rfl rfl ⟨by simp,by simpa using hR⟩ ?_
  rintro i s hi ⟨h6,hT⟩ f
  have f1:s.tm 1=slOf b intC M:=by rw [f.t 1 (by simp)];simp
  have f5:s.tm 5 = .sl tc false C.length (C.flatMap jc5):=by rw [f.t 5 (by simp)];simp
  have fd:s.df=[]:=by rw [f.d];simp
  clear f
  by_cases hlt:i<C.length
  ·have hw':=jl hlt (by omega)
   have hlt2:i<M.length:=by omega
   have h1:=jwo C hlt
   have h2:=JL M hlt2
   have hix:JH 1 (.sl tc false C.length (C.flatMap jc5)) (.int .i64 (i:Int))=some (.eptr (C.flatMap jc5) (i * 1)):=by
    simp only [Y4,jA Qi]
    rw [if_pos (by simp;omega)]
    rfl
   rw [Nat.mul_one] at hix
   rw [List.drop_eq_getElem_cons hlt,List.drop_eq_getElem_cons hlt2,jaa] at hT
   have e87:=ev62 (a:=(C[i]).1) (C[i]).2 (by have:=hCo _ (List.getElem_mem hlt);omega) M[i]
   simp [h6,f1,f5,hlt,hlt2,hix,j7 jD,h1,h2]
   refine Jp e87 (by simp [slOf]) rfl (by simp [slOf]) ?_
   cases hc:(C[i]).2.contains M[i]
   ·rw [hc,Bool.false_and] at hT
    simp
    exact j4 (by simp [fd]) (by simp [← hT]) rfl
   ·rw [hc,Bool.true_and] at hT
    simp [h6,hw']
    exact ⟨hlt,hT⟩
  ·have:i=C.length:=by omega
   subst this
   rw [List.drop_length,jaa] at hT
   simp [h6,f5]
   exact j4 (by simp [fd]) (by simp [← hT]) rfl
 ·have hne:((M.length:Int) != C.length)=true:=by simp;omega
  have hne2:(M.length == C.length)=false:=by simp;omega
  simp [hne]
  exact j4 (by simp) (by simp [hne2]) rfl
end Go.Pv.T

/- The knower: who is left. -/
namespace Go.Pv.T
open Go Go.Pv
theorem kD_own {st:St} {ub:Nat} {K:List FP→St→Prop} {d:Option Nat} {nm:Bool} {r:List AOpr} {f:FuncId} {xs:List A} {vs args':List V} {v:V} {δ:Delta} (hx:xs.map (eval E st.tm)=vs) (hs:E.sh nm f=true) (htw:E.tw f=true)
 (ha:vs.mapM (Ye st.ob)=some args') (hev:Ev E f args' v) (hδ:Wp (jO d nm st.fb ub) ub v=some δ)
 (h:jI E r (st.app d δ) (ub+64) (kFp { wo:=δ.wo,all:=true,seen:=fun l=>(st.ob l).isSome,nw:=true } K)):jI E (⟨d,.call f xs,none,nm⟩::r) st ub K:=by
 have hsh:jF E nm (eval E st.tm) (.call f xs)=some (f,vs):=by simp only [jF,hs,hx,Bool.not_true,Bool.false_and,Bool.false_eq_true,if_false]
 simp only [jI,wanted,hsh]
 exact .inr ⟨hs,htw,args',v,ha,hev,δ,by rw [name_eq'];exact hδ,h⟩
where
 name_eq':∀ {d:Option Nat} {op:AOp} {nm:Bool} {fb ub:Nat},AOpr.name ⟨d,op,none,nm⟩ fb ub=jO d nm fb ub:=by
  intro d op nm fb ub;cases nm <;> rfl
end Go.Pv.T

/- The knower: what is known; plain. -/
namespace Go.Pv.T
open Go Go.Pv
def KnS.round (s:KnS) (g:Hist'):Nat→KnS
 | 0=>{ s with more:=false }
 | i+1=>match g.ts[i]? with
  | some t=>(s.round g i).txn g i t.f t.ops
  | none=>s.round g i
def KnS.iter (g:Hist'):Nat→KnS→KnS
 | 0,s=>s
 | k+1,s=>if s.more then KnS.iter g k (s.round g g.ts.length) else s
def jic (m:List (Int × Int)):Nat→Nat
 | 0=>0
 | i+1=>jic m i+if X1 m i=0 then 1 else 0
theorem jdk {m:List (Int × Int)} {t:Int} (h0:X1 m t=0):∀ n:Nat,(jic (jam m t 1) n≤jic m n)∧(0≤t→t<n→jic (jam m t 1) n+1≤jic m n)
 | 0=>⟨Nat.le_refl _,fun h1 h2=>by omega⟩
 | i+1=>by
  have ih:=jdk h0 i
  simp only [jic,XA]
  by_cases hit:(i:Int)=t
  ·rw [if_pos hit,hit,if_pos h0,if_neg (by decide)]
   exact ⟨by omega,fun _ _=>by omega⟩
  ·rw [if_neg hit]
   refine ⟨by omega,fun h1 h2=>?_⟩
   have:=ih.2 h1 (by omega)
   omega
def KnS.free (s:KnS) (n:Nat):Nat:=jic s.m n+jic s.n n
def Less (n:Nat) (s s':KnS):Prop:=s'.free n≤s.free n∧(s'.more=true→s.more=true∨s'.free n+1≤s.free n)∧(s.more=true→s'.more=true)
theorem Less.rfl' (n:Nat) (s:KnS):Less n s s:=⟨Nat.le_refl _,fun h=>.inl h,fun h=>h⟩
theorem Less.trans {n:Nat} {a b c:KnS} (h:Less n a b) (h':Less n b c):Less n a c :=
 ⟨Nat.le_trans h'.1 h.1,fun hm=>by
  rcases h'.2.1 hm with h1 | h1
  ·rcases h.2.1 h1 with h2 | h2
   ·exact .inl h2
   ·exact .inr (by have:=h'.1;omega)
  ·exact .inr (by have:=h.1;omega),fun hm=>h'.2.2 (h.2.2 hm)⟩
theorem Less.learnM {n:Nat} {s:KnS} {t:Int} (h1:0≤t) (h2:t<n):Less n s (s.learnM t):=by
 unfold KnS.learnM
 split
 ·rename_i h0
  have:=jdk h0 n
  have:=this.2 h1 h2
  exact ⟨by simp only [KnS.free];omega,fun _=>.inr (by simp only [KnS.free];omega),fun _=>rfl⟩
 ·exact .rfl' n s
theorem Less.learnN {n:Nat} {s:KnS} {t:Int} (h1:0≤t) (h2:t<n):Less n s (s.learnN t):=by
 unfold KnS.learnN
 split
 ·rename_i h0
  have:=jdk h0 n
  have:=this.2 h1 h2
  exact ⟨by simp only [KnS.free];omega,fun _=>.inr (by simp only [KnS.free];omega),fun _=>rfl⟩
 ·exact .rfl' n s
theorem Less.fails {n:Nat} {s:KnS} {f t:Int} (h1:0≤t) (h2:t<n):Less n s (s.fails f t):=by
 unfold KnS.fails
 split
 ·exact ⟨Nat.le_refl _,fun h=>.inl h,fun h=>h⟩
 ·split
  ·exact .learnN h1 h2
  ·exact .rfl' n s
theorem jp1 {g:Hist'} {a b x:Int} (h:x∈ofH g a b):x<g.ts.length:=by
 unfold ofH at h
 split at h
 ·split at h
  ·simp at h
  ·rename_i o _ _
   unfold ofL jq at h
   rcases List.mem_append.1 h with h | h
   ·split at h
    ·simp at h
    ·simp at h;omega
   ·have:=Ya (p:=wrB o.key) (ts:=g.ts) g.ts.length (Nat.le_refl _)
    exact (this.1 x (List.mem_filter.1 h).1).2
 ·simp at h
theorem Less.op {g:Hist'} {s:KnS} {f:Int} {t k:Nat} {o:Op'} (ht:t<g.ts.length):Less g.ts.length s (s.op g f t k o):=by
 unfold KnS.op
 split
 ·exact .rfl' _ s
 ·split
  ·exact .fails (by omega) (by omega)
  ·rename_i h0
   split
   ·rename_i h1
    simp only [Bool.and_eq_true,decide_eq_true_eq] at h1
    refine .learnM h1.2.1 ?_
    cases hl:s.left g t k with
    | nil=>rw [hl] at h0;simp at h0
    | cons x r =>
     have hm:x∈s.left g t k:=by rw [hl];exact List.mem_cons_self ..
     exact jp1 (List.mem_filter.1 hm).1
   ·exact .rfl' _ s
theorem Less.ops {g:Hist'} {s:KnS} {f:Int} {t:Nat} {l:List Op'} (ht:t<g.ts.length):∀ k,Less g.ts.length s (s.ops g f t l k)
 | 0=>.rfl' _ s
 | k+1=>by
  simp only [KnS.ops]
  split
  ·exact (Less.ops ht k).trans (.op ht)
  ·exact Less.ops ht k
theorem Less.txn {g:Hist'} {s:KnS} {f:Int} {t:Nat} {l:List Op'} (ht:t<g.ts.length):Less g.ts.length s (s.txn g t f l):=by
 unfold KnS.txn
 refine Less.trans ?_ (.ops ht _)
 split
 ·exact .rfl' _ s
 ·exact .fails (by omega) (by omega)
theorem Less.round {g:Hist'} {s:KnS}:∀ i,i≤g.ts.length→Less g.ts.length { s with more:=false } (s.round g i)
 | 0,_=>.rfl' _ _
 | i+1,h=>by
  simp only [KnS.round,List.getElem?_eq_getElem (show i<g.ts.length by omega)]
  exact (Less.round i (by omega)).trans (.txn (by omega))
end Go.Pv.T

/- The knower: what is known. -/
namespace Go.Pv.T
open Go Go.Pv
structure KnRun (g:Hist') (ub:Nat) (ob:Nat→Option Obj') (ro:Nat) (uK um un:Nat) (s:KnS) (st:St):Prop where
 kn:Kn g uK um un s st.ob st.nx
 t1:st.tm 1 = .ptr (2 * ub+1) ub 0
 t3:st.tm 3 = .ptr (2 * uK+1) uK 0
 df:st.df=[]
 ro:st.ro=ro
 h:st.ob (2 * ub+1)=some ⟨ub,.cells (j3 g)⟩
 old:∀ key,(∀ m,ub≤m→key≠2 * m+1)→st.ob key=ob key
theorem KnRun.up {g:Hist'} {ub:Nat} {ob:Nat→Option Obj'} {ro uK um un:Nat} {s:KnS} {st st':St} (k:KnRun g ub ob ro uK um un s st) (ho:st'.ob=st.ob) (hn:st.nx≤st'.nx) (h1:st'.tm 1=st.tm 1) (h3:st'.tm 3=st.tm 3) (hd:st'.df=st.df) (hr:st'.ro=st.ro):KnRun g ub ob ro uK um un s st' :=
 ⟨k.kn.up ho hn,h1.trans k.t1,h3.trans k.t3,hd.trans k.df,hr.trans k.ro,by rw [ho];exact k.h,by rw [ho];exact k.old⟩
end Go.Pv.T

/- Infos as a list that may be made one's own. -/
namespace Go.Pv.T
open Go Go.Pv
end Go.Pv.T

/- The knower: what of the infos is known (an observer). -/
namespace Go.Pv.T
open Go Go.Pv
end Go.Pv.T

/- Several results, some of them slices; slices that are made; a copy of numbers. -/
namespace Go.Pv.T
open Go Go.Pv
def j7x (l:List V) (v:V):Prop:=∃ vs,v = .tup vs∧vs.map V.strip1=l∧∀ p∈vs.flatMap V.toks,p<64
def j5v:V→Bool
 | .agg _=>false
 | _=>true
theorem j2f {ub:Nat} {v:V} {l:List V} {K:Delta→Prop} (hv:j7x l v) (hl:l.all j5v=true) (h:∀ ws add,ws.map V.strip1=l→K { v:=.tup ws,add:=add }):wpD (Xj ub v) K:=by
 obtain ⟨vs,rfl,hs,ht⟩:=hv
 have e:Xj ub (.tup vs)=some { v:=.tup (vs.map (Qq ub)),add:=(vs.flatMap V.toks).map (ub + ·) }:=by
  rw [Xj,if_pos (by simpa only [toksRes,List.all_eq_true,Nat.blt_eq] using ht)]
  rfl
 rw [e,jP]
 refine h _ _ ?_
 rw [← hs,List.map_map]
 refine List.map_congr_left fun w hw=>?_
 have hn:j5v w.strip1=true:=List.all_eq_true.1 hl _ (by rw [← hs];exact List.mem_map.2 ⟨w,hw,rfl⟩)
 cases w with
 | agg=>cases hn
 | sl t nl n cs=>cases t <;> rfl
 | _=>rfl
theorem jg1 {w:V} {nl:Bool} {n:Nat} {cs:List V} (h:w.strip1 = .sl none nl n cs):∃ t,w = .sl t nl n cs:=by
 cases w <;> simp [V.strip1] at h
 obtain ⟨rfl,rfl,rfl⟩:=h
 exact ⟨_,rfl⟩
theorem ji1 {w:V} {b:Bool} (h:w.strip1 = .bool b):w = .bool b:=by cases w <;> simp [V.strip1] at h;subst h;rfl
theorem map3 {α β:Type} {f:α→β} {ws:List α} {a b c:β} (h:ws.map f=[a,b,c]):∃ x y z,ws=[x,y,z]∧f x=a∧f y=b∧f z=c:=by
 match ws with
 | [x,y,z]=>simp only [List.map_cons,List.map_nil,List.cons.injEq,and_true] at h;exact ⟨x,y,z,rfl,h.1,h.2.1,h.2.2⟩
 | []=>simp at h
 | [_]=>simp at h
 | [_,_]=>simp at h
 | _::_::_::_::_=>simp at h
theorem jwd {ub:Nat} {v:V} {a1 a2 b:Bool} {n1 n2:Nat} {c1 c2:List V} {K:Delta→Prop} (hv:j7x [.sl none a1 n1 c1,.sl none a2 n2 c2,.bool b] v)
 (h:∀ t1 t2 add,K { v:=.tup [.sl t1 a1 n1 c1,.sl t2 a2 n2 c2,.bool b],add:=add }):wpD (Xj ub v) K:=by
 refine j2f hv rfl fun ws add hw=>?_
 obtain ⟨x,y,z,rfl,h1,h2,h3⟩:=map3 hw
 obtain ⟨t1,rfl⟩:=jg1 h1
 obtain ⟨t2,rfl⟩:=jg1 h2
 obtain rfl:=ji1 h3
 exact h t1 t2 add
def j05 (st:St) (v w:V):Prop:=∀ keep i,∃ a,X8 st keep i v=some a∧a.strip1=w∧(a.toks=[]∨a.toks=[i])
def jl9 (st:St):List V→List V→Prop
 | [],[]=>True
 | v::vs,w::ws=>j05 st v w∧jl9 st vs ws
 | _,_=>False
theorem We {st:St} {v:V} (h:v.pureLeaf=true):j05 st v v:=by
 intro keep i
 refine ⟨v,?_,XW h,.inl ?_⟩
 ·cases v with
  | agg=>cases h
  | fn=>cases h
  | _=>exact YH (st:=st) (keep:=keep) (i:=i) h
 ·cases v with
  | agg=>cases h
  | _=>exact jkm h
theorem jk6 {st:St} {v:V} {nl:Bool} {n:Nat} {cs:List V} (hv:v.leaf=true) (h:jd4 st v nl n cs):j05 st v (.sl none nl n cs):=by
 intro keep i
 obtain ⟨a,ha,ht⟩:=h keep i
 refine ⟨.sl a nl n cs,?_,rfl,?_⟩
 ·rw [← ha]
  cases v with
  | agg=>cases hv
  | fn=>simp only [jh,JF] at ha;split at ha <;> cases ha
  | _=>rfl
 ·rcases ht with rfl | ⟨z,rfl⟩
  ·exact .inl rfl
  ·exact .inr rfl
theorem YZ {st:St} {keep:Bool}:∀ {vs ls:List V} {i:Nat},jl9 st vs ls→∃ as1,J6 st keep i vs=some as1∧as1.map V.strip1=ls∧(∀ p∈as1.flatMap V.toks,i≤p∧p<i+16 * vs.length)∧nodup (as1.flatMap V.toks)=true
 | [],[],i,_=>⟨[],rfl,rfl,by simp,rfl⟩
 | v::vs,w::ws,i,h=>by
  obtain ⟨a,h1,h2,h3⟩:=h.1 keep i
  obtain ⟨as1,k1,k2,k3,k4⟩:=YZ (keep:=keep) (i:=i+16) h.2
  refine ⟨a::as1,by simp only [J6,h1,Option.bind_some,k1,Option.map_some],by rw [List.map_cons,h2,k2],fun p hp=>?_,?_⟩
  ·rw [List.flatMap_cons,List.mem_append] at hp
   simp only [List.length_cons]
   rcases hp with hp | hp
   ·rcases h3 with h3 | h3 <;> rw [h3] at hp <;> simp at hp
    omega
   ·have:=k3 p hp;omega
  ·rw [List.flatMap_cons]
   rcases h3 with h3 | h3 <;> rw [h3]
   ·exact k4
   ·simp only [List.singleton_append,nodup,Bool.and_eq_true,k4,and_true,Bool.not_eq_true']
    rw [Bool.eq_false_iff]
    intro hc
    obtain ⟨p,hp,he⟩:=List.any_eq_true.1 hc
    have:=Nat.eq_of_beq_eq_true he
    have:=k3 p hp
    omega
 | [],_::_,_,h=>h.elim
 | _::_,[],_,h=>h.elim
theorem jkz (st:St):∀ ns:List Nat,(ns.map ARes.t).mapM (jn st)=some (ns.map st.tm)
 | []=>rfl
 | n::ns=>by rw [List.map_cons,List.mapM_cons,jkz st ns];rfl
theorem tupE {ns:List Nat} {st:St} {vs ls:List V} {P:V→Prop} (hP:∀ r,j7x ls r→P r) (hd:st.df=[]) (h:ns.map st.tm=vs) (h2:2≤vs.length) (h4:vs.length≤4) (ho:jl9 st vs ls):jgb (ns.map .t) P .ret st:=by
 obtain ⟨as1,k1,k2,k3,k4⟩:=YZ (keep:=nodup (vs.flatMap V.toks)) (i:=0) ho
 have hal:2≤as1.length:=by
  have e1:=congrArg List.length k2
  have:∀ {vs ls:List V},jl9 st vs ls→vs.length=ls.length:=by
   intro vs
   induction vs with
   | nil=>intro ls h;cases ls with | nil=>rfl | cons=>exact h.elim
   | cons v vs ih=>intro ls h;cases ls with | nil=>exact h.elim | cons w ws=>rw [List.length_cons,List.length_cons,ih h.2]
  have:=this ho
  simp only [List.length_map] at e1
  omega
 refine ⟨.tup as1,?_,hP _ ⟨as1,rfl,k2,fun p hp=>by have:=k3 p hp;omega⟩⟩
 simp only [QN,Y6 hd,Y2 hd,if_true,jkz,h,Option.bind_some,YG,k1,k4]
 match as1,hal with
 | a::b::r,_=>rfl
theorem ev25 (b:Bool) (l:List Int) (hl:l.length≤1000000000):∃ v,Ev E 25 [slOf b intC l] v∧SlR v false l.length (l.flatMap intC):=by
 refine Xi (af:=F25) rfl (by decide) ?_
 simp [F25]
 refine jK (cs:=[]) rfl rfl rfl ?_
 simp
 refine jeb (f:=intC) (l:=l) (u:=64) (by simp) (by simp [ji]) (by simp [jg6 jD]) jD (by decide) (by simp [intC,V.pureLeaf]) (by omega) (by omega) (fun t del add _ _=>?_)
 simp
 exact slE (t:=t) (nl:=false) (k:=l.length) (cs:=l.flatMap intC) (fun r h=>h) (by simp) (by simp)
section
variable {E:Env} {Yf:YF} {st:St} {ub:Nat} {K:St→Nat→Prop} {d:Option Nat} {nm:Bool}
theorem jll {sz bytes n:Nat} {zero:List V} {x y:A} (hl:eval E st.tm x = .int .i64 (n:Int)) (hc:eval E st.tm y = .int .i64 (n:Int)) (hb:n * bytes≤140737488355328) (hn:n≤140737488355328) (hz:zero.length=sz) (h0:0<sz)
 (h:QM K st d ub { v:=.osl (jO d nm st.fb ub) ub 0 n sz,obs:=[(jO d nm st.fb ub,⟨ub,.cells (QF n zero)⟩)] }):j8 E Yf ⟨d,.mkSl true sz bytes zero x y,none,nm⟩ st ub K:=by
 rw [jS _ rfl rfl]
 simp only [aop,hl,hc]
 rw [if_pos (by refine ⟨by omega,by omega,?_,by omega,hz,h0⟩;rw [← Int.natCast_mul];exact Int.ofNat_le.2 hb),if_neg (by simp),JR,jP]
 simp only [Int.toNat_natCast,X9]
 exact h
end
def Upto (n i:Nat) (J:List Int) (cs:List V):Prop:=cs.length=n∧(∀ j,j<i→cs[j]? = (J.flatMap intC)[j]?)∧cs.all V.pureLeaf=true
theorem Upto.set {n i:Nat} {J:List Int} {cs:List V} (h:Upto n i J cs) (hi:i<n) {x:Int} (hx:J[i]? = some x):Upto n (i+1) J (splice cs i [.int .i64 x]):=by
 obtain ⟨h1,h2,h3⟩:=h
 have hs:splice cs i [.int .i64 x]=cs.set i (.int .i64 x):=by
  unfold splice
  rw [List.set_eq_take_append_cons_drop,if_pos (by omega),List.append_assoc]
  rfl
 rw [hs]
 refine ⟨by rw [List.length_set];exact h1,fun j hj=>?_,?_⟩
 ·by_cases hji:j=i
  ·subst hji
   have hJ:=(List.getElem?_eq_some_iff.1 hx)
   rw [List.getElem?_set_self (by omega),JL J hJ.1,hJ.2]
  ·rw [List.getElem?_set_ne (fun e=>hji e.symm)]
   exact h2 j (by omega)
 ·refine List.all_eq_true.2 fun y hy=>?_
  rcases List.mem_or_eq_of_mem_set hy with hy | rfl
  ·exact List.all_eq_true.1 h3 y hy
  ·rfl
theorem Upto.whole {n:Nat} {J:List Int} {cs:List V} (h:Upto n n J cs) (hJ:J.length=n):cs=J.flatMap intC:=by
 apply List.ext_getElem?
 intro j
 by_cases hj:j<n
 ·exact h.2.1 j hj
 ·rw [List.getElem?_eq_none (by rw [h.1];omega),List.getElem?_eq_none (by rw [jA jD];omega)]
theorem Upto.zero (n:Nat) (J:List Int):Upto n 0 J (QF n [.int .i64 0]):=by
 refine ⟨by simp [QF],fun j hj=>by omega,?_⟩
 refine List.all_eq_true.2 fun y hy=>?_
 simp only [QF,List.mem_map] at hy
 obtain ⟨i,_,rfl⟩:=hy
 simp [V.pureLeaf,Nat.mod_one]
end Go.Pv.T

/- Must, as it is given. -/
namespace Go.Pv.T
open Go Go.Pv
end Go.Pv.T

/- Against, as it is given. -/
namespace Go.Pv.T
open Go Go.Pv
def blC (b:Bool):List V:=[.bool b]
@[simp] theorem jkd (b:Bool):(blC b).length=1:=rfl
theorem bl_at (l:List Bool) {i:Nat} (h:i<l.length):(l.flatMap blC)[i]? = some (.bool l[i]):=by
 have:=je jkd l h (by decide:0<1)
 simpa [blC] using this
end Go.Pv.T

/- Which value is ahead: the given comparison. -/
namespace Go.Pv.T
open Go Go.Pv Go.Sort
@[simp] theorem cellV_lf (v:Val'):(ja2 v).leaf=true:=by unfold ja2;split;rfl;split <;> rfl
def j5y (a b:Val'):Bool:=if a.kind=b.kind then (a.kind == 1 && decide (a.n<b.n)) else decide (a.kind<b.kind)
def cmpV (a b:Val'):Int:=if jgx a && jgx b && j5y a b then -1 else if jgx b && jgx a && j5y b a then 1 else 0
end Go.Pv.T

/- Values that are sorted by a function where they lie: their cells, and what is less. -/
namespace Go.Pv.T
open Go Go.Pv Go.Sort
abbrev VV:Type:={ v:Val' // jgx v=true }
instance:Inhabited VV:=⟨⟨⟨0,0⟩,rfl⟩⟩
def vvC (v:VV):List V:=J9 v.1
@[simp] theorem jxe (v:VV):(vvC v).length=2:=rfl
@[simp] theorem vvC_leaf (v:VV):∀ x∈vvC v,x.leaf=true:=by
 intro x hx
 simp only [vvC,J9,List.mem_cons,List.not_mem_nil,or_false] at hx
 rcases hx with rfl | rfl <;> rfl
@[simp] theorem j1t (v:VV):(vvC v).all V.leaf=true:=rfl
@[simp] theorem j07 (v:VV):(vvC v).map V.strip1=vvC v:=rfl
@[simp] theorem vvC_pure (v:VV):(vvC v).all V.pureLeaf=true:=rfl
def ltVV (a b:VV):Bool:=decide (cmpV a.1 b.1<0)
@[simp] theorem j5w (a b:VV):decide (cmpV a.1 b.1<0)=ltVV a b:=rfl
@[simp] theorem arrV_len (d:Array VV):(arr vvC d).length=d.size * 2:=jrx (sz:=2) jxe d
end Go.Pv.T

/- Insertion sort by a function. -/
namespace Go.Pv.T.Vs
open Go Go.Pv Go.Pv.T Go.Sort
end Go.Pv.T.Vs

/- Heap sort by a function: sifting. -/
namespace Go.Pv.T.Vs
open Go Go.Pv Go.Pv.T Go.Sort
end Go.Pv.T.Vs

/- Heap sort by a function. -/
namespace Go.Pv.T.Vs
open Go Go.Pv Go.Pv.T Go.Sort
end Go.Pv.T.Vs

/- Turning round, pivots, by a function. -/
namespace Go.Pv.T.Vs
open Go Go.Pv Go.Pv.T Go.Sort
end Go.Pv.T.Vs

/- Pivots, by a function. -/
namespace Go.Pv.T.Vs
open Go Go.Pv Go.Pv.T Go.Sort
end Go.Pv.T.Vs

/- Partitions, by a function. -/
namespace Go.Pv.T.Vs
open Go Go.Pv Go.Pv.T Go.Sort
end Go.Pv.T.Vs

/- Partitions of what is not less, by a function. -/
namespace Go.Pv.T.Vs
open Go Go.Pv Go.Pv.T Go.Sort
end Go.Pv.T.Vs

/- Breaking patterns, of values. -/
namespace Go.Pv.T.Vs
open Go Go.Pv Go.Pv.T Go.Sort
end Go.Pv.T.Vs

/- Partial insertion sort of few, by a function. -/
namespace Go.Pv.T.Vs
open Go Go.Pv Go.Pv.T Go.Sort
end Go.Pv.T.Vs

/- Sorting of few by a function: the recursion. -/
namespace Go.Pv.T.Vs
open Go Go.Pv Go.Pv.T Go.Sort
end Go.Pv.T.Vs

/- slices.SortFunc of few values. -/
namespace Go.Pv.T.Vs
open Go Go.Pv Go.Pv.T Go.Sort
end Go.Pv.T.Vs

/- Lists of values: the same; the reference's sorting. -/
namespace Go.Pv.T
open Go Go.Pv
@[simp] theorem jsq (v:Val'):(J9 v).length=2:=rfl
theorem jt7 (ob:Nat→Option Obj') (l:List Val') {i:Nat} (h:i<l.length):QH ob (some 2) (.eptr (l.flatMap J9) (i * 2))=some (.agg (J9 l[i])):=ja jsq ob l h
end Go.Pv.T

/- Where each member of a map stands: wr.places. -/
namespace Go.Pv.T
open Go Go.Pv
def idxJ:List (Bool × List Int)→List Int→List Int
 | c::cs,m::ms=>idxI c.2 m 0::idxJ cs ms
 | _,_=>[]
theorem jlp:∀ (C:List (Bool × List Int)) (M:List Int),C.length=M.length→(idxJ C M).length=C.length
 | [],[],_=>rfl
 | c::cs,m::ms,h=>by simp only [idxJ,List.length_cons] at h ⊢;rw [jlp cs ms (by omega)]
 | [],_::_,h=>by simp at h
 | _::_,[],h=>by simp at h
theorem jre:∀ (C:List (Bool × List Int)) (M:List Int) (i:Nat) (h:i<C.length) (h':i<M.length),(idxJ C M)[i]? = some (idxI (C[i]).2 M[i] 0)
 | c::cs,m::ms,0,_,_=>rfl
 | c::cs,m::ms,i+1,h,h'=>by
  simp only [idxJ,List.getElem?_cons_succ,List.getElem_cons_succ]
  exact jre cs ms i (by simpa using h) (by simpa using h')
 | [],_,_,h,_=>by simp at h
 | _::_,[],_,_,h=>by simp at h
def Xk (g:Hist') (M:List Int):Option (List Int):=if jm g && ((choW g).length == M.length && (idxJ (choW g) M).all fun x=>decide (0≤x)) then some (idxJ (choW g) M) else none
def jki (g:Hist') (r:Option (List Int)) (v:V):Prop:=match r with
 | some J=>j7x [.sl none (choW g).isEmpty (choW g).length ((choW g).flatMap jc5),.sl none false J.length (J.flatMap intC),.bool true] v
 | none=>j7x [.sl none true 0 [],.sl none true 0 [],.bool false] v
theorem jvv {g:Hist'} (hs:Small g):(choW g).length≤1000000:=by unfold choW;rw [List.length_map];exact jhc hs
theorem j0n {g:Hist'} (_:Small g):∀ x∈choW g,x.1=x.2.isEmpty∧x.2.length≤41:=by
 intro x hx
 unfold choW jaj at hx
 split at hx
 ·rename_i hw
  obtain ⟨p,_,rfl⟩:=List.mem_map.1 hx
  have hm:X6 g=true:=by unfold jm at hw;simp only [Bool.and_eq_true] at hw;exact hw.1
  exact ⟨rfl,jp2 hm _ _⟩
 ·simp at hx
theorem ev106 {g:Hist'} (hs:Small g) {b:Bool} (M:List Int) (hM:M.length≤1000000):∃ v,Ev E 106 [.agg (j3 g),slOf b intC M] v∧jki g (Xk g M) v:=by
 obtain ⟨vc,evc,hvc⟩:=ev161 hs
 have e83:=ev52 hs
 have hCl:=jvv hs
 have hCs:=j0n hs
 have hnone:∀ {st:St} {P:V→Prop},st.df=[]→st.tm 4 = .sl none true 0 []→st.tm 5 = .sl none true 0 []→st.tm 6 = .bool false→Xk g M=none→jgb [.t 4,.t 5,.t 6] (jki g (Xk g M)) .ret st:=by
  intro st _ hd h4 h5 h6 hp
  rw [hp]
  exact tupE (ns:=[4,5,6]) (vs:=[.sl none true 0 [],.sl none true 0 [],.bool false]) (fun r h=>h) hd (by simp [h4,h5,h6]) (by simp) (by simp) ⟨We rfl,We rfl,We rfl,trivial⟩
 refine Xi (af:=F106) rfl (by decide) ?_
 obtain ⟨P,hP⟩:∃ P,jki g (Xk g M)=P:=⟨_,rfl⟩
 have hPn:=fun st h1 h2 h3 h4 h5=>hP ▸ @hnone st (fun _=>True) h1 h2 h3 h4 h5
 rw [hP]
 obtain ⟨C,hC⟩:∃ C,choW g=C:=⟨_,rfl⟩
 rw [hC] at hvc hCl hCs
 simp [F106,j3,j2]
 refine jL evc (by simp [j3]) rfl (by simp [j3]) ?_
 refine XH hvc fun tc addc=>?_
 simp [j2]
 refine jL e83 (by simp [j3]) rfl (by simp [j3]) ?_
 cases hw:jm g
 ·simp
  exact hPn _ (by simp) (by simp) (by simp) (by simp) (by simp [Xk,hw])
 by_cases hl:¬ C.length=M.length
 ·have hne:((C.length:Int) != M.length)=true:=by simp;omega
  simp [hne]
  exact hPn _ (by simp) (by simp) (by simp) (by simp) (by simp [Xk,hC,hl])
 have hl:C.length=M.length:=Classical.byContradiction hl
 have hne:((C.length:Int) != M.length)=false:=by simp;omega
 simp [hne]
 refine jll (n:=M.length) (by simp) (by simp) (by omega) (by omega) rfl (by decide) ?_
 simp
 obtain ⟨J,hJ⟩:∃ J,idxJ C M=J:=⟨_,rfl⟩
 have hJl:J.length=M.length:=by rw [← hJ,jlp C M hl];exact hl
 have hJat:=jre C M
 rw [hJ] at hJat
 have hplaces:Xk g M=if J.all (fun x=>decide (0≤x)) then some J else none:=by
  unfold Xk
  rw [hC,hJ,hw,hl]
  simp
 refine jB [(4,6),(9,10),(28,47)] C.length (fun i s=>s.tm 28 = .int .i64 i∧(∃ cs,s.ob 2433=some ⟨1216,.cells cs⟩∧Upto M.length i J cs)∧(J.take i).all (fun x=>decide (0≤x))=true) rfl rfl ⟨by simp,⟨_,by simp,Upto.zero _ _⟩,by simp⟩ ?_
 rintro i s hi ⟨h28,⟨cs,hcs,hU⟩,hall⟩ f
 have f1:s.tm 1=slOf b intC M:=by rw [f.t 1 (by simp)];simp
 have f7:s.tm 7 = .sl tc C.isEmpty C.length (C.flatMap jc5):=by rw [f.t 7 (by simp)];simp
 have f8:s.tm 8 = .osl 2433 1216 0 M.length 1:=by rw [f.t 8 (by simp)];simp
 have f26:s.tm 26 = .sl tc C.isEmpty C.length (C.flatMap jc5):=by rw [f.t 26 (by simp)];simp
 have f27:s.tm 27 = .int .i64 C.length:=by rw [f.t 27 (by simp)];simp
 have fd:s.df=[]:=by rw [f.d];simp
 have fr:s.ro=0:=by rw [f.r];simp
 clear f
 by_cases hlt:i<C.length
 ·have hw':=jl hlt (by omega)
  have hlt2:i<M.length:=by omega
  have h1:=jwo C hlt
  have h2:=JL M hlt2
  have hix:JH 1 (.sl tc C.isEmpty C.length (C.flatMap jc5)) (.int .i64 (i:Int))=some (.eptr (C.flatMap jc5) (i * 1)):=by
   simp only [Y4,jA Qi]
   rw [if_pos (by simp;omega)]
   rfl
  rw [Nat.mul_one] at hix
  have hio:=idxN (l:=2433) (u:=1216) (n:=M.length) (kk:=.i64) (X:=(i:Int)) rfl hlt2
  have e128:=ev127 (a:=(C[i]).1) (C[i]).2 (by have:=(hCs _ (List.getElem_mem hlt)).2;omega) M[i]
  have hji:=hJat i hlt hlt2
  generalize idxI (C[i]).2 M[i] 0=x at *
  have hU2:=hU.set hlt2 hji
  have hget:(splice cs i [.int .i64 x])[i]? = some (.int .i64 x):=by
   rw [hU2.2.1 i (by omega)]
   have hJ':=List.getElem?_eq_some_iff.1 hji
   rw [JL J hJ'.1,hJ'.2]
  have hcl:=hU.1
  have hle:i+1≤M.length:=hlt2
  simp [h28,f1,f8,f26,f27,hlt,hlt2,hix,j7 jD,h1,h2]
  refine jL e128 (by simp [slOf]) rfl (by simp [slOf]) ?_
  simp [hio,hcs,j2,fr,hcl,hle,f8,hget]
  by_cases hx:x<0
  ·simp [hx]
   refine hPn _ (by simp [fd]) (by simp) (by simp) (by simp) ?_
   rw [hplaces]
   have hm:x∈J:=List.mem_of_getElem? hji
   rw [if_neg]
   rw [List.all_eq_true]
   intro h
   have:=h x hm
   simp at this
   omega
  ·simp [hx,h28,hw']
   refine ⟨hlt,hU2,fun y hy=>?_⟩
   rw [List.take_add_one,hji,List.mem_append] at hy
   rcases hy with hy | hy
   ·simpa using List.all_eq_true.1 hall y hy
   ·simp at hy;omega
 ·have:i=C.length:=by omega
  subst this
  simp [h28,f27]
  rw [List.take_of_length_le (by omega)] at hall
  rw [hl] at hU
  have hcsJ:=hU.whole hJl
  rw [← hP,hplaces,if_pos hall]
  subst hcsJ
  refine tupE (ns:=[4,5,6]) (vs:=[.sl tc C.isEmpty C.length (C.flatMap jc5),.osl 2433 1216 0 M.length 1,.bool true]) (fun r h=>h) (by simp [fd]) (by simp [f7,f8]) (by simp) (by simp) ⟨?_,?_,We rfl,trivial⟩
  ·rw [hC];exact jk6 rfl (jbu _ _ _ _ _)
  ·rw [hJl];exact jk6 rfl (jg5 (by simp [hcs]) hU.1 (by simp [fr]) hU.2.2)
end Go.Pv.T

/- Whether a list is a map: the given answer is the reference's. -/
namespace Go.Pv.T
open Go Go.Pv
theorem ev53 {g:Hist'} (hs:Small g) {b:Bool} (M:List Int) (hM:M.length≤1000000):Ev E 53 [.agg (j3 g),slOf b intC M] (.bool (Xk g M).isSome):=by
 obtain ⟨v,ev,hv⟩:=ev106 hs (b:=b) M hM
 refine jR (af:=F53) rfl ?_
 simp [F53,j3,j2]
 refine jL ev (by simp [j3,slOf]) rfl (by simp [j3,slOf]) ?_
 cases hp:Xk g M with
 | none =>
  rw [hp] at hv
  refine jwd hv fun t1 t2 add=>?_
  simp
  exact j4 (by simp) (by simp) rfl
 | some J =>
  rw [hp] at hv
  refine jwd hv fun t1 t2 add=>?_
  simp
  exact j4 (by simp) (by simp) rfl
theorem jin:∀ (C D:List (Bool × List Int)) (M:List Int),C.map (·.2)=D.map (·.2)→jaa D M=((idxJ C M).all (fun x=>decide (0≤x)) && decide (C.length≤M.length))
 | [],[],M,_=>by cases M <;> simp [jaa,idxJ]
 | c::C,d::D,[],_=>by simp [jaa]
 | c::C,d::D,m::M,h=>by
  simp only [List.map_cons,List.cons.injEq] at h
  have h1:=jin C D M h.2
  have h2:=jge m c.2 0
  have h3:decide (0≤idxI c.2 m 0)=c.2.contains m:=by
   have:decide (0≤idxI c.2 m 0) = !decide (idxI c.2 m 0<0):=by
    by_cases h:idxI c.2 m 0<0
    ·simp [h];
    ·simp [h];omega
   rw [this,h2,Bool.not_not]
  simp only [jaa,idxJ,List.all_cons,h1,h3,← h.1,List.length_cons,Nat.add_le_add_iff_right]
  rw [Bool.and_assoc]
 | [],_::_,_,h=>by simp at h
 | _::_,[],_,h=>by simp at h
theorem jrp {g:Hist'} (hw:jm g=true):(choW g).map (·.2)=(choR g).map (·.2):=by
 unfold choW choR jaj
 rw [if_pos hw]
 simp [List.map_map,Function.comp_def]
theorem j0m {g:Hist'} (hw:jm g=true):(choW g).length=(choR g).length:=by
 have:=congrArg List.length (jrp hw)
 simpa using this
theorem is_eq (g:Hist') (M:List Int):(Xk g M).isSome=jbr g M:=by
 unfold Xk jbr
 cases hw:jm g
 ·simp
 ·rw [jin _ _ M (jrp hw),j0m hw]
  by_cases hl:M.length=(choR g).length
  ·have h1:((choR g).length == M.length)=true:=by simp [hl]
   have h2:(M.length == (choR g).length)=true:=by simp [hl]
   rw [h1,h2]
   simp only [Bool.true_and,hl,Nat.le_refl,decide_true,Bool.and_true]
   split
   ·rename_i h;simp [h]
   ·rename_i h;simp only [Option.isSome_none];simpa using h
  ·have h1:((choR g).length == M.length)=false:=by simp;omega
   have h2:(M.length == (choR g).length)=false:=by simp;omega
   rw [h1,h2]
   simp
end Go.Pv.T

/- WrTells, but for its fixed example. -/
namespace Go.Pv.T
open Go Go.Pv
@[simp] theorem j66 (ob:Nat→Option Obj') (neg a b:Bool):jvq ob neg .bool (.bool a) (.bool b)=some (.bool (xor neg (a == b))):=rfl
theorem jo4 {ub:Nat} {r:V} {g:Hist'} {K:Delta→Prop} (h:jn3 r g)
 (hK:∀ a b c add,K { v:=.agg [.sl a g.sn g.ss.length (g.ss.flatMap strC),.sl b g.kn g.ks.length (g.ks.flatMap strC),.sl c g.tn g.ts.length (g.ts.flatMap txnC)],add:=add }):wpD (Xj ub r) K:=by
 obtain ⟨a,b,c,add,hr⟩:=jms (ub:=ub) h
 rw [hr,jP]
 exact hK a b c add
theorem jb9 {α:Type} {f:α→List V} {k:Nat} (hf:∀ a,(f a).length=k):∀ (l:List α) (n:Nat),(l.flatMap f).take (n * k)=(l.take n).flatMap f
 | [],n=>by simp
 | a::l,0=>by simp
 | a::l,n+1=>by
  rw [List.flatMap_cons,List.take_succ_cons,List.flatMap_cons,Nat.succ_mul,Nat.add_comm,← hf a,List.take_length_add_append,hf a,jb9 hf l n]
end Go.Pv.T

/- The reference's sorting of values. -/
namespace Go.Pv.T
open Go Go.Pv
section
variable {E:Env} {st:St} {ub:Nat} {K:List FP→St→Prop} {d:Option Nat} {nm:Bool} {r:List AOpr}
theorem nbeq {a b:Nat} (h:a≠b):a.beq b=false:=by
 cases e:a.beq b
 ·rfl
 ·exact absurd (Nat.eq_of_beq_eq_true e) h
@[simp] theorem jxf (v:Val'):(J9 v).map V.strip1=J9 v:=rfl
end
theorem jfm {α:Type} {f:α→List V} {sz:Nat} (hf:∀ a,(f a).length=sz) (t:Option (Nat × Nat)) (nl:Bool) (l:List α) {k:Nat} (hk:k≤l.length):jaf sz none (some (.int .i64 (k:Int))) (.sl t nl l.length (l.flatMap f))=some (.sl none nl (l.take k).length ((l.take k).flatMap f)):=by
 have h1:(l.take k).length=k:=by rw [List.length_take];omega
 have e:=jb9 hf l k
 have h2:(k:Int)≤l.length:=by omega
 simp [jaf,Jr,jA hf,h1,e,h2]
end Go.Pv.T

/- slices.Compact, of values of one's own. -/
namespace Go.Pv.T
open Go Go.Pv
theorem ld2 {ob:Nat→Option Obj'} {l u:Nat} {M:List Val'} {x:Nat} (ho:ob l=some ⟨u,.cells (M.flatMap J9)⟩) (hx:x<M.length):QH ob (some 2) (.ptr l u (x * 2))=some (.agg (J9 M[x])):=by
 have h:=jt7 ob M hx
 rw [← h]
 simp only [QH,j2,ho,if_true,Option.bind_some]
end Go.Pv.T

/- The reference's Raw, plain. -/
namespace Go.Pv.T
open Go Go.Pv
structure RwS where
 c:List Bool
 d:List Bool
 hop:Bool
 more:Bool
def RwS.left (r:RwS) (g:Hist') (t k:Nat):List Int:=(ofH g t k).filter fun x=>decide (x<0) || !(r.d.getD x.toNat false)
def RwS.sole (r:RwS) (g:Hist') (t:Nat) (l:List Op'):Nat→Bool × List Int
 | 0=>(false,[])
 | k+1=>match l[k]? with
  | some o =>
   if !Jz g t k || o.v.kind == 2 then r.sole g t l k else
   ((r.sole g t l k).1 || (r.left g t k).length == 0,
    if (r.left g t k).length == 1 && decide (0≤(r.left g t k).headD 0) then (r.sole g t l k).2++[(r.left g t k).headD 0] else (r.sole g t l k).2)
  | none=>r.sole g t l k
def RwS.learn (r:RwS) (t:Nat):List Int→RwS
 | []=>r
 | x::xs=>if r.c.getD t false then (if r.c.getD x.toNat false then r.learn t xs else { r with c:=r.c.set x.toNat true,more:=true }.learn t xs) else r
def RwS.fails (r:RwS) (f:Int) (t:Nat):RwS :=
 if f=1 then { r with hop:=true } else if f=3 then (if r.d.getD t false then r else { r with d:=r.d.set t true,more:=true }) else r
def RwS.txn (r:RwS) (g:Hist') (t:Nat) (f:Int) (l:List Op'):RwS :=
 (if (r.sole g t l l.length).1 || !(QO g t).isEmpty then r.fails f t else r).learn t (r.sole g t l l.length).2
def Alike (n:Nat) (s:KnS) (r:RwS):Prop :=
 r.c.length=n∧r.d.length=n∧(∀ i,i<n→r.c.getD i false=decide (0<X1 s.m i))∧(∀ i,i<n→r.d.getD i false=decide (0<X1 s.n i))∧s.hop=r.hop∧s.more=r.more∧∀ x:Int,x<0→X1 s.n x=0
theorem jp0 {g:Hist'} {t:Nat} {b x:Int} (h:x∈ofH g t b):x≠t:=by
 unfold ofH at h
 split at h
 ·split at h
  ·simp at h
  ·rename_i o _ _
   unfold ofL jq at h
   rcases List.mem_append.1 h with h | h
   ·split at h
    ·simp at h
    ·simp at h;omega
   ·have:=(List.mem_filter.1 h).2
    simp only [Bool.and_eq_true,Bool.not_eq_true',beq_eq_false_iff_ne,ne_eq] at this
    exact this.1
 ·simp at h
theorem jm9 {g:Hist'} {s:KnS} {r:RwS} {t k:Nat} (hd:∀ i,i<g.ts.length→i≠t→r.d.getD i false=decide (0<X1 s.n i)) (hn:∀ x:Int,x<0→X1 s.n x=0):s.left g t k=r.left g t k:=by
 unfold KnS.left RwS.left
 refine List.filter_congr fun x hx=>?_
 have hlt:=jp1 hx
 have hne:=jp0 hx
 by_cases h0:x<0
 ·simp [hn x h0,h0]
 ·obtain ⟨i,rfl⟩:∃ i:Nat,x=i:=⟨x.toNat,by omega⟩
  have:=hd i (by omega) (by omega)
  simp only [Int.toNat_natCast,this,h0,decide_false,Bool.false_or]
theorem Alike.fails {n:Nat} {s:KnS} {r:RwS} (h:Alike n s r) {f:Int} {t:Nat} (ht:t<n) (hp:0≤X1 s.n t):Alike n (s.fails f t) (r.fails f t):=by
 obtain ⟨h1,h2,h3,h4,h5,h6,h7⟩:=h
 unfold KnS.fails RwS.fails
 by_cases f1:f=1
 ·simp only [f1,if_true]
  exact ⟨h1,h2,h3,h4,rfl,h6,h7⟩
 ·by_cases f3:f=3
  ·rw [if_neg f1,if_neg f1,if_pos f3,if_pos f3]
   unfold KnS.learnN
   by_cases h0:X1 s.n t=0
   ·have hr:r.d.getD t false=false:=by rw [h4 t ht,h0];rfl
    rw [if_pos h0,hr]
    simp only [Bool.false_eq_true,if_false]
    refine ⟨h1,by simp [h2],h3,fun i hi=>?_,h5,rfl,fun x hx=>?_⟩
    ·simp only [XA]
     by_cases e:i=t
     ·subst e
      simp [List.getD_eq_getElem?_getD,h2,hi]
     ·have e':¬ (i:Int)=t:=by omega
      have e2:¬ (t:Int)=i:=by omega
      have:=h4 i hi
      simp [e',List.getD_eq_getElem?_getD,Ne.symm e] at this ⊢
      exact this
    ·simp only [XA]
     rw [if_neg (by omega)]
     exact h7 x hx
   ·have hr:r.d.getD t false=true:=by rw [h4 t ht];simp;omega
    rw [if_neg h0,hr]
    simp only [if_true]
    exact ⟨h1,h2,h3,h4,h5,h6,h7⟩
  ·rw [if_neg f1,if_neg f1,if_neg f3,if_neg f3]
   exact ⟨h1,h2,h3,h4,h5,h6,h7⟩
def RwS.com (r:RwS) (x:Nat):RwS:=if r.c.getD x false then r else { r with c:=r.c.set x true,more:=true }
theorem Alike.learnM {n:Nat} {s:KnS} {r:RwS} (h:Alike n s r) {t:Nat} (ht:t<n) (hp:0≤X1 s.m t):Alike n (s.learnM t) (r.com t):=by
 obtain ⟨h1,h2,h3,h4,h5,h6,h7⟩:=h
 unfold KnS.learnM RwS.com
 by_cases h0:X1 s.m t=0
 ·have hr:r.c.getD t false=false:=by rw [h3 t ht,h0];rfl
  rw [if_pos h0,hr]
  simp only [Bool.false_eq_true,if_false]
  refine ⟨by simp [h1],h2,fun i hi=>?_,h4,h5,rfl,h7⟩
  simp only [XA]
  by_cases e:i=t
  ·subst e
   simp [List.getD_eq_getElem?_getD,h1,hi]
  ·have e':¬ (i:Int)=t:=by omega
   have:=h3 i hi
   simp [e',List.getD_eq_getElem?_getD,Ne.symm e] at this ⊢
   exact this
 ·have hr:r.c.getD t false=true:=by rw [h3 t ht];simp;omega
  rw [if_neg h0,hr]
  simp only [if_true]
  exact ⟨h1,h2,h3,h4,h5,h6,h7⟩
end Go.Pv.T

/- A transaction told in whatever order. -/
namespace Go.Pv.T
open Go Go.Pv
theorem KnS.fails_learnM (s:KnS) (f t x:Int):(s.learnM x).fails f t=(s.fails f t).learnM x:=by
 unfold KnS.fails KnS.learnM KnS.learnN
 by_cases f1:f=1
 ·simp only [f1,if_true]
  split <;> rfl
 ·by_cases f3:f=3
  ·rw [if_neg f1,if_neg f1,if_pos f3,if_pos f3]
   by_cases h0:X1 s.m x=0 <;> by_cases h1:X1 s.n t=0 <;> simp [h0,h1]
  ·rw [if_neg f1,if_neg f1,if_neg f3,if_neg f3]
theorem KnS.fails_fails (s:KnS) (f t:Int):(s.fails f t).fails f t=s.fails f t:=by
 unfold KnS.fails KnS.learnN
 by_cases f1:f=1
 ·simp [f1]
 ·by_cases f3:f=3
  ·rw [if_neg f1,if_pos f3]
   by_cases h1:X1 s.n t=0
   ·simp [h1,f3,XA]
   ·simp [h1,f3]
  ·simp [f1,f3]
def KnS.learnAll (s:KnS):List Int→KnS
 | []=>s
 | x::xs=>(s.learnM x).learnAll xs
theorem KnS.learnAll_append (s:KnS) (x:Int):∀ xs:List Int,s.learnAll (xs++[x])=(s.learnAll xs).learnM x:=by
 intro xs
 induction xs generalizing s with
 | nil=>rfl
 | cons y ys ih=>exact ih (s.learnM y)
theorem KnS.fails_learnAll (f t:Int):∀ (xs:List Int) (s:KnS),(s.learnAll xs).fails f t=(s.fails f t).learnAll xs
 | [],_=>rfl
 | x::xs,s=>by
  show ((s.learnM x).learnAll xs).fails f t=((s.fails f t).learnM x).learnAll xs
  rw [KnS.fails_learnAll f t xs,KnS.fails_learnM]
theorem KnS.learnM_n (s:KnS) (x:Int):(s.learnM x).n=s.n:=by unfold KnS.learnM;split <;> rfl
theorem KnS.learnAll_n:∀ (xs:List Int) (s:KnS),(s.learnAll xs).n=s.n
 | [],_=>rfl
 | x::xs,s=>(KnS.learnAll_n xs (s.learnM x)).trans (s.learnM_n x)
theorem KnS.learnM_m (s:KnS) {x t:Int} (h:x≠t):X1 (s.learnM x).m t=X1 s.m t:=by
 unfold KnS.learnM
 split
 ·simp only [XA]
  rw [if_neg (Ne.symm h)]
 ·rfl
theorem KnS.learnAll_m {t:Int}:∀ (xs:List Int) (s:KnS),(∀ x∈xs,x≠t)→X1 (s.learnAll xs).m t=X1 s.m t
 | [],_,_=>rfl
 | x::xs,s,h=>(KnS.learnAll_m xs (s.learnM x) fun y hy=>h y (List.mem_cons_of_mem _ hy)).trans (s.learnM_m (h x (List.mem_cons_self ..)))
theorem KnS.fails_m (s:KnS) (f t:Int):(s.fails f t).m=s.m:=by
 unfold KnS.fails KnS.learnN
 split
 ·rfl
 ·split
  ·split <;> rfl
  ·rfl
theorem KnS.fails_n (s:KnS) (f t:Int) {x:Int} (h:x≠t):X1 (s.fails f t).n x=X1 s.n x:=by
 unfold KnS.fails KnS.learnN
 split
 ·rfl
 ·split
  ·split
   ·simp only [XA]
    rw [if_neg h]
   ·rfl
  ·rfl
theorem KnS.left_same {g:Hist'} {s s':KnS} {t k:Nat} (h:∀ x:Int,x≠t→X1 s.n x=X1 s'.n x):s.left g t k=s'.left g t k:=by
 unfold KnS.left
 refine List.filter_congr fun x hx=>?_
 rw [h x (jp0 hx)]
def KnS.told (s:KnS) (g:Hist') (t:Nat) (l:List Op'):Nat→Bool × List Int
 | 0=>(false,[])
 | k+1=>match l[k]? with
  | some o =>
   if o.v.kind == 2 || !Jz g t k then s.told g t l k else
   if (s.left g t k).length=0 then (true,(s.told g t l k).2) else
   if (s.left g t k).length == 1 && decide (0≤(s.left g t k).headD 0) then ((s.told g t l k).1,(s.told g t l k).2++[(s.left g t k).headD 0]) else s.told g t l k
  | none=>s.told g t l k
theorem KnS.left_mem {g:Hist'} {s:KnS} {t k:Nat} (h:(s.left g t k).length≠0):(s.left g t k).headD 0≠t:=by
 cases hl:s.left g t k with
 | nil=>rw [hl] at h;exact absurd rfl h
 | cons x r =>
  have hm:x∈s.left g t k:=by rw [hl];exact List.mem_cons_self ..
  exact jp0 (List.mem_filter.1 hm).1
theorem KnS.told_ne {g:Hist'} {s:KnS} {t:Nat} {l:List Op'}:∀ k,∀ x∈(s.told g t l k).2,x≠t
 | 0,x,h=>by simp [KnS.told] at h
 | k+1,x,h=>by
  simp only [KnS.told] at h
  split at h
  ·split at h
   ·exact KnS.told_ne k x h
   ·split at h
    ·exact KnS.told_ne k x h
    ·rename_i h0
     split at h
     ·rcases List.mem_append.1 h with h | h
      ·exact KnS.told_ne k x h
      ·rw [List.mem_singleton.1 h]
       exact KnS.left_mem h0
     ·exact KnS.told_ne k x h
  ·exact KnS.told_ne k x h
theorem KnS.ops_told {g:Hist'} (s:KnS) (f:Int) (t:Nat) (l:List Op'):∀ k,s.ops g f t l k=(if (s.told g t l k).1 then s.fails f t else s).learnAll (if 0<X1 s.m t then (s.told g t l k).2 else [])
 | 0=>by
  simp only [KnS.ops,KnS.told,Bool.false_eq_true,if_false]
  split <;> rfl
 | k+1=>by
  cases ho:l[k]? with
  | none =>
   simp only [KnS.ops,KnS.told,ho]
   exact KnS.ops_told s f t l k
  | some o =>
   simp only [KnS.ops,KnS.told,ho]
   rw [KnS.ops_told s f t l k]
   have hne:=KnS.told_ne (g:=g) (s:=s) (t:=t) (l:=l) k
   generalize hB:(if (s.told g t l k).1 then s.fails f t else s)=B
   generalize hL:(if 0<X1 s.m t then (s.told g t l k).2 else [])=L
   have hBn:∀ x:Int,x≠t→X1 B.n x=X1 s.n x:=fun x hx=>by
    rw [← hB];split
    ·exact s.fails_n f t hx
    ·rfl
   have hBm:X1 B.m t=X1 s.m t:=by
    rw [← hB];split
    ·rw [s.fails_m]
    ·rfl
   have hLne:∀ x∈L,x≠(t:Int):=fun x hx=>by
    rw [← hL] at hx
    split at hx
    ·exact hne x hx
    ·simp at hx
   have hleft:(B.learnAll L).left g t k=s.left g t k:=KnS.left_same fun x hx=>by rw [KnS.learnAll_n];exact hBn x hx
   have hm:X1 (B.learnAll L).m t=X1 s.m t:=by rw [KnS.learnAll_m L B hLne];exact hBm
   have hBf:B.fails f t=s.fails f t:=by
    rw [← hB];split
    ·exact s.fails_fails f t
    ·rfl
   unfold KnS.op
   rw [hleft,hm]
   by_cases c0:(o.v.kind == 2 || !Jz g t k)=true
   ·rw [if_pos c0,if_pos c0,hB,hL]
   ·rw [if_neg c0,if_neg c0]
    by_cases c1:(s.left g t k).length=0
    ·rw [if_pos c1,if_pos c1,KnS.fails_learnAll,hBf]
     simp only [if_true]
     rw [hL]
    ·rw [if_neg c1,if_neg c1]
     by_cases c2:((s.left g t k).length == 1 && decide (0≤(s.left g t k).headD 0))=true
     ·rw [if_pos c2]
      simp only [hB]
      simp only [Bool.and_eq_true] at c2
      by_cases c3:0<X1 s.m t
      ·rw [if_pos (by simp only [c2.1,c2.2,c3,decide_true,Bool.and_self]),if_pos c3,← hL,if_pos c3,KnS.learnAll_append]
      ·rw [if_neg (by simp [c3]),if_neg c3,← hL,if_neg c3]
     ·rw [if_neg c2,hB,hL,if_neg ?_]
      intro h
      simp only [Bool.and_eq_true] at h c2
      exact c2 ⟨h.1,h.2.1⟩
theorem jgz {g:Hist'} {s:KnS} {r:RwS} {t:Nat} (hd:∀ i,i<g.ts.length→i≠t→r.d.getD i false=decide (0<X1 s.n i)) (hn:∀ x:Int,x<0→X1 s.n x=0) (l:List Op'):∀ k,s.told g t l k=r.sole g t l k
 | 0=>rfl
 | k+1=>by
  have ih:=jgz hd hn l k
  cases ho:l[k]? with
  | none=>simp only [KnS.told,RwS.sole,ho,ih]
  | some o =>
   have hl:=jm9 (k:=k) hd hn
   simp only [KnS.told,RwS.sole,ho,ih,← hl]
   rw [Bool.or_comm (!Jz g t k) (o.v.kind == 2)]
   by_cases c0:(o.v.kind == 2 || !Jz g t k)=true
   ·rw [if_pos c0,if_pos c0]
   ·rw [if_neg c0,if_neg c0]
    by_cases c1:(s.left g t k).length=0
    ·rw [if_pos c1]
     simp [c1]
    ·rw [if_neg c1]
     have c1':((s.left g t k).length == 0)=false:=by simpa using c1
     rw [c1',Bool.or_false]
     split <;> rfl
end Go.Pv.T

/- Both learn the same. -/
namespace Go.Pv.T
open Go Go.Pv
def KnS.Pos (s:KnS):Prop:=∀ x:Int,0≤X1 s.m x∧0≤X1 s.n x
theorem KnS.Pos.learnM {s:KnS} (h:s.Pos) (t:Int):(s.learnM t).Pos:=by
 unfold KnS.learnM
 split
 ·intro x
  refine ⟨?_,(h x).2⟩
  simp only [XA]
  split
  ·decide
  ·exact (h x).1
 ·exact h
theorem KnS.Pos.learnN {s:KnS} (h:s.Pos) (t:Int):(s.learnN t).Pos:=by
 unfold KnS.learnN
 split
 ·intro x
  refine ⟨(h x).1,?_⟩
  simp only [XA]
  split
  ·decide
  ·exact (h x).2
 ·exact h
theorem KnS.Pos.fails {s:KnS} (h:s.Pos) (f t:Int):(s.fails f t).Pos:=by
 unfold KnS.fails
 split
 ·exact h
 ·split
  ·exact h.learnN t
  ·exact h
theorem KnS.Pos.learnAll:∀ (xs:List Int) {s:KnS},s.Pos→(s.learnAll xs).Pos
 | [],_,h=>h
 | x::xs,_,h=>KnS.Pos.learnAll xs (h.learnM x)
def RwS.comAll (r:RwS):List Int→RwS
 | []=>r
 | x::xs=>(r.com x.toNat).comAll xs
theorem RwS.com_c {r:RwS} {x t:Nat} (h:r.c.getD t false=true):(r.com x).c.getD t false=true:=by
 unfold RwS.com
 split
 ·exact h
 ·rw [List.getD_eq_getElem?_getD] at h
  simp only [List.getD_eq_getElem?_getD,List.getElem?_set]
  split
  ·rename_i e
   subst e
   split
   ·rfl
   ·rename_i e
    rw [List.getElem?_eq_none (by omega)] at h
    cases h
  ·exact h
theorem RwS.learn_all (t:Nat):∀ (xs:List Int) (r:RwS),r.learn t xs=if r.c.getD t false then r.comAll xs else r
 | [],r=>by simp [RwS.learn,RwS.comAll]
 | x::xs,r=>by
  simp only [RwS.learn,RwS.comAll]
  by_cases h:r.c.getD t false=true
  ·rw [if_pos h,if_pos h]
   have hc:=RwS.com_c (x:=x.toNat) h
   unfold RwS.com at hc ⊢
   by_cases h2:r.c.getD x.toNat false=true
   ·rw [if_pos h2,if_pos h2,RwS.learn_all t xs r,if_pos h]
   ·rw [if_neg h2] at hc
    rw [if_neg h2,if_neg h2,RwS.learn_all t xs,if_pos hc]
  ·rw [if_neg h,if_neg h]
theorem Alike.learnAll {n:Nat}:∀ (xs:List Int) {s:KnS} {r:RwS},Alike n s r→s.Pos→(∀ x∈xs,0≤x∧x<n)→Alike n (s.learnAll xs) (r.comAll xs)
 | [],_,_,h,_,_=>h
 | x::xs,s,r,h,hp,hx=>by
  obtain ⟨h0,h1⟩:=hx x (List.mem_cons_self ..)
  have hl:=h.learnM (t:=x.toNat) (by omega) (hp _).1
  have e:((x.toNat:Nat):Int)=x:=Int.toNat_of_nonneg h0
  rw [e] at hl
  exact Alike.learnAll xs hl (hp.learnM x) fun y hy=>hx y (List.mem_cons_of_mem _ hy)
theorem KnS.left_lt {g:Hist'} {s:KnS} {t k:Nat} (h:(s.left g t k).length≠0):(s.left g t k).headD 0<g.ts.length:=by
 cases hl:s.left g t k with
 | nil=>rw [hl] at h;exact absurd rfl h
 | cons x r =>
  have hm:x∈s.left g t k:=by rw [hl];exact List.mem_cons_self ..
  exact jp1 (List.mem_filter.1 hm).1
theorem KnS.told_lt {g:Hist'} {s:KnS} {t:Nat} {l:List Op'}:∀ k,∀ x∈(s.told g t l k).2,0≤x∧x<g.ts.length
 | 0,x,h=>by simp [KnS.told] at h
 | k+1,x,h=>by
  simp only [KnS.told] at h
  split at h
  ·split at h
   ·exact KnS.told_lt k x h
   ·split at h
    ·exact KnS.told_lt k x h
    ·rename_i h0
     split at h
     ·rename_i h1
      simp only [Bool.and_eq_true,decide_eq_true_eq] at h1
      rcases List.mem_append.1 h with h | h
      ·exact KnS.told_lt k x h
      ·rw [List.mem_singleton.1 h]
       exact ⟨h1.2,KnS.left_lt h0⟩
     ·exact KnS.told_lt k x h
  ·exact KnS.told_lt k x h
theorem Alike.txn {g:Hist'} {s:KnS} {r:RwS} (h:Alike g.ts.length s r) (hp:s.Pos) {t:Nat} (ht:t<g.ts.length) (f:Int) (l:List Op') :
 Alike g.ts.length (s.txn g t f l) (r.txn g t f l)∧(s.txn g t f l).Pos:=by
 unfold KnS.txn
 rw [KnS.ops_told]
 generalize hs1:(if (QO g t).isEmpty then s else s.fails f t)=s1
 have hn1:∀ x:Int,x≠t→X1 s1.n x=X1 s.n x:=fun x hx=>by
  rw [← hs1];split
  ·rfl
  ·exact s.fails_n f t hx
 have hm1:s1.m=s.m:=by
  rw [← hs1];split
  ·rfl
  ·rw [s.fails_m]
 have hsole:=jgz (s:=s1) (r:=r) (t:=t) (g:=g) (fun i hi hne=>by rw [h.2.2.2.1 i hi,hn1 i (by omega)]) (fun x hx=>by rw [hn1 x (by omega)];exact h.2.2.2.2.2.2 x hx) l l.length
 have hlt:=KnS.told_lt (g:=g) (s:=s1) (t:=t) (l:=l) l.length
 rw [hsole] at hlt
 rw [hsole,hm1]
 unfold RwS.txn
 rw [RwS.learn_all]
 have base:(if (r.sole g t l l.length).1 then s1.fails f t else s1)=if (r.sole g t l l.length).1 || !(QO g t).isEmpty then s.fails f t else s:=by
  rw [← hs1]
  cases (QO g t).isEmpty <;> cases (r.sole g t l l.length).1 <;> simp [KnS.fails_fails]
 rw [base]
 generalize r.sole g t l l.length=q at hlt ⊢
 have hB:Alike g.ts.length (if q.1 || !(QO g t).isEmpty then s.fails f t else s) (if q.1 || !(QO g t).isEmpty then r.fails f t else r)∧(if q.1 || !(QO g t).isEmpty then s.fails f t else s).Pos∧(if q.1 || !(QO g t).isEmpty then s.fails f t else s).m=s.m:=by
  split
  ·exact ⟨h.fails ht (hp _).2,hp.fails f t,s.fails_m f t⟩
  ·exact ⟨h,hp,rfl⟩
 generalize (if q.1 || !(QO g t).isEmpty then s.fails f t else s)=B at hB ⊢
 generalize (if q.1 || !(QO g t).isEmpty then r.fails f t else r)=R at hB ⊢
 obtain ⟨hA,hP,hM⟩:=hB
 have hc:=hA.2.2.1 t ht
 rw [hM] at hc
 by_cases h0:0<X1 s.m t
 ·have hc':R.c.getD t false=true:=by rw [hc];simp [h0]
  rw [if_pos h0,if_pos hc']
  exact ⟨hA.learnAll _ hP hlt,hP.learnAll _⟩
 ·have hc':¬ R.c.getD t false=true:=by rw [hc];simp [h0]
  rw [if_neg h0,if_neg hc']
  exact ⟨hA,hP⟩
def RwS.round (r:RwS) (g:Hist'):Nat→RwS
 | 0=>{ r with more:=false }
 | i+1=>match g.ts[i]? with
  | some t=>(r.round g i).txn g i t.f t.ops
  | none=>r.round g i
def RwS.iter (g:Hist'):Nat→RwS→RwS
 | 0,r=>r
 | k+1,r=>if r.more then RwS.iter g k (r.round g g.ts.length) else r
theorem Alike.round {g:Hist'} {s:KnS} {r:RwS} (h:Alike g.ts.length s r) (hp:s.Pos):∀ i,i≤g.ts.length→Alike g.ts.length (s.round g i) (r.round g i)∧(s.round g i).Pos
 | 0,_=>⟨⟨h.1,h.2.1,h.2.2.1,h.2.2.2.1,h.2.2.2.2.1,rfl,h.2.2.2.2.2.2⟩,hp⟩
 | i+1,hi=>by
  obtain ⟨hA,hP⟩:=Alike.round h hp i (by omega)
  simp only [KnS.round,RwS.round,List.getElem?_eq_getElem (show i<g.ts.length by omega)]
  exact hA.txn hP (by omega) _ _
theorem Alike.iter {g:Hist'}:∀ (k:Nat) {s:KnS} {r:RwS},Alike g.ts.length s r→s.Pos→Alike g.ts.length (KnS.iter g k s) (RwS.iter g k r)∧(KnS.iter g k s).Pos
 | 0,_,_,h,hp=>⟨h,hp⟩
 | k+1,s,r,h,hp=>by
  simp only [KnS.iter,RwS.iter,← h.2.2.2.2.2.1]
  split
  ·obtain ⟨hA,hP⟩:=Alike.round h hp g.ts.length (Nat.le_refl _)
   exact Alike.iter k hA hP
  ·exact ⟨h,hp⟩
end Go.Pv.T

/- value.Sorted (an observer of a list of values). -/
namespace Go.Pv.T
open Go Go.Pv
@[simp] theorem j08 (v:Val'):(J9 v).all V.leaf=true:=rfl
end Go.Pv.T

/- Sorted values: one list alone. -/
namespace Go.Pv.T
open Go Go.Pv
end Go.Pv.T

/- value.Sorted (an observer of a list of values): what it answers, exactly. -/
namespace Go.Pv.T
open Go Go.Pv
end Go.Pv.T

/- What a lost read may have read: the program's walk. -/
namespace Go.Pv.T
open Go Go.Pv
def ValsP (ob:Nat→Option Obj') (p:Nat→Prop) (l:List Val') (v:V):Prop:=∃ u,v = .osl (2 * u+1) u 0 l.length 2∧ob (2 * u+1)=some ⟨u,.cells (l.flatMap J9)⟩∧p u
theorem ValsP.frame {ob ob':Nat→Option Obj'} {p p':Nat→Prop} {l:List Val'} {v:V} (h:ValsP ob p l v) (hf:∀ u,p u→ob' (2 * u+1)=ob (2 * u+1)) (hh:∀ u,p u→p' u):ValsP ob' p' l v:=by
 obtain ⟨u,h2,h3,h4⟩:=h
 exact ⟨u,h2,(hf u h4).trans h3,hh u h4⟩
end Go.Pv.T

/- What a lost read may have read: the reference's list. -/
namespace Go.Pv.T
open Go Go.Pv
end Go.Pv.T

/- WriterOf, but for its fixed example. -/
namespace Go.Pv.T
open Go Go.Pv
end Go.Pv.T

/- A history made whole; plain. -/
namespace Go.Pv.T
open Go Go.Pv
def jgo (g:Hist') (cs:List Bool) (i:Nat):Bool:=match g.ts[i]? with
 | some t=>if t.f=3 then cs.getD (numsTo JY g.ts i).length false else t.f == 1
 | none=>false
def opR (g:Hist') (lo:List Val') (i k:Nat) (o:Op'):Op':=if o.v.kind=2 then { o with v:=lo.getD (JV g i k).length ⟨0,0⟩ } else o
def jd7 (g:Hist') (cs:List Bool) (lo:List Val') (i:Nat) (t:Txn'):Txn':={ s:=t.s,f:=if jgo g cs i then 1 else 2,nl:=false,ops:=t.ops.mapIdx (opR g lo i) }
def rawH (g:Hist') (cs:List Bool) (lo:List Val'):Hist':=⟨false,g.ss,false,g.ks,g.ts.isEmpty,g.ts.mapIdx (jd7 g cs lo)⟩
def loB (v:Val'):Bool:=v.kind == 1 || (v.kind == 0 && v.n == 0)
def Xe (g:Hist'):Bool:=(numsTo JE g.ts g.ts.length).any (fun i=>!(QO g i).isEmpty) || (choR g).any fun c=>c.2.isEmpty
section
variable {g:Hist'} {cs:List Bool} {lo:List Val'}
theorem Yy:(rawH g cs lo).ts.length=g.ts.length:=by simp [rawH]
theorem YN {i:Nat} (h:i<g.ts.length):(rawH g cs lo).ts[i]'(by rw [Yy];exact h)=jd7 g cs lo i g.ts[i]:=by simp [rawH]
theorem YN? (i:Nat):(rawH g cs lo).ts[i]? = (g.ts[i]?).map (jd7 g cs lo i):=by simp [rawH]
theorem jbt (i:Nat) (t:Txn'):(jd7 g cs lo i t).ops.length=t.ops.length:=by simp [jd7]
theorem jyj (i k:Nat) (o:Op'):(opR g lo i k o).w=o.w:=by unfold opR;split <;> rfl
theorem jfv (i k:Nat) (o:Op'):(opR g lo i k o).key=o.key:=by unfold opR;split <;> rfl
theorem jwh (i k:Nat) (key:Int) (o:Op'):wkB key (opR g lo i k o)=wkB key o:=by unfold wkB;rw [jyj,jfv]
theorem jbx {i k:Nat} {o:Op'} (h:¬ o.v.kind=2):opR g lo i k o=o:=by unfold opR;rw [if_neg h]
theorem jyw {v:Val'} (h:loB v=true):jgx v=true:=by
 unfold loB at h;unfold jgx
 revert h
 cases v.kind == 1 <;> cases v.kind == 0 <;> cases v.n == 0 <;> simp
theorem jzw (hl:lo.all loB=true) (n:Nat):loB (lo.getD n ⟨0,0⟩)=true:=by
 rw [List.getD_eq_getElem?_getD]
 cases h:lo[n]? with
 | none=>rfl
 | some v=>exact List.all_eq_true.1 hl v (List.mem_of_getElem? h)
theorem jyk {i k:Nat} {o:Op'} (hl:lo.all loB=true) (h:jgx o.v=true):jgx (opR g lo i k o).v=true:=by
 unfold opR
 split
 ·exact jyw (jzw hl _)
 ·exact h
theorem jf1 {α β:Type} (f:α→β) (k:Nat→α→α) (h:∀ n x,f (k n x)=f x) (l:List α):(l.mapIdx k).map f=l.map f:=by
 apply List.ext_getElem?
 intro n
 rw [List.getElem?_map,List.getElem?_map,List.getElem?_mapIdx]
 cases l[n]? <;> simp [h]
theorem jwn (hm:X6 g=true) {t:Txn'} {o:Op'} (ht:t∈g.ts) (ho:o∈t.ops):opB g o=true:=by
 unfold X6 at hm
 simp only [Bool.and_eq_true,List.all_eq_true] at hm
 exact hm.2.2.1 o (List.mem_flatMap.2 ⟨t,ht,ho⟩)
theorem jfr (hm:X6 g=true) (hl:lo.all loB=true):X6 (rawH g cs lo)=true:=by
 have hop:=fun t o=>@jwn g hm t o
 unfold X6 at hm ⊢
 simp only [Bool.and_eq_true,List.all_eq_true] at hm ⊢
 obtain ⟨h1,h2,h3,h4⟩:=hm
 refine ⟨?_,?_,?_,?_⟩
 ·unfold Xf at h1 ⊢
  rw [Yy]
  exact h1
 ·intro x hx
  obtain ⟨i,hi⟩:=List.mem_iff_getElem?.1 hx
  rw [YN?] at hi
  obtain ⟨t,ht,rfl⟩:=Option.map_eq_some_iff.1 hi
  have:=h2 t (List.mem_of_getElem? ht)
  unfold jbq at this ⊢
  rw [jbt]
  simp only [Bool.and_eq_true,decide_eq_true_eq] at this ⊢
  refine ⟨this.1,?_,?_,this.2.2.2⟩ <;> (simp only [jd7];split <;> decide)
 ·intro x hx
  unfold Qe at hx
  rw [List.mem_flatMap] at hx
  obtain ⟨y,hy,hx⟩:=hx
  obtain ⟨i,hi⟩:=List.mem_iff_getElem?.1 hy
  rw [YN?] at hi
  obtain ⟨t,ht,rfl⟩:=Option.map_eq_some_iff.1 hi
  obtain ⟨k,hk⟩:=List.mem_iff_getElem?.1 hx
  simp only [jd7,List.getElem?_mapIdx] at hk
  obtain ⟨o,ho,rfl⟩:=Option.map_eq_some_iff.1 hk
  have:=hop t o (List.mem_of_getElem? ht) (List.mem_of_getElem? ho)
  unfold opB at this ⊢
  simp only [Bool.and_eq_true] at this ⊢
  rw [jfv,jyj]
  refine ⟨this.1,jyk hl this.2.1,?_⟩
  cases hw:o.w
  ·rfl
  ·rw [hw] at this
   have hk1:o.v.kind=1:=by simpa using this.2.2
   rw [jbx (by omega)]
   simp [hk1]
 ·unfold ji0 at h4 ⊢
  have e1:usesS (rawH g cs lo)=usesS g:=jf1 (fun t:Txn'=>t.s) (jd7 g cs lo) (fun _ _=>rfl) g.ts
  have e2:usesK (rawH g cs lo)=usesK g:=by
   unfold usesK Qe
   rw [List.map_flatMap,List.map_flatMap,List.flatMap_def,List.flatMap_def]
   congr 1
   exact jf1 (fun t:Txn'=>t.ops.map (·.key)) (jd7 g cs lo) (fun n t=>jf1 (fun o:Op'=>o.key) (opR g lo n) (fun k o=>jfv n k o) t.ops) g.ts
  rw [e1,e2]
  exact h4
end
end Go.Pv.T

/- Fresh numbers: the program's walk. -/
namespace Go.Pv.T
open Go Go.Pv
theorem jp8 {α:Type} (k0:Int) (b:α) (m:List (Int × α)) (k:Int) (a:α):jam ((k0,b)::m) k a=if k=k0 then (k,a)::m else (k0,b)::jam m k a:=by
 unfold jam
 rw [jw]
 by_cases h:k=k0
 ·simp [h]
 ·rw [if_neg h,if_neg h]
  cases jw m k <;> simp
theorem jc3 {α:Type} (k:Int) (a:α) (k':Int):∀ m:List (Int × α),(jw (jam m k a) k').map (·.2)=if k'=k then some a else (jw m k').map (·.2)
 | []=>by
  by_cases h:k'=k <;> simp [jam,jw,h]
 | (k0,b)::m=>by
  rw [jp8]
  have ih:=jc3 k a k' m
  by_cases h:k=k0
  ·subst h
   rw [if_pos rfl,jw,jw]
   by_cases h':k'=k <;> simp [h']
  ·rw [if_neg h,jw,jw]
   by_cases h':k'=k0
   ·subst h'
    simp [show ¬ k'=k from fun e=>h e.symm]
   ·rw [if_neg h',if_neg h']
    simp only [Option.map_map]
    have e:((fun x:Nat × α=>x.2) ∘ fun p:Nat × α=>(p.1+1,p.2))=fun x=>x.2:=rfl
    rw [e]
    exact ih
theorem jqd (m:List (Int × Int)) (k a k':Int):X1 (jam m k a) k'=if k'=k then a else X1 m k':=by
 unfold X1
 rw [jc3]
 split <;> rfl
def Cnt (m:List (Int × Int)) (L:List Int):Prop:=∀ k,X1 m k=(L.count k:Nat)
theorem Cnt.nil:Cnt [] []:=fun _=>rfl
theorem Cnt.le {m:List (Int × Int)} {L:List Int} (h:Cnt m L) (k:Int):0≤X1 m k∧X1 m k≤L.length:=by
 rw [h k]
 have:=List.count_le_length (a:=k) (l:=L)
 omega
end Go.Pv.T

/- Another value read at one place: what may have written it (plain). -/
namespace Go.Pv.T
open Go Go.Pv
theorem je2 {α:Type} {k:α→α} {y:α}:∀ {l:List α} {i:Nat},y∈l.modify i k→y∈l∨∃ x,l[i]? = some x∧y=k x
 | [],i,h=>by simp at h
 | x::l,0,h=>by
  rw [List.modify_cons] at h
  simp only [if_true,List.mem_cons] at h
  rcases h with rfl | h
  ·exact .inr ⟨x,rfl,rfl⟩
  ·exact .inl (List.mem_cons_of_mem _ h)
 | x::l,i+1,h=>by
  rw [List.modify_cons] at h
  simp only [Nat.add_one_ne_zero,if_false,Nat.add_sub_cancel,List.mem_cons] at h
  rcases h with rfl | h
  ·exact .inl (List.mem_cons_self ..)
  ·rcases je2 h with h | ⟨z,h1,h2⟩
   ·exact .inl (List.mem_cons_of_mem _ h)
   ·exact .inr ⟨z,by simpa using h1,h2⟩
theorem jjl {g:Hist'} {a b:Nat} {t:Txn'} {o:Op'} (hm:X6 g=true) (ht:g.ts[a]? = some t) (ho:t.ops[b]? = some o):opAt g a b=some o:=by
 obtain ⟨h1,h2⟩:=List.getElem?_eq_some_iff.1 ht
 obtain ⟨h3,h4⟩:=List.getElem?_eq_some_iff.1 ho
 unfold opAt
 simp only [Int.toNat_natCast]
 have hg:g.ts.getD a ⟨0,0,true,[]⟩=t:=by rw [jr h1,h2]
 have hlt:b<(g.ts.getD a ⟨0,0,true,[]⟩).ops.length:=by rw [hg];exact h3
 rw [hm,if_pos (by simp only [Bool.true_and,Bool.and_eq_true,decide_eq_true_eq];omega),hg]
 exact ho
end Go.Pv.T

/- A history made whole: what it says of its reads; plain. -/
namespace Go.Pv.T
open Go Go.Pv
section
variable {g:Hist'} {cs:List Bool} {lo:List Val'}
theorem mem_nums {p:Txn'→Bool} {l:List Txn'} {x:Int}:∀ {n:Nat},x∈numsTo p l n ↔ ∃ i:Nat,i<n∧x=i∧∃ t,l[i]? = some t∧p t=true
 | 0=>by simp [numsTo]
 | n+1=>by
  simp only [numsTo,List.mem_append,mem_nums (n:=n)]
  constructor
  ·rintro (⟨i,h1,h2⟩ | h)
   ·exact ⟨i,by omega,h2⟩
   ·cases hn:l[n]? with
    | none=>rw [hn] at h;simp at h
    | some t =>
     rw [hn] at h
     simp only at h
     split at h
     ·rename_i hp
      exact ⟨n,by omega,by simpa using h,t,hn,hp⟩
     ·simp at h
  ·rintro ⟨i,h1,h2,t,ht,hp⟩
   rcases Nat.lt_succ_iff_lt_or_eq.1 h1 with h | h
   ·exact .inl ⟨i,h,h2,t,ht,hp⟩
   ·subst h
    right
    rw [ht]
    simp [hp,h2]
theorem jyc (i:Nat) (t:Txn'):(jd7 g cs lo i t).f=if jgo g cs i then 1 else 2:=rfl
theorem QZ (hm:X6 g=true) {i:Nat} {t:Txn'} (ht:t∈g.ts) (key:Int):∀ n,js key (jd7 g cs lo i t).ops n=js key t.ops n
 | 0=>rfl
 | n+1=>by
  rw [js,js,QZ hm ht key n]
  simp only [jd7,List.getElem?_mapIdx]
  cases ho:t.ops[n]? with
  | none=>rfl
  | some o =>
   simp only [Option.map_some,jwh]
   split
   ·rename_i hw
    have hb:=jwn hm ht (List.mem_of_getElem? ho)
    unfold opB at hb
    unfold wkB at hw
    simp only [Bool.and_eq_true] at hw hb
    have hk:o.v.kind=1:=by simpa [hw.1] using hb.2.2
    rw [jbx (by omega)]
   ·rfl
theorem jye {i:Nat} {t:Txn'} (key:Int):(jd7 g cs lo i t).ops.any (wkB key)=t.ops.any (wkB key):=by
 have:(jd7 g cs lo i t).ops.map (wkB key)=t.ops.map (wkB key):=jf1 (wkB key) (opR g lo i) (fun n x=>jwh i n key x) t.ops
 have h:=congrArg (fun l:List Bool=>l.any id) this
 simpa [List.any_map] using h
theorem jje {key x:Int} (h:x∈writersH (rawH g cs lo) key):x∈writersH g key∧∃ i:Nat,x=i∧jgo g cs i=true:=by
 unfold writersH at h ⊢
 rw [Yy] at h
 obtain ⟨i,h1,h2,t',ht',hp⟩:=mem_nums.1 h
 rw [YN?] at ht'
 obtain ⟨t,ht,rfl⟩:=Option.map_eq_some_iff.1 ht'
 unfold wrB at hp
 rw [jye,Bool.and_eq_true,jyc] at hp
 have hc:jgo g cs i=true:=by
  cases hc:jgo g cs i
  ·rw [hc] at hp;simp at hp
  ·rfl
 refine ⟨mem_nums.2 ⟨i,h1,h2,t,ht,?_⟩,i,h2,hc⟩
 unfold wrB
 rw [hp.2,Bool.and_true]
 unfold jgo at hc
 rw [ht] at hc
 simp only at hc
 split at hc
 ·rename_i hf;simp [hf]
 ·have:t.f=1:=by simpa using hc
  simp [this]
theorem jpa (hm:X6 g=true) (hl:lo.all loB=true) (key:Int) {i:Nat} (h:i<g.ts.length):XB (rawH g cs lo) key i=XB g key i:=by
 rw [jau (jfr hm hl) key (by rw [Yy];exact h),jau hm key h,YN h,jbt,QZ hm (List.getElem_mem h)]
theorem jk2 (hm:X6 g=true) (hl:lo.all loB=true) {i k:Nat} {t:Txn'} {o:Op'} (ht:g.ts[i]? = some t) (ho:t.ops[k]? = some o):opAt (rawH g cs lo) i k=some (opR g lo i k o) :=
 jjl (jfr hm hl) (t:=jd7 g cs lo i t) (by rw [YN?,ht];rfl) (by simp [jd7,ho])
theorem jo9 (hm:X6 g=true) (hl:lo.all loB=true) {i k:Nat} {t:Txn'} {o:Op'} (ht:g.ts[i]? = some t) (ho:t.ops[k]? = some o):Jz (rawH g cs lo) i k=Jz g i k:=by
 obtain ⟨h1,h2⟩:=List.getElem?_eq_some_iff.1 ht
 unfold Jz jjj
 rw [jk2 hm hl ht ho,jjl hm ht ho]
 simp only [jyj,jfv,Int.toNat_natCast]
 rw [jr (by rw [Yy];exact h1),jr h1,YN h1,QZ hm (List.getElem_mem h1)]
theorem j2j (hm:X6 g=true) (hl:lo.all loB=true) {i k:Nat} {t:Txn'} {o:Op'} (ht:g.ts[i]? = some t) (ho:t.ops[k]? = some o) (h2:¬ o.v.kind=2) {x:Int} (h:x∈ofH (rawH g cs lo) i k):x∈ofH g i k∧(x = -1∨∃ j:Nat,x=j∧jgo g cs j=true):=by
 unfold ofH at h ⊢
 rw [jk2 hm hl ht ho,jbx h2] at h
 rw [jjl hm ht ho]
 simp only at h ⊢
 split at h
 ·simp at h
 ·rename_i hw
  rw [if_neg hw]
  unfold ofL at h ⊢
  rw [List.mem_append] at h ⊢
  rcases h with h | h
  ·refine ⟨.inl h,.inl ?_⟩
   unfold jq at h
   split at h
   ·simp at h
   ·simpa using h
  ·obtain ⟨hx,hf⟩:=List.mem_filter.1 h
   obtain ⟨hx',j,rfl,hc⟩:=jje hx
   have hj:j<g.ts.length:=by
    obtain ⟨i',h1,h2,_⟩:=mem_nums.1 hx'
    omega
   refine ⟨.inr (List.mem_filter.2 ⟨hx',?_⟩),.inr ⟨j,rfl,hc⟩⟩
   rw [jpa hm hl _ hj] at hf
   exact hf
theorem badTo_mem {ops:List Op'} {x:Int}:∀ {n:Nat},x∈Y9 ops n ↔ ∃ k:Nat,k<n∧x=k∧∃ o,ops[k]? = some o∧j1m ops k o=true
 | 0=>by simp [Y9]
 | n+1=>by
  simp only [Y9,List.mem_append,badTo_mem (n:=n)]
  constructor
  ·rintro (⟨i,h1,h2⟩ | h)
   ·exact ⟨i,by omega,h2⟩
   ·cases hn:ops[n]? with
    | none=>rw [hn] at h;simp at h
    | some t =>
     rw [hn] at h
     simp only at h
     split at h
     ·rename_i hp
      exact ⟨n,by omega,by simpa using h,t,hn,hp⟩
     ·simp at h
  ·rintro ⟨i,h1,h2,t,ht,hp⟩
   rcases Nat.lt_succ_iff_lt_or_eq.1 h1 with h | h
   ·exact .inl ⟨i,h,h2,t,ht,hp⟩
   ·subst h
    right
    rw [ht]
    simp [hp,h2]
theorem jrv (hm:X6 g=true) {i:Nat} {t:Txn'} (ht:g.ts[i]? = some t):QO g i=Y9 t.ops t.ops.length:=by
 obtain ⟨h1,h2⟩:=List.getElem?_eq_some_iff.1 ht
 unfold QO XM
 rw [hm,if_pos (by simp;omega)]
 simp only [Int.toNat_natCast]
 rw [jr h1,h2]
theorem jyd (hm:X6 g=true) (hl:lo.all loB=true) {i:Nat} {t:Txn'} (ht:g.ts[i]? = some t) (h:¬ QO g i=[]):¬ QO (rawH g cs lo) i=[]:=by
 rw [jrv hm ht] at h
 rw [jrv (jfr hm hl) (by rw [YN?,ht];rfl)]
 obtain ⟨x,hx⟩:=List.exists_mem_of_ne_nil _ h
 obtain ⟨k,h1,h2,o,ho,hb⟩:=badTo_mem.1 hx
 have:x∈Y9 (jd7 g cs lo i t).ops (jd7 g cs lo i t).ops.length:=by
  refine badTo_mem.2 ⟨k,by rw [jbt];exact h1,h2,opR g lo i k o,by simp [jd7,ho],?_⟩
  have h2k:¬ o.v.kind=2:=by
   unfold j1m at hb
   simp only [Bool.and_eq_true] at hb
   simpa using hb.2.1
  rw [jbx h2k]
  unfold j1m at hb ⊢
  rw [QZ hm (List.mem_of_getElem? ht)]
  exact hb
 intro e
 rw [e] at this
 simp at this
theorem readIn_mem {i:Nat} {p:Int × Int}:∀ {n:Nat},p∈jo g i n ↔ ∃ k:Nat,k<n∧p=((i:Int),(k:Int))∧Jz g i k=true
 | 0=>by simp [jo]
 | n+1=>by
  simp only [jo,List.mem_append,readIn_mem (n:=n)]
  constructor
  ·rintro (⟨k,h1,h2⟩ | h)
   ·exact ⟨k,by omega,h2⟩
   ·split at h
    ·rename_i hp
     exact ⟨n,by omega,by simpa using h,hp⟩
    ·simp at h
  ·rintro ⟨k,h1,h2,hp⟩
   rcases Nat.lt_succ_iff_lt_or_eq.1 h1 with h | h
   ·exact .inl ⟨k,h,h2,hp⟩
   ·subst h
    right
    simp [hp,h2]
theorem jes {i k:Nat} {t:Txn'} (ht:g.ts[i]? = some t) (hc:JE t=true) (hk:k<t.ops.length) (ho:Jz g i k=true):∀ {n:Nat},i<n→((i:Int),(k:Int))∈JU g n
 | 0,h=>by omega
 | n+1,h=>by
  simp only [JU,List.mem_append]
  rcases Nat.lt_succ_iff_lt_or_eq.1 h with h | h
  ·exact .inl (jes ht hc hk ho h)
  ·subst h
   right
   rw [ht]
   simp only [hc,if_true]
   exact readIn_mem.2 ⟨k,hk,rfl,ho⟩
end
end Go.Pv.T

/- A world that is against what must be, made whole, is hopeless; plain. -/
namespace Go.Pv.T
open Go Go.Pv
section
variable {g:Hist'} {cs:List Bool} {lo:List Val'}
structure Snd (g:Hist') (cs:List Bool) (s:KnS):Prop where
 m:∀ x:Int,0<X1 s.m x→∃ i:Nat,x=i∧jgo g cs i=true
 n:∀ x:Int,0<X1 s.n x→∃ i:Nat,x=i∧jgo g cs i=false
 h:s.hop=false
theorem Snd.learnM {s:KnS} (h:Snd g cs s) {i:Nat} (hi:jgo g cs i=true):Snd g cs (s.learnM i):=by
 unfold KnS.learnM
 split
 ·refine ⟨fun x hx=>?_,h.n,h.h⟩
  simp only [XA] at hx
  split at hx
  ·rename_i e;exact ⟨i,e,hi⟩
  ·exact h.m x hx
 ·exact h
theorem Snd.learnN {s:KnS} (h:Snd g cs s) {i:Nat} (hi:jgo g cs i=false):Snd g cs (s.learnN i):=by
 unfold KnS.learnN
 split
 ·refine ⟨h.m,fun x hx=>?_,h.h⟩
  simp only [XA] at hx
  split at hx
  ·rename_i e;exact ⟨i,e,hi⟩
  ·exact h.n x hx
 ·exact h
theorem Snd.fails {s:KnS} (h:Snd g cs s) {i:Nat} {t:Txn'} (ht:g.ts[i]? = some t) (hi:jgo g cs i=false):Snd g cs (s.fails t.f i):=by
 unfold KnS.fails
 split
 ·rename_i hf
  unfold jgo at hi
  rw [ht] at hi
  simp [hf] at hi
 ·split
  ·exact h.learnN hi
  ·exact h
theorem hope (h:Xe (rawH g cs lo)=false):(∀ i:Nat,i<g.ts.length→jgo g cs i=true→QO (rawH g cs lo) i=[])∧∀ p∈readH (rawH g cs lo),¬ ofH (rawH g cs lo) p.1 p.2=[]:=by
 unfold Xe at h
 rw [Bool.or_eq_false_iff,List.any_eq_false,List.any_eq_false] at h
 constructor
 ·intro i hi hc
  have:=h.1 (i:Int) (mem_nums.2 ⟨i,by rw [Yy];exact hi,rfl,jd7 g cs lo i g.ts[i],by rw [YN?,List.getElem?_eq_getElem hi];rfl,by unfold JE;rw [jyc,hc];rfl⟩)
  simpa using this
 ·intro p hp e
  have:=h.2 (false,ofH (rawH g cs lo) p.1 p.2) (List.mem_map.2 ⟨p,hp,rfl⟩)
  simp [e] at this
theorem jqi (hm:X6 g=true) (hl:lo.all loB=true) (hh:Xe (rawH g cs lo)=false) {s:KnS} (h:Snd g cs s) {i k:Nat} {t:Txn'} {o:Op'} (ht:g.ts[i]? = some t) (ho:t.ops[k]? = some o) (h2:¬ o.v.kind=2) (hu:Jz g i k=true) (hc:jgo g cs i=true) :
 ∃ x∈s.left g i k,x = -1∨∃ j:Nat,x=j∧jgo g cs j=true:=by
 have hne:=(hope hh).2 ((i:Int),(k:Int)) (jes (t:=jd7 g cs lo i t) (by rw [YN?,ht];rfl) (by unfold JE;rw [jyc,hc];rfl) (by rw [jbt];exact (List.getElem?_eq_some_iff.1 ho).1) (by rw [jo9 hm hl ht ho];exact hu) (by rw [Yy];exact (List.getElem?_eq_some_iff.1 ht).1))
 obtain ⟨x,hx⟩:=List.exists_mem_of_ne_nil _ hne
 obtain ⟨h3,h4⟩:=j2j hm hl ht ho h2 hx
 refine ⟨x,List.mem_filter.2 ⟨h3,?_⟩,h4⟩
 simp only [Bool.not_eq_true',decide_eq_false_iff_not]
 intro hn
 obtain ⟨j,hj,hjc⟩:=h.n x hn
 rcases h4 with e | ⟨j',e,hc'⟩
 ·omega
 ·have:j=j':=by omega
  subst this
  rw [hjc] at hc'
  cases hc'
theorem Snd.op (hm:X6 g=true) (hl:lo.all loB=true) (hh:Xe (rawH g cs lo)=false) {s:KnS} (h:Snd g cs s) {i k:Nat} {t:Txn'} {o:Op'} (ht:g.ts[i]? = some t) (ho:t.ops[k]? = some o):Snd g cs (s.op g t.f i k o):=by
 unfold KnS.op
 split
 ·exact h
 ·rename_i hc
  simp only [Bool.or_eq_true,not_or,beq_iff_eq,Bool.not_eq_true',Bool.not_eq_false] at hc
  have key:=jqi hm hl hh h ht ho hc.1 hc.2
  split
  ·rename_i h0
   refine h.fails ht ?_
   cases hci:jgo g cs i
   ·rfl
   ·obtain ⟨x,hx,_⟩:=key hci
    have:=List.length_pos_of_mem hx
    omega
  ·split
   ·rename_i h1
    simp only [Bool.and_eq_true,decide_eq_true_eq,beq_iff_eq] at h1
    obtain ⟨i',e,hci⟩:=h.m i h1.2.2
    have:i'=i:=by omega
    subst this
    obtain ⟨x,hx,hx2⟩:=key hci
    obtain ⟨y,hy⟩:=List.length_eq_one_iff.1 h1.1
    rw [hy] at hx h1 ⊢
    have hxy:x=y:=by simpa using hx
    subst hxy
    rcases hx2 with e | ⟨j,e,hj⟩
    ·have:=h1.2.1
     simp only [List.headD_cons] at this
     omega
    ·simp only [List.headD_cons]
     rw [e]
     exact h.learnM hj
   ·exact h
theorem Snd.ops (hm:X6 g=true) (hl:lo.all loB=true) (hh:Xe (rawH g cs lo)=false) {s:KnS} (h:Snd g cs s) {i:Nat} {t:Txn'} (ht:g.ts[i]? = some t):∀ n,Snd g cs (s.ops g t.f i t.ops n)
 | 0=>h
 | n+1=>by
  simp only [KnS.ops]
  split
  ·rename_i o ho
   exact (Snd.ops hm hl hh h ht n).op hm hl hh ht ho
  ·exact Snd.ops hm hl hh h ht n
theorem Snd.txn (hm:X6 g=true) (hl:lo.all loB=true) (hh:Xe (rawH g cs lo)=false) {s:KnS} (h:Snd g cs s) {i:Nat} {t:Txn'} (ht:g.ts[i]? = some t):Snd g cs (s.txn g i t.f t.ops):=by
 unfold KnS.txn
 refine Snd.ops hm hl hh ?_ ht _
 split
 ·exact h
 ·rename_i hb
  refine h.fails ht ?_
  cases hci:jgo g cs i
  ·rfl
  ·have h1:=jyd (cs:=cs) hm hl ht (by simpa using hb)
   exact absurd ((hope hh).1 i (List.getElem?_eq_some_iff.1 ht).1 hci) h1
theorem Snd.round (hm:X6 g=true) (hl:lo.all loB=true) (hh:Xe (rawH g cs lo)=false) {s:KnS} (h:Snd g cs s):∀ n,Snd g cs (s.round g n)
 | 0=>⟨h.m,h.n,h.h⟩
 | n+1=>by
  simp only [KnS.round]
  split
  ·rename_i t ht
   exact (Snd.round hm hl hh h n).txn hm hl hh ht
  ·exact Snd.round hm hl hh h n
theorem Snd.iter (hm:X6 g=true) (hl:lo.all loB=true) (hh:Xe (rawH g cs lo)=false):∀ (n:Nat) {s:KnS},Snd g cs s→Snd g cs (KnS.iter g n s)
 | 0,_,h=>h
 | n+1,s,h=>by
  simp only [KnS.iter]
  split
  ·exact Snd.iter hm hl hh n (h.round hm hl hh _)
  ·exact h
end
end Go.Pv.T

/- Maps of reads: the first, the next, how many, all: plain laws. -/
namespace Go.Pv.T
open Go Go.Pv
abbrev Cs':=List (Bool × List Int)
def hd1 (c:Bool × List Int):Int:=c.2.headD 0
def jfx:Cs'→List Int→Option (List Int)
 | c::cs,m::ms=>match jfx cs ms with
  | some r=>some (m::r)
  | none=>if idxI c.2 m 0+1<c.2.length then some (c.2.getD (idxI c.2 m 0+1).toNat 0::cs.map hd1) else none
 | _,_=>none
end Go.Pv.T

/- Maps of reads: the first, and how many: walks. -/
namespace Go.Pv.T
open Go Go.Pv
end Go.Pv.T

/- Who committed; whether a whole history is hopeless; what it then tells. -/
namespace Go.Pv.T
open Go Go.Pv
theorem ev39 (h:Hist') (hn:h.ts.length≤1000):Ev E 39 [.agg (j3 h)] (.sl (some (0,1)) false (numsTo JE h.ts h.ts.length).length ((numsTo JE h.ts h.ts.length).flatMap intC)):=by
 refine jR (af:=F39) rfl ?_
 simp [F39,j3]
 refine jK (cs:=[]) rfl rfl rfl ?_
 simp
 refine YD (n:=h.ts.length) (fun k s=>∃ i u,k=h.ts.length - i∧i≤h.ts.length∧s.df=[]∧s.fb=0∧s.ro=0∧s.tm 1 = .ptr 2 0 0∧s.ob 2=some ⟨0,.cells (j3 h)⟩∧s.tm 4 = .int .i64 i∧s.tk u=true ∧
  s.tm 3 = .sl (some (u,1)) false (numsTo JE h.ts i).length ((numsTo JE h.ts i).flatMap intC))
  ⟨0,128,by simp [numsTo,j3]⟩ ?_
 rintro k s ⟨i,u,rfl,hi,hd,hfb,hro,h1,o2,h4,hu,h3⟩
 by_cases hlt:i<h.ts.length
 ·simp [h1,o2,h4,j2,j3,hlt,j7 j9,je j9,txnC]
  have hl:=J8 JE h.ts i
  cases hf:h.ts[i].f == 1
  ·simp [h4]
   refine ⟨h.ts.length - (i+1),by omega,i+1,⟨rfl,by omega,hd,hfb,hro,h1,by simpa [j3] using o2,by rw [J0 (by omega) (by omega)];simp,u,hu,?_⟩⟩
   rw [h3,JC hlt,JE,hf]
   simp
  ·simp [h3,h4]
   refine jK (cs:=[.int .i64 i]) (by simp [splice]) rfl rfl ?_
   simp
   refine Jf (u:=u) (nl:=false) (n:=(numsTo JE h.ts i).length) (cs:=(numsTo JE h.ts i).flatMap intC) (ys:=[.int .i64 i]) (by simp) (by simp [ji,hu]) (by simp [jM]) (by simp) (by rw [jA jD]) (by decide) rfl (by simp;omega) (by simp;omega) ?_
   simp [h4,hd,hfb,hro,h1,o2,j3]
   refine ⟨h.ts.length - (i+1),by omega,i+1,rfl,by omega,by rw [J0 (by omega) (by omega)];simp,Or.inl ?_⟩
   rw [JC hlt,JE,hf]
   simp [intC]
 ·have:i=h.ts.length:=by omega
  subst this
  simp [h1,o2,h4,j2,j3]
  exact jdp (u:=u) (by simpa using hd) (by simp [h3]) (by simpa using hu)
end Go.Pv.T

/- Axioms in plain Lean: what goes before what, orders, what a read sees. -/
namespace Go.Pv.T
open Go Go.Pv
def Ji (f:Nat→Bool):Nat→Bool
 | 0=>true
 | k+1=>Ji f k && f k
theorem andTo_iff {f:Nat→Bool}:∀ {n:Nat},Ji f n=true ↔ ∀ k,k<n→f k=true
 | 0=>by simp [Ji]
 | n+1=>by
  rw [Ji,Bool.and_eq_true,andTo_iff]
  constructor
  ·rintro ⟨h,h'⟩ k hk
   rcases Nat.lt_or_ge k n with h1 | h1
   ·exact h k h1
   ·have:k=n:=by omega
    exact this ▸ h'
  ·exact fun h=>⟨fun k hk=>h k (by omega),h n (by omega)⟩
theorem jd1 {f:Nat→Bool} {k n:Nat} (hk:k<n) (h:f k=false):Ji f n=false:=by
 cases e:Ji f n with
 | false=>rfl
 | true=>rw [andTo_iff.1 e k hk] at h;cases h
theorem jke {f f':Nat→Bool} {n:Nat} (h:∀ k,k<n→f k=f' k):Ji f n=Ji f' n:=by
 rw [Bool.eq_iff_iff,andTo_iff,andTo_iff]
 exact ⟨fun a k hk=>h k hk ▸ a k hk,fun a k hk=>(h k hk).symm ▸ a k hk⟩
def Xm (f:Nat→Bool):Nat→List Int
 | 0=>[]
 | k+1=>Xm f k++(if f k then [(k:Int)] else [])
theorem jif (f:Nat→Bool):∀ n,(Xm f n).length≤n
 | 0=>Nat.le_refl _
 | n+1=>by
  have:=jif f n
  simp only [Xm,List.length_append]
  split <;> simp <;> omega
theorem filTo_mem {f:Nat→Bool} {x:Int}:∀ {n:Nat},x∈Xm f n ↔ ∃ k:Nat,k<n∧x=k∧f k=true
 | 0=>by simp [Xm]
 | n+1=>by
  rw [Xm,List.mem_append,filTo_mem]
  constructor
  ·rintro (⟨k,h1,h2,h3⟩ | h)
   ·exact ⟨k,by omega,h2,h3⟩
   ·cases hf:f n
    ·simp [hf] at h
    ·simp [hf] at h;exact ⟨n,by omega,h,hf⟩
  ·rintro ⟨k,h1,h2,h3⟩
   rcases Nat.lt_or_ge k n with h | h
   ·exact .inl ⟨k,h,h2,h3⟩
   ·have:k=n:=by omega
    subst this
    exact .inr (by simp [h3,h2])
def Jh (g:Hist') (a:Nat):Bool:=match g.ts[a]? with | some t=>JE t | none=>false
def Jc (g:Hist') (a:Nat):Int:=match g.ts[a]? with | some t=>t.s | none=>0
def jg0 (p:Txn'→Bool) (ts:List Txn') (a:Nat):Bool:=match ts[a]? with | some t=>p t | none=>false
theorem Yb (p:Txn'→Bool) (ts:List Txn'):∀ n,numsTo p ts n=Xm (jg0 p ts) n
 | 0=>rfl
 | n+1=>by
  rw [numsTo,Xm,Yb p ts n]
  congr 1
  unfold jg0
  cases ts[n]? <;> rfl
theorem Jt {g:Hist'} {a:Nat} (h:Jh g a=true):a<g.ts.length:=by
 unfold Jh at h
 cases h':g.ts[a]? with
 | none=>rw [h'] at h;cases h
 | some t=>exact (List.getElem?_eq_some_iff.1 h').1
def comL (g:Hist'):List Int:=numsTo JE g.ts g.ts.length
theorem comL_mem {g:Hist'} {x:Int}:x∈comL g ↔ ∃ k:Nat,x=k∧Jh g k=true:=by
 rw [comL,Yb,filTo_mem]
 exact ⟨fun ⟨k,_,h2,h3⟩=>⟨k,h2,h3⟩,fun ⟨k,h2,h3⟩=>⟨k,Jt h3,h2,h3⟩⟩
theorem WX {g:Hist'} (h:jm g=true):comH g=comL g:=by rw [comH,if_pos h];rfl
def jia (R:List (Int × Int)) (M:List Int) (a b:Nat):Bool:=(R.zip M).any fun x=>x.2 == (a:Int) && x.1.1 == (b:Int)
def Yt (g:Hist') (M:List Int) (a b:Nat):Bool:=Jh g a && Jh g b && ((decide (a<b) && Jc g a == Jc g b) || jia (readH g) M a b)
def war (r:Nat→Nat→Bool):Nat→Nat→Nat→Bool
 | 0,b,a=>r a b
 | k+1,b,a=>war r k b a || (war r k b k && war r k k a)
theorem QQ {r:Nat→Nat→Bool}:∀ {K k:Nat},k<K→∀ {b a:Nat},war r K b k=true→war r K k a=true→war r K b a=true
 | K+1,k,hk,b,a,h1,h2=>by
  simp only [war,Bool.or_eq_true,Bool.and_eq_true] at h1 h2 ⊢
  rcases Nat.lt_or_ge k K with hlt | hge
  ·rcases h1 with h1 | ⟨h1,h1'⟩ <;> rcases h2 with h2 | ⟨h2,h2'⟩
   ·exact .inl (QQ hlt h1 h2)
   ·exact .inr ⟨QQ hlt h1 h2,h2'⟩
   ·exact .inr ⟨h1,QQ hlt h1' h2⟩
   ·exact .inr ⟨h1,h2'⟩
  ·have:k=K:=by omega
   subst this
   rcases h1 with h1 | ⟨h1,h1'⟩ <;> rcases h2 with h2 | ⟨h2,h2'⟩
   ·exact .inr ⟨h1,h2⟩
   ·exact .inr ⟨h1,h2'⟩
   ·exact .inr ⟨h1,h2⟩
   ·exact .inr ⟨h1,h2'⟩
theorem jiz {r:Nat→Nat→Bool} {b a:Nat} (h:r a b=true):∀ K,war r K b a=true
 | 0=>h
 | K+1=>by simp [war,jiz h K]
theorem jeg {r:Nat→Nat→Bool} {p:Nat→Prop} {q:Nat→Prop} (h0:∀ a b,q b→r a b=true→p a) (h1:∀ b,p b→q b):∀ (K:Nat) {b a:Nat},q b→war r K b a=true→p a
 | 0,b,a,hb,h=>h0 a b hb h
 | K+1,b,a,hb,h=>by
  simp only [war,Bool.or_eq_true,Bool.and_eq_true] at h
  rcases h with h | ⟨h,h'⟩
  ·exact jeg h0 h1 K hb h
  ·exact jeg h0 h1 K (h1 _ (jeg h0 h1 K hb h)) h'
def farB (g:Hist') (M:List Int) (t a:Nat):Bool:=war (Yt g M) g.ts.length t a
theorem jcb {g:Hist'} {M:List Int} {a b:Nat} (h:Yt g M a b=true):Jh g a=true∧Jh g b=true:=by
 simp only [Yt,Bool.and_eq_true] at h
 exact h.1
theorem jl0 {g:Hist'} {M:List Int} {t a:Nat} (h:farB g M t a=true):Jh g a=true :=
 jeg (r:=Yt g M) (p:=fun a=>Jh g a=true) (q:=fun _=>True) (fun _ _ _ h=>(jcb h).1) (fun _ _=>trivial) g.ts.length (b:=t) trivial h
def atO (O:List Int) (t:Int):Int:=idxI O t 0
theorem jgd (k:Int):∀ (l:List Int) (n:Nat),idxI l k n = -1∨(n:Int)≤idxI l k n
 | [],n=>.inl rfl
 | x::r,n=>by
  rw [idxI]
  split
  ·exact .inr (Int.le_refl _)
  ·rcases jgd k r (n+1) with h | h
   ·exact .inl h
   ·exact .inr (by omega)
theorem jw2 (O:List Int) (t:Int):-1≤atO O t:=by
 rcases jgd t O 0 with h | h <;> unfold atO <;> omega
theorem atO_neg {O:List Int} {t:Int}:atO O t<0 ↔ t ∉ O:=by
 have h:=jge t O 0
 unfold atO
 constructor
 ·intro h1 h2
  have:O.contains t=true:=by simpa using h2
  rw [this] at h
  simp at h
  omega
 ·intro h1
  have:O.contains t=false:=by simpa using h1
  rw [this] at h
  simpa using h
theorem jlq {a b:Int}:∀ {l:List Int} {n:Nat},0≤idxI l a n→idxI l a n=idxI l b n→a=b
 | [],n,h,_=>by simp [idxI] at h
 | x::r,n,h,h'=>by
  rw [idxI] at h h'
  rw [idxI] at h'
  by_cases h1:a=x
  ·by_cases h2:b=x
   ·rw [h1,h2]
   ·have e1:(a == x)=true:=by simpa using h1
    have e2:(b == x)=false:=by simpa using h2
    rw [e1,e2] at h'
    simp only [if_true,Bool.false_eq_true,if_false] at h'
    rcases jgd b r (n+1) with h3 | h3 <;> omega
  ·have e1:(a == x)=false:=by simpa using h1
   by_cases h2:b=x
   ·have e2:(b == x)=true:=by simpa using h2
    rw [e1,e2] at h'
    simp only [if_true,Bool.false_eq_true,if_false] at h'
    rcases jgd a r (n+1) with h3 | h3 <;> omega
   ·have e2:(b == x)=false:=by simpa using h2
    rw [e1] at h
    rw [e1,e2] at h'
    simp only [Bool.false_eq_true,if_false] at h h'
    exact jlq h h'
theorem j0t {O:List Int} {a b:Int} (ha:a∈O) (h:atO O a=atO O b):a=b:=by
 refine jlq (l:=O) (n:=0) ?_ h
 rcases Int.lt_or_le (idxI O a 0) 0 with h1 | h1
 ·exact absurd ha (atO_neg.1 h1)
 ·exact h1
def jnc (g:Hist') (p:Int × Int):Int:=match opAt g p.1 p.2 with | some o=>o.key | none=>0
def jf7 (g:Hist') (t key:Int):Bool:=(WP (XM g t).2 key).2
def rcB (R:List (Int × Int)) (M:List Int) (p:Int × Int) (t:Int):Bool:=(R.zip M).any fun x=>x.1.1 == p.1 && (decide (x.1.2<p.2) && x.2 == t)
def WF (g:Hist') (lvl:Int) (M O:List Int) (p:Int × Int) (t:Nat):Bool :=
 if lvl=1 then rcB (readH g) M p t else if lvl=2 then farB g M p.1.toNat t else if lvl=3 then Jh g t && decide (atO O t<atO O p.1) else false
def jfp (g:Hist') (lvl:Int) (M O:List Int) (p:Int × Int):List Int:=Xm (WF g lvl M O p) g.ts.length
def okB (g:Hist') (O:List Int) (p:Int × Int) (m t:Int):Bool:=t == m || (!jf7 g t (jnc g p) || decide (atO O t<atO O m))
def jeo (g:Hist') (lvl:Int) (M O:List Int) (i:Nat):Bool:=match (readH g)[i]?,M[i]? with
 | some p,some m=>decide (m<0∨atO O m<atO O p.1) && (jfp g lvl M O p).all (okB g O p m)
 | _,_=>true
def jd3 (g:Hist') (O:List Int) (b a:Nat):Bool:=!(Jc g ((comL g).getD a 0).toNat == Jc g ((comL g).getD b 0).toNat) || decide (atO O ((comL g).getD a 0)<atO O ((comL g).getD b 0))
def js7 (g:Hist') (O:List Int) (b:Nat):Bool:=(QO g ((comL g).getD b 0)).isEmpty && Ji (jd3 g O b) b
def Qs (g:Hist') (lvl:Int) (M O:List Int):Bool:=Ji (js7 g O) (comL g).length && Ji (jeo g lvl M O) (readH g).length
def jk (g:Hist') (O:List Int):Bool:=jm g && ((comL g).length == O.length && Ji (fun i=>(comL g).contains (O.getD i 0) && !(O.take i).contains (O.getD i 0)) O.length)
def WH (g:Hist') (lvl:Int) (M O:List Int):Int:=if !jm g then 4 else if decide (lvl<1∨3<lvl) || (!jbr g M || !jk g O) then 2 else 0
end Go.Pv.T

/- Axioms in plain Lean: what the given judge finds is what the reference says. -/
namespace Go.Pv.T
open Go Go.Pv
theorem com_f {g:Hist'} (hw:jm g=true) {a:Nat} {t:Txn'} (ht:g.ts[a]? = some t) (h2:t.f≠2):Jh g a=true:=by
 unfold jm at hw
 simp only [Bool.and_eq_true,List.isEmpty_iff] at hw
 obtain ⟨hm,hi,_⟩:=hw
 have h3:t.f≠3:=fun e=>by
  have:((a:Nat):Int)∈XJ g:=by
   rw [XJ,Yb,filTo_mem]
   exact ⟨a,(List.getElem?_eq_some_iff.1 ht).1,rfl,by simp [jg0,ht,JY,e]⟩
  rw [hi] at this
  cases this
 unfold X6 at hm
 simp only [Bool.and_eq_true,List.all_eq_true] at hm
 have:=hm.2.1 t (List.mem_of_getElem? ht)
 simp only [jbq,Bool.and_eq_true,decide_eq_true_eq] at this
 simp only [Jh,ht,JE,beq_iff_eq]
 omega
theorem jwj {g:Hist'} (hw:jm g=true) {a b x:Int} (h:x∈ofH g a b):x = -1∨x∈comL g:=by
 unfold ofH at h
 split at h
 ·split at h
  ·cases h
  ·rw [ofL,List.mem_append] at h
   rcases h with h | h
   ·unfold jq at h
    split at h
    ·cases h
    ·exact .inl (by simpa using h)
   ·have h1:=(List.mem_filter.1 h).1
    rw [writersH,Yb,filTo_mem] at h1
    obtain ⟨k,h1,h2,h3⟩:=h1
    refine .inr (comL_mem.2 ⟨k,h2,?_⟩)
    unfold jg0 at h3
    cases ht:g.ts[k]? with
    | none=>rw [ht] at h3;cases h3
    | some t =>
     rw [ht] at h3
     simp only [wrB,Bool.and_eq_true,bne_iff_ne,ne_eq] at h3
     exact com_f hw ht h3.1
 ·cases h
theorem jio:∀ {C:List (Bool × List Int)} {M:List Int} {i:Nat} {c:Bool × List Int},jaa C M=true→C[i]? = some c→∃ m,M[i]? = some m∧m∈c.2
 | [],_,_,_,_,hc=>by simp at hc
 | _::_,[],_,_,h,_=>by simp [jaa] at h
 | d::C,m::M,0,c,h,hc=>by
  simp only [jaa,Bool.and_eq_true] at h
  simp at hc
  subst hc
  exact ⟨m,rfl,by simpa using h.1⟩
 | d::C,m::M,i+1,c,h,hc=>by
  simp only [jaa,Bool.and_eq_true] at h
  simpa using jio h.2 (by simpa using hc)
section
variable {g:Hist'} {M O:List Int}
theorem jlf (h:jbr g M=true) {i:Nat} {p:Int × Int} (hp:(readH g)[i]? = some p):∃ m,M[i]? = some m∧m∈ofH g p.1 p.2:=by
 unfold jbr at h
 simp only [Bool.and_eq_true] at h
 exact jio (c:=(false,ofH g p.1 p.2)) h.2.2 (by simp [choR,hp])
theorem jap (h:jbr g M=true):M.length=(readH g).length:=by
 unfold jbr at h
 simp only [Bool.and_eq_true,beq_iff_eq] at h
 simpa [choR] using h.2.1
theorem jc4 (h:jbr g M=true):jm g=true:=by
 unfold jbr at h
 simp only [Bool.and_eq_true] at h
 exact h.1
theorem jf0 (h:jbr g M=true) {m:Int} (hm:m∈M):m = -1∨m∈comL g:=by
 obtain ⟨i,hi,e⟩:=List.getElem_of_mem hm
 have hi':i<(readH g).length:=by rw [← jap h];exact hi
 obtain ⟨m',h1,h2⟩:=jlf h (List.getElem?_eq_getElem hi')
 rw [List.getElem?_eq_getElem hi] at h1
 cases h1
 rw [← e]
 exact jwj (jc4 h) h2
theorem jcp {p:Int × Int}:∀ {n:Nat},p∈JU g n→∃ (i k:Nat) (t:Txn'),p=((i:Int),(k:Int))∧g.ts[i]? = some t∧JE t=true∧k<t.ops.length∧Jz g i k=true
 | 0,h=>by simp [JU] at h
 | n+1,h=>by
  rw [JU,List.mem_append] at h
  rcases h with h | h
  ·exact jcp h
  ·cases ht:g.ts[n]? with
   | none=>rw [ht] at h;cases h
   | some t =>
    rw [ht] at h
    simp only at h
    split at h
    ·rename_i hc
     obtain ⟨k,h1,h2,h3⟩:=readIn_mem.1 h
     exact ⟨n,k,t,h2,ht,hc,h1,h3⟩
    ·cases h
theorem Yx {p:Int × Int} (h:p∈readH g):p.1∈comL g:=by
 obtain ⟨i,k,t,rfl,ht,hc,_⟩:=jcp h
 exact comL_mem.2 ⟨i,rfl,by simp [Jh,ht,hc]⟩
/-! Orders -/
theorem jph (h:jk g O=true):(comL g).length=O.length:=by
 unfold jk at h
 simp only [Bool.and_eq_true,beq_iff_eq] at h
 exact h.2.1
theorem jk8 (h:jk g O=true) {i:Nat} (hi:i<O.length):O[i]∈comL g∧O[i] ∉ O.take i:=by
 unfold jk at h
 simp only [Bool.and_eq_true] at h
 have:=andTo_iff.1 h.2.2 i hi
 simpa [List.getD_eq_getElem?_getD,List.getElem?_eq_getElem hi] using this
theorem jld:∀ {L:List Int},(∀ i (hi:i<L.length),L[i] ∉ L.take i)→L.Nodup
 | [],_=>List.nodup_nil
 | x::r,h=>by
  rw [List.nodup_cons]
  constructor
  ·intro hx
   obtain ⟨i,hi,e⟩:=List.getElem_of_mem hx
   have:=h (i+1) (by simpa using hi)
   simp [e] at this
  ·refine jld fun i hi hm=>?_
   have:=h (i+1) (by simpa using hi)
   simp [hm] at this
theorem jcy (h:jk g O=true):O.Nodup:=jld fun _ hi=>(jk8 h hi).2
theorem jcx (h:jk g O=true) {x:Int} (hx:x∈O):x∈comL g:=by
 obtain ⟨i,hi,e⟩:=List.getElem_of_mem hx
 exact e ▸ (jk8 h hi).1
theorem jdt (g:Hist'):(comL g).Pairwise (· < ·):=(Ya (p:=JE) (ts:=g.ts) g.ts.length (Nat.le_refl _)).2
theorem jnw (g:Hist'):(comL g).Nodup:=(jdt g).imp fun h=>Int.ne_of_lt h
theorem jcu:∀ {O C:List Int},O.Nodup→(∀ x∈O,x∈C)→C.length=O.length→O.Perm C
 | [],C,_,_,h=>by
  have:C=[]:=List.length_eq_zero_iff.1 h
  rw [this]
 | x::r,C,hn,hs,h=>by
  rw [List.nodup_cons] at hn
  have hx:=hs x (by simp)
  have h1:=List.perm_cons_erase hx
  refine (List.Perm.cons x (jcu hn.2 (fun y hy=>?_) ?_)).trans h1.symm
  ·have hne:y≠x:=fun e=>hn.1 (e ▸ hy)
   exact (List.mem_erase_of_ne hne).2 (hs y (by simp [hy]))
  ·have:=h1.length_eq
   simp at this h
   omega
theorem Wf (h:jk g O=true):O.Perm (comL g):=jcu (jcy h) (fun _=>jcx h) (jph h)
theorem jpi (hw:jm g=true):jk g O=true ↔ O.Perm (comL g):=by
 refine ⟨Wf,fun h=>?_⟩
 have hn:O.Nodup:=h.nodup_iff.2 (jnw g)
 unfold jk
 rw [hw,Bool.true_and,Bool.and_eq_true,andTo_iff]
 refine ⟨by rw [h.length_eq];simp,fun i hi=>?_⟩
 have h1:O[i]∈comL g:=h.mem_iff.1 (List.getElem_mem hi)
 have h2:O[i] ∉ O.take i:=fun hm=>by
  obtain ⟨j,hj,e⟩:=List.getElem_of_mem hm
  simp at hj
  rw [List.getElem_take] at e
  exact List.pairwise_iff_getElem.1 hn j i (by omega) hi (by omega) e
 simp [List.getD_eq_getElem?_getD,List.getElem?_eq_getElem hi,h1,h2]
theorem jel:∀ {S C:List Int},S.Perm C→S.Pairwise (·≤·)→C.Pairwise (· < ·)→S=C
 | [],C,h,_,_=>(List.nil_perm.1 h).symm
 | x::r,C,h,hs,hc=>by
  cases C with
  | nil=>exact absurd h.length_eq (by simp)
  | cons y q =>
   rw [List.pairwise_cons] at hs hc
   have hx:x∈y::q:=h.mem_iff.1 (by simp)
   have hy:y∈x::r:=h.mem_iff.2 (by simp)
   have e:x=y:=by
    rcases List.mem_cons.1 hx with h1 | h1
    ·exact h1
    ·rcases List.mem_cons.1 hy with h2 | h2
     ·exact h2.symm
     ·have:=hs.1 y h2
      have:=hc.1 x h1
      omega
   subst e
   rw [jel ((List.perm_cons x).1 h) hs.2 hc.2]
theorem jbd (hw:jm g=true) {S:List Int} (hp:O.Perm S) (hs:S.Pairwise (·≤·)):(S == comL g)=jk g O:=by
 rw [Bool.eq_iff_iff,jpi hw,beq_iff_eq]
 exact ⟨fun e=>e ▸ hp,fun h=>jel (hp.symm.trans h) hs (jdt g)⟩
/-! Where each stands -/
theorem jlr:∀ {l:List Int} {n k:Nat} (h:k<l.length),l.Nodup→idxI l l[k] n=(n+k:Nat)
 | x::r,n,0,_,_=>by simp [idxI]
 | x::r,n,k+1,h,hn=>by
  rw [List.nodup_cons] at hn
  have hk:k<r.length:=by simpa using h
  have hne:((r[k]) == x)=false:=by
   rw [beq_eq_false_iff_ne]
   exact fun e=>hn.1 (e ▸ List.getElem_mem hk)
  simp only [List.getElem_cons_succ,idxI,hne,Bool.false_eq_true,if_false]
  rw [jlr hk hn.2]
  omega
theorem j0u (hn:O.Nodup) {k:Nat} (h:k<O.length):atO O O[k]=k:=by
 rw [atO,jlr h hn,Nat.zero_add]
def atM (O:List Int):Nat→List (Int × Int)
 | 0=>[(-1,-1)]
 | k+1=>jam (atM O k) (O.getD k 0) k
theorem jw3 (hn:O.Nodup) (t:Int):∀ k,k≤O.length→X1 (atM O k) t=if t∈O.take k then atO O t else if t = -1 then -1 else 0
 | 0,_=>by
  unfold atM X1
  by_cases h:t = -1 <;> simp [jw,h]
 | k+1,h=>by
  have hk:k<O.length:=by omega
  rw [atM,jqd,jw3 hn t k (by omega)]
  have e:O.getD k 0=O[k]:=by simp [List.getD_eq_getElem?_getD,List.getElem?_eq_getElem hk]
  have hm:t∈O.take (k+1) ↔ t∈O.take k∨t=O[k]:=by
   rw [List.take_add_one,List.getElem?_eq_getElem hk]
   simp only [List.mem_append,Option.toList_some,List.mem_singleton]
  rw [e]
  by_cases h1:t=O[k]
  ·rw [if_pos h1,if_pos (hm.2 (.inr h1)),h1,j0u hn hk]
  ·rw [if_neg h1]
   by_cases h2:t∈O.take k
   ·rw [if_pos h2,if_pos (hm.2 (.inl h2))]
   ·rw [if_neg h2,if_neg fun h=>(hm.1 h).elim h2 h1]
theorem jl5 (h:jk g O=true) {t:Int} (ht:t = -1∨t∈comL g):X1 (atM O O.length) t=atO O t:=by
 have hneg:(-1:Int) ∉ O:=fun hm=>by
  obtain ⟨k,e,_⟩:=comL_mem.1 (jcx h hm)
  omega
 rw [jw3 (jcy h) t _ (Nat.le_refl _),List.take_length]
 rcases ht with rfl | ht
 ·rw [if_neg hneg,if_pos rfl]
  have h1:=atO_neg.2 hneg
  have h2:=jw2 O (-1)
  omega
 ·rw [if_pos ((Wf h).mem_iff.2 ht)]
theorem j0v (h:jk g O=true) {t:Int} (ht:t∈comL g):0≤atO O t:=by
 rcases Int.lt_or_le (atO O t) 0 with h1 | h1
 ·exact absurd ((Wf h).mem_iff.2 ht) (atO_neg.1 h1)
 ·exact h1
theorem j0s (h:jk g O=true):atO O (-1) = -1:=by
 have hneg:(-1:Int) ∉ O:=fun hm=>by
  obtain ⟨k,e,_⟩:=comL_mem.1 (jcx h hm)
  omega
 have h1:=atO_neg.2 hneg
 have h2:=jw2 O (-1)
 omega
/-! Sessions -/
def jg8 (g:Hist') (O:List Int):Nat→List (Int × Int)
 | 0=>[]
 | k+1=>jam (jg8 g O k) (Jc g ((comL g).getD k 0).toNat) (atO O ((comL g).getD k 0))
def jku (g:Hist') (O:List Int) (k:Nat):Bool:=!((jw (jg8 g O k) (Jc g ((comL g).getD k 0).toNat)).any fun x=>decide (atO O ((comL g).getD k 0)<x.2)) && (QO g ((comL g).getD k 0)).isEmpty
def SesI (g:Hist') (O:List Int) (n:Nat):Prop:=∀ s,match (jw (jg8 g O n) s).map (·.2) with
 | none=>∀ j,j<n→Jc g ((comL g).getD j 0).toNat≠s
 | some v=>(∃ j,j<n∧Jc g ((comL g).getD j 0).toNat=s∧atO O ((comL g).getD j 0)=v)∧∀ j,j<n→Jc g ((comL g).getD j 0).toNat=s→atO O ((comL g).getD j 0)≤v
theorem jx5 (h:jk g O=true) {n:Nat} (hn:n<(comL g).length) (hi:SesI g O n):jku g O n=js7 g O n:=by
 unfold jku js7
 rw [Bool.and_comm]
 congr 1
 have hi:=hi (Jc g ((comL g).getD n 0).toNat)
 have hget:∀ j (hj:j<(comL g).length),(comL g).getD j 0=(comL g)[j]:=fun j hj=>by simp [List.getD_eq_getElem?_getD,List.getElem?_eq_getElem hj]
 have hinj:∀ j,j<n→atO O ((comL g).getD j 0)≠atO O ((comL g).getD n 0):=fun j hj e=>by
  rw [hget j (by omega),hget n hn] at e
  have:=j0t ((Wf h).mem_iff.2 (List.getElem_mem (show j<(comL g).length by omega))) e
  have hp:=List.pairwise_iff_getElem.1 (jdt g) j n (by omega) hn hj
  omega
 rw [Bool.eq_iff_iff,andTo_iff]
 cases hf:jw (jg8 g O n) (Jc g ((comL g).getD n 0).toNat) with
 | none =>
  rw [hf] at hi
  simp only [Option.map_none] at hi
  simp only [Option.any_none,Bool.not_false,true_iff]
  intro j hj
  rw [jd3,beq_eq_false_iff_ne.2 (hi j hj)]
  rfl
 | some x =>
  rw [hf] at hi
  simp only [Option.map_some] at hi
  obtain ⟨⟨j0,h1,h2,h3⟩,h4⟩:=hi
  simp only [Option.any_some,Bool.not_eq_true',decide_eq_false_iff_not,Int.not_lt]
  constructor
  ·intro hle j hj
   by_cases hs:Jc g ((comL g).getD j 0).toNat=Jc g ((comL g).getD n 0).toNat
   ·have:=h4 j hj hs
    have:=hinj j hj
    simp only [jd3,hs,beq_self_eq_true,Bool.not_true,Bool.false_or,decide_eq_true_eq]
    omega
   ·rw [jd3,beq_eq_false_iff_ne.2 hs]
    rfl
  ·intro ha
   have:=ha j0 h1
   simp only [jd3,h2,beq_self_eq_true,Bool.not_true,Bool.false_or,decide_eq_true_eq] at this
   omega
theorem joy (h:jk g O=true):∀ {n:Nat},n≤(comL g).length→Ji (js7 g O) n=true→SesI g O n
 | 0,_,_=>fun s=>by simp [jg8,jw]
 | n+1,hn,ha=>fun s=>by
  rw [Ji,Bool.and_eq_true] at ha
  have hi:=joy h (n:=n) (by omega) ha.1
  have hb:=ha.2
  unfold js7 at hb
  rw [Bool.and_eq_true,andTo_iff] at hb
  have hi:=hi s
  rw [jg8,jc3]
  by_cases hs:s=Jc g ((comL g).getD n 0).toNat
  ·subst hs
   rw [if_pos rfl]
   refine ⟨⟨n,by omega,rfl,rfl⟩,fun j hj he=>?_⟩
   rcases Nat.lt_succ_iff_lt_or_eq.1 hj with h1 | h1
   ·have:=hb.2 j h1
    simp only [jd3,he,beq_self_eq_true,Bool.not_true,Bool.false_or,decide_eq_true_eq] at this
    omega
   ·subst h1;exact Int.le_refl _
  ·rw [if_neg hs]
   split at hi
   ·intro j hj
    rcases Nat.lt_succ_iff_lt_or_eq.1 hj with h1 | h1
    ·exact hi j h1
    ·subst h1;exact fun e=>hs e.symm
   ·obtain ⟨⟨j,h1,h2,h3⟩,h4⟩:=hi
    refine ⟨⟨j,by omega,h2,h3⟩,fun j hj he=>?_⟩
    rcases Nat.lt_succ_iff_lt_or_eq.1 hj with h1 | h1
    ·exact h4 j h1 he
    ·subst h1;exact absurd he.symm hs
theorem jwb (h:jk g O=true):∀ {n:Nat},n≤(comL g).length→Ji (jku g O) n=Ji (js7 g O) n
 | 0,_=>rfl
 | n+1,hn=>by
  have ih:=jwb h (n:=n) (by omega)
  rw [Ji,Ji,ih]
  cases ha:Ji (js7 g O) n with
  | false=>rfl
  | true=>rw [jx5 h (by omega) (joy h (by omega) ha)]
/-! What reads see -/
def Jn (g:Hist') (lvl:Int) (M O:List Int) (p:Int × Int) (t:Int):Bool:=if lvl=1 then rcB (readH g) M p t else if lvl=2 then farB g M p.1.toNat t.toNat else decide (atO O t<atO O p.1)
def QY (g:Hist') (lvl:Int) (M O:List Int) (i:Nat):Bool:=match (readH g)[i]?,M[i]? with
 | some p,some m=>decide (atO O m<atO O p.1) && (comL g).all fun t=>!Jn g lvl M O p t || okB g O p m t
 | _,_=>true
def jls (g:Hist') (lvl:Int) (M O:List Int):Bool:=Ji (jku g O) (comL g).length && Ji (QY g lvl M O) (readH g).length
theorem jkw (hm:jbr g M=true) {lvl:Int} {p:Int × Int} {t:Nat} (h:WF g lvl M O p t=true):Jh g t=true:=by
 unfold WF at h
 split at h
 ·unfold rcB at h
  obtain ⟨x,hx,h1⟩:=List.any_eq_true.1 h
  simp only [Bool.and_eq_true,beq_iff_eq] at h1
  have hm2:=jf0 hm (List.of_mem_zip hx).2
  rw [h1.2.2] at hm2
  rcases hm2 with h2 | h2
  ·omega
  ·obtain ⟨k,e,hc⟩:=comL_mem.1 h2
   have:t=k:=by omega
   exact this ▸ hc
 ·split at h
  ·exact jl0 h
  ·split at h
   ·rw [Bool.and_eq_true] at h;exact h.1
   ·cases h
theorem ji9 {lvl:Int} (h1:1≤lvl) (h3:lvl≤3) {p:Int × Int} {t:Nat} (hc:Jh g t=true):Jn g lvl M O p t=WF g lvl M O p t:=by
 unfold Jn WF
 split
 ·rfl
 ·split
  ·simp
  ·rw [if_pos (by omega),hc,Bool.true_and]
theorem jtc {lvl:Int} (h1:1≤lvl) (h3:lvl≤3) (hm:jbr g M=true) (ho:jk g O=true) (i:Nat):QY g lvl M O i=jeo g lvl M O i:=by
 unfold QY jeo
 cases hp:(readH g)[i]? with
 | none=>rfl
 | some p =>
  obtain ⟨m,e,hmo⟩:=jlf hm hp
  rw [e]
  simp only
  have hpc:=Yx (List.mem_of_getElem? hp)
  have ha:=j0v ho hpc
  congr 1
  ·rcases jwj (jc4 hm) hmo with rfl | hmc
   ·rw [j0s ho]
    have:(-1:Int)<atO O p.1:=by omega
    simp [this]
   ·obtain ⟨k,e,_⟩:=comL_mem.1 hmc
    have:¬ m<0:=by omega
    simp [this]
  ·rw [Bool.eq_iff_iff,List.all_eq_true,List.all_eq_true]
   unfold jfp
   constructor
   ·intro h t ht
    obtain ⟨k,_,rfl,hk⟩:=filTo_mem.1 ht
    have hc:=jkw hm hk
    have:=h k (comL_mem.2 ⟨k,rfl,hc⟩)
    rw [ji9 h1 h3 hc,hk] at this
    simpa using this
   ·intro h t ht
    obtain ⟨k,rfl,hc⟩:=comL_mem.1 ht
    rw [ji9 h1 h3 hc]
    cases hk:WF g lvl M O p k with
    | false=>rfl
    | true=>simpa using h k (filTo_mem.2 ⟨k,Jt hc,rfl,hk⟩)
theorem ju6 {lvl:Int} (h1:1≤lvl) (h3:lvl≤3) (hm:jbr g M=true) (ho:jk g O=true):jls g lvl M O=Qs g lvl M O:=by
 unfold jls Qs
 rw [jwb ho (Nat.le_refl _),jke fun k _=>jtc h1 h3 hm ho k]
theorem jx6 {lvl:Int} (h1:1≤lvl) (h3:lvl≤3) (hm:jbr g M=true) {p:Int × Int}:(comL g).filter (Jn g lvl M O p)=jfp g lvl M O p:=by
 unfold comL jfp
 rw [Yb]
 have hc:jg0 JE g.ts=Jh g:=rfl
 rw [hc]
 have:∀ n,(Xm (Jh g) n).filter (Jn g lvl M O p)=Xm (WF g lvl M O p) n:=by
  intro n
  induction n with
  | zero=>rfl
  | succ n ih =>
   rw [Xm,Xm,List.filter_append,ih]
   congr 1
   cases h:Jh g n with
   | false =>
    cases h':WF g lvl M O p n with
    | false=>rfl
    | true=>rw [jkw hm h'] at h;cases h
   | true =>
    simp only [if_true,List.filter_cons,List.filter_nil,ji9 h1 h3 h]
 exact this _
/-! Levels -/
theorem jxr (_:jbr g M=true) (_:jk g O=true) (hs:Ji (js7 g O) (comL g).length=true) (hr:∀ (i:Nat) (p:Int × Int) (m:Int),(readH g)[i]? = some p→M[i]? = some m→m<0∨atO O m<atO O p.1) {a b:Nat} (h:Yt g M a b=true):atO O a<atO O b:=by
 unfold Yt at h
 simp only [Bool.and_eq_true,Bool.or_eq_true,decide_eq_true_eq,beq_iff_eq] at h
 obtain ⟨⟨ca,cb⟩,h⟩:=h
 rcases h with ⟨hab,hse⟩ | h
 ·obtain ⟨i,hi,ei⟩:=List.getElem_of_mem (comL_mem.2 ⟨a,rfl,ca⟩)
  obtain ⟨j,hj,ej⟩:=List.getElem_of_mem (comL_mem.2 ⟨b,rfl,cb⟩)
  have hij:i<j:=by
   rcases Nat.lt_or_ge i j with h | h
   ·exact h
   ·rcases Nat.lt_or_ge j i with h' | h'
    ·have:=List.pairwise_iff_getElem.1 (jdt g) j i hj hi h'
     omega
    ·have:i=j:=by omega
     subst this
     omega
  have:=andTo_iff.1 hs j hj
  unfold js7 at this
  rw [Bool.and_eq_true,andTo_iff] at this
  have:=this.2 i hij
  have e1:(comL g).getD i 0=a:=by rw [← ei];simp [List.getD_eq_getElem?_getD,List.getElem?_eq_getElem hi]
  have e2:(comL g).getD j 0=b:=by rw [← ej];simp [List.getD_eq_getElem?_getD,List.getElem?_eq_getElem hj]
  rw [jd3,e1,e2] at this
  simpa [hse] using this
 ·unfold jia at h
  obtain ⟨x,hx,h1⟩:=List.any_eq_true.1 h
  simp only [Bool.and_eq_true,beq_iff_eq] at h1
  obtain ⟨i,hi,ei⟩:=List.getElem_of_mem hx
  rw [List.getElem_zip] at ei
  rw [List.length_zip] at hi
  rw [← ei] at h1
  have:=hr i _ _ (List.getElem?_eq_getElem (by omega)) (List.getElem?_eq_getElem (by omega))
  simp only at h1
  rw [h1.1,h1.2] at this
  rcases this with h | h
  ·omega
  ·exact h
theorem j6j (hs:∀ a b:Nat,Yt g M a b=true→atO O a<atO O b) {t a:Nat} (h:farB g M t a=true):atO O a<atO O t :=
 jeg (r:=Yt g M) (p:=fun a=>atO O a<atO O t) (q:=fun a=>atO O (a:Int)≤atO O t) (fun a b hb hab=>Int.lt_of_lt_of_le (hs a b hab) hb) (fun _ h=>Int.le_of_lt h) g.ts.length (b:=t) (Int.le_refl _) h
theorem j2e {lvl:Int} (h:Ji (jeo g lvl M O) (readH g).length=true) {i:Nat} {p:Int × Int} {m:Int} (hp:(readH g)[i]? = some p) (hm:M[i]? = some m):(m<0∨atO O m<atO O p.1)∧(jfp g lvl M O p).all (okB g O p m)=true:=by
 have:=andTo_iff.1 h i (List.getElem?_eq_some_iff.1 hp).1
 unfold jeo at this
 rw [hp,hm] at this
 simpa only [Bool.and_eq_true,decide_eq_true_eq] using this
theorem jnn {l1 l2:Int} (h:Qs g l1 M O=true) (hsub:∀ (i:Nat) (p:Int × Int) (m:Int),(readH g)[i]? = some p→M[i]? = some m→∀ t,WF g l2 M O p t=true→WF g l1 M O p t=true):Qs g l2 M O=true:=by
 unfold Qs at h ⊢
 rw [Bool.and_eq_true] at h ⊢
 refine ⟨h.1,andTo_iff.2 fun i hi=>?_⟩
 have:=andTo_iff.1 h.2 i hi
 unfold jeo at this ⊢
 cases hp:(readH g)[i]? with
 | none=>rfl
 | some p =>
  cases hm:M[i]? with
  | none=>rfl
  | some m =>
   rw [hp,hm] at this
   simp only [Bool.and_eq_true,List.all_eq_true] at this ⊢
   refine ⟨this.1,fun t ht=>?_⟩
   obtain ⟨k,h1,rfl,h3⟩:=filTo_mem.1 ht
   exact this.2 k (filTo_mem.2 ⟨k,h1,rfl,hsub i p m hp hm k h3⟩)
theorem j2c (hm:jbr g M=true) (ho:jk g O=true) (h:Qs g 3 M O=true):Qs g 2 M O=true:=by
 refine jnn h fun i p m hp he t ht=>?_
 unfold Qs at h
 rw [Bool.and_eq_true] at h
 have hst:∀ a b:Nat,Yt g M a b=true→atO O a<atO O b:=fun a b=>jxr hm ho h.1 fun i p m h1 h2=>(j2e h.2 h1 h2).1
 have hf:farB g M p.1.toNat t=true:=by simpa [WF] using ht
 have hc:=jl0 hf
 obtain ⟨k,e,_⟩:=comL_mem.1 (Yx (List.mem_of_getElem? hp))
 have:=j6j hst hf
 have e2:((p.1.toNat:Nat):Int)=p.1:=by omega
 rw [e2] at this
 simp [WF,hc,this]
end
end Go.Pv.T

/- Axioms: the reference's walks: where one stands, what is left, steps. -/
namespace Go.Pv.T
open Go Go.Pv
theorem ev63 {a:Bool} (l:List Int) (hl:l.length≤1000000000) (k:Int):Ev E 63 [slOf a intC l,.int .i64 k] (.int .i64 (atO l k)):=by
 refine jR (af:=F63) rfl ?_
 unfold atO
 simp [F63]
 refine jB [(4,18)] l.length (fun i s=>s.tm 5 = .int .i64 i∧idxI (l.drop i) k i=idxI l k 0) rfl rfl ⟨by simp,by simp⟩ ?_
 rintro i s hi ⟨h5,hT⟩ f
 have f0:s.tm 0=slOf a intC l:=by rw [f.t 0 (by simp)];simp
 have f1:s.tm 1 = .int .i64 k:=by rw [f.t 1 (by simp)];simp
 have fd:s.df=[]:=by rw [f.d];simp
 clear f
 by_cases hlt:i<l.length
 ·have hw:=jl hlt (by omega)
  have h1:=JL l hlt
  rw [List.drop_eq_getElem_cons hlt,idxI] at hT
  cases he:(l[i] == k)
  ·have he':(k == l[i])=false:=by rw [beq_eq_false_iff_ne] at he ⊢;exact fun e=>he e.symm
   rw [he'] at hT
   simp only [Bool.false_eq_true,if_false] at hT
   simp [h5,f0,f1,hlt,j7 jD,h1,he,hw]
   exact hT
  ·have he':(k == l[i])=true:=by rw [beq_iff_eq] at he ⊢;exact he.symm
   rw [he'] at hT
   simp only [if_true] at hT
   simp [h5,f0,f1,hlt,j7 jD,h1,he]
   exact j4 (by simp [fd]) (by rw [← hT];simp) rfl
 ·have:i=l.length:=by omega
  subst this
  rw [List.drop_length,idxI] at hT
  simp [h5,f0]
  exact j4 (by simp [fd]) (by rw [← hT];simp) rfl
theorem jgj {g:Hist'} {a:Nat} (h:a<g.ts.length):Jh g a=((g.ts[a]).f == 1):=by simp [Jh,JE,h]
theorem jkv {g:Hist'} {a:Nat} (h:a<g.ts.length):Jc g a=(g.ts[a]).s:=by simp [Jc,h]
theorem jpd (l:List (Int × Int)) {i:Nat} (h:i<l.length):(l.flatMap jG)[i * 2]? = some (.int .i64 (l[i]).1)∧(l.flatMap jG)[i * 2+1]? = some (.int .i64 (l[i]).2):=by
 have h0:=je jX l h (by decide:0<2)
 have h1:=je jX l h (by decide:1<2)
 rw [Nat.add_zero] at h0
 exact ⟨h0.trans rfl,h1.trans rfl⟩
set_option maxRecDepth 100000 in
theorem ev122 {g:Hist'} (hs:Small g) {nl:Bool} {M:List Int} (hM:M.length=(readH g).length) {a b:Nat} (ha:a<g.ts.length) (hb:b<g.ts.length) :
 Ev E 122 [.agg (j3 g),slOf false jG (readH g),slOf nl intC M,.int .i64 (a:Int),.int .i64 (b:Int)] (.bool (Yt g M a b)):=by
 have hRl:=Jo hs
 have hts:=hs.ts
 refine jR (af:=F122) rfl ?_
 unfold Yt
 rw [jgj ha,jgj hb,jkv ha,jkv hb]
 generalize readH g=R at *
 have fa:(g.ts.flatMap txnC)[a * 3+1]? = some (.int .i64 (g.ts[a]).f):=by rw [je j9 g.ts ha (by decide:1<3)];rfl
 have fb:(g.ts.flatMap txnC)[b * 3+1]? = some (.int .i64 (g.ts[b]).f):=by rw [je j9 g.ts hb (by decide:1<3)];rfl
 have sa:(g.ts.flatMap txnC)[a * 3]? = some (.int .i64 (g.ts[a]).s):=by have:=je j9 g.ts ha (by decide:0<3);rw [Nat.add_zero] at this;rw [this];rfl
 have sb:(g.ts.flatMap txnC)[b * 3]? = some (.int .i64 (g.ts[b]).s):=by have:=je j9 g.ts hb (by decide:0<3);rw [Nat.add_zero] at this;rw [this];rfl
 have bn:∀ {x:Int} {c:Bool},(x == 1)=c→(x != 1) = !c:=fun h=>by rw [← h];rfl
 cases h1:((g.ts[a]).f == 1)
 ·simp [F122,j3,j2,ha,j7 j9,fa,bn h1]
  exact j4 (by simp) (by simp) rfl
 cases h2:((g.ts[b]).f == 1)
 ·simp [F122,j3,j2,ha,hb,j7 j9,fa,fb,bn h1,bn h2]
  exact j4 (by simp) (by simp) rfl
 obtain ⟨c,hc⟩:∃ c,jia R M a b=c:=⟨_,rfl⟩
 rw [hc]
 unfold jia at hc
 simp [F122,j3,j2,ha,hb,j7 j9,fa,fb,bn h1,bn h2]
 generalize hKK:jn5 E Xo _ _=KK
 have rest:∀ st:St,st.tm 1=slOf false jG R→st.tm 2=slOf nl intC M→st.tm 3 = .int .i64 (a:Int)→st.tm 4 = .int .i64 (b:Int)→st.df=[]→st.tm 45 = .bool (decide (a<b) && (g.ts[a]).s == (g.ts[b]).s)→KK .nrm st:=by
  intro st t1 t2 t3 t4 hd t45
  rw [← hKK]
  clear hKK
  generalize (decide (a<b) && (g.ts[a]).s == (g.ts[b]).s)=c0 at *
  cases c0
  ·simp only [Bool.false_or]
   simp [t45]
   refine jB [(10,11),(46,66)] R.length (fun i s=>s.tm 11 = .int .i64 i∧((R.drop i).zip (M.drop i)).any (fun x=>x.2 == (a:Int) && x.1.1 == (b:Int))=c) rfl rfl ⟨by simp,by simpa using hc⟩ ?_
   rintro i s hi ⟨h11,hT⟩ f
   have f1:s.tm 1=slOf false jG R:=by rw [f.t 1 (by simp)];simp [t1]
   have f2:s.tm 2=slOf nl intC M:=by rw [f.t 2 (by simp)];simp [t2]
   have f3:s.tm 3 = .int .i64 (a:Int):=by rw [f.t 3 (by simp)];simp [t3]
   have f4:s.tm 4 = .int .i64 (b:Int):=by rw [f.t 4 (by simp)];simp [t4]
   have fd:s.df=[]:=by rw [f.d];simp [hd]
   clear f
   by_cases hlt:i<R.length
   ·have hw:=jl hlt (by omega)
    have hlt2:i<M.length:=by omega
    have h1:=JL M hlt2
    have h2:=(jpd R hlt).1
    rw [List.drop_eq_getElem_cons hlt,List.drop_eq_getElem_cons hlt2,List.zip_cons_cons,List.any_cons] at hT
    cases e1:(M[i] == (a:Int))
    ·rw [e1,Bool.false_and,Bool.false_or] at hT
     simp [h11,f1,f2,f3,hlt,hlt2,j7 jD,h1,e1,hw]
     exact hT
    ·cases e2:((R[i]).1 == (b:Int))
     ·rw [e1,e2,Bool.true_and,Bool.false_or] at hT
      simp [h11,f1,f2,f3,f4,hlt,hlt2,j7 jD,j7 jX,h1,h2,e1,e2,hw]
      exact hT
     ·rw [e1,e2,Bool.true_and,Bool.true_or] at hT
      simp [h11,f1,f2,f3,f4,hlt,hlt2,j7 jD,j7 jX,h1,h2,e1,e2]
      exact j4 (by simp [fd]) (by simp [← hT]) rfl
   ·have:i=R.length:=by omega
    subst this
    rw [List.drop_length] at hT
    simp [h11,f1]
    exact j4 (by simp [fd]) (by simp [← hT]) rfl
  ·simp [t45]
   exact j4 (by simp [hd]) (by simp) rfl
 by_cases hab:a<b
 ·simp [hab,j2,ha,hb,j7 j9,sa,sb]
  exact rest _ (by simp) (by simp) (by simp) (by simp) (by simp) (by simp [hab])
 ·simp [hab]
  exact rest _ (by simp) (by simp) (by simp) (by simp) (by simp) (by simp [hab])
end Go.Pv.T

/- The reference's sole: an observer of what is doomed. -/
namespace Go.Pv.T
open Go Go.Pv
theorem jl4 (l:List Bool) {i:Nat} (h:i<l.length):(l.map V.bool)[i]? = some (.bool l[i]):=by simp [h]
end Go.Pv.T

/- The reference's Raw, walked. -/
namespace Go.Pv.T
open Go Go.Pv
theorem jmm (bs:List Bool) (k:Nat) (b:Bool) (h:k<bs.length):splice (bs.map V.bool) k [.bool b]=(bs.set k b).map V.bool:=by
 unfold splice
 rw [List.map_set,List.set_eq_take_append_cons_drop,if_pos (by simpa using h)]
 simp
structure RwAt (g:Hist') (r:RwS) (st:St):Prop where
 cl:r.c.length=g.ts.length
 dl:r.d.length=g.ts.length
 h:st.ob 2=some ⟨0,.cells (j3 g)⟩
 c:st.ob 36=some ⟨448,.cells (r.c.map V.bool)⟩
 d:st.ob 44=some ⟨704,.cells (r.d.map V.bool)⟩
 t1:st.tm 1 = .ptr 2 0 0
 t5:st.tm 5 = .osl 36 448 0 g.ts.length 1
 t6:st.tm 6 = .osl 44 704 0 g.ts.length 1
 t8:st.tm 8 = .bool r.hop
 t9:st.tm 9 = .bool r.more
 df:st.df=[]
 ro:st.ro=0
 nx:768≤st.nx
end Go.Pv.T

/- Axioms: the reference's walk: from whom one comes by steps. -/
namespace Go.Pv.T
open Go Go.Pv
section
variable (g:Hist') (M:List Int) (t:Nat)
def jdn (bs:List Bool) (a b:Nat):Bool:=!bs.getD a false && ((b == t || bs.getD b false) && Yt g M a b)
def FarS (bs:List Bool):Prop:=bs.length=g.ts.length∧∀ a,bs.getD a false=true→farB g M t a=true
def FarR (bs0:List Bool) (i j:Nat) (bs:List Bool) (more:Bool):Prop:=FarS g M t bs∧(more=false→bs=bs0∧∀ a b,(a<i∨a=i∧b<j)→b<g.ts.length→jdn g M t bs0 a b=false) ∧
 (more=true→bs.count false+1≤bs0.count false)
end
section
variable {g:Hist'} {M:List Int} {t:Nat}
theorem FarS.fire {bs:List Bool} (h:FarS g M t bs) (ht:t<g.ts.length) {a b:Nat} (hb:b<g.ts.length) (hf:jdn g M t bs a b=true):FarS g M t (bs.set a true):=by
 refine ⟨by simp [h.1],fun x hx=>?_⟩
 unfold jdn at hf
 simp only [Bool.and_eq_true,Bool.or_eq_true,beq_iff_eq] at hf
 by_cases hxa:x=a
 ·subst hxa
  rcases hf.2.1 with rfl | h2
  ·exact jiz hf.2.2 _
  ·exact QQ hb (h.2 b h2) (jiz hf.2.2 _)
 ·refine h.2 x ?_
  rw [List.getD_eq_getElem?_getD,List.getElem?_set_ne (fun e=>hxa e.symm)] at hx
  simpa [List.getD_eq_getElem?_getD] using hx
theorem jnv {bs:List Bool} {a:Nat} (ha:a<bs.length) (hf:bs.getD a false=false):(bs.set a true).count false+1=bs.count false:=by
 have e:bs[a]=false:=by simpa [List.getD_eq_getElem?_getD,ha] using hf
 have h1:0<bs.count false:=List.count_pos_iff.2 (e ▸ List.getElem_mem ha)
 rw [List.count_set ha,e]
 simp
 omega
theorem FarR.next {bs0 bs:List Bool} {i j:Nat} {m:Bool} (h:FarR g M t bs0 i j bs m) (ht:t<g.ts.length) (hi:i<g.ts.length) (hj:j<g.ts.length) :
 FarR g M t bs0 i (j+1) (if jdn g M t bs i j then bs.set i true else bs) (m || jdn g M t bs i j):=by
 obtain ⟨h1,h2,h3⟩:=h
 cases hf:jdn g M t bs i j
 ·simp only [Bool.or_false,Bool.false_eq_true,if_false]
  refine ⟨h1,fun hm=>?_,h3⟩
  obtain ⟨rfl,h4⟩:=h2 hm
  refine ⟨rfl,fun a b hab hb=>?_⟩
  rcases hab with hab | ⟨rfl,hab⟩
  ·exact h4 a b (.inl hab) hb
  ·rcases Nat.lt_succ_iff_lt_or_eq.1 hab with h | h
   ·exact h4 a b (.inr ⟨rfl,h⟩) hb
   ·subst h;exact hf
 ·simp only [Bool.or_true,if_true]
  have hfa:bs.getD i false=false:=by
   unfold jdn at hf
   simp only [Bool.and_eq_true,Bool.not_eq_true'] at hf
   exact hf.1
  have hc:=jnv (by rw [h1.1];exact hi) hfa
  refine ⟨h1.fire ht hj hf,fun hm=>(by cases hm),fun _=>?_⟩
  cases m
  ·rw [(h2 rfl).1] at hc ⊢
   omega
  ·have:=h3 rfl
   omega
theorem FarR.row {bs0 bs:List Bool} {i:Nat} {m:Bool} (h:FarR g M t bs0 i g.ts.length bs m):FarR g M t bs0 (i+1) 0 bs m:=by
 refine ⟨h.1,fun hm=>⟨(h.2.1 hm).1,fun a b hab hb=>(h.2.1 hm).2 a b ?_ hb⟩,h.2.2⟩
 rcases hab with hab | ⟨_,hab⟩
 ·rcases Nat.lt_succ_iff_lt_or_eq.1 hab with h1 | h1
  ·exact .inl h1
  ·exact .inr ⟨h1,hb⟩
 ·omega
theorem jz2 {bs:List Bool} (hs:FarS g M t bs) (ht:t<g.ts.length) (h:∀ a b,a<g.ts.length→b<g.ts.length→jdn g M t bs a b=false):bs=(List.range g.ts.length).map (farB g M t):=by
 apply List.ext_getElem
 ·simp [hs.1]
 intro a h1 h2
 have ha:a<g.ts.length:=by rw [← hs.1];exact h1
 rw [List.getElem_map,List.getElem_range]
 have hg:bs.getD a false=bs[a]:=by simp [List.getD_eq_getElem?_getD,h1]
 cases hf:farB g M t a
 ·cases hb:bs[a]
  ·rfl
  ·rw [hs.2 a (by rw [hg,hb])] at hf;cases hf
 ·have:=jeg (r:=Yt g M) (p:=fun a=>bs.getD a false=true∧a<g.ts.length) (q:=fun b=>b=t∨bs.getD b false=true∧b<g.ts.length) (fun a b hb hab=>by
   have hal:=Jt (jcb hab).1
   have hbl:=Jt (jcb hab).2
   have:=h a b hal hbl
   unfold jdn at this
   rw [hab,Bool.and_true] at this
   rcases hb with rfl | ⟨hb,_⟩
   ·simp at this
    exact ⟨by simpa [List.getD_eq_getElem?_getD] using this,hal⟩
   ·rw [hb] at this
    simp at this
    exact ⟨by simpa [List.getD_eq_getElem?_getD] using this,hal⟩) (fun b hb=>.inr hb) g.ts.length (b:=t) (.inl rfl) hf
  rw [hg] at this
  exact this.1
end
end Go.Pv.T

/- Axioms: the reference's walk of past. -/
namespace Go.Pv.T
open Go Go.Pv
theorem j0r (bs:List Bool):bs.map V.bool=bs.flatMap blC:=by induction bs <;> simp_all [blC]
theorem j7j {st:St} {q l u n:Nat} {bs:List Bool} {P:V→Prop} (hP:∀ r,SlR r false n (bs.flatMap blC)→P r) (hd:st.df=[]) (hv:st.tm q = .osl l u 0 n 1) (ho:st.ob l=some ⟨u,.cells (bs.flatMap blC)⟩) (hl:bs.length=n) (_:0<n) (hr:st.ro=0):jgb [.t q] P .ret st:=by
 have hbl:(bs.flatMap blC).length=n:=by rw [jA jkd,Nat.mul_one,hl]
 have hoc:j2 st.ob l u=some (bs.flatMap blC):=by simp [j2,ho]
 have hsb:(bs.flatMap blC).mapM (JF st 5)=some (bs.flatMap blC):=by
  clear hoc ho hbl hl hP
  induction bs with
  | nil=>rfl
  | cons b bs ih =>
   rw [List.flatMap_cons]
   show (V.bool b::bs.flatMap blC).mapM (JF st 5)=_
   rw [List.mapM_cons,ih]
   rfl
 have hs:JF st 6 (.osl l u 0 n 1)=some (.sl none false n (bs.flatMap blC)):=by
  show ((j2 st.ob l u).bind fun cs=>if Nat.ble st.ro u=true∧0+n * 1≤cs.length then (((cs.drop 0).take (n * 1)).mapM (JF st 5)).map fun cs'=>V.sl none false n cs' else none)=_
  rw [hoc,Option.bind_some,if_pos ⟨Nat.ble_eq ▸ (by omega),by omega⟩,List.drop_zero,Nat.mul_one,List.take_of_length_le (by omega),hsb]
  rfl
 have ho:∃ t:Option (Nat × Nat),jh st true 0 (.osl l u 0 n 1)=some (.sl t false n (bs.flatMap blC))∧∀ p∈t.toList,p.1<64:=by
  simp only [jh,hs,Option.bind_some,hoc,Option.map_some]
  refine ⟨_,rfl,fun p hp=>?_⟩
  split at hp
  ·simp at hp;subst hp;decide
  ·simp at hp
 obtain ⟨t,hto,htt⟩:=ho
 have hr':[ARes.t q].mapM (jn st)=some [.osl l u 0 n 1]:=by simp [jn,hv]
 refine ⟨.sl t false n (bs.flatMap blC),?_,hP _ ⟨t,rfl,htt⟩⟩
 simp only [QN,Y6 hd,Y2 hd,if_true,hr',Option.bind_some,YG]
 have hn:nodup ([V.osl l u 0 n 1].flatMap V.toks)=true:=rfl
 rw [hn]
 simp only [J6,X8,hto,Option.bind_some,Option.map_some]
 cases t <;> rfl
set_option maxRecDepth 100000 in
theorem ev75 {g:Hist'} (hs:Small g) {nl:Bool} {M:List Int} (hM:M.length=(readH g).length) {t:Nat} (ht:t<g.ts.length) :
 ∃ v,Ev E 75 [.agg (j3 g),slOf false jG (readH g),slOf nl intC M,.int .i64 (t:Int)] v∧SlR v false g.ts.length (((List.range g.ts.length).map (farB g M t)).flatMap blC):=by
 have hts:=hs.ts
 have hn0:0<g.ts.length:=by omega
 refine Xi (af:=F75) rfl (by decide) ?_
 simp [F75,j3,j2]
 refine jug (n:=g.ts.length) (by simp) (by simp) (by omega) (by omega) (by omega) rfl (by decide) ?_
 simp [jai]
 refine jz fun st hst=>?_
 have g1:st.tm 1=slOf false jG (readH g):=by rw [hst];simp
 have g2:st.tm 2=slOf nl intC M:=by rw [hst];simp
 have g3:st.tm 3 = .int .i64 (t:Int):=by rw [hst];simp
 have g4:st.tm 4 = .ptr 8 0 0:=by rw [hst];simp
 have g9:st.tm 9 = .osl 32 320 0 g.ts.length 1:=by rw [hst];simp
 have g10:st.tm 10 = .bool true:=by rw [hst];simp
 have p8:st.ob 8=some ⟨0,.cells (j3 g)⟩:=by rw [hst];simp [j3]
 have p32:st.ob 32=some ⟨320,.cells ((List.replicate g.ts.length false).map V.bool)⟩:=by rw [hst];simp
 have gd:st.df=[]:=by rw [hst];simp
 have gr:st.ro=0:=by rw [hst];simp
 have gb:st.fb=0:=by rw [hst];simp
 clear hst
 obtain ⟨J,hJ⟩:∃ J:Nat→St→Prop,J=fun k s=>∃ bs m,FarS g M t bs∧(m=false→∀ a b,a<g.ts.length→b<g.ts.length→jdn g M t bs a b=false)∧bs.count false+(if m then 1 else 0)≤k ∧
  s.tm 1=slOf false jG (readH g)∧s.tm 2=slOf nl intC M∧s.tm 3 = .int .i64 (t:Int)∧s.tm 4 = .ptr 8 0 0∧s.tm 9 = .osl 32 320 0 g.ts.length 1∧s.tm 10 = .bool m∧s.ob 8=some ⟨0,.cells (j3 g)⟩∧s.ob 32=some ⟨320,.cells (bs.map V.bool)⟩∧s.df=[]∧s.ro=0∧s.fb=0:=⟨_,rfl⟩
 refine YD (n:=g.ts.length+1) J (by
  rw [hJ]
  exact ⟨List.replicate g.ts.length false,true,⟨by simp,fun a h=>by simp [List.getD_eq_getElem?_getD,List.getElem?_replicate] at h;split at h <;> cases h⟩,(fun h=>by cases h),by simp,g1,g2,g3,g4,g9,g10,p8,p32,gd,gr,gb⟩) ?_
 intro k s hJs
 rw [hJ] at hJs
 obtain ⟨bs0,m,hF,hcl,hk,s1,s2,s3,s4,s9,s10,o8,o32,sd,sr,sb⟩:=hJs
 cases m
 ·simp [s10]
  have hall:=jz2 hF ht (hcl rfl)
  rw [hall,j0r] at o32
  refine j7j (l:=32) (u:=320) (n:=g.ts.length) (bs:=(List.range g.ts.length).map (farB g M t)) (fun r h=>h) (by simp [sd]) (by simp [s9]) (by simpa using o32) (by simp) hn0 (by simp [sr])
 ·simp only [if_true] at hk
  simp [s10]
  obtain ⟨I,hI⟩:∃ I:Nat→St→Prop,I=fun i s=>s.tm 11 = .int .i64 i∧∃ bs m,FarR g M t bs0 i 0 bs m∧s.tm 10 = .bool m∧s.ob 8=some ⟨0,.cells (j3 g)⟩∧s.ob 32=some ⟨320,.cells (bs.map V.bool)⟩:=⟨_,rfl⟩
  refine jB [(10,12),(18,58)] g.ts.length I rfl rfl (by
   rw [hI]
   exact ⟨by simp,bs0,false,⟨hF,fun _=>⟨rfl,fun a b h _=>by omega⟩,fun h=>by cases h⟩,by simp,by simpa using o8,by simpa using o32⟩) ?_
  intro i w hi hIw f
  rw [hI] at hIw
  obtain ⟨w11,bs1,m1,hR,w10,v8,v32⟩:=hIw
  have f1:w.tm 1=slOf false jG (readH g):=by rw [f.t 1 (by simp)];simp [s1]
  have f2:w.tm 2=slOf nl intC M:=by rw [f.t 2 (by simp)];simp [s2]
  have f3:w.tm 3 = .int .i64 (t:Int):=by rw [f.t 3 (by simp)];simp [s3]
  have f4:w.tm 4 = .ptr 8 0 0:=by rw [f.t 4 (by simp)];simp [s4]
  have f9:w.tm 9 = .osl 32 320 0 g.ts.length 1:=by rw [f.t 9 (by simp)];simp [s9]
  have fd:w.df=[]:=by rw [f.d];simp [sd]
  have fr:w.ro=0:=by rw [f.r];simp [sr]
  have fb:w.fb=0:=by rw [f.b];simp [sb]
  clear f
  by_cases hlt:i<g.ts.length
  ·simp [w11,f4,v8,j2,j3,hlt]
   obtain ⟨I2,hI2⟩:∃ I2:Nat→St→Prop,I2=fun j s=>s.tm 12 = .int .i64 j∧∃ bs m,FarR g M t bs0 i j bs m∧s.tm 10 = .bool m∧s.ob 8=some ⟨0,.cells (j3 g)⟩∧s.ob 32=some ⟨320,.cells (bs.map V.bool)⟩:=⟨_,rfl⟩
   refine jB [(10,10),(12,12),(25,58)] g.ts.length I2 rfl rfl (by
    rw [hI2]
    exact ⟨by simp,bs1,m1,hR,by simpa using w10,by simpa using v8,by simpa using v32⟩) ?_
   intro j x hj hIx f
   rw [hI2] at hIx
   obtain ⟨x12,bs,m,hR2,x10,y8,y32⟩:=hIx
   have x1:x.tm 1=slOf false jG (readH g):=by rw [f.t 1 (by simp)];simp [f1]
   have x2:x.tm 2=slOf nl intC M:=by rw [f.t 2 (by simp)];simp [f2]
   have x3:x.tm 3 = .int .i64 (t:Int):=by rw [f.t 3 (by simp)];simp [f3]
   have x4:x.tm 4 = .ptr 8 0 0:=by rw [f.t 4 (by simp)];simp [f4]
   have x9:x.tm 9 = .osl 32 320 0 g.ts.length 1:=by rw [f.t 9 (by simp)];simp [f9]
   have x11:x.tm 11 = .int .i64 (i:Int):=by rw [f.t 11 (by simp)];simp [w11]
   have xd:x.df=[]:=by rw [f.d];simp [fd]
   have xr:x.ro=0:=by rw [f.r];simp [fr]
   have xb:x.fb=0:=by rw [f.b];simp [fb]
   clear f
   by_cases hjt:j<g.ts.length
   ·have hw:=jl hjt (by omega)
    have hnx:=hR2.next ht hlt hjt
    have hbl:bs.length=g.ts.length:=hR2.1.1
    have hio:=idxN (l:=32) (u:=320) (n:=g.ts.length) (kk:=.i64) (X:=(i:Int)) rfl hlt
    have hjo:=idxN (l:=32) (u:=320) (n:=g.ts.length) (kk:=.i64) (X:=(j:Int)) rfl hjt
    have hbi:=jl4 bs (i:=i) (by omega)
    have hbj:=jl4 bs (i:=j) (by omega)
    have hgi:bs.getD i false=bs[i]:=by simp [List.getD_eq_getElem?_getD,show i<bs.length by omega]
    have hgj:bs.getD j false=bs[j]:=by simp [List.getD_eq_getElem?_getD,show j<bs.length by omega]
    have est:=ev122 hs (nl:=nl) hM hlt hjt
    have hjb:((j:Int) == (t:Int))=(j == t):=by rw [Bool.eq_iff_iff];simp;omega
    unfold jdn at hnx
    rw [hgi,hgj] at hnx
    have hsp:=jmm bs i true (by omega)
    have done1:∀ (x':St) (bs':List Bool) (m':Bool),FarR g M t bs0 i (j+1) bs' m'→x'.tm 12 = .int .i64 ((j+1:Nat):Int)→x'.tm 10 = .bool m'→x'.ob 8=some ⟨0,.cells (j3 g)⟩→x'.ob 32=some ⟨320,.cells (bs'.map V.bool)⟩→I2 (j+1) x':=fun x' bs' m' a1 a2 a3 a4 a5=>by rw [hI2];exact ⟨a2,bs',m',a1,a3,a4,a5⟩
    cases ci:bs[i]
    ·have key:∀ c:Bool,Yt g M i j=c→((j == t) || bs[j])=true→FarR g M t bs0 i (j+1) (if c then bs.set i true else bs) (m || c):=fun c hc hq=>by
      rw [ci,hc,hq] at hnx
      simpa using hnx
     cases ct:(j == t)
     ·cases cj:bs[j]
      ·rw [ci,ct,cj] at hnx
       simp at hnx
       simp [x12,x4,x3,x9,x11,y8,y32,j2,j3,hjt,hio,hjo,hbi,hbj,ci,cj,hjb,ct,hw]
       exact done1 _ bs m hnx (by simp) (by simp [x10]) (by simp [y8,j3]) (by simp [y32])
      ·rw [ct,cj] at key
       cases cs:Yt g M i j
       ·have hk2:=key false cs rfl
        rw [cs] at est
        simp at hk2
        simp [x12,x4,x3,x9,x11,x1,x2,y8,y32,j2,j3,hjt,hio,hjo,hbi,hbj,ci,cj,hjb,ct]
        refine jL est (by simp [j3]) rfl (by simp [j3]) ?_
        simp [hw,x12,hjt]
        exact done1 _ bs m hk2 (by simp) (by simp [x10]) (by simp [y8,j3]) (by simp [y32])
       ·have hk2:=key true cs rfl
        rw [cs] at est
        simp at hk2
        simp [x12,x4,x3,x9,x11,x1,x2,y8,y32,j2,j3,hjt,hio,hjo,hbi,hbj,ci,cj,hjb,ct]
        refine jL est (by simp [j3]) rfl (by simp [j3]) ?_
        simp [hw,x12,hjt,x9,x11,hio,y32,j2,hsp,xr]
        exact ⟨by omega,done1 _ (bs.set i true) true hk2 (by simp) (by simp) (by simp [y8,j3]) (by simp [List.map_set])⟩
     ·cases cs:Yt g M i j
      ·have hk2:=key false cs (by rw [ct];rfl)
       rw [cs] at est
       simp at hk2
       simp [x12,x4,x3,x9,x11,x1,x2,y8,y32,j2,j3,hjt,hio,hbi,ci,hjb,ct]
       refine jL est (by simp [j3]) rfl (by simp [j3]) ?_
       simp [hw,x12,hjt]
       exact done1 _ bs m hk2 (by simp) (by simp [x10]) (by simp [y8,j3]) (by simp [y32])
      ·have hk2:=key true cs (by rw [ct];rfl)
       rw [cs] at est
       simp at hk2
       simp [x12,x4,x3,x9,x11,x1,x2,y8,y32,j2,j3,hjt,hio,hbi,ci,hjb,ct]
       refine jL est (by simp [j3]) rfl (by simp [j3]) ?_
       simp [hw,x12,hjt,x9,x11,hio,y32,j2,hsp,xr]
       exact ⟨by omega,done1 _ (bs.set i true) true hk2 (by simp) (by simp) (by simp [y8,j3]) (by simp [List.map_set])⟩
    ·rw [ci] at hnx
     simp at hnx
     simp [x12,x4,x9,x11,y8,y32,j2,j3,hjt,hio,hbi,ci,hw]
     exact done1 _ bs m hnx (by simp) (by simp [x10]) (by simp [y8,j3]) (by simp [y32])
   ·have:j=g.ts.length:=by omega
    subst this
    have hw:=jl hlt (by omega)
    simp [x12,x4,y8,j2,j3,x11,hw,hlt]
    rw [hI]
    exact ⟨by simp,bs,m,hR2.row,by simpa using x10,by simpa [j3] using y8,by simpa using y32⟩
  ·have:i=g.ts.length:=by omega
   subst this
   simp [w11,f4,v8,j2,j3]
   refine ⟨k - 1,by omega,?_⟩
   rw [hJ]
   refine ⟨bs1,m1,hR.1,fun hm a b ha hb=>?_,?_,by simpa using f1,by simpa using f2,by simpa using f3,by simpa using f4,by simpa using f9,by simpa using w10,by simpa [j3] using v8,by simpa using v32,by simp [fd],by simp [fr],by simp [fb]⟩
   ·rw [(hR.2.1 hm).1]
    exact (hR.2.1 hm).2 a b (.inl ha) hb
   ·cases m1
    ·rw [(hR.2.1 rfl).1];simp;omega
    ·have:=hR.2.2 rfl;simp;omega
end Go.Pv.T

/- Axioms: the reference's walk: who is seen. -/
namespace Go.Pv.T
open Go Go.Pv
set_option maxRecDepth 100000 in
theorem ev33 {g:Hist'} (hs:Small g) {nl on:Bool} {M O:List Int} (hM:M.length=(readH g).length) (hO:O.length≤1000000) (lvl:Int) {q:Nat} (hq:q<(readH g).length) {t:Nat} (ht:t<g.ts.length) (hqt:((readH g)[q]).1=t) :
 ∃ v,Ev E 33 [.int .i64 lvl,.agg (j3 g),slOf nl intC M,slOf on intC O,.int .i64 (q:Int)] v∧SlR v false (jfp g lvl M O (readH g)[q]).length ((jfp g lvl M O (readH g)[q]).flatMap intC):=by
 have hts:=hs.ts
 have hRl:=Jo hs
 obtain ⟨vr,evr,hvr⟩:=ev31 hs
 obtain ⟨vp,evp,hvp⟩:=ev75 hs (nl:=nl) hM ht
 refine Xi (af:=F33) rfl (by decide) ?_
 obtain ⟨p,hp⟩:∃ p,(readH g)[q]=p:=⟨_,rfl⟩
 have hpl:=jpd (readH g) hq
 have hld:=ja jX (fun _=>none) (readH g) hq
 rw [hp] at hqt hpl ⊢
 obtain ⟨F,hF⟩:∃ F,(fun i=>WF g lvl M O p i)=F:=⟨_,rfl⟩
 have hFi:∀ i,WF g lvl M O p i=F i:=fun i=>congrFun hF i
 have hL:jfp g lvl M O p=Xm F g.ts.length:=by unfold jfp;rw [← hF]
 rw [hL]
 have hR1:lvl=1→∀ i:Nat,F i=rcB (readH g) M p i:=fun h i=>by rw [← hFi];simp [WF,h]
 have hR2:lvl=2→∀ i,F i=farB g M t i:=fun h i=>by rw [← hFi];simp [WF,h,hqt]
 have hR3:lvl=3→∀ i:Nat,F i=(Jh g i && decide (atO O i<atO O t)):=fun h i=>by rw [← hFi];simp [WF,h,hqt]
 have hR4:lvl≠1→lvl≠2→lvl≠3→∀ i,F i=false:=fun h1 h2 h3 i=>by rw [← hFi];simp [WF,h1,h2,h3]
 clear hFi hF
 obtain ⟨B,hB⟩:∃ B,(List.range g.ts.length).map (farB g M t)=B:=⟨_,rfl⟩
 rw [hB] at hvp
 have hBl:B.length=g.ts.length:=by rw [← hB];simp
 have hBi:∀ i (h:i<B.length),B[i]=farB g M t i:=fun i h=>by simp [← hB]
 clear hL
 generalize readH g=R at *
 simp [F33,j3,j2]
 refine jL evr (by simp [j3]) rfl (by simp [j3]) ?_
 refine XH hvr fun tr addr=>?_
 simp
 refine jK (cs:=[]) rfl rfl rfl ?_
 have hpa:=fun ob=>Yz R ob hq
 simp only [hp] at hpa
 simp [j2,hq,Jq jX,hpa,splice]
 simp only [hqt] at hpa hpl
 simp [hqt]
 refine jL evp (by simp [j3,slOf]) rfl (by simp [j3]) ?_
 rw [← hBl] at hvp
 refine XH hvp fun tp addp=>?_
 simp
 refine jz fun st hst=>?_
 have g0:st.tm 0 = .int .i64 lvl:=by rw [hst];simp
 have g2:st.tm 2=slOf nl intC M:=by rw [hst];simp
 have g3:st.tm 3=slOf on intC O:=by rw [hst];simp
 have g6:st.tm 6 = .ptr 12 0 0:=by rw [hst];simp
 have g11:st.tm 11 = .sl tr false R.length (R.flatMap jG):=by rw [hst];simp
 have g13:st.tm 13 = .ptr 26 704 0:=by rw [hst];simp
 have g14:st.tm 14 = .sl tp false B.length (B.flatMap blC):=by rw [hst];simp
 have g15:st.tm 15 = .int .i64 0:=by rw [hst];simp
 have p12:st.ob 12=some ⟨0,.cells (j3 g)⟩:=by rw [hst];simp [j3]
 have p26:st.ob 26=some ⟨704,.cells [.int .i64 (t:Int),.int .i64 p.2]⟩:=by rw [hst];simp
 have gG:GrowT st.tk st.nx intC 1 (Xm F 0) (st.tm 12):=by rw [hst];exact ⟨_,by simp [Xm];rfl,by simp [ji],by simp⟩
 have gd:st.df=[]:=by rw [hst];simp
 have gr:st.ro=0:=by rw [hst];simp
 have gb:st.fb=0:=by rw [hst];simp
 clear hst
 obtain ⟨I,hI⟩:∃ I:Nat→St→Prop,I=fun i s=>s.tm 15 = .int .i64 i∧s.ob 12=some ⟨0,.cells (j3 g)⟩∧s.ob 26=some ⟨704,.cells [.int .i64 (t:Int),.int .i64 p.2]⟩∧GrowT s.tk s.nx intC 1 (Xm F i) (s.tm 12):=⟨_,rfl⟩
 refine jB [(12,12),(15,17),(31,105)] g.ts.length I rfl rfl (by
  rw [hI]
  exact ⟨by simpa using g15,p12,p26,gG⟩) ?_
 intro i s hi hIs f
 rw [hI] at hIs
 obtain ⟨s15,o12,o26,hG⟩:=hIs
 have s0:s.tm 0 = .int .i64 lvl:=by rw [f.t 0 (by simp)];simp [g0]
 have s2:s.tm 2=slOf nl intC M:=by rw [f.t 2 (by simp)];simp [g2]
 have s3:s.tm 3=slOf on intC O:=by rw [f.t 3 (by simp)];simp [g3]
 have s6:s.tm 6 = .ptr 12 0 0:=by rw [f.t 6 (by simp)];simp [g6]
 have s11:s.tm 11 = .sl tr false R.length (R.flatMap jG):=by rw [f.t 11 (by simp)];simp [g11]
 have s13:s.tm 13 = .ptr 26 704 0:=by rw [f.t 13 (by simp)];simp [g13]
 have s14:s.tm 14 = .sl tp false B.length (B.flatMap blC):=by rw [f.t 14 (by simp)];simp [g14]
 have sd:s.df=[]:=by rw [f.d];simp [gd]
 have sr:s.ro=0:=by rw [f.r];simp [gr]
 have sb:s.fb=0:=by rw [f.b];simp [gb]
 clear f
 by_cases hlt:i<g.ts.length
 ·have hw:=jl hlt (by omega)
  have hlf:=jif F i
  simp [s15,s6,o12,j2,j3,hlt,s0]
  generalize hKK:jn5 E Xo _ _=KK
  have rest:∀ x:St,x.tm 16 = .bool (F i)→x.tm 15 = .int .i64 i→x.ob=s.ob→x.tk=s.tk→s.nx≤x.nx→x.tm 12=s.tm 12→KK .nrm x:=by
   intro x x16 x15 xo xk xn x12
   rw [← hKK]
   clear hKK
   have hsuc:Xm F (i+1)=Xm F i++(if F i then [(i:Int)] else []):=rfl
   cases hf:F i
   ·rw [hf] at x16 hsuc
    simp only [Bool.false_eq_true,if_false,List.append_nil] at hsuc
    simp [x16,x15,hw,hlt]
    rw [hI]
    refine ⟨by simp,by simp [xo,o12],by simp [xo,o26],?_⟩
    rw [hsuc]
    simpa [x12,xk] using hG.mono (nx':=x.nx+64+64+64+64) (fun _ _ h=>h) (by omega)
   ·rw [hf] at x16 hsuc
    simp only [if_true] at hsuc
    simp [x16,x15]
    refine jK (cs:=intC i) (by simp [splice,intC]) rfl rfl ?_
    simp [intC]
    refine Xv (hi:=s.nx) (f:=intC) (l:=Xm F i) (a:=(i:Int)) (v:=s.tm 12) (hG.mono (fun u _ h=>by simp [ji,xk,h]) (Nat.le_refl _)) (by simp [x12]) (by simp [jM,intC]) jD (by decide) (by simp [intC,V.pureLeaf]) (by omega) (by omega) (fun del hdel=>?_)
    rw [← hsuc]
    have hlen:(Xm F i).length+1=(Xm F (i+1)).length:=by rw [hsuc];simp
    rw [hlen]
    obtain ⟨Q,hQ⟩:∃ Q,Xm F (i+1)=Q:=⟨_,rfl⟩
    rw [hQ]
    simp [x15,hw,hlt]
    rw [hI]
    refine ⟨by simp,by simp [xo,o12],by simp [xo,o26],?_⟩
    rw [hQ]
    exact ⟨_,by simp;rfl,by simp [ji],by simp⟩
  by_cases e1:lvl=1
  ·simp [e1]
   have hc:=hR1 e1 i
   unfold rcB at hc
   refine jB [(16,17),(41,75)] R.length (fun k x=>x.tm 17 = .int .i64 k∧(∃ acc,x.tm 16 = .bool acc∧(acc || ((R.drop k).zip (M.drop k)).any fun y=>y.1.1 == p.1 && (decide (y.1.2<p.2) && y.2 == (i:Int)))=F i)∧x.ob=s.ob∧x.tk=s.tk∧s.nx≤x.nx) rfl rfl ⟨by simp,⟨false,by simp,by simpa using hc.symm⟩,by simp,by simp,by simp;omega⟩ ?_
   rintro k x hk ⟨x17,⟨acc,x16,hacc⟩,xo,xk,xn⟩ f
   have x15:x.tm 15 = .int .i64 i:=by rw [f.t 15 (by simp)];simp [s15]
   have x2:x.tm 2=slOf nl intC M:=by rw [f.t 2 (by simp)];simp [s2]
   have x11:x.tm 11 = .sl tr false R.length (R.flatMap jG):=by rw [f.t 11 (by simp)];simp [s11]
   have x13:x.tm 13 = .ptr 26 704 0:=by rw [f.t 13 (by simp)];simp [s13]
   have x12:x.tm 12=s.tm 12:=by rw [f.t 12 (by simp)];simp
   clear f
   have x26:x.ob 26=some ⟨704,.cells [.int .i64 (t:Int),.int .i64 p.2]⟩:=by rw [xo];exact o26
   by_cases hkt:k<R.length
   ·have hwk:=jl hkt (by omega)
    have hkm:k<M.length:=by omega
    have h1:=JL M hkm
    have h2:=jpd R hkt
    rw [List.drop_eq_getElem_cons hkt,List.drop_eq_getElem_cons hkm,List.zip_cons_cons,List.any_cons,← Bool.or_assoc] at hacc
    rw [hqt] at hacc
    cases acc
    ·cases c1:((R[k]).1 == (t:Int))
     ·rw [c1] at hacc
      simp [x17,x16,x11,x13,x26,j2,hkt,Jq jX,h2,c1,hwk]
      exact ⟨by simpa [hqt] using hacc,xo,xk,by omega⟩
     ·by_cases c2:(R[k]).2<p.2
      ·cases c3:(M[k] == (i:Int))
       ·rw [c1,c3,decide_eq_true c2] at hacc
        simp [x17,x16,x11,x13,x26,x2,x15,j2,hkt,hkm,Jq jX,j7 jD,h1,h2,c1,c2,c3,hwk]
        exact ⟨by simpa [hqt] using hacc,xo,xk,by omega⟩
       ·rw [c1,c3,decide_eq_true c2] at hacc
        simp [x17,x16,x11,x13,x26,x2,x15,j2,hkt,hkm,Jq jX,j7 jD,h1,h2,c1,c2,c3,hwk]
        exact ⟨by simpa [hqt] using hacc,xo,xk,by omega⟩
      ·rw [c1,decide_eq_false c2] at hacc
       simp [x17,x16,x11,x13,x26,j2,hkt,Jq jX,h2,c1,c2,hwk]
       exact ⟨by simpa [hqt] using hacc,xo,xk,by omega⟩
    ·simp [x17,x16,x11,hkt,hwk]
     exact ⟨by simpa [hqt] using hacc,xo,xk,by omega⟩
   ·have:k=R.length:=by omega
    subst this
    rw [List.drop_length] at hacc
    simp at hacc
    simp [x17,x11]
    exact rest _ (by simp [x16,hacc]) (by simp [x15]) (by simp [xo]) (by simp [xk]) (by simp;omega) (by simp [x12])
  ·have b1:(lvl == 1)=false:=by simpa using e1
   by_cases e2:lvl=2
   ·have hbx:=bl_at B (i:=i) (by omega)
    rw [hBi i (by omega),← hR2 e2 i] at hbx
    have hix:=Jq jkd tp false B .i64 (i:=i) (by omega)
    rw [Nat.mul_one] at hix
    simp [e2,s14,s15,hix,hbx]
    exact rest _ (by simp) (by simp [s15]) (by simp) (by simp) (by simp;omega) (by simp)
   ·have b2:(lvl == 2)=false:=by simpa using e2
    by_cases e3:lvl=3
    ·have hff:(g.ts.flatMap txnC)[i * 3+1]? = some (.int .i64 (g.ts[i]).f):=by rw [je j9 g.ts hlt (by decide:1<3)];rfl
     have hFi:=hR3 e3 i
     rw [jgj hlt] at hFi
     have ea:=ev63 (a:=on) O (by omega) (i:Int)
     have eb:=ev63 (a:=on) O (by omega) (t:Int)
     cases c1:((g.ts[i]).f == 1)
     ·rw [c1,Bool.false_and] at hFi
      simp [e3,s6,o12,j2,j3,s15,hlt,j7 j9,hff,c1]
      exact rest _ (by simp [hFi]) (by simp [s15]) (by simp) (by simp) (by simp;omega) (by simp)
     ·rw [c1,Bool.true_and] at hFi
      simp [e3,s6,o12,j2,j3,s15,hlt,j7 j9,hff,c1,s3]
      refine Jp ea (by simp) rfl (by simp) ?_
      simp [s13,o26,j2,s3]
      refine Jp eb (by simp) rfl (by simp) ?_
      simp
      exact rest _ (by simp [hFi]) (by simp [s15]) (by simp) (by simp) (by simp;omega) (by simp)
    ·have b3:(lvl == 3)=false:=by simpa using e3
     simp [b1,b2,b3]
     exact rest _ (by simp [hR4 e1 e2 e3]) (by simp [s15]) (by simp) (by simp) (by simp;omega) (by simp)
 ·have:i=g.ts.length:=by omega
  subst this
  obtain ⟨u,hu,_,_⟩:=hG
  simp [s15,s6,o12,j2,j3]
  exact slE (t:=some (u,1)) (nl:=false) (k:=(Xm F g.ts.length).length) (cs:=(Xm F g.ts.length).flatMap intC) (fun r h=>h) (by simp [sd]) (by simp [hu])
end Go.Pv.T

/- Axioms: the reference's walk: orders, what is wrong. -/
namespace Go.Pv.T
open Go Go.Pv
theorem WA (g:Hist'):(comL g).length≤g.ts.length:=J8 JE g.ts g.ts.length
set_option maxRecDepth 100000 in
theorem ev23 {g:Hist'} (hs:Small g) {nl:Bool} (O:List Int) (hO:O.length≤1000000):Ev E 23 [.agg (j3 g),slOf nl intC O] (.bool (jk g O)):=by
 have hts:=hs.ts
 have e21:=ev21 hs
 have e39:=ev39 g hts
 have hcl:=WA g
 refine jR (af:=F23) rfl ?_
 unfold jk
 have hcm:numsTo JE g.ts g.ts.length=comL g:=rfl
 rw [hcm] at e39
 generalize comL g=C at *
 obtain ⟨f,hf⟩:∃ f:Nat→Bool,(fun i=>C.contains (O.getD i 0) && !(O.take i).contains (O.getD i 0))=f:=⟨_,rfl⟩
 have hfi:∀ i (h:i<O.length),f i=(C.contains O[i] && !(O.take i).contains O[i]):=fun i h=>by rw [← hf];simp only [jr h]
 rw [hf]
 clear hf
 cases hw:jm g
 ·rw [hw] at e21
  simp [F23,j3,j2]
  refine jL e21 (by simp [j3]) rfl (by simp [j3]) ?_
  simp
  exact j4 (by simp) (by simp) rfl
 rw [hw] at e21
 simp [F23,j3,j2]
 refine jL e21 (by simp [j3]) rfl (by simp [j3]) ?_
 simp [j2]
 refine jL e39 (by simp [j3]) rfl (by simp [j3]) ?_
 refine XH (nl:=false) (n:=C.length) (cs:=C.flatMap intC) ⟨_,rfl,by simp⟩ fun tc addc=>?_
 simp
 by_cases hl:C.length=O.length
 ·simp [hl]
  refine jB [(4,4),(6,6),(17,39)] O.length (fun i s=>s.tm 6 = .int .i64 i∧∀ k,k<i→f k=true) rfl rfl ⟨by simp,fun k hk=>by omega⟩ ?_
  rintro i s hi ⟨s6,hall⟩ fr
  have s1:s.tm 1=slOf nl intC O:=by rw [fr.t 1 (by simp)];simp
  have s5:s.tm 5 = .sl tc false C.length (C.flatMap intC):=by rw [fr.t 5 (by simp)];simp [hl]
  have sd:s.df=[]:=by rw [fr.d];simp
  clear fr
  by_cases hlt:i<O.length
  ·have hw':=jl hlt (by omega)
   have h1:=JL O hlt
   have ea:=ev62 (a:=false) C (by omega) O[i]
   have eb:=ev62 (a:=nl) (O.take i) (by simp;omega) O[i]
   have hfi:=hfi i hlt
   simp [s6,s1,s5,hlt,j7 jD,h1]
   refine Jp ea (by simp [slOf]) rfl (by simp) ?_
   cases hc:C.contains O[i]
   ·rw [hc,Bool.false_and] at hfi
    simp
    exact j4 (by simp [sd]) (by simp [jd1 hlt hfi]) rfl
   ·rw [hc,Bool.true_and] at hfi
    have hsl:jaf 1 none (some (.int .i64 (i:Int))) (slOf nl intC O)=some (slOf nl intC (O.take i)):=jfm jD none nl O (by omega)
    simp [s6,s1,hlt,j7 jD,h1,hsl]
    refine Jp eb (by simp) rfl (by simp) ?_
    cases hc2:(O.take i).contains O[i]
    ·rw [hc2] at hfi
     simp [hw',s6,hlt]
     intro k hk
     rcases Nat.lt_succ_iff_lt_or_eq.1 hk with h | h
     ·exact hall k h
     ·subst h;exact hfi
    ·rw [hc2] at hfi
     simp
     exact j4 (by simp [sd]) (by simp [jd1 hlt hfi]) rfl
  ·have:i=O.length:=by omega
   subst this
   simp [s6,s1]
   exact j4 (by simp [sd]) (by simp [andTo_iff.2 hall]) rfl
 ·have hl2:((C.length:Int) != O.length)=true:=by simp;omega
  simp [hl2]
  exact j4 (by simp) (by simp [hl]) rfl
set_option maxRecDepth 100000 in
theorem ev28 {g:Hist'} (hs:Small g) {nl on:Bool} (lvl:Int) (M O:List Int) (hM:M.length≤1000000) (hO:O.length≤1000000):Ev E 28 [.int .i64 lvl,.agg (j3 g),slOf nl intC M,slOf on intC O] (.int .i64 (WH g lvl M O)):=by
 have e21:=ev21 hs
 have e22:=ev22 hs (b:=nl) M (by omega)
 have e23:=ev23 hs (nl:=on) O hO
 refine jR (af:=F28) rfl ?_
 unfold WH
 cases hw:jm g
 ·rw [hw] at e21
  simp [F28,j3,j2]
  refine jL e21 (by simp [j3]) rfl (by simp [j3]) ?_
  simp
  exact j4 (by simp) (by simp) rfl
 rw [hw] at e21
 by_cases h1:lvl<1
 ·simp [F28,j3,j2]
  refine jL e21 (by simp [j3]) rfl (by simp [j3]) ?_
  simp [h1]
  exact j4 (by simp) (by simp) rfl
 by_cases h3:3<lvl
 ·simp [F28,j3,j2]
  refine jL e21 (by simp [j3]) rfl (by simp [j3]) ?_
  simp [h1,h3]
  exact j4 (by simp) (by simp) rfl
 cases hm:jbr g M
 ·rw [hm] at e22
  simp [F28,j3,j2]
  refine jL e21 (by simp [j3]) rfl (by simp [j3]) ?_
  simp [h1,h3,j2]
  refine jL e22 (by simp [j3]) rfl (by simp [j3]) ?_
  simp
  exact j4 (by simp) (by simp) rfl
 rw [hm] at e22
 cases ho:jk g O
 ·rw [ho] at e23
  simp [F28,j3,j2]
  refine jL e21 (by simp [j3]) rfl (by simp [j3]) ?_
  simp [h1,h3,j2]
  refine jL e22 (by simp [j3]) rfl (by simp [j3]) ?_
  simp [j2]
  refine jL e23 (by simp [j3]) rfl (by simp [j3]) ?_
  simp
  exact j4 (by simp) (by simp) rfl
 ·rw [ho] at e23
  simp [F28,j3,j2]
  refine jL e21 (by simp [j3]) rfl (by simp [j3]) ?_
  simp [h1,h3,j2]
  refine jL e22 (by simp [j3]) rfl (by simp [j3]) ?_
  simp [j2]
  refine jL e23 (by simp [j3]) rfl (by simp [j3]) ?_
  simp
  exact j4 (by simp) (by simp) rfl
end Go.Pv.T

/- Axioms: the reference's walk: does a level hold? -/
namespace Go.Pv.T
open Go Go.Pv
theorem jya {g:Hist'} (hm:X6 g=true) {q:Nat} (hq:q<(readH g).length):∃ (i k:Nat) (hi:i<g.ts.length) (hk:k<(g.ts[i]).ops.length),(readH g)[q]=((i:Int),(k:Int))∧jnc g (readH g)[q]=((g.ts[i]).ops[k]).key∧Jh g i=true:=by
 obtain ⟨i,k,t,e,ht,hc,hk,_⟩:=jcp (List.getElem_mem hq)
 obtain ⟨hi,rfl⟩:=List.getElem?_eq_some_iff.1 ht
 refine ⟨i,k,hi,hk,e,?_,by simpa [Jh,hi] using hc⟩
 rw [e]
 have:opAt g (i:Int) (k:Int)=some (g.ts[i]).ops[k]:=by
  unfold opAt
  simp [hm,hi,hk,List.getD_eq_getElem?_getD]
 unfold jnc
 simp only [this]
theorem joh {g:Hist'} (h:jm g=true):X6 g=true:=by
 unfold jm at h
 simp only [Bool.and_eq_true] at h
 exact h.1
end Go.Pv.T

/- The judge: how it lies in memory; whether a read sees a transaction. -/
namespace Go.Pv.T
open Go Go.Pv
def Off (ub key:Nat):Prop:=∀ m,ub≤m→¬ key=2 * m+1
theorem Off.up {ub ub' key:Nat} (h:Off ub key) (hu:ub≤ub'):Off ub' key:=fun m hm=>h m (Nat.le_trans hu hm)
def Was (ub:Nat) (ob ob':Nat→Option Obj'):Prop:=∀ key,Off ub key→ob' key=ob key
theorem Was.trans {ub ub1:Nat} {ob ob1 ob2:Nat→Option Obj'} (h:Was ub ob ob1) (h':Was ub1 ob1 ob2) (hu:ub≤ub1):Was ub ob ob2:=fun key hk=>(h' key (hk.up hu)).trans (h key hk)
theorem Was.refl (ub:Nat) (ob:Nat→Option Obj'):Was ub ob ob:=fun _ _=>rfl
structure JN where
 tr:Option (Nat × Nat)
 nr:Bool
 nm:Bool
 kJ:Nat
 uJ:Nat
 kA:Nat
 uA:Nat
 kP:Nat
 uP:Nat
 rows:List (Nat × Nat)
def farL (g:Hist') (M:List Int) (b:Nat):List Bool:=(List.range g.ts.length).map (farB g M b)
def jjb (n:Nat) (r:Nat × Nat):V:=.osl r.1 r.2 0 n 1
structure Jd (g:Hist') (lvl:Int) (M O:List Int) (N:JN) (ob:Nat→Option Obj') (ub:Nat):Prop where
 j:ob N.kJ=some ⟨N.uJ,.cells [.int .i64 lvl,slOf g.sn strC g.ss,slOf g.kn strC g.ks,slOf g.tn txnC g.ts,.sl N.tr N.nr (readH g).length ((readH g).flatMap jG),slOf N.nm intC M,.map N.kA N.uA,if lvl=2 then .osl N.kP N.uP 0 g.ts.length 1 else .sl none true 0 []]⟩
 a:∃ ver,ob N.kA=some ⟨N.uA,.mp ver (MP jbg (atM O O.length))⟩
 p:lvl=2→ob N.kP=some ⟨N.uP,.cells (N.rows.map (jjb g.ts.length))⟩∧N.rows.length=g.ts.length∧(∀ b (h:b<N.rows.length),ob (N.rows[b]).1=some ⟨(N.rows[b]).2,.cells ((farL g M b).map V.bool)⟩)∧Off ub N.kP∧∀ r∈N.rows,Off ub r.1
 fj:Off ub N.kJ
 fa:Off ub N.kA
 odd:N.kJ % 2=1∧N.kA % 2=1∧(lvl=2→N.kP % 2=1∧∀ r∈N.rows,r.1 % 2=1)
theorem Jd.keep {g:Hist'} {lvl:Int} {M O:List Int} {N:JN} {ob ob':Nat→Option Obj'} {ub ub':Nat} (h:Jd g lvl M O N ob ub) (hw:Was ub ob ob') (hu:ub≤ub'):Jd g lvl M O N ob' ub':=by
 refine ⟨(hw _ h.fj).trans h.j,?_,fun h2=>?_,h.fj.up hu,h.fa.up hu,h.odd⟩
 ·obtain ⟨ver,e⟩:=h.a
  exact ⟨ver,(hw _ h.fa).trans e⟩
 ·obtain ⟨p1,p2,p3,p4,p5⟩:=h.p h2
  exact ⟨(hw _ p4).trans p1,p2,fun b hb=>(hw _ (p5 _ (List.getElem_mem hb))).trans (p3 b hb),p4.up hu,fun r hr=>(p5 r hr).up hu⟩
theorem Jd.keepO {g:Hist'} {lvl:Int} {M O:List Int} {N:JN} {ob ob':Nat→Option Obj'} {ub ub':Nat} (h:Jd g lvl M O N ob ub) (hw:∀ key,Off ub key→key % 2=1→ob' key=ob key) (hu:ub≤ub'):Jd g lvl M O N ob' ub':=by
 obtain ⟨o1,o2,o3⟩:=h.odd
 refine ⟨(hw _ h.fj o1).trans h.j,?_,fun h2=>?_,h.fj.up hu,h.fa.up hu,h.odd⟩
 ·obtain ⟨ver,e⟩:=h.a
  exact ⟨ver,(hw _ h.fa o2).trans e⟩
 ·obtain ⟨p1,p2,p3,p4,p5⟩:=h.p h2
  obtain ⟨o4,o5⟩:=o3 h2
  exact ⟨(hw _ p4 o4).trans p1,p2,fun b hb=>(hw _ (p5 _ (List.getElem_mem hb)) (o5 _ (List.getElem_mem hb))).trans (p3 b hb),p4.up hu,fun r hr=>(p5 r hr).up hu⟩
theorem Jd.map {g:Hist'} {lvl:Int} {M O:List Int} {N:JN} {ob:Nat→Option Obj'} {ub:Nat} (h:Jd g lvl M O N ob ub) (ho:jk g O=true) {t:Int} (ht:t = -1∨t∈comL g):YP ob .int (.int .i64 0) false (.map N.kA N.uA) (.int .i64 t)=some (.int .i64 (atO O t)):=by
 obtain ⟨ver,e⟩:=h.a
 rw [Xu (atM O O.length) (by simp [jd,e]),jl5 ho ht]
theorem idx0 {l u n x sz:Nat} {kk:IntKind} (hx:x<n):JH sz (.osl l u 0 n sz) (.int kk (x:Int))=some (.ptr l u (x * sz)):=by simp [JH,hx]
set_option maxRecDepth 100000 in
theorem jwv {g:Hist'} {lvl:Int} {M O:List Int} {N:JN} {ob:Nat→Option Obj'} {ub:Nat} (hJ:Jd g lvl M O N ob ub) (hR:(readH g).length≤1000000) (hM:M.length=(readH g).length) (ho:jk g O=true) {q:Nat} (hq:q<(readH g).length) {t:Nat} (ht:Jh g t=true) (tk:Nat→Bool) (base:Nat) :
 EvO E 119 [.ptr N.kJ N.uJ 0,.int .i64 (q:Int),.int .i64 (t:Int)] ob tk base ub (.bool (Jn g lvl M O (readH g)[q] t)):=by
 refine Xn (af:=S119) rfl ?_
 have hj:=hJ.j
 have hf:∀ m,ub≤m→¬ N.kJ=2 * m+1:=hJ.fj
 have hlk:=hJ.map ho (.inr (comL_mem.2 ⟨t,rfl,ht⟩))
 obtain ⟨a,ea,ha⟩:=comL_mem.1 (Yx (List.getElem_mem hq))
 have hlk2:=hJ.map ho (.inr (comL_mem.2 ⟨a,rfl,ha⟩))
 have hpa:=fun ob=>Yz (readH g) ob hq
 obtain ⟨p,hp⟩:∃ p,(readH g)[q]=p:=⟨_,rfl⟩
 simp only [hp] at hpa
 rw [hp] at ea ⊢
 simp only [ea] at hpa
 have hix:=Jq jX N.tr N.nr (readH g) .i64 hq
 simp (disch:=first | (simp;done) | omega) [S119,j2,hj,hf,hix,hpa,splice]
 refine ⟨by omega,?_⟩
 have e8:ub+64+64+64+64+64+64+64+64=ub+512:=by omega
 by_cases e1:lvl=1
 ·obtain ⟨c,hc⟩:∃ c,Jn g lvl M O p t=c:=⟨_,rfl⟩
  rw [hc]
  have hc':rcB (readH g) M p t=c:=by rw [← hc,Jn,if_pos e1]
  unfold rcB at hc'
  simp (disch:=first | (simp;done) | omega) [e1,j2,hj,hf,e8]
  refine jz fun st hst=>?_
  obtain ⟨u7,hu7⟩:∃ u7,u7=ub+512:=⟨_,rfl⟩
  obtain ⟨k7,hk7⟩:∃ k7,k7=2 * u7+1:=⟨_,rfl⟩
  have g0:st.tm 0 = .ptr N.kJ N.uJ 0:=by rw [hst];simp
  have g2:st.tm 2 = .int .i64 (t:Int):=by rw [hst];simp
  have g7:st.tm 7 = .ptr k7 u7 0:=by rw [hst,hk7,hu7];simp
  have g26:st.tm 26 = .sl N.tr N.nr (readH g).length ((readH g).flatMap jG):=by rw [hst];simp
  have g27:st.tm 27 = .int .i64 (readH g).length:=by rw [hst];simp
  have g28:st.tm 28 = .int .i64 0:=by rw [hst];simp
  have p7:st.ob k7=some ⟨u7,.cells [.int .i64 (a:Int),.int .i64 p.2]⟩:=by rw [hst,hk7,hu7];simp
  have gn:u7<st.nx:=by rw [hst,hu7];simp
  have gj:Jd g lvl M O N st.ob st.nx:=hJ.keep (fun key hk=>by rw [hst];simp (disch:=first | (simp;done) | omega) [show ∀ m,ub≤m→¬ key=2 * m+1 from hk]) (by omega)
  have gd:st.df=[]:=by rw [hst];simp
  have gr:st.ro=ub:=by rw [hst];simp
  clear hst
  have hR7:ub≤u7:=by omega
  clear hu7 hpa
  refine jB [(6,6),(8,9),(28,56)] (readH g).length (fun k x=>x.tm 28 = .int .i64 k∧(((readH g).drop k).zip (M.drop k)).any (fun y=>y.1.1 == p.1 && (decide (y.1.2<p.2) && y.2 == (t:Int)))=c∧Jd g lvl M O N x.ob x.nx∧x.ob k7=some ⟨u7,.cells [.int .i64 (a:Int),.int .i64 p.2]⟩∧u7<x.nx) rfl rfl ⟨by simpa using g28,by simpa using hc',gj,p7,gn⟩ ?_
  rintro k x hk ⟨x28,hany,xj,x7o,xn⟩ f
  have x0:x.tm 0 = .ptr N.kJ N.uJ 0:=by rw [f.t 0 (by simp)];simp [g0]
  have x2:x.tm 2 = .int .i64 (t:Int):=by rw [f.t 2 (by simp)];simp [g2]
  have x7:x.tm 7 = .ptr k7 u7 0:=by rw [f.t 7 (by simp)];simp [g7]
  have x26:x.tm 26 = .sl N.tr N.nr (readH g).length ((readH g).flatMap jG):=by rw [f.t 26 (by simp)];simp [g26]
  have x27:x.tm 27 = .int .i64 (readH g).length:=by rw [f.t 27 (by simp)];simp [g27]
  have xd:x.df=[]:=by rw [f.d];simp [gd]
  have xr:x.ro=ub:=by rw [f.r];simp [gr]
  clear f
  have f7:∀ m,x.nx≤m→¬ k7=2 * m+1:=fun m hm=>by omega
  have fj:∀ m,x.nx≤m→¬ N.kJ=2 * m+1:=xj.fj
  have oj:=xj.j
  by_cases hkt:k<(readH g).length
  ·have hw:=jl hkt (by omega)
   have hkm:k<M.length:=by omega
   have h1:=JL M hkm
   have h2:=fun ob=>Yz (readH g) ob hkt
   have hix:=Jq jX N.tr N.nr (readH g) .i64 hkt
   have hkeep:∀ (ob':Nat→Option Obj') (nx':Nat),Was x.nx x.ob ob'→x.nx≤nx'→Jd g lvl M O N ob' nx':=fun ob' nx' h h'=>xj.keep h h'
   rw [List.drop_eq_getElem_cons hkt,List.drop_eq_getElem_cons hkm,List.zip_cons_cons,List.any_cons,ea] at hany
   have fin:∀ ob':Nat→Option Obj',(∀ key,(∀ m,x.nx≤m→¬ key=2 * m+1)→ob' key=x.ob key)→Was x.nx x.ob ob':=fun _ h=>h
   cases c1:(((readH g)[k]).1 == (a:Int))
   ·rw [c1] at hany
    simp (disch:=first | (simp;done) | omega) [x28,x27,x26,x7,hkt,hix,h2,j2,splice,x7o,f7,c1,hw,xr]
    refine ⟨by omega,by simpa [ea] using hany,hkeep _ _ (fin _ fun key hk=>by simp (disch:=first | (simp;done) | omega) [hk]) (by omega),by omega⟩
   ·by_cases c2:((readH g)[k]).2<p.2
    ·cases c3:(M[k] == (t:Int))
     ·rw [c1,c3] at hany
      simp (disch:=first | (simp;done) | omega) [x28,x27,x26,x7,x0,x2,hkt,hix,h2,j2,splice,x7o,f7,fj,oj,c1,c2,c3,hw,xr,j7 jD,h1]
      refine ⟨by omega,by simpa [ea] using hany,hkeep _ _ (fin _ fun key hk=>by simp (disch:=first | (simp;done) | omega) [hk]) (by omega),by omega⟩
     ·rw [c1,c3,decide_eq_true c2] at hany
      simp (disch:=first | (simp;done) | omega) [x28,x27,x26,x7,x0,x2,hkt,hix,h2,j2,splice,x7o,f7,fj,oj,c1,c2,c3,xr,j7 jD,h1]
      exact ⟨by omega,j4 (by simp [xd]) (by simp [← hany]) rfl⟩
    ·rw [c1,decide_eq_false c2] at hany
     simp (disch:=first | (simp;done) | omega) [x28,x27,x26,x7,hkt,hix,h2,j2,splice,x7o,f7,c1,c2,hw,xr]
     refine ⟨by omega,by simpa [ea] using hany,hkeep _ _ (fin _ fun key hk=>by simp (disch:=first | (simp;done) | omega) [hk]) (by omega),by omega⟩
  ·have:k=(readH g).length:=by omega
   subst this
   rw [List.drop_length] at hany
   simp [x28,x27]
   exact j4 (by simp [xd]) (by simp [← hany]) rfl
 ·have b1:(lvl == 1)=false:=by simpa using e1
  by_cases e2:lvl=2
  ·obtain ⟨p1,p2,p3,p4,p5⟩:=hJ.p e2
   have hc:Jn g lvl M O p t=farB g M a t:=by simp [Jn,e2,ea]
   rw [hc]
   have hal:=Jt ha
   have htl:=Jt ht
   have fP:∀ m,ub≤m→¬ N.kP=2 * m+1:=p4
   have hrow:(N.rows.map (jjb g.ts.length))[a]? = some (.osl (N.rows[a]).1 (N.rows[a]).2 0 g.ts.length 1):=by simp [show a<N.rows.length by omega,jjb]
   have fR:∀ m,ub≤m→¬ (N.rows[a]).1=2 * m+1:=p5 _ (List.getElem_mem (by omega))
   have hcell:=p3 a (by omega)
   have hbit:((farL g M a).map V.bool)[t]? = some (.bool (farB g M a t)):=by simp [farL,htl]
   have hi1:=idx0 (l:=N.kP) (u:=N.uP) (n:=g.ts.length) (sz:=1) (kk:=.i64) hal
   have hi2:=idx0 (l:=(N.rows[a]).1) (u:=(N.rows[a]).2) (n:=g.ts.length) (sz:=1) (kk:=.i64) htl
   rw [Nat.mul_one] at hi1 hi2
   simp (disch:=first | (simp;done) | omega) [e2,j2,hj,hf,hi1,hi2,fP,p1,hrow,fR,hcell,hbit]
   exact j4 (by simp) (by simp) rfl
  ·have b2:(lvl == 2)=false:=by simpa using e2
   have hc:Jn g lvl M O p t=decide (atO O t<atO O a):=by simp [Jn,e1,e2,ea]
   rw [hc]
   obtain ⟨ver,hA⟩:=hJ.a
   have fA:∀ m,ub≤m→¬ N.kA=2 * m+1:=hJ.fa
   have hl:∀ (ob':Nat→Option Obj') (x:Int),ob' N.kA=ob N.kA→(x = -1∨x∈comL g)→YP ob' .int (.int .i64 0) false (.map N.kA N.uA) (.int .i64 x)=some (.int .i64 (atO O x)):=fun ob' x h hx=>by
    rw [Xu (atM O O.length) (by simp [jd,h,hA]),jl5 ho hx]
   have hxt:(t:Int) = -1∨(t:Int)∈comL g:=.inr (comL_mem.2 ⟨t,rfl,ht⟩)
   have hxa:(a:Int) = -1∨(a:Int)∈comL g:=.inr (comL_mem.2 ⟨a,rfl,ha⟩)
   simp (disch:=first | (simp;done) | omega) [b1,b2,j2,hj,hf]
   rw [hl _ _ (by simp (disch:=first | (simp;done) | omega) [fA]) hxt]
   simp (disch:=first | (simp;done) | omega) [j2,hj,hf]
   rw [hl _ _ (by simp (disch:=first | (simp;done) | omega) [fA]) hxa]
   simp
   exact j4 (by simp) (by simp) rfl
end Go.Pv.T

/- The judge: a read is from whom it should be. -/
namespace Go.Pv.T
open Go Go.Pv
theorem YS {a b:Nat} (h:¬ a=b):Nat.beq a b=false:=by
 cases e:Nat.beq a b
 ·rfl
 ·exact absurd (Nat.eq_of_beq_eq_true e) h
set_option maxRecDepth 100000 in
theorem j6u {g:Hist'} (hs:Small g) {lvl:Int} {M O:List Int} {N:JN} {ob:Nat→Option Obj'} {ub:Nat} (hJ:Jd g lvl M O N ob ub) (hmay:X6 g=true) (ho:jk g O=true) {q:Nat} (hq:q<(readH g).length) {m:Int} (hm:m = -1∨m∈comL g) {t:Nat} (ht:Jh g t=true)
 {kB uB kp up kf uf:Nat} (hB:ob kB=some ⟨uB,.cells [.ptr N.kJ N.uJ 0]⟩) (hp:ob kp=some ⟨up,.cells [.int .i64 ((readH g)[q]).1,.int .i64 ((readH g)[q]).2]⟩) (hf:ob kf=some ⟨uf,.cells [.int .i64 m]⟩) (fB:Off ub kB) (fp:Off ub kp) (ff:Off ub kf) (tk:Nat→Bool) (base:Nat) :
 EvO E 115 [.int .i64 (t:Int),.ptr kB uB 0,.ptr kp up 0,.ptr kf uf 0] ob tk base ub (.bool (okB g O (readH g)[q] m t)):=by
 refine Xn (af:=S115) rfl ?_
 have hj:=hJ.j
 obtain ⟨ver,hA⟩:=hJ.a
 have gJ:∀ m,ub≤m→¬ N.kJ=2 * m+1:=hJ.fj
 have gA:∀ m,ub≤m→¬ N.kA=2 * m+1:=hJ.fa
 have gB:∀ m,ub≤m→¬ kB=2 * m+1:=fB
 have gp:∀ m,ub≤m→¬ kp=2 * m+1:=fp
 have gf:∀ m,ub≤m→¬ kf=2 * m+1:=ff
 obtain ⟨i,k,hi,hk,e,hkey,_⟩:=jya hmay hq
 obtain ⟨p,hpe⟩:∃ p,(readH g)[q]=p:=⟨_,rfl⟩
 rw [hpe] at hp e hkey ⊢
 rw [e] at hp
 simp only at hp
 have hl3:(g.ts.flatMap txnC)[i * 3+2]? = some (slOf (g.ts[i]).nl opC (g.ts[i]).ops):=by rw [je j9 g.ts hi (by decide:2<3)];rfl
 have hlk:((g.ts[i]).ops.flatMap opC)[k * 4+1]? = some (.int .i64 ((g.ts[i]).ops[k]).key):=by rw [je jJ (g.ts[i]).ops hk (by decide:1<4)];rfl
 have el:=j62 hs (t:Int) ((g.ts[i]).ops[k]).key
 have ez:(WP (XM g (t:Int)).2 ((g.ts[i]).ops[k]).key).2=jf7 g t (jnc g p):=by rw [hkey];rfl
 rw [ez] at el
 have hok:okB g O p m t=((t:Int) == m || (!jf7 g t (jnc g p) || decide (atO O t<atO O m))):=rfl
 rw [hok]
 have hl:∀ (ob':Nat→Option Obj') (x:Int),ob' N.kA=ob N.kA→(x = -1∨x∈comL g)→YP ob' .int (.int .i64 0) false (.map N.kA N.uA) (.int .i64 x)=some (.int .i64 (atO O x)):=fun ob' x h hx=>by
  rw [Xu (atM O O.length) (by simp [jd,h,hA]),jl5 ho hx]
 have hxt:(t:Int) = -1∨(t:Int)∈comL g:=.inr (comL_mem.2 ⟨t,rfl,ht⟩)
 simp (disch:=first | (simp;done) | omega) [S115,j2,hB,hj,hp,j7 j9,j7 jJ,hl3,hlk]
 refine Jp el (by simp [j3]) rfl (by simp [j3]) ?_
 rw [JB (by simp [V.plain,J9])]
 generalize (WP (XM g (t:Int)).2 ((g.ts[i]).ops[k]).key).1=rv at *
 generalize jf7 g t (jnc g p)=rb at *
 simp (disch:=first | (simp;done) | omega) [J9,splice,j2]
 refine ⟨by omega,?_,?_⟩
 ·have bB:∀ m,ub≤m→Nat.beq kB (2 * m+1)=false:=fun m h=>YS (gB m h)
  have bJ:∀ m,ub≤m→Nat.beq N.kJ (2 * m+1)=false:=fun m h=>YS (gJ m h)
  have bp:∀ m,ub≤m→Nat.beq kp (2 * m+1)=false:=fun m h=>YS (gp m h)
  simp (disch:=first | (simp;done) | omega) [X5,Wv,jdr,jaz,rdOb,rdTk,lOf,Delta.wo,Delta.wt,bB,bJ,bp]
 cases h1:((t:Int) == m)
 ·cases rb
  ·simp (disch:=first | (simp;done) | omega) [gf,hf,h1]
   exact j4 (by simp) (by simp) rfl
  ·simp (disch:=first | (simp;done) | omega) [j2,gf,hf,h1,gB,hB,gJ,hj]
   rw [hl _ _ (by simp (disch:=first | (simp;done) | omega) [gA]) hxt]
   simp (disch:=first | (simp;done) | omega) [j2,gf,hf,gB,hB,gJ,hj]
   rw [hl _ _ (by simp (disch:=first | (simp;done) | omega) [gA]) hm]
   simp
   exact j4 (by simp) (by simp) rfl
 ·simp (disch:=first | (simp;done) | omega) [gf,hf,h1]
  exact j4 (by simp) (by simp) rfl
end Go.Pv.T

/- The judge: going through those that are seen; a read. -/
namespace Go.Pv.T
open Go Go.Pv
set_option maxRecDepth 100000 in
theorem sv72 {Yf:YF} {g:Hist'} (hs:Small g) (hw:jm g=true) {lvl:Int} {M O:List Int} {N:JN} {ob:Nat→Option Obj'} {ub:Nat} (hJ:Jd g lvl M O N ob ub) (hM:M.length=(readH g).length) (ho:jk g O=true) {q:Nat} (hq:q<(readH g).length)
 {f:FuncId} {caps:List V} (hsh:E.sh true f=false) (hcp:(caps.all fun v=>v.strip.pureTop)=false) (pr:Nat→Bool) (hev:∀ t,Jh g t=true→∀ ob' ub' tk base,Was ub ob ob'→ub≤ub'→EvO E f (.int .i64 (t:Int)::caps) ob' tk base ub' (.bool (pr t))) {tk:Nat→Bool} {ro base:Nat} (_:ro≤ub) :
 ∃ r,EvS E Yf.y 72 [.ptr N.kJ N.uJ 0,.int .i64 (q:Int),.fn (.func f) [] caps] ob tk ro base ub r∧(r.1 = .bool ((comL g).all fun t=>!Jn g lvl M O (readH g)[q] t || pr t.toNat)∧Was ub ob r.2.1∧ub≤r.2.2.2):=by
 have hR:=Jo hs
 obtain ⟨vc,evc,hvc⟩:=j1j hs
 rw [WX hw] at hvc
 have hj:=hJ.j
 have hcl:=WA g
 have hts:=hs.ts
 refine YK (af:=S72) rfl (by decide) ?_
 show wpC E Yf S72.body _ (YQ S72.res _)
 obtain ⟨F,hF⟩:∃ F:Int→Bool,(fun t=>!Jn g lvl M O (readH g)[q] t || pr t.toNat)=F:=⟨_,rfl⟩
 have hFt:∀ t:Nat,F t=(!Jn g lvl M O (readH g)[q] t || pr t):=fun t=>by rw [← hF];simp
 rw [hF]
 simp [S72,j2,hj]
 refine jL evc (by simp [j3]) rfl (by simp [j3]) ?_
 refine XH hvc fun tc addc=>?_
 simp
 refine jB [(6,6),(8,8),(15,29)] (comL g).length (fun i s=>s.tm 15 = .int .i64 i∧(∀ k,k<i→F ((comL g).getD k 0)=true)∧Was ub ob s.ob∧ub≤s.nx) rfl rfl ⟨by simp,fun k hk=>by omega,fun key hk=>by simp,by simp;omega⟩ ?_
 rintro i s hi ⟨s15,hall,hW,hn⟩ fr
 have s0:s.tm 0 = .ptr N.kJ N.uJ 0:=by rw [fr.t 0 (by simp)];simp
 have s1:s.tm 1 = .int .i64 (q:Int):=by rw [fr.t 1 (by simp)];simp
 have s2:s.tm 2 = .fn (.func f) [] caps:=by rw [fr.t 2 (by simp)];simp
 have s13:s.tm 13 = .sl tc (comL g).isEmpty (comL g).length ((comL g).flatMap intC):=by rw [fr.t 13 (by simp)];simp
 have s14:s.tm 14 = .int .i64 (comL g).length:=by rw [fr.t 14 (by simp)];simp
 have sd:s.df=[]:=by rw [fr.d];simp
 clear fr
 by_cases hlt:i<(comL g).length
 ·have hwk:=jl hlt (by omega)
  have ix:JH 1 (.sl tc (comL g).isEmpty (comL g).length ((comL g).flatMap intC)) (.int .i64 (i:Int))=some (.eptr ((comL g).flatMap intC) i):=by have:=Jq jD tc (comL g).isEmpty (comL g) .i64 hlt;rwa [Nat.mul_one] at this
  have h1:=JL (comL g) hlt
  obtain ⟨t,et,ht⟩:=comL_mem.1 (List.getElem_mem hlt)
  rw [et] at h1
  have hFi:F ((comL g).getD i 0)=(!Jn g lvl M O (readH g)[q] t || pr t):=by rw [jr hlt,et,hFt]
  have next:F ((comL g).getD i 0)=true→∀ k,k<i+1→F ((comL g).getD k 0)=true:=fun h k hk=>by
   rcases Nat.lt_succ_iff_lt_or_eq.1 hk with h' | h'
   ·exact hall k h'
   ·subst h';exact h
  simp [s15,s14,s13,hlt,ix,h1]
  have hJs:=hJ.keep hW hn
  refine Xr (vs:=[.ptr N.kJ N.uJ 0,.int .i64 (q:Int),.int .i64 (t:Int)]) (by simp [s0,s1]) rfl rfl (by simpa using jwv (hJs.keep (Was.refl _ _) (by omega)) hR hM ho hq ht _ _) ?_
  simp
  cases c1:Jn g lvl M O (readH g)[q] t
  ·rw [c1] at hFi
   simp [s15,hwk,hlt]
   exact ⟨next (by rw [hFi];rfl),fun key hk=>by simpa using hW key hk,by omega⟩
  ·rw [c1] at hFi
   simp only [Bool.not_true,Bool.false_or] at hFi
   simp [s2]
   refine Qk (f:=f) (first:=[]) (captured:=caps) (by simp) hsh (by simpa using hcp) (v:=.bool (pr t)) (by simpa using hev t ht s.ob _ s.tk _ hW (by omega)) ?_
   cases c2:pr t
   ·rw [c2] at hFi
    simp
    refine Qt (by simp [sd]) ⟨?_,fun key hk=>by simpa using hW key hk,by simp;omega⟩
    have:(comL g).all F=false:=by
     cases h:(comL g).all F
     ·rfl
     ·have:=List.all_eq_true.1 h _ (List.getElem_mem hlt)
      rw [← jr hlt (d:=0),hFi] at this
      cases this
    simp [this]
   ·rw [c2] at hFi
    simp [s15,hwk,hlt]
    exact ⟨next hFi,fun key hk=>by simpa using hW key hk,by omega⟩
 ·have:i=(comL g).length:=by omega
  subst this
  have hall2:(comL g).all F=true:=by
   rw [List.all_eq_true]
   intro z hz
   obtain ⟨k,hk,e⟩:=List.getElem_of_mem hz
   have:=hall k hk
   rwa [jr hk,e] at this
  simp [s15,s14]
  exact Qt (by simp [sd]) ⟨by simp [hall2],fun key hk=>by simpa using hW key hk,by simp;omega⟩
end Go.Pv.T
