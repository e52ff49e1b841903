/- Ranges over maps; slices of ints that grow. -/
import Derived.Test.YtphecmnehkdihaaGreatDoorCD
set_option maxRecDepth 100000
namespace Go.Pv.T
open Go Go.Pv
section
variable {E:Env} {Yf:YF} {st:St} {ub:Nat} {K:St→Nat→Prop} {d:Option Nat} {nm:Bool}
theorem jen {x:A} {l u ver:Nat} {es:List (V × V)} (hx:eval E st.tm x = .map l u) (ho:st.ob l=some ⟨u,.mp ver es⟩)
 (h:QP K st d ub { v:=.iter (jP d nm st.fb ub) ub,obs:=[(jP d nm st.fb ub,⟨ub,.miter l u ver es none⟩)] }):j9 E Yf ⟨d,.range false x,none,nm⟩ st ub K:=by
 rw [jS _ rfl rfl]
 have h1:je st.ob l u=some es:=by simp [je,ho]
 have h2:J7 st.ob l=ver:=by simp [J7,ho]
 simp only [aop,hx,h1,h2,Option.bind_some,Jb,jN,Jz]
 exact h
theorem jiw {l u l' u' ver:Nat} {δ:Delta}:∀ {es pre:List (V × V)},δ∈jix l u l' u' ver pre es→∃ a k v b,es=a++(k,v)::b∧δ = { v:=.tup [.bool true,k,v],obs:=[(l,⟨u,.miter l' u' ver (pre++a++b) (some (k,v))⟩)] }
 | [],_,h=>by simp [jix] at h
 | (k,v)::r,pre,h=>by
  rw [jix,List.mem_cons] at h
  rcases h with h | h
  ·exact ⟨[],k,v,r,rfl,by rw [h];simp⟩
  ·obtain ⟨a,k',v',b,e,hd⟩:=jiw h
   exact ⟨(k,v)::a,k',v',b,by rw [e];rfl,by rw [hd];simp⟩
theorem jgo {x:A} {l u l' u' ver:Nat} {left es:List (V × V)} {last:Option (V × V)} (hx:eval E st.tm x = .iter l u) (ho:st.ob l=some ⟨u,.miter l' u' ver left last⟩) (hm:st.ob l'=some ⟨u',.mp ver es⟩) (hro:st.ro≤u)
 (h0:left=[]→QC K st d ub (.tup [.bool false]))
 (h1:∀ a k v b,left=a++(k,v)::b→QP K st d ub { v:=.tup [.bool true,k,v],obs:=[(l,⟨u,.miter l' u' ver (a++b) (some (k,v))⟩)] }):j9 E Yf ⟨d,.nextMap x,none,nm⟩ st ub K:=by
 have e1:(je st.ob l' u').isSome=true:=by simp [je,hm]
 have e2:J7 st.ob l'=ver:=by simp [J7,hm]
 simp only [j9,wanted,jg,jB]
 cases left with
 | nil =>
  refine ⟨[{ v:=.tup [.bool false] }],?_,?_⟩
  ·simp only [nextL,hx,ho]
   rw [if_pos ⟨Nat.ble_eq ▸ hro,trivial,e1,e2⟩]
  ·intro δ hδ
   rw [List.mem_singleton] at hδ
   subst hδ
   have:=h0 rfl
   rw [Q1]
   exact this
 | cons p r =>
  refine ⟨jix l u l' u' ver [] (p::r),?_,?_⟩
  ·simp only [nextL,hx,ho]
   rw [if_pos ⟨Nat.ble_eq ▸ hro,trivial,e1,e2⟩]
  ·intro δ hδ
   obtain ⟨a,k,v,b,e,hd⟩:=jiw hδ
   subst hd
   exact h1 a k v b e
theorem jnd {x:A} {l u l' u' ver:Nat} {left es:List (V × V)} {k v:V} (hx:eval E st.tm x = .iter l u) (ho:st.ob l=some ⟨u,.miter l' u' ver left (some (k,v))⟩) (hm:st.ob l'=some ⟨u',.mp ver es⟩)
 (h:QC K st d ub (.tup [k,v])):j9 E Yf ⟨d,.entry x,none,nm⟩ st ub K:=by
 have e1:(je st.ob l' u').isSome=true:=by simp [je,hm]
 have e2:J7 st.ob l'=ver:=by simp [J7,hm]
 rw [jS _ rfl rfl]
 simp only [aop,hx,ho]
 rw [if_pos ⟨trivial,e1,e2⟩,WF,Q1]
 exact h
end
def IntsO (ob:ZO) (p:Nat→Prop) (l:List Int) (v:V):Prop :=
 (l=[]∧v = .sl none true 0 [])∨(l≠[]∧∃ u,v = .osl (2 * u+1) u 0 l.length 1∧ob (2 * u+1)=some ⟨u,.cells (l.flatMap intC)⟩∧p u)
theorem IntsO.frame {ob ob':ZO} {p p':Nat→Prop} {l:List Int} {v:V} (h:IntsO ob p l v) (hf:∀ u,p u→ob' (2 * u+1)=ob (2 * u+1)) (hh:∀ u,p u→p' u):IntsO ob' p' l v:=by
 rcases h with h | ⟨h1,u,h2,h3,h4⟩
 ·exact Or.inl h
 ·exact Or.inr ⟨h1,u,h2,(hf u h4).trans h3,hh u h4⟩
theorem jt2 (st:St) (d:Option Nat) (v:V) (l:Nat) (o:Obj') (kl:List Nat) (k:Nat):(st.app d { v:=v,obs:=[(l,o)],kill:=kl }).ob k=if k=l then some o else if kl.any (Nat.beq k) then none else st.ob k:=by
 simp [St.app,JK,j6]
theorem jh2 (st:St) (d:Option Nat) (v:V) (l:Nat) (o:Obj') (kl:List Nat) (k:Nat) (h:k ∉ kl):(st.app d { v:=v,obs:=[(l,o)],kill:=kl }).ob k=if k=l then some o else st.ob k:=by
 rw [jt2]
 have:(kl.any (Nat.beq k))=false:=by
  rw [List.any_eq_false]
  intro x hx hb
  exact h (Nat.eq_of_beq_eq_true hb ▸ hx)
 rw [this]
 rfl
theorem jfz (st:St) (k:Nat):∀ l:List Int,(l.flatMap intC).mapM (JW st (k+1))=some (l.flatMap intC)
 | []=>rfl
 | a::l=>by
  show ((V.int .i64 a)::l.flatMap intC).mapM _=_
  rw [List.mapM_cons,jfz st k l]
  rfl
def jpd (T:List Int):V:=if T.isEmpty then .sl none true 0 [] else .sl (some (0,1)) false T.length (T.flatMap intC)
theorem jau {st:St} {p:Nat→Prop} {n:Nat} {T:List Int} {v:V} (hd:st.df=[]) (hv:st.tm n=v) (h:IntsO st.ob p T v) (hro:∀ u,p u→st.ro≤u):jym [.t n] (jpd T) .ret st:=by
 show ja3 [.t n] (.ret,st)=some (jpd T)
 rcases h with ⟨rfl,rfl⟩ | ⟨hne,u,rfl,hob,hp⟩
 ·exact j3 hd (by rw [hv];rfl) rfl
 ·have hoc:j1 st.ob (2 * u+1) u=some (T.flatMap intC):=by simp [j1,hob]
  have hlen:(T.flatMap intC).length=T.length:=by rw [jA jF];omega
  have hemp:T.isEmpty=false:=by cases T with | nil=>exact absurd rfl hne | cons=>rfl
  have hpos:0<T.length:=List.length_pos_iff.2 hne
  have hs:JW st 6 (.osl (2 * u+1) u 0 T.length 1)=some (.sl none false T.length (T.flatMap intC)):=by
   show ((j1 st.ob (2 * u+1) u).bind fun cs=>if Nat.ble st.ro u=true∧0+T.length * 1≤cs.length then (((cs.drop 0).take (T.length * 1)).mapM (JW st 5)).map fun cs'=>V.sl none false T.length cs' else none)=_
   rw [hoc,Option.bind_some]
   rw [if_pos ⟨Nat.ble_eq ▸ hro u hp,by omega⟩]
   rw [List.drop_zero,Nat.mul_one,List.take_of_length_le (by omega),jfz]
   rfl
  have ho:jr st true 0 (.osl (2 * u+1) u 0 T.length 1)=some (.sl (some (0,1)) false T.length (T.flatMap intC)):=by
   simp only [jr,hs,Option.bind_some,hoc,Option.map_some]
   have hb:(true && Nat.beq 0 0 && Nat.blt 0 T.length && Nat.beq (T.length * 1) (T.flatMap intC).length)=true:=by
    rw [hlen,Nat.mul_one,Nat.beq_refl,Nat.beq_refl]
    simp
    exact hpos
   rw [hb]
   rfl
  have hto:XM st true 0 (.osl (2 * u+1) u 0 T.length 1)=some (.sl (some (0,1)) false T.length (T.flatMap intC)):=ho
  have hr:[ARes.t n].mapM (jm st)=some [.osl (2 * u+1) u 0 T.length 1]:=by simp [jm,hv]
  simp only [ja3,YW hd,YO hd,if_true,hr,Option.bind_some,Yh]
  have hn:nodup ([V.osl (2 * u+1) u 0 T.length 1].flatMap V.toks)=true:=rfl
  rw [hn]
  simp only [JD,hto,Option.bind_some,Option.map_some]
  rw [jpd,hemp]
  rfl
theorem jgp {E:Env} {Yf:YF} {st:St} {ub:Nat} {K:St→Nat→Prop} {d:Option Nat} {p:Nat→Prop} {l:List Int} {z:Int} {v:V} {s x:A} {X uX:Nat} (hs:eval E st.tm s=v) (hv:IntsO st.ob p l v) (hx:eval E st.tm x = .osl X uX 0 1 1) (hX:st.ob X=some ⟨uX,.cells [.int .i64 z]⟩) (hro:∀ u,p u→st.ro≤u) (hl:l.length≤1000)
 (h:∀ kl:List Nat,(∀ k∈kl,∃ u,p u∧k=2 * u+1)→QP K st d ub { v:=.osl (2 * ub+1) ub 0 (l++[z]).length 1,obs:=[(2 * ub+1,⟨ub,.cells ((l++[z]).flatMap intC)⟩)],kill:=kl }) :
 j9 E Yf ⟨d,.append true 1 8 s x,none,true⟩ st ub K:=by
 have hsc:jM st.ob 1 (eval E st.tm x)=some [.int .i64 z]:=by
  rw [hx]
  simp [jM,j1,hX]
 rcases hv with ⟨rfl,rfl⟩ | ⟨hne,u,rfl,hob,hp⟩
 ·refine QW hs hsc (by simp) (by decide) rfl (by simp) (by simp) ?_
  simpa [intC,jP] using h [] (by simp)
 ·have hlen:(l.flatMap intC).length=l.length:=by rw [jA jF];omega
  refine QE (cs:=l.flatMap intC) hs hsc hob (by simp) (hro u hp) (by omega) (by decide) rfl (by simp;omega) (by simp;omega) ?_
  have:=h [2 * u+1] (by simp;exact ⟨u,hp,rfl⟩)
  rw [Nat.mul_one,List.take_of_length_le (by omega)]
  simpa [intC,jP] using this
def QQ (o:Op') (v:Val'):Bool:=o.v.kind == 2 || (v.kind == o.v.kind && v.n == o.v.n)
def js (o:Op'):List Int:=if o.v.kind=1 then [] else [-1]
def ofL (g:Hist') (a:Int) (o:Op'):List Int:=js o++(writersH g o.key).filter fun i=>!(i == a) && QQ o (XP g o.key i)
def ofH (g:Hist') (a b:Int):List Int:=match opAt g a b with
 | some o=>if o.w then [] else ofL g a o
 | none=>[]
theorem jnx (g:Hist') (k:Int):(writersH g k).Pairwise (· < ·)∧∀ x∈writersH g k,0≤x:=by
 have:=W2 (p:=wrB k) (ts:=g.ts) g.ts.length (Nat.le_refl _)
 exact ⟨this.2,fun x hx=>(this.1 x hx).1⟩
theorem joy (g:Hist') (a:Int) (o:Op'):(ofL g a o).Pairwise (·≤·):=by
 have h:=jnx g o.key
 unfold ofL js
 rw [List.pairwise_append]
 refine ⟨?_,?_,?_⟩
 ·split <;> simp
 ·exact ((h.1.imp (fun h=>Int.le_of_lt h)).filter _)
 ·intro x hx y hy
  have hy':=h.2 y (List.mem_filter.1 hy).1
  split at hx
  ·cases hx
  ·rw [List.mem_singleton] at hx;omega
theorem jdb (g:Hist') (k:Int):(writersH g k).length≤g.ts.length:=by
 unfold writersH
 exact JF (wrB k) g.ts g.ts.length
theorem j0s {g:Hist'} (hm:g.ts.length≤40) (a:Int) (o:Op'):(ofL g a o).length≤41:=by
 unfold ofL js
 rw [List.length_append]
 have h1:=List.length_filter_le (fun i=>!(i == a) && QQ o (XP g o.key i)) (writersH g o.key)
 have h2:=jdb g o.key
 split <;> simp <;> omega
theorem jsd {g:Hist'} (hm:X9 g=true):g.ts.length≤40:=by
 unfold X9 Xt at hm
 simp only [Bool.and_eq_true,decide_eq_true_eq] at hm
 exact hm.1.2.2.2.2
def Xn (o:Op') (P:List (Int × Val')):List Int:=(P.filter fun p=>QQ o p.2).map (·.1)
theorem jk4 {g:Hist'} {a:Int} {o:Op'} {P:List (Int × Val')} (h:P.Perm (JX g a o.key (writersH g o.key))):(js o++Xn o P).Perm (ofL g a o):=by
 unfold ofL
 refine List.Perm.append_left _ ?_
 have h2:(Xn o P).Perm (Xn o (JX g a o.key (writersH g o.key))):=(h.filter _).map _
 refine h2.trans ?_
 have e:Xn o (JX g a o.key (writersH g o.key))=(writersH g o.key).filter fun i=>!(i == a) && QQ o (XP g o.key i):=by
  unfold Xn JX
  rw [List.filter_map,List.map_map,List.filter_filter]
  have:((fun x:Int × Val'=>x.1) ∘ fun i=>(i,XP g o.key i))=id:=rfl
  rw [this,List.map_id]
  congr 1
  funext i
  simp only [Function.comp,Bool.and_comm]
 rw [e]
theorem jxx {m:List (Int × Val')} {A B:List (V × V)} {k v:V} (h:MP valV m=A++(k,v)::B):∃ A' p B',m=A'++p::B'∧A=MP valV A'∧B=MP valV B'∧k = .int .i64 p.1∧v=valV p.2:=by
 unfold MP at h
 obtain ⟨A',C,e1,e2,e3⟩:=List.map_eq_append_iff.1 h
 obtain ⟨p,B',e4,e5,e6⟩:=List.map_eq_cons_iff.1 e3
 subst e4
 have:=Prod.mk.inj e5
 exact ⟨A',p,B',e1,e2.symm,e6.symm,this.1.symm,this.2.symm⟩
theorem jy4 (a b:List (Int × Val')):MP valV a++MP valV b=MP valV (a++b):=by simp [MP]
theorem jyi {x:Nat} (h:640≤x):¬ 2 * x=1152:=by omega
theorem ev217 {g:Hist'} (hs:Small g) (a b:Int):Ev E 217 [.agg (j2 g),.agg (jG (a,b))] (jpd (ofH g a b)):=by
 have e74:=ev254 hs a b
 refine jT (af:=F217) rfl ?_
 unfold ofH
 cases hop:opAt g a b with
 | none =>
  rw [hop] at e74
  simp [F217,j2,j1,jG]
  refine jV e74 (by simp [j2,jG]) rfl (by simp [j2,jG]) ?_
  rw [JH (by simp [V.plain,opC])]
  simp [j7,opC,op0,j1]
  exact jau (p:=fun _=>True) (by simp) rfl (Or.inl ⟨rfl,by simp⟩) (by simp)
 | some o =>
  rw [hop] at e74
  simp only [Option.getD_some,Option.any_some] at e74
  have hmay:X9 g=true:=by
   unfold opAt at hop
   cases hm:X9 g
   ·rw [hm] at hop;cases hop
   ·rfl
  have hts:=jsd hmay
  simp [F217,j2,j1,jG]
  refine jV e74 (by simp [j2,jG]) rfl (by simp [j2,jG]) ?_
  rw [JH (by simp [V.plain,opC])]
  cases hw:o.w
  ·simp [j7,opC,j1]
   generalize hK:jlk E noYF _ (jym _ _)=K
   have rest:∀ (s:St) (v:V),s.tm 2 = .ptr 1 0 0→s.tm 3 = .ptr 129 64 0→s.tm 5 = .ptr 1153 576 0→s.ob 1=some ⟨0,.cells (j2 g)⟩→s.ob 129=some ⟨64,.cells [.int .i64 a,.int .i64 b]⟩→s.ob 1153=some ⟨576,.cells (opC o)⟩ →
    s.tm 7=v→IntsO s.ob (fun u=>640≤u∧u<s.nx) (js o) v→s.df=[]→s.ro=0→640≤s.nx→K .nrm s:=by
    intro s v h2 h3 h5 o1 o3 o5 h7 hv hd hr hn
    rw [← hK]
    clear hK
    simp [h2,h3,h5,o1,o3,o5,j1,opC,j2]
    refine Y7 (vs:=[.agg (j2 g),.int .i64 a,.int .i64 o.key]) (by simp [j2]) rfl (sv255 hs hmay a o.key (by simp [hr])) ?_
    rintro w ob1 tk1 ub1 ⟨M,U,ver,e1,e2,e3,e4,e5,e6,e7⟩
    simp only at e1 e3 e5 e6 e7
    subst e1
    simp
    refine jen (l:=2 * M+1) (u:=U) (ver:=ver) (by simp) (by simpa using e5) ?_
    simp
    refine JV fun st hst=>?_
    have hub0:640≤ub1:=by first | omega | (simp at e7;omega)
    have hM0:640≤M:=by first | omega | (simp at e2;omega)
    obtain ⟨OTH,hOTH⟩:∃ l,JX g a o.key (writersH g o.key)=l:=⟨_,rfl⟩
    rw [hOTH] at e5 hst
    have hfr:∀ k,(∀ m,s.nx≤m→k≠2 * m+1)→ob1 k=s.ob k:=fun k hk=>(e6 k (fun m hm=>hk m (by first | omega | (simp at hm;omega)))).trans (by simp)
    have hMs:s.nx≤M:=by first | omega | (simp at e2;omega)
    have g5:st.tm 5 = .ptr 1153 576 0:=by rw [hst];simp [h5]
    have g7:st.tm 7=v:=by rw [hst];simp [h7]
    have g31:st.tm 31 = .iter (2 * ub1+1) ub1:=by rw [hst];simp
    have gd:st.df=[]:=by rw [hst];simp [hd]
    have gr:st.ro=0:=by rw [hst];simp [hr]
    have gn:ub1<st.nx:=by rw [hst];simp
    have gf:∀ k,k≠2 * ub1+1→st.ob k=ob1 k:=by
     intro k hk
     rw [hst];simp [hk]
    have pi:st.ob (2 * ub1+1)=some ⟨ub1,.miter (2 * M+1) U ver (MP valV OTH) none⟩:=by rw [hst];simp
    have pm:st.ob (2 * M+1)=some ⟨U,.mp ver (MP valV OTH)⟩:=(gf _ (by omega)).trans e5
    have p5:st.ob 1153=some ⟨576,.cells (opC o)⟩:=(gf _ (by omega)).trans ((hfr _ (fun m hm=>by omega)).trans o5)
    have pv:IntsO st.ob (fun u=>640≤u∧u≠M∧u≠ub1∧u<st.nx) (js o++Xn o []) v:=by
     rw [show Xn o []=[] from rfl,List.append_nil]
     refine hv.frame (fun u hu=>?_) (fun u hu=>⟨hu.1,by omega,by first | omega | (simp at e7;omega),by first | omega | (simp at e7;omega)⟩)
     exact (gf _ (by first | omega | (simp at e7;omega))).trans (hfr _ (fun m hm=>by omega))
    clear hst e6 e5 hfr
    obtain ⟨J,hJ⟩:∃ J:Nat→St→Prop,J=fun n s=>∃ (P m':List (Int × Val')) (v:V) (last:Option (V × V)),n=m'.length∧(P++m').Perm OTH∧s.tm 7=v∧IntsO s.ob (fun u=>640≤u∧u≠M∧u≠ub1∧u<s.nx) (js o++Xn o P) v ∧
     s.ob (2 * ub1+1)=some ⟨ub1,.miter (2 * M+1) U ver (MP valV m') last⟩∧s.ob (2 * M+1)=some ⟨U,.mp ver (MP valV OTH)⟩∧s.ob 1153=some ⟨576,.cells (opC o)⟩∧ub1<s.nx:=⟨_,rfl⟩
    refine Y3 (n:=OTH.length) [(7,9),(32,50)] J rfl rfl (by rw [hJ];exact ⟨[],OTH,v,none,rfl,by simp,g7,pv,pi,pm,p5,gn⟩) ?_
    clear h7 hv g7 pv pi pm p5 gn v
    intro n s hJs f
    rw [hJ] at hJs
    obtain ⟨P,m',v,last,rfl,hperm,h7,hv,oi,om,o5',hn1⟩:=hJs
    have f5:s.tm 5 = .ptr 1153 576 0:=by rw [f.t 5 (by simp)];exact g5
    have f31:s.tm 31 = .iter (2 * ub1+1) ub1:=by rw [f.t 31 (by simp)];exact g31
    have fd:s.df=[]:=by rw [f.d];exact gd
    have fr:s.ro=0:=by rw [f.r];exact gr
    clear f
    have hPl:(P++m').length≤40:=by
     rw [hperm.length_eq,← hOTH]
     unfold JX
     rw [List.length_map]
     have:=List.length_filter_le (fun i=>!(i == a)) (writersH g o.key)
     have:=jdb g o.key
     omega
    rw [List.length_append] at hPl
    have hpl:(Xn o P).length≤P.length:=by
     unfold Xn
     rw [List.length_map]
     exact List.length_filter_le _ _
    have hsl:(js o).length≤1:=by unfold js;split <;> simp
    simp
    refine jgo (l:=2 * ub1+1) (u:=ub1) (l':=2 * M+1) (u':=U) (ver:=ver) (es:=MP valV OTH) (left:=MP valV m') (by simp [f31]) oi om (by simp [fr]) ?_ ?_
    ·intro hemp
     have hm0:m'=[]:=by
      unfold MP at hemp
      exact List.map_eq_nil_iff.1 hemp
     subst hm0
     rw [List.append_nil] at hperm
     have hpp:=jk4 (g:=g) (a:=a) (o:=o) (P:=P) (by rw [hOTH];exact hperm)
     have hlen:=hpp.length_eq
     simp [h7]
     rcases hv with ⟨hnil,rfl⟩ | ⟨hne,u,rfl,hob,hu⟩
     ·rw [hnil] at hpp
      have hT:ofL g a o=[]:=List.perm_nil.1 hpp.symm
      refine Y7 (vs:=[.sl none true 0 []]) (by simp) rfl j3v ?_
      rintro w ob2 tk2 ub2 ⟨q1,q2,q3⟩
      simp [h7]
      exact jau (p:=fun _=>True) (by simp [fd]) rfl (Or.inl ⟨hT,by simp⟩) (by simp [fr])
     ·refine Y7 (vs:=[.osl (2 * u+1) u 0 (js o++Xn o P).length 1]) (by simp) rfl (sv69 hpp (joy g a o) (by rw [List.length_append];omega) (by simpa using hob) (by simp [fr]) (fun m hm=>by have:=hu.2.2.2;first | omega | (simp at hm;omega)) (by simp [fr])) ?_
      rintro w ob2 tk2 ub2 hat
      simp only at hat
      simp [h7]
      refine jau (p:=fun _=>True) (by simp [fd]) rfl (Or.inr ⟨?_,u,?_,by simpa using hat.1,trivial⟩) (by simp [fr])
      ·intro hT
       rw [hT] at hpp
       exact hne (List.perm_nil.1 hpp)
      ·rw [← hlen];simp
    ·intro A k w B hsp
     obtain ⟨A',q,B',rfl,rfl,rfl,rfl,rfl⟩:=jxx hsp
     have hperm':((P++[q])++(A'++B')).Perm OTH:=by
      refine List.Perm.trans ?_ hperm
      rw [List.append_assoc]
      exact List.Perm.append_left _ (by simpa using List.perm_middle.symm)
     have nM:¬ 2 * M+1=2 * ub1+1:=by omega
     simp
     refine jnd (l:=2 * ub1+1) (u:=ub1) (l':=2 * M+1) (u':=U) (ver:=ver) (es:=MP valV OTH) (left:=MP valV A'++MP valV B') (k:=.int .i64 q.1) (v:=valV q.2) (by simp [f31]) (by simp) (by simp [show ¬ 2 * M=2 * ub1 by omega,om]) ?_
     have n5:¬ 1153=2 * ub1+1:=by omega
     simp [valV,J1,j7,fr,j1]
     generalize hK2:jlk E noYF (C.cond _ _ _) _=K2
     have restF:∀ (s1:St) (fit:Bool),fit=QQ o q.2→s1.tm 46 = .bool fit→s1.tm 7=v→s1.tm 8 = .int .i64 q.1→IntsO s1.ob (fun u=>640≤u∧u≠M∧u≠ub1∧u<s1.nx) (js o++Xn o P) v →
      s1.ob (2 * ub1+1)=some ⟨ub1,.miter (2 * M+1) U ver (MP valV (A'++B')) (some (.int .i64 q.1,valV q.2))⟩→s1.ob (2 * M+1)=some ⟨U,.mp ver (MP valV OTH)⟩→s1.ob 1153=some ⟨576,.cells (opC o)⟩→ub1<s1.nx→s1.df=[]→s1.ro=0→K2 .nrm s1:=by
      intro s1 fit hfit h46 h7 h8 hv oi om o5 hn hd hr
      rw [← hK2]
      have hpk:Xn o (P++[q])=Xn o P++(if fit then [q.1] else []):=by
       unfold Xn
       rw [List.filter_append,List.map_append,hfit]
       cases hf:QQ o q.2 <;> simp [hf]
      have hml:(A'++B').length<(A'++q::B').length:=by simp
      cases fit
      ·simp only [Bool.false_eq_true,if_false,List.append_nil] at hpk
       simp [h46]
       exact ⟨(A'++B').length,by first | omega | (simp;done) | (simp;omega),by rw [hJ];exact ⟨P++[q],A'++B',v,some (.int .i64 q.1,valV q.2),rfl,hperm',by simp [h7],by rw [hpk];exact hv.frame (fun u _=>by simp) (fun u hu=>⟨hu.1,hu.2.1,hu.2.2.1,by have:=hu.2.2.2;first | omega | (simp;omega)⟩),by simp [oi],by simp [om],by simp [o5],by first | omega | (simp;omega)⟩⟩
      ·simp only [if_true] at hpk
       simp [h46,h7,h8]
       refine YQ (cs:=[.int .i64 q.1]) (by simp [j7]) rfl rfl ?_
       simp
       refine jgp (p:=fun u=>640≤u∧u≠M∧u≠ub1∧u<s1.nx) (l:=js o++Xn o P) (z:=q.1) (v:=v) (X:=2 * (s1.nx+64+64)+1) (uX:=s1.nx+64+64) (by simp) (hv.frame (fun u hu=>?_) (fun _ h=>h)) (by simp) (by simp) (by simp [hr]) (by rw [List.length_append];simp at hPl;omega) (fun kl hkl=>?_)
       ·have:¬ 2 * u=2 * (s1.nx+64+64):=by have:=hu.2.2.2;omega
        simp [this]
       have nk:∀ z:Nat,(∀ u,640≤u→u≠M→u≠ub1→z≠2 * u+1)→z ∉ kl:=fun z hz hm=>by
        obtain ⟨u,hu,e⟩:=hkl z hm
        exact hz u hu.1 hu.2.1 hu.2.2.1 e
       have k1:=nk (2 * ub1+1) (fun u _ _ h e=>h (by omega))
       have k2:=nk (2 * M+1) (fun u _ h _ e=>h (by omega))
       have k3:=nk 1153 (fun u h _ _ e=>by omega)
       obtain ⟨Z,hZ⟩:∃ Z,s1.nx+64+64+64=Z:=⟨_,rfl⟩
       have d1:¬ 2 * ub1+1=2 * Z+1:=by omega
       have d2:¬ 2 * M+1=2 * Z+1:=by omega
       have d3:¬ 1153=2 * Z+1:=by omega
       have b1:¬ 2 * ub1+1=2 * (s1.nx+64+64)+1:=by omega
       have b2:¬ 2 * M+1=2 * (s1.nx+64+64)+1:=by omega
       have b3:¬ 1153=2 * (s1.nx+64+64)+1:=by omega
       have hnx:∀ X:Prop,X→X:=fun _ h=>h
       simp only [hZ]
       simp
       refine ⟨(A'++B').length,by first | omega | (simp;done) | (simp;omega),?_⟩
       rw [hJ]
       refine ⟨P++[q],A'++B',.osl (2 * Z+1) Z 0 (js o++Xn o (P++[q])).length 1,some (.int .i64 q.1,valV q.2),rfl,hperm',by simp [hpk],Or.inr ⟨by rw [hpk];simp,Z,rfl,?_,by omega,by omega,by omega,?_⟩,?_,?_,?_,?_⟩
       ·simp only [JA,YK]
        rw [jt2,if_pos rfl,hpk]
        simp
       ·first | omega | (simp;done) | (simp;omega)
       ·simp only [JA,YK]
        rw [jh2 _ _ _ _ _ _ _ k1,if_neg d1]
        simp only [Jr,YK,if_neg b1]
        exact oi
       ·simp only [JA,YK]
        rw [jh2 _ _ _ _ _ _ _ k2,if_neg d2]
        simp only [Jr,YK,if_neg b2]
        exact om
       ·simp only [JA,YK]
        rw [jh2 _ _ _ _ _ _ _ k3,if_neg d3]
        simp only [Jr,YK,if_neg b3]
        exact o5
       ·first | omega | (simp;done) | (simp;omega)
     clear hK2
     have c1:¬ 2 * ub1=2 * (s.nx+64+64+64+64+64):=by omega
     have c2:¬ 2 * M=2 * (s.nx+64+64+64+64+64):=by omega
     have c3:¬ 2 * M=2 * ub1:=by omega
     have hsn:640≤s.nx+64+64+64+64+64:=Nat.le_trans (Nat.le_trans hub0 (Nat.le_of_lt hn1)) (by simp [Nat.add_assoc])
     have nq:=jyi hsn
     have n5':=jyi hub0
     cases hk2:(o.v.kind == 2)
     ·simp [f5,o5',j1,opC,n5,nq,hk2]
      refine restF _ (q.2.kind == o.v.kind && q.2.n == o.v.n) (by unfold QQ;rw [hk2];rfl) (by simp) (by simp [h7]) (by simp) (hv.frame (fun u hu=>?_) (fun u hu=>⟨hu.1,hu.2.1,hu.2.2.1,by have:=hu.2.2.2;first | omega | (simp;omega)⟩)) (by simp [c1,jy4,valV,J1]) (by simp [c2,c3,om]) (by simp [nq,n5',o5',opC]) (by first | omega | (simp;omega)) (by simp [fd]) (by simp [fr])
      have a1:¬ 2 * u=2 * (s.nx+64+64+64+64+64):=by have:=hu.2.2.2;omega
      have a2:¬ 2 * u=2 * ub1:=by have:=hu.2.2.1;omega
      simp [a1,a2]
     ·simp [f5,o5',j1,opC,n5,nq,hk2]
      refine restF _ true (by unfold QQ;rw [hk2];rfl) (by simp) (by simp [h7]) (by simp) (hv.frame (fun u hu=>?_) (fun u hu=>⟨hu.1,hu.2.1,hu.2.2.1,by have:=hu.2.2.2;first | omega | (simp;omega)⟩)) (by simp [c1,jy4,valV,J1]) (by simp [c2,c3,om]) (by simp [nq,n5',o5',opC]) (by first | omega | (simp;omega)) (by simp [fd]) (by simp [fr])
      have a1:¬ 2 * u=2 * (s.nx+64+64+64+64+64):=by have:=hu.2.2.2;omega
      have a2:¬ 2 * u=2 * ub1:=by have:=hu.2.2.1;omega
      simp [a1,a2]
   clear hK
   refine j1d fun st hst=>?_
   have g2:st.tm 2 = .ptr 1 0 0:=by rw [hst];simp
   have g3:st.tm 3 = .ptr 129 64 0:=by rw [hst];simp
   have g5:st.tm 5 = .ptr 1153 576 0:=by rw [hst];simp
   have g7:st.tm 7 = .sl none true 0 []:=by rw [hst];simp
   have p1:st.ob 1=some ⟨0,.cells (j2 g)⟩:=by rw [hst];simp [j2]
   have p3:st.ob 129=some ⟨64,.cells [.int .i64 a,.int .i64 b]⟩:=by rw [hst];simp
   have p5:st.ob 1153=some ⟨576,.cells (opC o)⟩:=by rw [hst];simp [opC,hw]
   have gd:st.df=[]:=by rw [hst];simp
   have gr:st.ro=0:=by rw [hst];simp
   have gn:640≤st.nx:=by rw [hst];simp
   clear hst
   cases hk1:(o.v.kind != 1)
   ·have hk:o.v.kind=1:=by simpa using hk1
    simp
    exact rest _ _ g2 g3 g5 p1 p3 p5 g7 (Or.inl ⟨by simp [js,hk],rfl⟩) gd gr gn
   ·have hk:¬ o.v.kind=1:=by simpa using hk1
    simp [g7]
    refine YQ (cs:=[.int .i64 (-1)]) (by simp [j7]) rfl rfl ?_
    simp
    refine jgp (p:=fun _=>False) (l:=[]) (z:=-1) (v:=.sl none true 0 []) (X:=2 * (st.nx+64)+1) (uX:=st.nx+64) (by simp) (Or.inl ⟨rfl,rfl⟩) (by simp) (by simp) (fun _ h=>h.elim) (by simp) (fun kl hkl=>?_)
    have hkl0:kl=[]:=by
     cases kl with
     | nil=>rfl
     | cons k _=>obtain ⟨_,h,_⟩:=hkl k (by simp);exact h.elim
    subst hkl0
    have n1:¬ 1=2 * (st.nx+64+64)+1:=by omega
    have n1':¬ 1=2 * (st.nx+64)+1:=by omega
    have n3:¬ 129=2 * (st.nx+64+64)+1:=by omega
    have n3':¬ 129=2 * (st.nx+64)+1:=by omega
    have n5:¬ 1153=2 * (st.nx+64+64)+1:=by omega
    have n5':¬ 1153=2 * (st.nx+64)+1:=by omega
    simp
    refine rest _ (.osl (2 * (st.nx+64+64)+1) (st.nx+64+64) 0 1 1) (by simp [g2]) (by simp [g3]) (by simp [g5]) ?_ ?_ ?_ (by simp) (Or.inr ⟨by simp [js,hk],st.nx+64+64,by simp [js,hk],by simp [js,hk,intC],by omega,by simp⟩) (by simp [gd]) (by simp [gr]) (by simp;omega)
    ·simp only [JA,YK,Jr,if_neg n1,if_neg n1'];exact p1
    ·simp only [JA,YK,Jr,if_neg n3,if_neg n3'];exact p3
    ·simp only [JA,YK,Jr,if_neg n5,if_neg n5'];exact p5
  ·simp [j7,opC,j1]
   exact jau (p:=fun _=>True) (by simp) rfl (Or.inl ⟨rfl,by simp⟩) (by simp)
theorem ev175 {h:Hist'} (hs:Small h) (a b:Int):Ev E 175 [.agg (j2 h),.agg (jG (a,b))] (.bool ((opAt h a b).any fun o=>!o.w)):=by
 have e32:=j87 hs
 have hts:=hs.ts
 refine jT (af:=F175) rfl ?_
 obtain ⟨R,hR⟩:∃ R,opAt h a b=R:=⟨_,rfl⟩
 rw [hR]
 unfold opAt at hR
 simp [F175,j2,j1,jG]
 refine J0 e32 (by simp [j2]) rfl (by simp [j2]) ?_
 cases hm:X9 h
 ·rw [Wp hm]
  rw [hm] at hR
  subst hR
  simp
  exact j3 (by simp) (by simp) rfl
 rw [hm] at hR
 rw [YP hm]
 by_cases k1n:a<0
 ·have k1:¬ 0≤a:=by omega
  rw [if_neg (by simp;omega)] at hR
  subst hR
  simp [k1,j1]
  exact j3 (by simp) (by simp) rfl
 have k1:0≤a:=by omega
 by_cases k2n:(h.ts.length:Int)≤a
 ·have k2:¬ (a<(h.ts.length:Int)):=by omega
  rw [if_neg (by simp;omega)] at hR
  subst hR
  simp [k1,k2,j1]
  exact j3 (by simp) (by simp) rfl
 have k2:a<(h.ts.length:Int):=by omega
 by_cases k3n:b<0
 ·have k3:¬ 0≤b:=by omega
  rw [if_neg (by simp;omega)] at hR
  subst hR
  simp [k1,k2,k3,j1]
  exact j3 (by simp) (by simp) rfl
 have k3:0≤b:=by omega
 obtain ⟨i,rfl⟩:∃ i:Nat,a=i:=⟨a.toNat,by omega⟩
 have hi:i<h.ts.length:=by omega
 rw [Int.toNat_natCast,jn hi] at hR
 obtain ⟨t,ht⟩:∃ t,h.ts[i]=t:=⟨_,rfl⟩
 rw [ht] at hR
 have hl3:(h.ts.flatMap ji)[i * 3+2]? = some (jI t.nl opC t.ops):=by
  rw [jb j8 h.ts hi (by decide:2<3),ht];rfl
 by_cases k4n:(t.ops.length:Int)≤b
 ·have k4:¬ (b<(t.ops.length:Int)):=by omega
  rw [if_neg (by simp;omega)] at hR
  subst hR
  simp [k1,k2,k3,k4,j1,hi,j5 j8,hl3]
  exact j3 (by simp) (by simp) rfl
 have k4:b<(t.ops.length:Int):=by omega
 obtain ⟨j,rfl⟩:∃ j:Nat,b=j:=⟨b.toNat,by omega⟩
 have hj:j<t.ops.length:=by omega
 rw [if_pos (by simp;omega),Int.toNat_natCast,List.getElem?_eq_getElem hj] at hR
 obtain ⟨o,ho⟩:∃ o,t.ops[j]=o:=⟨_,rfl⟩
 rw [ho] at hR
 subst hR
 have a0:(t.ops.flatMap opC)[j * 4]? = some (.bool o.w):=by
  have:=jb jH t.ops hj (by decide:0<4)
  rw [Nat.add_zero,ho] at this
  rw [this];rfl
 simp [k1,k2,k3,k4,j1,hi,j5 j8,hl3]
 simp [hj,j5 jH,a0]
 exact j3 (by simp) (by simp) rfl
def jqs (o:Op') (a:Int) (i:Nat) (t:Txn'):Bool:=(!((i:Int) == a) && (t.f != 2)) && ((jq o.key t.ops t.ops.length).2 && QQ o (jq o.key t.ops t.ops.length).1)
def Xm (ts:List Txn') (a:Int) (o:Op'):Nat→List Int
 | 0=>js o
 | i+1=>Xm ts a o i++(match ts[i]? with | some t=>if jqs o a i t then [(i:Int)] else [] | none=>[])
theorem jf4 {ts:List Txn'} {a:Int} {o:Op'} {i:Nat} (h:i<ts.length):Xm ts a o (i+1)=Xm ts a o i++(if jqs o a i ts[i] then [(i:Int)] else []):=by
 simp [Xm,List.getElem?_eq_getElem h]
theorem jis (ts:List Txn') (a:Int) (o:Op'):∀ i,(Xm ts a o i).length≤i+1
 | 0=>by unfold Xm js;split <;> simp
 | i+1=>by
  have:=jis ts a o i
  simp only [Xm,List.length_append]
  split
  ·split <;> simp <;> omega
  ·simp;omega
theorem jbq {g:Hist'} (hm:X9 g=true) (key:Int) {i:Nat} (h:i<g.ts.length):XP g key i=(jq key g.ts[i].ops g.ts[i].ops.length).1:=by
 unfold XP Y6 JE
 rw [hm,if_pos (by simp;omega)]
 simp only [Int.toNat_natCast]
 rw [jn h]
theorem jmr {g:Hist'} (hm:X9 g=true) (a:Int) (o:Op'):∀ i,i≤g.ts.length→Xm g.ts a o i=js o++(numsTo (wrB o.key) g.ts i).filter fun i=>!(i == a) && QQ o (XP g o.key i)
 | 0,_=>by simp [Xm,numsTo]
 | i+1,h=>by
  rw [jf4 (by omega),JI (by omega),List.filter_append,jmr hm a o i (by omega),List.append_assoc]
  congr 2
  have hr:=Wl o.key (g.ts[i]).ops (g.ts[i]).ops.length (Nat.le_refl _)
  rw [List.take_length] at hr
  have hl:=jbq hm o.key (show i<g.ts.length by omega)
  unfold jqs wrB
  rw [hr]
  cases h1:(g.ts[i].ops.any (wkB o.key)) <;> cases h2:(g.ts[i].f != 2) <;> cases h3:((i:Int) == a) <;> simp [List.filter_cons,h3,hl]
theorem jq0 {g:Hist'} (hm:X9 g=true) (a:Int) (o:Op'):Xm g.ts a o g.ts.length=ofL g a o:=jmr hm a o _ (Nat.le_refl _)
theorem jam {g:Hist'} {a b:Int} {o:Op'} (h:opAt g a b=some o):∃ i j:Nat,a=i∧b=j∧∃ (hi:i<g.ts.length) (hj:j<(g.ts[i]).ops.length),(g.ts[i]).ops[j]=o:=by
 unfold opAt at h
 by_cases hc:(X9 g && (decide (0≤a) && (decide (a<g.ts.length) && (decide (0≤b) && decide (b<((g.ts.getD a.toNat ⟨0,0,true,[]⟩).ops.length:Nat))))))=true
 ·rw [if_pos hc] at h
  simp only [Bool.and_eq_true,decide_eq_true_eq] at hc
  obtain ⟨_,h1,h2,h3,h4⟩:=hc
  obtain ⟨i,rfl⟩:∃ i:Nat,a=i:=⟨a.toNat,by omega⟩
  obtain ⟨j,rfl⟩:∃ j:Nat,b=j:=⟨b.toNat,by omega⟩
  have hi:i<g.ts.length:=by omega
  rw [Int.toNat_natCast,jn hi] at h h4
  have hj:j<(g.ts[i]).ops.length:=by omega
  rw [Int.toNat_natCast,List.getElem?_eq_getElem hj] at h
  exact ⟨i,j,rfl,rfl,hi,hj,Option.some.inj h⟩
 ·rw [if_neg hc] at h
  cases h
theorem j9e {g:Hist'} (hs:Small g) (a b:Int):∃ v,Ev E 112 [.agg (j2 g),.agg (jG (a,b))] v∧SlR v false (ofH g a b).length ((ofH g a b).flatMap intC):=by
 have e77:=ev175 hs a b
 refine XS (af:=F112) rfl (by decide) ?_
 unfold ofH
 cases hop:opAt g a b with
 | none =>
  rw [hop] at e77
  simp [F112,j2,jG]
  refine jL (cs:=[]) rfl rfl rfl ?_
  simp [j1]
  refine jV e77 (by simp [j2,jG]) rfl (by simp [j2,jG]) ?_
  simp
  exact slE (t:=some (192,1)) (nl:=false) (k:=0) (cs:=[]) (fun r h=>h) (by simp) (by simp)
 | some o =>
  rw [hop] at e77
  simp only [Option.any_some] at e77
  have hmay:X9 g=true:=by
   unfold opAt at hop
   cases hm:X9 g
   ·rw [hm] at hop;cases hop
   ·rfl
  have hts:=jsd hmay
  simp [F112,j2,jG]
  refine jL (cs:=[]) rfl rfl rfl ?_
  simp [j1]
  refine jV e77 (by simp [j2,jG]) rfl (by simp [j2,jG]) ?_
  cases hw:o.w
  ·obtain ⟨i,j,rfl,rfl,hi,hj,ho⟩:=jam hop
   have hl3:(g.ts.flatMap ji)[i * 3+2]? = some (jI (g.ts[i]).nl opC (g.ts[i]).ops):=by
    rw [jb j8 g.ts hi (by decide:2<3)];rfl
   have hl4:=fun ob=>jX jH ob (g.ts[i]).ops hj
   rw [ho] at hl4
   simp [j1,hi,hj,j5 j8,j5 jH,hl3,hl4]
   refine ⟨by simp [opC],by simp [XI,Qo,jfh,jch,rdOb,rdTk,lOf,Delta.wo,Delta.wt,opC];try decide,?_⟩
   simp [opC]
   generalize hK:jlk E noYF _ (jep _ _)=K
   have rest:∀ (s:St) (U:Nat) (v:V),s.tm 2 = .ptr 4 0 0→s.tm 3 = .ptr 6 64 0→s.tm 6 = .ptr 12 U 0→s.ob 4=some ⟨0,.cells (j2 g)⟩→s.ob 6=some ⟨64,.cells [.int .i64 i,.int .i64 j]⟩→s.ob 12=some ⟨U,.cells (opC o)⟩ →
    s.tm 5=v→GrowT s.tk s.nx intC 1 (js o) v→s.df=[]→s.ro=0→s.fb=0→K .nrm s:=by
    intro s U v h2 h3 h6 o4 o6 o12 h5 hv hd hr hb
    rw [← hK]
    clear hK e77 hop
    simp
    generalize (i:Int)=a at *
    refine jE [(5,5),(7,9),(34,90)] g.ts.length (fun n s=>s.tm 7 = .int .i64 n∧s.ob 4=some ⟨0,.cells (j2 g)⟩∧s.ob 6=some ⟨64,.cells [.int .i64 a,.int .i64 j]⟩∧s.ob 12=some ⟨U,.cells (opC o)⟩∧GrowT s.tk s.nx intC 1 (Xm g.ts a o n) (s.tm 5)) rfl rfl ⟨by simp,by simp [o4],by simp [o6],by simp [o12],by rw [Xm];simp [h5];exact hv.mono (fun _ _ h=>h) (by omega)⟩ ?_
    rintro n s' hn ⟨h7,o4,o6,o12,hG⟩ f
    have f2:s'.tm 2 = .ptr 4 0 0:=by rw [f.t 2 (by simp)];simp [h2]
    have f3:s'.tm 3 = .ptr 6 64 0:=by rw [f.t 3 (by simp)];simp [h3]
    have f6:s'.tm 6 = .ptr 12 U 0:=by rw [f.t 6 (by simp)];simp [h6]
    have fd:s'.df=[]:=by rw [f.d];simp [hd]
    have fb:s'.fb=0:=by rw [f.b];simp [hb]
    have fr:s'.ro=0:=by rw [f.r];simp [hr]
    clear f
    by_cases hlt:n<g.ts.length
    ·have hw:=jz hlt (by omega)
     have hsn:=jf4 (a:=a) (o:=o) hlt
     obtain ⟨t,ht⟩:∃ t,g.ts[n]=t:=⟨_,rfl⟩
     rw [ht] at hsn
     have hos:=hs.os t (ht ▸ List.getElem_mem hlt)
     have hll:=jis g.ts a o n
     have hff:(g.ts.flatMap ji)[n * 3+1]? = some (.int .i64 t.f):=by
      rw [jb j8 g.ts hlt (by decide:1<3),ht];rfl
     have hfo:(g.ts.flatMap ji)[n * 3+2]? = some (jI t.nl opC t.ops):=by
      rw [jb j8 g.ts hlt (by decide:2<3),ht];rfl
     have e78:=ev84 t (by omega) o.key
     simp [h7,f2,f6,o4,o12,j1,j2,opC,hlt,j5 j8,jX j8,ht,hfo]
     refine J0 e78 (by simp [ji]) rfl (by simp [ji]) ?_
     rw [JH (by simp [V.plain,J1])]
     have hsee:jqs o a n t=((!((n:Int) == a) && (t.f != 2)) && ((jq o.key t.ops t.ops.length).2 && QQ o (jq o.key t.ops t.ops.length).1)):=rfl
     generalize (jq o.key t.ops t.ops.length).1=rv at *
     generalize (jq o.key t.ops t.ops.length).2=rb at *
     have o4':s'.ob 4=some ⟨0,.cells [jI g.sn JJ g.ss,jI g.kn JJ g.ks,jI g.tn ji g.ts]⟩:=o4
     have o12':s'.ob 12=some ⟨U,.cells [.bool o.w,.int .i64 o.key,.int .i64 o.v.kind,.int .i64 o.v.n]⟩:=o12
     have skip:jqs o a n t=false→Xm g.ts a o (n+1)=Xm g.ts a o n:=fun h=>by rw [hsn,h];simp
     simp [J1,j1,fb,fr,j7,f3,o6,h7]
     refine ⟨by simp [XI,Qo,jfh,jch,rdOb,rdTk,lOf,Delta.wo,Delta.wt];try decide,?_⟩
     cases h1:((n:Int) != a)
     ·have h1b:((n:Int) == a)=true:=by simpa [bne] using h1
      have hsk:=skip (by rw [hsee,h1b];rfl)
      simp [o4',o6,o12',h7,hw,hlt]
      rw [hsk];exact hG.mono (fun u _ h=>by simpa [jo] using h) (by omega)
     have h1b:((n:Int) == a)=false:=by simpa [bne] using h1
     cases h2:(t.f != 2)
     ·have hsk:=skip (by rw [hsee,h1b,h2];rfl)
      simp [h2,f2,o4',o6,o12',h7,hw,j1,hlt,j5 j8,hff]
      rw [hsk];exact hG.mono (fun u _ h=>by simpa [jo] using h) (by omega)
     cases rb
     ·have hsk:=skip (by rw [hsee,h1b,h2];rfl)
      simp [h2,f2,o4',o6,o12',h7,hw,j1,hlt,j5 j8,hff]
      rw [hsk];exact hG.mono (fun u _ h=>by simpa [jo] using h) (by omega)
     cases h4:(o.v.kind == 2)
     ·cases h5:(rv.kind == o.v.kind && rv.n == o.v.n)
      ·have hsk:=skip (by rw [hsee,h1b,h2];unfold QQ;rw [h4,h5];rfl)
       simp [h2,h4,h5,f2,f6,o4',o6,o12',h7,hw,j1,hlt,j5 j8,hff]
       rw [hsk];exact hG.mono (fun u _ h=>by simpa [jo] using h) (by omega)
      ·have h3f:QQ o rv=true:=by unfold QQ;rw [h4,h5];rfl
       have hsn2:Xm g.ts a o (n+1)=Xm g.ts a o n++[(n:Int)]:=by rw [hsn,hsee];simp [h1b,h2,h3f]
       simp [h2,h4,h5,f2,f6,o4',o12',h7,j1,hlt,j5 j8,hff]
       refine jL (cs:=[.int .i64 n]) (by simp [j7]) rfl rfl ?_
       simp
       refine XZ (f:=intC) (hi:=s'.nx) (l:=Xm g.ts a o n) (a:=(n:Int)) (v:=s'.tm 5) (hG.mono (fun u _ h=>by simp [jl,h]) (Nat.le_refl _)) (by simp) (by simp [jM,intC]) jF (by decide) rfl (by omega) (by omega) (fun del hdel=>?_)
       have hlen:(Xm g.ts a o n).length+1=(Xm g.ts a o (n+1)).length:=by rw [hsn2];simp
       rw [← hsn2,hlen]
       simp [h7,hw,o4',o6,o12']
       exact ⟨hlt,_,rfl,by simp [jl],by omega⟩
     ·have h3f:QQ o rv=true:=by unfold QQ;rw [h4];rfl
      have hsn2:Xm g.ts a o (n+1)=Xm g.ts a o n++[(n:Int)]:=by rw [hsn,hsee];simp [h1b,h2,h3f]
      simp [h2,h4,f2,f6,o4',o12',h7,j1,hlt,j5 j8,hff]
      refine jL (cs:=[.int .i64 n]) (by simp [j7]) rfl rfl ?_
      simp
      refine XZ (f:=intC) (hi:=s'.nx) (l:=Xm g.ts a o n) (a:=(n:Int)) (v:=s'.tm 5) (hG.mono (fun u _ h=>by simp [jl,h]) (Nat.le_refl _)) (by simp) (by simp [jM,intC]) jF (by decide) rfl (by omega) (by omega) (fun del hdel=>?_)
      have hlen:(Xm g.ts a o n).length+1=(Xm g.ts a o (n+1)).length:=by rw [hsn2];simp
      rw [← hsn2,hlen]
      simp [h7,hw,o4',o6,o12']
      exact ⟨hlt,_,rfl,by simp [jl],by omega⟩
    ·have:n=g.ts.length:=by omega
     subst this
     obtain ⟨u,hv,_,_⟩:=hG
     simp [h7,f2,o4,j1,j2]
     rw [← jq0 hmay]
     exact slE (t:=some (u,1)) (nl:=false) (k:=(Xm g.ts a o g.ts.length).length) (cs:=(Xm g.ts a o g.ts.length).flatMap intC) (fun r h=>h) (by simp [fd]) (by simp [hv])
   by_cases hk:o.v.kind=1
   ·simp [hk]
    refine rest _ 1280 _ (by simp) (by simp) (by simp) (by simp [j2]) (by simp) (by simp [opC,hk]) (by simp;rfl) ?_ (by simp) (by simp) (by simp)
    exact ⟨192,by simp [js,hk],by simp [jl],by simp⟩
   ·have hkb:(o.v.kind != 1)=true:=by simp [hk]
    simp [hkb]
    refine jL (cs:=[.int .i64 (-1)]) (by simp [j7]) rfl rfl ?_
    simp
    refine XZ (f:=intC) (hi:=576) (l:=[]) (a:=-1) (v:=.sl (some (192,1)) false 0 []) ⟨192,rfl,by simp [jl],by omega⟩ (by simp) (by simp [jM,intC]) jF (by decide) rfl (by simp) (by simp) (fun del hdel=>?_)
    simp
    refine rest _ 1280 _ (by simp) (by simp) (by simp) (by simp [j2]) (by simp) (by simp [opC]) (by simp;rfl) ?_ (by simp) (by simp) (by simp)
    exact ⟨1792,by simp [js,hk],by simp [jl],by simp⟩
  ·simp
   exact slE (t:=some (192,1)) (nl:=false) (k:=0) (cs:=[]) (fun r h=>h) (by simp) (by simp)
theorem YL {ub:Nat} {v:V} {nl:Bool} {n:Nat} {cs:List V} {K:Delta→Prop} (hv:SlR v nl n cs) (h:∀ t add,K { v:=.sl t nl n cs,add:=add }):wpD (Xv ub v) K:=by
 obtain ⟨t,add,hr⟩:=jky (ub:=ub) hv
 rw [hr,jN]
 exact h t add
theorem len0 {α:Type} (l:List α):((l.length:Int) == 0)=l.isEmpty:=by cases l <;> simp <;> omega
theorem len0b {α β:Type} (l:List α) (m:List β):((l.length:Int)+m.length == 0)=(l.isEmpty && m.isEmpty):=by cases l <;> cases m <;> simp <;> omega
def jw (g:Hist'):Bool:=X9 g && ((XU g).isEmpty && (jbo g).isEmpty)
theorem ev52 {g:Hist'} (hs:Small g):Ev E 52 [.agg (j2 g)] (.bool (jw g)):=by
 have e70:=jpj hs
 refine jT (af:=F52) rfl ?_
 unfold jw
 cases hm:X9 g
 ·simp [F52,j2,j1]
  refine jV e70 (by simp [j2]) rfl (by simp [j2]) ?_
  have hb:(errH g == 0)=false:=by simp [Wp hm]
  simp [hb]
  exact j3 (by simp) (by simp) rfl
 ·rw [YP hm] at e70
  obtain ⟨vi,evi,nli,hvi⟩:=ev104 hs hm
  obtain ⟨vl,evl,nll,hvl⟩:=ev105 hs hm
  simp [F52,j2,j1]
  refine jV e70 (by simp [j2]) rfl (by simp [j2]) ?_
  simp [j1]
  refine jV evi (by simp [j2]) rfl (by simp [j2]) ?_
  refine YL hvi fun t add=>?_
  have hz:=len0 (XU g)
  cases hb:(XU g).isEmpty
  ·rw [hb] at hz
   simp [hz]
   exact j3 (by simp) (by simp) rfl
  ·rw [hb] at hz
   simp [hz,j1]
   refine jV evl (by simp [j2]) rfl (by simp [j2]) ?_
   refine YL hvl fun t add=>?_
   simp
   exact j3 (by simp) (by simp [len0]) rfl
theorem ev21 {g:Hist'} (hs:Small g):Ev E 21 [.agg (j2 g)] (.bool (jw g)):=by
 have e32:=j87 hs
 refine jT (af:=F21) rfl ?_
 unfold jw
 cases hm:X9 g
 ·simp [F21,j2,j1]
  refine J0 e32 (by simp [j2]) rfl (by simp [j2]) ?_
  have hb:(errH g == 0)=false:=by simp [Wp hm]
  simp [hb]
  exact j3 (by simp) (by simp) rfl
 ·rw [YP hm] at e32
  have evi:=ev59 g (by have:=hs.ts;omega)
  obtain ⟨vl,evl,nll,hvl⟩:=ev60 hs
  have B:=j9s hs
  have bi:=B.i
  have bl:=B.l
  have hw:IntKind.i64.wrap (((XU g).length:Int)+(jbo g).length)=((XU g).length:Int)+(jbo g).length:=J8 (by omega) (by omega)
  simp [F21,j2,j1]
  refine J0 e32 (by simp [j2]) rfl (by simp [j2]) ?_
  simp [j1]
  refine J0 evi (by simp [j2]) rfl (by simp [j2]) ?_
  rw [jvc]
  simp [j1]
  refine J0 evl (by simp [j2]) rfl (by simp [j2]) ?_
  refine YL hvl fun t add=>?_
  simp [hw]
  exact j3 (by simp) (by simp [len0b]) rfl
theorem ev62 {a:Bool} (l:List Int) (hl:l.length≤1000000000) (k:Int):Ev E 62 [jI a intC l,.int .i64 k] (.bool (l.contains k)):=by
 refine jT (af:=F62) rfl ?_
 obtain ⟨c,hc⟩:∃ c,l.contains k=c:=⟨_,rfl⟩
 rw [hc]
 simp [F62]
 refine jE [(4,30)] l.length (fun i s=>s.tm 5 = .int .i64 i∧(l.drop i).contains k=c) rfl rfl ⟨by simp,by simpa using hc⟩ ?_
 rintro i s hi ⟨h5,hT⟩ f
 have f0:s.tm 0=jI a intC l:=by rw [f.t 0 (by simp)];simp
 have f1:s.tm 1 = .int .i64 k:=by rw [f.t 1 (by simp)];simp
 have fd:s.df=[]:=by rw [f.d];simp
 clear f
 by_cases hlt:i<l.length
 ·have hw:=jz hlt (by omega)
  have h1:=Jh l hlt
  rw [List.drop_eq_getElem_cons hlt,List.contains_cons] at hT
  cases he:(l[i] == k)
  ·have he':(k == l[i])=false:=by rw [beq_eq_false_iff_ne] at he ⊢;exact fun e=>he e.symm
   rw [he',Bool.false_or] at hT
   simp [h5,f0,f1,hlt,j5 jF,h1,he,hw]
   simpa using hT
  ·have he':(k == l[i])=true:=by rw [beq_iff_eq] at he ⊢;exact he.symm
   rw [he',Bool.true_or] at hT
   simp [h5,f0,f1,hlt,j5 jF,h1,he]
   exact j3 (by simp [fd]) (by rw [← hT];simp) rfl
 ·have:i=l.length:=by omega
  subst this
  rw [List.drop_length] at hT
  simp [h5,f0]
  exact j3 (by simp [fd]) (by rw [← hT];simp) rfl
def idxI:List Int→Int→Nat→Int
 | [],_,_=>-1
 | x::r,k,n=>if k == x then n else idxI r k (n+1)
theorem jhs (k:Int):∀ (l:List Int) (n:Nat),decide (idxI l k n<0) = !l.contains k
 | [],n=>rfl
 | x::r,n=>by
  rw [idxI,List.contains_cons]
  cases h:(k == x)
  ·simpa using jhs k r (n+1)
  ·simp
theorem ev127 {a:Bool} (l:List Int) (hl:l.length≤1000000000) (k:Int):Ev E 127 [jI a intC l,.int .i64 k] (.int .i64 (idxI l k 0)):=by
 refine jT (af:=F127) rfl ?_
 simp [F127]
 refine jE [(4,5),(8,30)] l.length (fun i s=>s.tm 8 = .int .i64 i∧idxI (l.drop i) k i=idxI l k 0) rfl rfl ⟨by simp,by simp⟩ ?_
 rintro i s hi ⟨h5,hT⟩ f
 have f0:s.tm 0=jI a intC l:=by rw [f.t 0 (by simp)];simp
 have f1:s.tm 1 = .int .i64 k:=by rw [f.t 1 (by simp)];simp
 have f7:s.tm 7 = .int .i64 l.length:=by rw [f.t 7 (by simp)];simp
 have fd:s.df=[]:=by rw [f.d];simp
 clear f
 by_cases hlt:i<l.length
 ·have hw:=jz hlt (by omega)
  have h1:=Jh l hlt
  rw [List.drop_eq_getElem_cons hlt,idxI] at hT
  cases he:(k == l[i])
  ·rw [he] at hT
   simp [h5,f0,f1,f7,hlt,j5 jF,h1,he,hw]
   simpa using hT
  ·rw [he] at hT
   simp [h5,f0,f1,f7,hlt,j5 jF,h1,he]
   exact j3 (by simp [fd]) (by rw [← hT];simp) rfl
 ·have:i=l.length:=by omega
  subst this
  rw [List.drop_length,idxI] at hT
  simp [h5,f7]
  exact j3 (by simp [fd]) (by rw [← hT];simp) rfl
theorem jai (l:List (Int × Int)) (ob:ZO) {i:Nat} (h:i<l.length):Yb ob (some 2) (.eptr (l.flatMap jG) (i * 2))=some (.agg [.int .i64 (l[i]).1,.int .i64 (l[i]).2]):=jX jj ob l h
def JO (t:Txn'):Bool:=t.f == 1
def comH (g:Hist'):List Int:=if jw g then numsTo JO g.ts g.ts.length else []
theorem ev71 {g:Hist'} (hs:Small g):∃ v,Ev E 71 [.agg (j2 g)] v∧SlR v (comH g).isEmpty (comH g).length ((comH g).flatMap intC):=by
 have e83:=ev52 hs
 have hts:=hs.ts
 refine XS (af:=F71) rfl (by decide) ?_
 unfold comH
 cases hw:jw g
 ·rw [hw] at e83
  simp [F71,j2,j1]
  refine jV e83 (by simp [j2]) rfl (by simp [j2]) ?_
  simp
  exact slE (t:=none) (nl:=true) (k:=0) (cs:=[]) (fun r h=>h) (by simp) (by simp)
 rw [hw] at e83
 simp [F71,j2,j1]
 refine jV e83 (by simp [j2]) rfl (by simp [j2]) ?_
 simp [j1]
 refine jE [(3,5),(12,24)] g.ts.length (fun i s=>s.tm 12 = .int .i64 i∧Grow s.tk 0 s.nx intC 1 (numsTo JO g.ts i) (s.tm 3)) rfl rfl ⟨by simp,by simp [numsTo];exact Grow.nil _ _ _ _ _⟩ ?_
 rintro i s hi ⟨h12,hG⟩ f
 have f10:s.tm 10=jI g.tn ji g.ts:=by rw [f.t 10 (by simp)];simp
 have f11:s.tm 11 = .int .i64 g.ts.length:=by rw [f.t 11 (by simp)];simp
 have fd:s.df=[]:=by rw [f.d];simp
 have fb:s.fb=0:=by rw [f.b];simp
 have fr:s.ro=0:=by rw [f.r];simp
 clear f
 by_cases hlt:i<g.ts.length
 ·have hw:=jz hlt (by omega)
  have hsn:=JI (p:=JO) hlt
  obtain ⟨t,ht⟩:∃ t,g.ts[i]=t:=⟨_,rfl⟩
  rw [ht] at hsn
  have hll:=JF JO g.ts i
  cases hi:JO t
  ·have hi':(t.f == 1)=false:=hi
   rw [hi] at hsn
   simp only [Bool.false_eq_true,if_false,List.append_nil] at hsn
   simp [h12,f10,f11,hlt,j5 j8,jX j8,ht,ji,j1,fb,fr,j7,hi',hw]
   rw [hsn];exact hG.mono (fun u _ _ h=>by simpa [jo] using h) (by omega)
  ·have hi':(t.f == 1)=true:=hi
   rw [hi] at hsn
   simp only [if_true] at hsn
   simp [h12,f10,f11,hlt,j5 j8,jX j8,ht,ji,j1,fb,fr,j7,hi']
   refine jL (cs:=[.int .i64 i]) (by simp [j7]) rfl rfl ?_
   simp
   refine Xa (f:=intC) (lo:=0) (hi:=s.nx) (l:=numsTo JO g.ts i) (a:=(i:Int)) (v:=s.tm 3) (hG.mono (fun u _ _ h=>by simp [jl,h]) (Nat.le_refl _)) (by simp) (by simp [jM,intC]) jF (by decide) rfl (by omega) (by omega) (fun del hdel=>?_)
   have hne:numsTo JO g.ts (i+1)≠[]:=by rw [hsn];simp
   have hlen:(numsTo JO g.ts i).length+1=(numsTo JO g.ts (i+1)).length:=by rw [hsn];simp
   rw [← hsn,hlen]
   simp [h12,hw]
   exact ⟨hlt,.inr ⟨hne,_,rfl,by simp [jl],Nat.zero_le _,by omega⟩⟩
 ·have:i=g.ts.length:=by omega
  subst this
  obtain ⟨t,ht⟩:=hG.form
  simp [h12,f11]
  exact slE (t:=t) (nl:=(numsTo JO g.ts g.ts.length).isEmpty) (k:=(numsTo JO g.ts g.ts.length).length) (cs:=(numsTo JO g.ts g.ts.length).flatMap intC) (fun r h=>h) (by simp [fd]) (by simp [ht])
theorem j86 (t:Txn') (ht:t.ops.length≤1000000) (k:Int) {n:Nat} (hn:n≤t.ops.length):Ev E 84 [.agg (ji t),.int .i64 n,.int .i64 k] (.tup [.agg (J1 (jq k t.ops n).1),.bool (jq k t.ops n).2]):=by
 refine jT (af:=F84) rfl ?_
 simp [F84,ji,j1,j7]
 refine jE [(9,10),(12,45)] n (fun i s=>s.tm 10 = .int .i64 i∧s.ob 6=some ⟨0,.cells (ji t)⟩∧s.ob 12=some ⟨64,.cells [.int .i64 0,.int .i64 0]⟩∧s.ob 16=some ⟨256,.cells (J1 (jq k t.ops i).1)⟩∧s.tm 9 = .bool (jq k t.ops i).2) rfl rfl
  ⟨by simp,by simp [ji],by simp,by simp [jq,J1],by simp [jq]⟩ ?_
 rintro i s hi ⟨h10,o6,o12,o16,h9⟩ f
 have f1:s.tm 1 = .int .i64 n:=by rw [f.t 1 (by simp)];simp
 have f2:s.tm 2 = .int .i64 k:=by rw [f.t 2 (by simp)];simp
 have f3:s.tm 3 = .ptr 6 0 0:=by rw [f.t 3 (by simp)];simp
 have f6:s.tm 6 = .ptr 12 64 0:=by rw [f.t 6 (by simp)];simp
 have f8:s.tm 8 = .ptr 16 256 0:=by rw [f.t 8 (by simp)];simp
 have fd:s.df=[]:=by rw [f.d];simp
 have fr:s.ro=0:=by rw [f.r];simp
 clear f
 by_cases hin:i<n
 ·have hlt:i<t.ops.length:=by omega
  have hw:=jz hlt (by omega)
  have hs:=Q8 (k:=k) hlt
  obtain ⟨o,ho⟩:∃ o,t.ops[i]=o:=⟨_,rfl⟩
  rw [ho] at hs
  have a0:(t.ops.flatMap opC)[i * 4]? = some (.bool o.w):=by
   have:=jb jH t.ops hlt (by decide:0<4)
   rw [Nat.add_zero,ho] at this
   rw [this];rfl
  have a1:(t.ops.flatMap opC)[i * 4+1]? = some (.int .i64 o.key):=by
   rw [jb jH t.ops hlt (by decide:1<4),ho];rfl
  have a2:∀ ob,Yb ob (some 2) (.eptr (t.ops.flatMap opC) (i * 4+2))=some (.agg (J1 o.v)):=fun ob=>by
   have hle:i * 4+4≤t.ops.length * 4:=by omega
   rw [jbp,YB,if_pos (by rw [jA jH];omega)]
   have:=XH jH t.ops i hlt
   rw [ho] at this
   have e:((t.ops.flatMap opC).drop (i * 4+2)).take 2=((((t.ops.flatMap opC).drop (i * 4)).take 4).drop 2):=by
    rw [List.drop_take,List.drop_drop]
   rw [e,this]
   rfl
  cases hwk:o.w
  ·have hk:wkB k o=false:=by unfold wkB;rw [hwk];rfl
   rw [hk] at hs
   simp only [Bool.false_eq_true,if_false] at hs
   simp [h10,f1,f3,o6,j1,ji,hin,hlt,j5 jH,a0,hwk,hw,o12,o16,h9]
   exact ⟨by rw [hs],by rw [hs]⟩
  ·cases hke:(o.key == k)
   ·have hk:wkB k o=false:=by unfold wkB;rw [hwk,hke];rfl
    rw [hk] at hs
    simp only [Bool.false_eq_true,if_false] at hs
    simp [h10,f1,f2,f3,o6,j1,ji,hin,hlt,j5 jH,a0,a1,hwk,hke,hw,o12,o16,h9]
    exact ⟨by rw [hs],by rw [hs]⟩
   ·have hk:wkB k o=true:=by unfold wkB;rw [hwk,hke];rfl
    rw [hk] at hs
    simp only [if_true] at hs
    simp [h10,f1,f2,f3,f8,o6,j1,ji,hin,hlt,j5 jH,a0,a1,a2,hwk,hke,hw,o12,o16,J1,fr,j7]
    rw [hs]
    simp
 ·have:i=n:=by omega
  subst this
  simp [h10,f1,f8,o16,j1,h9,f6,o12,J1,fr,j7]
  exact J3 (by simp [fd]) (l:=[.agg (J1 (jq k t.ops i).1),.bool (jq k t.ops i).2]) (by simp [jm,j1,f6,J1]) rfl rfl
theorem j9c {g:Hist'} (hs:Small g) (a b:Int):Ev E 120 [.agg (j2 g),.agg (jG (a,b))] (.bool (opAt g a b).isSome):=by
 have e32:=j87 hs
 have hts:=hs.ts
 refine jT (af:=F120) rfl ?_
 obtain ⟨R,hR⟩:∃ R,opAt g a b=R:=⟨_,rfl⟩
 rw [hR]
 unfold opAt at hR
 simp [F120,j2,j1,jG]
 refine J0 e32 (by simp [j2]) rfl (by simp [j2]) ?_
 cases hm:X9 g
 ·rw [Wp hm]
  rw [hm] at hR
  subst hR
  simp
  exact j3 (by simp) (by simp) rfl
 rw [hm] at hR
 rw [YP hm]
 by_cases k1n:a<0
 ·have k1:¬ 0≤a:=by omega
  rw [if_neg (by simp;omega)] at hR
  subst hR
  simp [k1,j1]
  exact j3 (by simp) (by simp) rfl
 have k1:0≤a:=by omega
 by_cases k2n:(g.ts.length:Int)≤a
 ·have k2:¬ (a<(g.ts.length:Int)):=by omega
  rw [if_neg (by simp;omega)] at hR
  subst hR
  simp [k1,k2,j1]
  exact j3 (by simp) (by simp) rfl
 have k2:a<(g.ts.length:Int):=by omega
 by_cases k3n:b<0
 ·have k3:¬ 0≤b:=by omega
  rw [if_neg (by simp;omega)] at hR
  subst hR
  simp [k1,k2,k3,j1]
  exact j3 (by simp) (by simp) rfl
 have k3:0≤b:=by omega
 obtain ⟨i,rfl⟩:∃ i:Nat,a=i:=⟨a.toNat,by omega⟩
 have hi:i<g.ts.length:=by omega
 rw [Int.toNat_natCast,jn hi] at hR
 obtain ⟨t,ht⟩:∃ t,g.ts[i]=t:=⟨_,rfl⟩
 rw [ht] at hR
 have hl3:(g.ts.flatMap ji)[i * 3+2]? = some (jI t.nl opC t.ops):=by
  rw [jb j8 g.ts hi (by decide:2<3),ht];rfl
 by_cases k4n:(t.ops.length:Int)≤b
 ·have k4:¬ (b<(t.ops.length:Int)):=by omega
  rw [if_neg (by simp;omega)] at hR
  subst hR
  simp [k1,k2,k3,k4,j1,hi,j5 j8,hl3]
  exact j3 (by simp) (by simp) rfl
 have k4:b<(t.ops.length:Int):=by omega
 obtain ⟨j,rfl⟩:∃ j:Nat,b=j:=⟨b.toNat,by omega⟩
 have hj:j<t.ops.length:=by omega
 rw [if_pos (by simp;omega),Int.toNat_natCast,List.getElem?_eq_getElem hj] at hR
 subst hR
 simp [k1,k2,k3,k4,j1,hi,j5 j8,hl3]
 exact j3 (by simp) (by simp) rfl
def jk5 (g:Hist') (a b:Int):Val' × Bool:=match opAt g a b with
 | some o=>jq o.key (g.ts.getD a.toNat ⟨0,0,true,[]⟩).ops b.toNat
 | none=>(⟨0,0⟩,false)
def XD (g:Hist') (a b:Int):Bool:=match opAt g a b with
 | some o=>!o.w && !(jk5 g a b).2
 | none=>false
theorem ev121 {g:Hist'} (hs:Small g) (a b:Int):Ev E 121 [.agg (j2 g),.agg (jG (a,b))] (.tup [.agg (J1 (jk5 g a b).1),.bool (jk5 g a b).2]):=by
 have e131:=j9c hs a b
 refine jT (af:=F121) rfl ?_
 unfold jk5
 cases hop:opAt g a b with
 | none =>
  rw [hop] at e131
  simp [F121,j2,jG,j1]
  refine jV e131 (by simp [j2,jG]) rfl (by simp [j2,jG]) ?_
  simp [j1,j7]
  exact J3 (by simp) (l:=[.agg (J1 ⟨0,0⟩),.bool false]) (by simp [jm,j1,J1]) rfl rfl
 | some o =>
  rw [hop] at e131
  obtain ⟨i,j,rfl,rfl,hi,hj,ho⟩:=jam hop
  have hos:=hs.os _ (List.getElem_mem hi)
  have e78:=j86 g.ts[i] (by omega) o.key (n:=j) (by omega)
  simp only [Int.toNat_natCast]
  rw [jn hi]
  have hl3:(g.ts.flatMap ji)[i * 3+2]? = some (jI (g.ts[i]).nl opC (g.ts[i]).ops):=by
   rw [jb j8 g.ts hi (by decide:2<3)];rfl
  have hlk:((g.ts[i]).ops.flatMap opC)[j * 4+1]? = some (.int .i64 o.key):=by
   rw [jb jH (g.ts[i]).ops hj (by decide:1<4),ho];rfl
  simp [F121,j2,jG,j1]
  refine jV e131 (by simp [j2,jG]) rfl (by simp [j2,jG]) ?_
  simp [j1,hi,hj,j5 j8,j5 jH,jX j8,hl3,hlk]
  refine J0 e78 (by simp [ji]) rfl (by simp [ji]) ?_
  rw [JH (by simp [V.plain,J1])]
  generalize (jq o.key g.ts[i].ops j).1=rv at *
  generalize (jq o.key g.ts[i].ops j).2=rb at *
  simp [J1,j1,j7]
  exact J3 (by simp) (l:=[.agg [.int .i64 rv.kind,.int .i64 rv.n],.bool rb]) (by simp [jm,j1]) rfl rfl
theorem ev74 {g:Hist'} (hs:Small g) (a b:Int):Ev E 74 [.agg (j2 g),.agg (jG (a,b))] (.bool (XD g a b)):=by
 have e131:=j9c hs a b
 have e132:=ev121 hs a b
 refine jT (af:=F74) rfl ?_
 unfold XD
 cases hop:opAt g a b with
 | none =>
  rw [hop] at e131
  simp [F74,j2,jG,j1]
  refine J0 e131 (by simp [j2,jG]) rfl (by simp [j2,jG]) ?_
  simp
  exact j3 (by simp) (by simp) rfl
 | some o =>
  rw [hop] at e131
  obtain ⟨i,j,rfl,rfl,hi,hj,ho⟩:=jam hop
  have hl3:(g.ts.flatMap ji)[i * 3+2]? = some (jI (g.ts[i]).nl opC (g.ts[i]).ops):=by
   rw [jb j8 g.ts hi (by decide:2<3)];rfl
  have hlw:((g.ts[i]).ops.flatMap opC)[j * 4]? = some (.bool o.w):=by
   have:=jb jH (g.ts[i]).ops hj (by decide:0<4)
   rw [Nat.add_zero,ho] at this
   rw [this];rfl
  simp [F74,j2,jG,j1]
  refine J0 e131 (by simp [j2,jG]) rfl (by simp [j2,jG]) ?_
  generalize jk5 g (i:Int) (j:Int)=ow at *
  cases hw:o.w
  ·simp [j1,hi,hj,j5 j8,j5 jH,hl3,hlw,hw]
   refine jV e132 (by simp [j2,jG]) rfl (by simp [j2,jG]) ?_
   rw [JH (by simp [V.plain,J1])]
   simp [J1,j1,j7]
   exact j3 (by simp) (by simp) rfl
  ·simp [j1,hi,hj,j5 j8,j5 jH,hl3,hlw,hw]
   exact j3 (by simp) (by simp) rfl
theorem ev136 {g:Hist'} (hs:Small g) (a b:Int):Ev E 136 [.agg (j2 g),.agg (jG (a,b))] (.bool (XD g a b)):=by
 have e129:=j2b hs a
 refine jT (af:=F136) rfl ?_
 unfold XD
 cases hop:opAt g a b with
 | none =>
  simp [F136,j2,jG,j1]
  refine jV e129 (by simp [j2]) rfl (by simp [j2]) ?_
  rw [YA rfl,jN]
  have hout:b<0∨((JE g a).2.length:Int)≤b:=by
   unfold opAt at hop
   unfold JE
   by_cases h1:(X9 g && (decide (0≤a) && decide (a<g.ts.length)))=true
   ·rw [if_pos h1]
    simp only [Bool.and_eq_true,decide_eq_true_eq] at h1
    by_cases h2:b<0
    ·exact .inl h2
    ·by_cases h3:b<((g.ts.getD a.toNat ⟨0,0,true,[]⟩).ops.length:Int)
     ·rw [if_pos (by simp only [Bool.and_eq_true,decide_eq_true_eq];exact ⟨h1.1,h1.2.1,h1.2.2,by omega,h3⟩)] at hop
      rw [List.getElem?_eq_none_iff] at hop
      exact absurd hop (by omega)
     ·exact .inr (Int.not_lt.1 h3)
   ·rw [if_neg h1]
    by_cases h2:b<0
    ·exact .inl h2
    ·exact .inr (by simp;omega)
  generalize JE g a=oo at *
  by_cases h1:b<0
  ·simp [j1,h1]
   exact j3 (by simp) (by simp) rfl
  ·have h2:(oo.2.length:Int)≤b:=by rcases hout with h | h;exact absurd h h1;exact h
   simp [j1,h1,h2]
   exact j3 (by simp) (by simp) rfl
 | some o =>
  have hmay:X9 g=true:=by
   unfold opAt at hop
   cases hm:X9 g
   ·rw [hm] at hop;cases hop
   ·rfl
  unfold jk5
  rw [hop]
  obtain ⟨i,j,rfl,rfl,hi,hj,ho⟩:=jam hop
  simp only [Int.toNat_natCast]
  rw [jn hi]
  have hoo:JE g (i:Int)=((g.ts[i]).nl,(g.ts[i]).ops):=by
   unfold JE
   rw [hmay,if_pos (by simp;omega)]
   simp only [Int.toNat_natCast]
   rw [jn hi]
  rw [hoo] at e129
  have hos:=hs.os _ (List.getElem_mem hi)
  have hlw:((g.ts[i]).ops.flatMap opC)[j * 4]? = some (.bool o.w):=by
   have:=jb jH (g.ts[i]).ops hj (by decide:0<4)
   rw [Nat.add_zero,ho] at this
   rw [this];rfl
  have hlk:((g.ts[i]).ops.flatMap opC)[j * 4+1]? = some (.int .i64 o.key):=by
   rw [jb jH (g.ts[i]).ops hj (by decide:1<4),ho];rfl
  have n1:decide ((j:Int)<0)=false:=by simp
  have n2:decide (((g.ts[i]).ops.length:Int)≤j)=false:=by simp;omega
  have n3:((g.ts[i]).ops.length≤j)=False:=by simp;omega
  have n4:(((g.ts[i]).ops.length:Int)≤j)=False:=by simp;omega
  have hle:j≤(g.ts[i]).ops.length:=by omega
  have hsl:Qf 4 none (some (.int .i64 (j:Int))) (jI (g.ts[i]).nl opC (g.ts[i]).ops)=some (jI (g.ts[i]).nl opC ((g.ts[i]).ops.take j)):=by
   have h1:=jks (kk:=.i64) (t:=none) (nl:=(g.ts[i]).nl) (sz:=4) (cs:=(g.ts[i]).ops.flatMap opC) (n:=(g.ts[i]).ops.length) (k:=j) hle (jA jH _)
   refine Eq.trans h1 ?_
   have h2:((g.ts[i]).ops.flatMap opC).take (j * 4)=((g.ts[i]).ops.take j).flatMap opC:=by
    conv=>lhs;rw [← List.take_append_drop j (g.ts[i]).ops,List.flatMap_append]
    rw [List.take_left']
    rw [jA jH,List.length_take,Nat.min_eq_left hle]
   rw [h2,jI,List.length_take,Nat.min_eq_left hle]
  have e130:=j2a (g.ts[i]).nl ((g.ts[i]).ops.take j) (by rw [List.length_take];omega) o.key
  have hlast:(Y6 ((g.ts[i]).ops.take j) o.key).2=(jq o.key (g.ts[i]).ops j).2:=by
   unfold Y6
   rw [Wl _ _ _ (Nat.le_refl _),Wl _ _ _ hle,List.take_length]
  simp [F136,j2,jG,j1]
  refine jV e129 (by simp [j2]) rfl (by simp [j2]) ?_
  rw [YA rfl,jN]
  cases hw:o.w
  ·simp [j1,n1,n4,hj,j5 jH,hlw,hw]
   simp [hsl,hlk,hj,j5 jH,j1]
   refine J0 e130 (by simp) rfl (by simp) ?_
   rw [JH (by simp [V.plain,J1])]
   rw [← hlast]
   generalize Y6 ((g.ts[i]).ops.take j) o.key=lw at *
   simp [J1,j1,j7]
   refine ⟨by simp [XI,Qo,jfh,jch,rdOb,rdTk,lOf,Delta.wo,Delta.wt];try decide,?_⟩
   exact j3 (by simp) (by simp) rfl
  ·simp [j1,n1,n4,hj,j5 jH,hlw,hw]
   exact j3 (by simp) (by simp) rfl
def jt (g:Hist') (i:Nat):Nat→List (Int × Int)
 | 0=>[]
 | k+1=>jt g i k++(if XD g i k then [((i:Int),(k:Int))] else [])
def Jk (g:Hist'):Nat→List (Int × Int)
 | 0=>[]
 | i+1=>Jk g i++(match g.ts[i]? with | some t=>if JO t then jt g i t.ops.length else [] | none=>[])
def readH (g:Hist'):List (Int × Int):=Jk g g.ts.length
theorem Yz (g:Hist') (i:Nat):∀ k,(jt g i k).length≤k
 | 0=>Nat.le_refl _
 | k+1=>by
  have:=Yz g i k
  simp only [jt,List.length_append]
  split <;> simp <;> omega
theorem Q7 {g:Hist'} (hs:Small g):∀ i,(Jk g i).length≤i * 1000
 | 0=>Nat.zero_le _
 | i+1=>by
  have:=Q7 hs i
  simp only [Jk,List.length_append]
  rw [show (i+1) * 1000=i * 1000+1000 by omega]
  split
  ·rename_i t ht
   have h1:=Yz g i t.ops.length
   have h2:=hs.os t (List.mem_of_getElem? ht)
   split
   ·omega
   ·simp only [List.length_nil];omega
  ·simp only [List.length_nil];omega
theorem jdy {g:Hist'} {i:Nat} (h:i<g.ts.length):Jk g (i+1)=Jk g i++(if JO g.ts[i] then jt g i (g.ts[i]).ops.length else []):=by
 simp only [Jk,List.getElem?_eq_getElem h]
theorem ev31 {g:Hist'} (hs:Small g):∃ v,Ev E 31 [.agg (j2 g)] v∧SlR v false (readH g).length ((readH g).flatMap jG):=by
 have hts:=hs.ts
 refine XS (af:=F31) rfl (by decide) ?_
 simp [F31,j2]
 refine jL (cs:=[]) rfl rfl rfl ?_
 simp
 refine jE [(3,6),(8,44)] g.ts.length (fun i s=>s.tm 4 = .int .i64 i∧s.ob 2=some ⟨0,.cells (j2 g)⟩∧GrowT s.tk s.nx jG 2 (Jk g i) (s.tm 3)) rfl rfl ⟨by simp,by simp [j2],by rw [Jk];exact ⟨128,by simp,by simp [jl],by simp⟩⟩ ?_
 rintro i s hi ⟨h4,o2,hG⟩ f
 have f1:s.tm 1 = .ptr 2 0 0:=by rw [f.t 1 (by simp)];simp
 have fd:s.df=[]:=by rw [f.d];simp
 have fb:s.fb=0:=by rw [f.b];simp
 have fr:s.ro=0:=by rw [f.r];simp
 clear f
 by_cases hlt:i<g.ts.length
 ·have hw:=jz hlt (by omega)
  simp [h4,f1,o2,j1,j2,hlt]
  refine jE [(3,3),(5,6),(15,44)] (g.ts[i]).ops.length (fun k s'=>s'.tm 5 = .int .i64 k∧s'.ob 2=some ⟨0,.cells (j2 g)⟩∧GrowT s'.tk s'.nx jG 2 (Jk g i++(if JO g.ts[i] then jt g i k else [])) (s'.tm 3)) rfl rfl ⟨by simp,by simp [o2],by simp [jt];exact hG.mono (fun _ _ h=>h) (by omega)⟩ ?_
  rintro k s' hk ⟨h5,o2',hG'⟩ f
  have e1:s'.tm 1 = .ptr 2 0 0:=by rw [f.t 1 (by simp)];simp [f1]
  have e4:s'.tm 4 = .int .i64 i:=by rw [f.t 4 (by simp)];simp [h4]
  have ed:s'.df=[]:=by rw [f.d];simp [fd]
  have eb:s'.fb=0:=by rw [f.b];simp [fb]
  have er:s'.ro=0:=by rw [f.r];simp [fr]
  clear f
  have e90:=ev74 hs (i:Int) (k:Int)
  have hos:=hs.os _ (List.getElem_mem hlt)
  have hff:(g.ts.flatMap ji)[i * 3+1]? = some (.int .i64 (g.ts[i]).f):=by
   rw [jb j8 g.ts hlt (by decide:1<3)];rfl
  have hfo:(g.ts.flatMap ji)[i * 3+2]? = some (jI (g.ts[i]).nl opC (g.ts[i]).ops):=by
   rw [jb j8 g.ts hlt (by decide:2<3)];rfl
  by_cases hkt:k<(g.ts[i]).ops.length
  ·have hw':=jz hkt (by omega)
   have hll:(Jk g i++(if JO g.ts[i] then jt g i k else [])).length≤1001000:=by
    have h1:=Q7 hs i
    have h2:=Yz g i k
    have:i * 1000≤1000 * 1000:=Nat.mul_le_mul_right _ (by omega)
    rw [List.length_append]
    split
    ·omega
    ·simp only [List.length_nil];omega
   cases hc:JO g.ts[i]
   ·have hc':((g.ts[i]).f == 1)=false:=hc
    rw [hc] at hG'
    simp [h5,e1,e4,o2',j1,j2,hlt,j5 j8,hfo,hff,hkt,j7,eb,er,hc',hw']
    simpa using hG'.mono (fun u _ h=>by simpa [jo] using h) (by omega)
   ·have hc':((g.ts[i]).f == 1)=true:=hc
    rw [hc] at hG' hll
    simp only [if_true] at hG' hll
    simp [h5,e1,e4,o2',j1,j2,hlt,j5 j8,hfo,hff,hkt,j7,eb,er,hc']
    refine jV e90 (by simp [j2,jG]) rfl (by simp [j2,jG]) ?_
    cases ho:XD g i k
    ·simp [h5,hw',o2',j2]
     have hstep:jt g i (k+1)=jt g i k:=by rw [jt,ho];simp
     rw [hstep]
     exact ⟨hkt,hG'.mono (fun u _ h=>by simpa [jo] using h) (by omega)⟩
    ·simp [j1]
     have hstep:Jk g i++jt g i (k+1)=(Jk g i++jt g i k)++[((i:Int),(k:Int))]:=by rw [jt,ho,List.append_assoc];simp
     refine jL (cs:=jG (i,k)) (by simp [j7,jG]) rfl rfl ?_
     simp
     refine XZ (f:=jG) (hi:=s'.nx) (l:=Jk g i++jt g i k) (a:=((i:Int),(k:Int))) (v:=s'.tm 3) (hG'.mono (fun u _ h=>by simp [jl,h]) (Nat.le_refl _)) (by simp) (by simp [jM,jG]) jj (by decide) rfl (by omega) (by omega) (fun del hdel=>?_)
     have hlen:(Jk g i++jt g i k).length+1=(Jk g i++jt g i (k+1)).length:=by rw [hstep,List.length_append (bs:=[_])];rfl
     rw [← hstep,hlen]
     obtain ⟨L,hL⟩:∃ L,Jk g i++jt g i (k+1)=L:=⟨_,rfl⟩
     rw [hL]
     simp [h5,hw',o2',j2,hL]
     exact ⟨hkt,_,rfl,by simp [jl],by omega⟩
  ·have:k=(g.ts[i]).ops.length:=by omega
   subst this
   simp [h5,e1,e4,o2',j1,j2,hlt,j5 j8,hfo,hw]
   rw [jdy hlt]
   exact hG'.mono (fun _ _ h=>h) (by omega)
 ·have:i=g.ts.length:=by omega
  subst this
  obtain ⟨u,hv,_,_⟩:=hG
  simp [h4,f1,o2,j1,j2]
  exact slE (t:=some (u,2)) (nl:=false) (k:=(readH g).length) (cs:=(readH g).flatMap jG) (fun r h=>h) (by simp [fd]) (by simp [hv,readH])
def rdOf (g:Hist') (x:Int):List (Int × Int):=jt g x.toNat (g.ts.getD x.toNat ⟨0,0,true,[]⟩).ops.length
theorem jkz {g:Hist'} {i:Nat} (h:i<g.ts.length):rdOf g i=jt g i (g.ts[i]).ops.length:=by
 unfold rdOf
 rw [Int.toNat_natCast,jn h]
theorem jd0 {g:Hist'}:∀ n,n≤g.ts.length→(numsTo JO g.ts n).flatMap (rdOf g)=Jk g n
 | 0,_=>rfl
 | n+1,h=>by
  rw [JI (by omega),jdy (by omega),List.flatMap_append,jd0 n (by omega)]
  cases JO g.ts[n]
  ·rfl
  ·simp [jkz (show n<g.ts.length by omega)]
def jbg (g:Hist'):List (Int × Int):=if jw g then readH g else []
theorem jok (g:Hist'):(comH g).flatMap (rdOf g)=jbg g:=by
 unfold comH jbg
 split
 ·exact jd0 _ (Nat.le_refl _)
 ·rfl
theorem j2h {g:Hist'}:∀ x∈comH g,0≤x∧x<g.ts.length:=by
 unfold comH
 split
 ·exact (W2 (p:=JO) (ts:=g.ts) _ (Nat.le_refl _)).1
 ·simp
theorem jxq (g:Hist'):(comH g).length≤g.ts.length:=by
 unfold comH
 split
 ·exact JF _ _ _
 ·simp
theorem jdi {g:Hist'} (hs:Small g):∀ (l:List Int),(∀ x∈l,0≤x∧x<g.ts.length)→(l.flatMap (rdOf g)).length≤l.length * 1000
 | [],_=>Nat.zero_le _
 | x::l,h=>by
  obtain ⟨h1,h2⟩:=h x (List.mem_cons_self ..)
  obtain ⟨i,rfl⟩:∃ i:Nat,x=i:=⟨x.toNat,by omega⟩
  have hi:i<g.ts.length:=by omega
  have:=jdi hs l fun y hy=>h y (List.mem_cons_of_mem _ hy)
  have h3:=Yz g i (g.ts[i]).ops.length
  have h4:=hs.os _ (List.getElem_mem hi)
  rw [List.flatMap_cons,List.length_append,jkz hi,List.length_cons,Nat.succ_mul]
  omega
theorem ev86 {g:Hist'} (hs:Small g):∃ v,Ev E 86 [.agg (j2 g)] v∧SlR v (jbg g).isEmpty (jbg g).length ((jbg g).flatMap jG):=by
 have hts:=hs.ts
 obtain ⟨vc,evc,hvc⟩:=ev71 hs
 have hCl:=jxq g
 have hClt:=j2h (g:=g)
 rw [← jok]
 generalize comH g=C at *
 obtain ⟨L,hL⟩:∃ L,C.flatMap (rdOf g)=L:=⟨_,rfl⟩
 rw [hL]
 refine XS (af:=F86) rfl (by decide) ?_
 simp [F86,j2,j1]
 refine jV evc (by simp [j2]) rfl (by simp [j2]) ?_
 refine YL hvc fun tc addc=>?_
 simp
 refine jE [(3,7),(11,36)] C.length (fun i s=>s.tm 11 = .int .i64 i∧s.ob 2=some ⟨0,.cells (j2 g)⟩∧Grow s.tk 0 s.nx jG 2 ((C.take i).flatMap (rdOf g)) (s.tm 3)) rfl rfl ⟨by simp,by simp [j2],by simp;exact Grow.nil _ _ _ _ _⟩ ?_
 rintro i s hi ⟨h11,o2,hG⟩ f
 have f1:s.tm 1 = .ptr 2 0 0:=by rw [f.t 1 (by simp)];simp
 have f9:s.tm 9 = .sl tc C.isEmpty C.length (C.flatMap intC):=by rw [f.t 9 (by simp)];simp
 have f10:s.tm 10 = .int .i64 C.length:=by rw [f.t 10 (by simp)];simp
 have fd:s.df=[]:=by rw [f.d];simp
 have fb:s.fb=0:=by rw [f.b];simp
 have fr:s.ro=0:=by rw [f.r];simp
 clear f
 by_cases hlt:i<C.length
 ·have hw:=jz hlt (by omega)
  obtain ⟨x,hx⟩:∃ x,C[i]=x:=⟨_,rfl⟩
  obtain ⟨x1,x2⟩:=hClt x (hx ▸ List.getElem_mem hlt)
  obtain ⟨j,rfl⟩:∃ j:Nat,x=j:=⟨x.toNat,by omega⟩
  have hj:j<g.ts.length:=by omega
  have hci:=Jh C hlt
  rw [hx] at hci
  have hfo:(g.ts.flatMap ji)[j * 3+2]? = some (jI (g.ts[j]).nl opC (g.ts[j]).ops):=by
   rw [jb j8 g.ts hj (by decide:2<3)];rfl
  have hix:JL 1 (.sl tc C.isEmpty C.length (C.flatMap intC)) (.int .i64 (i:Int))=some (.eptr (C.flatMap intC) (i * 1)):=by
   simp only [YS,jA jF]
   rw [if_pos (by simp;omega)]
   rfl
  rw [Nat.mul_one] at hix
  simp [h11,f1,f9,f10,o2,j1,j2,hlt,hix,hci,hj,j5 j8,hfo]
  obtain ⟨P,hP⟩:∃ P,(C.take i).flatMap (rdOf g)=P:=⟨_,rfl⟩
  have hPl:P.length≤1000000:=by
   have h1:=jdi hs (C.take i) (fun x hx=>hClt x (List.mem_of_mem_take hx))
   rw [hP,List.length_take] at h1
   have:min i C.length * 1000≤1000 * 1000:=Nat.mul_le_mul_right _ (by omega)
   omega
  have hnext:(C.take (i+1)).flatMap (rdOf g)=P++jt g j (g.ts[j]).ops.length:=by
   rw [List.take_succ_eq_append_getElem hlt,List.flatMap_append,hP,hx]
   simp [jkz hj]
  rw [hP] at hG
  refine jE [(3,3),(6,7),(22,35)] (g.ts[j]).ops.length (fun k s'=>s'.tm 22 = .int .i64 k∧s'.ob 2=some ⟨0,.cells (j2 g)⟩∧Grow s'.tk 0 s'.nx jG 2 (P++jt g j k) (s'.tm 3)) rfl rfl ⟨by simp,by simp [o2],by simp [jt];exact hG.mono (fun _ _ _ h=>h) (by omega)⟩ ?_
  rintro k s' hk ⟨h22,o2',hG'⟩ f
  have e1:s'.tm 1 = .ptr 2 0 0:=by rw [f.t 1 (by simp)];simp [f1]
  have e5:s'.tm 5 = .int .i64 j:=by rw [f.t 5 (by simp)];simp
  have e11:s'.tm 11 = .int .i64 i:=by rw [f.t 11 (by simp)];simp [h11]
  have e21:s'.tm 21 = .int .i64 (g.ts[j]).ops.length:=by rw [f.t 21 (by simp)];simp
  have ed:s'.df=[]:=by rw [f.d];simp [fd]
  have eb:s'.fb=0:=by rw [f.b];simp [fb]
  have er:s'.ro=0:=by rw [f.r];simp [fr]
  clear f
  have e89:=ev136 hs (j:Int) (k:Int)
  have hos:=hs.os _ (List.getElem_mem hj)
  have hrl:=Yz g j k
  by_cases hkt:k<(g.ts[j]).ops.length
  ·have hw':=jz hkt (by omega)
   simp [h22,e1,e5,e21,o2',j1,j2,hkt,j7,eb,er]
   refine jV e89 (by simp [j2,jG]) rfl (by simp [j2,jG]) ?_
   cases ho:XD g j k
   ·have hstep:jt g j (k+1)=jt g j k:=by rw [jt,ho];simp
    simp [h22,hw',o2',j2]
    rw [hstep]
    exact ⟨hkt,hG'.mono (fun u _ _ h=>by simpa [jo] using h) (by omega)⟩
   ·have hstep:P++jt g j (k+1)=(P++jt g j k)++[((j:Int),(k:Int))]:=by rw [jt,ho,List.append_assoc];simp
    simp [j1]
    refine jL (cs:=jG (j,k)) (by simp [j7,jG]) rfl rfl ?_
    simp
    refine Xa (f:=jG) (lo:=0) (hi:=s'.nx) (l:=P++jt g j k) (a:=((j:Int),(k:Int))) (v:=s'.tm 3) (hG'.mono (fun u _ _ h=>by simp [jl,h]) (Nat.le_refl _)) (by simp) (by simp [jM,jG]) jj (by decide) rfl (by rw [List.length_append];omega) (by rw [List.length_append];omega) (fun del hdel=>?_)
    have hlen:(P++jt g j k).length+1=(P++jt g j (k+1)).length:=by rw [hstep,List.length_append (bs:=[_])];rfl
    have hne:P++jt g j (k+1)≠[]:=by rw [hstep];simp
    rw [← hstep,hlen]
    obtain ⟨M,hM⟩:∃ M,P++jt g j (k+1)=M:=⟨_,rfl⟩
    rw [hM] at hne ⊢
    simp [h22,hw',o2',j2,hM]
    exact ⟨hkt,.inr ⟨hne,_,rfl,by simp [jl],Nat.zero_le _,by omega⟩⟩
  ·have:k=(g.ts[j]).ops.length:=by omega
   subst this
   simp [h22,e11,e21,o2',j2,hw]
   rw [hnext]
   exact ⟨hlt,hG'.mono (fun _ _ _ h=>h) (by omega)⟩
 ·have:i=C.length:=by omega
  subst this
  rw [List.take_length,hL] at hG
  obtain ⟨t,ht⟩:=hG.form
  simp [h11,f10]
  exact slE (t:=t) (nl:=L.isEmpty) (k:=L.length) (cs:=L.flatMap jG) (fun r h=>h) (by simp [fd]) (by simp [ht])
section
variable {E:Env} {st:St} {ub:Nat} {K:List FP→St→Prop} {d:Option Nat} {nm:Bool} {r:List AOpr}
theorem jpb {α:Type} {f:α→List V} {sz bytes hi:Nat} {l:List α} {a:α} {v:V} {s x:A} (hg:GrowT st.tk hi f sz l v) (hs:eval E st.tm s=v) (hx:jM st.ob sz (eval E st.tm x)=some (f a)) (hf:∀ a,(f a).length=sz) (h0:0<sz)
 (hp:(f a).all V.pureLeaf=true) (hb:(l.length+1) * bytes≤140737488355328) (hb2:l.length+1≤140737488355328)
 (h:∀ del:Option Nat,(∀ u,del=some u→u<hi)→Wq E r K (eval E st.tm) (.append false sz bytes s x) st d ub { v:=.sl (some (ub,sz)) false (l.length+1) ((l++[a]).flatMap f),del:=del,add:=[ub] }):jJ E (⟨d,.append false sz bytes s x,none,nm⟩::r) st ub K:=by
 have hne:f a≠[]:=fun e=>by have:=hf a;rw [e] at this;simp at this;omega
 have h1:(f a).length / sz=1:=by rw [hf];exact Nat.div_self h0
 rw [Ja rfl]
 obtain ⟨u,rfl,ht,h3⟩:=hg
 simp only [aop,hs,hx,Option.bind_some,if_neg hne,Bool.false_and,Bool.false_eq_true,if_false]
 rw [if_pos ⟨by rw [jA hf],h0,hp,by rw [h1];exact hb,by rw [h1];exact hb2⟩,if_pos (by simp [ht]),jN,h1]
 have:=h (some u) (fun u' e=>by cases e;exact h3)
 simpa using this
end
def jeg (x:Bool × List Int):List V:=[.sl none x.1 x.2.length (x.2.flatMap intC)]
@[simp] theorem jaq (x:Bool × List Int):(jeg x).length=1:=rfl
def j2q (ops:List Op') (k:Nat) (o:Op'):Bool:=!o.w && ((o.v.kind != 2) && ((jq o.key ops k).2 && !(((jq o.key ops k).1.kind == o.v.kind) && ((jq o.key ops k).1.n == o.v.n))))
def X4 (ops:List Op'):Nat→List Int
 | 0=>[]
 | k+1=>X4 ops k++(match ops[k]? with | some o=>if j2q ops k o then [(k:Int)] else [] | none=>[])
theorem jgz {ops:List Op'} {k:Nat} (h:k<ops.length):X4 ops (k+1)=X4 ops k++if j2q ops k ops[k] then [(k:Int)] else []:=by simp [X4,List.getElem?_eq_getElem h]
theorem jfc (ops:List Op'):∀ k,(X4 ops k).length≤k
 | 0=>by simp [X4]
 | k+1=>by
  have:=jfc ops k
  simp only [X4,List.length_append]
  split
  ·split <;> simp <;> omega
  ·simp;omega
def badH (g:Hist') (i:Int):List Int:=X4 (JE g i).2 (JE g i).2.length
theorem jf7 (key:Int) (ops:List Op') (k:Nat):∀ j,j≤k→jq key (ops.take k) j=jq key ops j
 | 0,_=>rfl
 | j+1,h=>by
  simp only [jq,jf7 key ops k j (by omega),List.getElem?_take_of_lt (show j<k by omega)]
theorem jo4 (key:Int) (ops:List Op') {k:Nat} (h:k≤ops.length):Y6 (ops.take k) key=jq key ops k:=by
 unfold Y6
 rw [List.length_take,Nat.min_eq_left h,jf7 key ops k k (Nat.le_refl _)]
theorem jqf {nl:Bool} {ops:List Op'} {k:Nat} (h:k≤ops.length):Qf 4 none (some (.int .i64 (k:Int))) (jI nl opC ops)=some (jI nl opC (ops.take k)):=by
 have h1:=jks (kk:=.i64) (t:=none) (nl:=nl) (sz:=4) (cs:=ops.flatMap opC) (n:=ops.length) (k:=k) h (jA jH _)
 refine Eq.trans h1 ?_
 have h2:(ops.flatMap opC).take (k * 4)=(ops.take k).flatMap opC:=by
  conv=>lhs;rw [← List.take_append_drop k ops,List.flatMap_append]
  rw [List.take_left']
  rw [jA jH,List.length_take,Nat.min_eq_left h]
 rw [h2,jI,List.length_take,Nat.min_eq_left h]
theorem ev114 {g:Hist'} (hs:Small g) (i:Int):∃ v,Ev E 114 [.agg (j2 g),.int .i64 i] v∧SlR v (badH g i).isEmpty (badH g i).length ((badH g i).flatMap intC):=by
 have e129:=j2b hs i
 have hol:=ji1 hs i
 unfold badH
 refine XS (af:=F114) rfl (by decide) ?_
 generalize JE g i=oo at *
 obtain ⟨nl,ops⟩:=oo
 simp only at e129 hol ⊢
 simp [F114,j2,j1]
 refine jV e129 (by simp [j2]) rfl (by simp [j2]) ?_
 rw [YA rfl,jN]
 simp
 refine jE [(5,5),(7,10),(16,49)] ops.length (fun k s=>s.tm 16 = .int .i64 k∧Grow s.tk 0 s.nx intC 1 (X4 ops k) (s.tm 5)) rfl rfl ⟨by simp,by simp [X4];exact Grow.nil _ _ _ _ _⟩ ?_
 rintro k s hk ⟨h16,hG⟩ f
 have f6:s.tm 6=jI nl opC ops:=by rw [f.t 6 (by simp)];simp
 have f14:s.tm 14=jI nl opC ops:=by rw [f.t 14 (by simp)];simp
 have f15:s.tm 15 = .int .i64 ops.length:=by rw [f.t 15 (by simp)];simp
 have fd:s.df=[]:=by rw [f.d];simp
 have fb:s.fb=0:=by rw [f.b];simp
 have fr:s.ro=0:=by rw [f.r];simp
 clear f
 by_cases hlt:k<ops.length
 ·have hw':=jz hlt (by omega)
  have hstep:=jgz hlt
  have hbl:=jfc ops k
  obtain ⟨o,ho⟩:∃ o,ops[k]=o:=⟨_,rfl⟩
  have hload:Yb s.ob (some 4) (.eptr (ops.flatMap opC) (k * 4))=some (.agg (opC o)):=by rw [jX jH s.ob ops hlt,ho]
  have hsl:=jqf (nl:=nl) (ops:=ops) (k:=k) (by omega)
  have e130:=j2a nl (ops.take k) (by rw [List.length_take];omega) o.key
  rw [jo4 _ _ (by omega)] at e130
  rw [ho] at hstep
  unfold j2q at hstep
  cases hw:o.w
  ·rw [hw] at hstep
   cases hk2:(o.v.kind == 2)
   ·have hne2:(o.v.kind != 2)=true:=by simp only [bne,hk2,Bool.not_false]
    rw [hne2] at hstep
    simp only [Bool.not_false,Bool.true_and] at hstep
    simp [h16,f6,f14,f15,hlt,j5 jH,hload,j1,opC,j7,fb,fr,hw,hk2,hsl]
    refine J0 e130 (by simp) rfl (by simp) ?_
    rw [JH (by simp [V.plain,J1])]
    generalize jq o.key ops k=rv at *
    obtain ⟨rv,rb⟩:=rv
    simp only at hstep
    simp [J1,j1,j7,fb,fr]
    refine ⟨by simp [XI,Qo,jfh,jch,rdOb,rdTk,lOf,Delta.wo,Delta.wt];try decide,?_⟩
    cases rb
    ·simp [h16,hw']
     simp only [Bool.false_and,Bool.false_eq_true,if_false,List.append_nil] at hstep
     rw [hstep]
     exact ⟨hlt,hG.mono (fun u _ hu h=>by simpa [jo] using h) (by omega)⟩
    ·cases heq:((rv.kind == o.v.kind) && (rv.n == o.v.n))
     ·rw [heq] at hstep
      simp only [Bool.true_and,Bool.not_false,if_true] at hstep
      simp [j1,heq]
      refine jL (cs:=intC k) (by simp [j7,intC]) rfl rfl ?_
      simp
      refine Xa (f:=intC) (lo:=0) (hi:=s.nx) (l:=X4 ops k) (a:=(k:Int)) (v:=s.tm 5) (hG.mono (fun u _ _ h=>by simp [jl,h]) (Nat.le_refl _)) (by simp) (by simp [jM,intC]) jF (by decide) rfl (by omega) (by omega) (fun del hdel=>?_)
      have hlen:(X4 ops k).length+1=(X4 ops (k+1)).length:=by rw [hstep];simp
      have hne:X4 ops (k+1)≠[]:=by rw [hstep];simp
      rw [← hstep,hlen]
      obtain ⟨M,hM⟩:∃ M,X4 ops (k+1)=M:=⟨_,rfl⟩
      rw [hM] at hne ⊢
      simp [h16,hw',hM]
      exact ⟨hlt,.inr ⟨hne,_,rfl,by simp [jl],Nat.zero_le _,by omega⟩⟩
     ·rw [heq] at hstep
      simp only [Bool.true_and,Bool.not_true,Bool.false_eq_true,if_false,List.append_nil] at hstep
      simp [j1,heq,h16,hw']
      rw [hstep]
      exact ⟨hlt,hG.mono (fun u _ hu h=>by simpa [jo] using h) (by omega)⟩
   ·have hne2:(o.v.kind != 2)=false:=by simp only [bne,hk2,Bool.not_true]
    rw [hne2] at hstep
    simp only [Bool.false_and,Bool.and_false,Bool.false_eq_true,if_false,List.append_nil] at hstep
    simp [h16,f14,f15,hlt,j5 jH,hload,j1,opC,j7,fb,fr,hw,hk2,hw']
    rw [hstep]
    exact hG.mono (fun u _ hu h=>by simpa [jo] using h) (by omega)
  ·rw [hw] at hstep
   simp only [Bool.not_true,Bool.false_and,Bool.false_eq_true,if_false,List.append_nil] at hstep
   simp [h16,f14,f15,hlt,j5 jH,hload,j1,opC,j7,fb,fr,hw,hw']
   rw [hstep]
   exact hG.mono (fun u _ hu h=>by simpa [jo] using h) (by omega)
 ·have:k=ops.length:=by omega
  subst this
  obtain ⟨t,ht⟩:=hG.form
  simp [h16,f15]
  exact slE (t:=t) (nl:=(X4 ops ops.length).isEmpty) (k:=(X4 ops ops.length).length) (cs:=(X4 ops ops.length).flatMap intC) (fun r h=>h) (by simp [fd]) (by simp [ht])
theorem ev40 {g:Hist'} (hs:Small g) (a:Int):∃ v,Ev E 40 [.agg (j2 g),.int .i64 a] v∧SlR v false (badH g a).length ((badH g a).flatMap intC):=by
 have e32:=j87 hs
 have hts:=hs.ts
 refine XS (af:=F40) rfl (by decide) ?_
 obtain ⟨B,hB⟩:∃ B,badH g a=B:=⟨_,rfl⟩
 rw [hB]
 unfold badH JE at hB
 have hend:∀ {st:St},st.df=[]→B=[]→(∃ t,st.tm 4 = .sl t false 0 [])→jep [.t 4] (fun v=>SlR v false B.length (B.flatMap intC)) .ret st:=by
  rintro st hd rfl ⟨t,ht⟩
  exact slE (t:=t) (nl:=false) (k:=0) (cs:=[]) (fun r h=>h) hd ht
 simp [F40,j2]
 refine jL (cs:=[]) rfl rfl rfl ?_
 simp [j1]
 refine jV e32 (by simp [j2]) rfl (by simp [j2]) ?_
 cases hm:X9 g
 ·rw [Wp hm]
  rw [hm] at hB
  simp
  exact hend (by simp) (by simpa [X4] using hB.symm) ⟨some (128,1),by simp⟩
 rw [hm] at hB
 rw [YP hm]
 by_cases k1:a<0
 ·rw [if_neg (by simp;omega)] at hB
  simp [k1]
  exact hend (by simp) (by simpa [X4] using hB.symm) ⟨some (128,1),by simp⟩
 by_cases k2:(g.ts.length:Int)≤a
 ·rw [if_neg (by simp;omega)] at hB
  simp [k1,k2,j1]
  exact hend (by simp) (by simpa [X4] using hB.symm) ⟨some (128,1),by simp⟩
 obtain ⟨i,rfl⟩:∃ i:Nat,a=i:=⟨a.toNat,by omega⟩
 have hi:i<g.ts.length:=by omega
 rw [if_pos (by simp;omega)] at hB
 simp only [Int.toNat_natCast] at hB
 rw [jn hi] at hB
 have hos:=hs.os _ (List.getElem_mem hi)
 have hload:=jX j8 (fun _=>none) g.ts hi
 obtain ⟨t,ht⟩:∃ t,g.ts[i]=t:=⟨_,rfl⟩
 have hload:∀ ob,Yb ob (some 3) (.eptr (g.ts.flatMap ji) (i * 3))=some (.agg (ji t)):=fun ob=>by rw [jX j8 ob g.ts hi,ht]
 rw [ht] at hB hos
 clear hend
 obtain ⟨s0,f0,nl,ops⟩:=t
 simp only at hB hos
 have k1':¬ ((i:Int)<0):=by omega
 have k2':¬ ((g.ts.length:Int)≤i):=by omega
 have k2'':¬ (g.ts.length≤i):=by omega
 simp [k1',k2',j1,hi,j5 j8,hload,ji,j7]
 refine jE [(5,5),(7,9),(31,83)] ops.length (fun k s=>s.tm 7 = .int .i64 k∧s.ob 12=some ⟨1472,.cells (ji ⟨s0,f0,nl,ops⟩)⟩∧GrowT s.tk s.nx intC 1 (X4 ops k) (s.tm 5)) rfl rfl ⟨by simp,by simp [ji],by simp [X4];exact ⟨128,by simp,by simp [jl],by simp⟩⟩ ?_
 rintro k s hk ⟨h7,o12,hG⟩ f
 have f6:s.tm 6 = .ptr 12 1472 0:=by rw [f.t 6 (by simp)];simp
 have fd:s.df=[]:=by rw [f.d];simp
 have fb:s.fb=0:=by rw [f.b];simp
 have fr:s.ro=0:=by rw [f.r];simp
 clear f
 by_cases hlt:k<ops.length
 ·have hw':=jz hlt (by omega)
  have hstep:=jgz hlt
  have hbl:=jfc ops k
  obtain ⟨o,ho⟩:∃ o,ops[k]=o:=⟨_,rfl⟩
  rw [ho] at hstep
  unfold j2q at hstep
  have q0:(ops.flatMap opC)[k * 4]? = some (.bool o.w):=by
   have:=jb jH ops hlt (by decide:0<4)
   rw [Nat.add_zero,ho] at this
   rw [this];rfl
  have q1:(ops.flatMap opC)[k * 4+1]? = some (.int .i64 o.key):=by rw [jb jH ops hlt (by decide:1<4),ho];rfl
  have q2:(ops.flatMap opC)[k * 4+2]? = some (.int .i64 o.v.kind):=by rw [jb jH ops hlt (by decide:2<4),ho];rfl
  have a2:∀ ob,Yb ob (some 2) (.eptr (ops.flatMap opC) (k * 4+2))=some (.agg (J1 o.v)):=fun ob=>by
   have:=XH jH ops k hlt
   have h4:=jA jH ops
   simp only [Yb,Y5]
   rw [if_pos (by omega)]
   congr 2
   rw [ho] at this
   have h2:((ops.flatMap opC).drop (k * 4+2)).take 2=((((ops.flatMap opC).drop (k * 4)).take 4).drop 2).take 2:=by
    rw [List.drop_take,List.drop_drop,List.take_take];rfl
   rw [h2,this];rfl
  have e78:=j86 ⟨s0,f0,nl,ops⟩ (by simp;omega) o.key (n:=k) (by simp;omega)
  simp only at e78
  simp [h7,f6,o12,j1,ji,hlt,j5 jH,q1]
  refine J0 e78 (by simp [ji]) rfl (by simp [ji]) ?_
  rw [JH (by simp [V.plain,J1])]
  generalize jq o.key ops k=rv at *
  obtain ⟨rv,rb⟩:=rv
  simp only at hstep
  simp [J1,j1,j7,fb,fr]
  refine ⟨by simp [XI,Qo,jfh,jch,rdOb,rdTk,lOf,Delta.wo,Delta.wt,f6];try decide,?_⟩
  cases hw:o.w
  ·rw [hw] at hstep q0
   cases rb
   ·simp only [Bool.false_and,Bool.and_false,Bool.false_eq_true,if_false,List.append_nil] at hstep
    simp [h7,f6,hw',o12,j1,ji,hlt,j5 jH,q0]
    rw [hstep]
    refine hG.mono (fun u hu h=>?_) (by omega)
    first | exact h | simpa [jo] using h
   ·cases hk2:(o.v.kind == 2)
    ·have hne2:(o.v.kind != 2)=true:=by simp only [bne,hk2,Bool.not_false]
     rw [hne2] at hstep
     simp only [Bool.not_false,Bool.true_and] at hstep
     have a2':=a2
     simp only [J1] at a2'
     cases heq:((rv.kind == o.v.kind) && (rv.n == o.v.n))
     ·rw [heq] at hstep
      have heq':((o.v.kind == rv.kind) && (o.v.n == rv.n))=false:=by rw [← heq,Bool.beq_comm,Bool.beq_comm (a:=o.v.n)]
      simp only [Bool.not_false,if_true] at hstep
      simp [h7,f6,o12,j1,ji,hlt,j5 jH,q0,q2,hne2,a2',heq']
      refine jL (cs:=intC k) (by simp [j7,intC]) rfl rfl ?_
      simp
      refine XZ (f:=intC) (hi:=s.nx) (l:=X4 ops k) (a:=(k:Int)) (v:=s.tm 5) (hG.mono (fun u _ h=>by simp [jl,h]) (Nat.le_refl _)) (by simp) (by simp [jM,intC]) jF (by decide) rfl (by omega) (by omega) (fun del hdel=>?_)
      have hlen:(X4 ops k).length+1=(X4 ops (k+1)).length:=by rw [hstep];simp
      rw [← hstep,hlen]
      obtain ⟨M,hM⟩:∃ M,X4 ops (k+1)=M:=⟨_,rfl⟩
      rw [hM]
      simp [h7,hw',o12,ji,hM]
      exact ⟨hlt,_,rfl,by simp [jl],by omega⟩
     ·rw [heq] at hstep
      have heq':((o.v.kind == rv.kind) && (o.v.n == rv.n))=true:=by rw [← heq,Bool.beq_comm,Bool.beq_comm (a:=o.v.n)]
      simp only [Bool.not_true,Bool.false_eq_true,if_false,List.append_nil] at hstep
      simp [h7,f6,hw',o12,j1,ji,hlt,j5 jH,q0,q2,hne2,a2',heq']
      rw [hstep]
      refine hG.mono (fun u hu h=>?_) (by omega)
      first | exact h | simpa [jo] using h
    ·have hne2:(o.v.kind != 2)=false:=by simp only [bne,hk2,Bool.not_true]
     rw [hne2] at hstep
     simp only [Bool.false_and,Bool.and_false,Bool.false_eq_true,if_false,List.append_nil] at hstep
     simp [h7,f6,hw',o12,j1,ji,hlt,j5 jH,q0,q2,hne2]
     rw [hstep]
     refine hG.mono (fun u hu h=>?_) (by omega)
     first | exact h | simpa [jo] using h
  ·rw [hw] at hstep q0
   simp only [Bool.not_true,Bool.false_and,Bool.false_eq_true,if_false,List.append_nil] at hstep
   simp [h7,f6,hw',o12,j1,ji,hlt,j5 jH,q0]
   rw [hstep]
   refine hG.mono (fun u hu h=>?_) (by omega)
   first | exact h | simpa [jo] using h
 ·have:k=ops.length:=by omega
  subst this
  rw [hB] at hG
  obtain ⟨u,hu,_,_⟩:=hG
  simp [h7,f6,o12,j1,ji]
  exact slE (t:=some (u,1)) (nl:=false) (k:=B.length) (cs:=B.flatMap intC) (fun r h=>h) (by simp [fd]) (by simp [hu])
structure KnS where
 m:List (Int × Int)
 n:List (Int × Int)
 hop:Bool
 more:Bool
structure Kn (g:Hist') (uK um un:Nat) (s:KnS) (ob:ZO) (ub:Nat):Prop where
 lt:um<un∧un<uK∧uK<ub
 k:ob (2 * uK+1)=some ⟨uK,.cells [jI g.sn JJ g.ss,jI g.kn JJ g.ks,jI g.tn ji g.ts,.map (2 * um+1) um,.map (2 * un+1) un,.bool s.hop,.bool s.more]⟩
 m:∃ ver,ob (2 * um+1)=some ⟨um,.mp ver (MP intV s.m)⟩
 n:∃ ver,ob (2 * un+1)=some ⟨un,.mp ver (MP intV s.n)⟩
def KnP (g:Hist') (uK um un:Nat) (s':KnS) (ob:ZO) (ub:Nat) (r:V × (ZO) × (Nat→Bool) × Nat):Prop :=
 Kn g uK um un s' r.2.1 r.2.2.2∧(∀ key,key≠2 * uK+1→key≠2 * um+1→key≠2 * un+1→(∀ m,ub≤m→key≠2 * m+1)→r.2.1 key=ob key)∧ub≤r.2.2.2
def KnS.learnM (s:KnS) (t:Int):KnS:=if JY s.m t=0 then { s with m:=mset s.m t 1,more:=true } else s
def KnS.learnN (s:KnS) (t:Int):KnS:=if JY s.n t=0 then { s with n:=mset s.n t 1,more:=true } else s
def KnS.fails (s:KnS) (f:Int) (t:Int):KnS:=if f=1 then { s with hop:=true } else if f=3 then s.learnN t else s
theorem KnP.mono {g:Hist'} {uK um un:Nat} {s':KnS} {ob ob1:ZO} {ub ub1:Nat} {r:V × (ZO) × (Nat→Bool) × Nat} (h:KnP g uK um un s' ob1 ub1 r)
 (ho:∀ key,key≠2 * uK+1→key≠2 * um+1→key≠2 * un+1→(∀ m,ub≤m→key≠2 * m+1)→ob1 key=ob key) (hu:ub≤ub1):KnP g uK um un s' ob ub r :=
 ⟨h.1,fun key h1 h2 h3 h4=>(h.2.1 key h1 h2 h3 (fun m hm=>h4 m (by omega))).trans (ho key h1 h2 h3 h4),Nat.le_trans hu h.2.2⟩
theorem Kn.up {g:Hist'} {uK um un:Nat} {s:KnS} {ob ob1:ZO} {ub ub1:Nat} (h:Kn g uK um un s ob ub) (ho:ob1=ob) (hu:ub≤ub1):Kn g uK um un s ob1 ub1 :=
 ⟨⟨h.lt.1,h.lt.2.1,Nat.lt_of_lt_of_le h.lt.2.2 hu⟩,by rw [ho];exact h.k,by rw [ho];exact h.m,by rw [ho];exact h.n⟩
def OwnI (ob:ZO) (v:V) (l:List Int):Prop:=(v = .sl none true 0 []∧l=[])∨∃ L u cs,v = .osl L u 0 l.length 1∧ob L=some ⟨u,.cells cs⟩∧l.length≤cs.length∧cs.take l.length=l.flatMap intC
theorem OwnI.at {l:List Int} {cs:List V} (ht:cs.take l.length=l.flatMap intC) {i:Nat} (h:i<l.length):cs[i]? = some (.int .i64 l[i]):=by
 have h1:=Jh l h
 rw [← ht,List.getElem?_take_of_lt h] at h1
 exact h1
end Go.Pv.T
namespace Go.Pv.T
open Go Go.Pv
end Go.Pv.T
namespace Go.Pv.T
open Go Go.Pv
def KnS.left (s:KnS) (g:Hist') (a b:Int):List Int:=(ofH g a b).filter fun t=>!decide (0<JY s.n t)
def KnS.op (s:KnS) (g:Hist') (f:Int) (t k:Nat) (o:Op'):KnS :=
 if o.v.kind == 2 || !XD g t k then s else
 if (s.left g t k).length=0 then s.fails f t else
 if (s.left g t k).length == 1 && (decide (0≤(s.left g t k).headD 0) && decide (0<JY s.m t)) then s.learnM ((s.left g t k).headD 0) else s
def KnS.ops (s:KnS) (g:Hist') (f:Int) (t:Nat) (l:List Op'):Nat→KnS
 | 0=>s
 | k+1=>match l[k]? with
  | some o=>(s.ops g f t l k).op g f t k o
  | none=>s.ops g f t l k
def KnS.txn (s:KnS) (g:Hist') (t:Nat) (f:Int) (l:List Op'):KnS:=(if (badH g t).isEmpty then s else s.fails f t).ops g f t l l.length
theorem Kn.keep {g:Hist'} {uK um un:Nat} {s:KnS} {ob ob1:ZO} {ub ub1:Nat} (h:Kn g uK um un s ob ub) (ho:∀ key,(∀ m,ub≤m→key≠2 * m+1)→ob1 key=ob key) (hu:ub≤ub1):Kn g uK um un s ob1 ub1:=by
 obtain ⟨⟨l1,l2,l3⟩,hk,⟨vm,hm⟩,⟨vn,hn⟩⟩:=h
 exact ⟨⟨l1,l2,by omega⟩,(ho _ fun m h e=>by omega).trans hk,⟨vm,(ho _ fun m h e=>by omega).trans hm⟩,⟨vn,(ho _ fun m h e=>by omega).trans hn⟩⟩
def Aside (uK um un:Nat) (ob:ZO) (ub:Nat) (ob1:ZO):Prop:=∀ key,key≠2 * uK+1→key≠2 * um+1→key≠2 * un+1→(∀ m,ub≤m→key≠2 * m+1)→ob1 key=ob key
theorem Aside.trans {uK um un:Nat} {ob ob1 ob2:ZO} {ub ub1:Nat} (h:Aside uK um un ob ub ob1) (h':Aside uK um un ob1 ub1 ob2) (hu:ub≤ub1):Aside uK um un ob ub ob2 :=
 fun key h1 h2 h3 h4=>(h' key h1 h2 h3 fun m hm=>h4 m (by omega)).trans (h key h1 h2 h3 h4)
theorem Aside.new {uK um un:Nat} {ob ob1:ZO} {ub:Nat} (h:∀ key,(∀ m,ub≤m→key≠2 * m+1)→ob1 key=ob key):Aside uK um un ob ub ob1:=fun key _ _ _ h4=>h key h4
theorem jit {g:Hist'} (hs:Small g):(jbg g).length≤1000000:=by
 unfold jbg
 have:=Q7 hs g.ts.length
 have h2:=hs.ts
 have:g.ts.length * 1000≤1000 * 1000:=Nat.mul_le_mul_right _ h2
 split
 ·unfold readH;omega
 ·simp
def choW (g:Hist'):List (Bool × List Int):=(jbg g).map fun p=>((ofH g p.1 p.2).isEmpty,ofH g p.1 p.2)
theorem jqn (T:List Int):SlR (jpd T) T.isEmpty T.length (T.flatMap intC):=by
 unfold jpd
 cases T with
 | nil=>exact ⟨none,rfl,by simp⟩
 | cons a l=>exact ⟨some (0,1),rfl,by simp⟩
theorem ev161 {g:Hist'} (hs:Small g):∃ v,Ev E 161 [.agg (j2 g)] v∧SlR v (choW g).isEmpty (choW g).length ((choW g).flatMap jeg):=by
 obtain ⟨vr,evr,hvr⟩:=ev86 hs
 have hll:=jit hs
 obtain ⟨L,hL⟩:∃ L,jbg g=L:=⟨_,rfl⟩
 obtain ⟨C,hC⟩:∃ C,choW g=C:=⟨_,rfl⟩
 have hCL:C=L.map fun p=>((ofH g p.1 p.2).isEmpty,ofH g p.1 p.2):=by rw [← hC,← hL];rfl
 have hCl:C.length=L.length:=by rw [hCL];simp
 rw [hC]
 rw [hL] at hvr hll
 refine XS (af:=F161) rfl (by decide) ?_
 simp [F161,j2,j1]
 refine jV evr (by simp [j2]) rfl (by simp [j2]) ?_
 refine YL hvr fun tc addc=>?_
 simp
 refine jE [(3,5),(9,20)] L.length (fun i s=>s.tm 9 = .int .i64 i∧s.ob 2=some ⟨0,.cells (j2 g)⟩∧Grow s.tk 0 s.nx jeg 1 (C.take i) (s.tm 3)) rfl rfl ⟨by simp,by simp [j2],by simp;exact Grow.nil _ _ _ _ _⟩ ?_
 rintro i s hi ⟨h9,o2,hG⟩ f
 have f1:s.tm 1 = .ptr 2 0 0:=by rw [f.t 1 (by simp)];simp
 have f7:s.tm 7 = .sl tc L.isEmpty L.length (L.flatMap jG):=by rw [f.t 7 (by simp)];simp
 have f8:s.tm 8 = .int .i64 L.length:=by rw [f.t 8 (by simp)];simp
 have fd:s.df=[]:=by rw [f.d];simp
 have fb:s.fb=0:=by rw [f.b];simp
 have fr:s.ro=0:=by rw [f.r];simp
 clear f
 by_cases hlt:i<L.length
 ·have hw:=jz hlt (by omega)
  have hix:JL 2 (.sl tc L.isEmpty L.length (L.flatMap jG)) (.int .i64 (i:Int))=some (.eptr (L.flatMap jG) (i * 2)):=by
   simp only [YS,jA jj]
   rw [if_pos (by simp;omega)]
   rfl
  have hp:=fun ob=>jai L ob hlt
  have hCi:C[i]? = some ((ofH g (L[i]).1 (L[i]).2).isEmpty,ofH g (L[i]).1 (L[i]).2):=by
   rw [hCL,List.getElem?_map,List.getElem?_eq_getElem hlt];rfl
  have e27:=ev217 hs (L[i]).1 (L[i]).2
  generalize (L[i]).1=a at *
  generalize (L[i]).2=b at *
  obtain ⟨T,hT⟩:∃ T,ofH g a b=T:=⟨_,rfl⟩
  rw [hT] at e27 hCi
  simp [h9,f1,f7,f8,o2,j1,j2,hlt,hix,hp,j7,fb,fr]
  refine jV e27 (by simp [j2,jG]) rfl (by simp [j2,jG]) ?_
  refine YL (jqn T) fun t add=>?_
  simp
  have hstep:C.take (i+1)=C.take i++[(T.isEmpty,T)]:=by
   rw [List.take_add_one,hCi];rfl
  have hil:i<C.length:=by omega
  have htl:(C.take i).length=i:=by rw [List.length_take];omega
  refine jL (cs:=[.sl t T.isEmpty T.length (T.flatMap intC)]) (by simp [j7]) rfl (by simp [V.strip1,V.pureLeaf]) ?_
  simp [V.strip1]
  refine Xa (f:=jeg) (lo:=0) (hi:=s.nx) (l:=C.take i) (a:=(T.isEmpty,T)) (v:=s.tm 3) (hG.mono (fun u _ _ h=>by simp [jl,h]) (Nat.le_refl _)) (by simp) (by simp [jM,jeg]) jaq (by decide) (by simp [jeg,V.pureLeaf]) (by omega) (by omega) (fun del hdel=>?_)
  have hne:C.take (i+1)≠[]:=by rw [hstep];simp
  have hlen:(C.take i).length+1=(C.take (i+1)).length:=by rw [hstep,List.length_append];rfl
  rw [← hstep,hlen]
  obtain ⟨M,hM⟩:∃ M,C.take (i+1)=M:=⟨_,rfl⟩
  rw [hM] at hne ⊢
  simp [h9,hw,o2,j2,hM]
  exact ⟨hlt,.inr ⟨hne,_,rfl,by simp [jl],Nat.zero_le _,by omega⟩⟩
 ·have:i=L.length:=by omega
  subst this
  rw [← hCl,List.take_length] at hG
  obtain ⟨t,ht⟩:=hG.form
  simp [h9,f8]
  exact slE (t:=t) (nl:=C.isEmpty) (k:=C.length) (cs:=C.flatMap jeg) (fun r h=>h) (by simp [fd]) (by simp [ht])
def choR (g:Hist'):List (Bool × List Int):=(readH g).map fun p=>(false,ofH g p.1 p.2)
theorem YM {g:Hist'} (hs:Small g):(readH g).length≤1000000:=by
 have:=Q7 hs g.ts.length
 have h2:=hs.ts
 have:g.ts.length * 1000≤1000 * 1000:=Nat.mul_le_mul_right _ h2
 unfold readH;omega
theorem ev61 {g:Hist'} (hs:Small g):∃ v,Ev E 61 [.agg (j2 g)] v∧SlR v false (choR g).length ((choR g).flatMap jeg):=by
 obtain ⟨vr,evr,hvr⟩:=ev31 hs
 have hll:=YM hs
 obtain ⟨L,hL⟩:∃ L,readH g=L:=⟨_,rfl⟩
 obtain ⟨C,hC⟩:∃ C,choR g=C:=⟨_,rfl⟩
 have hCL:C=L.map fun p=>(false,ofH g p.1 p.2):=by rw [← hC,← hL];rfl
 have hCl:C.length=L.length:=by rw [hCL];simp
 rw [hC]
 rw [hL] at hvr hll
 refine XS (af:=F61) rfl (by decide) ?_
 simp [F61,j2,j1]
 refine jV evr (by simp [j2]) rfl (by simp [j2]) ?_
 refine YL hvr fun tc addc=>?_
 simp
 refine jL (cs:=[]) rfl rfl rfl ?_
 simp
 refine jE [(4,5),(9,24)] L.length (fun i s=>s.tm 5 = .int .i64 i∧s.ob 2=some ⟨0,.cells (j2 g)⟩∧GrowT s.tk s.nx jeg 1 (C.take i) (s.tm 4)) rfl rfl ⟨by simp,by simp [j2],⟨256,by simp,by simp [jl],by simp⟩⟩ ?_
 rintro i s hi ⟨h5,o2,hG⟩ f
 have f1:s.tm 1 = .ptr 2 0 0:=by rw [f.t 1 (by simp)];simp
 have f3:s.tm 3 = .sl tc false L.length (L.flatMap jG):=by rw [f.t 3 (by simp)];simp
 have fd:s.df=[]:=by rw [f.d];simp
 clear f
 by_cases hlt:i<L.length
 ·have hw:=jz hlt (by omega)
  have hix:JL 2 (.sl tc false L.length (L.flatMap jG)) (.int .i64 (i:Int))=some (.eptr (L.flatMap jG) (i * 2)):=by
   simp only [YS,jA jj]
   rw [if_pos (by simp;omega)]
   rfl
  have hp:=fun ob=>jai L ob hlt
  have hCi:C[i]? = some (false,ofH g (L[i]).1 (L[i]).2):=by
   rw [hCL,List.getElem?_map,List.getElem?_eq_getElem hlt];rfl
  obtain ⟨vo,evo,hvo⟩:=j9e hs (L[i]).1 (L[i]).2
  generalize (L[i]).1=a at *
  generalize (L[i]).2=b at *
  obtain ⟨T,hT⟩:∃ T,ofH g a b=T:=⟨_,rfl⟩
  rw [hT] at hvo hCi
  have hstep:C.take (i+1)=C.take i++[(false,T)]:=by
   rw [List.take_add_one,hCi];rfl
  have hil:i<C.length:=by omega
  have htl:(C.take i).length=i:=by rw [List.length_take];omega
  simp [h5,f1,f3,o2,j1,j2,hlt,hix,hp]
  refine J0 evo (by simp [j2,jG]) rfl (by simp [j2,jG]) ?_
  refine YL hvo fun t add=>?_
  simp
  refine jpa (cs:=[.sl t false T.length (T.flatMap intC)]) (by simp [j7]) rfl (by simp [V.strip1,V.pureLeaf]) ?_
  simp [V.strip1]
  refine jpb (f:=jeg) (hi:=s.nx) (l:=C.take i) (a:=(false,T)) (v:=s.tm 4) (hG.mono (fun u _ h=>by simp [jl,h]) (Nat.le_refl _)) (by simp) (by simp [jM,jeg]) jaq (by decide) (by simp [jeg,V.pureLeaf]) (by omega) (by omega) (fun del hdel=>?_)
  have hlen:(C.take i).length+1=(C.take (i+1)).length:=by rw [hstep,List.length_append];rfl
  rw [← hstep,hlen]
  obtain ⟨M,hM⟩:∃ M,C.take (i+1)=M:=⟨_,rfl⟩
  rw [hM]
  simp [h5,hw,o2,j2,hM]
  exact ⟨hlt,_,rfl,by simp [jl],by omega⟩
 ·have:i=L.length:=by omega
  subst this
  rw [← hCl,List.take_length] at hG
  obtain ⟨u,hv,_,_⟩:=hG
  simp [h5,f3]
  exact slE (t:=some (u,1)) (nl:=false) (k:=C.length) (cs:=C.flatMap jeg) (fun r h=>h) (by simp [fd]) (by simp [hv])
def ja8:List (Bool × List Int)→List Int→Bool
 | [],_=>true
 | _::_,[]=>false
 | c::cs,m::ms=>c.2.contains m && ja8 cs ms
def jce (g:Hist') (M:List Int):Bool:=jw g && (M.length == (choR g).length && ja8 (choR g) M)
theorem jyk (C:List (Bool × List Int)) {i:Nat} (h:i<C.length):(C.flatMap jeg)[i]? = some (.sl none (C[i]).1 (C[i]).2.length ((C[i]).2.flatMap intC)):=by
 have:=jb jaq C h (by decide:0<1)
 rw [Nat.mul_one,Nat.add_zero] at this
 rw [this];rfl
theorem jr1 {g:Hist'} (hm:X9 g=true) (a b:Int):(ofH g a b).length≤41:=by
 unfold ofH
 split
 ·split
  ·simp
  ·exact j0s (jsd hm) a _
 ·simp
theorem ev22 {g:Hist'} (hs:Small g) {b:Bool} (M:List Int) (_:M.length≤1000000000):Ev E 22 [.agg (j2 g),jI b intC M] (.bool (jce g M)):=by
 have e37:=ev21 hs
 refine jT (af:=F22) rfl ?_
 unfold jce
 cases hw:jw g
 ·rw [hw] at e37
  simp [F22,j2,j1]
  refine jV e37 (by simp [j2]) rfl (by simp [j2]) ?_
  simp
  exact j3 (by simp) (by simp) rfl
 rw [hw] at e37
 obtain ⟨vc,evc,hvc⟩:=ev61 hs
 have hrl:=YM hs
 have hCl:(choR g).length≤1000000:=by unfold choR;rw [List.length_map];exact hrl
 have hCo:∀ x∈choR g,x.2.length≤41:=by
  intro x hx
  unfold choR at hx
  obtain ⟨p,_,rfl⟩:=List.mem_map.1 hx
  have hm:X9 g=true:=by unfold jw at hw;simp only [Bool.and_eq_true] at hw;exact hw.1
  exact jr1 hm _ _
 generalize choR g=C at *
 simp [F22,j2,j1]
 refine jV e37 (by simp [j2]) rfl (by simp [j2]) ?_
 simp [j1]
 refine jV evc (by simp [j2]) rfl (by simp [j2]) ?_
 refine YL hvc fun tc addc=>?_
 by_cases hl:M.length=C.length
 ·obtain ⟨R,hR⟩:∃ R,ja8 C M=R:=⟨_,rfl⟩
  rw [hR]
  simp [hl]
  refine jE [(4,4),(6,6),(17,32)] C.length (fun i s=>s.tm 6 = .int .i64 i∧ja8 (C.drop i) (M.drop i)=R) rfl rfl ⟨by simp,by simpa using hR⟩ ?_
  rintro i s hi ⟨h6,hT⟩ f
  have f1:s.tm 1=jI b intC M:=by rw [f.t 1 (by simp)];simp
  have f5:s.tm 5 = .sl tc false C.length (C.flatMap jeg):=by rw [f.t 5 (by simp)];simp
  have fd:s.df=[]:=by rw [f.d];simp
  clear f
  by_cases hlt:i<C.length
  ·have hw':=jz hlt (by omega)
   have hlt2:i<M.length:=by omega
   have h1:=jyk C hlt
   have h2:=Jh M hlt2
   have hix:JL 1 (.sl tc false C.length (C.flatMap jeg)) (.int .i64 (i:Int))=some (.eptr (C.flatMap jeg) (i * 1)):=by
    simp only [YS,jA jaq]
    rw [if_pos (by simp;omega)]
    rfl
   rw [Nat.mul_one] at hix
   rw [List.drop_eq_getElem_cons hlt,List.drop_eq_getElem_cons hlt2,ja8] at hT
   have e87:=ev62 (a:=(C[i]).1) (C[i]).2 (by have:=hCo _ (List.getElem_mem hlt);omega) M[i]
   simp [h6,f1,f5,hlt,hlt2,hix,j5 jF,h1,h2]
   refine J0 e87 (by simp [jI]) rfl (by simp [jI]) ?_
   cases hc:(C[i]).2.contains M[i]
   ·rw [hc,Bool.false_and] at hT
    simp
    exact j3 (by simp [fd]) (by simp [← hT]) rfl
   ·rw [hc,Bool.true_and] at hT
    simp [h6,hw']
    exact ⟨hlt,hT⟩
  ·have:i=C.length:=by omega
   subst this
   rw [List.drop_length,ja8] at hT
   simp [h6,f5]
   exact j3 (by simp [fd]) (by simp [← hT]) rfl
 ·have hne:((M.length:Int) != C.length)=true:=by simp;omega
  have hne2:(M.length == C.length)=false:=by simp;omega
  simp [hne]
  exact j3 (by simp) (by simp [hne2]) rfl
theorem kD_own {st:St} {ub:Nat} {K:List FP→St→Prop} {d:Option Nat} {nm:Bool} {r:List AOpr} {f:FuncId} {xs:List A} {vs args':List V} {v:V} {δ:Delta} (hx:xs.map (eval E st.tm)=vs) (hs:E.sh nm f=true) (htw:E.tw f=true)
 (ha:vs.mapM (W8 st.ob)=some args') (hev:Ev E f args' v) (hδ:QM (jP d nm st.fb ub) ub v=some δ)
 (h:jJ E r (st.app d δ) (ub+64) (kFp { wo:=δ.wo,all:=true,seen:=fun l=>(st.ob l).isSome,nw:=true } K)):jJ E (⟨d,.call f xs,none,nm⟩::r) st ub K:=by
 have hsh:jB E nm (eval E st.tm) (.call f xs)=some (f,vs):=by simp only [jB,hs,hx,Bool.not_true,Bool.false_and,Bool.false_eq_true,if_false]
 simp only [jJ,wanted,hsh]
 exact .inr ⟨hs,htw,args',v,ha,hev,δ,by rw [name_eq'];exact hδ,h⟩
where
 name_eq':∀ {d:Option Nat} {op:AOp} {nm:Bool} {fb ub:Nat},AOpr.name ⟨d,op,none,nm⟩ fb ub=jP d nm fb ub:=by
  intro d op nm fb ub;cases nm <;> rfl
def KnS.round (s:KnS) (g:Hist'):Nat→KnS
 | 0=>{ s with more:=false }
 | i+1=>match g.ts[i]? with
  | some t=>(s.round g i).txn g i t.f t.ops
  | none=>s.round g i
def KnS.iter (g:Hist'):Nat→KnS→KnS
 | 0,s=>s
 | k+1,s=>if s.more then KnS.iter g k (s.round g g.ts.length) else s
def jjy (m:List (Int × Int)):Nat→Nat
 | 0=>0
 | i+1=>jjy m i+if JY m i=0 then 1 else 0
theorem jey {m:List (Int × Int)} {t:Int} (h0:JY m t=0):∀ n:Nat,(jjy (mset m t 1) n≤jjy m n)∧(0≤t→t<n→jjy (mset m t 1) n+1≤jjy m n)
 | 0=>⟨Nat.le_refl _,fun h1 h2=>by omega⟩
 | i+1=>by
  have ih:=jey h0 i
  simp only [jjy,XO]
  by_cases hit:(i:Int)=t
  ·rw [if_pos hit,hit,if_pos h0,if_neg (by decide)]
   exact ⟨by omega,fun _ _=>by omega⟩
  ·rw [if_neg hit]
   refine ⟨by omega,fun h1 h2=>?_⟩
   have:=ih.2 h1 (by omega)
   omega
def KnS.free (s:KnS) (n:Nat):Nat:=jjy s.m n+jjy s.n n
def Less (n:Nat) (s s':KnS):Prop:=s'.free n≤s.free n∧(s'.more=true→s.more=true∨s'.free n+1≤s.free n)∧(s.more=true→s'.more=true)
theorem Less.rfl' (n:Nat) (s:KnS):Less n s s:=⟨Nat.le_refl _,fun h=>.inl h,fun h=>h⟩
theorem Less.trans {n:Nat} {a b c:KnS} (h:Less n a b) (h':Less n b c):Less n a c :=
 ⟨Nat.le_trans h'.1 h.1,fun hm=>by
  rcases h'.2.1 hm with h1 | h1
  ·rcases h.2.1 h1 with h2 | h2
   ·exact .inl h2
   ·exact .inr (by have:=h'.1;omega)
  ·exact .inr (by have:=h.1;omega),fun hm=>h'.2.2 (h.2.2 hm)⟩
theorem Less.learnM {n:Nat} {s:KnS} {t:Int} (h1:0≤t) (h2:t<n):Less n s (s.learnM t):=by
 unfold KnS.learnM
 split
 ·rename_i h0
  have:=jey h0 n
  have:=this.2 h1 h2
  exact ⟨by simp only [KnS.free];omega,fun _=>.inr (by simp only [KnS.free];omega),fun _=>rfl⟩
 ·exact .rfl' n s
theorem Less.learnN {n:Nat} {s:KnS} {t:Int} (h1:0≤t) (h2:t<n):Less n s (s.learnN t):=by
 unfold KnS.learnN
 split
 ·rename_i h0
  have:=jey h0 n
  have:=this.2 h1 h2
  exact ⟨by simp only [KnS.free];omega,fun _=>.inr (by simp only [KnS.free];omega),fun _=>rfl⟩
 ·exact .rfl' n s
theorem Less.fails {n:Nat} {s:KnS} {f t:Int} (h1:0≤t) (h2:t<n):Less n s (s.fails f t):=by
 unfold KnS.fails
 split
 ·exact ⟨Nat.le_refl _,fun h=>.inl h,fun h=>h⟩
 ·split
  ·exact .learnN h1 h2
  ·exact .rfl' n s
theorem jr0 {g:Hist'} {a b x:Int} (h:x∈ofH g a b):x<g.ts.length:=by
 unfold ofH at h
 split at h
 ·split at h
  ·simp at h
  ·rename_i o _ _
   unfold ofL js at h
   rcases List.mem_append.1 h with h | h
   ·split at h
    ·simp at h
    ·simp at h;omega
   ·have:=W2 (p:=wrB o.key) (ts:=g.ts) g.ts.length (Nat.le_refl _)
    exact (this.1 x (List.mem_filter.1 h).1).2
 ·simp at h
theorem Less.op {g:Hist'} {s:KnS} {f:Int} {t k:Nat} {o:Op'} (ht:t<g.ts.length):Less g.ts.length s (s.op g f t k o):=by
 unfold KnS.op
 split
 ·exact .rfl' _ s
 ·split
  ·exact .fails (by omega) (by omega)
  ·rename_i h0
   split
   ·rename_i h1
    simp only [Bool.and_eq_true,decide_eq_true_eq] at h1
    refine .learnM h1.2.1 ?_
    cases hl:s.left g t k with
    | nil=>rw [hl] at h0;simp at h0
    | cons x r =>
     have hm:x∈s.left g t k:=by rw [hl];exact List.mem_cons_self ..
     exact jr0 (List.mem_filter.1 hm).1
   ·exact .rfl' _ s
theorem Less.ops {g:Hist'} {s:KnS} {f:Int} {t:Nat} {l:List Op'} (ht:t<g.ts.length):∀ k,Less g.ts.length s (s.ops g f t l k)
 | 0=>.rfl' _ s
 | k+1=>by
  simp only [KnS.ops]
  split
  ·exact (Less.ops ht k).trans (.op ht)
  ·exact Less.ops ht k
theorem Less.txn {g:Hist'} {s:KnS} {f:Int} {t:Nat} {l:List Op'} (ht:t<g.ts.length):Less g.ts.length s (s.txn g t f l):=by
 unfold KnS.txn
 refine Less.trans ?_ (.ops ht _)
 split
 ·exact .rfl' _ s
 ·exact .fails (by omega) (by omega)
theorem Less.round {g:Hist'} {s:KnS}:∀ i,i≤g.ts.length→Less g.ts.length { s with more:=false } (s.round g i)
 | 0,_=>.rfl' _ _
 | i+1,h=>by
  simp only [KnS.round,List.getElem?_eq_getElem (show i<g.ts.length by omega)]
  exact (Less.round i (by omega)).trans (.txn (by omega))
structure KnRun (g:Hist') (ub:Nat) (ob:ZO) (ro:Nat) (uK um un:Nat) (s:KnS) (st:St):Prop where
 kn:Kn g uK um un s st.ob st.nx
 t1:st.tm 1 = .ptr (2 * ub+1) ub 0
 t3:st.tm 3 = .ptr (2 * uK+1) uK 0
 df:st.df=[]
 ro:st.ro=ro
 h:st.ob (2 * ub+1)=some ⟨ub,.cells (j2 g)⟩
 old:∀ key,(∀ m,ub≤m→key≠2 * m+1)→st.ob key=ob key
theorem KnRun.up {g:Hist'} {ub:Nat} {ob:ZO} {ro uK um un:Nat} {s:KnS} {st st':St} (k:KnRun g ub ob ro uK um un s st) (ho:st'.ob=st.ob) (hn:st.nx≤st'.nx) (h1:st'.tm 1=st.tm 1) (h3:st'.tm 3=st.tm 3) (hd:st'.df=st.df) (hr:st'.ro=st.ro):KnRun g ub ob ro uK um un s st' :=
 ⟨k.kn.up ho hn,h1.trans k.t1,h3.trans k.t3,hd.trans k.df,hr.trans k.ro,by rw [ho];exact k.h,by rw [ho];exact k.old⟩
end Go.Pv.T
namespace Go.Pv.T
open Go Go.Pv
end Go.Pv.T
namespace Go.Pv.T
open Go Go.Pv
end Go.Pv.T
namespace Go.Pv.T
open Go Go.Pv
def j98 (l:List V) (v:V):Prop:=∃ vs,v = .tup vs∧vs.map V.strip1=l∧∀ p∈vs.flatMap V.toks,p<64
def j7z:V→Bool
 | .agg _=>false
 | _=>true
theorem j4d {ub:Nat} {v:V} {l:List V} {K:Delta→Prop} (hv:j98 l v) (hl:l.all j7z=true) (h:∀ ws add,ws.map V.strip1=l→K { v:=.tup ws,add:=add }):wpD (Xv ub v) K:=by
 obtain ⟨vs,rfl,hs,ht⟩:=hv
 have e:Xv ub (.tup vs)=some { v:=.tup (vs.map (jaz ub)),add:=(vs.flatMap V.toks).map (ub + ·) }:=by
  rw [Xv,if_pos (by simpa only [toksRes,List.all_eq_true,Nat.blt_eq] using ht)]
  rfl
 rw [e,jN]
 refine h _ _ ?_
 rw [← hs,List.map_map]
 refine List.map_congr_left fun w hw=>?_
 have hn:j7z w.strip1=true:=List.all_eq_true.1 hl _ (by rw [← hs];exact List.mem_map.2 ⟨w,hw,rfl⟩)
 cases w with
 | agg=>cases hn
 | sl t nl n cs=>cases t <;> rfl
 | _=>rfl
theorem jij {w:V} {nl:Bool} {n:Nat} {cs:List V} (h:w.strip1 = .sl none nl n cs):∃ t,w = .sl t nl n cs:=by
 cases w <;> simp [V.strip1] at h
 obtain ⟨rfl,rfl,rfl⟩:=h
 exact ⟨_,rfl⟩
theorem jkl {w:V} {b:Bool} (h:w.strip1 = .bool b):w = .bool b:=by cases w <;> simp [V.strip1] at h;subst h;rfl
theorem map3 {α β:Type} {f:α→β} {ws:List α} {a b c:β} (h:ws.map f=[a,b,c]):∃ x y z,ws=[x,y,z]∧f x=a∧f y=b∧f z=c:=by
 match ws with
 | [x,y,z]=>simp only [List.map_cons,List.map_nil,List.cons.injEq,and_true] at h;exact ⟨x,y,z,rfl,h.1,h.2.1,h.2.2⟩
 | []=>simp at h
 | [_]=>simp at h
 | [_,_]=>simp at h
 | _::_::_::_::_=>simp at h
theorem jya {ub:Nat} {v:V} {a1 a2 b:Bool} {n1 n2:Nat} {c1 c2:List V} {K:Delta→Prop} (hv:j98 [.sl none a1 n1 c1,.sl none a2 n2 c2,.bool b] v)
 (h:∀ t1 t2 add,K { v:=.tup [.sl t1 a1 n1 c1,.sl t2 a2 n2 c2,.bool b],add:=add }):wpD (Xv ub v) K:=by
 refine j4d hv rfl fun ws add hw=>?_
 obtain ⟨x,y,z,rfl,h1,h2,h3⟩:=map3 hw
 obtain ⟨t1,rfl⟩:=jij h1
 obtain ⟨t2,rfl⟩:=jij h2
 obtain rfl:=jkl h3
 exact h t1 t2 add
def j22 (st:St) (v w:V):Prop:=∀ keep i,∃ a,XM st keep i v=some a∧a.strip1=w∧(a.toks=[]∨a.toks=[i])
def jnw (st:St):List V→List V→Prop
 | [],[]=>True
 | v::vs,w::ws=>j22 st v w∧jnw st vs ws
 | _,_=>False
theorem Q9 {st:St} {v:V} (h:v.pureLeaf=true):j22 st v v:=by
 intro keep i
 refine ⟨v,?_,Xi h,.inl ?_⟩
 ·cases v with
  | agg=>cases h
  | fn=>cases h
  | _=>exact Yi (st:=st) (keep:=keep) (i:=i) h
 ·cases v with
  | agg=>cases h
  | _=>exact jmf h
theorem jmy {st:St} {v:V} {nl:Bool} {n:Nat} {cs:List V} (hv:v.leaf=true) (h:jb2 st v nl n cs):j22 st v (.sl none nl n cs):=by
 intro keep i
 obtain ⟨a,ha,ht⟩:=h keep i
 refine ⟨.sl a nl n cs,?_,rfl,?_⟩
 ·rw [← ha]
  cases v with
  | agg=>cases hv
  | fn=>simp only [jr,JW] at ha;split at ha <;> cases ha
  | _=>rfl
 ·rcases ht with rfl | ⟨z,rfl⟩
  ·exact .inl rfl
  ·exact .inr rfl
theorem W0 {st:St} {keep:Bool}:∀ {vs ls:List V} {i:Nat},jnw st vs ls→∃ as1,JD st keep i vs=some as1∧as1.map V.strip1=ls∧(∀ p∈as1.flatMap V.toks,i≤p∧p<i+16 * vs.length)∧nodup (as1.flatMap V.toks)=true
 | [],[],i,_=>⟨[],rfl,rfl,by simp,rfl⟩
 | v::vs,w::ws,i,h=>by
  obtain ⟨a,h1,h2,h3⟩:=h.1 keep i
  obtain ⟨as1,k1,k2,k3,k4⟩:=W0 (keep:=keep) (i:=i+16) h.2
  refine ⟨a::as1,by simp only [JD,h1,Option.bind_some,k1,Option.map_some],by rw [List.map_cons,h2,k2],fun p hp=>?_,?_⟩
  ·rw [List.flatMap_cons,List.mem_append] at hp
   simp only [List.length_cons]
   rcases hp with hp | hp
   ·rcases h3 with h3 | h3 <;> rw [h3] at hp <;> simp at hp
    omega
   ·have:=k3 p hp;omega
  ·rw [List.flatMap_cons]
   rcases h3 with h3 | h3 <;> rw [h3]
   ·exact k4
   ·simp only [List.singleton_append,nodup,Bool.and_eq_true,k4,and_true,Bool.not_eq_true']
    rw [Bool.eq_false_iff]
    intro hc
    obtain ⟨p,hp,he⟩:=List.any_eq_true.1 hc
    have:=Nat.eq_of_beq_eq_true he
    have:=k3 p hp
    omega
 | [],_::_,_,h=>h.elim
 | _::_,[],_,h=>h.elim
theorem jmq (st:St):∀ ns:List Nat,(ns.map ARes.t).mapM (jm st)=some (ns.map st.tm)
 | []=>rfl
 | n::ns=>by rw [List.map_cons,List.mapM_cons,jmq st ns];rfl
theorem tupE {ns:List Nat} {st:St} {vs ls:List V} {P:V→Prop} (hP:∀ r,j98 ls r→P r) (hd:st.df=[]) (h:ns.map st.tm=vs) (h2:2≤vs.length) (h4:vs.length≤4) (ho:jnw st vs ls):jep (ns.map .t) P .ret st:=by
 obtain ⟨as1,k1,k2,k3,k4⟩:=W0 (keep:=nodup (vs.flatMap V.toks)) (i:=0) ho
 have hal:2≤as1.length:=by
  have e1:=congrArg List.length k2
  have:∀ {vs ls:List V},jnw st vs ls→vs.length=ls.length:=by
   intro vs
   induction vs with
   | nil=>intro ls h;cases ls with | nil=>rfl | cons=>exact h.elim
   | cons v vs ih=>intro ls h;cases ls with | nil=>exact h.elim | cons w ws=>rw [List.length_cons,List.length_cons,ih h.2]
  have:=this ho
  simp only [List.length_map] at e1
  omega
 refine ⟨.tup as1,?_,hP _ ⟨as1,rfl,k2,fun p hp=>by have:=k3 p hp;omega⟩⟩
 simp only [ja3,YW hd,YO hd,if_true,jmq,h,Option.bind_some,Yh,k1,k4]
 match as1,hal with
 | a::b::r,_=>rfl
theorem ev25 (b:Bool) (l:List Int) (hl:l.length≤1000000000):∃ v,Ev E 25 [jI b intC l] v∧SlR v false l.length (l.flatMap intC):=by
 refine XS (af:=F25) rfl (by decide) ?_
 simp [F25]
 refine jL (cs:=[]) rfl rfl rfl ?_
 simp
 refine jfm (f:=intC) (l:=l) (u:=64) (by simp) (by simp [jl]) (by simp [jio jF]) jF (by decide) (by simp [intC,V.pureLeaf]) (by omega) (by omega) (fun t del add _ _=>?_)
 simp
 exact slE (t:=t) (nl:=false) (k:=l.length) (cs:=l.flatMap intC) (fun r h=>h) (by simp) (by simp)
section
variable {E:Env} {Yf:YF} {st:St} {ub:Nat} {K:St→Nat→Prop} {d:Option Nat} {nm:Bool}
theorem jwh {sz bytes n:Nat} {zero:List V} {x y:A} (hl:eval E st.tm x = .int .i64 (n:Int)) (hc:eval E st.tm y = .int .i64 (n:Int)) (hb:n * bytes≤140737488355328) (hn:n≤140737488355328) (hz:zero.length=sz) (h0:0<sz)
 (h:QP K st d ub { v:=.osl (jP d nm st.fb ub) ub 0 n sz,obs:=[(jP d nm st.fb ub,⟨ub,.cells (jaf n zero)⟩)] }):j9 E Yf ⟨d,.mkSl true sz bytes zero x y,none,nm⟩ st ub K:=by
 rw [jS _ rfl rfl]
 simp only [aop,hl,hc]
 rw [if_pos (by refine ⟨by omega,by omega,?_,by omega,hz,h0⟩;rw [← Int.natCast_mul];exact Int.ofNat_le.2 hb),if_neg (by simp),Jb,jN]
 simp only [Int.toNat_natCast,Jz]
 exact h
end
def Upto (n i:Nat) (J:List Int) (cs:List V):Prop:=cs.length=n∧(∀ j,j<i→cs[j]? = (J.flatMap intC)[j]?)∧cs.all V.pureLeaf=true
theorem Upto.set {n i:Nat} {J:List Int} {cs:List V} (h:Upto n i J cs) (hi:i<n) {x:Int} (hx:J[i]? = some x):Upto n (i+1) J (j7 cs i [.int .i64 x]):=by
 obtain ⟨h1,h2,h3⟩:=h
 have hs:j7 cs i [.int .i64 x]=cs.set i (.int .i64 x):=by
  unfold j7
  rw [List.set_eq_take_append_cons_drop,if_pos (by omega),List.append_assoc]
  rfl
 rw [hs]
 refine ⟨by rw [List.length_set];exact h1,fun j hj=>?_,?_⟩
 ·by_cases hji:j=i
  ·subst hji
   have hJ:=(List.getElem?_eq_some_iff.1 hx)
   rw [List.getElem?_set_self (by omega),Jh J hJ.1,hJ.2]
  ·rw [List.getElem?_set_ne (fun e=>hji e.symm)]
   exact h2 j (by omega)
 ·refine List.all_eq_true.2 fun y hy=>?_
  rcases List.mem_or_eq_of_mem_set hy with hy | rfl
  ·exact List.all_eq_true.1 h3 y hy
  ·rfl
theorem Upto.whole {n:Nat} {J:List Int} {cs:List V} (h:Upto n n J cs) (hJ:J.length=n):cs=J.flatMap intC:=by
 apply List.ext_getElem?
 intro j
 by_cases hj:j<n
 ·exact h.2.1 j hj
 ·rw [List.getElem?_eq_none (by rw [h.1];omega),List.getElem?_eq_none (by rw [jA jF];omega)]
theorem Upto.zero (n:Nat) (J:List Int):Upto n 0 J (jaf n [.int .i64 0]):=by
 refine ⟨by simp [jaf],fun j hj=>by omega,?_⟩
 refine List.all_eq_true.2 fun y hy=>?_
 simp only [jaf,List.mem_map] at hy
 obtain ⟨i,_,rfl⟩:=hy
 simp [V.pureLeaf,Nat.mod_one]
theorem j8d {st:St} {ub:Nat} {K:List FP→St→Prop} {d:Option Nat} {nm:Bool} {r:List AOpr} {f:FuncId} {xs:List A} {vs:List V} {v:V} {δ:Delta} (hx:xs.map (eval E st.tm)=vs) (hs:E.sh nm f=false) (hp:(vs.all fun v=>v.strip.pureTop)=false)
 (hev:EvO E f vs st.ob st.tk ((st.fb+d.getD 0+1) * 1024) (ub+64 * (r.length+1)) v) (hδ:Xv ub v=some δ)
 (h:jJ E r (st.app d δ) (ub+64) (kFp { wt:=δ.wt,all:=true,seen:=fun l=>(st.ob l).isSome } K)):jJ E (⟨d,.call f xs,none,nm⟩::r) st ub K:=by
 have hp':(xs.all fun x=>(eval E st.tm x).strip.pureTop)=false:=by
  rw [← hx,List.all_map] at hp
  exact hp
 have hsh:jB E nm (eval E st.tm) (.call f xs)=some (f,vs):=by simp only [jB,hs,hx,hp',Bool.not_false,Bool.and_false,Bool.false_eq_true,if_false]
 simp only [jJ,wanted,hsh]
 exact .inl ⟨hs,v,hev,δ,hδ,h⟩
def blC (b:Bool):List V:=[.bool b]
@[simp] theorem jl3 (b:Bool):(blC b).length=1:=rfl
theorem bl_at (l:List Bool) {i:Nat} (h:i<l.length):(l.flatMap blC)[i]? = some (.bool l[i]):=by
 have:=jb jl3 l h (by decide:0<1)
 simpa [blC] using this
end Go.Pv.T
namespace Go.Pv.T
open Go Go.Pv Go.Sort
@[simp] theorem cellV_lf (v:Val'):(jb0 v).leaf=true:=by unfold jb0;split;rfl;split <;> rfl
def j73 (a b:Val'):Bool:=if a.kind=b.kind then (a.kind == 1 && decide (a.n<b.n)) else decide (a.kind<b.kind)
def cmpV (a b:Val'):Int:=if jif a && jif b && j73 a b then -1 else if jif b && jif a && j73 b a then 1 else 0
abbrev VV:Type:={ v:Val' // jif v=true }
instance:Inhabited VV:=⟨⟨⟨0,0⟩,rfl⟩⟩
def vvC (v:VV):List V:=J1 v.1
@[simp] theorem jzd (v:VV):(vvC v).length=2:=rfl
@[simp] theorem vvC_leaf (v:VV):∀ x∈vvC v,x.leaf=true:=by
 intro x hx
 simp only [vvC,J1,List.mem_cons,List.not_mem_nil,or_false] at hx
 rcases hx with rfl | rfl <;> rfl
@[simp] theorem j3q (v:VV):(vvC v).all V.leaf=true:=rfl
@[simp] theorem j25 (v:VV):(vvC v).map V.strip1=vvC v:=rfl
@[simp] theorem vvC_pure (v:VV):(vvC v).all V.pureLeaf=true:=rfl
def ltVV (a b:VV):Bool:=decide (cmpV a.1 b.1<0)
@[simp] theorem j71 (a b:VV):decide (cmpV a.1 b.1<0)=ltVV a b:=rfl
@[simp] theorem arrV_len (d:Array VV):(arr vvC d).length=d.size * 2:=jt1 (sz:=2) jzd d
end Go.Pv.T
namespace Go.Pv.T.Vs
open Go Go.Pv Go.Pv.T Go.Sort
end Go.Pv.T.Vs
namespace Go.Pv.T.Vs
open Go Go.Pv Go.Pv.T Go.Sort
end Go.Pv.T.Vs
namespace Go.Pv.T.Vs
open Go Go.Pv Go.Pv.T Go.Sort
end Go.Pv.T.Vs
namespace Go.Pv.T.Vs
open Go Go.Pv Go.Pv.T Go.Sort
end Go.Pv.T.Vs
namespace Go.Pv.T.Vs
open Go Go.Pv Go.Pv.T Go.Sort
end Go.Pv.T.Vs
namespace Go.Pv.T.Vs
open Go Go.Pv Go.Pv.T Go.Sort
end Go.Pv.T.Vs
namespace Go.Pv.T.Vs
open Go Go.Pv Go.Pv.T Go.Sort
end Go.Pv.T.Vs
namespace Go.Pv.T.Vs
open Go Go.Pv Go.Pv.T Go.Sort
end Go.Pv.T.Vs
namespace Go.Pv.T.Vs
open Go Go.Pv Go.Pv.T Go.Sort
end Go.Pv.T.Vs
namespace Go.Pv.T.Vs
open Go Go.Pv Go.Pv.T Go.Sort
end Go.Pv.T.Vs
namespace Go.Pv.T.Vs
open Go Go.Pv Go.Pv.T Go.Sort
end Go.Pv.T.Vs
namespace Go.Pv.T
open Go Go.Pv
@[simp] theorem jus (v:Val'):(J1 v).length=2:=rfl
theorem jv8 (ob:ZO) (l:List Val') {i:Nat} (h:i<l.length):Yb ob (some 2) (.eptr (l.flatMap J1) (i * 2))=some (.agg (J1 l[i])):=jX jus ob l h
def idxJ:List (Bool × List Int)→List Int→List Int
 | c::cs,m::ms=>idxI c.2 m 0::idxJ cs ms
 | _,_=>[]
theorem jng:∀ (C:List (Bool × List Int)) (M:List Int),C.length=M.length→(idxJ C M).length=C.length
 | [],[],_=>rfl
 | c::cs,m::ms,h=>by simp only [idxJ,List.length_cons] at h ⊢;rw [jng cs ms (by omega)]
 | [],_::_,h=>by simp at h
 | _::_,[],h=>by simp at h
theorem jtg:∀ (C:List (Bool × List Int)) (M:List Int) (i:Nat) (h:i<C.length) (h':i<M.length),(idxJ C M)[i]? = some (idxI (C[i]).2 M[i] 0)
 | c::cs,m::ms,0,_,_=>rfl
 | c::cs,m::ms,i+1,h,h'=>by
  simp only [idxJ,List.getElem?_cons_succ,List.getElem_cons_succ]
  exact jtg cs ms i (by simpa using h) (by simpa using h')
 | [],_,_,h,_=>by simp at h
 | _::_,[],_,_,h=>by simp at h
def Xw (g:Hist') (M:List Int):Option (List Int):=if jw g && ((choW g).length == M.length && (idxJ (choW g) M).all fun x=>decide (0≤x)) then some (idxJ (choW g) M) else none
def jmc (g:Hist') (r:Option (List Int)) (v:V):Prop:=match r with
 | some J=>j98 [.sl none (choW g).isEmpty (choW g).length ((choW g).flatMap jeg),.sl none false J.length (J.flatMap intC),.bool true] v
 | none=>j98 [.sl none true 0 [],.sl none true 0 [],.bool false] v
theorem jxr {g:Hist'} (hs:Small g):(choW g).length≤1000000:=by unfold choW;rw [List.length_map];exact jit hs
theorem j2k {g:Hist'} (_:Small g):∀ x∈choW g,x.1=x.2.isEmpty∧x.2.length≤41:=by
 intro x hx
 unfold choW jbg at hx
 split at hx
 ·rename_i hw
  obtain ⟨p,_,rfl⟩:=List.mem_map.1 hx
  have hm:X9 g=true:=by unfold jw at hw;simp only [Bool.and_eq_true] at hw;exact hw.1
  exact ⟨rfl,jr1 hm _ _⟩
 ·simp at hx
theorem ev106 {g:Hist'} (hs:Small g) {b:Bool} (M:List Int) (hM:M.length≤1000000):∃ v,Ev E 106 [.agg (j2 g),jI b intC M] v∧jmc g (Xw g M) v:=by
 obtain ⟨vc,evc,hvc⟩:=ev161 hs
 have e83:=ev52 hs
 have hCl:=jxr hs
 have hCs:=j2k hs
 have hnone:∀ {st:St} {P:V→Prop},st.df=[]→st.tm 4 = .sl none true 0 []→st.tm 5 = .sl none true 0 []→st.tm 6 = .bool false→Xw g M=none→jep [.t 4,.t 5,.t 6] (jmc g (Xw g M)) .ret st:=by
  intro st _ hd h4 h5 h6 hp
  rw [hp]
  exact tupE (ns:=[4,5,6]) (vs:=[.sl none true 0 [],.sl none true 0 [],.bool false]) (fun r h=>h) hd (by simp [h4,h5,h6]) (by simp) (by simp) ⟨Q9 rfl,Q9 rfl,Q9 rfl,trivial⟩
 refine XS (af:=F106) rfl (by decide) ?_
 obtain ⟨P,hP⟩:∃ P,jmc g (Xw g M)=P:=⟨_,rfl⟩
 have hPn:=fun st h1 h2 h3 h4 h5=>hP ▸ @hnone st (fun _=>True) h1 h2 h3 h4 h5
 rw [hP]
 obtain ⟨C,hC⟩:∃ C,choW g=C:=⟨_,rfl⟩
 rw [hC] at hvc hCl hCs
 simp [F106,j2,j1]
 refine jV evc (by simp [j2]) rfl (by simp [j2]) ?_
 refine YL hvc fun tc addc=>?_
 simp [j1]
 refine jV e83 (by simp [j2]) rfl (by simp [j2]) ?_
 cases hw:jw g
 ·simp
  exact hPn _ (by simp) (by simp) (by simp) (by simp) (by simp [Xw,hw])
 by_cases hl:¬ C.length=M.length
 ·have hne:((C.length:Int) != M.length)=true:=by simp;omega
  simp [hne]
  exact hPn _ (by simp) (by simp) (by simp) (by simp) (by simp [Xw,hC,hl])
 have hl:C.length=M.length:=Classical.byContradiction hl
 have hne:((C.length:Int) != M.length)=false:=by simp;omega
 simp [hne]
 refine jwh (n:=M.length) (by simp) (by simp) (by omega) (by omega) rfl (by decide) ?_
 simp
 obtain ⟨J,hJ⟩:∃ J,idxJ C M=J:=⟨_,rfl⟩
 have hJl:J.length=M.length:=by rw [← hJ,jng C M hl];exact hl
 have hJat:=jtg C M
 rw [hJ] at hJat
 have hplaces:Xw g M=if J.all (fun x=>decide (0≤x)) then some J else none:=by
  unfold Xw
  rw [hC,hJ,hw,hl]
  simp
 refine jE [(4,6),(9,10),(28,47)] C.length (fun i s=>s.tm 28 = .int .i64 i∧(∃ cs,s.ob 2433=some ⟨1216,.cells cs⟩∧Upto M.length i J cs)∧(J.take i).all (fun x=>decide (0≤x))=true) rfl rfl ⟨by simp,⟨_,by simp,Upto.zero _ _⟩,by simp⟩ ?_
 rintro i s hi ⟨h28,⟨cs,hcs,hU⟩,hall⟩ f
 have f1:s.tm 1=jI b intC M:=by rw [f.t 1 (by simp)];simp
 have f7:s.tm 7 = .sl tc C.isEmpty C.length (C.flatMap jeg):=by rw [f.t 7 (by simp)];simp
 have f8:s.tm 8 = .osl 2433 1216 0 M.length 1:=by rw [f.t 8 (by simp)];simp
 have f26:s.tm 26 = .sl tc C.isEmpty C.length (C.flatMap jeg):=by rw [f.t 26 (by simp)];simp
 have f27:s.tm 27 = .int .i64 C.length:=by rw [f.t 27 (by simp)];simp
 have fd:s.df=[]:=by rw [f.d];simp
 have fr:s.ro=0:=by rw [f.r];simp
 clear f
 by_cases hlt:i<C.length
 ·have hw':=jz hlt (by omega)
  have hlt2:i<M.length:=by omega
  have h1:=jyk C hlt
  have h2:=Jh M hlt2
  have hix:JL 1 (.sl tc C.isEmpty C.length (C.flatMap jeg)) (.int .i64 (i:Int))=some (.eptr (C.flatMap jeg) (i * 1)):=by
   simp only [YS,jA jaq]
   rw [if_pos (by simp;omega)]
   rfl
  rw [Nat.mul_one] at hix
  have hio:=idxN (l:=2433) (u:=1216) (n:=M.length) (kk:=.i64) (X:=(i:Int)) rfl hlt2
  have e128:=ev127 (a:=(C[i]).1) (C[i]).2 (by have:=(hCs _ (List.getElem_mem hlt)).2;omega) M[i]
  have hji:=hJat i hlt hlt2
  generalize idxI (C[i]).2 M[i] 0=x at *
  have hU2:=hU.set hlt2 hji
  have hget:(j7 cs i [.int .i64 x])[i]? = some (.int .i64 x):=by
   rw [hU2.2.1 i (by omega)]
   have hJ':=List.getElem?_eq_some_iff.1 hji
   rw [Jh J hJ'.1,hJ'.2]
  have hcl:=hU.1
  have hle:i+1≤M.length:=hlt2
  simp [h28,f1,f8,f26,f27,hlt,hlt2,hix,j5 jF,h1,h2]
  refine jV e128 (by simp [jI]) rfl (by simp [jI]) ?_
  simp [hio,hcs,j1,fr,hcl,hle,f8,hget]
  by_cases hx:x<0
  ·simp [hx]
   refine hPn _ (by simp [fd]) (by simp) (by simp) (by simp) ?_
   rw [hplaces]
   have hm:x∈J:=List.mem_of_getElem? hji
   rw [if_neg]
   rw [List.all_eq_true]
   intro h
   have:=h x hm
   simp at this
   omega
  ·simp [hx,h28,hw']
   refine ⟨hlt,hU2,fun y hy=>?_⟩
   rw [List.take_add_one,hji,List.mem_append] at hy
   rcases hy with hy | hy
   ·simpa using List.all_eq_true.1 hall y hy
   ·simp at hy;omega
 ·have:i=C.length:=by omega
  subst this
  simp [h28,f27]
  rw [List.take_of_length_le (by omega)] at hall
  rw [hl] at hU
  have hcsJ:=hU.whole hJl
  rw [← hP,hplaces,if_pos hall]
  subst hcsJ
  refine tupE (ns:=[4,5,6]) (vs:=[.sl tc C.isEmpty C.length (C.flatMap jeg),.osl 2433 1216 0 M.length 1,.bool true]) (fun r h=>h) (by simp [fd]) (by simp [f7,f8]) (by simp) (by simp) ⟨?_,?_,Q9 rfl,trivial⟩
  ·rw [hC];exact jmy rfl (Q4 _ _ _ _ _)
  ·rw [hJl];exact jmy rfl (jin (by simp [hcs]) hU.1 (by simp [fr]) hU.2.2)
theorem ev53 {g:Hist'} (hs:Small g) {b:Bool} (M:List Int) (hM:M.length≤1000000):Ev E 53 [.agg (j2 g),jI b intC M] (.bool (Xw g M).isSome):=by
 obtain ⟨v,ev,hv⟩:=ev106 hs (b:=b) M hM
 refine jT (af:=F53) rfl ?_
 simp [F53,j2,j1]
 refine jV ev (by simp [j2,jI]) rfl (by simp [j2,jI]) ?_
 cases hp:Xw g M with
 | none =>
  rw [hp] at hv
  refine jya hv fun t1 t2 add=>?_
  simp
  exact j3 (by simp) (by simp) rfl
 | some J =>
  rw [hp] at hv
  refine jya hv fun t1 t2 add=>?_
  simp
  exact j3 (by simp) (by simp) rfl
theorem jj9:∀ (C D:List (Bool × List Int)) (M:List Int),C.map (·.2)=D.map (·.2)→ja8 D M=((idxJ C M).all (fun x=>decide (0≤x)) && decide (C.length≤M.length))
 | [],[],M,_=>by cases M <;> simp [ja8,idxJ]
 | c::C,d::D,[],_=>by simp [ja8]
 | c::C,d::D,m::M,h=>by
  simp only [List.map_cons,List.cons.injEq] at h
  have h1:=jj9 C D M h.2
  have h2:=jhs m c.2 0
  have h3:decide (0≤idxI c.2 m 0)=c.2.contains m:=by
   have:decide (0≤idxI c.2 m 0) = !decide (idxI c.2 m 0<0):=by
    by_cases h:idxI c.2 m 0<0
    ·simp [h];
    ·simp [h];omega
   rw [this,h2,Bool.not_not]
  simp only [ja8,idxJ,List.all_cons,h1,h3,← h.1,List.length_cons,Nat.add_le_add_iff_right]
  rw [Bool.and_assoc]
 | [],_::_,_,h=>by simp at h
 | _::_,[],_,h=>by simp at h
theorem jtt {g:Hist'} (hw:jw g=true):(choW g).map (·.2)=(choR g).map (·.2):=by
 unfold choW choR jbg
 rw [if_pos hw]
 simp [List.map_map,Function.comp_def]
theorem j2j {g:Hist'} (hw:jw g=true):(choW g).length=(choR g).length:=by
 have:=congrArg List.length (jtt hw)
 simpa using this
theorem is_eq (g:Hist') (M:List Int):(Xw g M).isSome=jce g M:=by
 unfold Xw jce
 cases hw:jw g
 ·simp
 ·rw [jj9 _ _ M (jtt hw),j2j hw]
  by_cases hl:M.length=(choR g).length
  ·have h1:((choR g).length == M.length)=true:=by simp [hl]
   have h2:(M.length == (choR g).length)=true:=by simp [hl]
   rw [h1,h2]
   simp only [Bool.true_and,hl,Nat.le_refl,decide_true,Bool.and_true]
   split
   ·rename_i h;simp [h]
   ·rename_i h;simp only [Option.isSome_none];simpa using h
  ·have h1:((choR g).length == M.length)=false:=by simp;omega
   have h2:(M.length == (choR g).length)=false:=by simp;omega
   rw [h1,h2]
   simp
@[simp] theorem j9g (ob:ZO) (neg a b:Bool):jxn ob neg .bool (.bool a) (.bool b)=some (.bool (xor neg (a == b))):=rfl
theorem jkw {ub:Nat} {r:V} {g:Hist'} {K:Delta→Prop} (h:jpt r g)
 (hK:∀ a b c add,K { v:=.agg [.sl a g.sn g.ss.length (g.ss.flatMap JJ),.sl b g.kn g.ks.length (g.ks.flatMap JJ),.sl c g.tn g.ts.length (g.ts.flatMap ji)],add:=add }):wpD (Xv ub r) K:=by
 obtain ⟨a,b,c,add,hr⟩:=joj (ub:=ub) h
 rw [hr,jN]
 exact hK a b c add
theorem jdk {α:Type} {f:α→List V} {k:Nat} (hf:∀ a,(f a).length=k):∀ (l:List α) (n:Nat),(l.flatMap f).take (n * k)=(l.take n).flatMap f
 | [],n=>by simp
 | a::l,0=>by simp
 | a::l,n+1=>by
  rw [List.flatMap_cons,List.take_succ_cons,List.flatMap_cons,Nat.succ_mul,Nat.add_comm,← hf a,List.take_length_add_append,hf a,jdk hf l n]
section
variable {E:Env} {st:St} {ub:Nat} {K:List FP→St→Prop} {d:Option Nat} {nm:Bool} {r:List AOpr}
theorem nbeq {a b:Nat} (h:a≠b):a.beq b=false:=by
 cases e:a.beq b
 ·rfl
 ·exact absurd (Nat.eq_of_beq_eq_true e) h
@[simp] theorem jze (v:Val'):(J1 v).map V.strip1=J1 v:=rfl
end
theorem jkr {α:Type} {f:α→List V} {sz:Nat} (hf:∀ a,(f a).length=sz) (t:Option (Nat × Nat)) (nl:Bool) (l:List α) {k:Nat} (hk:k≤l.length):Qf sz none (some (.int .i64 (k:Int))) (.sl t nl l.length (l.flatMap f))=some (.sl none nl (l.take k).length ((l.take k).flatMap f)):=by
 have h1:(l.take k).length=k:=by rw [List.length_take];omega
 have e:=jdk hf l k
 have h2:(k:Int)≤l.length:=by omega
 simp [Qf,X3,jA hf,h1,e,h2]
theorem ld2 {ob:ZO} {l u:Nat} {M:List Val'} {x:Nat} (ho:ob l=some ⟨u,.cells (M.flatMap J1)⟩) (hx:x<M.length):Yb ob (some 2) (.ptr l u (x * 2))=some (.agg (J1 M[x])):=by
 have h:=jv8 ob M hx
 rw [← h]
 simp only [Yb,j1,ho,if_true,Option.bind_some]
structure RwS where
 c:List Bool
 d:List Bool
 hop:Bool
 more:Bool
def RwS.left (r:RwS) (g:Hist') (t k:Nat):List Int:=(ofH g t k).filter fun x=>decide (x<0) || !(r.d.getD x.toNat false)
def RwS.sole (r:RwS) (g:Hist') (t:Nat) (l:List Op'):Nat→Bool × List Int
 | 0=>(false,[])
 | k+1=>match l[k]? with
  | some o =>
   if !XD g t k || o.v.kind == 2 then r.sole g t l k else
   ((r.sole g t l k).1 || (r.left g t k).length == 0,
    if (r.left g t k).length == 1 && decide (0≤(r.left g t k).headD 0) then (r.sole g t l k).2++[(r.left g t k).headD 0] else (r.sole g t l k).2)
  | none=>r.sole g t l k
def RwS.learn (r:RwS) (t:Nat):List Int→RwS
 | []=>r
 | x::xs=>if r.c.getD t false then (if r.c.getD x.toNat false then r.learn t xs else { r with c:=r.c.set x.toNat true,more:=true }.learn t xs) else r
def RwS.fails (r:RwS) (f:Int) (t:Nat):RwS :=
 if f=1 then { r with hop:=true } else if f=3 then (if r.d.getD t false then r else { r with d:=r.d.set t true,more:=true }) else r
def RwS.txn (r:RwS) (g:Hist') (t:Nat) (f:Int) (l:List Op'):RwS :=
 (if (r.sole g t l l.length).1 || !(badH g t).isEmpty then r.fails f t else r).learn t (r.sole g t l l.length).2
def Alike (n:Nat) (s:KnS) (r:RwS):Prop :=
 r.c.length=n∧r.d.length=n∧(∀ i,i<n→r.c.getD i false=decide (0<JY s.m i))∧(∀ i,i<n→r.d.getD i false=decide (0<JY s.n i))∧s.hop=r.hop∧s.more=r.more∧∀ x:Int,x<0→JY s.n x=0
theorem jrz {g:Hist'} {t:Nat} {b x:Int} (h:x∈ofH g t b):x≠t:=by
 unfold ofH at h
 split at h
 ·split at h
  ·simp at h
  ·rename_i o _ _
   unfold ofL js at h
   rcases List.mem_append.1 h with h | h
   ·split at h
    ·simp at h
    ·simp at h;omega
   ·have:=(List.mem_filter.1 h).2
    simp only [Bool.and_eq_true,Bool.not_eq_true',beq_eq_false_iff_ne,ne_eq] at this
    exact this.1
 ·simp at h
theorem jo3 {g:Hist'} {s:KnS} {r:RwS} {t k:Nat} (hd:∀ i,i<g.ts.length→i≠t→r.d.getD i false=decide (0<JY s.n i)) (hn:∀ x:Int,x<0→JY s.n x=0):s.left g t k=r.left g t k:=by
 unfold KnS.left RwS.left
 refine List.filter_congr fun x hx=>?_
 have hlt:=jr0 hx
 have hne:=jrz hx
 by_cases h0:x<0
 ·simp [hn x h0,h0]
 ·obtain ⟨i,rfl⟩:∃ i:Nat,x=i:=⟨x.toNat,by omega⟩
  have:=hd i (by omega) (by omega)
  simp only [Int.toNat_natCast,this,h0,decide_false,Bool.false_or]
theorem Alike.fails {n:Nat} {s:KnS} {r:RwS} (h:Alike n s r) {f:Int} {t:Nat} (ht:t<n) (hp:0≤JY s.n t):Alike n (s.fails f t) (r.fails f t):=by
 obtain ⟨h1,h2,h3,h4,h5,h6,h7⟩:=h
 unfold KnS.fails RwS.fails
 by_cases f1:f=1
 ·simp only [f1,if_true]
  exact ⟨h1,h2,h3,h4,rfl,h6,h7⟩
 ·by_cases f3:f=3
  ·rw [if_neg f1,if_neg f1,if_pos f3,if_pos f3]
   unfold KnS.learnN
   by_cases h0:JY s.n t=0
   ·have hr:r.d.getD t false=false:=by rw [h4 t ht,h0];rfl
    rw [if_pos h0,hr]
    simp only [Bool.false_eq_true,if_false]
    refine ⟨h1,by simp [h2],h3,fun i hi=>?_,h5,rfl,fun x hx=>?_⟩
    ·simp only [XO]
     by_cases e:i=t
     ·subst e
      simp [List.getD_eq_getElem?_getD,h2,hi]
     ·have e':¬ (i:Int)=t:=by omega
      have e2:¬ (t:Int)=i:=by omega
      have:=h4 i hi
      simp [e',List.getD_eq_getElem?_getD,Ne.symm e] at this ⊢
      exact this
    ·simp only [XO]
     rw [if_neg (by omega)]
     exact h7 x hx
   ·have hr:r.d.getD t false=true:=by rw [h4 t ht];simp;omega
    rw [if_neg h0,hr]
    simp only [if_true]
    exact ⟨h1,h2,h3,h4,h5,h6,h7⟩
  ·rw [if_neg f1,if_neg f1,if_neg f3,if_neg f3]
   exact ⟨h1,h2,h3,h4,h5,h6,h7⟩
def RwS.com (r:RwS) (x:Nat):RwS:=if r.c.getD x false then r else { r with c:=r.c.set x true,more:=true }
theorem Alike.learnM {n:Nat} {s:KnS} {r:RwS} (h:Alike n s r) {t:Nat} (ht:t<n) (hp:0≤JY s.m t):Alike n (s.learnM t) (r.com t):=by
 obtain ⟨h1,h2,h3,h4,h5,h6,h7⟩:=h
 unfold KnS.learnM RwS.com
 by_cases h0:JY s.m t=0
 ·have hr:r.c.getD t false=false:=by rw [h3 t ht,h0];rfl
  rw [if_pos h0,hr]
  simp only [Bool.false_eq_true,if_false]
  refine ⟨by simp [h1],h2,fun i hi=>?_,h4,h5,rfl,h7⟩
  simp only [XO]
  by_cases e:i=t
  ·subst e
   simp [List.getD_eq_getElem?_getD,h1,hi]
  ·have e':¬ (i:Int)=t:=by omega
   have:=h3 i hi
   simp [e',List.getD_eq_getElem?_getD,Ne.symm e] at this ⊢
   exact this
 ·have hr:r.c.getD t false=true:=by rw [h3 t ht];simp;omega
  rw [if_neg h0,hr]
  simp only [if_true]
  exact ⟨h1,h2,h3,h4,h5,h6,h7⟩
theorem KnS.fails_learnM (s:KnS) (f t x:Int):(s.learnM x).fails f t=(s.fails f t).learnM x:=by
 unfold KnS.fails KnS.learnM KnS.learnN
 by_cases f1:f=1
 ·simp only [f1,if_true]
  split <;> rfl
 ·by_cases f3:f=3
  ·rw [if_neg f1,if_neg f1,if_pos f3,if_pos f3]
   by_cases h0:JY s.m x=0 <;> by_cases h1:JY s.n t=0 <;> simp [h0,h1]
  ·rw [if_neg f1,if_neg f1,if_neg f3,if_neg f3]
theorem KnS.fails_fails (s:KnS) (f t:Int):(s.fails f t).fails f t=s.fails f t:=by
 unfold KnS.fails KnS.learnN
 by_cases f1:f=1
 ·simp [f1]
 ·by_cases f3:f=3
  ·rw [if_neg f1,if_pos f3]
   by_cases h1:JY s.n t=0
   ·simp [h1,f3,XO]
   ·simp [h1,f3]
  ·simp [f1,f3]
def KnS.learnAll (s:KnS):List Int→KnS
 | []=>s
 | x::xs=>(s.learnM x).learnAll xs
theorem KnS.learnAll_append (s:KnS) (x:Int):∀ xs:List Int,s.learnAll (xs++[x])=(s.learnAll xs).learnM x:=by
 intro xs
 induction xs generalizing s with
 | nil=>rfl
 | cons y ys ih=>exact ih (s.learnM y)
theorem KnS.fails_learnAll (f t:Int):∀ (xs:List Int) (s:KnS),(s.learnAll xs).fails f t=(s.fails f t).learnAll xs
 | [],_=>rfl
 | x::xs,s=>by
  show ((s.learnM x).learnAll xs).fails f t=((s.fails f t).learnM x).learnAll xs
  rw [KnS.fails_learnAll f t xs,KnS.fails_learnM]
theorem KnS.learnM_n (s:KnS) (x:Int):(s.learnM x).n=s.n:=by unfold KnS.learnM;split <;> rfl
theorem KnS.learnAll_n:∀ (xs:List Int) (s:KnS),(s.learnAll xs).n=s.n
 | [],_=>rfl
 | x::xs,s=>(KnS.learnAll_n xs (s.learnM x)).trans (s.learnM_n x)
theorem KnS.learnM_m (s:KnS) {x t:Int} (h:x≠t):JY (s.learnM x).m t=JY s.m t:=by
 unfold KnS.learnM
 split
 ·simp only [XO]
  rw [if_neg (Ne.symm h)]
 ·rfl
theorem KnS.learnAll_m {t:Int}:∀ (xs:List Int) (s:KnS),(∀ x∈xs,x≠t)→JY (s.learnAll xs).m t=JY s.m t
 | [],_,_=>rfl
 | x::xs,s,h=>(KnS.learnAll_m xs (s.learnM x) fun y hy=>h y (List.mem_cons_of_mem _ hy)).trans (s.learnM_m (h x (List.mem_cons_self ..)))
theorem KnS.fails_m (s:KnS) (f t:Int):(s.fails f t).m=s.m:=by
 unfold KnS.fails KnS.learnN
 split
 ·rfl
 ·split
  ·split <;> rfl
  ·rfl
theorem KnS.fails_n (s:KnS) (f t:Int) {x:Int} (h:x≠t):JY (s.fails f t).n x=JY s.n x:=by
 unfold KnS.fails KnS.learnN
 split
 ·rfl
 ·split
  ·split
   ·simp only [XO]
    rw [if_neg h]
   ·rfl
  ·rfl
theorem KnS.left_same {g:Hist'} {s s':KnS} {t k:Nat} (h:∀ x:Int,x≠t→JY s.n x=JY s'.n x):s.left g t k=s'.left g t k:=by
 unfold KnS.left
 refine List.filter_congr fun x hx=>?_
 rw [h x (jrz hx)]
def KnS.told (s:KnS) (g:Hist') (t:Nat) (l:List Op'):Nat→Bool × List Int
 | 0=>(false,[])
 | k+1=>match l[k]? with
  | some o =>
   if o.v.kind == 2 || !XD g t k then s.told g t l k else
   if (s.left g t k).length=0 then (true,(s.told g t l k).2) else
   if (s.left g t k).length == 1 && decide (0≤(s.left g t k).headD 0) then ((s.told g t l k).1,(s.told g t l k).2++[(s.left g t k).headD 0]) else s.told g t l k
  | none=>s.told g t l k
theorem KnS.left_mem {g:Hist'} {s:KnS} {t k:Nat} (h:(s.left g t k).length≠0):(s.left g t k).headD 0≠t:=by
 cases hl:s.left g t k with
 | nil=>rw [hl] at h;exact absurd rfl h
 | cons x r =>
  have hm:x∈s.left g t k:=by rw [hl];exact List.mem_cons_self ..
  exact jrz (List.mem_filter.1 hm).1
theorem KnS.told_ne {g:Hist'} {s:KnS} {t:Nat} {l:List Op'}:∀ k,∀ x∈(s.told g t l k).2,x≠t
 | 0,x,h=>by simp [KnS.told] at h
 | k+1,x,h=>by
  simp only [KnS.told] at h
  split at h
  ·split at h
   ·exact KnS.told_ne k x h
   ·split at h
    ·exact KnS.told_ne k x h
    ·rename_i h0
     split at h
     ·rcases List.mem_append.1 h with h | h
      ·exact KnS.told_ne k x h
      ·rw [List.mem_singleton.1 h]
       exact KnS.left_mem h0
     ·exact KnS.told_ne k x h
  ·exact KnS.told_ne k x h
theorem KnS.ops_told {g:Hist'} (s:KnS) (f:Int) (t:Nat) (l:List Op'):∀ k,s.ops g f t l k=(if (s.told g t l k).1 then s.fails f t else s).learnAll (if 0<JY s.m t then (s.told g t l k).2 else [])
 | 0=>by
  simp only [KnS.ops,KnS.told,Bool.false_eq_true,if_false]
  split <;> rfl
 | k+1=>by
  cases ho:l[k]? with
  | none =>
   simp only [KnS.ops,KnS.told,ho]
   exact KnS.ops_told s f t l k
  | some o =>
   simp only [KnS.ops,KnS.told,ho]
   rw [KnS.ops_told s f t l k]
   have hne:=KnS.told_ne (g:=g) (s:=s) (t:=t) (l:=l) k
   generalize hB:(if (s.told g t l k).1 then s.fails f t else s)=B
   generalize hL:(if 0<JY s.m t then (s.told g t l k).2 else [])=L
   have hBn:∀ x:Int,x≠t→JY B.n x=JY s.n x:=fun x hx=>by
    rw [← hB];split
    ·exact s.fails_n f t hx
    ·rfl
   have hBm:JY B.m t=JY s.m t:=by
    rw [← hB];split
    ·rw [s.fails_m]
    ·rfl
   have hLne:∀ x∈L,x≠(t:Int):=fun x hx=>by
    rw [← hL] at hx
    split at hx
    ·exact hne x hx
    ·simp at hx
   have hleft:(B.learnAll L).left g t k=s.left g t k:=KnS.left_same fun x hx=>by rw [KnS.learnAll_n];exact hBn x hx
   have hm:JY (B.learnAll L).m t=JY s.m t:=by rw [KnS.learnAll_m L B hLne];exact hBm
   have hBf:B.fails f t=s.fails f t:=by
    rw [← hB];split
    ·exact s.fails_fails f t
    ·rfl
   unfold KnS.op
   rw [hleft,hm]
   by_cases c0:(o.v.kind == 2 || !XD g t k)=true
   ·rw [if_pos c0,if_pos c0,hB,hL]
   ·rw [if_neg c0,if_neg c0]
    by_cases c1:(s.left g t k).length=0
    ·rw [if_pos c1,if_pos c1,KnS.fails_learnAll,hBf]
     simp only [if_true]
     rw [hL]
    ·rw [if_neg c1,if_neg c1]
     by_cases c2:((s.left g t k).length == 1 && decide (0≤(s.left g t k).headD 0))=true
     ·rw [if_pos c2]
      simp only [hB]
      simp only [Bool.and_eq_true] at c2
      by_cases c3:0<JY s.m t
      ·rw [if_pos (by simp only [c2.1,c2.2,c3,decide_true,Bool.and_self]),if_pos c3,← hL,if_pos c3,KnS.learnAll_append]
      ·rw [if_neg (by simp [c3]),if_neg c3,← hL,if_neg c3]
     ·rw [if_neg c2,hB,hL,if_neg ?_]
      intro h
      simp only [Bool.and_eq_true] at h c2
      exact c2 ⟨h.1,h.2.1⟩
theorem jig {g:Hist'} {s:KnS} {r:RwS} {t:Nat} (hd:∀ i,i<g.ts.length→i≠t→r.d.getD i false=decide (0<JY s.n i)) (hn:∀ x:Int,x<0→JY s.n x=0) (l:List Op'):∀ k,s.told g t l k=r.sole g t l k
 | 0=>rfl
 | k+1=>by
  have ih:=jig hd hn l k
  cases ho:l[k]? with
  | none=>simp only [KnS.told,RwS.sole,ho,ih]
  | some o =>
   have hl:=jo3 (k:=k) hd hn
   simp only [KnS.told,RwS.sole,ho,ih,← hl]
   rw [Bool.or_comm (!XD g t k) (o.v.kind == 2)]
   by_cases c0:(o.v.kind == 2 || !XD g t k)=true
   ·rw [if_pos c0,if_pos c0]
   ·rw [if_neg c0,if_neg c0]
    by_cases c1:(s.left g t k).length=0
    ·rw [if_pos c1]
     simp [c1]
    ·rw [if_neg c1]
     have c1':((s.left g t k).length == 0)=false:=by simpa using c1
     rw [c1',Bool.or_false]
     split <;> rfl
def KnS.Pos (s:KnS):Prop:=∀ x:Int,0≤JY s.m x∧0≤JY s.n x
theorem KnS.Pos.learnM {s:KnS} (h:s.Pos) (t:Int):(s.learnM t).Pos:=by
 unfold KnS.learnM
 split
 ·intro x
  refine ⟨?_,(h x).2⟩
  simp only [XO]
  split
  ·decide
  ·exact (h x).1
 ·exact h
theorem KnS.Pos.learnN {s:KnS} (h:s.Pos) (t:Int):(s.learnN t).Pos:=by
 unfold KnS.learnN
 split
 ·intro x
  refine ⟨(h x).1,?_⟩
  simp only [XO]
  split
  ·decide
  ·exact (h x).2
 ·exact h
theorem KnS.Pos.fails {s:KnS} (h:s.Pos) (f t:Int):(s.fails f t).Pos:=by
 unfold KnS.fails
 split
 ·exact h
 ·split
  ·exact h.learnN t
  ·exact h
theorem KnS.Pos.learnAll:∀ (xs:List Int) {s:KnS},s.Pos→(s.learnAll xs).Pos
 | [],_,h=>h
 | x::xs,_,h=>KnS.Pos.learnAll xs (h.learnM x)
def RwS.comAll (r:RwS):List Int→RwS
 | []=>r
 | x::xs=>(r.com x.toNat).comAll xs
theorem RwS.com_c {r:RwS} {x t:Nat} (h:r.c.getD t false=true):(r.com x).c.getD t false=true:=by
 unfold RwS.com
 split
 ·exact h
 ·rw [List.getD_eq_getElem?_getD] at h
  simp only [List.getD_eq_getElem?_getD,List.getElem?_set]
  split
  ·rename_i e
   subst e
   split
   ·rfl
   ·rename_i e
    rw [List.getElem?_eq_none (by omega)] at h
    cases h
  ·exact h
theorem RwS.learn_all (t:Nat):∀ (xs:List Int) (r:RwS),r.learn t xs=if r.c.getD t false then r.comAll xs else r
 | [],r=>by simp [RwS.learn,RwS.comAll]
 | x::xs,r=>by
  simp only [RwS.learn,RwS.comAll]
  by_cases h:r.c.getD t false=true
  ·rw [if_pos h,if_pos h]
   have hc:=RwS.com_c (x:=x.toNat) h
   unfold RwS.com at hc ⊢
   by_cases h2:r.c.getD x.toNat false=true
   ·rw [if_pos h2,if_pos h2,RwS.learn_all t xs r,if_pos h]
   ·rw [if_neg h2] at hc
    rw [if_neg h2,if_neg h2,RwS.learn_all t xs,if_pos hc]
  ·rw [if_neg h,if_neg h]
theorem Alike.learnAll {n:Nat}:∀ (xs:List Int) {s:KnS} {r:RwS},Alike n s r→s.Pos→(∀ x∈xs,0≤x∧x<n)→Alike n (s.learnAll xs) (r.comAll xs)
 | [],_,_,h,_,_=>h
 | x::xs,s,r,h,hp,hx=>by
  obtain ⟨h0,h1⟩:=hx x (List.mem_cons_self ..)
  have hl:=h.learnM (t:=x.toNat) (by omega) (hp _).1
  have e:((x.toNat:Nat):Int)=x:=Int.toNat_of_nonneg h0
  rw [e] at hl
  exact Alike.learnAll xs hl (hp.learnM x) fun y hy=>hx y (List.mem_cons_of_mem _ hy)
theorem KnS.left_lt {g:Hist'} {s:KnS} {t k:Nat} (h:(s.left g t k).length≠0):(s.left g t k).headD 0<g.ts.length:=by
 cases hl:s.left g t k with
 | nil=>rw [hl] at h;exact absurd rfl h
 | cons x r =>
  have hm:x∈s.left g t k:=by rw [hl];exact List.mem_cons_self ..
  exact jr0 (List.mem_filter.1 hm).1
theorem KnS.told_lt {g:Hist'} {s:KnS} {t:Nat} {l:List Op'}:∀ k,∀ x∈(s.told g t l k).2,0≤x∧x<g.ts.length
 | 0,x,h=>by simp [KnS.told] at h
 | k+1,x,h=>by
  simp only [KnS.told] at h
  split at h
  ·split at h
   ·exact KnS.told_lt k x h
   ·split at h
    ·exact KnS.told_lt k x h
    ·rename_i h0
     split at h
     ·rename_i h1
      simp only [Bool.and_eq_true,decide_eq_true_eq] at h1
      rcases List.mem_append.1 h with h | h
      ·exact KnS.told_lt k x h
      ·rw [List.mem_singleton.1 h]
       exact ⟨h1.2,KnS.left_lt h0⟩
     ·exact KnS.told_lt k x h
  ·exact KnS.told_lt k x h
theorem Alike.txn {g:Hist'} {s:KnS} {r:RwS} (h:Alike g.ts.length s r) (hp:s.Pos) {t:Nat} (ht:t<g.ts.length) (f:Int) (l:List Op') :
 Alike g.ts.length (s.txn g t f l) (r.txn g t f l)∧(s.txn g t f l).Pos:=by
 unfold KnS.txn
 rw [KnS.ops_told]
 generalize hs1:(if (badH g t).isEmpty then s else s.fails f t)=s1
 have hn1:∀ x:Int,x≠t→JY s1.n x=JY s.n x:=fun x hx=>by
  rw [← hs1];split
  ·rfl
  ·exact s.fails_n f t hx
 have hm1:s1.m=s.m:=by
  rw [← hs1];split
  ·rfl
  ·rw [s.fails_m]
 have hsole:=jig (s:=s1) (r:=r) (t:=t) (g:=g) (fun i hi hne=>by rw [h.2.2.2.1 i hi,hn1 i (by omega)]) (fun x hx=>by rw [hn1 x (by omega)];exact h.2.2.2.2.2.2 x hx) l l.length
 have hlt:=KnS.told_lt (g:=g) (s:=s1) (t:=t) (l:=l) l.length
 rw [hsole] at hlt
 rw [hsole,hm1]
 unfold RwS.txn
 rw [RwS.learn_all]
 have base:(if (r.sole g t l l.length).1 then s1.fails f t else s1)=if (r.sole g t l l.length).1 || !(badH g t).isEmpty then s.fails f t else s:=by
  rw [← hs1]
  cases (badH g t).isEmpty <;> cases (r.sole g t l l.length).1 <;> simp [KnS.fails_fails]
 rw [base]
 generalize r.sole g t l l.length=q at hlt ⊢
 have hB:Alike g.ts.length (if q.1 || !(badH g t).isEmpty then s.fails f t else s) (if q.1 || !(badH g t).isEmpty then r.fails f t else r)∧(if q.1 || !(badH g t).isEmpty then s.fails f t else s).Pos∧(if q.1 || !(badH g t).isEmpty then s.fails f t else s).m=s.m:=by
  split
  ·exact ⟨h.fails ht (hp _).2,hp.fails f t,s.fails_m f t⟩
  ·exact ⟨h,hp,rfl⟩
 generalize (if q.1 || !(badH g t).isEmpty then s.fails f t else s)=B at hB ⊢
 generalize (if q.1 || !(badH g t).isEmpty then r.fails f t else r)=R at hB ⊢
 obtain ⟨hA,hP,hM⟩:=hB
 have hc:=hA.2.2.1 t ht
 rw [hM] at hc
 by_cases h0:0<JY s.m t
 ·have hc':R.c.getD t false=true:=by rw [hc];simp [h0]
  rw [if_pos h0,if_pos hc']
  exact ⟨hA.learnAll _ hP hlt,hP.learnAll _⟩
 ·have hc':¬ R.c.getD t false=true:=by rw [hc];simp [h0]
  rw [if_neg h0,if_neg hc']
  exact ⟨hA,hP⟩
def RwS.round (r:RwS) (g:Hist'):Nat→RwS
 | 0=>{ r with more:=false }
 | i+1=>match g.ts[i]? with
  | some t=>(r.round g i).txn g i t.f t.ops
  | none=>r.round g i
def RwS.iter (g:Hist'):Nat→RwS→RwS
 | 0,r=>r
 | k+1,r=>if r.more then RwS.iter g k (r.round g g.ts.length) else r
theorem Alike.round {g:Hist'} {s:KnS} {r:RwS} (h:Alike g.ts.length s r) (hp:s.Pos):∀ i,i≤g.ts.length→Alike g.ts.length (s.round g i) (r.round g i)∧(s.round g i).Pos
 | 0,_=>⟨⟨h.1,h.2.1,h.2.2.1,h.2.2.2.1,h.2.2.2.2.1,rfl,h.2.2.2.2.2.2⟩,hp⟩
 | i+1,hi=>by
  obtain ⟨hA,hP⟩:=Alike.round h hp i (by omega)
  simp only [KnS.round,RwS.round,List.getElem?_eq_getElem (show i<g.ts.length by omega)]
  exact hA.txn hP (by omega) _ _
theorem Alike.iter {g:Hist'}:∀ (k:Nat) {s:KnS} {r:RwS},Alike g.ts.length s r→s.Pos→Alike g.ts.length (KnS.iter g k s) (RwS.iter g k r)∧(KnS.iter g k s).Pos
 | 0,_,_,h,hp=>⟨h,hp⟩
 | k+1,s,r,h,hp=>by
  simp only [KnS.iter,RwS.iter,← h.2.2.2.2.2.1]
  split
  ·obtain ⟨hA,hP⟩:=Alike.round h hp g.ts.length (Nat.le_refl _)
   exact Alike.iter k hA hP
  ·exact ⟨h,hp⟩
@[simp] theorem j26 (v:Val'):(J1 v).all V.leaf=true:=rfl
end Go.Pv.T
namespace Go.Pv.T
open Go Go.Pv
end Go.Pv.T
namespace Go.Pv.T
open Go Go.Pv
end Go.Pv.T
namespace Go.Pv.T
open Go Go.Pv
def ValsP (ob:ZO) (p:Nat→Prop) (l:List Val') (v:V):Prop:=∃ u,v = .osl (2 * u+1) u 0 l.length 2∧ob (2 * u+1)=some ⟨u,.cells (l.flatMap J1)⟩∧p u
theorem ValsP.frame {ob ob':ZO} {p p':Nat→Prop} {l:List Val'} {v:V} (h:ValsP ob p l v) (hf:∀ u,p u→ob' (2 * u+1)=ob (2 * u+1)) (hh:∀ u,p u→p' u):ValsP ob' p' l v:=by
 obtain ⟨u,h2,h3,h4⟩:=h
 exact ⟨u,h2,(hf u h4).trans h3,hh u h4⟩
end Go.Pv.T
namespace Go.Pv.T
open Go Go.Pv
end Go.Pv.T
namespace Go.Pv.T
open Go Go.Pv
end Go.Pv.T
namespace Go.Pv.T
open Go Go.Pv
def jh7 (g:Hist') (cs:List Bool) (i:Nat):Bool:=match g.ts[i]? with
 | some t=>if t.f=3 then cs.getD (numsTo Jp g.ts i).length false else t.f == 1
 | none=>false
def opR (g:Hist') (lo:List Val') (i k:Nat) (o:Op'):Op':=if o.v.kind=2 then { o with v:=lo.getD (Jl g i k).length ⟨0,0⟩ } else o
def jfj (g:Hist') (cs:List Bool) (lo:List Val') (i:Nat) (t:Txn'):Txn':={ s:=t.s,f:=if jh7 g cs i then 1 else 2,nl:=false,ops:=t.ops.mapIdx (opR g lo i) }
def rawH (g:Hist') (cs:List Bool) (lo:List Val'):Hist':=⟨false,g.ss,false,g.ks,g.ts.isEmpty,g.ts.mapIdx (jfj g cs lo)⟩
def loB (v:Val'):Bool:=v.kind == 1 || (v.kind == 0 && v.n == 0)
def Xs (g:Hist'):Bool:=(numsTo JO g.ts g.ts.length).any (fun i=>!(badH g i).isEmpty) || (choR g).any fun c=>c.2.isEmpty
section
variable {g:Hist'} {cs:List Bool} {lo:List Val'}
theorem WO:(rawH g cs lo).ts.length=g.ts.length:=by simp [rawH]
theorem Yn {i:Nat} (h:i<g.ts.length):(rawH g cs lo).ts[i]'(by rw [WO];exact h)=jfj g cs lo i g.ts[i]:=by simp [rawH]
theorem Yn? (i:Nat):(rawH g cs lo).ts[i]? = (g.ts[i]?).map (jfj g cs lo i):=by simp [rawH]
theorem jcu (i:Nat) (t:Txn'):(jfj g cs lo i t).ops.length=t.ops.length:=by simp [jfj]
theorem j0i (i k:Nat) (o:Op'):(opR g lo i k o).w=o.w:=by unfold opR;split <;> rfl
theorem jhd (i k:Nat) (o:Op'):(opR g lo i k o).key=o.key:=by unfold opR;split <;> rfl
theorem jyd (i k:Nat) (key:Int) (o:Op'):wkB key (opR g lo i k o)=wkB key o:=by unfold wkB;rw [j0i,jhd]
theorem jc0 {i k:Nat} {o:Op'} (h:¬ o.v.kind=2):opR g lo i k o=o:=by unfold opR;rw [if_neg h]
theorem j0v {v:Val'} (h:loB v=true):jif v=true:=by
 unfold loB at h;unfold jif
 revert h
 cases v.kind == 1 <;> cases v.kind == 0 <;> cases v.n == 0 <;> simp
theorem j1x (hl:lo.all loB=true) (n:Nat):loB (lo.getD n ⟨0,0⟩)=true:=by
 rw [List.getD_eq_getElem?_getD]
 cases h:lo[n]? with
 | none=>rfl
 | some v=>exact List.all_eq_true.1 hl v (List.mem_of_getElem? h)
theorem j0j {i k:Nat} {o:Op'} (hl:lo.all loB=true) (h:jif o.v=true):jif (opR g lo i k o).v=true:=by
 unfold opR
 split
 ·exact j0v (j1x hl _)
 ·exact h
theorem jhg {α β:Type} (f:α→β) (k:Nat→α→α) (h:∀ n x,f (k n x)=f x) (l:List α):(l.mapIdx k).map f=l.map f:=by
 apply List.ext_getElem?
 intro n
 rw [List.getElem?_map,List.getElem?_map,List.getElem?_mapIdx]
 cases l[n]? <;> simp [h]
theorem jyj (hm:X9 g=true) {t:Txn'} {o:Op'} (ht:t∈g.ts) (ho:o∈t.ops):opB g o=true:=by
 unfold X9 at hm
 simp only [Bool.and_eq_true,List.all_eq_true] at hm
 exact hm.2.2.1 o (List.mem_flatMap.2 ⟨t,ht,ho⟩)
theorem jg8 (hm:X9 g=true) (hl:lo.all loB=true):X9 (rawH g cs lo)=true:=by
 have hop:=fun t o=>@jyj g hm t o
 unfold X9 at hm ⊢
 simp only [Bool.and_eq_true,List.all_eq_true] at hm ⊢
 obtain ⟨h1,h2,h3,h4⟩:=hm
 refine ⟨?_,?_,?_,?_⟩
 ·unfold Xt at h1 ⊢
  rw [WO]
  exact h1
 ·intro x hx
  obtain ⟨i,hi⟩:=List.mem_iff_getElem?.1 hx
  rw [Yn?] at hi
  obtain ⟨t,ht,rfl⟩:=Option.map_eq_some_iff.1 hi
  have:=h2 t (List.mem_of_getElem? ht)
  unfold jcp at this ⊢
  rw [jcu]
  simp only [Bool.and_eq_true,decide_eq_true_eq] at this ⊢
  refine ⟨this.1,?_,?_,this.2.2.2⟩ <;> (simp only [jfj];split <;> decide)
 ·intro x hx
  unfold jal at hx
  rw [List.mem_flatMap] at hx
  obtain ⟨y,hy,hx⟩:=hx
  obtain ⟨i,hi⟩:=List.mem_iff_getElem?.1 hy
  rw [Yn?] at hi
  obtain ⟨t,ht,rfl⟩:=Option.map_eq_some_iff.1 hi
  obtain ⟨k,hk⟩:=List.mem_iff_getElem?.1 hx
  simp only [jfj,List.getElem?_mapIdx] at hk
  obtain ⟨o,ho,rfl⟩:=Option.map_eq_some_iff.1 hk
  have:=hop t o (List.mem_of_getElem? ht) (List.mem_of_getElem? ho)
  unfold opB at this ⊢
  simp only [Bool.and_eq_true] at this ⊢
  rw [jhd,j0i]
  refine ⟨this.1,j0j hl this.2.1,?_⟩
  cases hw:o.w
  ·rfl
  ·rw [hw] at this
   have hk1:o.v.kind=1:=by simpa using this.2.2
   rw [jc0 (by omega)]
   simp [hk1]
 ·unfold jkj at h4 ⊢
  have e1:usesS (rawH g cs lo)=usesS g:=jhg (fun t:Txn'=>t.s) (jfj g cs lo) (fun _ _=>rfl) g.ts
  have e2:usesK (rawH g cs lo)=usesK g:=by
   unfold usesK jal
   rw [List.map_flatMap,List.map_flatMap,List.flatMap_def,List.flatMap_def]
   congr 1
   exact jhg (fun t:Txn'=>t.ops.map (·.key)) (jfj g cs lo) (fun n t=>jhg (fun o:Op'=>o.key) (opR g lo n) (fun k o=>jhd n k o) t.ops) g.ts
  rw [e1,e2]
  exact h4
end
theorem jr7 {α:Type} (k0:Int) (b:α) (m:List (Int × α)) (k:Int) (a:α):mset ((k0,b)::m) k a=if k=k0 then (k,a)::m else (k0,b)::mset m k a:=by
 unfold mset
 rw [jW]
 by_cases h:k=k0
 ·simp [h]
 ·rw [if_neg h,if_neg h]
  cases jW m k <;> simp
theorem X2 {α:Type} (k:Int) (a:α) (k':Int):∀ m:List (Int × α),(jW (mset m k a) k').map (·.2)=if k'=k then some a else (jW m k').map (·.2)
 | []=>by
  by_cases h:k'=k <;> simp [mset,jW,h]
 | (k0,b)::m=>by
  rw [jr7]
  have ih:=X2 k a k' m
  by_cases h:k=k0
  ·subst h
   rw [if_pos rfl,jW,jW]
   by_cases h':k'=k <;> simp [h']
  ·rw [if_neg h,jW,jW]
   by_cases h':k'=k0
   ·subst h'
    simp [show ¬ k'=k from fun e=>h e.symm]
   ·rw [if_neg h',if_neg h']
    simp only [Option.map_map]
    have e:((fun x:Nat × α=>x.2) ∘ fun p:Nat × α=>(p.1+1,p.2))=fun x=>x.2:=rfl
    rw [e]
    exact ih
theorem jsb (m:List (Int × Int)) (k a k':Int):JY (mset m k a) k'=if k'=k then a else JY m k':=by
 unfold JY
 rw [X2]
 split <;> rfl
def Cnt (m:List (Int × Int)) (L:List Int):Prop:=∀ k,JY m k=(L.count k:Nat)
theorem Cnt.nil:Cnt [] []:=fun _=>rfl
theorem Cnt.le {m:List (Int × Int)} {L:List Int} (h:Cnt m L) (k:Int):0≤JY m k∧JY m k≤L.length:=by
 rw [h k]
 have:=List.count_le_length (a:=k) (l:=L)
 omega
theorem jgh {α:Type} {k:α→α} {y:α}:∀ {l:List α} {i:Nat},y∈l.modify i k→y∈l∨∃ x,l[i]? = some x∧y=k x
 | [],i,h=>by simp at h
 | x::l,0,h=>by
  rw [List.modify_cons] at h
  simp only [if_true,List.mem_cons] at h
  rcases h with rfl | h
  ·exact .inr ⟨x,rfl,rfl⟩
  ·exact .inl (List.mem_cons_of_mem _ h)
 | x::l,i+1,h=>by
  rw [List.modify_cons] at h
  simp only [Nat.add_one_ne_zero,if_false,Nat.add_sub_cancel,List.mem_cons] at h
  rcases h with rfl | h
  ·exact .inl (List.mem_cons_self ..)
  ·rcases jgh h with h | ⟨z,h1,h2⟩
   ·exact .inl (List.mem_cons_of_mem _ h)
   ·exact .inr ⟨z,by simpa using h1,h2⟩
theorem jk7 {g:Hist'} {a b:Nat} {t:Txn'} {o:Op'} (hm:X9 g=true) (ht:g.ts[a]? = some t) (ho:t.ops[b]? = some o):opAt g a b=some o:=by
 obtain ⟨h1,h2⟩:=List.getElem?_eq_some_iff.1 ht
 obtain ⟨h3,h4⟩:=List.getElem?_eq_some_iff.1 ho
 unfold opAt
 simp only [Int.toNat_natCast]
 have hg:g.ts.getD a ⟨0,0,true,[]⟩=t:=by rw [jn h1,h2]
 have hlt:b<(g.ts.getD a ⟨0,0,true,[]⟩).ops.length:=by rw [hg];exact h3
 rw [hm,if_pos (by simp only [Bool.true_and,Bool.and_eq_true,decide_eq_true_eq];omega),hg]
 exact ho
section
variable {g:Hist'} {cs:List Bool} {lo:List Val'}
theorem mem_nums {p:Txn'→Bool} {l:List Txn'} {x:Int}:∀ {n:Nat},x∈numsTo p l n ↔ ∃ i:Nat,i<n∧x=i∧∃ t,l[i]? = some t∧p t=true
 | 0=>by simp [numsTo]
 | n+1=>by
  simp only [numsTo,List.mem_append,mem_nums (n:=n)]
  constructor
  ·rintro (⟨i,h1,h2⟩ | h)
   ·exact ⟨i,by omega,h2⟩
   ·cases hn:l[n]? with
    | none=>rw [hn] at h;simp at h
    | some t =>
     rw [hn] at h
     simp only at h
     split at h
     ·rename_i hp
      exact ⟨n,by omega,by simpa using h,t,hn,hp⟩
     ·simp at h
  ·rintro ⟨i,h1,h2,t,ht,hp⟩
   rcases Nat.lt_succ_iff_lt_or_eq.1 h1 with h | h
   ·exact .inl ⟨i,h,h2,t,ht,hp⟩
   ·subst h
    right
    rw [ht]
    simp [hp,h2]
theorem j0b (i:Nat) (t:Txn'):(jfj g cs lo i t).f=if jh7 g cs i then 1 else 2:=rfl
theorem jag (hm:X9 g=true) {i:Nat} {t:Txn'} (ht:t∈g.ts) (key:Int):∀ n,jq key (jfj g cs lo i t).ops n=jq key t.ops n
 | 0=>rfl
 | n+1=>by
  rw [jq,jq,jag hm ht key n]
  simp only [jfj,List.getElem?_mapIdx]
  cases ho:t.ops[n]? with
  | none=>rfl
  | some o =>
   simp only [Option.map_some,jyd]
   split
   ·rename_i hw
    have hb:=jyj hm ht (List.mem_of_getElem? ho)
    unfold opB at hb
    unfold wkB at hw
    simp only [Bool.and_eq_true] at hw hb
    have hk:o.v.kind=1:=by simpa [hw.1] using hb.2.2
    rw [jc0 (by omega)]
   ·rfl
theorem j0d {i:Nat} {t:Txn'} (key:Int):(jfj g cs lo i t).ops.any (wkB key)=t.ops.any (wkB key):=by
 have:(jfj g cs lo i t).ops.map (wkB key)=t.ops.map (wkB key):=jhg (wkB key) (opR g lo i) (fun n x=>jyd i n key x) t.ops
 have h:=congrArg (fun l:List Bool=>l.any id) this
 simpa [List.any_map] using h
theorem jk0 {key x:Int} (h:x∈writersH (rawH g cs lo) key):x∈writersH g key∧∃ i:Nat,x=i∧jh7 g cs i=true:=by
 unfold writersH at h ⊢
 rw [WO] at h
 obtain ⟨i,h1,h2,t',ht',hp⟩:=mem_nums.1 h
 rw [Yn?] at ht'
 obtain ⟨t,ht,rfl⟩:=Option.map_eq_some_iff.1 ht'
 unfold wrB at hp
 rw [j0d,Bool.and_eq_true,j0b] at hp
 have hc:jh7 g cs i=true:=by
  cases hc:jh7 g cs i
  ·rw [hc] at hp;simp at hp
  ·rfl
 refine ⟨mem_nums.2 ⟨i,h1,h2,t,ht,?_⟩,i,h2,hc⟩
 unfold wrB
 rw [hp.2,Bool.and_true]
 unfold jh7 at hc
 rw [ht] at hc
 simp only at hc
 split at hc
 ·rename_i hf;simp [hf]
 ·have:t.f=1:=by simpa using hc
  simp [this]
theorem jq9 (hm:X9 g=true) (hl:lo.all loB=true) (key:Int) {i:Nat} (h:i<g.ts.length):XP (rawH g cs lo) key i=XP g key i:=by
 rw [jbq (jg8 hm hl) key (by rw [WO];exact h),jbq hm key h,Yn h,jcu,jag hm (List.getElem_mem h)]
theorem jms (hm:X9 g=true) (hl:lo.all loB=true) {i k:Nat} {t:Txn'} {o:Op'} (ht:g.ts[i]? = some t) (ho:t.ops[k]? = some o):opAt (rawH g cs lo) i k=some (opR g lo i k o) :=
 jk7 (jg8 hm hl) (t:=jfj g cs lo i t) (by rw [Yn?,ht];rfl) (by simp [jfj,ho])
theorem jq8 (hm:X9 g=true) (hl:lo.all loB=true) {i k:Nat} {t:Txn'} {o:Op'} (ht:g.ts[i]? = some t) (ho:t.ops[k]? = some o):XD (rawH g cs lo) i k=XD g i k:=by
 obtain ⟨h1,h2⟩:=List.getElem?_eq_some_iff.1 ht
 unfold XD jk5
 rw [jms hm hl ht ho,jk7 hm ht ho]
 simp only [j0i,jhd,Int.toNat_natCast]
 rw [jn (by rw [WO];exact h1),jn h1,Yn h1,jag hm (List.getElem_mem h1)]
theorem j4h (hm:X9 g=true) (hl:lo.all loB=true) {i k:Nat} {t:Txn'} {o:Op'} (ht:g.ts[i]? = some t) (ho:t.ops[k]? = some o) (h2:¬ o.v.kind=2) {x:Int} (h:x∈ofH (rawH g cs lo) i k):x∈ofH g i k∧(x = -1∨∃ j:Nat,x=j∧jh7 g cs j=true):=by
 unfold ofH at h ⊢
 rw [jms hm hl ht ho,jc0 h2] at h
 rw [jk7 hm ht ho]
 simp only at h ⊢
 split at h
 ·simp at h
 ·rename_i hw
  rw [if_neg hw]
  unfold ofL at h ⊢
  rw [List.mem_append] at h ⊢
  rcases h with h | h
  ·refine ⟨.inl h,.inl ?_⟩
   unfold js at h
   split at h
   ·simp at h
   ·simpa using h
  ·obtain ⟨hx,hf⟩:=List.mem_filter.1 h
   obtain ⟨hx',j,rfl,hc⟩:=jk0 hx
   have hj:j<g.ts.length:=by
    obtain ⟨i',h1,h2,_⟩:=mem_nums.1 hx'
    omega
   refine ⟨.inr (List.mem_filter.2 ⟨hx',?_⟩),.inr ⟨j,rfl,hc⟩⟩
   rw [jq9 hm hl _ hj] at hf
   exact hf
theorem badTo_mem {ops:List Op'} {x:Int}:∀ {n:Nat},x∈X4 ops n ↔ ∃ k:Nat,k<n∧x=k∧∃ o,ops[k]? = some o∧j2q ops k o=true
 | 0=>by simp [X4]
 | n+1=>by
  simp only [X4,List.mem_append,badTo_mem (n:=n)]
  constructor
  ·rintro (⟨i,h1,h2⟩ | h)
   ·exact ⟨i,by omega,h2⟩
   ·cases hn:ops[n]? with
    | none=>rw [hn] at h;simp at h
    | some t =>
     rw [hn] at h
     simp only at h
     split at h
     ·rename_i hp
      exact ⟨n,by omega,by simpa using h,t,hn,hp⟩
     ·simp at h
  ·rintro ⟨i,h1,h2,t,ht,hp⟩
   rcases Nat.lt_succ_iff_lt_or_eq.1 h1 with h | h
   ·exact .inl ⟨i,h,h2,t,ht,hp⟩
   ·subst h
    right
    rw [ht]
    simp [hp,h2]
theorem jty (hm:X9 g=true) {i:Nat} {t:Txn'} (ht:g.ts[i]? = some t):badH g i=X4 t.ops t.ops.length:=by
 obtain ⟨h1,h2⟩:=List.getElem?_eq_some_iff.1 ht
 unfold badH JE
 rw [hm,if_pos (by simp;omega)]
 simp only [Int.toNat_natCast]
 rw [jn h1,h2]
theorem j0c (hm:X9 g=true) (hl:lo.all loB=true) {i:Nat} {t:Txn'} (ht:g.ts[i]? = some t) (h:¬ badH g i=[]):¬ badH (rawH g cs lo) i=[]:=by
 rw [jty hm ht] at h
 rw [jty (jg8 hm hl) (by rw [Yn?,ht];rfl)]
 obtain ⟨x,hx⟩:=List.exists_mem_of_ne_nil _ h
 obtain ⟨k,h1,h2,o,ho,hb⟩:=badTo_mem.1 hx
 have:x∈X4 (jfj g cs lo i t).ops (jfj g cs lo i t).ops.length:=by
  refine badTo_mem.2 ⟨k,by rw [jcu];exact h1,h2,opR g lo i k o,by simp [jfj,ho],?_⟩
  have h2k:¬ o.v.kind=2:=by
   unfold j2q at hb
   simp only [Bool.and_eq_true] at hb
   simpa using hb.2.1
  rw [jc0 h2k]
  unfold j2q at hb ⊢
  rw [jag hm (List.mem_of_getElem? ht)]
  exact hb
 intro e
 rw [e] at this
 simp at this
theorem readIn_mem {i:Nat} {p:Int × Int}:∀ {n:Nat},p∈jt g i n ↔ ∃ k:Nat,k<n∧p=((i:Int),(k:Int))∧XD g i k=true
 | 0=>by simp [jt]
 | n+1=>by
  simp only [jt,List.mem_append,readIn_mem (n:=n)]
  constructor
  ·rintro (⟨k,h1,h2⟩ | h)
   ·exact ⟨k,by omega,h2⟩
   ·split at h
    ·rename_i hp
     exact ⟨n,by omega,by simpa using h,hp⟩
    ·simp at h
  ·rintro ⟨k,h1,h2,hp⟩
   rcases Nat.lt_succ_iff_lt_or_eq.1 h1 with h | h
   ·exact .inl ⟨k,h,h2,hp⟩
   ·subst h
    right
    simp [hp,h2]
theorem jf6 {i k:Nat} {t:Txn'} (ht:g.ts[i]? = some t) (hc:JO t=true) (hk:k<t.ops.length) (ho:XD g i k=true):∀ {n:Nat},i<n→((i:Int),(k:Int))∈Jk g n
 | 0,h=>by omega
 | n+1,h=>by
  simp only [Jk,List.mem_append]
  rcases Nat.lt_succ_iff_lt_or_eq.1 h with h | h
  ·exact .inl (jf6 ht hc hk ho h)
  ·subst h
   right
   rw [ht]
   simp only [hc,if_true]
   exact readIn_mem.2 ⟨k,hk,rfl,ho⟩
end
section
variable {g:Hist'} {cs:List Bool} {lo:List Val'}
structure Snd (g:Hist') (cs:List Bool) (s:KnS):Prop where
 m:∀ x:Int,0<JY s.m x→∃ i:Nat,x=i∧jh7 g cs i=true
 n:∀ x:Int,0<JY s.n x→∃ i:Nat,x=i∧jh7 g cs i=false
 h:s.hop=false
theorem Snd.learnM {s:KnS} (h:Snd g cs s) {i:Nat} (hi:jh7 g cs i=true):Snd g cs (s.learnM i):=by
 unfold KnS.learnM
 split
 ·refine ⟨fun x hx=>?_,h.n,h.h⟩
  simp only [XO] at hx
  split at hx
  ·rename_i e;exact ⟨i,e,hi⟩
  ·exact h.m x hx
 ·exact h
theorem Snd.learnN {s:KnS} (h:Snd g cs s) {i:Nat} (hi:jh7 g cs i=false):Snd g cs (s.learnN i):=by
 unfold KnS.learnN
 split
 ·refine ⟨h.m,fun x hx=>?_,h.h⟩
  simp only [XO] at hx
  split at hx
  ·rename_i e;exact ⟨i,e,hi⟩
  ·exact h.n x hx
 ·exact h
theorem Snd.fails {s:KnS} (h:Snd g cs s) {i:Nat} {t:Txn'} (ht:g.ts[i]? = some t) (hi:jh7 g cs i=false):Snd g cs (s.fails t.f i):=by
 unfold KnS.fails
 split
 ·rename_i hf
  unfold jh7 at hi
  rw [ht] at hi
  simp [hf] at hi
 ·split
  ·exact h.learnN hi
  ·exact h
theorem hope (h:Xs (rawH g cs lo)=false):(∀ i:Nat,i<g.ts.length→jh7 g cs i=true→badH (rawH g cs lo) i=[])∧∀ p∈readH (rawH g cs lo),¬ ofH (rawH g cs lo) p.1 p.2=[]:=by
 unfold Xs at h
 rw [Bool.or_eq_false_iff,List.any_eq_false,List.any_eq_false] at h
 constructor
 ·intro i hi hc
  have:=h.1 (i:Int) (mem_nums.2 ⟨i,by rw [WO];exact hi,rfl,jfj g cs lo i g.ts[i],by rw [Yn?,List.getElem?_eq_getElem hi];rfl,by unfold JO;rw [j0b,hc];rfl⟩)
  simpa using this
 ·intro p hp e
  have:=h.2 (false,ofH (rawH g cs lo) p.1 p.2) (List.mem_map.2 ⟨p,hp,rfl⟩)
  simp [e] at this
theorem jsj (hm:X9 g=true) (hl:lo.all loB=true) (hh:Xs (rawH g cs lo)=false) {s:KnS} (h:Snd g cs s) {i k:Nat} {t:Txn'} {o:Op'} (ht:g.ts[i]? = some t) (ho:t.ops[k]? = some o) (h2:¬ o.v.kind=2) (hu:XD g i k=true) (hc:jh7 g cs i=true) :
 ∃ x∈s.left g i k,x = -1∨∃ j:Nat,x=j∧jh7 g cs j=true:=by
 have hne:=(hope hh).2 ((i:Int),(k:Int)) (jf6 (t:=jfj g cs lo i t) (by rw [Yn?,ht];rfl) (by unfold JO;rw [j0b,hc];rfl) (by rw [jcu];exact (List.getElem?_eq_some_iff.1 ho).1) (by rw [jq8 hm hl ht ho];exact hu) (by rw [WO];exact (List.getElem?_eq_some_iff.1 ht).1))
 obtain ⟨x,hx⟩:=List.exists_mem_of_ne_nil _ hne
 obtain ⟨h3,h4⟩:=j4h hm hl ht ho h2 hx
 refine ⟨x,List.mem_filter.2 ⟨h3,?_⟩,h4⟩
 simp only [Bool.not_eq_true',decide_eq_false_iff_not]
 intro hn
 obtain ⟨j,hj,hjc⟩:=h.n x hn
 rcases h4 with e | ⟨j',e,hc'⟩
 ·omega
 ·have:j=j':=by omega
  subst this
  rw [hjc] at hc'
  cases hc'
theorem Snd.op (hm:X9 g=true) (hl:lo.all loB=true) (hh:Xs (rawH g cs lo)=false) {s:KnS} (h:Snd g cs s) {i k:Nat} {t:Txn'} {o:Op'} (ht:g.ts[i]? = some t) (ho:t.ops[k]? = some o):Snd g cs (s.op g t.f i k o):=by
 unfold KnS.op
 split
 ·exact h
 ·rename_i hc
  simp only [Bool.or_eq_true,not_or,beq_iff_eq,Bool.not_eq_true',Bool.not_eq_false] at hc
  have key:=jsj hm hl hh h ht ho hc.1 hc.2
  split
  ·rename_i h0
   refine h.fails ht ?_
   cases hci:jh7 g cs i
   ·rfl
   ·obtain ⟨x,hx,_⟩:=key hci
    have:=List.length_pos_of_mem hx
    omega
  ·split
   ·rename_i h1
    simp only [Bool.and_eq_true,decide_eq_true_eq,beq_iff_eq] at h1
    obtain ⟨i',e,hci⟩:=h.m i h1.2.2
    have:i'=i:=by omega
    subst this
    obtain ⟨x,hx,hx2⟩:=key hci
    obtain ⟨y,hy⟩:=List.length_eq_one_iff.1 h1.1
    rw [hy] at hx h1 ⊢
    have hxy:x=y:=by simpa using hx
    subst hxy
    rcases hx2 with e | ⟨j,e,hj⟩
    ·have:=h1.2.1
     simp only [List.headD_cons] at this
     omega
    ·simp only [List.headD_cons]
     rw [e]
     exact h.learnM hj
   ·exact h
theorem Snd.ops (hm:X9 g=true) (hl:lo.all loB=true) (hh:Xs (rawH g cs lo)=false) {s:KnS} (h:Snd g cs s) {i:Nat} {t:Txn'} (ht:g.ts[i]? = some t):∀ n,Snd g cs (s.ops g t.f i t.ops n)
 | 0=>h
 | n+1=>by
  simp only [KnS.ops]
  split
  ·rename_i o ho
   exact (Snd.ops hm hl hh h ht n).op hm hl hh ht ho
  ·exact Snd.ops hm hl hh h ht n
theorem Snd.txn (hm:X9 g=true) (hl:lo.all loB=true) (hh:Xs (rawH g cs lo)=false) {s:KnS} (h:Snd g cs s) {i:Nat} {t:Txn'} (ht:g.ts[i]? = some t):Snd g cs (s.txn g i t.f t.ops):=by
 unfold KnS.txn
 refine Snd.ops hm hl hh ?_ ht _
 split
 ·exact h
 ·rename_i hb
  refine h.fails ht ?_
  cases hci:jh7 g cs i
  ·rfl
  ·have h1:=j0c (cs:=cs) hm hl ht (by simpa using hb)
   exact absurd ((hope hh).1 i (List.getElem?_eq_some_iff.1 ht).1 hci) h1
theorem Snd.round (hm:X9 g=true) (hl:lo.all loB=true) (hh:Xs (rawH g cs lo)=false) {s:KnS} (h:Snd g cs s):∀ n,Snd g cs (s.round g n)
 | 0=>⟨h.m,h.n,h.h⟩
 | n+1=>by
  simp only [KnS.round]
  split
  ·rename_i t ht
   exact (Snd.round hm hl hh h n).txn hm hl hh ht
  ·exact Snd.round hm hl hh h n
theorem Snd.iter (hm:X9 g=true) (hl:lo.all loB=true) (hh:Xs (rawH g cs lo)=false):∀ (n:Nat) {s:KnS},Snd g cs s→Snd g cs (KnS.iter g n s)
 | 0,_,h=>h
 | n+1,s,h=>by
  simp only [KnS.iter]
  split
  ·exact Snd.iter hm hl hh n (h.round hm hl hh _)
  ·exact h
end
abbrev Cs':=List (Bool × List Int)
def hd1 (c:Bool × List Int):Int:=c.2.headD 0
def nextL:Cs'→List Int→Option (List Int)
 | c::cs,m::ms=>match nextL cs ms with
  | some r=>some (m::r)
  | none=>if idxI c.2 m 0+1<c.2.length then some (c.2.getD (idxI c.2 m 0+1).toNat 0::cs.map hd1) else none
 | _,_=>none
end Go.Pv.T
namespace Go.Pv.T
open Go Go.Pv
end Go.Pv.T
namespace Go.Pv.T
open Go Go.Pv
theorem ev39 (h:Hist') (hn:h.ts.length≤1000):Ev E 39 [.agg (j2 h)] (.sl (some (0,1)) false (numsTo JO h.ts h.ts.length).length ((numsTo JO h.ts h.ts.length).flatMap intC)):=by
 refine jT (af:=F39) rfl ?_
 simp [F39,j2]
 refine jL (cs:=[]) rfl rfl rfl ?_
 simp
 refine Yd (n:=h.ts.length) (fun k s=>∃ i u,k=h.ts.length - i∧i≤h.ts.length∧s.df=[]∧s.fb=0∧s.ro=0∧s.tm 1 = .ptr 2 0 0∧s.ob 2=some ⟨0,.cells (j2 h)⟩∧s.tm 4 = .int .i64 i∧s.tk u=true ∧
  s.tm 3 = .sl (some (u,1)) false (numsTo JO h.ts i).length ((numsTo JO h.ts i).flatMap intC))
  ⟨0,128,by simp [numsTo,j2]⟩ ?_
 rintro k s ⟨i,u,rfl,hi,hd,hfb,hro,h1,o2,h4,hu,h3⟩
 by_cases hlt:i<h.ts.length
 ·simp [h1,o2,h4,j1,j2,hlt,j5 j8,jb j8,ji]
  have hl:=JF JO h.ts i
  cases hf:h.ts[i].f == 1
  ·simp [h4]
   refine ⟨h.ts.length - (i+1),by omega,i+1,⟨rfl,by omega,hd,hfb,hro,h1,by simpa [j2] using o2,by rw [J8 (by omega) (by omega)];simp,u,hu,?_⟩⟩
   rw [h3,JI hlt,JO,hf]
   simp
  ·simp [h3,h4]
   refine jL (cs:=[.int .i64 i]) (by simp [j7]) rfl rfl ?_
   simp
   refine Jw (u:=u) (nl:=false) (n:=(numsTo JO h.ts i).length) (cs:=(numsTo JO h.ts i).flatMap intC) (ys:=[.int .i64 i]) (by simp) (by simp [jl,hu]) (by simp [jM]) (by simp) (by rw [jA jF]) (by decide) rfl (by simp;omega) (by simp;omega) ?_
   simp [h4,hd,hfb,hro,h1,o2,j2]
   refine ⟨h.ts.length - (i+1),by omega,i+1,rfl,by omega,by rw [J8 (by omega) (by omega)];simp,Or.inl ?_⟩
   rw [JI hlt,JO,hf]
   simp [intC]
 ·have:i=h.ts.length:=by omega
  subst this
  simp [h1,o2,h4,j1,j2]
  exact je2 (u:=u) (by simpa using hd) (by simp [h3]) (by simpa using hu)
def Xh (f:Nat→Bool):Nat→Bool
 | 0=>true
 | k+1=>Xh f k && f k
theorem andTo_iff {f:Nat→Bool}:∀ {n:Nat},Xh f n=true ↔ ∀ k,k<n→f k=true
 | 0=>by simp [Xh]
 | n+1=>by
  rw [Xh,Bool.and_eq_true,andTo_iff]
  constructor
  ·rintro ⟨h,h'⟩ k hk
   rcases Nat.lt_or_ge k n with h1 | h1
   ·exact h k h1
   ·have:k=n:=by omega
    exact this ▸ h'
  ·exact fun h=>⟨fun k hk=>h k (by omega),h n (by omega)⟩
theorem Js {f:Nat→Bool} {k n:Nat} (hk:k<n) (h:f k=false):Xh f n=false:=by
 cases e:Xh f n with
 | false=>rfl
 | true=>rw [andTo_iff.1 e k hk] at h;cases h
theorem jl8 {f f':Nat→Bool} {n:Nat} (h:∀ k,k<n→f k=f' k):Xh f n=Xh f' n:=by
 rw [Bool.eq_iff_iff,andTo_iff,andTo_iff]
 exact ⟨fun a k hk=>h k hk ▸ a k hk,fun a k hk=>(h k hk).symm ▸ a k hk⟩
def filTo (f:Nat→Bool):Nat→List Int
 | 0=>[]
 | k+1=>filTo f k++(if f k then [(k:Int)] else [])
theorem je1 (f:Nat→Bool):∀ n,(filTo f n).length≤n
 | 0=>Nat.le_refl _
 | n+1=>by
  have:=je1 f n
  simp only [filTo,List.length_append]
  split <;> simp <;> omega
theorem filTo_mem {f:Nat→Bool} {x:Int}:∀ {n:Nat},x∈filTo f n ↔ ∃ k:Nat,k<n∧x=k∧f k=true
 | 0=>by simp [filTo]
 | n+1=>by
  rw [filTo,List.mem_append,filTo_mem]
  constructor
  ·rintro (⟨k,h1,h2,h3⟩ | h)
   ·exact ⟨k,by omega,h2,h3⟩
   ·cases hf:f n
    ·simp [hf] at h
    ·simp [hf] at h;exact ⟨n,by omega,h,hf⟩
  ·rintro ⟨k,h1,h2,h3⟩
   rcases Nat.lt_or_ge k n with h | h
   ·exact .inl ⟨k,h,h2,h3⟩
   ·have:k=n:=by omega
    subst this
    exact .inr (by simp [h3,h2])
def XB (g:Hist') (a:Nat):Bool:=match g.ts[a]? with | some t=>JO t | none=>false
def jv (g:Hist') (a:Nat):Int:=match g.ts[a]? with | some t=>t.s | none=>0
def jii (p:Txn'→Bool) (ts:List Txn') (a:Nat):Bool:=match ts[a]? with | some t=>p t | none=>false
theorem W3 (p:Txn'→Bool) (ts:List Txn'):∀ n,numsTo p ts n=filTo (jii p ts) n
 | 0=>rfl
 | n+1=>by
  rw [numsTo,filTo,W3 p ts n]
  congr 1
  unfold jii
  cases ts[n]? <;> rfl
theorem Xj {g:Hist'} {a:Nat} (h:XB g a=true):a<g.ts.length:=by
 unfold XB at h
 cases h':g.ts[a]? with
 | none=>rw [h'] at h;cases h
 | some t=>exact (List.getElem?_eq_some_iff.1 h').1
def comL (g:Hist'):List Int:=numsTo JO g.ts g.ts.length
theorem comL_mem {g:Hist'} {x:Int}:x∈comL g ↔ ∃ k:Nat,x=k∧XB g k=true:=by
 rw [comL,W3,filTo_mem]
 exact ⟨fun ⟨k,_,h2,h3⟩=>⟨k,h2,h3⟩,fun ⟨k,h2,h3⟩=>⟨k,Xj h3,h2,h3⟩⟩
theorem jtr {g:Hist'} (h:jw g=true):comH g=comL g:=by rw [comH,if_pos h];rfl
def jlu (R:List (Int × Int)) (M:List Int) (a b:Nat):Bool:=(R.zip M).any fun x=>x.2 == (a:Int) && x.1.1 == (b:Int)
def Xl (g:Hist') (M:List Int) (a b:Nat):Bool:=XB g a && XB g b && ((decide (a<b) && jv g a == jv g b) || jlu (readH g) M a b)
def war (r:Nat→Nat→Bool):Nat→Nat→Nat→Bool
 | 0,b,a=>r a b
 | k+1,b,a=>war r k b a || (war r k b k && war r k k a)
theorem Yt {r:Nat→Nat→Bool}:∀ {K k:Nat},k<K→∀ {b a:Nat},war r K b k=true→war r K k a=true→war r K b a=true
 | K+1,k,hk,b,a,h1,h2=>by
  simp only [war,Bool.or_eq_true,Bool.and_eq_true] at h1 h2 ⊢
  rcases Nat.lt_or_ge k K with hlt | hge
  ·rcases h1 with h1 | ⟨h1,h1'⟩ <;> rcases h2 with h2 | ⟨h2,h2'⟩
   ·exact .inl (Yt hlt h1 h2)
   ·exact .inr ⟨Yt hlt h1 h2,h2'⟩
   ·exact .inr ⟨h1,Yt hlt h1' h2⟩
   ·exact .inr ⟨h1,h2'⟩
  ·have:k=K:=by omega
   subst this
   rcases h1 with h1 | ⟨h1,h1'⟩ <;> rcases h2 with h2 | ⟨h2,h2'⟩
   ·exact .inr ⟨h1,h2⟩
   ·exact .inr ⟨h1,h2'⟩
   ·exact .inr ⟨h1,h2⟩
   ·exact .inr ⟨h1,h2'⟩
theorem jdg {r:Nat→Nat→Bool} {b a:Nat} (h:r a b=true):∀ K,war r K b a=true
 | 0=>h
 | K+1=>by simp [war,jdg h K]
theorem jfr {r:Nat→Nat→Bool} {p:Nat→Prop} {q:Nat→Prop} (h0:∀ a b,q b→r a b=true→p a) (h1:∀ b,p b→q b):∀ (K:Nat) {b a:Nat},q b→war r K b a=true→p a
 | 0,b,a,hb,h=>h0 a b hb h
 | K+1,b,a,hb,h=>by
  simp only [war,Bool.or_eq_true,Bool.and_eq_true] at h
  rcases h with h | ⟨h,h'⟩
  ·exact jfr h0 h1 K hb h
  ·exact jfr h0 h1 K (h1 _ (jfr h0 h1 K hb h)) h'
def farB (g:Hist') (M:List Int) (t a:Nat):Bool:=war (Xl g M) g.ts.length t a
theorem Yu {g:Hist'} {M:List Int} {a b:Nat} (h:Xl g M a b=true):XB g a=true∧XB g b=true:=by
 simp only [Xl,Bool.and_eq_true] at h
 exact h.1
theorem jc6 {g:Hist'} {M:List Int} {t a:Nat} (h:farB g M t a=true):XB g a=true :=
 jfr (r:=Xl g M) (p:=fun a=>XB g a=true) (q:=fun _=>True) (fun _ _ _ h=>(Yu h).1) (fun _ _=>trivial) g.ts.length (b:=t) trivial h
def atO (O:List Int) (t:Int):Int:=idxI O t 0
theorem jhr (k:Int):∀ (l:List Int) (n:Nat),idxI l k n = -1∨(n:Int)≤idxI l k n
 | [],n=>.inl rfl
 | x::r,n=>by
  rw [idxI]
  split
  ·exact .inr (Int.le_refl _)
  ·rcases jhr k r (n+1) with h | h
   ·exact .inl h
   ·exact .inr (by omega)
theorem jy1 (O:List Int) (t:Int):-1≤atO O t:=by
 rcases jhr t O 0 with h | h <;> unfold atO <;> omega
theorem atO_neg {O:List Int} {t:Int}:atO O t<0 ↔ t ∉ O:=by
 have h:=jhs t O 0
 unfold atO
 constructor
 ·intro h1 h2
  have:O.contains t=true:=by simpa using h2
  rw [this] at h
  simp at h
  omega
 ·intro h1
  have:O.contains t=false:=by simpa using h1
  rw [this] at h
  simpa using h
theorem jnh {a b:Int}:∀ {l:List Int} {n:Nat},0≤idxI l a n→idxI l a n=idxI l b n→a=b
 | [],n,h,_=>by simp [idxI] at h
 | x::r,n,h,h'=>by
  rw [idxI] at h h'
  rw [idxI] at h'
  by_cases h1:a=x
  ·by_cases h2:b=x
   ·rw [h1,h2]
   ·have e1:(a == x)=true:=by simpa using h1
    have e2:(b == x)=false:=by simpa using h2
    rw [e1,e2] at h'
    simp only [if_true,Bool.false_eq_true,if_false] at h'
    rcases jhr b r (n+1) with h3 | h3 <;> omega
  ·have e1:(a == x)=false:=by simpa using h1
   by_cases h2:b=x
   ·have e2:(b == x)=true:=by simpa using h2
    rw [e1,e2] at h'
    simp only [if_true,Bool.false_eq_true,if_false] at h'
    rcases jhr a r (n+1) with h3 | h3 <;> omega
   ·have e2:(b == x)=false:=by simpa using h2
    rw [e1] at h
    rw [e1,e2] at h'
    simp only [Bool.false_eq_true,if_false] at h h'
    exact jnh h h'
theorem j2s {O:List Int} {a b:Int} (ha:a∈O) (h:atO O a=atO O b):a=b:=by
 refine jnh (l:=O) (n:=0) ?_ h
 rcases Int.lt_or_le (idxI O a 0) 0 with h1 | h1
 ·exact absurd ha (atO_neg.1 h1)
 ·exact h1
def Xy (g:Hist') (p:Int × Int):Int:=match opAt g p.1 p.2 with | some o=>o.key | none=>0
def Jm (g:Hist') (t key:Int):Bool:=(Y6 (JE g t).2 key).2
def rcB (R:List (Int × Int)) (M:List Int) (p:Int × Int) (t:Int):Bool:=(R.zip M).any fun x=>x.1.1 == p.1 && (decide (x.1.2<p.2) && x.2 == t)
def seesB (g:Hist') (lvl:Int) (M O:List Int) (p:Int × Int) (t:Nat):Bool :=
 if lvl=1 then rcB (readH g) M p t else if lvl=2 then farB g M p.1.toNat t else if lvl=3 then XB g t && decide (atO O t<atO O p.1) else false
def jcq (g:Hist') (lvl:Int) (M O:List Int) (p:Int × Int):List Int:=filTo (seesB g lvl M O p) g.ts.length
def okB (g:Hist') (O:List Int) (p:Int × Int) (m t:Int):Bool:=t == m || (!Jm g t (Xy g p) || decide (atO O t<atO O m))
def jae (g:Hist') (lvl:Int) (M O:List Int) (i:Nat):Bool:=match (readH g)[i]?,M[i]? with
 | some p,some m=>decide (m<0∨atO O m<atO O p.1) && (jcq g lvl M O p).all (okB g O p m)
 | _,_=>true
def Wd (g:Hist') (O:List Int) (b a:Nat):Bool:=!(jv g ((comL g).getD a 0).toNat == jv g ((comL g).getD b 0).toNat) || decide (atO O ((comL g).getD a 0)<atO O ((comL g).getD b 0))
def sesB (g:Hist') (O:List Int) (b:Nat):Bool:=(badH g ((comL g).getD b 0)).isEmpty && Xh (Wd g O b) b
def XV (g:Hist') (lvl:Int) (M O:List Int):Bool:=Xh (sesB g O) (comL g).length && Xh (jae g lvl M O) (readH g).length
def J5 (g:Hist') (O:List Int):Bool:=jw g && ((comL g).length == O.length && Xh (fun i=>(comL g).contains (O.getD i 0) && !(O.take i).contains (O.getD i 0)) O.length)
def jto (g:Hist') (lvl:Int) (M O:List Int):Int:=if !jw g then 4 else if decide (lvl<1∨3<lvl) || (!jce g M || !J5 g O) then 2 else 0
theorem com_f {g:Hist'} (hw:jw g=true) {a:Nat} {t:Txn'} (ht:g.ts[a]? = some t) (h2:t.f≠2):XB g a=true:=by
 unfold jw at hw
 simp only [Bool.and_eq_true,List.isEmpty_iff] at hw
 obtain ⟨hm,hi,_⟩:=hw
 have h3:t.f≠3:=fun e=>by
  have:((a:Nat):Int)∈XU g:=by
   rw [XU,W3,filTo_mem]
   exact ⟨a,(List.getElem?_eq_some_iff.1 ht).1,rfl,by simp [jii,ht,Jp,e]⟩
  rw [hi] at this
  cases this
 unfold X9 at hm
 simp only [Bool.and_eq_true,List.all_eq_true] at hm
 have:=hm.2.1 t (List.mem_of_getElem? ht)
 simp only [jcp,Bool.and_eq_true,decide_eq_true_eq] at this
 simp only [XB,ht,JO,beq_iff_eq]
 omega
theorem jyf {g:Hist'} (hw:jw g=true) {a b x:Int} (h:x∈ofH g a b):x = -1∨x∈comL g:=by
 unfold ofH at h
 split at h
 ·split at h
  ·cases h
  ·rw [ofL,List.mem_append] at h
   rcases h with h | h
   ·unfold js at h
    split at h
    ·cases h
    ·exact .inl (by simpa using h)
   ·have h1:=(List.mem_filter.1 h).1
    rw [writersH,W3,filTo_mem] at h1
    obtain ⟨k,h1,h2,h3⟩:=h1
    refine .inr (comL_mem.2 ⟨k,h2,?_⟩)
    unfold jii at h3
    cases ht:g.ts[k]? with
    | none=>rw [ht] at h3;cases h3
    | some t =>
     rw [ht] at h3
     simp only [wrB,Bool.and_eq_true,bne_iff_ne,ne_eq] at h3
     exact com_f hw ht h3.1
 ·cases h
theorem jka:∀ {C:List (Bool × List Int)} {M:List Int} {i:Nat} {c:Bool × List Int},ja8 C M=true→C[i]? = some c→∃ m,M[i]? = some m∧m∈c.2
 | [],_,_,_,_,hc=>by simp at hc
 | _::_,[],_,_,h,_=>by simp [ja8] at h
 | d::C,m::M,0,c,h,hc=>by
  simp only [ja8,Bool.and_eq_true] at h
  simp at hc
  subst hc
  exact ⟨m,rfl,by simpa using h.1⟩
 | d::C,m::M,i+1,c,h,hc=>by
  simp only [ja8,Bool.and_eq_true] at h
  simpa using jka h.2 (by simpa using hc)
section
variable {g:Hist'} {M O:List Int}
theorem jc2 (h:jce g M=true) {i:Nat} {p:Int × Int} (hp:(readH g)[i]? = some p):∃ m,M[i]? = some m∧m∈ofH g p.1 p.2:=by
 unfold jce at h
 simp only [Bool.and_eq_true] at h
 exact jka (c:=(false,ofH g p.1 p.2)) h.2.2 (by simp [choR,hp])
theorem jli (h:jce g M=true):M.length=(readH g).length:=by
 unfold jce at h
 simp only [Bool.and_eq_true,beq_iff_eq] at h
 simpa [choR] using h.2.1
theorem W4 (h:jce g M=true):jw g=true:=by
 unfold jce at h
 simp only [Bool.and_eq_true] at h
 exact h.1
theorem jsf (h:jce g M=true) {m:Int} (hm:m∈M):m = -1∨m∈comL g:=by
 obtain ⟨i,hi,e⟩:=List.getElem_of_mem hm
 have hi':i<(readH g).length:=by rw [← jli h];exact hi
 obtain ⟨m',h1,h2⟩:=jc2 h (List.getElem?_eq_getElem hi')
 rw [List.getElem?_eq_getElem hi] at h1
 cases h1
 rw [← e]
 exact jyf (W4 h) h2
theorem jdz {p:Int × Int}:∀ {n:Nat},p∈Jk g n→∃ (i k:Nat) (t:Txn'),p=((i:Int),(k:Int))∧g.ts[i]? = some t∧JO t=true∧k<t.ops.length∧XD g i k=true
 | 0,h=>by simp [Jk] at h
 | n+1,h=>by
  rw [Jk,List.mem_append] at h
  rcases h with h | h
  ·exact jdz h
  ·cases ht:g.ts[n]? with
   | none=>rw [ht] at h;cases h
   | some t =>
    rw [ht] at h
    simp only at h
    split at h
    ·rename_i hc
     obtain ⟨k,h1,h2,h3⟩:=readIn_mem.1 h
     exact ⟨n,k,t,h2,ht,hc,h1,h3⟩
    ·cases h
theorem jcy {p:Int × Int} (h:p∈readH g):p.1∈comL g:=by
 obtain ⟨i,k,t,rfl,ht,hc,_⟩:=jdz h
 exact comL_mem.2 ⟨i,rfl,by simp [XB,ht,hc]⟩
/-! Orders -/
theorem ji0 (h:J5 g O=true):(comL g).length=O.length:=by
 unfold J5 at h
 simp only [Bool.and_eq_true,beq_iff_eq] at h
 exact h.2.1
theorem jm0 (h:J5 g O=true) {i:Nat} (hi:i<O.length):O[i]∈comL g∧O[i] ∉ O.take i:=by
 unfold J5 at h
 simp only [Bool.and_eq_true] at h
 have:=andTo_iff.1 h.2.2 i hi
 simpa [List.getD_eq_getElem?_getD,List.getElem?_eq_getElem hi] using this
theorem jm5:∀ {L:List Int},(∀ i (hi:i<L.length),L[i] ∉ L.take i)→L.Nodup
 | [],_=>List.nodup_nil
 | x::r,h=>by
  rw [List.nodup_cons]
  constructor
  ·intro hx
   obtain ⟨i,hi,e⟩:=List.getElem_of_mem hx
   have:=h (i+1) (by simpa using hi)
   simp [e] at this
  ·refine jm5 fun i hi hm=>?_
   have:=h (i+1) (by simpa using hi)
   simp [hm] at this
theorem JC (h:J5 g O=true):O.Nodup:=jm5 fun _ hi=>(jm0 h hi).2
theorem YN (h:J5 g O=true) {x:Int} (hx:x∈O):x∈comL g:=by
 obtain ⟨i,hi,e⟩:=List.getElem_of_mem hx
 exact e ▸ (jm0 h hi).1
theorem je5 (g:Hist'):(comL g).Pairwise (· < ·):=(W2 (p:=JO) (ts:=g.ts) g.ts.length (Nat.le_refl _)).2
theorem jpo (g:Hist'):(comL g).Nodup:=(je5 g).imp fun h=>Int.ne_of_lt h
theorem jd5:∀ {O C:List Int},O.Nodup→(∀ x∈O,x∈C)→C.length=O.length→O.Perm C
 | [],C,_,_,h=>by
  have:C=[]:=List.length_eq_zero_iff.1 h
  rw [this]
 | x::r,C,hn,hs,h=>by
  rw [List.nodup_cons] at hn
  have hx:=hs x (by simp)
  have h1:=List.perm_cons_erase hx
  refine (List.Perm.cons x (jd5 hn.2 (fun y hy=>?_) ?_)).trans h1.symm
  ·have hne:y≠x:=fun e=>hn.1 (e ▸ hy)
   exact (List.mem_erase_of_ne hne).2 (hs y (by simp [hy]))
  ·have:=h1.length_eq
   simp at this h
   omega
theorem W1 (h:J5 g O=true):O.Perm (comL g):=jd5 (JC h) (fun _=>YN h) (ji0 h)
theorem jrh (hw:jw g=true):J5 g O=true ↔ O.Perm (comL g):=by
 refine ⟨W1,fun h=>?_⟩
 have hn:O.Nodup:=h.nodup_iff.2 (jpo g)
 unfold J5
 rw [hw,Bool.true_and,Bool.and_eq_true,andTo_iff]
 refine ⟨by rw [h.length_eq];simp,fun i hi=>?_⟩
 have h1:O[i]∈comL g:=h.mem_iff.1 (List.getElem_mem hi)
 have h2:O[i] ∉ O.take i:=fun hm=>by
  obtain ⟨j,hj,e⟩:=List.getElem_of_mem hm
  simp at hj
  rw [List.getElem_take] at e
  exact List.pairwise_iff_getElem.1 hn j i (by omega) hi (by omega) e
 simp [List.getD_eq_getElem?_getD,List.getElem?_eq_getElem hi,h1,h2]
theorem jfy:∀ {S C:List Int},S.Perm C→S.Pairwise (·≤·)→C.Pairwise (· < ·)→S=C
 | [],C,h,_,_=>(List.nil_perm.1 h).symm
 | x::r,C,h,hs,hc=>by
  cases C with
  | nil=>exact absurd h.length_eq (by simp)
  | cons y q =>
   rw [List.pairwise_cons] at hs hc
   have hx:x∈y::q:=h.mem_iff.1 (by simp)
   have hy:y∈x::r:=h.mem_iff.2 (by simp)
   have e:x=y:=by
    rcases List.mem_cons.1 hx with h1 | h1
    ·exact h1
    ·rcases List.mem_cons.1 hy with h2 | h2
     ·exact h2.symm
     ·have:=hs.1 y h2
      have:=hc.1 x h1
      omega
   subst e
   rw [jfy ((List.perm_cons x).1 h) hs.2 hc.2]
theorem jcd (hw:jw g=true) {S:List Int} (hp:O.Perm S) (hs:S.Pairwise (·≤·)):(S == comL g)=J5 g O:=by
 rw [Bool.eq_iff_iff,jrh hw,beq_iff_eq]
 exact ⟨fun e=>e ▸ hp,fun h=>jfy (hp.symm.trans h) hs (je5 g)⟩
/-! Where each stands -/
theorem jni:∀ {l:List Int} {n k:Nat} (h:k<l.length),l.Nodup→idxI l l[k] n=(n+k:Nat)
 | x::r,n,0,_,_=>by simp [idxI]
 | x::r,n,k+1,h,hn=>by
  rw [List.nodup_cons] at hn
  have hk:k<r.length:=by simpa using h
  have hne:((r[k]) == x)=false:=by
   rw [beq_eq_false_iff_ne]
   exact fun e=>hn.1 (e ▸ List.getElem_mem hk)
  simp only [List.getElem_cons_succ,idxI,hne,Bool.false_eq_true,if_false]
  rw [jni hk hn.2]
  omega
theorem Q0 (hn:O.Nodup) {k:Nat} (h:k<O.length):atO O O[k]=k:=by
 rw [atO,jni h hn,Nat.zero_add]
def atM (O:List Int):Nat→List (Int × Int)
 | 0=>[(-1,-1)]
 | k+1=>mset (atM O k) (O.getD k 0) k
theorem jtz (hn:O.Nodup) (t:Int):∀ k,k≤O.length→JY (atM O k) t=if t∈O.take k then atO O t else if t = -1 then -1 else 0
 | 0,_=>by
  unfold atM JY
  by_cases h:t = -1 <;> simp [jW,h]
 | k+1,h=>by
  have hk:k<O.length:=by omega
  rw [atM,jsb,jtz hn t k (by omega)]
  have e:O.getD k 0=O[k]:=by simp [List.getD_eq_getElem?_getD,List.getElem?_eq_getElem hk]
  have hm:t∈O.take (k+1) ↔ t∈O.take k∨t=O[k]:=by
   rw [List.take_add_one,List.getElem?_eq_getElem hk]
   simp only [List.mem_append,Option.toList_some,List.mem_singleton]
  rw [e]
  by_cases h1:t=O[k]
  ·rw [if_pos h1,if_pos (hm.2 (.inr h1)),h1,Q0 hn hk]
  ·rw [if_neg h1]
   by_cases h2:t∈O.take k
   ·rw [if_pos h2,if_pos (hm.2 (.inl h2))]
   ·rw [if_neg h2,if_neg fun h=>(hm.1 h).elim h2 h1]
theorem j9w (h:J5 g O=true) {t:Int} (ht:t = -1∨t∈comL g):JY (atM O O.length) t=atO O t:=by
 have hneg:(-1:Int) ∉ O:=fun hm=>by
  obtain ⟨k,e,_⟩:=comL_mem.1 (YN h hm)
  omega
 rw [jtz (JC h) t _ (Nat.le_refl _),List.take_length]
 rcases ht with rfl | ht
 ·rw [if_neg hneg,if_pos rfl]
  have h1:=atO_neg.2 hneg
  have h2:=jy1 O (-1)
  omega
 ·rw [if_pos ((W1 h).mem_iff.2 ht)]
theorem jl6 (h:J5 g O=true) {t:Int} (ht:t∈comL g):0≤atO O t:=by
 rcases Int.lt_or_le (atO O t) 0 with h1 | h1
 ·exact absurd ((W1 h).mem_iff.2 ht) (atO_neg.1 h1)
 ·exact h1
theorem jl5 (h:J5 g O=true):atO O (-1) = -1:=by
 have hneg:(-1:Int) ∉ O:=fun hm=>by
  obtain ⟨k,e,_⟩:=comL_mem.1 (YN h hm)
  omega
 have h1:=atO_neg.2 hneg
 have h2:=jy1 O (-1)
 omega
/-! Sessions -/
def j3c (g:Hist') (O:List Int):Nat→List (Int × Int)
 | 0=>[]
 | k+1=>mset (j3c g O k) (jv g ((comL g).getD k 0).toNat) (atO O ((comL g).getD k 0))
def sesG (g:Hist') (O:List Int) (k:Nat):Bool:=!((jW (j3c g O k) (jv g ((comL g).getD k 0).toNat)).any fun x=>decide (atO O ((comL g).getD k 0)<x.2)) && (badH g ((comL g).getD k 0)).isEmpty
def SesI (g:Hist') (O:List Int) (n:Nat):Prop:=∀ s,match (jW (j3c g O n) s).map (·.2) with
 | none=>∀ j,j<n→jv g ((comL g).getD j 0).toNat≠s
 | some v=>(∃ j,j<n∧jv g ((comL g).getD j 0).toNat=s∧atO O ((comL g).getD j 0)=v)∧∀ j,j<n→jv g ((comL g).getD j 0).toNat=s→atO O ((comL g).getD j 0)≤v
theorem jz4 (h:J5 g O=true) {n:Nat} (hn:n<(comL g).length) (hi:SesI g O n):sesG g O n=sesB g O n:=by
 unfold sesG sesB
 rw [Bool.and_comm]
 congr 1
 have hi:=hi (jv g ((comL g).getD n 0).toNat)
 have hget:∀ j (hj:j<(comL g).length),(comL g).getD j 0=(comL g)[j]:=fun j hj=>by simp [List.getD_eq_getElem?_getD,List.getElem?_eq_getElem hj]
 have hinj:∀ j,j<n→atO O ((comL g).getD j 0)≠atO O ((comL g).getD n 0):=fun j hj e=>by
  rw [hget j (by omega),hget n hn] at e
  have:=j2s ((W1 h).mem_iff.2 (List.getElem_mem (show j<(comL g).length by omega))) e
  have hp:=List.pairwise_iff_getElem.1 (je5 g) j n (by omega) hn hj
  omega
 rw [Bool.eq_iff_iff,andTo_iff]
 cases hf:jW (j3c g O n) (jv g ((comL g).getD n 0).toNat) with
 | none =>
  rw [hf] at hi
  simp only [Option.map_none] at hi
  simp only [Option.any_none,Bool.not_false,true_iff]
  intro j hj
  rw [Wd,beq_eq_false_iff_ne.2 (hi j hj)]
  rfl
 | some x =>
  rw [hf] at hi
  simp only [Option.map_some] at hi
  obtain ⟨⟨j0,h1,h2,h3⟩,h4⟩:=hi
  simp only [Option.any_some,Bool.not_eq_true',decide_eq_false_iff_not,Int.not_lt]
  constructor
  ·intro hle j hj
   by_cases hs:jv g ((comL g).getD j 0).toNat=jv g ((comL g).getD n 0).toNat
   ·have:=h4 j hj hs
    have:=hinj j hj
    simp only [Wd,hs,beq_self_eq_true,Bool.not_true,Bool.false_or,decide_eq_true_eq]
    omega
   ·rw [Wd,beq_eq_false_iff_ne.2 hs]
    rfl
  ·intro ha
   have:=ha j0 h1
   simp only [Wd,h2,beq_self_eq_true,Bool.not_true,Bool.false_or,decide_eq_true_eq] at this
   omega
theorem jqq (h:J5 g O=true):∀ {n:Nat},n≤(comL g).length→Xh (sesB g O) n=true→SesI g O n
 | 0,_,_=>fun s=>by simp [j3c,jW]
 | n+1,hn,ha=>fun s=>by
  rw [Xh,Bool.and_eq_true] at ha
  have hi:=jqq h (n:=n) (by omega) ha.1
  have hb:=ha.2
  unfold sesB at hb
  rw [Bool.and_eq_true,andTo_iff] at hb
  have hi:=hi s
  rw [j3c,X2]
  by_cases hs:s=jv g ((comL g).getD n 0).toNat
  ·subst hs
   rw [if_pos rfl]
   refine ⟨⟨n,by omega,rfl,rfl⟩,fun j hj he=>?_⟩
   rcases Nat.lt_succ_iff_lt_or_eq.1 hj with h1 | h1
   ·have:=hb.2 j h1
    simp only [Wd,he,beq_self_eq_true,Bool.not_true,Bool.false_or,decide_eq_true_eq] at this
    omega
   ·subst h1;exact Int.le_refl _
  ·rw [if_neg hs]
   split at hi
   ·intro j hj
    rcases Nat.lt_succ_iff_lt_or_eq.1 hj with h1 | h1
    ·exact hi j h1
    ·subst h1;exact fun e=>hs e.symm
   ·obtain ⟨⟨j,h1,h2,h3⟩,h4⟩:=hi
    refine ⟨⟨j,by omega,h2,h3⟩,fun j hj he=>?_⟩
    rcases Nat.lt_succ_iff_lt_or_eq.1 hj with h1 | h1
    ·exact h4 j h1 he
    ·subst h1;exact absurd he.symm hs
theorem jx8 (h:J5 g O=true):∀ {n:Nat},n≤(comL g).length→Xh (sesG g O) n=Xh (sesB g O) n
 | 0,_=>rfl
 | n+1,hn=>by
  have ih:=jx8 h (n:=n) (by omega)
  rw [Xh,Xh,ih]
  cases ha:Xh (sesB g O) n with
  | false=>rfl
  | true=>rw [jz4 h (by omega) (jqq h (by omega) ha)]
/-! What reads see -/
def jz5 (g:Hist') (lvl:Int) (M O:List Int) (p:Int × Int) (t:Int):Bool:=if lvl=1 then rcB (readH g) M p t else if lvl=2 then farB g M p.1.toNat t.toNat else decide (atO O t<atO O p.1)
def jqx (g:Hist') (lvl:Int) (M O:List Int) (i:Nat):Bool:=match (readH g)[i]?,M[i]? with
 | some p,some m=>decide (atO O m<atO O p.1) && (comL g).all fun t=>!jz5 g lvl M O p t || okB g O p m t
 | _,_=>true
def jth (g:Hist') (lvl:Int) (M O:List Int):Bool:=Xh (sesG g O) (comL g).length && Xh (jqx g lvl M O) (readH g).length
theorem jmn (hm:jce g M=true) {lvl:Int} {p:Int × Int} {t:Nat} (h:seesB g lvl M O p t=true):XB g t=true:=by
 unfold seesB at h
 split at h
 ·unfold rcB at h
  obtain ⟨x,hx,h1⟩:=List.any_eq_true.1 h
  simp only [Bool.and_eq_true,beq_iff_eq] at h1
  have hm2:=jsf hm (List.of_mem_zip hx).2
  rw [h1.2.2] at hm2
  rcases hm2 with h2 | h2
  ·omega
  ·obtain ⟨k,e,hc⟩:=comL_mem.1 h2
   have:t=k:=by omega
   exact this ▸ hc
 ·split at h
  ·exact jc6 h
  ·split at h
   ·rw [Bool.and_eq_true] at h;exact h.1
   ·cases h
theorem jqr {lvl:Int} (h1:1≤lvl) (h3:lvl≤3) {p:Int × Int} {t:Nat} (hc:XB g t=true):jz5 g lvl M O p t=seesB g lvl M O p t:=by
 unfold jz5 seesB
 split
 ·rfl
 ·split
  ·simp
  ·rw [if_pos (by omega),hc,Bool.true_and]
theorem jvb {lvl:Int} (h1:1≤lvl) (h3:lvl≤3) (hm:jce g M=true) (ho:J5 g O=true) (i:Nat):jqx g lvl M O i=jae g lvl M O i:=by
 unfold jqx jae
 cases hp:(readH g)[i]? with
 | none=>rfl
 | some p =>
  obtain ⟨m,e,hmo⟩:=jc2 hm hp
  rw [e]
  simp only
  have hpc:=jcy (List.mem_of_getElem? hp)
  have ha:=jl6 ho hpc
  congr 1
  ·rcases jyf (W4 hm) hmo with rfl | hmc
   ·rw [jl5 ho]
    have:(-1:Int)<atO O p.1:=by omega
    simp [this]
   ·obtain ⟨k,e,_⟩:=comL_mem.1 hmc
    have:¬ m<0:=by omega
    simp [this]
  ·rw [Bool.eq_iff_iff,List.all_eq_true,List.all_eq_true]
   unfold jcq
   constructor
   ·intro h t ht
    obtain ⟨k,_,rfl,hk⟩:=filTo_mem.1 ht
    have hc:=jmn hm hk
    have:=h k (comL_mem.2 ⟨k,rfl,hc⟩)
    rw [jqr h1 h3 hc,hk] at this
    simpa using this
   ·intro h t ht
    obtain ⟨k,rfl,hc⟩:=comL_mem.1 ht
    rw [jqr h1 h3 hc]
    cases hk:seesB g lvl M O p k with
    | false=>rfl
    | true=>simpa using h k (filTo_mem.2 ⟨k,Xj hc,rfl,hk⟩)
theorem jw7 {lvl:Int} (h1:1≤lvl) (h3:lvl≤3) (hm:jce g M=true) (ho:J5 g O=true):jth g lvl M O=XV g lvl M O:=by
 unfold jth XV
 rw [jx8 ho (Nat.le_refl _),jl8 fun k _=>jvb h1 h3 hm ho k]
/-! Levels -/
theorem jqj (_:jce g M=true) (_:J5 g O=true) (hs:Xh (sesB g O) (comL g).length=true) (hr:∀ (i:Nat) (p:Int × Int) (m:Int),(readH g)[i]? = some p→M[i]? = some m→m<0∨atO O m<atO O p.1) {a b:Nat} (h:Xl g M a b=true):atO O a<atO O b:=by
 unfold Xl at h
 simp only [Bool.and_eq_true,Bool.or_eq_true,decide_eq_true_eq,beq_iff_eq] at h
 obtain ⟨⟨ca,cb⟩,h⟩:=h
 rcases h with ⟨hab,hse⟩ | h
 ·obtain ⟨i,hi,ei⟩:=List.getElem_of_mem (comL_mem.2 ⟨a,rfl,ca⟩)
  obtain ⟨j,hj,ej⟩:=List.getElem_of_mem (comL_mem.2 ⟨b,rfl,cb⟩)
  have hij:i<j:=by
   rcases Nat.lt_or_ge i j with h | h
   ·exact h
   ·rcases Nat.lt_or_ge j i with h' | h'
    ·have:=List.pairwise_iff_getElem.1 (je5 g) j i hj hi h'
     omega
    ·have:i=j:=by omega
     subst this
     omega
  have:=andTo_iff.1 hs j hj
  unfold sesB at this
  rw [Bool.and_eq_true,andTo_iff] at this
  have:=this.2 i hij
  have e1:(comL g).getD i 0=a:=by rw [← ei];simp [List.getD_eq_getElem?_getD,List.getElem?_eq_getElem hi]
  have e2:(comL g).getD j 0=b:=by rw [← ej];simp [List.getD_eq_getElem?_getD,List.getElem?_eq_getElem hj]
  rw [Wd,e1,e2] at this
  simpa [hse] using this
 ·unfold jlu at h
  obtain ⟨x,hx,h1⟩:=List.any_eq_true.1 h
  simp only [Bool.and_eq_true,beq_iff_eq] at h1
  obtain ⟨i,hi,ei⟩:=List.getElem_of_mem hx
  rw [List.getElem_zip] at ei
  rw [List.length_zip] at hi
  rw [← ei] at h1
  have:=hr i _ _ (List.getElem?_eq_getElem (by omega)) (List.getElem?_eq_getElem (by omega))
  simp only at h1
  rw [h1.1,h1.2] at this
  rcases this with h | h
  ·omega
  ·exact h
theorem jyr (hs:∀ a b:Nat,Xl g M a b=true→atO O a<atO O b) {t a:Nat} (h:farB g M t a=true):atO O a<atO O t :=
 jfr (r:=Xl g M) (p:=fun a=>atO O a<atO O t) (q:=fun a=>atO O (a:Int)≤atO O t) (fun a b hb hab=>Int.lt_of_lt_of_le (hs a b hab) hb) (fun _ h=>Int.le_of_lt h) g.ts.length (b:=t) (Int.le_refl _) h
theorem jqw {lvl:Int} (h:Xh (jae g lvl M O) (readH g).length=true) {i:Nat} {p:Int × Int} {m:Int} (hp:(readH g)[i]? = some p) (hm:M[i]? = some m):(m<0∨atO O m<atO O p.1)∧(jcq g lvl M O p).all (okB g O p m)=true:=by
 have:=andTo_iff.1 h i (List.getElem?_eq_some_iff.1 hp).1
 unfold jae at this
 rw [hp,hm] at this
 simpa only [Bool.and_eq_true,decide_eq_true_eq] using this
theorem jpf {l1 l2:Int} (h:XV g l1 M O=true) (hsub:∀ (i:Nat) (p:Int × Int) (m:Int),(readH g)[i]? = some p→M[i]? = some m→∀ t,seesB g l2 M O p t=true→seesB g l1 M O p t=true):XV g l2 M O=true:=by
 unfold XV at h ⊢
 rw [Bool.and_eq_true] at h ⊢
 refine ⟨h.1,andTo_iff.2 fun i hi=>?_⟩
 have:=andTo_iff.1 h.2 i hi
 unfold jae at this ⊢
 cases hp:(readH g)[i]? with
 | none=>rfl
 | some p =>
  cases hm:M[i]? with
  | none=>rfl
  | some m =>
   rw [hp,hm] at this
   simp only [Bool.and_eq_true,List.all_eq_true] at this ⊢
   refine ⟨this.1,fun t ht=>?_⟩
   obtain ⟨k,h1,rfl,h3⟩:=filTo_mem.1 ht
   exact this.2 k (filTo_mem.2 ⟨k,h1,rfl,hsub i p m hp hm k h3⟩)
theorem j4b (hm:jce g M=true) (ho:J5 g O=true) (h:XV g 3 M O=true):XV g 2 M O=true:=by
 refine jpf h fun i p m hp he t ht=>?_
 unfold XV at h
 rw [Bool.and_eq_true] at h
 have hst:∀ a b:Nat,Xl g M a b=true→atO O a<atO O b:=fun a b=>jqj hm ho h.1 fun i p m h1 h2=>(jqw h.2 h1 h2).1
 have hf:farB g M p.1.toNat t=true:=by simpa [seesB] using ht
 have hc:=jc6 hf
 obtain ⟨k,e,_⟩:=comL_mem.1 (jcy (List.mem_of_getElem? hp))
 have:=jyr hst hf
 have e2:((p.1.toNat:Nat):Int)=p.1:=by omega
 rw [e2] at this
 simp [seesB,hc,this]
end
section
variable (g:Hist') (M O:List Int)
def rdsT (t:Int):List (Int × Int × Int):=(((readH g).zip M).filter fun x=>x.1.1 == t).map fun x=>(x.1.2,Xy g x.1,x.2)
def Ql:Nat→Int→Option Int
 | 0,_=>none
 | k+1,s=>if jv g (O.getD k 0).toNat=s then some (O.getD k 0) else Ql k s
def jhm:Nat→Int→Option Int
 | 0,_=>none
 | k+1,key=>if Jm g (O.getD k 0) key then some (O.getD k 0) else jhm k key
def jlf (P:Int→List Int) (k:Nat):List Int :=
 ((rdsT g M (O.getD k 0)).filter fun r=>decide (0≤r.2.2)).flatMap (fun r=>r.2.2::P r.2.2)++(match Ql g O k (jv g (O.getD k 0).toNat) with | some a=>a::P a | none=>[])
def We:Nat→Int→List Int
 | 0=>fun _=>[]
 | k+1=>fun t=>if t=O.getD k 0 then jlf g M O (We k) k else We k t
def jfb (k:Nat) (t:Int) (r:Int × Int × Int):Bool:=decide (0≤t) && (!(t == r.2.2) && (Jm g t r.2.1 && decide (JY (atM O k) r.2.2≤JY (atM O k) t)))
def jq3 (lvl:Int) (k:Nat) (r:Int × Int × Int):Bool:=(jW (atM O k) r.2.2).isSome &&
 (if lvl=1 then !((rdsT g M (O.getD k 0)).any fun q=>decide (q.1<r.1) && jfb g O k q.2.2 r) else
  if lvl=2 then (jlf g M O (We g M O k) k).all fun a=>!jfb g O k a r else (jhm g O k r.2.1).getD (-1) == r.2.2)
def Qw (lvl:Int) (k:Nat):Bool:=!((Ql g O k (jv g (O.getD k 0).toNat)).any fun a=>decide (O.getD k 0<a)) && ((badH g (O.getD k 0)).isEmpty && (rdsT g M (O.getD k 0)).all (jq3 g M O lvl k))
def jn7 (lvl:Int):Bool:=Xh (Qw g M O lvl) O.length
end
theorem jjl (ops:List Op') (key:Int):(Y6 ops key).2=ops.any (wkB key):=by
 have:=Wl key ops ops.length (Nat.le_refl _)
 rwa [List.take_length] at this
theorem jg3 {r:Nat→Nat→Bool} {t:Nat}:∀ {K a:Nat},war r K t a=true→∃ b,r b t=true∧(b=a∨war r K b a=true)
 | 0,a,h=>⟨a,h,.inl rfl⟩
 | K+1,a,h=>by
  simp only [war,Bool.or_eq_true,Bool.and_eq_true] at h
  rcases h with h | ⟨h,h'⟩
  ·obtain ⟨b,h1,h2⟩:=jg3 h
   refine ⟨b,h1,h2.imp id fun h=>?_⟩
   simp [war,h]
  ·obtain ⟨b,h1,h2⟩:=jg3 h
   refine ⟨b,h1,.inr ?_⟩
   rcases h2 with rfl | h2
   ·simp [war,h']
   ·simp [war,h2,h']
section
variable {g:Hist'} {M O:List Int}
theorem jgs {k:Nat} (h:k<O.length):O.getD k 0=O[k]:=by simp [List.getD_eq_getElem?_getD,List.getElem?_eq_getElem h]
theorem jbr {s a:Int}:∀ {k:Nat},Ql g O k s=some a→∃ j,j<k∧a=O.getD j 0∧jv g a.toNat=s∧∀ i,j<i→i<k→jv g (O.getD i 0).toNat≠s
 | 0,h=>by cases h
 | k+1,h=>by
  unfold Ql at h
  split at h
  ·rename_i e
   cases h
   exact ⟨k,by omega,rfl,e,fun i h1 h2=>by omega⟩
  ·rename_i e
   obtain ⟨j,h1,h2,h3,h4⟩:=jbr h
   refine ⟨j,by omega,h2,h3,fun i h5 h6=>?_⟩
   rcases Nat.lt_succ_iff_lt_or_eq.1 h6 with h7 | h7
   ·exact h4 i h5 h7
   ·subst h7;exact e
theorem jbs {s:Int}:∀ {k:Nat},Ql g O k s=none→∀ i,i<k→jv g (O.getD i 0).toNat≠s
 | 0,_,i,hi=>by omega
 | k+1,h,i,hi=>by
  unfold Ql at h
  split at h
  ·cases h
  ·rename_i e
   rcases Nat.lt_succ_iff_lt_or_eq.1 hi with h7 | h7
   ·exact jbs h i h7
   ·subst h7;exact e
theorem jgl {key a:Int}:∀ {k:Nat},jhm g O k key=some a→∃ j,j<k∧a=O.getD j 0∧Jm g a key=true∧∀ i,j<i→i<k→Jm g (O.getD i 0) key=false
 | 0,h=>by cases h
 | k+1,h=>by
  unfold jhm at h
  split at h
  ·rename_i e
   cases h
   exact ⟨k,by omega,rfl,e,fun i h1 h2=>by omega⟩
  ·rename_i e
   obtain ⟨j,h1,h2,h3,h4⟩:=jgl h
   refine ⟨j,by omega,h2,h3,fun i h5 h6=>?_⟩
   rcases Nat.lt_succ_iff_lt_or_eq.1 h6 with h7 | h7
   ·exact h4 i h5 h7
   ·subst h7;simpa using e
theorem jgm {key:Int}:∀ {k:Nat},jhm g O k key=none→∀ i,i<k→Jm g (O.getD i 0) key=false
 | 0,_,i,hi=>by omega
 | k+1,h,i,hi=>by
  unfold jhm at h
  split at h
  ·cases h
  ·rename_i e
   rcases Nat.lt_succ_iff_lt_or_eq.1 hi with h7 | h7
   ·exact jgm h i h7
   ·subst h7;simpa using e
theorem mem_rdsT {t:Int} {r:Int × Int × Int}:r∈rdsT g M t ↔ ∃ (i:Nat) (p:Int × Int) (m:Int),(readH g)[i]? = some p∧M[i]? = some m∧p.1=t∧r=(p.2,Xy g p,m):=by
 unfold rdsT
 rw [List.mem_map]
 constructor
 ·rintro ⟨⟨p,m⟩,hx,rfl⟩
  obtain ⟨hx,ht⟩:=List.mem_filter.1 hx
  obtain ⟨i,hi,e⟩:=List.getElem_of_mem hx
  rw [List.length_zip] at hi
  rw [List.getElem_zip] at e
  cases e
  exact ⟨i,_,_,List.getElem?_eq_getElem (by omega),List.getElem?_eq_getElem (by omega),by simpa using ht,rfl⟩
 ·rintro ⟨i,p,m,h1,h2,h3,rfl⟩
  obtain ⟨a1,rfl⟩:=List.getElem?_eq_some_iff.1 h1
  obtain ⟨a2,rfl⟩:=List.getElem?_eq_some_iff.1 h2
  refine ⟨((readH g)[i],M[i]),List.mem_filter.2 ⟨?_,by simpa using h3⟩,rfl⟩
  have hi:i<((readH g).zip M).length:=by rw [List.length_zip];omega
  have:=List.getElem_mem hi
  rwa [List.getElem_zip] at this
theorem jhu (x:Int):∀ k,k≤O.length→((jW (atM O k) x).isSome=true ↔ x = -1∨x∈O.take k)
 | 0,_=>by
  unfold atM
  by_cases h:x = -1 <;> simp [jW,h]
 | k+1,h=>by
  have hk:k<O.length:=by omega
  have ih:=jhu x k (by omega)
  have hm:x∈O.take (k+1) ↔ x∈O.take k∨x=O[k]:=by
   rw [List.take_add_one,List.getElem?_eq_getElem hk]
   simp only [List.mem_append,Option.toList_some,List.mem_singleton]
  rw [← Option.isSome_map (f:=(·.2)),atM,X2,jgs hk,hm]
  by_cases hx:x=O[k]
  ·simp [hx]
  ·rw [if_neg hx,Option.isSome_map,ih]
   simp [hx]
def SS (g:Hist') (O:List Int):Prop:=∀ a b:Nat,XB g a=true→XB g b=true→a<b→jv g a=jv g b→atO O a<atO O b
def FF (g:Hist') (M O:List Int):Prop:=∀ (i:Nat) (p:Int × Int) (m:Int),(readH g)[i]? = some p→M[i]? = some m→m<0∨atO O m<atO O p.1
variable (hm:jce g M=true) (ho:J5 g O=true)
include ho
theorem Wb {x:Int} (hx:x∈comL g):∃ k,∃ h:k<O.length,O[k]=x∧atO O x=k:=by
 obtain ⟨k,hk,e⟩:=List.getElem_of_mem ((W1 ho).mem_iff.2 hx)
 exact ⟨k,hk,e,by rw [← e,Q0 (JC ho) hk]⟩
theorem jg0 {k:Nat} (h:k<O.length):∃ n:Nat,O[k]=n∧XB g n=true:=comL_mem.1 (YN ho (List.getElem_mem h))
theorem jkk {x:Int} (hx:x∈comL g) {k:Nat} (hk:k≤O.length):x∈O.take k ↔ atO O x<k:=by
 obtain ⟨j,hj,e,e2⟩:=Wb ho hx
 rw [e2]
 constructor
 ·intro h
  obtain ⟨i,hi,ei⟩:=List.getElem_of_mem h
  rw [List.length_take] at hi
  rw [List.getElem_take] at ei
  have:=Q0 (JC ho) (show i<O.length by omega)
  rw [ei,e2] at this
  omega
 ·intro h
  have hjk:j<k:=by omega
  have:(O.take k)[j]? = some x:=by rw [List.getElem?_take_of_lt hjk,List.getElem?_eq_getElem hj,e]
  exact List.mem_of_getElem? this
theorem jsc {x:Int} {k:Nat} (hk:k≤O.length) (hx:x = -1∨x∈comL g∧atO O x<k):JY (atM O k) x=atO O x:=by
 rw [jtz (JC ho) x k hk]
 rcases hx with rfl | ⟨hx,h⟩
 ·have hn:(-1:Int) ∉ O.take k:=fun h=>by
   obtain ⟨n,e,_⟩:=comL_mem.1 (YN ho (List.mem_of_mem_take h))
   omega
  rw [if_neg hn,if_pos rfl,jl5 ho]
 ·rw [if_pos ((jkk ho hx hk).2 h)]
theorem jem (hs:SS g O) {k:Nat} (hk:k≤O.length) {s a:Int} (h:Ql g O k s=some a):∃ n:Nat,a=n∧XB g n=true∧jv g n=s∧atO O a<k∧∀ b:Nat,XB g b=true→jv g b=s→atO O b<k→b≤n:=by
 obtain ⟨j,hj,e,h1,h2⟩:=jbr h
 have hjl:j<O.length:=by omega
 rw [jgs hjl] at e
 obtain ⟨n,e2,hc⟩:=jg0 ho hjl
 have ha:a=n:=e.trans e2
 have hat:atO O a=j:=by rw [e,Q0 (JC ho) hjl]
 refine ⟨n,ha,hc,by simpa [ha] using h1,by omega,fun b hb hbs hbk=>?_⟩
 obtain ⟨i,hi,ei,ei2⟩:=Wb ho (comL_mem.2 ⟨b,rfl,hb⟩)
 rcases Nat.lt_or_ge n b with hlt | hge
 ·have:=hs n b hc hb hlt (by rw [hbs];simpa [ha] using h1)
  rw [← ha,hat,ei2] at this
  have:=h2 i (by omega) (by omega)
  rw [jgs hi,ei] at this
  exact absurd (by simpa using hbs) this
 ·exact hge
include hm
omit ho in theorem jxb {i:Nat} {p:Int × Int} {m:Int} (_:(readH g)[i]? = some p) (he:M[i]? = some m):m = -1∨m∈comL g:=jsf hm (List.mem_of_getElem? he)
omit ho in theorem ja0 (hf:FF g M O) {i:Nat} {p:Int × Int} {m:Int} (hp:(readH g)[i]? = some p) (he:M[i]? = some m):m = -1∨m∈comL g∧atO O m<atO O p.1:=by
 rcases jxb hm hp he with h | h
 ·exact .inl h
 ·refine .inr ⟨h,(hf i p m hp he).resolve_left fun h'=>?_⟩
  obtain ⟨n,e,_⟩:=comL_mem.1 h
  omega
theorem jr5 (hs:SS g O) (hf:FF g M O) {k:Nat} (hk:k<O.length) {P:Int→List Int} (ih:∀ b:Nat,XB g b=true→atO O b<k→∀ a,a∈P b ↔ ∃ n:Nat,a=n∧farB g M b n=true) {t:Nat} (ht:O[k]=t) {a:Int} :
 a∈jlf g M O P k ↔ ∃ n:Nat,a=n∧farB g M t n=true:=by
 have hat:atO O (t:Int)=k:=by rw [← ht,Q0 (JC ho) hk]
 have hct:XB g t=true:=by
  obtain ⟨n,e,hc⟩:=jg0 ho hk
  rw [ht] at e
  have:t=n:=by omega
  exact this ▸ hc
 have Q3:∀ {b:Nat},Xl g M b t=true→∀ {n:Nat},(n=b∨farB g M b n=true)→farB g M t n=true:=fun {b} hb {n} h=>by
  have h1:farB g M t b=true:=jdg hb _
  rcases h with rfl | h
  ·exact h1
  ·exact Yt (Xj (Yu hb).1) h1 h
 unfold jlf
 rw [jgs hk,ht,List.mem_append,List.mem_flatMap,Int.toNat_natCast]
 constructor
 ·rintro (⟨r,hr,ha⟩ | ha)
  ·obtain ⟨hr,h0⟩:=List.mem_filter.1 hr
   obtain ⟨i,p,m,hp,he,h1,rfl⟩:=mem_rdsT.1 hr
   have h0:0≤m:=by simpa using h0
   rcases ja0 hm hf hp he with rfl | ⟨hmc,hlt⟩
   ·omega
   obtain ⟨b,rfl,hb⟩:=comL_mem.1 hmc
   have hst:Xl g M b t=true:=by
    unfold Xl jlu
    rw [hb,hct,Bool.true_and,Bool.true_and,Bool.or_eq_true]
    refine .inr (List.any_eq_true.2 ⟨(p,(b:Int)),?_,by simp [h1]⟩)
    obtain ⟨a1,e1⟩:=List.getElem?_eq_some_iff.1 hp
    obtain ⟨a2,e2⟩:=List.getElem?_eq_some_iff.1 he
    have hi:i<((readH g).zip M).length:=by rw [List.length_zip];omega
    have:=List.getElem_mem hi
    rwa [List.getElem_zip,e1,e2] at this
   rcases List.mem_cons.1 ha with rfl | ha
   ·exact ⟨b,rfl,Q3 hst (.inl rfl)⟩
   ·obtain ⟨n,rfl,hn⟩:=(ih b hb (by rw [h1,hat] at hlt;exact hlt) _).1 ha
    exact ⟨n,rfl,Q3 hst (.inr hn)⟩
  ·cases hl:Ql g O k (jv g t) with
   | none=>rw [hl] at ha;cases ha
   | some b =>
    rw [hl] at ha
    obtain ⟨n,rfl,hc,hse,hlt,_⟩:=jem ho hs (by omega) hl
    have hnt:n<t:=by
     rcases Nat.lt_trichotomy n t with h | h | h
     ·exact h
     ·subst h;omega
     ·have:=hs t n hct hc h hse.symm;omega
    have hst:Xl g M n t=true:=by
     unfold Xl
     rw [hc,hct]
     simp [hnt,hse]
    rcases List.mem_cons.1 ha with rfl | ha
    ·exact ⟨n,rfl,Q3 hst (.inl rfl)⟩
    ·obtain ⟨n',rfl,hn⟩:=(ih n hc hlt _).1 ha
     exact ⟨n',rfl,Q3 hst (.inr hn)⟩
 ·rintro ⟨n,rfl,hn⟩
  obtain ⟨b,hb,hbn⟩:=jg3 hn
  have hbc:=(Yu hb).1
  have hb2:=hb
  unfold Xl at hb2
  simp only [Bool.and_eq_true,Bool.or_eq_true,decide_eq_true_eq,beq_iff_eq] at hb2
  rcases hb2.2 with ⟨hlt,hse⟩ | h
  ·right
   have hbk:atO O b<k:=by have:=hs b t hbc hct hlt hse;omega
   cases hl:Ql g O k (jv g t) with
   | none =>
    obtain ⟨i,hi,ei,ei2⟩:=Wb ho (comL_mem.2 ⟨b,rfl,hbc⟩)
    have:=jbs hl i (by omega)
    rw [jgs hi,ei] at this
    exact absurd (by simpa using hse) this
   | some c =>
    obtain ⟨c,rfl,hc,hcs,hclt,hmax⟩:=jem ho hs (by omega) hl
    have hbc2:=hmax b hbc hse hbk
    simp only
    rcases Nat.lt_or_ge b c with h1 | h1
    ·have hst:farB g M c b=true:=jdg (by unfold Xl;rw [hbc,hc];simp [h1,hse,hcs]) _
     refine List.mem_cons_of_mem _ ((ih c hc hclt _).2 ⟨n,rfl,?_⟩)
     rcases hbn with rfl | hbn
     ·exact hst
     ·exact Yt (Xj hbc) hst hbn
    ·have:b=c:=by omega
     subst this
     rcases hbn with rfl | hbn
     ·simp
     ·exact List.mem_cons_of_mem _ ((ih b hc hclt _).2 ⟨n,rfl,hbn⟩)
  ·left
   unfold jlu at h
   obtain ⟨⟨p,m⟩,hx,h1⟩:=List.any_eq_true.1 h
   simp only [Bool.and_eq_true,beq_iff_eq] at h1
   obtain ⟨rfl,h2⟩:=h1
   obtain ⟨i,hi,e⟩:=List.getElem_of_mem hx
   rw [List.length_zip] at hi
   rw [List.getElem_zip] at e
   simp only [Prod.mk.injEq] at e
   have hp:(readH g)[i]? = some p:=by rw [List.getElem?_eq_getElem (by omega),e.1]
   have he:M[i]? = some (b:Int):=by rw [List.getElem?_eq_getElem (by omega),e.2]
   refine ⟨(p.2,Xy g p,(b:Int)),List.mem_filter.2 ⟨mem_rdsT.2 ⟨i,p,b,hp,he,h2,rfl⟩,by simp⟩,?_⟩
   have hlt:atO O b<k:=by
    rcases ja0 hm hf hp he with h | ⟨_,h⟩
    ·omega
    ·rw [h2,hat] at h;exact h
   rcases hbn with rfl | hbn
   ·simp
   ·exact List.mem_cons_of_mem _ ((ih b hbc hlt _).2 ⟨n,rfl,hbn⟩)
theorem jmx (hs:SS g O) (hf:FF g M O):∀ {k:Nat},k≤O.length→∀ b:Nat,XB g b=true→atO O b<k→∀ a,a∈We g M O k b ↔ ∃ n:Nat,a=n∧farB g M b n=true
 | 0,_,b,hb,hlt,a=>by
  have:=jl6 ho (comL_mem.2 ⟨b,rfl,hb⟩)
  omega
 | k+1,hk,b,hb,hlt,a=>by
  have hkl:k<O.length:=by omega
  have ih:=jmx hs hf (k:=k) (by omega)
  simp only [We,jgs hkl]
  obtain ⟨j,hj,e,e2⟩:=Wb ho (comL_mem.2 ⟨b,rfl,hb⟩)
  by_cases h:(b:Int)=O[k]
  ·rw [if_pos h]
   exact jr5 hm ho hs hf hkl ih h.symm
  ·rw [if_neg h]
   have:j≠k:=fun e3=>h (by subst e3;exact e.symm)
   exact ih b hb (by omega) a
omit ho in
theorem jex {i:Nat} {p:Int × Int} {m:Int} (hp:(readH g)[i]? = some p) (he:M[i]? = some m) (h0:0≤m):Jm g m (Xy g p)=true:=by
 obtain ⟨m',e,hmo⟩:=jc2 hm hp
 rw [he] at e
 cases e
 have hw:=W4 hm
 have hmay:X9 g=true:=by
  unfold jw at hw
  simp only [Bool.and_eq_true] at hw
  exact hw.1
 unfold ofH at hmo
 cases hop:opAt g p.1 p.2 with
 | none=>rw [hop] at hmo;cases hmo
 | some o =>
  rw [hop] at hmo
  simp only at hmo
  split at hmo
  ·cases hmo
  rw [ofL,List.mem_append] at hmo
  rcases hmo with h | h
  ·unfold js at h
   split at h
   ·cases h
   ·simp at h;omega
  have h1:=(List.mem_filter.1 h).1
  rw [writersH,W3,filTo_mem] at h1
  obtain ⟨k,h1,rfl,h3⟩:=h1
  unfold jii at h3
  rw [List.getElem?_eq_getElem h1] at h3
  simp only [wrB,Bool.and_eq_true] at h3
  have hk:Xy g p=o.key:=by unfold Xy;rw [hop]
  have hlt:((k:Nat):Int)<(g.ts.length:Int):=by omega
  have hops:(JE g (k:Int)).2=(g.ts[k]).ops:=by
   unfold JE
   simp [hmay,h1,List.getD_eq_getElem?_getD]
  unfold Jm
  rw [hops,hk,Y6]
  have:=jjl (g.ts[k]).ops o.key
  rw [Y6] at this
  rw [this]
  exact h3.2
theorem jf5 (hs:SS g O) (hf:FF g M O) {lvl:Int} (l1:1≤lvl) (l3:lvl≤3) {k:Nat} (hk:k<O.length) {i:Nat} {p:Int × Int} {m:Int} (hp:(readH g)[i]? = some p) (he:M[i]? = some m) (hpt:p.1=O[k]) :
 jq3 g M O lvl k (p.2,Xy g p,m)=(jcq g lvl M O p).all (okB g O p m):=by
 have hat:atO O p.1=k:=by rw [hpt,Q0 (JC ho) hk]
 have hmp:=ja0 hm hf hp he
 rw [hat] at hmp
 have hfind:(jW (atM O k) m).isSome=true:=(jhu m k (by omega)).2 (hmp.imp id fun h=>(jkk ho h.1 (by omega)).2 h.2)
 have hcm:JY (atM O k) m=atO O m:=jsc ho (by omega) hmp
 have hb:∀ x:Nat,XB g x=true→atO O x<k→jfb g O k x (p.2,Xy g p,m) = !okB g O p m x:=fun x hx hlt=>by
  have h1:=jsc ho (x:=(x:Int)) (k:=k) (by omega) (.inr ⟨comL_mem.2 ⟨x,rfl,hx⟩,hlt⟩)
  unfold jfb okB
  rw [h1,hcm]
  simp only [Int.natCast_nonneg,decide_true,Bool.true_and,Bool.not_or,Bool.not_not,← decide_not,Int.not_lt]
 unfold jq3
 rw [hfind,Bool.true_and,Bool.eq_iff_iff,List.all_eq_true]
 unfold jcq
 have hsee:(∀ x∈filTo (seesB g lvl M O p) g.ts.length,okB g O p m x=true) ↔ ∀ x:Nat,seesB g lvl M O p x=true→okB g O p m x=true:=by
  constructor
  ·exact fun h x hx=>h x (filTo_mem.2 ⟨x,Xj (jmn hm hx),rfl,hx⟩)
  ·intro h x hx
   obtain ⟨y,_,rfl,hy⟩:=filTo_mem.1 hx
   exact h y hy
 rw [hsee]
 by_cases e1:lvl=1
 ·subst e1
  simp only [if_true,jgs hk,Bool.not_eq_true',List.any_eq_false,seesB]
  constructor
  ·intro h x hx
   unfold rcB at hx
   obtain ⟨⟨p',m'⟩,hz,h1⟩:=List.any_eq_true.1 hx
   simp only [Bool.and_eq_true,beq_iff_eq,decide_eq_true_eq] at h1
   obtain ⟨h1,h2,rfl⟩:=h1
   obtain ⟨j,hj,e⟩:=List.getElem_of_mem hz
   rw [List.length_zip] at hj
   rw [List.getElem_zip] at e
   simp only [Prod.mk.injEq] at e
   have hp':(readH g)[j]? = some p':=by rw [List.getElem?_eq_getElem (by omega),e.1]
   have he':M[j]? = some (x:Int):=by rw [List.getElem?_eq_getElem (by omega),e.2]
   have:=h _ (mem_rdsT.2 ⟨j,p',x,hp',he',h1.trans hpt,rfl⟩)
   rcases ja0 hm hf hp' he' with h3 | ⟨h3,h4⟩
   ·omega
   ·obtain ⟨n,e3,hn⟩:=comL_mem.1 h3
    have:x=n:=by omega
    subst this
    rw [h1,hat] at h4
    rw [hb x hn h4] at this
    simpa [h2] using this
  ·intro h q hq
   obtain ⟨j,p',m',hp',he',h1,rfl⟩:=mem_rdsT.1 hq
   simp only [Bool.and_eq_true,decide_eq_true_eq,not_and,Bool.not_eq_true]
   intro hlt
   rcases ja0 hm hf hp' he' with rfl | ⟨h3,h4⟩
   ·simp [jfb]
   ·obtain ⟨n,rfl,hn⟩:=comL_mem.1 h3
    rw [h1,← hpt,hat] at h4
    rw [hb n hn h4]
    have:=h n (List.any_eq_true.2 ⟨(p',(n:Int)),by
     obtain ⟨a1,e1⟩:=List.getElem?_eq_some_iff.1 hp'
     obtain ⟨a2,e2⟩:=List.getElem?_eq_some_iff.1 he'
     have hi:j<((readH g).zip M).length:=by rw [List.length_zip];omega
     have:=List.getElem_mem hi
     rwa [List.getElem_zip,e1,e2] at this,by simp [h1,hpt,hlt]⟩)
    simp [this]
 ·rw [if_neg e1]
  by_cases e2:lvl=2
  ·subst e2
   have hst:∀ a b:Nat,Xl g M a b=true→atO O a<atO O b:=fun a b h=>by
    obtain ⟨ha,hb⟩:=Yu h
    unfold Xl at h
    simp only [Bool.and_eq_true,Bool.or_eq_true,decide_eq_true_eq,beq_iff_eq] at h
    rcases h.2 with ⟨h1,h2⟩ | h
    ·exact hs a b ha hb h1 h2
    ·unfold jlu at h
     obtain ⟨⟨p',m'⟩,hz,h1⟩:=List.any_eq_true.1 h
     simp only [Bool.and_eq_true,beq_iff_eq] at h1
     obtain ⟨rfl,h2⟩:=h1
     obtain ⟨j,hj,e⟩:=List.getElem_of_mem hz
     rw [List.length_zip] at hj
     rw [List.getElem_zip] at e
     simp only [Prod.mk.injEq] at e
     have:=hf j p' a (by rw [List.getElem?_eq_getElem (by omega),e.1]) (by rw [List.getElem?_eq_getElem (by omega),e.2])
     rw [h2] at this
     omega
   obtain ⟨t,et,hct⟩:=jg0 ho hk
   have hpt2:p.1=t:=hpt.trans et
   have hnew:=fun a=>jr5 hm ho hs hf hk (jmx hm ho hs hf (by omega)) et (a:=a)
   have hlt:∀ x:Nat,farB g M t x=true→atO O x<k:=fun x hx=>by
    have:=jyr hst hx
    rwa [← hpt2,hat] at this
   rw [if_pos rfl,List.all_eq_true]
   have hsb:∀ x:Nat,seesB g 2 M O p x=farB g M t x:=fun x=>by simp [seesB,hpt2]
   simp only [hsb]
   constructor
   ·intro h x hx
    have:=h x ((hnew _).2 ⟨x,rfl,hx⟩)
    rw [hb x (jc6 hx) (hlt x hx)] at this
    simpa using this
   ·intro h a ha
    obtain ⟨x,rfl,hx⟩:=(hnew _).1 ha
    rw [hb x (jc6 hx) (hlt x hx),h x hx]
    rfl
  ·have e3:lvl=3:=by omega
   subst e3
   rw [if_neg e2,beq_iff_eq]
   have hsb:∀ x:Nat,seesB g 3 M O p x=true ↔ XB g x=true∧atO O x<k:=fun x=>by simp [seesB,hat]
   simp only [hsb]
   cases hl:jhm g O k (Xy g p) with
   | none =>
    have hnone:∀ x:Nat,XB g x=true→atO O x<k→Jm g x (Xy g p)=false:=fun x hx hlt=>by
     obtain ⟨j,hj,e,e2⟩:=Wb ho (comL_mem.2 ⟨x,rfl,hx⟩)
     have:=jgm hl j (by omega)
     rwa [jgs hj,e] at this
    simp only [Option.getD_none]
    constructor
    ·rintro - x ⟨hx,hlt⟩
     simp [okB,hnone x hx hlt]
    ·intro _
     rcases hmp with h | ⟨h,hlt⟩
     ·exact h.symm
     ·obtain ⟨n,rfl,hn⟩:=comL_mem.1 h
      exact absurd (hnone n hn hlt) (by simp [jex hm hp he (by omega)])
   | some a =>
    obtain ⟨j,hj,ea,hla,hmax⟩:=jgl hl
    have hjl:j<O.length:=by omega
    rw [jgs hjl] at ea
    obtain ⟨n,en,hn⟩:=jg0 ho hjl
    have ean:a=n:=ea.trans en
    have haj:atO O a=j:=by rw [ea,Q0 (JC ho) hjl]
    subst ean
    simp only [Option.getD_some]
    constructor
    ·rintro rfl x ⟨hx,hlt⟩
     obtain ⟨i2,hi2,e,e2⟩:=Wb ho (comL_mem.2 ⟨x,rfl,hx⟩)
     unfold okB
     by_cases hxn:(x:Int)=n
     ·simp [hxn]
     ·by_cases hle:Jm g x (Xy g p)=true
      ·have:¬ j<i2:=fun h=>by
        have:=hmax i2 h (by omega)
        rw [jgs hi2,e,hle] at this
        cases this
       have:i2≠j:=fun h=>hxn (by subst h;rw [← e,← en])
       have:atO O x<atO O n:=by omega
       simp [this]
      ·simp [hle]
    ·intro h
     have h1:=h n ⟨hn,by omega⟩
     unfold okB at h1
     simp only [hla,Bool.not_true,Bool.false_or,Bool.or_eq_true,beq_iff_eq,decide_eq_true_eq] at h1
     rcases h1 with h1 | h1
     ·exact h1
     ·rcases hmp with h2 | ⟨h2,hlt⟩
      ·rw [h2,jl5 ho] at h1
       have:=jl6 ho (comL_mem.2 ⟨n,rfl,hn⟩)
       omega
      ·obtain ⟨i2,hi2,e,e2⟩:=Wb ho h2
       have:=hmax i2 (by omega) (by omega)
       rw [jgs hi2,e] at this
       have h0:0≤m:=by
        obtain ⟨q,e3,_⟩:=comL_mem.1 h2
        omega
       rw [jex hm hp he h0] at this
       cases this
theorem jbb (hs:SS g O) (hf:FF g M O) {lvl:Int} (l1:1≤lvl) (l3:lvl≤3) {k:Nat} (hk:k<O.length) :
 Qw g M O lvl k=true ↔ (badH g O[k]).isEmpty=true∧∀ (i:Nat) (p:Int × Int) (m:Int),(readH g)[i]? = some p→M[i]? = some m→p.1=O[k]→(jcq g lvl M O p).all (okB g O p m)=true:=by
 have hses:((Ql g O k (jv g (O[k]).toNat)).any fun a=>decide (O[k]<a))=false:=by
  cases hl:Ql g O k (jv g (O[k]).toNat) with
  | none=>rfl
  | some a =>
   obtain ⟨n,rfl,hc,hse,hlt,_⟩:=jem ho hs (by omega) hl
   obtain ⟨t,et,hct⟩:=jg0 ho hk
   have hat:atO O (t:Int)=k:=by rw [← et,Q0 (JC ho) hk]
   rw [et] at hse ⊢
   simp only [Option.any_some,decide_eq_false_iff_not]
   intro h
   have:=hs t n hct hc (by omega) (by simpa using hse.symm)
   omega
 unfold Qw
 rw [jgs hk,hses,Bool.not_false,Bool.true_and,Bool.and_eq_true,List.all_eq_true]
 refine and_congr_right fun _=>⟨fun h i p m hp he ht=>?_,fun h r hr=>?_⟩
 ·rw [← jf5 hm ho hs hf l1 l3 hk hp he ht]
  exact h _ (mem_rdsT.2 ⟨i,p,m,hp,he,ht,rfl⟩)
 ·obtain ⟨i,p,m,hp,he,ht,rfl⟩:=mem_rdsT.1 hr
  rw [jf5 hm ho hs hf l1 l3 hk hp he ht]
  exact h i p m hp he ht
theorem jn6 {lvl:Int} (l1:1≤lvl) (l3:lvl≤3):jn7 g M O lvl=XV g lvl M O:=by
 have hget:∀ {j:Nat} (hj:j<(comL g).length),(comL g).getD j 0=(comL g)[j]:=fun hj=>by simp [List.getD_eq_getElem?_getD,List.getElem?_eq_getElem hj]
 have key:SS g O→FF g M O→(jn7 g M O lvl=true ↔ XV g lvl M O=true):=fun hs hf=>by
  unfold jn7 XV
  rw [andTo_iff,Bool.and_eq_true,andTo_iff,andTo_iff]
  constructor
  ·intro h
   constructor
   ·intro j hj
    unfold sesB
    rw [hget hj,Bool.and_eq_true,andTo_iff]
    obtain ⟨k,hk,e,_⟩:=Wb ho (List.getElem_mem hj)
    refine ⟨e ▸ ((jbb hm ho hs hf l1 l3 hk).1 (h k hk)).1,fun i hi=>?_⟩
    have hi':i<(comL g).length:=by omega
    have hlt:=List.pairwise_iff_getElem.1 (je5 g) i j hi' hj hi
    obtain ⟨a,ea,ha⟩:=comL_mem.1 (List.getElem_mem hi')
    obtain ⟨b,eb,hb⟩:=comL_mem.1 (List.getElem_mem hj)
    unfold Wd
    rw [hget hj,hget hi',ea,eb]
    simp only [Int.toNat_natCast]
    by_cases hse:jv g a=jv g b
    ·simp [hs a b ha hb (by omega) hse]
    ·simp [hse]
   ·intro i hi
    unfold jae
    obtain ⟨m,he,hmo⟩:=jc2 hm (List.getElem?_eq_getElem hi)
    rw [List.getElem?_eq_getElem hi,he]
    simp only [Bool.and_eq_true,decide_eq_true_eq]
    obtain ⟨k,hk,e,_⟩:=Wb ho (jcy (List.getElem_mem hi))
    exact ⟨hf i _ m (List.getElem?_eq_getElem hi) he,((jbb hm ho hs hf l1 l3 hk).1 (h k hk)).2 i _ m (List.getElem?_eq_getElem hi) he e.symm⟩
  ·rintro ⟨h1,h2⟩ k hk
   rw [jbb hm ho hs hf l1 l3 hk]
   constructor
   ·obtain ⟨j,hj,e⟩:=List.getElem_of_mem (YN ho (List.getElem_mem hk))
    have:=h1 j hj
    unfold sesB at this
    rw [hget hj,e,Bool.and_eq_true] at this
    exact this.1
   ·intro i p m hp he _
    exact (jqw (andTo_iff.2 h2) hp he).2
 rw [Bool.eq_iff_iff]
 constructor
 ·intro h
  have hst:=andTo_iff.1 h
  -- sessions keep their order
  have chain:∀ k,k≤O.length→∀ i j,i<j→j<k→jv g (O.getD i 0).toNat=jv g (O.getD j 0).toNat→O.getD i 0<O.getD j 0:=by
   intro k
   induction k with
   | zero=>intro _ i j _ h;omega
   | succ k ih =>
    intro hk i j hij hj hse
    rcases Nat.lt_succ_iff_lt_or_eq.1 hj with h1 | h1
    ·exact ih (by omega) i j hij h1 hse
    ·subst h1
     have hs:=hst j (by omega)
     unfold Qw at hs
     rw [Bool.and_eq_true] at hs
     cases hl:Ql g O j (jv g (O.getD j 0).toNat) with
     | none=>exact absurd hse (jbs hl i hij)
     | some a =>
      rw [hl] at hs
      have hle:a≤O.getD j 0:=by simpa using hs.1
      obtain ⟨j0,q1,rfl,q3,q4⟩:=jbr hl
      have hne:O.getD i 0≠O.getD j 0:=by
       rw [jgs (show i<O.length by omega),jgs (show j<O.length by omega)]
       exact List.pairwise_iff_getElem.1 (JC ho) i j (by omega) (by omega) hij
      rcases Nat.lt_trichotomy i j0 with h2 | h2 | h2
      ·have:=ih (by omega) i j0 h2 q1 (hse.trans q3.symm)
       omega
      ·subst h2;omega
      ·exact absurd hse (q4 i h2 hij)
  have hs:SS g O:=fun a b ha hb hab hse=>by
   obtain ⟨i,hi,ei,ei2⟩:=Wb ho (comL_mem.2 ⟨a,rfl,ha⟩)
   obtain ⟨j,hj,ej,ej2⟩:=Wb ho (comL_mem.2 ⟨b,rfl,hb⟩)
   rw [ei2,ej2]
   rcases Nat.lt_trichotomy i j with h1 | h1 | h1
   ·omega
   ·subst h1;rw [ei] at ej;omega
   ·have:=chain O.length (Nat.le_refl _) j i h1 hi (by rw [jgs hj,jgs hi,ei,ej];simpa using hse.symm)
    rw [jgs hj,jgs hi,ei,ej] at this
    omega
  have hf:FF g M O:=fun i p m hp he=>by
   obtain ⟨k,hk,e,e2⟩:=Wb ho (jcy (List.mem_of_getElem? hp))
   have hs2:=hst k hk
   unfold Qw at hs2
   simp only [Bool.and_eq_true,List.all_eq_true] at hs2
   have:=hs2.2.2 (p.2,Xy g p,m) (mem_rdsT.2 ⟨i,p,m,hp,he,by rw [jgs hk,e],rfl⟩)
   unfold jq3 at this
   rw [Bool.and_eq_true] at this
   rcases (jhu m k (by omega)).1 this.1 with h1 | h1
   ·exact .inl (by omega)
   ·exact .inr (by rw [e2];exact (jkk ho (YN ho (List.mem_of_mem_take h1)) (by omega)).1 h1)
  exact (key hs hf).1 h
 ·intro h
  have h':=h
  unfold XV at h'
  rw [Bool.and_eq_true] at h'
  have hf:FF g M O:=fun i p m hp he=>(jqw h'.2 hp he).1
  have hs:SS g O:=fun a b ha hb hab hse=>jqj hm ho h'.1 hf (by unfold Xl;rw [ha,hb];simp [hab,hse])
  exact (key hs hf).2 h
end
def jvg (g:Hist') (M:List Int) (n:Nat):List (Int × List (Int × Int × Int)):=((readH g).zip M |>.take n).foldl (fun m x=>mset m x.1.1 (((jW m x.1.1).map (·.2)).getD []++[(x.1.2,Xy g x.1,x.2)])) []
theorem jq6 {g:Hist'} {M:List Int} {n:Nat} {p:Int × Int} {m:Int} (h1:(readH g)[n]? = some p) (h2:M[n]? = some m) :
 jvg g M (n+1)=mset (jvg g M n) p.1 (((jW (jvg g M n) p.1).map (·.2)).getD []++[(p.2,Xy g p,m)]):=by
 unfold jvg
 rw [List.take_add_one,show ((readH g).zip M)[n]? = some (p,m) from List.getElem?_zip_eq_some.2 ⟨h1,h2⟩,Option.toList_some,List.foldl_append]
 rfl
theorem jq4 (g:Hist') (t:Int):∀ (l:List ((Int × Int) × Int)) (m0:List (Int × List (Int × Int × Int))),
 ((jW (l.foldl (fun m x=>mset m x.1.1 (((jW m x.1.1).map (·.2)).getD []++[(x.1.2,Xy g x.1,x.2)])) m0) t).map (·.2)).getD []=((jW m0 t).map (·.2)).getD []++((l.filter fun x=>x.1.1 == t).map fun x=>(x.1.2,Xy g x.1,x.2))
 | [],m0=>by simp
 | x::l,m0=>by
  rw [List.foldl_cons,jq4 g t l,X2,List.filter_cons]
  by_cases h:t=x.1.1
  ·subst h
   simp
  ·rw [if_neg h,if_neg (by simpa using fun e=>h e.symm)]
theorem jvf (g:Hist') (M:List Int) (t:Int):((jW (jvg g M (readH g).length) t).map (·.2)).getD []=rdsT g M t:=by
 unfold jvg rdsT
 rw [jq4,List.take_of_length_le (by rw [List.length_zip];omega)]
 simp [jW]
theorem jq5 (g:Hist') (M:List Int) (t:Int):(rdsT g M t).length≤(readH g).length:=by
 unfold rdsT
 rw [List.length_map]
 refine Nat.le_trans (List.length_filter_le _ _) ?_
 rw [List.length_zip]
 omega
theorem j0a (g:Hist') (M:List Int) (n:Nat) (t:Int):(((jW (jvg g M n) t).map (·.2)).getD []).length≤(readH g).length:=by
 unfold jvg
 rw [jq4]
 simp only [jW,Option.map_none,Option.getD_none,List.nil_append,List.length_map]
 refine Nat.le_trans (List.length_filter_le _ _) ?_
 rw [List.length_take,List.length_zip]
 omega
def wsM (g:Hist') (O:List Int):Nat→List (Int × Int)
 | 0=>[]
 | k+1=>mset (wsM g O k) (jv g (O.getD k 0).toNat) (O.getD k 0)
theorem jkf (g:Hist') (O:List Int) (s:Int):∀ k,(jW (wsM g O k) s).map (·.2)=Ql g O k s
 | 0=>rfl
 | k+1=>by
  rw [wsM,X2,Ql,jkf g O s k]
  by_cases h:s=jv g (O.getD k 0).toNat
  ·rw [if_pos h,if_pos h.symm]
  ·rw [if_neg h,if_neg fun e=>h e.symm]
def putL (t:Int) (m:List (Int × Int)) (ops:List Op'):Nat→List (Int × Int)
 | 0=>m
 | i+1=>match ops[i]? with
  | some o=>if o.w then mset (putL t m ops i) o.key t else putL t m ops i
  | none=>putL t m ops i
theorem jmu (t:Int) (m:List (Int × Int)) (ops:List Op') (key:Int):∀ i,i≤ops.length→(jW (putL t m ops i) key).map (·.2)=if (ops.take i).any (wkB key) then some t else (jW m key).map (·.2)
 | 0,_=>by simp [putL]
 | i+1,h=>by
  have ih:=jmu t m ops key i (by omega)
  rw [putL,List.getElem?_eq_getElem (show i<ops.length by omega),List.take_add_one,List.getElem?_eq_getElem (show i<ops.length by omega),List.any_append]
  simp only [Option.toList_some,List.any_cons,List.any_nil,Bool.or_false]
  by_cases hw:(ops[i]).w=true
  ·rw [if_pos hw,X2,ih]
   by_cases hk:key=(ops[i]).key
   ·simp [wkB,hw,hk]
   ·have:¬ (ops[i]).key=key:=fun e=>hk e.symm
    simp [wkB,hk,this]
  ·rw [if_neg hw,ih]
   simp [wkB,hw]
def wlM (g:Hist') (O:List Int):Nat→List (Int × Int)
 | 0=>[]
 | k+1=>putL (O.getD k 0) (wlM g O k) (JE g (O.getD k 0)).2 (JE g (O.getD k 0)).2.length
theorem jp8 (g:Hist') (O:List Int) (key:Int):∀ k,(jW (wlM g O k) key).map (·.2)=jhm g O k key
 | 0=>rfl
 | k+1=>by
  rw [wlM,jmu _ _ _ _ _ (Nat.le_refl _),List.take_length,← jjl,jhm,jp8 g O key k]
  rfl
theorem j18 {a:Bool} (l:List Int) (hl:l.length≤1000000000) (k:Int):Ev E 63 [jI a intC l,.int .i64 k] (.int .i64 (atO l k)):=by
 refine jT (af:=F63) rfl ?_
 unfold atO
 simp [F63]
 refine jE [(4,18)] l.length (fun i s=>s.tm 5 = .int .i64 i∧idxI (l.drop i) k i=idxI l k 0) rfl rfl ⟨by simp,by simp⟩ ?_
 rintro i s hi ⟨h5,hT⟩ f
 have f0:s.tm 0=jI a intC l:=by rw [f.t 0 (by simp)];simp
 have f1:s.tm 1 = .int .i64 k:=by rw [f.t 1 (by simp)];simp
 have fd:s.df=[]:=by rw [f.d];simp
 clear f
 by_cases hlt:i<l.length
 ·have hw:=jz hlt (by omega)
  have h1:=Jh l hlt
  rw [List.drop_eq_getElem_cons hlt,idxI] at hT
  cases he:(l[i] == k)
  ·have he':(k == l[i])=false:=by rw [beq_eq_false_iff_ne] at he ⊢;exact fun e=>he e.symm
   rw [he'] at hT
   simp only [Bool.false_eq_true,if_false] at hT
   simp [h5,f0,f1,hlt,j5 jF,h1,he,hw]
   exact hT
  ·have he':(k == l[i])=true:=by rw [beq_iff_eq] at he ⊢;exact he.symm
   rw [he'] at hT
   simp only [if_true] at hT
   simp [h5,f0,f1,hlt,j5 jF,h1,he]
   exact j3 (by simp [fd]) (by rw [← hT];simp) rfl
 ·have:i=l.length:=by omega
  subst this
  rw [List.drop_length,idxI] at hT
  simp [h5,f0]
  exact j3 (by simp [fd]) (by rw [← hT];simp) rfl
theorem ev64 {g:Hist'} (hs:Small g) (i key:Int):Ev E 64 [.agg (j2 g),.int .i64 i,.int .i64 key] (.tup [.agg (J1 (Y6 (JE g i).2 key).1),.bool (Y6 (JE g i).2 key).2]):=by
 have e58:=j87 hs
 refine jT (af:=F64) rfl ?_
 cases hm:X9 g
 ·rw [Wp hm] at e58
  have ho:JE g i=(true,[]):=by unfold JE;rw [hm];rfl
  rw [ho]
  simp [F64,j2,j1]
  refine jV e58 (by simp [j2]) rfl (by simp [j2]) ?_
  simp [j1,j7]
  exact J3 (by simp) (l:=[.agg (J1 ⟨0,0⟩),.bool false]) (by simp [jm,j1,J1]) rfl rfl
 ·rw [YP hm] at e58
  by_cases h0:0≤i
  ·by_cases h1:i<g.ts.length
   ·obtain ⟨n,rfl⟩:∃ n:Nat,i=n:=⟨i.toNat,by omega⟩
    have hn:n<g.ts.length:=by omega
    have ho:(JE g (n:Int)).2=(g.ts[n]).ops:=by unfold JE;simp [hm,hn,List.getD_eq_getElem?_getD]
    rw [ho,Y6]
    have hos:=hs.os _ (List.getElem_mem hn)
    have e84:=ev84 g.ts[n] (by omega) key
    have hl3:(g.ts.flatMap ji)[n * 3+2]? = some (jI (g.ts[n]).nl opC (g.ts[n]).ops):=by rw [jb j8 g.ts hn (by decide:2<3)];rfl
    simp [F64,j2,j1]
    refine jV e58 (by simp [j2]) rfl (by simp [j2]) ?_
    simp [j1,hn,Nat.not_le.2 hn,show ¬ ((n:Int)<0) by omega,j5 j8,jX j8,hl3]
    refine J0 e84 (by simp [ji]) rfl (by simp [ji]) ?_
    rw [JH (by simp [V.plain,J1])]
    generalize (jq key g.ts[n].ops g.ts[n].ops.length).1=rv at *
    generalize (jq key g.ts[n].ops g.ts[n].ops.length).2=rb at *
    simp [J1,j1,j7]
    exact J3 (by simp) (l:=[.agg [.int .i64 rv.kind,.int .i64 rv.n],.bool rb]) (by simp [jm,j1]) rfl rfl
   ·have ho:JE g i=(true,[]):=by unfold JE;simp [h1]
    rw [ho]
    simp [F64,j2,j1]
    refine jV e58 (by simp [j2]) rfl (by simp [j2]) ?_
    simp [j1,j7,show ¬ i<0 by omega,show (g.ts.length:Int)≤i by omega]
    exact J3 (by simp) (l:=[.agg (J1 ⟨0,0⟩),.bool false]) (by simp [jm,j1,J1]) rfl rfl
  ·have ho:JE g i=(true,[]):=by unfold JE;simp [h0]
   rw [ho]
   simp [F64,j2,j1]
   refine jV e58 (by simp [j2]) rfl (by simp [j2]) ?_
   simp [j1,j7,show i<0 by omega]
   exact J3 (by simp) (l:=[.agg (J1 ⟨0,0⟩),.bool false]) (by simp [jm,j1,J1]) rfl rfl
theorem jhy {g:Hist'} {a:Nat} (h:a<g.ts.length):XB g a=((g.ts[a]).f == 1):=by simp [XB,JO,h]
theorem jcw {g:Hist'} {a:Nat} (h:a<g.ts.length):jv g a=(g.ts[a]).s:=by simp [jv,h]
theorem jrd (l:List (Int × Int)) {i:Nat} (h:i<l.length):(l.flatMap jG)[i * 2]? = some (.int .i64 (l[i]).1)∧(l.flatMap jG)[i * 2+1]? = some (.int .i64 (l[i]).2):=by
 have h0:=jb jj l h (by decide:0<2)
 have h1:=jb jj l h (by decide:1<2)
 rw [Nat.add_zero] at h0
 exact ⟨h0.trans rfl,h1.trans rfl⟩
theorem ev122 {g:Hist'} (hs:Small g) {nl:Bool} {M:List Int} (hM:M.length=(readH g).length) {a b:Nat} (ha:a<g.ts.length) (hb:b<g.ts.length) :
 Ev E 122 [.agg (j2 g),jI false jG (readH g),jI nl intC M,.int .i64 (a:Int),.int .i64 (b:Int)] (.bool (Xl g M a b)):=by
 have hRl:=YM hs
 have hts:=hs.ts
 refine jT (af:=F122) rfl ?_
 unfold Xl
 rw [jhy ha,jhy hb,jcw ha,jcw hb]
 generalize readH g=R at *
 have fa:(g.ts.flatMap ji)[a * 3+1]? = some (.int .i64 (g.ts[a]).f):=by rw [jb j8 g.ts ha (by decide:1<3)];rfl
 have fb:(g.ts.flatMap ji)[b * 3+1]? = some (.int .i64 (g.ts[b]).f):=by rw [jb j8 g.ts hb (by decide:1<3)];rfl
 have sa:(g.ts.flatMap ji)[a * 3]? = some (.int .i64 (g.ts[a]).s):=by have:=jb j8 g.ts ha (by decide:0<3);rw [Nat.add_zero] at this;rw [this];rfl
 have sb:(g.ts.flatMap ji)[b * 3]? = some (.int .i64 (g.ts[b]).s):=by have:=jb j8 g.ts hb (by decide:0<3);rw [Nat.add_zero] at this;rw [this];rfl
 have bn:∀ {x:Int} {c:Bool},(x == 1)=c→(x != 1) = !c:=fun h=>by rw [← h];rfl
 cases h1:((g.ts[a]).f == 1)
 ·simp [F122,j2,j1,ha,j5 j8,fa,bn h1]
  exact j3 (by simp) (by simp) rfl
 cases h2:((g.ts[b]).f == 1)
 ·simp [F122,j2,j1,ha,hb,j5 j8,fa,fb,bn h1,bn h2]
  exact j3 (by simp) (by simp) rfl
 obtain ⟨c,hc⟩:∃ c,jlu R M a b=c:=⟨_,rfl⟩
 rw [hc]
 unfold jlu at hc
 simp [F122,j2,j1,ha,hb,j5 j8,fa,fb,bn h1,bn h2]
 generalize hKK:jlk E noYF _ _=KK
 have rest:∀ st:St,st.tm 1=jI false jG R→st.tm 2=jI nl intC M→st.tm 3 = .int .i64 (a:Int)→st.tm 4 = .int .i64 (b:Int)→st.df=[]→st.tm 45 = .bool (decide (a<b) && (g.ts[a]).s == (g.ts[b]).s)→KK .nrm st:=by
  intro st t1 t2 t3 t4 hd t45
  rw [← hKK]
  clear hKK
  generalize (decide (a<b) && (g.ts[a]).s == (g.ts[b]).s)=c0 at *
  cases c0
  ·simp only [Bool.false_or]
   simp [t45]
   refine jE [(10,11),(46,66)] R.length (fun i s=>s.tm 11 = .int .i64 i∧((R.drop i).zip (M.drop i)).any (fun x=>x.2 == (a:Int) && x.1.1 == (b:Int))=c) rfl rfl ⟨by simp,by simpa using hc⟩ ?_
   rintro i s hi ⟨h11,hT⟩ f
   have f1:s.tm 1=jI false jG R:=by rw [f.t 1 (by simp)];simp [t1]
   have f2:s.tm 2=jI nl intC M:=by rw [f.t 2 (by simp)];simp [t2]
   have f3:s.tm 3 = .int .i64 (a:Int):=by rw [f.t 3 (by simp)];simp [t3]
   have f4:s.tm 4 = .int .i64 (b:Int):=by rw [f.t 4 (by simp)];simp [t4]
   have fd:s.df=[]:=by rw [f.d];simp [hd]
   clear f
   by_cases hlt:i<R.length
   ·have hw:=jz hlt (by omega)
    have hlt2:i<M.length:=by omega
    have h1:=Jh M hlt2
    have h2:=(jrd R hlt).1
    rw [List.drop_eq_getElem_cons hlt,List.drop_eq_getElem_cons hlt2,List.zip_cons_cons,List.any_cons] at hT
    cases e1:(M[i] == (a:Int))
    ·rw [e1,Bool.false_and,Bool.false_or] at hT
     simp [h11,f1,f2,f3,hlt,hlt2,j5 jF,h1,e1,hw]
     exact hT
    ·cases e2:((R[i]).1 == (b:Int))
     ·rw [e1,e2,Bool.true_and,Bool.false_or] at hT
      simp [h11,f1,f2,f3,f4,hlt,hlt2,j5 jF,j5 jj,h1,h2,e1,e2,hw]
      exact hT
     ·rw [e1,e2,Bool.true_and,Bool.true_or] at hT
      simp [h11,f1,f2,f3,f4,hlt,hlt2,j5 jF,j5 jj,h1,h2,e1,e2]
      exact j3 (by simp [fd]) (by simp [← hT]) rfl
   ·have:i=R.length:=by omega
    subst this
    rw [List.drop_length] at hT
    simp [h11,f1]
    exact j3 (by simp [fd]) (by simp [← hT]) rfl
  ·simp [t45]
   exact j3 (by simp [hd]) (by simp) rfl
 by_cases hab:a<b
 ·simp [hab,j1,ha,hb,j5 j8,sa,sb]
  exact rest _ (by simp) (by simp) (by simp) (by simp) (by simp) (by simp [hab])
 ·simp [hab]
  exact rest _ (by simp) (by simp) (by simp) (by simp) (by simp) (by simp [hab])
theorem jnt (l:List Bool) {i:Nat} (h:i<l.length):(l.map V.bool)[i]? = some (.bool l[i]):=by simp [h]
theorem joa (bs:List Bool) (k:Nat) (b:Bool) (h:k<bs.length):j7 (bs.map V.bool) k [.bool b]=(bs.set k b).map V.bool:=by
 unfold j7
 rw [List.map_set,List.set_eq_take_append_cons_drop,if_pos (by simpa using h)]
 simp
structure RwAt (g:Hist') (r:RwS) (st:St):Prop where
 cl:r.c.length=g.ts.length
 dl:r.d.length=g.ts.length
 h:st.ob 2=some ⟨0,.cells (j2 g)⟩
 c:st.ob 36=some ⟨448,.cells (r.c.map V.bool)⟩
 d:st.ob 44=some ⟨704,.cells (r.d.map V.bool)⟩
 t1:st.tm 1 = .ptr 2 0 0
 t5:st.tm 5 = .osl 36 448 0 g.ts.length 1
 t6:st.tm 6 = .osl 44 704 0 g.ts.length 1
 t8:st.tm 8 = .bool r.hop
 t9:st.tm 9 = .bool r.more
 df:st.df=[]
 ro:st.ro=0
 nx:768≤st.nx
section
variable (g:Hist') (M:List Int) (t:Nat)
def je0 (bs:List Bool) (a b:Nat):Bool:=!bs.getD a false && ((b == t || bs.getD b false) && Xl g M a b)
def FarS (bs:List Bool):Prop:=bs.length=g.ts.length∧∀ a,bs.getD a false=true→farB g M t a=true
def FarR (bs0:List Bool) (i j:Nat) (bs:List Bool) (more:Bool):Prop:=FarS g M t bs∧(more=false→bs=bs0∧∀ a b,(a<i∨a=i∧b<j)→b<g.ts.length→je0 g M t bs0 a b=false) ∧
 (more=true→bs.count false+1≤bs0.count false)
end
section
variable {g:Hist'} {M:List Int} {t:Nat}
theorem FarS.fire {bs:List Bool} (h:FarS g M t bs) (ht:t<g.ts.length) {a b:Nat} (hb:b<g.ts.length) (hf:je0 g M t bs a b=true):FarS g M t (bs.set a true):=by
 refine ⟨by simp [h.1],fun x hx=>?_⟩
 unfold je0 at hf
 simp only [Bool.and_eq_true,Bool.or_eq_true,beq_iff_eq] at hf
 by_cases hxa:x=a
 ·subst hxa
  rcases hf.2.1 with rfl | h2
  ·exact jdg hf.2.2 _
  ·exact Yt hb (h.2 b h2) (jdg hf.2.2 _)
 ·refine h.2 x ?_
  rw [List.getD_eq_getElem?_getD,List.getElem?_set_ne (fun e=>hxa e.symm)] at hx
  simpa [List.getD_eq_getElem?_getD] using hx
theorem jpn {bs:List Bool} {a:Nat} (ha:a<bs.length) (hf:bs.getD a false=false):(bs.set a true).count false+1=bs.count false:=by
 have e:bs[a]=false:=by simpa [List.getD_eq_getElem?_getD,ha] using hf
 have h1:0<bs.count false:=List.count_pos_iff.2 (e ▸ List.getElem_mem ha)
 rw [List.count_set ha,e]
 simp
 omega
theorem FarR.next {bs0 bs:List Bool} {i j:Nat} {m:Bool} (h:FarR g M t bs0 i j bs m) (ht:t<g.ts.length) (hi:i<g.ts.length) (hj:j<g.ts.length) :
 FarR g M t bs0 i (j+1) (if je0 g M t bs i j then bs.set i true else bs) (m || je0 g M t bs i j):=by
 obtain ⟨h1,h2,h3⟩:=h
 cases hf:je0 g M t bs i j
 ·simp only [Bool.or_false,Bool.false_eq_true,if_false]
  refine ⟨h1,fun hm=>?_,h3⟩
  obtain ⟨rfl,h4⟩:=h2 hm
  refine ⟨rfl,fun a b hab hb=>?_⟩
  rcases hab with hab | ⟨rfl,hab⟩
  ·exact h4 a b (.inl hab) hb
  ·rcases Nat.lt_succ_iff_lt_or_eq.1 hab with h | h
   ·exact h4 a b (.inr ⟨rfl,h⟩) hb
   ·subst h;exact hf
 ·simp only [Bool.or_true,if_true]
  have hfa:bs.getD i false=false:=by
   unfold je0 at hf
   simp only [Bool.and_eq_true,Bool.not_eq_true'] at hf
   exact hf.1
  have hc:=jpn (by rw [h1.1];exact hi) hfa
  refine ⟨h1.fire ht hj hf,fun hm=>(by cases hm),fun _=>?_⟩
  cases m
  ·rw [(h2 rfl).1] at hc ⊢
   omega
  ·have:=h3 rfl
   omega
theorem FarR.row {bs0 bs:List Bool} {i:Nat} {m:Bool} (h:FarR g M t bs0 i g.ts.length bs m):FarR g M t bs0 (i+1) 0 bs m:=by
 refine ⟨h.1,fun hm=>⟨(h.2.1 hm).1,fun a b hab hb=>(h.2.1 hm).2 a b ?_ hb⟩,h.2.2⟩
 rcases hab with hab | ⟨_,hab⟩
 ·rcases Nat.lt_succ_iff_lt_or_eq.1 hab with h1 | h1
  ·exact .inl h1
  ·exact .inr ⟨h1,hb⟩
 ·omega
theorem j14 {bs:List Bool} (hs:FarS g M t bs) (ht:t<g.ts.length) (h:∀ a b,a<g.ts.length→b<g.ts.length→je0 g M t bs a b=false):bs=(List.range g.ts.length).map (farB g M t):=by
 apply List.ext_getElem
 ·simp [hs.1]
 intro a h1 h2
 have ha:a<g.ts.length:=by rw [← hs.1];exact h1
 rw [List.getElem_map,List.getElem_range]
 have hg:bs.getD a false=bs[a]:=by simp [List.getD_eq_getElem?_getD,h1]
 cases hf:farB g M t a
 ·cases hb:bs[a]
  ·rfl
  ·rw [hs.2 a (by rw [hg,hb])] at hf;cases hf
 ·have:=jfr (r:=Xl g M) (p:=fun a=>bs.getD a false=true∧a<g.ts.length) (q:=fun b=>b=t∨bs.getD b false=true∧b<g.ts.length) (fun a b hb hab=>by
   have hal:=Xj (Yu hab).1
   have hbl:=Xj (Yu hab).2
   have:=h a b hal hbl
   unfold je0 at this
   rw [hab,Bool.and_true] at this
   rcases hb with rfl | ⟨hb,_⟩
   ·simp at this
    exact ⟨by simpa [List.getD_eq_getElem?_getD] using this,hal⟩
   ·rw [hb] at this
    simp at this
    exact ⟨by simpa [List.getD_eq_getElem?_getD] using this,hal⟩) (fun b hb=>.inr hb) g.ts.length (b:=t) (.inl rfl) hf
  rw [hg] at this
  exact this.1
end
theorem j2o (bs:List Bool):bs.map V.bool=bs.flatMap blC:=by induction bs <;> simp_all [blC]
theorem j9t {st:St} {q l u n:Nat} {bs:List Bool} {P:V→Prop} (hP:∀ r,SlR r false n (bs.flatMap blC)→P r) (hd:st.df=[]) (hv:st.tm q = .osl l u 0 n 1) (ho:st.ob l=some ⟨u,.cells (bs.flatMap blC)⟩) (hl:bs.length=n) (_:0<n) (hr:st.ro=0):jep [.t q] P .ret st:=by
 have hbl:(bs.flatMap blC).length=n:=by rw [jA jl3,Nat.mul_one,hl]
 have hoc:j1 st.ob l u=some (bs.flatMap blC):=by simp [j1,ho]
 have hsb:(bs.flatMap blC).mapM (JW st 5)=some (bs.flatMap blC):=by
  clear hoc ho hbl hl hP
  induction bs with
  | nil=>rfl
  | cons b bs ih =>
   rw [List.flatMap_cons]
   show (V.bool b::bs.flatMap blC).mapM (JW st 5)=_
   rw [List.mapM_cons,ih]
   rfl
 have hs:JW st 6 (.osl l u 0 n 1)=some (.sl none false n (bs.flatMap blC)):=by
  show ((j1 st.ob l u).bind fun cs=>if Nat.ble st.ro u=true∧0+n * 1≤cs.length then (((cs.drop 0).take (n * 1)).mapM (JW st 5)).map fun cs'=>V.sl none false n cs' else none)=_
  rw [hoc,Option.bind_some,if_pos ⟨Nat.ble_eq ▸ (by omega),by omega⟩,List.drop_zero,Nat.mul_one,List.take_of_length_le (by omega),hsb]
  rfl
 have ho:∃ t:Option (Nat × Nat),jr st true 0 (.osl l u 0 n 1)=some (.sl t false n (bs.flatMap blC))∧∀ p∈t.toList,p.1<64:=by
  simp only [jr,hs,Option.bind_some,hoc,Option.map_some]
  refine ⟨_,rfl,fun p hp=>?_⟩
  split at hp
  ·simp at hp;subst hp;decide
  ·simp at hp
 obtain ⟨t,hto,htt⟩:=ho
 have hr':[ARes.t q].mapM (jm st)=some [.osl l u 0 n 1]:=by simp [jm,hv]
 refine ⟨.sl t false n (bs.flatMap blC),?_,hP _ ⟨t,rfl,htt⟩⟩
 simp only [ja3,YW hd,YO hd,if_true,hr',Option.bind_some,Yh]
 have hn:nodup ([V.osl l u 0 n 1].flatMap V.toks)=true:=rfl
 rw [hn]
 simp only [JD,XM,hto,Option.bind_some,Option.map_some]
 cases t <;> rfl
theorem ev75 {g:Hist'} (hs:Small g) {nl:Bool} {M:List Int} (hM:M.length=(readH g).length) {t:Nat} (ht:t<g.ts.length) :
 ∃ v,Ev E 75 [.agg (j2 g),jI false jG (readH g),jI nl intC M,.int .i64 (t:Int)] v∧SlR v false g.ts.length (((List.range g.ts.length).map (farB g M t)).flatMap blC):=by
 have hts:=hs.ts
 have hn0:0<g.ts.length:=by omega
 refine XS (af:=F75) rfl (by decide) ?_
 simp [F75,j2,j1]
 refine jwi (n:=g.ts.length) (by simp) (by simp) (by omega) (by omega) (by omega) rfl (by decide) ?_
 simp [jbf]
 refine JV fun st hst=>?_
 have g1:st.tm 1=jI false jG (readH g):=by rw [hst];simp
 have g2:st.tm 2=jI nl intC M:=by rw [hst];simp
 have g3:st.tm 3 = .int .i64 (t:Int):=by rw [hst];simp
 have g4:st.tm 4 = .ptr 8 0 0:=by rw [hst];simp
 have g9:st.tm 9 = .osl 32 320 0 g.ts.length 1:=by rw [hst];simp
 have g10:st.tm 10 = .bool true:=by rw [hst];simp
 have p8:st.ob 8=some ⟨0,.cells (j2 g)⟩:=by rw [hst];simp [j2]
 have p32:st.ob 32=some ⟨320,.cells ((List.replicate g.ts.length false).map V.bool)⟩:=by rw [hst];simp
 have gd:st.df=[]:=by rw [hst];simp
 have gr:st.ro=0:=by rw [hst];simp
 have gb:st.fb=0:=by rw [hst];simp
 clear hst
 obtain ⟨J,hJ⟩:∃ J:Nat→St→Prop,J=fun k s=>∃ bs m,FarS g M t bs∧(m=false→∀ a b,a<g.ts.length→b<g.ts.length→je0 g M t bs a b=false)∧bs.count false+(if m then 1 else 0)≤k ∧
  s.tm 1=jI false jG (readH g)∧s.tm 2=jI nl intC M∧s.tm 3 = .int .i64 (t:Int)∧s.tm 4 = .ptr 8 0 0∧s.tm 9 = .osl 32 320 0 g.ts.length 1∧s.tm 10 = .bool m∧s.ob 8=some ⟨0,.cells (j2 g)⟩∧s.ob 32=some ⟨320,.cells (bs.map V.bool)⟩∧s.df=[]∧s.ro=0∧s.fb=0:=⟨_,rfl⟩
 refine Yd (n:=g.ts.length+1) J (by
  rw [hJ]
  exact ⟨List.replicate g.ts.length false,true,⟨by simp,fun a h=>by simp [List.getD_eq_getElem?_getD,List.getElem?_replicate] at h;split at h <;> cases h⟩,(fun h=>by cases h),by simp,g1,g2,g3,g4,g9,g10,p8,p32,gd,gr,gb⟩) ?_
 intro k s hJs
 rw [hJ] at hJs
 obtain ⟨bs0,m,hF,hcl,hk,s1,s2,s3,s4,s9,s10,o8,o32,sd,sr,sb⟩:=hJs
 cases m
 ·simp [s10]
  have hall:=j14 hF ht (hcl rfl)
  rw [hall,j2o] at o32
  refine j9t (l:=32) (u:=320) (n:=g.ts.length) (bs:=(List.range g.ts.length).map (farB g M t)) (fun r h=>h) (by simp [sd]) (by simp [s9]) (by simpa using o32) (by simp) hn0 (by simp [sr])
 ·simp only [if_true] at hk
  simp [s10]
  obtain ⟨I,hI⟩:∃ I:Nat→St→Prop,I=fun i s=>s.tm 11 = .int .i64 i∧∃ bs m,FarR g M t bs0 i 0 bs m∧s.tm 10 = .bool m∧s.ob 8=some ⟨0,.cells (j2 g)⟩∧s.ob 32=some ⟨320,.cells (bs.map V.bool)⟩:=⟨_,rfl⟩
  refine jE [(10,12),(18,58)] g.ts.length I rfl rfl (by
   rw [hI]
   exact ⟨by simp,bs0,false,⟨hF,fun _=>⟨rfl,fun a b h _=>by omega⟩,fun h=>by cases h⟩,by simp,by simpa using o8,by simpa using o32⟩) ?_
  intro i w hi hIw f
  rw [hI] at hIw
  obtain ⟨w11,bs1,m1,hR,w10,v8,v32⟩:=hIw
  have f1:w.tm 1=jI false jG (readH g):=by rw [f.t 1 (by simp)];simp [s1]
  have f2:w.tm 2=jI nl intC M:=by rw [f.t 2 (by simp)];simp [s2]
  have f3:w.tm 3 = .int .i64 (t:Int):=by rw [f.t 3 (by simp)];simp [s3]
  have f4:w.tm 4 = .ptr 8 0 0:=by rw [f.t 4 (by simp)];simp [s4]
  have f9:w.tm 9 = .osl 32 320 0 g.ts.length 1:=by rw [f.t 9 (by simp)];simp [s9]
  have fd:w.df=[]:=by rw [f.d];simp [sd]
  have fr:w.ro=0:=by rw [f.r];simp [sr]
  have fb:w.fb=0:=by rw [f.b];simp [sb]
  clear f
  by_cases hlt:i<g.ts.length
  ·simp [w11,f4,v8,j1,j2,hlt]
   obtain ⟨I2,hI2⟩:∃ I2:Nat→St→Prop,I2=fun j s=>s.tm 12 = .int .i64 j∧∃ bs m,FarR g M t bs0 i j bs m∧s.tm 10 = .bool m∧s.ob 8=some ⟨0,.cells (j2 g)⟩∧s.ob 32=some ⟨320,.cells (bs.map V.bool)⟩:=⟨_,rfl⟩
   refine jE [(10,10),(12,12),(25,58)] g.ts.length I2 rfl rfl (by
    rw [hI2]
    exact ⟨by simp,bs1,m1,hR,by simpa using w10,by simpa using v8,by simpa using v32⟩) ?_
   intro j x hj hIx f
   rw [hI2] at hIx
   obtain ⟨x12,bs,m,hR2,x10,y8,y32⟩:=hIx
   have x1:x.tm 1=jI false jG (readH g):=by rw [f.t 1 (by simp)];simp [f1]
   have x2:x.tm 2=jI nl intC M:=by rw [f.t 2 (by simp)];simp [f2]
   have x3:x.tm 3 = .int .i64 (t:Int):=by rw [f.t 3 (by simp)];simp [f3]
   have x4:x.tm 4 = .ptr 8 0 0:=by rw [f.t 4 (by simp)];simp [f4]
   have x9:x.tm 9 = .osl 32 320 0 g.ts.length 1:=by rw [f.t 9 (by simp)];simp [f9]
   have x11:x.tm 11 = .int .i64 (i:Int):=by rw [f.t 11 (by simp)];simp [w11]
   have xd:x.df=[]:=by rw [f.d];simp [fd]
   have xr:x.ro=0:=by rw [f.r];simp [fr]
   have xb:x.fb=0:=by rw [f.b];simp [fb]
   clear f
   by_cases hjt:j<g.ts.length
   ·have hw:=jz hjt (by omega)
    have hnx:=hR2.next ht hlt hjt
    have hbl:bs.length=g.ts.length:=hR2.1.1
    have hio:=idxN (l:=32) (u:=320) (n:=g.ts.length) (kk:=.i64) (X:=(i:Int)) rfl hlt
    have hjo:=idxN (l:=32) (u:=320) (n:=g.ts.length) (kk:=.i64) (X:=(j:Int)) rfl hjt
    have hbi:=jnt bs (i:=i) (by omega)
    have hbj:=jnt bs (i:=j) (by omega)
    have hgi:bs.getD i false=bs[i]:=by simp [List.getD_eq_getElem?_getD,show i<bs.length by omega]
    have hgj:bs.getD j false=bs[j]:=by simp [List.getD_eq_getElem?_getD,show j<bs.length by omega]
    have est:=ev122 hs (nl:=nl) hM hlt hjt
    have hjb:((j:Int) == (t:Int))=(j == t):=by rw [Bool.eq_iff_iff];simp;omega
    unfold je0 at hnx
    rw [hgi,hgj] at hnx
    have hsp:=joa bs i true (by omega)
    have done1:∀ (x':St) (bs':List Bool) (m':Bool),FarR g M t bs0 i (j+1) bs' m'→x'.tm 12 = .int .i64 ((j+1:Nat):Int)→x'.tm 10 = .bool m'→x'.ob 8=some ⟨0,.cells (j2 g)⟩→x'.ob 32=some ⟨320,.cells (bs'.map V.bool)⟩→I2 (j+1) x':=fun x' bs' m' a1 a2 a3 a4 a5=>by rw [hI2];exact ⟨a2,bs',m',a1,a3,a4,a5⟩
    cases ci:bs[i]
    ·have key:∀ c:Bool,Xl g M i j=c→((j == t) || bs[j])=true→FarR g M t bs0 i (j+1) (if c then bs.set i true else bs) (m || c):=fun c hc hq=>by
      rw [ci,hc,hq] at hnx
      simpa using hnx
     cases ct:(j == t)
     ·cases cj:bs[j]
      ·rw [ci,ct,cj] at hnx
       simp at hnx
       simp [x12,x4,x3,x9,x11,y8,y32,j1,j2,hjt,hio,hjo,hbi,hbj,ci,cj,hjb,ct,hw]
       exact done1 _ bs m hnx (by simp) (by simp [x10]) (by simp [y8,j2]) (by simp [y32])
      ·rw [ct,cj] at key
       cases cs:Xl g M i j
       ·have hk2:=key false cs rfl
        rw [cs] at est
        simp at hk2
        simp [x12,x4,x3,x9,x11,x1,x2,y8,y32,j1,j2,hjt,hio,hjo,hbi,hbj,ci,cj,hjb,ct]
        refine jV est (by simp [j2]) rfl (by simp [j2]) ?_
        simp [hw,x12,hjt]
        exact done1 _ bs m hk2 (by simp) (by simp [x10]) (by simp [y8,j2]) (by simp [y32])
       ·have hk2:=key true cs rfl
        rw [cs] at est
        simp at hk2
        simp [x12,x4,x3,x9,x11,x1,x2,y8,y32,j1,j2,hjt,hio,hjo,hbi,hbj,ci,cj,hjb,ct]
        refine jV est (by simp [j2]) rfl (by simp [j2]) ?_
        simp [hw,x12,hjt,x9,x11,hio,y32,j1,hsp,xr]
        exact ⟨by omega,done1 _ (bs.set i true) true hk2 (by simp) (by simp) (by simp [y8,j2]) (by simp [List.map_set])⟩
     ·cases cs:Xl g M i j
      ·have hk2:=key false cs (by rw [ct];rfl)
       rw [cs] at est
       simp at hk2
       simp [x12,x4,x3,x9,x11,x1,x2,y8,y32,j1,j2,hjt,hio,hbi,ci,hjb,ct]
       refine jV est (by simp [j2]) rfl (by simp [j2]) ?_
       simp [hw,x12,hjt]
       exact done1 _ bs m hk2 (by simp) (by simp [x10]) (by simp [y8,j2]) (by simp [y32])
      ·have hk2:=key true cs (by rw [ct];rfl)
       rw [cs] at est
       simp at hk2
       simp [x12,x4,x3,x9,x11,x1,x2,y8,y32,j1,j2,hjt,hio,hbi,ci,hjb,ct]
       refine jV est (by simp [j2]) rfl (by simp [j2]) ?_
       simp [hw,x12,hjt,x9,x11,hio,y32,j1,hsp,xr]
       exact ⟨by omega,done1 _ (bs.set i true) true hk2 (by simp) (by simp) (by simp [y8,j2]) (by simp [List.map_set])⟩
    ·rw [ci] at hnx
     simp at hnx
     simp [x12,x4,x9,x11,y8,y32,j1,j2,hjt,hio,hbi,ci,hw]
     exact done1 _ bs m hnx (by simp) (by simp [x10]) (by simp [y8,j2]) (by simp [y32])
   ·have:j=g.ts.length:=by omega
    subst this
    have hw:=jz hlt (by omega)
    simp [x12,x4,y8,j1,j2,x11,hw,hlt]
    rw [hI]
    exact ⟨by simp,bs,m,hR2.row,by simpa using x10,by simpa [j2] using y8,by simpa using y32⟩
  ·have:i=g.ts.length:=by omega
   subst this
   simp [w11,f4,v8,j1,j2]
   refine ⟨k - 1,by omega,?_⟩
   rw [hJ]
   refine ⟨bs1,m1,hR.1,fun hm a b ha hb=>?_,?_,by simpa using f1,by simpa using f2,by simpa using f3,by simpa using f4,by simpa using f9,by simpa using w10,by simpa [j2] using v8,by simpa using v32,by simp [fd],by simp [fr],by simp [fb]⟩
   ·rw [(hR.2.1 hm).1]
    exact (hR.2.1 hm).2 a b (.inl ha) hb
   ·cases m1
    ·rw [(hR.2.1 rfl).1];simp;omega
    ·have:=hR.2.2 rfl;simp;omega
end Go.Pv.T
