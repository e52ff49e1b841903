/- Turning round; pivots. -/
import Derived.Test.YtopjfnbonjmnjaaGreatDoorUsD
import Derived.Laws.Bits64
namespace Go.Pv.T
open Go Go.Pv Go.Sort
theorem sv161 {Yf:YF} {l u a b:Nat} {d:Array Int} (hd:d.size≤1000000) (hb:b≤d.size) (hab:a<b) {ob:Nat→Option Obj'} {tk:Nat→Bool} {ro base ub:Nat} (ho:ob l=some ⟨u,.cells (arr intC d)⟩) (hro:ro≤u) :
 ∃ r,EvS E Yf.y 161 [.osl l u 0 d.size 1,.int .i64 a,.int .i64 b] ob tk ro base ub r∧At l u (arr intC (reverseRange d a b)) ob tk ub r.2.1 r.2.2.1 r.2.2.2:=by
 refine J8 (af:=S161) rfl (by decide) ?_
 show wpC E Yf S161.body _ (JY S161.res _)
 have w1:IntKind.i64.wrap ((b:Int) - 1)=((b - 1:Nat):Int):=by rw [jq (by omega) (by omega)];omega
 simp [S161,w1]
 obtain ⟨I,hI⟩:∃ I:Nat→St→Prop,I=fun n s=>∃ i j:Nat,n=j - i∧i≤b∧j<b∧s.tm 6 = .int .i64 i∧s.tm 7 = .int .i64 j∧∃ d1:Array Int,reverseLoop i j d1=reverseRange d a b∧d1.size=d.size∧At l u (arr intC d1) ob tk ub s.ob s.tk s.nx:=⟨_,rfl⟩
 refine JI (n:=b - 1 - a) [(6,7),(11,31)] I rfl rfl (by rw [hI];exact ⟨a,b - 1,rfl,by omega,by omega,by simp,by simp,d,rfl,rfl,(At.refl ho).same rfl rfl (by simp;omega)⟩) ?_
 intro n s hIs f
 rw [hI] at hIs
 obtain ⟨i,j,rfl,hi,hj,h6,h7,d1,e1,z1,hat⟩:=hIs
 have f0:s.tm 0 = .osl l u 0 d.size 1:=by rw [f.t 0 (by simp)];simp
 have fd:s.df=[]:=by rw [f.d];simp
 have fr:s.ro=ro:=by rw [f.r];simp
 clear f
 obtain ⟨X,hX⟩:∃ x:Int,x=(i:Nat):=⟨_,rfl⟩
 obtain ⟨Z,hZ⟩:∃ x:Int,x=(j:Nat):=⟨_,rfl⟩
 rw [← hX] at h6
 rw [← hZ] at h7
 by_cases hij:i<j
 ·have c1:X<Z:=by omega
  have w2:IntKind.i64.wrap (X+1)=((i+1:Nat):Int):=by rw [jq (by omega) (by omega)];omega
  have w3:IntKind.i64.wrap (Z - 1)=((j - 1:Nat):Int):=by rw [jq (by omega) (by omega)];omega
  have i0:=W7 (l:=l) (u:=u) (n:=d.size) (kk:=.i64) (X:=X) (x:=i) (by omega) (by omega)
  have i1:=W7 (l:=l) (u:=u) (n:=d.size) (kk:=.i64) (X:=Z) (x:=j) (by omega) (by omega)
  have l0:=ldN hat.1 (x:=i) (by omega)
  have l1:=ldN hat.1 (x:=j) (by omega)
  have st1:=stI (d:=d1) (x:=i) (by omega) d1[j]!
  have st2:=stI (d:=d1.setIfInBounds i d1[j]!) (x:=j) (by rw [Array.size_setIfInBounds];omega) d1[i]!
  have hsw:(d1.setIfInBounds i d1[j]!).setIfInBounds j d1[i]! = swp d1 i j:=rfl
  rw [hsw] at st2
  have hz1:i+1≤d1.size:=by omega
  have hz2:j+1≤d1.size:=by omega
  have e3:reverseLoop i j d1=reverseLoop (i+1) (j - 1) (swp d1 i j):=by rw [reverseLoop,if_pos hij]
  generalize hN1:((i+1:Nat):Int)=N1 at *
  generalize hN2:((j - 1:Nat):Int)=N2 at *
  simp [h6,h7,c1,f0,i0,i1,l0,l1,j6,hat.1,fr,hro,st1,st2,hz1,hz2,w2,w3]
  exact ⟨j - 1 - (i+1),by omega,by rw [hI];exact ⟨i+1,j - 1,rfl,by omega,by omega,by simp [hN1],by simp [hN2],swp d1 i j,by rw [← e3,e1],by rw [Jk];exact z1,hat.swap (by simp) (fun key hk=>by simp [hk]) (by simp [jW]) (by simp;omega)⟩⟩
 ·have c1:¬ X<Z:=by omega
  have e3:reverseLoop i j d1=d1:=by rw [reverseLoop,if_neg hij]
  rw [e3] at e1
  subst e1
  simp [h6,h7,c1]
  exact jy (Or.inl rfl) (by simp [fd]) (hat.same rfl rfl (by simp;omega))
def Cn (w uw:Nat) (ob:Nat→Option Obj') (tk:Nat→Bool) (ub:Nat) (ob':Nat→Option Obj') (tk':Nat→Bool) (ub':Nat):Prop :=
 (∃ c,ob' w=some ⟨uw,.cells [.int .i64 c]⟩)∧(∀ key,key≠w→ob' key=ob key)∧tk'=tk∧ub≤ub'
theorem Cn.trans {w uw:Nat} {ob ob1 ob2:Nat→Option Obj'} {tk tk1 tk2:Nat→Bool} {ub ub1 ub1' ub2:Nat} (h:Cn w uw ob tk ub ob1 tk1 ub1) (h':Cn w uw ob1 tk1 ub1' ob2 tk2 ub2) (hu:ub1≤ub1'):Cn w uw ob tk ub ob2 tk2 ub2 :=
 ⟨h'.1,fun key a=>(h'.2.1 key a).trans (h.2.1 key a),h'.2.2.1.trans h.2.2.1,by have:=h.2.2.2;have:=h'.2.2.2;omega⟩
theorem jv4 {Yf:YF} {l u w uw a b:Nat} {d:Array Int} {c:Int} (ha:a<d.size) (hb:b<d.size) {ob:Nat→Option Obj'} {tk:Nat→Bool} {ro base ub:Nat} (ho:ob l=some ⟨u,.cells (arr intC d)⟩) (hw:ob w=some ⟨uw,.cells [.int .i64 c]⟩) (hro:ro≤uw) :
 ∃ r,EvS E Yf.y 240 [.osl l u 0 d.size 1,.int .i64 a,.int .i64 b,.ptr w uw 0] ob tk ro base ub r∧(∃ x y:Nat,r.1 = .tup [.int .i64 x,.int .i64 y]∧(x=a∧y=b∨x=b∧y=a))∧Cn w uw ob tk ub r.2.1 r.2.2.1 r.2.2.2:=by
 refine J8 (af:=S240) rfl (by decide) ?_
 show wpC E Yf S240.body _ (JY S240.res _)
 have i0:=W7 (l:=l) (u:=u) (n:=d.size) (kk:=.i64) (X:=(a:Int)) (x:=a) rfl (by omega)
 have i1:=W7 (l:=l) (u:=u) (n:=d.size) (kk:=.i64) (X:=(b:Int)) (x:=b) rfl (by omega)
 have l0:=ldN ho (x:=a) (by omega)
 have l1:=ldN ho (x:=b) (by omega)
 simp [S240,i0,i1,l0,l1]
 refine jf (Qy d[b]! d[a]!) (by simp) rfl (by simp) ?_
 simp
 cases hl:ltInt d[b]! d[a]!
 ·simp
  exact jdt (by simp) ⟨⟨a,b,by simp,Or.inl ⟨rfl,rfl⟩⟩,⟨c,hw⟩,fun _ _=>rfl,rfl,by simp;omega⟩
 ·simp [j6,hw,hro,jD]
  exact jdt (by simp) ⟨⟨b,a,by simp,Or.inr ⟨rfl,rfl⟩⟩,⟨IntKind.i64.wrap (c+1),by simp⟩,fun key hk=>by simp [hk],by simp [jW],by simp;omega⟩
end Go.Pv.T

/- Pivots. -/
namespace Go.Pv.T
open Go Go.Pv Go.Sort
theorem sv204 {Yf:YF} {l u w uw a b c:Nat} {d:Array Int} {z:Int} (ha:a<d.size) (hb:b<d.size) (hc:c<d.size) (hlw:l≠w) {ob:Nat→Option Obj'} {tk:Nat→Bool} {ro base ub:Nat} (ho:ob l=some ⟨u,.cells (arr intC d)⟩) (hw:ob w=some ⟨uw,.cells [.int .i64 z]⟩) (hro:ro≤uw) :
 ∃ r,EvS E Yf.y 204 [.osl l u 0 d.size 1,.int .i64 a,.int .i64 b,.int .i64 c,.ptr w uw 0] ob tk ro base ub r∧(∃ x:Nat,r.1 = .int .i64 x∧(x=a∨x=b∨x=c))∧Cn w uw ob tk ub r.2.1 r.2.2.1 r.2.2.2:=by
 refine J8 (af:=S204) rfl (by decide) ?_
 show wpC E Yf S204.body _ (JY S204.res _)
 simp [S204]
 refine jQ (vs:=[.osl l u 0 d.size 1,.int .i64 a,.int .i64 b,.ptr w uw 0]) (by simp) rfl (jv4 (c:=z) ha hb (by simpa using ho) (by simpa using hw) (by simpa using hro)) ?_
 rintro v ob1 tk1 ub1 ⟨⟨x,y,hv,hxy⟩,hC⟩
 simp only at hv
 subst hv
 obtain ⟨⟨c1,q1⟩,q2,q3,q4⟩:=id hC
 simp only at q1 q2 q3 q4
 have ho1:ob1 l=some ⟨u,.cells (arr intC d)⟩:=(q2 l hlw).trans (by simpa using ho)
 have hx:x<d.size:=by omega
 have hy:y<d.size:=by omega
 simp
 refine jQ (vs:=[.osl l u 0 d.size 1,.int .i64 y,.int .i64 c,.ptr w uw 0]) (by simp) rfl (jv4 (c:=c1) hy hc (by simpa using ho1) (by simpa using q1) (by simpa using hro)) ?_
 rintro v ob2 tk2 ub2 ⟨⟨x2,y2,hv,hxy2⟩,hC2⟩
 simp only at hv
 subst hv
 obtain ⟨⟨c2,p1⟩,p2,p3,p4⟩:=id hC2
 simp only at p1 p2 p3 p4
 have ho2:ob2 l=some ⟨u,.cells (arr intC d)⟩:=(p2 l hlw).trans (by simpa using ho1)
 have hx2:x2<d.size:=by omega
 simp
 refine jQ (vs:=[.osl l u 0 d.size 1,.int .i64 x,.int .i64 x2,.ptr w uw 0]) (by simp) rfl (jv4 (c:=c2) hx hx2 (by simpa using ho2) (by simpa using p1) (by simpa using hro)) ?_
 rintro v ob3 tk3 ub3 ⟨⟨x3,y3,hv,hxy3⟩,hC3⟩
 simp only at hv
 subst hv
 simp
 have h12:=hC.trans hC2 (by show ub1≤_;omega)
 have h13:=h12.trans hC3 (by show ub2≤_;omega)
 exact YL (by simp) ⟨⟨y3,by simp,by omega⟩,h13.1,h13.2.1,h13.2.2.1,by have:=h13.2.2.2;simp at this ⊢;omega⟩
theorem jp2 {Yf:YF} {a b:C} {st:St} {Q:Ex→St→Prop} {c:Bool} (h:∀ s,s=st→kIf E Yf a b s Q c):kIf E Yf a b st Q c:=h st rfl
theorem sv160 {Yf:YF} {l u a b:Nat} {d:Array Int} (hd:d.size≤49) (hb:b≤d.size) (hab:a<b) {ob:Nat→Option Obj'} {tk:Nat→Bool} {ro base ub:Nat} (ho:ob l=some ⟨u,.cells (arr intC d)⟩) (hl:∀ m,ub≤m→l≠2 * m+1) (hru:ro≤ub) :
 ∃ r,EvS E Yf.y 160 [.osl l u 0 d.size 1,.int .i64 a,.int .i64 b] ob tk ro base ub r∧(∃ x h:Nat,r.1 = .tup [.int .i64 x,.int .i64 h]∧a≤x∧x<b∧h≤2)∧At l u (arr intC d) ob tk ub r.2.1 r.2.2.1 r.2.2.2:=by
 refine J8 (af:=S160) rfl (by decide) ?_
 show wpC E Yf S160.body _ (JY S160.res _)
 obtain ⟨A,hA⟩:∃ x:Int,x=(a:Nat):=⟨_,rfl⟩
 obtain ⟨B,hB⟩:∃ x:Int,x=(b:Nat):=⟨_,rfl⟩
 obtain ⟨L,hL⟩:∃ x:Int,x=B - A:=⟨_,rfl⟩
 obtain ⟨q,hq⟩:∃ q,q=(b - a) / 4:=⟨_,rfl⟩
 obtain ⟨Q,hQ⟩:∃ x:Int,x=(q:Nat):=⟨_,rfl⟩
 obtain ⟨Q2,hQ2⟩:∃ x:Int,x=Q * 2:=⟨_,rfl⟩
 obtain ⟨Q3,hQ3⟩:∃ x:Int,x=Q * 3:=⟨_,rfl⟩
 obtain ⟨P1,hP1⟩:∃ x:Int,x=A+Q:=⟨_,rfl⟩
 obtain ⟨P2,hP2⟩:∃ x:Int,x=A+Q2:=⟨_,rfl⟩
 obtain ⟨P3,hP3⟩:∃ x:Int,x=A+Q3:=⟨_,rfl⟩
 have w1:IntKind.i64.wrap (B - A)=L:=by rw [jq (by omega) (by omega)];exact hL.symm
 have w2:IntKind.i64.wrap (L.tdiv 4)=Q:=by
  have e:L=((b - a:Nat):Int):=by omega
  have e2:L.tdiv 4=(((b - a) / 4:Nat):Int):=by rw [e];exact (Int.ofNat_tdiv _ 4).symm
  rw [e2,jq (by omega) (by omega)];omega
 have w3:IntKind.i64.wrap Q=Q:=jq (by omega) (by omega)
 have w4:IntKind.i64.wrap (Q * 2)=Q2:=by rw [jq (by omega) (by omega)];exact hQ2.symm
 have w5:IntKind.i64.wrap (Q * 3)=Q3:=by rw [jq (by omega) (by omega)];exact hQ3.symm
 have w6:IntKind.i64.wrap (A+Q)=P1:=by rw [jq (by omega) (by omega)];exact hP1.symm
 have w7:IntKind.i64.wrap (A+Q2)=P2:=by rw [jq (by omega) (by omega)];exact hP2.symm
 have w8:IntKind.i64.wrap (A+Q3)=P3:=by rw [jq (by omega) (by omega)];exact hP3.symm
 have c2:¬ 50≤L:=by omega
 have bq:a+q<b∧a+q * 2<b∧a+q * 3<b∧a≤a+q∧a≤a+q * 2∧a≤a+q * 3:=by omega
 rw [← hA,← hB]
 simp [S160,w1,w2,w3,w4,w5,w6,w7,w8]
 generalize hQ:jea E Yf _ (JY _ _)=Q
 have fin:∀ (s:St) (w uw x:Nat) (z:Int),s.tm 9 = .ptr w uw 0→s.ob w=some ⟨uw,.cells [.int .i64 z]⟩→s.tm 11 = .int .i64 x→a≤x→x<b→s.df=[]→At l u (arr intC d) ob tk ub s.ob s.tk s.nx→Q .nrm s:=by
  intro s w uw x z h9 hw h11 hax hxb hd hat
  rw [← hQ]
  by_cases z0:z=0
  ·subst z0
   simp [h9,j6,hw,h11]
   exact jdt (by simp [hd]) ⟨⟨x,1,by simp,hax,hxb,by omega⟩,hat.same rfl rfl (by simp;omega)⟩
  ·have z0':(z == 0)=false:=by simpa using z0
   by_cases z1:z=12
   ·subst z1
    simp [h9,j6,hw,h11]
    exact jdt (by simp [hd]) ⟨⟨x,2,by simp,hax,hxb,by omega⟩,hat.same rfl rfl (by simp;omega)⟩
   ·have z1':(z == 12)=false:=by simpa using z1
    simp [h9,j6,hw,h11,z0',z1']
    exact jdt (by simp [hd]) ⟨⟨x,0,by simp,hax,hxb,by omega⟩,hat.same rfl rfl (by simp;omega)⟩
 clear hQ
 obtain ⟨N,hN⟩:∃ N,ub+64+64+64+64+64+64=N:=⟨_,rfl⟩
 have hl':=hl N (by omega)
 have hl'':¬ 2 * N+1=l:=fun e=>hl' e.symm
 refine jp2 fun st hst=>?_
 have g0:st.tm 0 = .osl l u 0 d.size 1:=by rw [hst];simp
 have g8:st.tm 8 = .int .i64 L:=by rw [hst];simp
 have g9:st.tm 9 = .ptr (2 * N+1) N 0:=by rw [hst,← hN];simp
 have g10:st.tm 10 = .int .i64 ((a+q:Nat):Int):=by rw [hst];simp;omega
 have g11:st.tm 11 = .int .i64 ((a+q * 2:Nat):Int):=by rw [hst];simp;omega
 have g12:st.tm 12 = .int .i64 ((a+q * 3:Nat):Int):=by rw [hst];simp;omega
 have gd:st.df=[]:=by rw [hst];simp
 have gr:st.ro=ro:=by rw [hst];simp
 have gn:N≤st.nx:=by rw [hst,← hN];simp
 have gw:st.ob (2 * N+1)=some ⟨N,.cells [.int .i64 0]⟩:=by rw [hst,← hN];simp
 have gf:∀ key,key≠2 * N+1→st.ob key=ob key:=by
  intro key hk
  rw [← hN] at hk
  rw [hst];simp [hk]
 have gt:st.tk=tk:=by rw [hst];simp [jW]
 clear hst
 have gl:st.ob l=some ⟨u,.cells (arr intC d)⟩:=(gf l hl').trans ho
 by_cases h8:8≤L
 ·simp [h8,c2,g8,g0,g10,g11,g12]
  refine jQ (vs:=[.osl l u 0 d.size 1,.int .i64 ((a+q:Nat):Int),.int .i64 ((a+q * 2:Nat):Int),.int .i64 ((a+q * 3:Nat):Int),.ptr (2 * N+1) N 0]) (by simp [g9]) rfl (sv204 (l:=l) (u:=u) (d:=d) (z:=0) (by omega) (by omega) (by omega) hl' (by simpa using gl) (by simpa using gw) (by simp [gr];omega)) ?_
  rintro v ob' tk' ub' ⟨⟨x,hv,hx⟩,hC⟩
  simp only at hv
  subst hv
  obtain ⟨⟨c',q1⟩,q2,q3,q4⟩:=hC
  simp only at q1 q2 q3 q4
  simp
  have hxx:a≤x∧x<b:=by rcases hx with h | h | h <;> subst h <;> exact ⟨by first | exact bq.2.2.2.1 | exact bq.2.2.2.2.1 | exact bq.2.2.2.2.2,by first | exact bq.1 | exact bq.2.1 | exact bq.2.2.1⟩
  refine fin _ (2 * N+1) N x c' (by simp [g9]) (by simpa using q1) (by simp) hxx.1 hxx.2 (by simp [gd]) ⟨?_,?_,?_,?_⟩
  ·simp;rw [q2 l hl'];simpa using gl
  ·intro key h1 h2
   have:=h2 N (by rw [← hN];omega)
   simp;rw [q2 key this];simpa using gf key this
  ·simp;rw [q3];simpa using gt
  ·simp at q4 ⊢;omega
 ·simp [h8]
  refine fin _ (2 * N+1) N (a+q * 2) 0 g9 gw g11 bq.2.2.2.2.1 bq.2.1 gd ⟨gl,?_,gt,Nat.le_trans (by rw [← hN];omega) gn⟩
  intro key h1 h2
  exact gf key (h2 N (by rw [← hN];omega))
end Go.Pv.T

/- Scans. -/
namespace Go.Pv.T
open Go Go.Pv Go.Sort
theorem jj9 {Yf:YF} {c:C} {st:St} {ws:List (Nat × Nat)} {Q:Ex→St→Prop} {R:Ex→St→Prop} (hn:c.noRF=true) (hw:(c.ws.all fun t=>inR t ws)=true) (h:wpC E Yf c st Q) (hk:∀ e s,Q e s→Keeps (fun t=>inR t ws=true) st s→R e s):wpC E Yf c st R :=
 JV (fun e s h=>hk e s h.1 (h.2.weak fun t ht=>List.all_eq_true.1 hw t ht)) (jgu hn h)
theorem ju4 {ws:List (Nat × Nat)} {a b c:St} (h:Keeps (fun t=>inR t ws=true) a b) (h':Keeps (fun t=>inR t ws=true) b c):Keeps (fun t=>inR t ws=true) a c:=h.trans h' (fun _ h=>h) (fun _ h=>h)
def Calm (s s':St):Prop:=s'.ob=s.ob∧s'.tk=s.tk∧s.nx≤s'.nx
theorem Calm.refl (s:St):Calm s s:=⟨rfl,rfl,Nat.le_refl _⟩
theorem Calm.trans {a b c:St} (h:Calm a b) (h':Calm b c):Calm a c:=⟨h'.1.trans h.1,h'.2.1.trans h.2.1,Nat.le_trans h.2.2 h'.2.2⟩
theorem ji2 {Yf:YF} {cC sC:C} {tc ti x y:Nat} {st:St} {Q:Ex→St→Prop} {α:Type} [Inhabited α] {p:α→Bool} {d:Array α} {i0 j:Nat} (ws:List (Nat × Nat)) (hc:cC.noRF=true) (hs:sC.noRF=true) (hwc:(cC.ws.all fun t=>inR t ws)=true) (hws:(sC.ws.all fun t=>inR t ws)=true)
 (h0:st.tm ti = .int .i64 i0)
 (hcond:∀ (s:St) (i:Nat),s.tm ti = .int .i64 i→i0≤i→i≤i0∨i≤j+1→Calm st s→Keeps (fun t=>inR t ws=true) st s→wpC E Yf cC s fun e s'=>e = .nrm∧s'.tm tc = .bool (decide (i≤j) && p d[i]!)∧s'.tm ti=s.tm ti∧Calm s s')
 (hstep:∀ (s:St) (i:Nat),s.tm ti = .int .i64 i→i0≤i→i≤j→wpC E Yf sC s fun e s'=>e = .nrm∧s'.tm ti = .int .i64 (i+1:Nat)∧Calm s s')
 (hk:∀ s:St,s.tm ti = .int .i64 (scanUp p d j i0:Nat)→Calm st s→Keeps (fun t=>inR t ws=true) st s→Q (.exit x) s) :
 wpC E Yf (.loop (.seq (.seq cC (.cond (.t tc) .skip (.exit x))) (.block y sC))) st Q:=by
 refine JI (n:=j+1 - i0) ws (fun n s=>∃ i:Nat,n=j+1 - i∧i0≤i∧(i≤i0∨i≤j+1)∧s.tm ti = .int .i64 i∧scanUp p d j i=scanUp p d j i0∧Calm st s) (by simp [C.noRF,hc,hs]) ?_ ⟨i0,rfl,Nat.le_refl _,Or.inl (Nat.le_refl _),h0,rfl,Calm.refl _⟩ ?_
 ·simp only [C.ws,List.append_nil,List.all_append,hwc,hws,Bool.and_self]
 rintro n s ⟨i,rfl,hi,hi',hti,hsc,hcalm⟩ hf
 rw [jbl,jbl]
 refine jj9 hc hwc (hcond s i hti hi hi' hcalm hf) ?_
 rintro e s1 ⟨rfl,htc,hti1,hca⟩ hf1
 rw [X6,jjt,show eval E s1.tm (.t tc)=s1.tm tc from rfl,htc,jgb]
 cases hb:(decide (i≤j) && p d[i]!)
 ·rw [jdh,jjs,Qq,jax]
  have e3:scanUp p d j i=i:=by rw [scanUp,hb];rfl
  rw [e3] at hsc
  exact hk s1 (by rw [hti1,hti,hsc]) (hcalm.trans hca) (ju4 hf hf1)
 ·rw [jf7,jjr,X6,jb3]
  rw [Bool.and_eq_true,decide_eq_true_eq] at hb
  refine JV ?_ (hstep s1 i (by rw [hti1,hti]) hi hb.1)
  rintro e s2 ⟨rfl,h1,h2⟩
  rw [jga,Qr]
  refine ⟨j+1 - (i+1),by omega,i+1,rfl,by omega,Or.inr (by omega),h1,?_,hcalm.trans (hca.trans h2)⟩
  rw [← hsc]
  conv=>rhs;rw [scanUp]
  simp [hb]
theorem jck {Yf:YF} {cC sC:C} {tc tj x y:Nat} {st:St} {Q:Ex→St→Prop} {α:Type} [Inhabited α] {p:α→Bool} {d:Array α} {i j0:Nat} (hi1:1≤i) (ws:List (Nat × Nat)) (hc:cC.noRF=true) (hs:sC.noRF=true) (hwc:(cC.ws.all fun t=>inR t ws)=true) (hws:(sC.ws.all fun t=>inR t ws)=true)
 (h0:st.tm tj = .int .i64 j0)
 (hcond:∀ (s:St) (j:Nat),s.tm tj = .int .i64 j→j≤j0→Calm st s→Keeps (fun t=>inR t ws=true) st s→wpC E Yf cC s fun e s'=>e = .nrm∧s'.tm tc = .bool (decide (i≤j) && p d[j]!)∧s'.tm tj=s.tm tj∧Calm s s')
 (hstep:∀ (s:St) (j:Nat),s.tm tj = .int .i64 (j+1:Nat)→j+1≤j0→wpC E Yf sC s fun e s'=>e = .nrm∧s'.tm tj = .int .i64 j∧Calm s s')
 (hk:∀ s:St,s.tm tj = .int .i64 (scanDown p d i j0:Nat)→Calm st s→Keeps (fun t=>inR t ws=true) st s→Q (.exit x) s) :
 wpC E Yf (.loop (.seq (.seq cC (.cond (.t tc) .skip (.exit x))) (.block y sC))) st Q:=by
 refine JI (n:=j0) ws (fun n s=>n≤j0∧s.tm tj = .int .i64 n∧scanDown p d i n=scanDown p d i j0∧Calm st s) (by simp [C.noRF,hc,hs]) ?_ ⟨Nat.le_refl _,h0,rfl,Calm.refl _⟩ ?_
 ·simp only [C.ws,List.append_nil,List.all_append,hwc,hws,Bool.and_self]
 rintro n s ⟨hn,htj,hsc,hcalm⟩ hf
 rw [jbl,jbl]
 refine jj9 hc hwc (hcond s n htj hn hcalm hf) ?_
 rintro e s1 ⟨rfl,htc,htj1,hca⟩ hf1
 rw [X6,jjt,show eval E s1.tm (.t tc)=s1.tm tc from rfl,htc,jgb]
 cases hb:(decide (i≤n) && p d[n]!)
 ·rw [jdh,jjs,Qq,jax]
  have e3:scanDown p d i n=n:=by
   cases n with
   | zero=>rfl
   | succ n=>rw [scanDown,hb];rfl
  rw [e3] at hsc
  exact hk s1 (by rw [htj1,htj,hsc]) (hcalm.trans hca) (ju4 hf hf1)
 ·rw [jf7,jjr,X6,jb3]
  have hb':=hb
  rw [Bool.and_eq_true,decide_eq_true_eq] at hb'
  cases n with
  | zero=>omega
  | succ n =>
   refine JV ?_ (hstep s1 n (by rw [htj1,htj]) hn)
   rintro e s2 ⟨rfl,h1,h2⟩
   rw [jga,Qr]
   refine ⟨n,by omega,by omega,h1,?_,hcalm.trans (hca.trans h2)⟩
   rw [← hsc,scanDown,hb]
   rfl
end Go.Pv.T

/- Partitions. -/
namespace Go.Pv.T
open Go Go.Pv Go.Sort
theorem YA {α:Type} [Inhabited α] (p:α→Bool) (d:Array α) (j i:Nat):i≤scanUp p d j i∧(i≤j+1→scanUp p d j i≤j+1):=by
 fun_induction scanUp p d j i with
 | case1 i h ih =>
  rw [Bool.and_eq_true,decide_eq_true_eq] at h
  exact ⟨by omega,fun _=>ih.2 (by omega)⟩
 | case2 i h=>exact ⟨Nat.le_refl _,fun h=>h⟩
theorem Jm {α:Type} [Inhabited α] (p:α→Bool) (d:Array α) (i:Nat):∀ j,scanDown p d i j≤j∧(i≤scanDown p d i j+1∨scanDown p d i j=j)
 | 0=>⟨Nat.le_refl _,Or.inr rfl⟩
 | j+1=>by
  rw [scanDown]
  split
  ·rename_i h
   rw [Bool.and_eq_true,decide_eq_true_eq] at h
   have ih:=Jm p d i j
   refine ⟨by omega,Or.inl ?_⟩
   rcases ih.2 with h2 | h2
   ·exact h2
   ·rw [h2];omega
  ·exact ⟨Nat.le_refl _,Or.inr rfl⟩
theorem Qg {lt:Int→Int→Bool} {a i j i2 j2:Nat} {d:Array Int} (_:1≤i) (h1:scanUp (fun x=>lt x d[a]!) d j i=i2) (h2:scanDown (fun x=>!lt x d[a]!) d i2 j=j2) :
 partLoop lt a i j d=if i2 > j2 then (j2,d) else partLoop lt a (i2+1) (j2 - 1) (swp d i2 j2):=by
 have g1:=(YA (fun x=>lt x d[a]!) d j i).1
 have g2:=(Jm (fun x=>!lt x d[a]!) d i2 j).1
 rw [partLoop]
 simp only [h1,h2]
 by_cases h:i2 > j2
 ·rw [if_pos h,if_pos h]
 ·rw [if_neg h,if_neg h,dif_pos (by omega)]
theorem At.calm {l u:Nat} {cs:List V} {ob:Nat→Option Obj'} {tk:Nat→Bool} {ub:Nat} {s s':St} (h:At l u cs ob tk ub s.ob s.tk s.nx) (hc:Calm s s'):At l u cs ob tk ub s'.ob s'.tk s'.nx:=h.same hc.1 hc.2.1 hc.2.2
theorem sv165 {Yf:YF} {l u a b pv:Nat} {d:Array Int} (hd:d.size≤1000000) (hb:b≤d.size) (hap:a≤pv) (hpb:pv<b) {ob:Nat→Option Obj'} {tk:Nat→Bool} {ro base ub:Nat} (ho:ob l=some ⟨u,.cells (arr intC d)⟩) (hro:ro≤u) :
 ∃ r,EvS E Yf.y 165 [.osl l u 0 d.size 1,.int .i64 a,.int .i64 b,.int .i64 pv] ob tk ro base ub r∧r.1 = .tup [.int .i64 (partition ltInt d a b pv).1,.bool (partition ltInt d a b pv).2.1]∧At l u (arr intC (partition ltInt d a b pv).2.2) ob tk ub r.2.1 r.2.2.1 r.2.2.2:=by
 refine J8 (af:=S165) rfl (by decide) ?_
 show wpC E Yf S165.body _ (JY S165.res _)
 have w1:IntKind.i64.wrap ((a:Int)+1)=((a+1:Nat):Int):=by rw [jq (by omega) (by omega)];omega
 have w2:IntKind.i64.wrap ((b:Int) - 1)=((b - 1:Nat):Int):=by rw [jq (by omega) (by omega)];omega
 have ia:∀ n,a<n→JZ 1 (.osl l u 0 n 1) (.int .i64 (a:Int))=some (.ptr l u a):=fun n h=>W7 rfl h
 have ia':=ia d.size (by omega)
 have ip:=W7 (l:=l) (u:=u) (n:=d.size) (kk:=.i64) (X:=(pv:Int)) (x:=pv) rfl (by omega)
 have la:=ldN ho (x:=a) (by omega)
 have lp:=ldN ho (x:=pv) (by omega)
 have st1:=stI (d:=d) (x:=a) (by omega) d[pv]!
 have st2:=stI (d:=d.setIfInBounds a d[pv]!) (x:=pv) (by rw [Array.size_setIfInBounds];omega) d[a]!
 have hsw:(d.setIfInBounds a d[pv]!).setIfInBounds pv d[a]! = swp d a pv:=rfl
 rw [hsw] at st2
 have hz1:a+1≤d.size:=by omega
 have hz2:pv+1≤d.size:=by omega
 obtain ⟨P,hP⟩:∃ P,partition ltInt d a b pv=P:=⟨_,rfl⟩
 rw [hP]
 unfold partition at hP
 obtain ⟨D,hD⟩:∃ D,swp d a pv=D:=⟨_,rfl⟩
 have zD:D.size=d.size:=by rw [← hD];exact Jk _ _ _
 rw [hD] at st2 hP
 simp only at hP
 generalize hA1:((a+1:Nat):Int)=A1 at w1
 generalize hB1:((b - 1:Nat):Int)=B1 at w2
 simp [S165,ia',ip,la,lp,j6,ho,hro,st1,st2,hz1,hz2,w1,w2]
 refine XJ fun st hst=>?_
 have g0:st.tm 0 = .osl l u 0 d.size 1:=by rw [hst];simp
 have g1:st.tm 1 = .int .i64 a:=by rw [hst];simp
 have g10:st.tm 10 = .int .i64 (a+1:Nat):=by rw [hst,hA1];simp
 have g11:st.tm 11 = .int .i64 (b - 1:Nat):=by rw [hst,hB1];simp
 have gd:st.df=[]:=by rw [hst];simp
 have gr:st.ro=ro:=by rw [hst];simp
 have gat:At l u (arr intC D) ob tk ub st.ob st.tk st.nx:=by rw [hst];exact (At.refl ho).swap (by simp) (fun key hk=>by simp [hk]) (by simp [jW]) (by simp;omega)
 clear hst st1 st2 hsw hA1 hB1 w1 w2 la lp ip
 refine ji2 (p:=fun x=>ltInt x D[a]!) (d:=D) (i0:=a+1) (j:=b - 1) [(10,10),(30,45)] rfl rfl rfl rfl g10 ?_ ?_ ?_
 ·intro s9 x1 hx9 h19 h29 hca9 hf9
  have m0:s9.tm 0 = .osl l u 0 d.size 1:=by rw [hf9.t 0 (by simp)];exact g0
  have m1:s9.tm 1 = .int .i64 a:=by rw [hf9.t 1 (by simp)];exact g1
  have mf:s9.tm 11 = .int .i64 ((b - 1:Nat):Int):=by rw [hf9.t 11 (by simp)];exact g11
  have hat9:=gat.calm hca9
  generalize hX:(x1:Int)=X at *
  generalize hZ:((b - 1:Nat):Int)=Z at *
  by_cases hle:x1≤b - 1
  ·have c1:X≤Z:=by omega
   have ii:=W7 (l:=l) (u:=u) (n:=d.size) (kk:=.i64) (X:=X) (x:=x1) (by omega) (by omega)
   have li:=ldN hat9.1 (x:=x1) (by omega)
   have la:=ldN hat9.1 (x:=a) (by omega)
   simp [hx9,mf,c1,m0,m1,ii,li,ia',la]
   refine jf (Qy D[x1]! D[a]!) (by simp) rfl (by simp) ?_
   simp [hle,hx9,Calm] <;> omega
  ·have c1:¬ X≤Z:=by omega
   simp [hx9,mf,c1,hle,Calm] <;> omega
 ·intro s9 x1 hx9 h19 h29
  have hw:IntKind.i64.wrap ((x1:Int)+1)=(x1:Int)+1:=jq (by omega) (by omega)
  simp [hx9,hw,Calm] <;> omega
 intro s9 h9 hca9 hf9
 obtain ⟨i1,hi1⟩:∃ x,scanUp (fun x=>ltInt x D[a]!) D (b - 1) (a+1)=x:=⟨_,rfl⟩
 have bi:=YA (fun x=>ltInt x D[a]!) D (b - 1) (a+1)
 rw [hi1] at h9 hP bi
 have k0:s9.tm 0 = .osl l u 0 d.size 1:=by rw [hf9.t 0 (by simp)];exact g0
 have k1:s9.tm 1 = .int .i64 a:=by rw [hf9.t 1 (by simp)];exact g1
 have k11:s9.tm 11 = .int .i64 ((b - 1:Nat):Int):=by rw [hf9.t 11 (by simp)];exact g11
 have kd:s9.df=[]:=by rw [hf9.d];exact gd
 have kr:s9.ro=ro:=by rw [hf9.r];exact gr
 have kat:=gat.calm hca9
 clear hca9 hf9
 have k10:=h9
 simp
 refine jck (p:=fun x=>!ltInt x D[a]!) (d:=D) (i:=i1) (j0:=b - 1) (by omega) [(11,11),(46,62)] rfl rfl rfl rfl k11 ?_ ?_ ?_
 ·intro s9 x1 hx9 h19 hca9 hf9
  have m0:s9.tm 0 = .osl l u 0 d.size 1:=by rw [hf9.t 0 (by simp)];exact k0
  have m1:s9.tm 1 = .int .i64 a:=by rw [hf9.t 1 (by simp)];exact k1
  have mf:s9.tm 10 = .int .i64 ((i1:Nat):Int):=by rw [hf9.t 10 (by simp)];exact k10
  have hat9:=kat.calm hca9
  generalize hX:(x1:Int)=X at *
  generalize hZ:((i1:Nat):Int)=Z at *
  by_cases hle:i1≤x1
  ·have c1:Z≤X:=by omega
   have ii:=W7 (l:=l) (u:=u) (n:=d.size) (kk:=.i64) (X:=X) (x:=x1) (by omega) (by omega)
   have li:=ldN hat9.1 (x:=x1) (by omega)
   have la:=ldN hat9.1 (x:=a) (by omega)
   simp [hx9,mf,c1,m0,m1,ii,li,ia',la]
   refine jf (Qy D[x1]! D[a]!) (by simp) rfl (by simp) ?_
   simp [hle,hx9,Calm] <;> omega
  ·have c1:¬ Z≤X:=by omega
   simp [hx9,mf,c1,hle,Calm] <;> omega
 ·intro s9 x1 hx9 h19
  have hw:IntKind.i64.wrap (((x1+1:Nat):Int) - 1)=(x1:Int):=by rw [jq (by omega) (by omega)];omega
  generalize ((x1+1:Nat):Int)=J at *
  simp [hx9,hw,Calm] <;> omega
 intro s9 h9 hca9 hf9
 obtain ⟨j1,hj1⟩:∃ x,scanDown (fun x=>!ltInt x D[a]!) D i1 (b - 1)=x:=⟨_,rfl⟩
 have bj:=Jm (fun x=>!ltInt x D[a]!) D i1 (b - 1)
 rw [hj1] at h9 hP bj
 have q0:s9.tm 0 = .osl l u 0 d.size 1:=by rw [hf9.t 0 (by simp)];exact k0
 have q1:s9.tm 1 = .int .i64 a:=by rw [hf9.t 1 (by simp)];exact k1
 have q10:s9.tm 10 = .int .i64 ((i1:Nat):Int):=by rw [hf9.t 10 (by simp)];exact k10
 have qd:s9.df=[]:=by rw [hf9.d];exact kd
 have qr:s9.ro=ro:=by rw [hf9.r];exact kr
 have qat:=kat.calm hca9
 clear hca9 hf9
 have q11:=h9
 clear h9
 obtain ⟨X,hX⟩:∃ x:Int,x=(i1:Nat):=⟨_,rfl⟩
 obtain ⟨Z,hZ⟩:∃ x:Int,x=(j1:Nat):=⟨_,rfl⟩
 rw [← hX] at q10
 rw [← hZ] at q11
 obtain ⟨A,hA⟩:∃ x:Int,x=(a:Nat):=⟨_,rfl⟩
 rw [← hA] at q1 ia'
 by_cases hgt:i1 > j1
 ·rw [if_pos hgt] at hP
  subst hP
  have c1:Z<X:=by omega
  have ix:=W7 (l:=l) (u:=u) (n:=d.size) (kk:=.i64) (X:=Z) (x:=j1) (by omega) (by omega)
  have iy:=W7 (l:=l) (u:=u) (n:=d.size) (kk:=.i64) (X:=A) (x:=a) (by omega) (by omega)
  have lx:=ldN qat.1 (x:=j1) (by omega)
  have ly:=ldN qat.1 (x:=a) (by omega)
  have sa:=stI (d:=D) (x:=j1) (by omega) D[a]!
  have sb:=stI (d:=D.setIfInBounds (j1) D[a]!) (x:=a) (by rw [Array.size_setIfInBounds];omega) D[j1]!
  rw [show (D.setIfInBounds (j1) D[a]!).setIfInBounds (a) D[j1]! = swp D (j1) (a) from rfl] at sb
  have za:j1+1≤D.size:=by omega
  have zb:a+1≤D.size:=by omega
  simp [q10,q11,q0,q1,c1,ix,iy,lx,ly,sa,sb,za,zb,j6,hro,qr,qat.1]
  exact jdt (by simp [qd]) ⟨by simp [hZ],qat.swap (by simp) (fun key hk=>by simp [hk]) (by simp [jW]) (by simp;omega)⟩
 ·rw [if_neg hgt] at hP
  have c1:¬ Z<X:=by omega
  obtain ⟨r,hr⟩:∃ r,partLoop ltInt a (i1+1) (j1 - 1) (swp D i1 j1)=r:=⟨_,rfl⟩
  rw [hr] at hP
  have w3:IntKind.i64.wrap (X+1)=X+1:=jq (by omega) (by omega)
  have w4:IntKind.i64.wrap (Z - 1)=Z - 1:=jq (by omega) (by omega)
  have ix:=W7 (l:=l) (u:=u) (n:=d.size) (kk:=.i64) (X:=X) (x:=i1) (by omega) (by omega)
  have iy:=W7 (l:=l) (u:=u) (n:=d.size) (kk:=.i64) (X:=Z) (x:=j1) (by omega) (by omega)
  have lx:=ldN qat.1 (x:=i1) (by omega)
  have ly:=ldN qat.1 (x:=j1) (by omega)
  have sa:=stI (d:=D) (x:=i1) (by omega) D[j1]!
  have sb:=stI (d:=D.setIfInBounds (i1) D[j1]!) (x:=j1) (by rw [Array.size_setIfInBounds];omega) D[i1]!
  rw [show (D.setIfInBounds (i1) D[j1]!).setIfInBounds (j1) D[i1]! = swp D (i1) (j1) from rfl] at sb
  have za:i1+1≤D.size:=by omega
  have zb:j1+1≤D.size:=by omega
  simp [q10,q11,q0,c1,ix,iy,lx,ly,sa,sb,za,zb,j6,hro,qr,qat.1,w3,w4]
  refine XJ fun st hst=>?_
  obtain ⟨I,hI⟩:∃ I:Nat→St→Prop,I=fun n s=>∃ i j:Nat,n=j+1 - i∧a+1≤i∧i≤b+1∧a≤j∧j<b∧s.tm 10 = .int .i64 i∧s.tm 11 = .int .i64 j∧∃ D3:Array Int,partLoop ltInt a i j D3=r∧D3.size=d.size∧At l u (arr intC D3) ob tk ub s.ob s.tk s.nx:=⟨_,rfl⟩
  have e0:st.tm 0 = .osl l u 0 d.size 1:=by rw [hst];simp [q0]
  have e1:st.tm 1 = .int .i64 a:=by rw [hst];simp [q1,hA]
  have e10:st.tm 10 = .int .i64 (i1+1:Nat):=by rw [hst];simp [hX]
  have e11:st.tm 11 = .int .i64 (j1 - 1:Nat):=by rw [hst];simp;omega
  have ed:st.df=[]:=by rw [hst];simp [qd]
  have er:st.ro=ro:=by rw [hst];simp [qr]
  have eat:At l u (arr intC (swp D i1 j1)) ob tk ub st.ob st.tk st.nx:=by rw [hst];exact qat.swap (by simp) (fun key hk=>by simp [hk]) (by simp [jW]) (by simp;omega)
  clear hst
  refine JI (n:=j1 - 1+1 - (i1+1)) [(10,11),(99,152)] I rfl rfl (by rw [hI];exact ⟨i1+1,j1 - 1,rfl,by omega,by omega,by omega,by omega,e10,e11,swp D i1 j1,hr,by rw [Jk,zD],eat⟩) ?_
  intro n s hIs f
  rw [hI] at hIs
  obtain ⟨i,j,rfl,hi,hib,hja,hjb,t10,t11,D3,hpl,z3,tat⟩:=hIs
  have t0:s.tm 0 = .osl l u 0 d.size 1:=by rw [f.t 0 (by simp)];exact e0
  have t1:s.tm 1 = .int .i64 a:=by rw [f.t 1 (by simp)];exact e1
  have td:s.df=[]:=by rw [f.d];exact ed
  have tr:s.ro=ro:=by rw [f.r];exact er
  clear f ix iy lx ly sa sb za zb q10 q11 q0 q1 qat qd qr e0 e1 e10 e11 ed er eat
  rw [hA] at ia'
  simp
  refine ji2 (p:=fun x=>ltInt x D3[a]!) (d:=D3) (i0:=i) (j:=j) [(10,10),(99,114)] rfl rfl rfl rfl t10 ?_ ?_ ?_
  ·intro s9 x1 hx9 h19 h29 hca9 hf9
   have m0:s9.tm 0 = .osl l u 0 d.size 1:=by rw [hf9.t 0 (by simp)];exact t0
   have m1:s9.tm 1 = .int .i64 a:=by rw [hf9.t 1 (by simp)];exact t1
   have mf:s9.tm 11 = .int .i64 ((j:Nat):Int):=by rw [hf9.t 11 (by simp)];exact t11
   have hat9:=tat.calm hca9
   generalize hX:(x1:Int)=X at *
   generalize hZ:((j:Nat):Int)=Z at *
   by_cases hle:x1≤j
   ·have c1:X≤Z:=by omega
    have ii:=W7 (l:=l) (u:=u) (n:=d.size) (kk:=.i64) (X:=X) (x:=x1) (by omega) (by omega)
    have li:=ldN hat9.1 (x:=x1) (by omega)
    have la:=ldN hat9.1 (x:=a) (by omega)
    simp [hx9,mf,c1,m0,m1,ii,li,ia',la]
    refine jf (Qy D3[x1]! D3[a]!) (by simp) rfl (by simp) ?_
    simp [hle,hx9,Calm] <;> omega
   ·have c1:¬ X≤Z:=by omega
    simp [hx9,mf,c1,hle,Calm] <;> omega
  ·intro s9 x1 hx9 h19 h29
   have hw:IntKind.i64.wrap ((x1:Int)+1)=(x1:Int)+1:=jq (by omega) (by omega)
   simp [hx9,hw,Calm] <;> omega
  intro s9 h9 hca9 hf9
  obtain ⟨i2,hi2⟩:∃ x,scanUp (fun x=>ltInt x D3[a]!) D3 j i=x:=⟨_,rfl⟩
  have bi2:=YA (fun x=>ltInt x D3[a]!) D3 j i
  rw [hi2] at h9 bi2
  have k0:s9.tm 0 = .osl l u 0 d.size 1:=by rw [hf9.t 0 (by simp)];exact t0
  have k1:s9.tm 1 = .int .i64 a:=by rw [hf9.t 1 (by simp)];exact t1
  have k11:s9.tm 11 = .int .i64 ((j:Nat):Int):=by rw [hf9.t 11 (by simp)];exact t11
  have kd:s9.df=[]:=by rw [hf9.d];exact td
  have kr:s9.ro=ro:=by rw [hf9.r];exact tr
  have kat:=tat.calm hca9
  clear hca9 hf9
  have k10:=h9
  clear h9
  simp
  refine jck (p:=fun x=>!ltInt x D3[a]!) (d:=D3) (i:=i2) (j0:=j) (by omega) [(11,11),(115,131)] rfl rfl rfl rfl k11 ?_ ?_ ?_
  ·intro s9 x1 hx9 h19 hca9 hf9
   have m0:s9.tm 0 = .osl l u 0 d.size 1:=by rw [hf9.t 0 (by simp)];exact k0
   have m1:s9.tm 1 = .int .i64 a:=by rw [hf9.t 1 (by simp)];exact k1
   have mf:s9.tm 10 = .int .i64 ((i2:Nat):Int):=by rw [hf9.t 10 (by simp)];exact k10
   have hat9:=kat.calm hca9
   generalize hX:(x1:Int)=X at *
   generalize hZ:((i2:Nat):Int)=Z at *
   by_cases hle:i2≤x1
   ·have c1:Z≤X:=by omega
    have ii:=W7 (l:=l) (u:=u) (n:=d.size) (kk:=.i64) (X:=X) (x:=x1) (by omega) (by omega)
    have li:=ldN hat9.1 (x:=x1) (by omega)
    have la:=ldN hat9.1 (x:=a) (by omega)
    simp [hx9,mf,c1,m0,m1,ii,li,ia',la]
    refine jf (Qy D3[x1]! D3[a]!) (by simp) rfl (by simp) ?_
    simp [hle,hx9,Calm] <;> omega
   ·have c1:¬ Z≤X:=by omega
    simp [hx9,mf,c1,hle,Calm] <;> omega
  ·intro s9 x1 hx9 h19
   have hw:IntKind.i64.wrap (((x1+1:Nat):Int) - 1)=(x1:Int):=by rw [jq (by omega) (by omega)];omega
   generalize ((x1+1:Nat):Int)=J at *
   simp [hx9,hw,Calm] <;> omega
  intro s9 h9 hca9 hf9
  obtain ⟨j2,hj2⟩:∃ x,scanDown (fun x=>!ltInt x D3[a]!) D3 i2 j=x:=⟨_,rfl⟩
  have bj2:=Jm (fun x=>!ltInt x D3[a]!) D3 i2 j
  rw [hj2] at h9 bj2
  have q0:s9.tm 0 = .osl l u 0 d.size 1:=by rw [hf9.t 0 (by simp)];exact k0
  have q1:s9.tm 1 = .int .i64 a:=by rw [hf9.t 1 (by simp)];exact k1
  have q10:s9.tm 10 = .int .i64 ((i2:Nat):Int):=by rw [hf9.t 10 (by simp)];exact k10
  have qd:s9.df=[]:=by rw [hf9.d];exact kd
  have qr:s9.ro=ro:=by rw [hf9.r];exact kr
  have qat:=kat.calm hca9
  clear hca9 hf9
  have q11:=h9
  clear h9
  have hst:=Qg (by omega) hi2 hj2
  rw [hpl] at hst
  obtain ⟨X2,hX2⟩:∃ x:Int,x=(i2:Nat):=⟨_,rfl⟩
  obtain ⟨Z2,hZ2⟩:∃ x:Int,x=(j2:Nat):=⟨_,rfl⟩
  rw [← hX2] at q10
  rw [← hZ2] at q11
  by_cases hgt2:i2 > j2
  ·rw [if_pos hgt2] at hst
   subst hst
   subst hP
   have c2:Z2<X2:=by omega
   rw [← hA] at q1
   have ix:=W7 (l:=l) (u:=u) (n:=d.size) (kk:=.i64) (X:=Z2) (x:=j2) (by omega) (by omega)
   have iy:=W7 (l:=l) (u:=u) (n:=d.size) (kk:=.i64) (X:=A) (x:=a) (by omega) (by omega)
   have lx:=ldN qat.1 (x:=j2) (by omega)
   have ly:=ldN qat.1 (x:=a) (by omega)
   have sa:=stI (d:=D3) (x:=j2) (by omega) D3[a]!
   have sb:=stI (d:=D3.setIfInBounds (j2) D3[a]!) (x:=a) (by rw [Array.size_setIfInBounds];omega) D3[j2]!
   rw [show (D3.setIfInBounds (j2) D3[a]!).setIfInBounds (a) D3[j2]! = swp D3 (j2) (a) from rfl] at sb
   have za:j2+1≤D3.size:=by omega
   have zb:a+1≤D3.size:=by omega
   simp [q10,q11,q0,q1,c2,ix,iy,lx,ly,sa,sb,za,zb,j6,hro,qr,qat.1]
   exact jdt (by simp [qd]) ⟨by simp [hZ2],qat.swap (by simp) (fun key hk=>by simp [hk]) (by simp [jW]) (by simp;omega)⟩
  ·rw [if_neg hgt2] at hst
   have c2:¬ Z2<X2:=by omega
   have w3:IntKind.i64.wrap (X2+1)=X2+1:=jq (by omega) (by omega)
   have w4:IntKind.i64.wrap (Z2 - 1)=Z2 - 1:=jq (by omega) (by omega)
   have ix:=W7 (l:=l) (u:=u) (n:=d.size) (kk:=.i64) (X:=X2) (x:=i2) (by omega) (by omega)
   have iy:=W7 (l:=l) (u:=u) (n:=d.size) (kk:=.i64) (X:=Z2) (x:=j2) (by omega) (by omega)
   have lx:=ldN qat.1 (x:=i2) (by omega)
   have ly:=ldN qat.1 (x:=j2) (by omega)
   have sa:=stI (d:=D3) (x:=i2) (by omega) D3[j2]!
   have sb:=stI (d:=D3.setIfInBounds (i2) D3[j2]!) (x:=j2) (by rw [Array.size_setIfInBounds];omega) D3[i2]!
   rw [show (D3.setIfInBounds (i2) D3[j2]!).setIfInBounds (j2) D3[i2]! = swp D3 (i2) (j2) from rfl] at sb
   have za:i2+1≤D3.size:=by omega
   have zb:j2+1≤D3.size:=by omega
   simp [q10,q11,q0,c2,ix,iy,lx,ly,sa,sb,za,zb,j6,hro,qr,qat.1,w3,w4]
   exact ⟨j2 - 1+1 - (i2+1),by omega,by rw [hI];exact ⟨i2+1,j2 - 1,rfl,by omega,by omega,by omega,by omega,by simp [hX2],by simp;omega,swp D3 i2 j2,hst.symm,by rw [Jk,z3],qat.swap (by simp) (fun key hk=>by simp [hk]) (by simp [jW]) (by simp;omega)⟩⟩
end Go.Pv.T

/- Partitions of what is not less. -/
namespace Go.Pv.T
open Go Go.Pv Go.Sort
theorem WQ {lt:Int→Int→Bool} {a i j i2 j2:Nat} {d:Array Int} (_:1≤i) (h1:scanUp (fun x=>!lt d[a]! x) d j i=i2) (h2:scanDown (fun x=>lt d[a]! x) d i2 j=j2) :
 partEqLoop lt a i j d=if i2 > j2 then (i2,d) else partEqLoop lt a (i2+1) (j2 - 1) (swp d i2 j2):=by
 have g1:=(YA (fun x=>!lt d[a]! x) d j i).1
 have g2:=(Jm (fun x=>lt d[a]! x) d i2 j).1
 rw [partEqLoop]
 simp only [h1,h2]
 by_cases h:i2 > j2
 ·rw [if_pos h,if_pos h]
 ·rw [if_neg h,if_neg h,dif_pos (by omega)]
theorem sv164 {Yf:YF} {l u a b pv:Nat} {d:Array Int} (hd:d.size≤1000000) (hb:b≤d.size) (hap:a≤pv) (hpb:pv<b) {ob:Nat→Option Obj'} {tk:Nat→Bool} {ro base ub:Nat} (ho:ob l=some ⟨u,.cells (arr intC d)⟩) (hro:ro≤u) :
 ∃ r,EvS E Yf.y 164 [.osl l u 0 d.size 1,.int .i64 a,.int .i64 b,.int .i64 pv] ob tk ro base ub r∧r.1 = .int .i64 (partitionEqual ltInt d a b pv).1∧At l u (arr intC (partitionEqual ltInt d a b pv).2) ob tk ub r.2.1 r.2.2.1 r.2.2.2:=by
 refine J8 (af:=S164) rfl (by decide) ?_
 show wpC E Yf S164.body _ (JY S164.res _)
 have w1:IntKind.i64.wrap ((a:Int)+1)=((a+1:Nat):Int):=by rw [jq (by omega) (by omega)];omega
 have w2:IntKind.i64.wrap ((b:Int) - 1)=((b - 1:Nat):Int):=by rw [jq (by omega) (by omega)];omega
 have ia:∀ n,a<n→JZ 1 (.osl l u 0 n 1) (.int .i64 (a:Int))=some (.ptr l u a):=fun n h=>W7 rfl h
 have ia':=ia d.size (by omega)
 have ip:=W7 (l:=l) (u:=u) (n:=d.size) (kk:=.i64) (X:=(pv:Int)) (x:=pv) rfl (by omega)
 have la:=ldN ho (x:=a) (by omega)
 have lp:=ldN ho (x:=pv) (by omega)
 have st1:=stI (d:=d) (x:=a) (by omega) d[pv]!
 have st2:=stI (d:=d.setIfInBounds a d[pv]!) (x:=pv) (by rw [Array.size_setIfInBounds];omega) d[a]!
 have hsw:(d.setIfInBounds a d[pv]!).setIfInBounds pv d[a]! = swp d a pv:=rfl
 rw [hsw] at st2
 have hz1:a+1≤d.size:=by omega
 have hz2:pv+1≤d.size:=by omega
 obtain ⟨P,hP⟩:∃ P,partitionEqual ltInt d a b pv=P:=⟨_,rfl⟩
 rw [hP]
 unfold partitionEqual at hP
 obtain ⟨D,hD⟩:∃ D,swp d a pv=D:=⟨_,rfl⟩
 have zD:D.size=d.size:=by rw [← hD];exact Jk _ _ _
 rw [hD] at st2 hP
 generalize hA1:((a+1:Nat):Int)=A1 at w1
 generalize hB1:((b - 1:Nat):Int)=B1 at w2
 simp [S164,ia',ip,la,lp,j6,ho,hro,st1,st2,hz1,hz2,w1,w2]
 refine XJ fun st hst=>?_
 obtain ⟨I,hI⟩:∃ I:Nat→St→Prop,I=fun n s=>∃ i j:Nat,n=j+1 - i∧a+1≤i∧i≤b+1∧a≤j∧j<b∧s.tm 9 = .int .i64 i∧s.tm 10 = .int .i64 j∧∃ D3:Array Int,partEqLoop ltInt a i j D3=P∧D3.size=d.size∧At l u (arr intC D3) ob tk ub s.ob s.tk s.nx:=⟨_,rfl⟩
 have e0:st.tm 0 = .osl l u 0 d.size 1:=by rw [hst];simp
 have e1:st.tm 1 = .int .i64 a:=by rw [hst];simp
 have e9:st.tm 9 = .int .i64 (a+1:Nat):=by rw [hst,hA1];simp
 have e10:st.tm 10 = .int .i64 (b - 1:Nat):=by rw [hst,hB1];simp
 have ed:st.df=[]:=by rw [hst];simp
 have er:st.ro=ro:=by rw [hst];simp
 have eat:At l u (arr intC D) ob tk ub st.ob st.tk st.nx:=by rw [hst];exact (At.refl ho).swap (by simp) (fun key hk=>by simp [hk]) (by simp [jW]) (by simp;omega)
 clear hst st1 st2 hsw hA1 hB1 w1 w2 la lp ip
 obtain ⟨A,hA⟩:∃ x:Int,x=(a:Nat):=⟨_,rfl⟩
 refine JI (n:=b - 1+1 - (a+1)) [(9,10),(29,82)] I rfl rfl (by rw [hI];exact ⟨a+1,b - 1,rfl,by omega,by omega,by omega,by omega,e9,e10,D,hP,zD,eat⟩) ?_
 intro n s hIs f
 rw [hI] at hIs
 obtain ⟨i,j,rfl,hi,hib,hja,hjb,t9,t10,D3,hpl,z3,tat⟩:=hIs
 have t0:s.tm 0 = .osl l u 0 d.size 1:=by rw [f.t 0 (by simp)];exact e0
 have t1:s.tm 1 = .int .i64 a:=by rw [f.t 1 (by simp)];exact e1
 have td:s.df=[]:=by rw [f.d];exact ed
 have tr:s.ro=ro:=by rw [f.r];exact er
 clear f e0 e1 e9 e10 ed er eat
 simp
 refine ji2 (p:=fun x=>!ltInt D3[a]! x) (d:=D3) (i0:=i) (j:=j) [(9,9),(29,45)] rfl rfl rfl rfl t9 ?_ ?_ ?_
 ·intro s9 x1 hx9 h19 h29 hca9 hf9
  have m0:s9.tm 0 = .osl l u 0 d.size 1:=by rw [hf9.t 0 (by simp)];exact t0
  have m1:s9.tm 1 = .int .i64 a:=by rw [hf9.t 1 (by simp)];exact t1
  have mf:s9.tm 10 = .int .i64 ((j:Nat):Int):=by rw [hf9.t 10 (by simp)];exact t10
  have hat9:=tat.calm hca9
  generalize hX:(x1:Int)=X at *
  generalize hZ:((j:Nat):Int)=Z at *
  by_cases hle:x1≤j
  ·have c1:X≤Z:=by omega
   have ii:=W7 (l:=l) (u:=u) (n:=d.size) (kk:=.i64) (X:=X) (x:=x1) (by omega) (by omega)
   have li:=ldN hat9.1 (x:=x1) (by omega)
   have la:=ldN hat9.1 (x:=a) (by omega)
   simp [hx9,mf,c1,m0,m1,ii,li,ia',la]
   refine jf (Qy D3[a]! D3[x1]!) (by simp) rfl (by simp) ?_
   simp [hle,hx9,Calm] <;> omega
  ·have c1:¬ X≤Z:=by omega
   simp [hx9,mf,c1,hle,Calm] <;> omega
 ·intro s9 x1 hx9 h19 h29
  have hw:IntKind.i64.wrap ((x1:Int)+1)=(x1:Int)+1:=jq (by omega) (by omega)
  simp [hx9,hw,Calm] <;> omega
 intro s9 h9 hca9 hf9
 obtain ⟨i2,hi2⟩:∃ x,scanUp (fun x=>!ltInt D3[a]! x) D3 j i=x:=⟨_,rfl⟩
 have bi2:=YA (fun x=>!ltInt D3[a]! x) D3 j i
 rw [hi2] at h9 bi2
 have k0:s9.tm 0 = .osl l u 0 d.size 1:=by rw [hf9.t 0 (by simp)];exact t0
 have k1:s9.tm 1 = .int .i64 a:=by rw [hf9.t 1 (by simp)];exact t1
 have k10:s9.tm 10 = .int .i64 ((j:Nat):Int):=by rw [hf9.t 10 (by simp)];exact t10
 have kd:s9.df=[]:=by rw [hf9.d];exact td
 have kr:s9.ro=ro:=by rw [hf9.r];exact tr
 have kat:=tat.calm hca9
 clear hca9 hf9
 have k9:=h9
 clear h9
 simp
 refine jck (p:=fun x=>ltInt D3[a]! x) (d:=D3) (i:=i2) (j0:=j) (by omega) [(10,10),(46,61)] rfl rfl rfl rfl k10 ?_ ?_ ?_
 ·intro s9 x1 hx9 h19 hca9 hf9
  have m0:s9.tm 0 = .osl l u 0 d.size 1:=by rw [hf9.t 0 (by simp)];exact k0
  have m1:s9.tm 1 = .int .i64 a:=by rw [hf9.t 1 (by simp)];exact k1
  have mf:s9.tm 9 = .int .i64 ((i2:Nat):Int):=by rw [hf9.t 9 (by simp)];exact k9
  have hat9:=kat.calm hca9
  generalize hX:(x1:Int)=X at *
  generalize hZ:((i2:Nat):Int)=Z at *
  by_cases hle:i2≤x1
  ·have c1:Z≤X:=by omega
   have ii:=W7 (l:=l) (u:=u) (n:=d.size) (kk:=.i64) (X:=X) (x:=x1) (by omega) (by omega)
   have li:=ldN hat9.1 (x:=x1) (by omega)
   have la:=ldN hat9.1 (x:=a) (by omega)
   simp [hx9,mf,c1,m0,m1,ii,li,ia',la]
   refine jf (Qy D3[a]! D3[x1]!) (by simp) rfl (by simp) ?_
   simp [hle,hx9,Calm] <;> omega
  ·have c1:¬ Z≤X:=by omega
   simp [hx9,mf,c1,hle,Calm] <;> omega
 ·intro s9 x1 hx9 h19
  have hw:IntKind.i64.wrap (((x1+1:Nat):Int) - 1)=(x1:Int):=by rw [jq (by omega) (by omega)];omega
  generalize ((x1+1:Nat):Int)=J at *
  simp [hx9,hw,Calm] <;> omega
 intro s9 h9 hca9 hf9
 obtain ⟨j2,hj2⟩:∃ x,scanDown (fun x=>ltInt D3[a]! x) D3 i2 j=x:=⟨_,rfl⟩
 have bj2:=Jm (fun x=>ltInt D3[a]! x) D3 i2 j
 rw [hj2] at h9 bj2
 have q0:s9.tm 0 = .osl l u 0 d.size 1:=by rw [hf9.t 0 (by simp)];exact k0
 have q1:s9.tm 1 = .int .i64 a:=by rw [hf9.t 1 (by simp)];exact k1
 have q9:s9.tm 9 = .int .i64 ((i2:Nat):Int):=by rw [hf9.t 9 (by simp)];exact k9
 have qd:s9.df=[]:=by rw [hf9.d];exact kd
 have qr:s9.ro=ro:=by rw [hf9.r];exact kr
 have qat:=kat.calm hca9
 clear hca9 hf9
 have q10:=h9
 clear h9
 have hst:=WQ (by omega) hi2 hj2
 rw [hpl] at hst
 obtain ⟨X2,hX2⟩:∃ x:Int,x=(i2:Nat):=⟨_,rfl⟩
 obtain ⟨Z2,hZ2⟩:∃ x:Int,x=(j2:Nat):=⟨_,rfl⟩
 rw [← hX2] at q9
 rw [← hZ2] at q10
 by_cases hgt2:i2 > j2
 ·rw [if_pos hgt2] at hst
  subst hst
  have c2:Z2<X2:=by omega
  simp [q9,q10,c2]
  exact YL (by simp [qd]) ⟨by simp [hX2],qat.same rfl rfl (by simp;omega)⟩
 ·rw [if_neg hgt2] at hst
  have c2:¬ Z2<X2:=by omega
  have w3:IntKind.i64.wrap (X2+1)=X2+1:=jq (by omega) (by omega)
  have w4:IntKind.i64.wrap (Z2 - 1)=Z2 - 1:=jq (by omega) (by omega)
  have ix:=W7 (l:=l) (u:=u) (n:=d.size) (kk:=.i64) (X:=X2) (x:=i2) (by omega) (by omega)
  have iy:=W7 (l:=l) (u:=u) (n:=d.size) (kk:=.i64) (X:=Z2) (x:=j2) (by omega) (by omega)
  have lx:=ldN qat.1 (x:=i2) (by omega)
  have ly:=ldN qat.1 (x:=j2) (by omega)
  have sa:=stI (d:=D3) (x:=i2) (by omega) D3[j2]!
  have sb:=stI (d:=D3.setIfInBounds (i2) D3[j2]!) (x:=j2) (by rw [Array.size_setIfInBounds];omega) D3[i2]!
  rw [show (D3.setIfInBounds (i2) D3[j2]!).setIfInBounds (j2) D3[i2]! = swp D3 (i2) (j2) from rfl] at sb
  have za:i2+1≤D3.size:=by omega
  have zb:j2+1≤D3.size:=by omega
  simp [q9,q10,q0,c2,ix,iy,lx,ly,sa,sb,za,zb,j6,hro,qr,qat.1,w3,w4]
  exact ⟨j2 - 1+1 - (i2+1),by omega,by rw [hI];exact ⟨i2+1,j2 - 1,rfl,by omega,by omega,by omega,by omega,by simp [hX2],by simp;omega,swp D3 i2 j2,hst.symm,by rw [Jk,z3],qat.swap (by simp) (fun key hk=>by simp [hk]) (by simp [jW]) (by simp;omega)⟩⟩
end Go.Pv.T

/- Breaking patterns; insertion sort of few. -/
namespace Go.Pv.T
open Go Go.Pv Go.Sort
theorem e201:((List.range 50).all fun n=>match (jZ E 20 noY).d 201 [.int .i64 (n:Nat)] with
 | some (.int .u64 m)=>decide (n<8) || (decide (1≤m) && decide (m≤2 * (n:Nat)))
 | _=>false)=true:=by kernel_rfl
theorem ev201 {n:Nat} (h8:8≤n) (hn:n<50):∃ m:Nat,Ev E 201 [.int .i64 (n:Nat)] (.int .u64 m)∧1≤m∧m≤2 * n:=by
 have h:=List.all_eq_true.1 e201 n (List.mem_range.2 hn)
 split at h
 ·rename_i m hm
  simp only [Bool.or_eq_true,Bool.and_eq_true,decide_eq_true_eq] at h
  rcases h with h | ⟨h1,h2⟩
  ·omega
  ·refine ⟨m.toNat,⟨20,?_⟩,by omega,by omega⟩
   rw [show ((m.toNat:Nat):Int)=m from by omega]
   exact hm
 ·cases h
theorem e118:((List.range 50).all fun n=>match (jZ E 20 noY).d 118 [.int .u64 (n:Nat)] with
 | some (.int .i64 m)=>decide (0≤m) && decide (m≤64)
 | _=>false)=true:=by kernel_rfl
theorem j5f {n:Nat} (hn:n<50):∃ m:Nat,Ev E 118 [.int .u64 (n:Nat)] (.int .i64 m)∧m≤64:=by
 have h:=List.all_eq_true.1 e118 n (List.mem_range.2 hn)
 split at h
 ·rename_i m hm
  simp only [Bool.and_eq_true,decide_eq_true_eq] at h
  refine ⟨m.toNat,⟨20,?_⟩,by omega⟩
  rw [show ((m.toNat:Nat):Int)=m from by omega]
  exact hm
 ·cases h
@[simp] theorem j5n (k k':IntKind) (n:Int):XT k (.int k' n)=some (.int k (k.wrap n)):=rfl
theorem shlU (x k:Int) (hk:0≤k):∃ y,Xp .shl (.int .u64 x) (.int .u64 k)=some (.int .u64 y):=by
 simp only [Xp,Yz]
 rw [if_neg (by omega)]
 exact ⟨_,rfl⟩
theorem shrU (x k:Int) (hk:0≤k):∃ y,Xp .shr (.int .u64 x) (.int .u64 k)=some (.int .u64 y):=by
 simp only [Xp,Yz]
 rw [if_neg (by omega)]
 exact ⟨_,rfl⟩
theorem xorU (x y:Int):∃ z,Xp .xor (.int .u64 x) (.int .u64 y)=some (.int .u64 z):=⟨_,rfl⟩
theorem andU (x:Int) (y:Nat) (hy:y<1000):∃ z:Nat,Xp .and (.int .u64 x) (.int .u64 y)=some (.int .u64 z)∧z≤y:=by
 refine ⟨(BitVec.ofInt 64 x &&& BitVec.ofInt 64 (y:Int)).toNat,?_,?_⟩
 ·simp only [Xp,if_true,XH]
  congr 2
  have h:=(BitVec.ofInt 64 x &&& BitVec.ofInt 64 (y:Int)).isLt
  show IntKind.u64.wrap ((BitVec.ofInt 64 x &&& BitVec.ofInt 64 (y:Int)).toNat:Int)=_
  rw [IntKind.wrap_u64]
  omega
 ·rw [BitVec.toNat_and]
  refine Nat.le_trans Nat.and_le_right ?_
  rw [BitVec.toNat_ofInt]
  omega
theorem sv202 {Yf:YF} {w uw:Nat} {x:Int} {ob:Nat→Option Obj'} {tk:Nat→Bool} {ro base ub:Nat} (hw:ob w=some ⟨uw,.cells [.int .u64 x]⟩) (hro:ro≤uw) :
 ∃ r,EvS E Yf.y 202 [.ptr w uw 0] ob tk ro base ub r∧(∃ z,r.1 = .int .u64 z∧r.2.1 w=some ⟨uw,.cells [.int .u64 z]⟩)∧(∀ key,key≠w→r.2.1 key=ob key)∧r.2.2.1=tk∧ub≤r.2.2.2:=by
 refine J8 (af:=S202) rfl (by decide) ?_
 show wpC E Yf S202.body _ (JY S202.res _)
 obtain ⟨y1,h1⟩:=shlU x 13 (by omega)
 obtain ⟨y2,h2⟩:=xorU x y1
 obtain ⟨y3,h3⟩:=shrU y2 7 (by omega)
 obtain ⟨y4,h4⟩:=xorU y2 y3
 obtain ⟨y5,h5⟩:=shlU y4 17 (by omega)
 obtain ⟨y6,h6⟩:=xorU y4 y5
 simp [S202,j6,hw,h1,h2,hro,jD,h3,h4,h5,h6]
 exact YL (by simp) ⟨⟨y6,by simp,by simp⟩,fun key hk=>by simp [hk],by simp [jW],by simp;omega⟩
theorem sv159 {Yf:YF} {l u a b:Nat} {d:Array Int} (hd:d.size≤49) (hb:b≤d.size) (hab:a+8≤b) {ob:Nat→Option Obj'} {tk:Nat→Bool} {ro base ub:Nat} (ho:ob l=some ⟨u,.cells (arr intC d)⟩) (hro:ro≤u) (hl:∀ m,ub≤m→l≠2 * m+1) (hru:ro≤ub) :
 ∃ r,EvS E Yf.y 159 [.osl l u 0 d.size 1,.int .i64 a,.int .i64 b] ob tk ro base ub r∧∃ d',PermIn a b d d'∧At l u (arr intC d') ob tk ub r.2.1 r.2.2.1 r.2.2.2:=by
 refine J8 (af:=S159) rfl (by decide) ?_
 show wpC E Yf S159.body _ (JY S159.res _)
 obtain ⟨A,hA⟩:∃ x:Int,x=(a:Nat):=⟨_,rfl⟩
 obtain ⟨B,hB⟩:∃ x:Int,x=(b:Nat):=⟨_,rfl⟩
 obtain ⟨L,hL⟩:∃ x:Int,x=((b - a:Nat):Int):=⟨_,rfl⟩
 obtain ⟨q,hq⟩:∃ q,q=(b - a) / 4:=⟨_,rfl⟩
 obtain ⟨Q,hQ⟩:∃ x:Int,x=(q:Nat):=⟨_,rfl⟩
 obtain ⟨Q2,hQ2⟩:∃ x:Int,x=Q * 2:=⟨_,rfl⟩
 obtain ⟨P2,hP2⟩:∃ x:Int,x=A+Q2:=⟨_,rfl⟩
 obtain ⟨P3,hP3⟩:∃ x:Int,x=P2+1:=⟨_,rfl⟩
 have w1:IntKind.i64.wrap (B - A)=L:=by rw [jq (by omega) (by omega)];omega
 have w2:IntKind.i64.wrap (L.tdiv 4)=Q:=by
  have e2:L.tdiv 4=(((b - a) / 4:Nat):Int):=by rw [hL];exact (Int.ofNat_tdiv _ 4).symm
  rw [e2,jq (by omega) (by omega)];omega
 have w4:IntKind.i64.wrap (Q * 2)=Q2:=by rw [jq (by omega) (by omega)];exact hQ2.symm
 have w5:IntKind.i64.wrap (A+Q2)=P2:=by rw [jq (by omega) (by omega)];exact hP2.symm
 have w6:IntKind.i64.wrap (P2 - 1)=((a+q * 2 - 1:Nat):Int):=by rw [jq (by omega) (by omega)];omega
 have w7:IntKind.i64.wrap (P2+1)=P3:=by rw [jq (by omega) (by omega)];exact hP3.symm
 have w8:IntKind.u64.wrap L=L:=by rw [IntKind.wrap_u64];omega
 have c8:8≤L:=by omega
 have hq2:q * 2+2≤b - a∧1≤q:=by omega
 obtain ⟨m,em,m1,m2⟩:=ev201 (n:=b - a) (by omega) (by omega)
 rw [← hL] at em
 rw [← hA,← hB]
 generalize hS:((a+q * 2 - 1:Nat):Int)=S0 at w6
 simp [S159,w1,c8,w8,jD,j6]
 obtain ⟨N,hN⟩:∃ N,ub+64+64+64+64+64+64+64+64=N:=⟨_,rfl⟩
 have hl':=hl N (by omega)
 refine ⟨by omega,?_⟩
 refine jf em (by simp) rfl (by simp) ?_
 simp [w2,w4,w5,w6]
 refine XJ fun st hst=>?_
 have g0:st.tm 0 = .osl l u 0 d.size 1:=by rw [hst];simp
 have g1:st.tm 1 = .int .i64 A:=by rw [hst];simp
 have g6:st.tm 6 = .int .i64 L:=by rw [hst];simp
 have g7:st.tm 7 = .ptr (2 * N+1) N 0:=by rw [hst,← hN];simp
 have g8:st.tm 8 = .int .u64 m:=by rw [hst];simp
 have g9:st.tm 9 = .int .i64 ((a+q * 2 - 1+0:Nat):Int):=by rw [Nat.add_zero,hS,hst];simp
 have gd:st.df=[]:=by rw [hst];simp
 have gr:st.ro=ro:=by rw [hst];simp
 have gn:N≤st.nx:=by rw [hst,← hN];simp
 have gw:st.ob (2 * N+1)=some ⟨N,.cells [.int .u64 L]⟩:=by rw [hst,← hN];simp
 have gf:∀ key,key≠2 * N+1→st.ob key=ob key:=by
  intro key hk
  rw [← hN] at hk
  rw [hst];simp [hk]
 have gt:st.tk=tk:=by rw [hst];simp [jW]
 have hNu:ub≤N:=by rw [← hN];omega
 have hroN:ro≤N:=by omega
 clear hst em hN hS w6
 have gat:At l u (arr intC d) ob tk ub st.ob st.tk st.nx:=⟨(gf l hl').trans ho,fun key h1 h2=>gf key (h2 N hNu),gt,by omega⟩
 obtain ⟨I,hI⟩:∃ I:Nat→St→Prop,I=fun n s=>∃ k:Nat,n=3 - k∧k≤3∧s.tm 9 = .int .i64 ((a+q * 2 - 1+k:Nat):Int)∧(∃ z,s.ob (2 * N+1)=some ⟨N,.cells [.int .u64 z]⟩)∧∃ d1,PermIn a b d d1∧At l u (arr intC d1) ob tk ub s.ob s.tk s.nx:=⟨_,rfl⟩
 refine JI (n:=3 - 0) [(9,10),(26,64)] I rfl rfl (by rw [hI];exact ⟨0,rfl,by omega,g9,⟨L,gw⟩,d,permIn_refl d a b,gat⟩) ?_
 intro n s hIs f
 rw [hI] at hIs
 obtain ⟨k,rfl,hk3,h9,⟨z,hz⟩,d1,hperm,hat⟩:=hIs
 have f0:s.tm 0 = .osl l u 0 d1.size 1:=by rw [f.t 0 (by simp),g0,hperm.1]
 have f1:s.tm 1 = .int .i64 A:=by rw [f.t 1 (by simp)];exact g1
 have f6:s.tm 6 = .int .i64 L:=by rw [f.t 6 (by simp)];exact g6
 have f7:s.tm 7 = .ptr (2 * N+1) N 0:=by rw [f.t 7 (by simp)];exact g7
 have f8:s.tm 8 = .int .u64 m:=by rw [f.t 8 (by simp)];exact g8
 have fd:s.df=[]:=by rw [f.d];exact gd
 have fr:s.ro=ro:=by rw [f.r];exact gr
 clear f g0 g1 g6 g7 g8 g9 gd gr gn gw gf gt gat
 have z1:=hperm.1
 obtain ⟨X,hX⟩:∃ x:Int,x=((a+q * 2 - 1+k:Nat):Int):=⟨_,rfl⟩
 rw [← hX] at h9
 by_cases hk:k=3
 ·have c1:¬ X≤P3:=by omega
  simp [h9,f1,f6,w2,w4,w5,w7,c1]
  exact jy (Or.inl rfl) (by simp [fd]) ⟨d1,hperm,hat.same rfl rfl (by simp;omega)⟩
 have c1:X≤P3:=by omega
 have w9:IntKind.u64.wrap ((m:Int) - 1)=((m - 1:Nat):Int):=by rw [IntKind.wrap_u64];omega
 simp [h9,f1,f6,w2,w4,w5,w7,c1]
 refine jQ (vs:=[.ptr (2 * N+1) N 0]) (by simp [f7]) rfl (sv202 (w:=2 * N+1) (uw:=N) (by simpa using hz) (by simp [fr,hroN])) ?_
 rintro v ob1 tk1 ub1 ⟨⟨z',hv,hz'⟩,q2,q3,q4⟩
 simp only at hv hz' q2 q3 q4
 subst hv
 obtain ⟨y,hy1,hy2⟩:=andU z' (m - 1) (by omega)
 have w10:IntKind.i64.wrap (y:Int)=y:=jq (by omega) (by omega)
 have w11:IntKind.i64.wrap (X+1)=((a+q * 2 - 1+(k+1):Nat):Int):=by rw [jq (by omega) (by omega)];omega
 generalize hX1:((a+q * 2 - 1+(k+1):Nat):Int)=X1 at w11
 simp [f8,w9,hy1,w10,f6]
 generalize hQ:jea E Yf (C.draw _ _) _=Qd
 have fin:∀ (s1:St) (o:Nat),o<b - a→s1.tm 10 = .int .i64 o→s1.tm 9 = .int .i64 X→s1.tm 0 = .osl l u 0 d1.size 1→s1.tm 1 = .int .i64 A→s1.df=[]→s1.ro=ro→(∃ z,s1.ob (2 * N+1)=some ⟨N,.cells [.int .u64 z]⟩)→At l u (arr intC d1) ob tk ub s1.ob s1.tk s1.nx→Qd .nrm s1:=by
  intro s1 o ho1 k10 k9 k0 k1 kd kr kw kat
  rw [← hQ]
  obtain ⟨O,hO⟩:∃ x:Int,x=(o:Nat):=⟨_,rfl⟩
  obtain ⟨AO,hAO⟩:∃ x:Int,x=A+O:=⟨_,rfl⟩
  rw [← hO] at k10
  have w12:IntKind.i64.wrap (A+O)=AO:=by rw [jq (by omega) (by omega)];exact hAO.symm
  have ix:=W7 (l:=l) (u:=u) (n:=d1.size) (kk:=.i64) (X:=X) (x:=a+q * 2 - 1+k) (by omega) (by omega)
  have iy:=W7 (l:=l) (u:=u) (n:=d1.size) (kk:=.i64) (X:=AO) (x:=a+o) (by omega) (by omega)
  have lx:=ldN kat.1 (x:=a+q * 2 - 1+k) (by omega)
  have ly:=ldN kat.1 (x:=a+o) (by omega)
  have sa:=stI (d:=d1) (x:=a+q * 2 - 1+k) (by omega) d1[a+o]!
  have sb:=stI (d:=d1.setIfInBounds (a+q * 2 - 1+k) d1[a+o]!) (x:=a+o) (by rw [Array.size_setIfInBounds];omega) d1[a+q * 2 - 1+k]!
  rw [show (d1.setIfInBounds (a+q * 2 - 1+k) d1[a+o]!).setIfInBounds (a+o) d1[a+q * 2 - 1+k]! = swp d1 (a+q * 2 - 1+k) (a+o) from rfl] at sb
  have za:a+q * 2 - 1+k+1≤d1.size:=by omega
  have zb:a+o+1≤d1.size:=by omega
  have hsp:=swp_permIn d1 a b (a+q * 2 - 1+k) (a+o) (by omega) (by omega) (by omega) (by omega) (by omega)
  obtain ⟨zz,hzz⟩:=kw
  have hl'':¬ 2 * N+1=l:=fun e=>hl' e.symm
  generalize a+q * 2 - 1+k=xx at *
  simp [k10,k9,k0,k1,w12,ix,iy,lx,ly,sa,sb,za,zb,j6,hro,kr,kat.1,w11]
  exact ⟨3 - (k+1),by omega,by rw [hI];exact ⟨k+1,rfl,by omega,by simp [hX1],⟨zz,by simp [hl'',hzz]⟩,swp d1 xx (a+o),permIn_trans _ _ _ a b hperm hsp,kat.swap (by simp) (fun key hk=>by simp [hk]) (by simp [jW]) (by simp;omega)⟩⟩
 clear hQ
 have hat1:∀ ub2,ub1≤ub2→At l u (arr intC d1) ob tk ub ob1 tk1 ub2:=fun ub2 hu=>⟨(q2 l hl').trans (by simpa using hat.1),fun key h1 h2=>(q2 key (h2 N hNu)).trans (by simpa using hat.2.1 key h1 h2),q3.trans (by simpa using hat.2.2.1),by have:=hat.2.2.2;omega⟩
 by_cases hyb:L≤(y:Int)
 ·have w13:IntKind.i64.wrap ((y:Int) - L)=((y - (b - a):Nat):Int):=by rw [jq (by omega) (by omega)];omega
  simp [hyb,f6,w13]
  exact fin _ (y - (b - a)) (by omega) (by simp) (by simp [h9]) (by simp [f0]) (by simp [f1]) (by simp [fd]) (by simp [fr]) ⟨z',by simpa using hz'⟩ (hat1 _ (by simp;omega))
 ·simp [hyb]
  exact fin _ y (by omega) (by simp) (by simp [h9]) (by simp [f0]) (by simp [f1]) (by simp [fd]) (by simp [fr]) ⟨z',by simpa using hz'⟩ (hat1 _ (by simp;omega))
end Go.Pv.T

/- Partial insertion sort of few. -/
namespace Go.Pv.T
open Go Go.Pv Go.Sort
theorem Q5 {d:Array Int} {a b:Nat} (h:b - a<50):partialInsertionSort ltInt d a b=(d,decide (scanSorted ltInt d b (a+1)=b)):=by
 unfold partialInsertionSort
 rw [partialIns]
 simp only
 by_cases hb:scanSorted ltInt d b (a+1)=b
 ·rw [if_pos hb,decide_eq_true hb]
 ·rw [if_neg hb,if_pos h,decide_eq_false hb]
theorem sv162 {Yf:YF} {l u a b:Nat} {d:Array Int} (hd:d.size≤49) (hb:b≤d.size) (hab:a<b) {ob:Nat→Option Obj'} {tk:Nat→Bool} {ro base ub:Nat} (ho:ob l=some ⟨u,.cells (arr intC d)⟩) :
 ∃ r,EvS E Yf.y 162 [.osl l u 0 d.size 1,.int .i64 a,.int .i64 b] ob tk ro base ub r∧r.1 = .bool (decide (scanSorted ltInt d b (a+1)=b))∧At l u (arr intC d) ob tk ub r.2.1 r.2.2.1 r.2.2.2:=by
 refine J8 (af:=S162) rfl (by decide) ?_
 show wpC E Yf S162.body _ (JY S162.res _)
 have w1:IntKind.i64.wrap ((a:Int)+1)=((a+1:Nat):Int):=by rw [jq (by omega) (by omega)];omega
 have w2:IntKind.i64.wrap ((b:Int) - a)=(b:Int) - a:=jq (by omega) (by omega)
 have c2:(b:Int) - a<50:=by omega
 generalize hA1:((a+1:Nat):Int)=A1 at w1
 simp [S162,w1]
 refine Y5 1 ?_
 simp
 refine XJ fun st hst=>?_
 have g0:st.tm 0 = .osl l u 0 d.size 1:=by rw [hst];simp
 have g1:st.tm 1 = .int .i64 a:=by rw [hst];simp
 have g2:st.tm 2 = .int .i64 b:=by rw [hst];simp
 have g7:st.tm 7 = .int .i64 (a+1:Nat):=by rw [hst,hA1];simp
 have gd:st.df=[]:=by rw [hst];simp
 have gat:At l u (arr intC d) ob tk ub st.ob st.tk st.nx:=by rw [hst];exact (At.refl ho).same rfl rfl (by simp;omega)
 clear hst hA1 w1
 obtain ⟨I,hI⟩:∃ I:Nat→St→Prop,I=fun n s=>∃ i:Nat,n=b - i∧a+1≤i∧i≤b∧s.tm 7 = .int .i64 i∧scanSorted ltInt d b i=scanSorted ltInt d b (a+1)∧At l u (arr intC d) ob tk ub s.ob s.tk s.nx:=⟨_,rfl⟩
 refine JI (n:=b - (a+1)) [(7,7),(17,34)] I rfl rfl (by rw [hI];exact ⟨a+1,rfl,Nat.le_refl _,by omega,g7,rfl,gat⟩) ?_
 intro n s hIs f
 rw [hI] at hIs
 obtain ⟨i,rfl,hi,hib,h7,hsc,hat⟩:=hIs
 have f0:s.tm 0 = .osl l u 0 d.size 1:=by rw [f.t 0 (by simp)];exact g0
 have f1:s.tm 1 = .int .i64 a:=by rw [f.t 1 (by simp)];exact g1
 have f2:s.tm 2 = .int .i64 b:=by rw [f.t 2 (by simp)];exact g2
 have fd:s.df=[]:=by rw [f.d];exact gd
 clear f
 obtain ⟨X,hX⟩:∃ x:Int,x=(i:Nat):=⟨_,rfl⟩
 obtain ⟨B,hB⟩:∃ x:Int,x=(b:Nat):=⟨_,rfl⟩
 rw [← hX] at h7
 rw [← hB] at f2 w2 c2
 by_cases hlt:i<b
 ·have c1:X<B:=by omega
  have w3:IntKind.i64.wrap (X - 1)=X - 1:=jq (by omega) (by omega)
  have w4:IntKind.i64.wrap (X+1)=((i+1:Nat):Int):=by rw [jq (by omega) (by omega)];omega
  have ix:=W7 (l:=l) (u:=u) (n:=d.size) (kk:=.i64) (X:=X) (x:=i) (by omega) (by omega)
  have iy:=W7 (l:=l) (u:=u) (n:=d.size) (kk:=.i64) (X:=X - 1) (x:=i - 1) (by omega) (by omega)
  have lx:=ldN hat.1 (x:=i) (by omega)
  have ly:=ldN hat.1 (x:=i - 1) (by omega)
  generalize hX1:((i+1:Nat):Int)=X1 at w4
  simp [h7,f2,c1,f0,ix,iy,lx,ly,w3]
  refine jf (Qy d[i]! d[i - 1]!) (by simp) rfl (by simp) ?_
  simp
  cases hl:ltInt d[i]! d[i - 1]!
  ·simp [h7,w4]
   refine ⟨b - (i+1),by omega,?_⟩
   rw [hI]
   refine ⟨i+1,rfl,by omega,by omega,by simp [hX1],?_,hat.same rfl rfl (by simp;omega)⟩
   rw [← hsc]
   conv=>rhs;rw [scanSorted]
   simp [hlt,hl]
  ·have e3:scanSorted ltInt d b i=i:=by rw [scanSorted];simp [hl]
   rw [e3] at hsc
   have hne:¬ scanSorted ltInt d b (a+1)=b:=by omega
   have c3:¬ (X=B):=by omega
   have c3':(X == B)=false:=by simpa using c3
   simp [h7,f2,c3',w2,c2,f1]
   exact YL (by simp [fd]) ⟨by simp [hne],hat.same rfl rfl (by simp;omega)⟩
 ·have c1:¬ X<B:=by omega
  have e3:scanSorted ltInt d b i=i:=by rw [scanSorted];simp [hlt]
  rw [e3] at hsc
  have hne:scanSorted ltInt d b (a+1)=b:=by omega
  have c3:X=B:=by omega
  rw [c3] at h7 c1
  simp [h7,f2,c1]
  exact YL (by simp [fd]) ⟨by simp [hne],hat.same rfl rfl (by simp;omega)⟩
end Go.Pv.T

/- Sorting of few: the recursion. -/
namespace Go.Pv.T
open Go Go.Pv Go.Sort
structure PQ (l u ro a b:Nat) (d:Array Int) (ob:Nat→Option Obj') (tk:Nat→Bool) (ub a1 b1:Nat) (d1:Array Int) (s:St):Prop where
 t0:s.tm 0 = .osl l u 0 d.size 1
 t1:s.tm 1 = .int .i64 a1
 t2:s.tm 2 = .int .i64 b1
 t10:s.tm 10 = .int .i64 ((b1:Int) - a1)
 df:s.df=[]
 ro:s.ro=ro
 mem:At l u (arr intC d1) ob tk ub s.ob s.tk s.nx
 sz:d1.size=d.size
 bl:Below ltInt a1 b1 d1
 go:∀ R,PermIn a1 b1 d1 R→SortedIn ltInt a1 b1 R→PermIn a b d R∧SortedIn ltInt a b R
def Sorted (l u a b:Nat) (d:Array Int) (ob:Nat→Option Obj') (tk:Nat→Bool) (ub:Nat) (r:V × (Nat→Option Obj') × (Nat→Bool) × Nat):Prop:=∃ d',PermIn a b d d'∧SortedIn ltInt a b d'∧At l u (arr intC d') ob tk ub r.2.1 r.2.2.1 r.2.2.2
theorem PQ.turn {l u ro a b:Nat} {d:Array Int} {ob:Nat→Option Obj'} {tk:Nat→Bool} {ub a1 b1:Nat} {d2 d3:Array Int} {s s':St} (hp:PQ l u ro a b d ob tk ub a1 b1 d2 s) (hb1:b1≤d.size) (h0:s'.tm 0=s.tm 0) (h1:s'.tm 1=s.tm 1) (h2:s'.tm 2=s.tm 2) (h10:s'.tm 10=s.tm 10) (hd:s'.df=s.df) (hr:s'.ro=s.ro)
 (hm:At l u (arr intC d3) ob tk ub s'.ob s'.tk s'.nx) (hpm:PermIn a1 b1 d2 d3):PQ l u ro a b d ob tk ub a1 b1 d3 s' :=
 ⟨h0.trans hp.t0,h1.trans hp.t1,h2.trans hp.t2,h10.trans hp.t10,hd.trans hp.df,hr.trans hp.ro,hm,hpm.1.trans hp.sz,hp.bl.perm (by rw [hp.sz];exact hb1) hpm,fun R hR hs=>hp.go R (permIn_trans _ _ _ a1 b1 hpm hR) hs⟩
theorem PQ.mid {l u ro a b:Nat} {d:Array Int} {ob:Nat→Option Obj'} {tk:Nat→Bool} {ub a1 b1:Nat} {d2:Array Int} {s:St} (hp:PQ l u ro a b d ob tk ub a1 b1 d2 s) {cs:List V} {ob1:Nat→Option Obj'} {tk1:Nat→Bool} {ub0 ub1 ub2:Nat} (hat:At l u cs s.ob s.tk ub0 ob1 tk1 ub1) (h0:s.nx≤ub0) (h2:ub1≤ub2):At l u cs ob tk ub ob1 tk1 ub2:=(hp.mem.trans hat h0).same rfl rfl h2
theorem sv117 (N:Nat):∀ (Yf:YF) (l u a b lim:Nat) (d:Array Int),b - a<N→d.size≤49→b≤d.size→a≤b→lim≤1000→Below ltInt a b d→∀ (ob:Nat→Option Obj') (tk:Nat→Bool) (ro base ub:Nat),ob l=some ⟨u,.cells (arr intC d)⟩→ro≤u→(∀ m,ub≤m→l≠2 * m+1)→ro≤ub →
 ∃ r,EvS E Yf.y 117 [.osl l u 0 d.size 1,.int .i64 a,.int .i64 b,.int .i64 lim] ob tk ro base ub r∧Sorted l u a b d ob tk ub r:=by
 induction N with
 | zero=>intro _ _ _ _ _ _ _ h;omega
 | succ N ih =>
  intro Yf l u a b lim d hN hd hb hab hlim hbl ob tk ro base ub ho hro hl hru
  refine J8 (af:=S117) rfl (by decide) ?_
  show wpC E Yf S117.body _ (JY S117.res _)
  simp [S117]
  obtain ⟨I,hI⟩:∃ I:Nat→St→Prop,I=fun n s=>∃ a1 b1 lim1:Nat,∃ wb wp:Bool,n=b1 - a1∧a1≤b1∧b1≤d.size∧b1 - a1≤b - a∧lim1≤1000∧s.tm 3 = .int .i64 lim1∧s.tm 8 = .bool wb∧s.tm 9 = .bool wp∧∃ d1:Array Int,PQ l u ro a b d ob tk ub a1 b1 d1 (s.setT (some 10) (.int .i64 ((b1:Int) - a1))):=⟨_,rfl⟩
  refine JI (n:=b - a) [(1,3),(8,133)] I rfl rfl (by
   rw [hI]
   exact ⟨a,b,lim,true,true,rfl,hab,hb,Nat.le_refl _,hlim,by simp,by simp,by simp,d,⟨by simp,by simp,by simp,by simp,by simp,by simp,(At.refl ho).same rfl rfl (by simp;omega),rfl,hbl,fun R h1 h2=>⟨h1,h2⟩⟩⟩) ?_
  intro n s hIs f
  rw [hI] at hIs
  obtain ⟨a1,b1,lim1,wb,wp,rfl,hab1,hb1,hlen,hlim1,h3,h8,h9,d1,hp⟩:=hIs
  clear f
  have f0:s.tm 0 = .osl l u 0 d.size 1:=by simpa using hp.t0
  have f1:s.tm 1 = .int .i64 a1:=by simpa using hp.t1
  have f2:s.tm 2 = .int .i64 b1:=by simpa using hp.t2
  have fd:s.df=[]:=by simpa using hp.df
  have fr:s.ro=ro:=by simpa using hp.ro
  have hm:At l u (arr intC d1) ob tk ub s.ob s.tk s.nx:=by simpa using hp.mem
  have z1:=hp.sz
  have w1:IntKind.i64.wrap ((b1:Int) - a1)=(b1:Int) - a1:=jq (by omega) (by omega)
  have hnx:=hm.2.2.2
  by_cases h12:b1 - a1≤12
  ·have c1:(b1:Int) - a1≤12:=by omega
   simp [f1,f2,w1,c1,f0]
   refine jQ (vs:=[.osl l u 0 d1.size 1,.int .i64 a1,.int .i64 b1]) (by simp [z1]) rfl (sv157 (l:=l) (u:=u) (d:=d1) (by omega) (by omega) hab1 (by simpa using hm.1) (by simp [fr,hro])) ?_
   rintro v ob1 tk1 ub1 hat
   have hins:=insertionSort_holds (lt:=ltInt) swo_ltInt d1 a1 b1 hab1 (by omega)
   obtain ⟨q1,q2⟩:=hp.go _ hins.1 hins.2
   simp
   exact jy (Or.inr rfl) (by simp [fd]) ⟨_,q1,q2,(hm.trans hat (by omega)).same rfl rfl (by simp)⟩
  have c1:¬ (b1:Int) - a1≤12:=by omega
  by_cases hl0:lim1=0
  ·subst hl0
   simp [f1,f2,w1,c1,f0,h3]
   refine jQ (vs:=[.osl l u 0 d1.size 1,.int .i64 a1,.int .i64 b1]) (by simp [z1]) rfl (sv158 (l:=l) (u:=u) (d:=d1) (by omega) (by omega) hab1 (by simpa using hm.1) (by simp [fr,hro])) ?_
   rintro v ob1 tk1 ub1 hat
   have hins:=heapSort_holds (lt:=ltInt) swo_ltInt d1 a1 b1 hab1 (by omega)
   obtain ⟨q1,q2⟩:=hp.go _ hins.1 hins.2
   simp
   exact jy (Or.inr rfl) (by simp [fd]) ⟨_,q1,q2,(hm.trans hat (by omega)).same rfl rfl (by simp)⟩
  have c2:((lim1:Int) == 0)=false:=by simp;omega
  simp [f1,f2,w1,c1,h3,c2,h8]
  have hp':PQ l u ro a b d ob tk ub a1 b1 d1 (s.setT (some 10) (.int .i64 ((b1:Int) - a1))):=hp
  have hp0:=hp'
  generalize hK:jea E Yf _ _=K
  have restB:∀ (s:St) (d2:Array Int) (lim2:Nat),lim2≤1000→PQ l u ro a b d ob tk ub a1 b1 d2 s→s.tm 3 = .int .i64 lim2→s.tm 8 = .bool wb→s.tm 9 = .bool wp→K .nrm s:=by
   intro s d2 lim2 hlim2 hp h3 h8 h9
   rw [← hK]
   have z2:=hp.sz
   have hnx:=hp.mem.2.2.2
   simp [hp.t0,hp.t1,hp.t2]
   refine jQ (vs:=[.osl l u 0 d2.size 1,.int .i64 a1,.int .i64 b1]) (by simp [z2]) rfl (sv160 (l:=l) (u:=u) (d:=d2) (by omega) (by omega) (by omega) (by simpa using hp.mem.1) (fun m hm=>hl m (by first | omega | (simp at hm;omega))) (by simp [hp.ro];omega)) ?_
   rintro v ob1 tk1 ub1 ⟨⟨pv,hnt,hv,hpa,hpb,hh⟩,hat⟩
   simp only at hv
   subst hv
   simp only at hat
   have hat':=fun ub2 (h:ub1≤ub2)=>hp.mid (ub2:=ub2) hat (by first | omega | (simp;done) | (simp;omega)) h
   simp
   generalize hK2:jea E Yf _ _=K2
   have restC:∀ (s:St) (d3:Array Int) (pv hnt:Nat),a1≤pv→pv<b1→hnt≤2→PQ l u ro a b d ob tk ub a1 b1 d3 s→s.tm 3 = .int .i64 lim2→s.tm 8 = .bool wb→s.tm 9 = .bool wp→s.tm 11 = .int .i64 pv→s.tm 12 = .int .i64 hnt→K2 .nrm s:=by
    intro s d3 pv hnt hpa hpb hh hp h3 h8 h9 h11 h12
    rw [← hK2,X6,jbl]
    clear hK2
    generalize hK3:jea E Yf _ _=K3
    have z3:=hp.sz
    have restD:∀ s:St,PQ l u ro a b d ob tk ub a1 b1 d3 s→s.tm 3 = .int .i64 lim2→s.tm 8 = .bool wb→s.tm 9 = .bool wp→s.tm 11 = .int .i64 pv→K3 .nrm s:=by
     intro s hp h3 h8 h9 h11
     rw [← hK3,X6,jbl]
     generalize hK4:jea E Yf _ _=K4
     have restE:∀ s:St,PQ l u ro a b d ob tk ub a1 b1 d3 s→s.tm 3 = .int .i64 lim2→s.tm 11 = .int .i64 pv→K4 .nrm s:=by
      intro s hp h3 h11
      rw [← hK4,X6]
      have hnx:=hp.mem.2.2.2
      simp [hp.t0,hp.t1,hp.t2,h11]
      refine jQ (vs:=[.osl l u 0 d3.size 1,.int .i64 a1,.int .i64 b1,.int .i64 pv]) (by simp [z3]) rfl (sv165 (l:=l) (u:=u) (d:=d3) (by omega) (by omega) hpa hpb (by simpa using hp.mem.1) (by simp [hp.ro,hro])) ?_
      rintro v ob5 tk5 ub5 ⟨hv,hat⟩
      simp only at hv hat
      subst hv
      obtain ⟨⟨mid,ap,d4⟩,hx⟩:∃ P,partition ltInt d3 a1 b1 pv=P:=⟨_,rfl⟩
      obtain ⟨g1,g2,hs4,hBa,hBr,hleft,hright⟩:=round_part swo_ltInt (partition_holds ltInt) hpa hpb (by omega) hp.bl hx
      rw [hx] at hat ⊢
      have hat5:=fun ub2 (h:ub5≤ub2)=>hp.mid (ub2:=ub2) hat (by first | omega | (simp;done) | (simp;omega)) h
      have hn5:=(hat5 ub5 (Nat.le_refl _)).2.2.2
      have w5:IntKind.i64.wrap ((mid:Int) - a1)=(mid:Int) - a1:=jq (by omega) (by omega)
      have w6:IntKind.i64.wrap ((b1:Int) - mid)=(b1:Int) - mid:=jq (by omega) (by omega)
      have w7:IntKind.i64.wrap ((mid:Int)+1)=((mid+1:Nat):Int):=by rw [jq (by omega) (by omega)];omega
      generalize hM1:((mid+1:Nat):Int)=M1 at w7
      have t10:=hp.t10
      simp [hp.t1,hp.t2,t10,w5,w6]
      generalize IntKind.i64.wrap (((b1:Int) - a1).tdiv 8)=T
      by_cases hlr:mid - a1<b1 - mid
      ·have c5:(mid:Int) - a1<b1 - mid:=by omega
       simp [c5,hp.t0,hp.t1,h3]
       refine jQ (vs:=[.osl l u 0 d4.size 1,.int .i64 a1,.int .i64 mid,.int .i64 lim2]) (by simp [hs4,z3]) rfl (ih Yf l u a1 mid lim2 d4 (by omega) (by omega) (by omega) g1 hlim2 hBa _ _ _ _ _ (by simpa using hat.1) (by simp [hp.ro,hro]) (fun m hm=>hl m (by first | omega | (simp at hm;omega))) (by first | (simp [hp.ro];omega) | simp [hp.ro])) ?_
       rintro v ob6 tk6 ub6 ⟨L,hL1,hL2,hat6⟩
       simp only at hat6
       obtain ⟨hBL,hfin⟩:=hleft L hL1 hL2
       simp [w7]
       exact ⟨b1 - (mid+1),by omega,by
        rw [hI]
        exact ⟨mid+1,b1,lim2,decide (T≤(mid:Int) - a1),ap,rfl,by omega,hb1,by omega,hlim2,by simp [h3],by simp,by simp,L,⟨by simp [hp.t0],by simp [hM1],by simp [hp.t2],by simp,by simp [hp.df],by simp [hp.ro],
         ((hat5 ub5 (Nat.le_refl _)).trans hat6 (by first | omega | (simp;done) | (simp;omega))).same rfl rfl (by first | omega | (simp;done) | (simp;omega)),by rw [hL1.1,hs4,z3],hBL,fun R hR hs=>by
           obtain ⟨p1,p2⟩:=hfin R hR hs
           exact hp.go R p1 p2⟩⟩⟩
      ·have c5:¬ (mid:Int) - a1<b1 - mid:=by omega
       simp [c5,hp.t0,hp.t2,h3,w7]
       refine jQ (vs:=[.osl l u 0 d4.size 1,.int .i64 (mid+1:Nat),.int .i64 b1,.int .i64 lim2]) (by simp [hs4,z3,hM1]) rfl (ih Yf l u (mid+1) b1 lim2 d4 (by omega) (by omega) (by omega) (by omega) hlim2 hBr _ _ _ _ _ (by simpa using hat.1) (by simp [hp.ro,hro]) (fun m hm=>hl m (by first | omega | (simp at hm;omega))) (by first | (simp [hp.ro];omega) | simp [hp.ro])) ?_
       rintro v ob6 tk6 ub6 ⟨L,hL1,hL2,hat6⟩
       simp only at hat6
       obtain ⟨hBL,hfin⟩:=hright L hL1 hL2
       simp
       exact ⟨mid - a1,by omega,by
        rw [hI]
        exact ⟨a1,mid,lim2,decide (T≤(b1:Int) - mid),ap,rfl,by omega,by omega,by omega,hlim2,by simp [h3],by simp,by simp,L,⟨by simp [hp.t0],by simp [hp.t1],by simp,by simp,by simp [hp.df],by simp [hp.ro],
         ((hat5 ub5 (Nat.le_refl _)).trans hat6 (by first | omega | (simp;done) | (simp;omega))).same rfl rfl (by first | omega | (simp;done) | (simp;omega)),by rw [hL1.1,hs4,z3],hBL,fun R hR hs=>by
           obtain ⟨p1,p2⟩:=hfin R hR hs
           exact hp.go R p1 p2⟩⟩⟩
     have hex:∀ s':St,(∃ j,j<b1 - a1∧I j s')→K4 (.exit 1) s':=fun s' h=>by
      rw [← hK4,Qq,jdj,if_pos rfl,Qr]
      exact h
     clear hK4
     have hnx:=hp.mem.2.2.2
     by_cases ha0:a1=0
     ·have c3:¬ 0<a1:=by omega
      simp [hp.t1,c3]
      exact restE _ (hp.turn hb1 (by simp) (by simp) (by simp) (by simp) (by simp) (by simp) (hp.mem.same rfl rfl (by first | omega | (simp;done) | (simp;omega))) (permIn_refl d3 a1 b1)) (by simp [h3]) (by simp [h11])
     have c3:0<a1:=by omega
     have w5:IntKind.i64.wrap ((a1:Int) - 1)=((a1 - 1:Nat):Int):=by rw [jq (by omega) (by omega)];omega
     have ix:=W7 (l:=l) (u:=u) (n:=d.size) (kk:=.i64) (X:=((a1 - 1:Nat):Int)) (x:=a1 - 1) rfl (by omega)
     have iy:=W7 (l:=l) (u:=u) (n:=d.size) (kk:=.i64) (X:=(pv:Int)) (x:=pv) rfl (by omega)
     have lx:=ldN hp.mem.1 (x:=a1 - 1) (by omega)
     have ly:=ldN hp.mem.1 (x:=pv) (by omega)
     generalize ((a1 - 1:Nat):Int)=A1 at w5 ix
     simp [hp.t0,hp.t1,c3,h11,w5,ix,iy,lx,ly]
     refine jf (Qy d3[a1 - 1]! d3[pv]!) (by simp) rfl (by simp) ?_
     simp
     cases hlt:ltInt d3[a1 - 1]! d3[pv]!
     ·simp [hp.t0,hp.t1,hp.t2,h11]
      refine jQ (vs:=[.osl l u 0 d3.size 1,.int .i64 a1,.int .i64 b1,.int .i64 pv]) (by simp [z3]) rfl (sv164 (l:=l) (u:=u) (d:=d3) (by omega) (by omega) hpa hpb (by simpa using hp.mem.1) (by simp [hp.ro,hro])) ?_
      rintro v ob5 tk5 ub5 ⟨hv,hat⟩
      simp only at hv hat
      subst hv
      obtain ⟨⟨mid,d4⟩,hx⟩:∃ P,partitionEqual ltInt d3 a1 b1 pv=P:=⟨_,rfl⟩
      obtain ⟨g1,g2,hs4,hB4,hfin⟩:=round_eq swo_ltInt (partitionEqual_holds ltInt) c3 hpa hpb (by omega) hp.bl hlt hx
      rw [hx] at hat ⊢
      simp
      exact hex _ ⟨b1 - mid,by omega,by
       rw [hI]
       exact ⟨mid,b1,lim2,wb,wp,rfl,g2,hb1,by omega,hlim2,by simp [h3],by simp [h8],by simp [h9],d4,⟨by simp [hp.t0],by simp,by simp [hp.t2],by simp,by simp [hp.df],by simp [hp.ro],
        hp.mid hat (by first | omega | (simp;done) | (simp;omega)) (by first | omega | (simp;done) | (simp;omega)),by rw [hs4,z3],hB4,fun R hR hs=>by
         obtain ⟨p1,p2⟩:=hfin R hR hs
         exact hp.go R p1 p2⟩⟩⟩
     ·simp
      exact restE _ (hp.turn hb1 (by simp) (by simp) (by simp) (by simp) (by simp) (by simp) (hp.mem.same rfl rfl (by first | omega | (simp;done) | (simp;omega))) (permIn_refl d3 a1 b1)) (by simp [h3]) (by simp [h11])
    have hret:∀ s':St,JY [] (Sorted l u a b d ob tk ub) .ret s'→K3 .ret s':=fun s' h=>by
     rw [← hK3,jf5,jf9,jh5,jf9]
     exact h
    clear hK3
    have hnx:=hp.mem.2.2.2
    have onD:∀ s2:St,s2.tm 0=s.tm 0→s2.tm 1=s.tm 1→s2.tm 2=s.tm 2→s2.tm 3=s.tm 3→s2.tm 8=s.tm 8→s2.tm 9=s.tm 9→s2.tm 10=s.tm 10→s2.tm 11=s.tm 11→s2.df=s.df→s2.ro=s.ro→At l u (arr intC d3) ob tk ub s2.ob s2.tk s2.nx→K3 .nrm s2:=fun s2 k0 k1 k2 k3 k8 k9 k10 k11 kd kr km =>
     restD s2 (hp.turn hb1 k0 k1 k2 k10 kd kr km (permIn_refl d3 a1 b1)) (k3.trans h3) (k8.trans h8) (k9.trans h9) (k11.trans h11)
    cases wb
    ·simp [h8]
     exact onD _ (by simp) (by simp) (by simp) (by simp) (by simp) (by simp) (by simp) (by simp) (by simp) (by simp) (hp.mem.same rfl rfl (by first | omega | (simp;done) | (simp;omega)))
    cases wp
    ·simp [h8,h9]
     exact onD _ (by simp) (by simp) (by simp) (by simp) (by simp) (by simp) (by simp) (by simp) (by simp) (by simp) (hp.mem.same rfl rfl (by first | omega | (simp;done) | (simp;omega)))
    by_cases hn1:hnt=1
    ·subst hn1
     simp [h8,h9,h12,hp.t0,hp.t1,hp.t2]
     refine jQ (vs:=[.osl l u 0 d3.size 1,.int .i64 a1,.int .i64 b1]) (by simp [z3]) rfl (sv162 (l:=l) (u:=u) (d:=d3) (by omega) (by omega) (by omega) (by simpa using hp.mem.1)) ?_
     rintro v ob5 tk5 ub5 ⟨hv,hat⟩
     simp only at hv hat
     subst hv
     have hat5:=fun ub2 (h:ub5≤ub2)=>hp.mid (ub2:=ub2) hat (by first | omega | (simp;done) | (simp;omega)) h
     have hps:=partialInsertionSort_holds (lt:=ltInt) swo_ltInt d3 a1 b1 (by omega) (by omega) hp.bl
     rw [Q5 (by omega)] at hps
     simp
     by_cases hsc:scanSorted ltInt d3 b1 (a1+1)=b1
     ·obtain ⟨q1,q2⟩:=hp.go d3 hps.1 (hps.2 (by simp [hsc]))
      simp [hsc]
      exact hret _ (jy (Or.inr rfl) (by simp [hp.df]) ⟨d3,q1,q2,hat5 _ (by first | omega | (simp;done) | (simp;omega))⟩)
     ·simp [hsc]
      exact onD _ (by simp) (by simp) (by simp) (by simp) (by simp) (by simp) (by simp) (by simp) (by simp) (by simp) (hat5 _ (by first | omega | (simp;done) | (simp;omega)))
    ·have hn1':((hnt:Int) == 1)=false:=by simp;omega
     simp [h8,h9,h12,hn1']
     exact onD _ (by simp) (by simp) (by simp) (by simp) (by simp) (by simp) (by simp) (by simp) (by simp) (by simp) (hp.mem.same rfl rfl (by first | omega | (simp;done) | (simp;omega)))
   by_cases h2:hnt=2
   ·subst h2
    have w2:IntKind.i64.wrap ((b1:Int) - 1)=(b1:Int) - 1:=jq (by omega) (by omega)
    have w3:IntKind.i64.wrap ((pv:Int) - a1)=(pv:Int) - a1:=jq (by omega) (by omega)
    have w4:IntKind.i64.wrap ((b1:Int) - 1 - (pv - a1))=((b1 - 1 - (pv - a1):Nat):Int):=by rw [jq (by omega) (by omega)];omega
    simp [hp.t0,hp.t1,hp.t2]
    refine jQ (vs:=[.osl l u 0 d2.size 1,.int .i64 a1,.int .i64 b1]) (by simp [z2]) rfl (sv161 (l:=l) (u:=u) (d:=d2) (by omega) (by omega) (by omega) (by simpa using hat.1) (by simp [hp.ro,hro])) ?_
    rintro v ob2 tk2 ub2 hat2
    simp only at hat2
    generalize hPV:((b1 - 1 - (pv - a1):Nat):Int)=PV at w4
    simp [hp.t1,hp.t2,w2,w3,w4]
    exact restC _ (reverseRange d2 a1 b1) (b1 - 1 - (pv - a1)) 1 (by omega) (by omega) (by omega) (hp.turn hb1 (by simp) (by simp) (by simp) (by simp) (by simp) (by simp) (((hat' ub1 (Nat.le_refl _)).trans hat2 (by first | omega | (simp;done) | (simp;omega))).same rfl rfl (by first | omega | (simp;done) | (simp;omega))) (reverseRange_holds d2 a1 b1 hab1 (by omega))) (by simp [h3]) (by simp [h8]) (by simp [h9]) (by simp [hPV]) (by simp)
   ·have h2':((hnt:Int) == 2)=false:=by simp;omega
    simp [h2']
    exact restC _ d2 pv hnt hpa hpb hh (hp.turn hb1 (by simp) (by simp) (by simp) (by simp) (by simp) (by simp) (hat' _ (by first | omega | (simp;done) | (simp;omega))) (permIn_refl d2 a1 b1)) (by simp [h3]) (by simp [h8]) (by simp [h9]) (by simp) (by simp)
  clear hK
  cases wb
  ·have w2:IntKind.i64.wrap ((lim1:Int) - 1)=((lim1 - 1:Nat):Int):=by rw [jq (by omega) (by omega)];omega
   simp [f0,f1,f2]
   refine jQ (vs:=[.osl l u 0 d1.size 1,.int .i64 a1,.int .i64 b1]) (by simp [z1]) rfl (sv159 (l:=l) (u:=u) (d:=d1) (by omega) (by omega) (by omega) (by simpa using hm.1) (by simp [fr,hro]) (fun m hm=>hl m (by first | omega | (simp at hm;omega))) (by simp [fr];omega)) ?_
   rintro v ob1 tk1 ub1 ⟨d2,hpm,hat⟩
   simp only at hat
   generalize hL1:((lim1 - 1:Nat):Int)=L1 at w2
   simp [h3,w2]
   exact restB _ d2 (lim1 - 1) (by omega) (hp0.turn hb1 (by simp) (by simp) (by simp) (by simp) (by simp) (by simp) ((hm.trans hat (by first | omega | (simp;done) | (simp;omega))).same rfl rfl (by first | omega | (simp;done) | (simp;omega))) hpm) (by simp [hL1]) (by simp [h8]) (by simp [h9])
  ·simp
   exact restB _ d1 lim1 hlim1 (hp0.turn hb1 (by simp) (by simp) (by simp) (by simp) (by simp) (by simp) (hm.same rfl rfl (by first | omega | (simp;done) | (simp;omega))) (permIn_refl d1 a1 b1)) (by simp [h3]) (by simp [h8]) (by simp [h9])
end Go.Pv.T

/- slices.Sort of few ints. -/
namespace Go.Pv.T
open Go Go.Pv Go.Sort
theorem jz2 {Yf:YF} {ob:Nat→Option Obj'} {tk:Nat→Bool} {ro base ub:Nat}:∃ r,EvS E Yf.y 157 [.sl none true 0 [],.int .i64 0,.int .i64 0] ob tk ro base ub r∧r.2.1=ob∧r.2.2.1=tk∧ub≤r.2.2.2:=by
 refine J8 (af:=S157) rfl (by decide) ?_
 show wpC E Yf S157.body _ (JY S157.res _)
 have w1:IntKind.i64.wrap 1=1:=by decide
 simp [S157,w1]
 refine Y5 1 ?_
 simp
 exact jy (Or.inl rfl) (by simp) ⟨by simp,by simp,by simp;omega⟩
theorem jz4 {Yf:YF} {k:Nat} {ob:Nat→Option Obj'} {tk:Nat→Bool} {ro base ub:Nat}:∃ r,EvS E Yf.y 117 [.sl none true 0 [],.int .i64 0,.int .i64 0,.int .i64 k] ob tk ro base ub r∧r.2.1=ob∧r.2.2.1=tk∧ub≤r.2.2.2:=by
 refine J8 (af:=S117) rfl (by decide) ?_
 show wpC E Yf S117.body _ (JY S117.res _)
 have w0:IntKind.i64.wrap 0=0:=by decide
 simp [S117]
 refine Y5 1 ?_
 simp [w0]
 refine jQ (vs:=[.sl none true 0 [],.int .i64 0,.int .i64 0]) (by simp) rfl jz2 ?_
 rintro v ob1 tk1 ub1 ⟨h1,h2,h3⟩
 simp only at h1 h2 h3
 simp
 exact jy (Or.inr rfl) (by simp) ⟨by simp [h1],by simp [h2],by simp;first | omega | (simp at h3;omega)⟩
theorem sv76n {Yf:YF} {ob:Nat→Option Obj'} {tk:Nat→Bool} {ro base ub:Nat}:∃ r,EvS E Yf.y 76 [.sl none true 0 []] ob tk ro base ub r∧r.2.1=ob∧r.2.2.1=tk∧ub≤r.2.2.2:=by
 refine J8 (af:=S76) rfl (by decide) ?_
 show wpC E Yf S76.body _ (JY S76.res _)
 obtain ⟨k,ek,hk⟩:=j5f (n:=0) (by omega)
 have w0:IntKind.u64.wrap 0=0:=by decide
 simp [S76,w0]
 refine jf ek (by simp) rfl (by simp) ?_
 simp
 refine jQ (vs:=[.sl none true 0 [],.int .i64 0,.int .i64 0,.int .i64 k]) (by simp) rfl jz4 ?_
 rintro v ob1 tk1 ub1 ⟨h1,h2,h3⟩
 simp only at h1 h2 h3
 simp
 exact jy (Or.inl rfl) (by simp) ⟨by simp [h1],by simp [h2],by simp;first | omega | (simp at h3;omega)⟩
theorem joj {L T:List Int} (hp:L.Perm T):PermIn 0 L.toArray.size L.toArray T.toArray:=by
 have hl:=hp.length_eq
 refine ⟨by simp [hl],fun i hi=>?_,?_⟩
 ·have hi':L.length≤i:=by rcases hi with h | h;omega;simpa using h
  rw [getElem!_neg _ _ (by simp;omega),getElem!_neg _ _ (by simp;omega)]
 ·simp
  rw [List.take_of_length_le (by omega)]
  exact hp.symm
theorem jiy {T:List Int} (hs:T.Pairwise (·≤·)):SortedIn ltInt 0 T.length T.toArray:=by
 intro i j _ hij hj
 rw [getElem!_pos _ _ (by simpa using hj),getElem!_pos _ _ (by simp;omega)]
 have:=List.pairwise_iff_getElem.1 hs i j (by omega) hj hij
 simp only [List.getElem_toArray,ltInt,decide_eq_false_iff_not]
 omega
theorem jnw {L T:List Int} {d':Array Int} (hp:L.Perm T) (hs:T.Pairwise (·≤·)) (h1:PermIn 0 L.toArray.size L.toArray d') (h2:SortedIn ltInt 0 L.toArray.size d'):d'=T.toArray:=by
 have hex:∀ x y:Int,ltInt x y=false→ltInt y x=false→x=y:=by
  intro x y a b
  simp only [ltInt,decide_eq_false_iff_not] at a b
  omega
 have e1:=sorted_unique_holds swo_ltInt hex L.toArray d' h1 h2
 have e2:=sorted_unique_holds swo_ltInt hex L.toArray T.toArray (joj hp) (by
  have:=jiy hs
  rwa [← hp.length_eq] at this)
 rw [← e2] at e1
 exact Array.toList_inj.1 e1
theorem sv76 {Yf:YF} {l u:Nat} {L T:List Int} (hp:L.Perm T) (hs:T.Pairwise (·≤·)) (hL:L.length≤49) {ob:Nat→Option Obj'} {tk:Nat→Bool} {ro base ub:Nat} (ho:ob l=some ⟨u,.cells (L.flatMap intC)⟩) (hro:ro≤u) (hl:∀ m,ub≤m→l≠2 * m+1) (hru:ro≤ub) :
 ∃ r,EvS E Yf.y 76 [.osl l u 0 L.length 1] ob tk ro base ub r∧At l u (T.flatMap intC) ob tk ub r.2.1 r.2.2.1 r.2.2.2:=by
 refine J8 (af:=S76) rfl (by decide) ?_
 show wpC E Yf S76.body _ (JY S76.res _)
 obtain ⟨k,ek,hk⟩:=j5f (n:=L.length) (by omega)
 have w0:IntKind.u64.wrap (L.length:Int)=(L.length:Int):=by rw [IntKind.wrap_u64];omega
 simp [S76,w0]
 refine jf ek (by simp) rfl (by simp) ?_
 simp
 have z:L.toArray.size=L.length:=by simp
 refine jQ (vs:=[.osl l u 0 L.toArray.size 1,.int .i64 (0:Nat),.int .i64 (L.length:Nat),.int .i64 k]) (by simp) rfl (sv117 (L.length+1) Yf l u 0 L.length k L.toArray (by omega) (by omega) (by omega) (by omega) (by omega) (Or.inl rfl) _ _ _ _ _ (by simpa [arr] using ho) (by simp [hro]) (fun m hm=>hl m (by first | omega | (simp at hm;omega))) (by first | (simp;omega) | simp)) ?_
 rintro v ob1 tk1 ub1 ⟨d',h1,h2,hat⟩
 simp only at hat
 have e:=jnw hp hs (d':=d') (by rw [z];exact h1) (by rw [z];exact h2)
 subst e
 simp
 have hat':At l u (T.flatMap intC) ob tk ub ob1 tk1 ub1:=by
  have:arr intC T.toArray=T.flatMap intC:=by simp [arr]
  rw [this] at hat
  exact ⟨hat.1,fun key a b=>(hat.2.1 key a (fun m hm=>b m (by first | omega | (simp at hm;omega)))).trans (by simp),hat.2.2.1.trans (by simp),by have:=hat.2.2.2;first | omega | (simp at this;omega)⟩
 exact jy (Or.inl rfl) (by simp) (hat'.same rfl rfl (by first | omega | simp))
end Go.Pv.T

/- The last write of a key; what a transaction leaves. -/
namespace Go.Pv.T
open Go Go.Pv
theorem sv175 {Yf:YF} {sl:V} (hs:sl.cells=[sl]) (hl:sl.leaf=true) {ob:Nat→Option Obj'} {tk:Nat→Bool} {ro base ub:Nat}:∃ r,EvS E Yf.y 175 [sl] ob tk ro base ub r ∧
 r.1 = .fn (.func 217) [] [.ptr (2 * ub+1) ub 0]∧(∀ key,r.2.1 key=if key=2 * ub+1 then some ⟨ub,.cells [sl]⟩ else ob key)∧r.2.2.1=tk∧r.2.2.2=ub+256:=by
 refine J8 (af:=S175) rfl (by decide) ?_
 show wpC E Yf S175.body _ (JY S175.res _)
 simp [S175,hs,hl]
 exact YL (by simp) ⟨by simp,fun key=>by simp,by simp [jW],by simp⟩
def Qo (ops:List Op') (key:Int):Val' × Bool:=J3 key ops ops.length
theorem jyj (nl:Bool) (ops:List Op') (hm:ops.length≤1000000) (key:Int):Ev E 130 [jl nl opC ops,.int .i64 key] (.tup [.agg (J1 (Qo ops key).1),.bool (Qo ops key).2]):=by
 refine jc (af:=F130) rfl ?_
 simp [F130]
 refine jQ (vs:=[jl nl opC ops]) (by simp) rfl (sv175 (by simp) (by simp)) ?_
 rintro v ob1 tk1 ub1 ⟨e1,e2,e3,e4⟩
 simp only at e1 e2 e3 e4
 subst e1 e4
 simp
 refine XJ fun st hst=>?_
 have g3:st.tm 3 = .ptr 6 0 0:=by rw [hst];simp
 have g4:st.tm 4 = .ptr 8 64 0:=by rw [hst];simp
 have g5:st.tm 5 = .ptr 10 128 0:=by rw [hst];simp
 have g9:st.tm 9 = .fn (.func 217) [] [.ptr 513 256 0]:=by rw [hst];simp
 have gd:st.df=[]:=by rw [hst];simp
 have gb:st.fb=0:=by rw [hst];simp
 have gr:st.ro=0:=by rw [hst];simp
 have gn:st.nx=512:=by rw [hst];simp
 have p6:st.ob 6=some ⟨0,.cells [.int .i64 key]⟩:=by rw [hst];simp only [JX,jfo];rw [e2];simp
 have p8:st.ob 8=some ⟨64,.cells [.int .i64 0,.int .i64 0]⟩:=by rw [hst];simp only [JX,jfo];rw [e2];simp
 have p10:st.ob 10=some ⟨128,.cells [.bool false]⟩:=by rw [hst];simp only [JX,jfo];rw [e2];simp
 have ph:st.ob 513=some ⟨256,.cells [jl nl opC ops]⟩:=by rw [hst];simp only [JX,jfo];rw [e2];simp
 clear hst e2
 refine jr9 nl ops hm key 512 gn (by omega) g9 ⟨256,rfl,by omega⟩ g3 g4 g5 gr gb p6 p8 p10 ph ?_
 intro e ob tk ub v b q8 q10 qd hub hraw hcase
 have hl:Qo ops key=(v,b):=hraw
 rw [hl]
 rcases hcase with ⟨rfl,rfl,rfl⟩ | rfl
 ·simp [g4,g5,j6,q8,q10,gr,jD,J1]
  refine QS (l:=1027) (u:=513) (by simp [gd]) (by simp [qd]) (by simp) (JM rfl (l:=[.agg (J1 ⟨0,0⟩),.bool false]) (by simp [jw,j6,g4,g5,J1]) rfl rfl)
 ·simp
  refine QS (l:=1027) (u:=513) (by simp [gd]) (by simp [qd]) (by simp [gr]) (JM rfl (l:=[.agg (J1 v),.bool b]) (by simp [jw,j6,g4,g5,q8,q10,J1]) rfl rfl)
def Xr (h:Hist') (i:Int):Bool × List Op':=if Jr h && (decide (0≤i) && decide (i<h.ts.length)) then ((h.ts.getD i.toNat ⟨0,0,true,[]⟩).nl,(h.ts.getD i.toNat ⟨0,0,true,[]⟩).ops) else (true,[])
theorem jyk {h:Hist'} (hs:Small h) (i:Int):Ev E 129 [.agg (j7 h),.int .i64 i] (jl (Xr h i).1 opC (Xr h i).2):=by
 have e70:=jyg hs
 have hts:=hs.ts
 refine jc (af:=F129) rfl ?_
 obtain ⟨R,hR⟩:∃ R,Xr h i=R:=⟨_,rfl⟩
 rw [hR]
 unfold Xr at hR
 simp [F129,j7,j6]
 refine jf e70 (by simp [j7]) rfl (by simp [j7]) ?_
 cases hm:Jr h
 ·rw [WT hm]
  rw [hm] at hR
  subst hR
  simp
  exact jC rfl (by simp [jl]) rfl
 rw [hm] at hR
 rw [YD hm]
 by_cases k1:i<0
 ·rw [if_neg (by simp;omega)] at hR
  subst hR
  simp [k1]
  exact jC rfl (by simp [jl]) rfl
 by_cases k2:(h.ts.length:Int)≤i
 ·rw [if_neg (by simp;omega)] at hR
  subst hR
  simp [k1,k2,j6]
  exact jC rfl (by simp [jl]) rfl
 rw [if_pos (by simp;omega)] at hR
 obtain ⟨j,rfl⟩:∃ j:Nat,i=j:=⟨i.toNat,by omega⟩
 have hj:j<h.ts.length:=by omega
 have hl3:(h.ts.flatMap txnC)[j * 3+2]? = some (jl (h.ts[j]).nl opC (h.ts[j]).ops):=by
  rw [ju jH h.ts hj (by decide:2<3)];rfl
 rw [Int.toNat_natCast,JB hj] at hR
 subst hR
 simp [k1,k2,j6,hj,jF jH,hl3]
 exact jC rfl (by simp) rfl
theorem jhi {h:Hist'} (hs:Small h) (i:Int):(Xr h i).2.length≤1000:=by
 unfold Xr
 split
 ·rename_i hc
  simp only [Bool.and_eq_true,decide_eq_true_eq] at hc
  have hj:i.toNat<h.ts.length:=by omega
  rw [JB hj]
  exact hs.os _ (List.getElem_mem hj)
 ·simp
theorem ev116 {h:Hist'} (hs:Small h) (i key:Int):Ev E 116 [.agg (j7 h),.int .i64 i,.int .i64 key] (.tup [.agg (J1 (Qo (Xr h i).2 key).1),.bool (Qo (Xr h i).2 key).2]):=by
 have e129:=jyk hs i
 have e130:=jyj (Xr h i).1 (Xr h i).2 (by have:=jhi hs i;omega) key
 refine jc (af:=F116) rfl ?_
 generalize (Xr h i).1=nl at *
 generalize (Xr h i).2=ops at *
 obtain ⟨R,hR⟩:∃ R,Qo ops key=R:=⟨_,rfl⟩
 rw [hR] at e130 ⊢
 simp [F116,j7,j6]
 refine jf e129 (by simp [j7]) rfl (by simp [j7]) ?_
 rw [Ye (show (jl nl opC ops).plain=true from rfl)]
 simp
 refine jf e130 (by simp) rfl (by simp) ?_
 rw [JR (by simp [V.plain,J1])]
 simp [j6,jD,J1]
 exact JM (by simp) (l:=[.agg (J1 R.1),.bool R.2]) (by simp [jw,j6,J1]) rfl rfl
end Go.Pv.T

/- The read at a place. -/
namespace Go.Pv.T
open Go Go.Pv
def opAt (h:Hist') (a b:Int):Option Op' :=
 if Jr h && (decide (0≤a) && (decide (a<h.ts.length) && (decide (0≤b) && decide (b<((h.ts.getD a.toNat ⟨0,0,true,[]⟩).ops.length:Nat))))) then (h.ts.getD a.toNat ⟨0,0,true,[]⟩).ops[b.toNat]? else none
def op0:Op':=⟨false,0,0,0⟩
theorem ev74 {h:Hist'} (hs:Small h) (a b:Int):Ev E 74 [.agg (j7 h),.agg (jP (a,b))] (.tup [.agg (opC ((opAt h a b).getD op0)),.bool ((opAt h a b).any fun o=>!o.w)]):=by
 have e70:=jyg hs
 have hts:=hs.ts
 refine jc (af:=F74) rfl ?_
 obtain ⟨R,hR⟩:∃ R,opAt h a b=R:=⟨_,rfl⟩
 rw [hR]
 unfold opAt at hR
 simp [F74,j7,j6,jP]
 generalize hK:jea E Xx (C.seq (C.draw _ _) _) (jtn _ _)=K
 have hret:∀ s:St,jtn [.cell 4 (some 4),.t 5] (.tup [.agg (opC (R.getD op0)),.bool (R.any fun o=>!o.w)]) .ret s→K .ret s:=fun s h=>by
  rw [← hK,jf5]
  exact h
 refine Xt e70 (by simp [j7]) rfl (by simp [j7]) ?_
 cases hm:Jr h
 ·rw [WT hm]
  rw [hm] at hR
  subst hR
  simp [j6,jD]
  exact hret _ (JM (by simp) (l:=[.agg (opC op0),.bool false]) (by simp [jw,j6,opC,op0]) rfl rfl)
 rw [hm] at hR
 rw [YD hm]
 by_cases k1:a<0
 ·rw [if_neg (by simp;omega)] at hR
  subst hR
  simp [k1,j6,jD]
  exact hret _ (JM (by simp) (l:=[.agg (opC op0),.bool false]) (by simp [jw,j6,opC,op0]) rfl rfl)
 by_cases k2:(h.ts.length:Int)≤a
 ·rw [if_neg (by simp;omega)] at hR
  subst hR
  simp [k1,k2,j6,jD]
  exact hret _ (JM (by simp) (l:=[.agg (opC op0),.bool false]) (by simp [jw,j6,opC,op0]) rfl rfl)
 obtain ⟨i,rfl⟩:∃ i:Nat,a=i:=⟨a.toNat,by omega⟩
 have hi:i<h.ts.length:=by omega
 rw [Int.toNat_natCast,JB hi] at hR
 obtain ⟨t,ht⟩:∃ t,h.ts[i]=t:=⟨_,rfl⟩
 rw [ht] at hR
 have hos:=hs.os t (ht ▸ List.getElem_mem hi)
 have hl3:(h.ts.flatMap txnC)[i * 3+2]? = some (jl t.nl opC t.ops):=by
  rw [ju jH h.ts hi (by decide:2<3),ht];rfl
 by_cases k3:b<0
 ·rw [if_neg (by simp;omega)] at hR
  subst hR
  simp [k1,k2,k3,j6,jD]
  exact hret _ (JM (by simp) (l:=[.agg (opC op0),.bool false]) (by simp [jw,j6,opC,op0]) rfl rfl)
 by_cases k4:(t.ops.length:Int)≤b
 ·rw [if_neg (by simp;omega)] at hR
  subst hR
  simp [k1,k2,k3,k4,j6,jD,hi,jF jH,hl3]
  exact hret _ (JM (by simp) (l:=[.agg (opC op0),.bool false]) (by simp [jw,j6,opC,op0]) rfl rfl)
 obtain ⟨j,rfl⟩:∃ j:Nat,b=j:=⟨b.toNat,by omega⟩
 have hj:j<t.ops.length:=by omega
 rw [if_pos (by simp;omega),Int.toNat_natCast,List.getElem?_eq_getElem hj] at hR
 obtain ⟨o,ho⟩:∃ o,t.ops[j]=o:=⟨_,rfl⟩
 rw [ho] at hR
 subst hR
 have k4':¬ t.ops.length≤j:=by omega
 have k2':¬ h.ts.length≤i:=by omega
 have rest:∀ s:St,s.tm 2 = .ptr 4 0 0→s.tm 3 = .ptr 6 64 0→s.tm 4 = .ptr 8 128 0→s.ob 4=some ⟨0,.cells (j7 h)⟩→s.ob 6=some ⟨64,.cells [.int .i64 i,.int .i64 j]⟩→s.ob 8=some ⟨128,.cells [.bool false,.int .i64 0,.int .i64 0,.int .i64 0]⟩→s.df=[]→s.ro=0→s.fb=0→K .nrm s:=by
  intro s h2 h3 h4 o4 o6 o8 hd hr hf
  rw [← hK,X6]
  simp [h2,h3,o4,o6,j6,j7,hi,jF jH,hl3,hj,jF jK,ja jK,ho,opC,jD,hf,hr]
  refine ⟨by simp [Jw,WJ,jbn,Qx,rdOb,rdTk,lOf,Delta.wo,Delta.wt];try decide,?_⟩
  simp [h4,o8,j6,hr,jD]
  refine ⟨by simp [Jw,WJ,jbn,Qx,rdOb,rdTk,lOf,Delta.wo,Delta.wt,h4];try decide,?_⟩
  exact JM (by simp [hd]) (l:=[.agg (opC o),.bool !o.w]) (by simp [jw,j6,opC,h4]) rfl (by simp [jv1,opC])
 clear hK
 simp [k1,k2,k3,k4,j6,hi,jF jH,hl3]
 exact rest _ (by simp) (by simp) (by simp) (by simp [j7]) (by simp) (by simp) (by simp) (by simp) (by simp)
end Go.Pv.T

/- What others leave of a key. -/
namespace Go.Pv.T
open Go Go.Pv
def valV (v:Val'):V:=.agg (J1 v)
def XP (g:Hist') (key i:Int):Val':=(Qo (Xr g i).2 key).1
def Jg (g:Hist') (a key:Int) (W:List Int):List (Int × Val'):=(W.filter fun i=>!(i == a)).map fun i=>(i,XP g key i)
theorem Ql {p:Txn'→Bool} {ts:List Txn'}:∀ n,n≤ts.length→(∀ x∈numsTo p ts n,0≤x∧x<n)∧(numsTo p ts n).Pairwise (· < ·)
 | 0,_=>by simp [numsTo]
 | n+1,h=>by
  have ih:=Ql (p:=p) (ts:=ts) n (by omega)
  have e:=JT (p:=p) (show n<ts.length by omega)
  rw [e]
  cases hp:p ts[n]
  ·simp only [Bool.false_eq_true,if_false,List.append_nil]
   exact ⟨fun x hx=>by have:=ih.1 x hx;omega,ih.2⟩
  ·simp only [if_true]
   refine ⟨fun x hx=>?_,?_⟩
   ·rcases List.mem_append.1 hx with h | h
    ·have:=ih.1 x h;omega
    ·rw [List.mem_singleton] at h;omega
   ·rw [List.pairwise_append]
    refine ⟨ih.2,List.pairwise_singleton _ _,fun x hx y hy=>?_⟩
    rw [List.mem_singleton] at hy
    have:=ih.1 x hx
    omega
theorem jsw {α:Type} {m:List (Int × α)} {k:Int} {a:α} (h:k ∉ m.map (·.1)):jgp m k a=m++[(k,a)]:=by
 unfold jgp
 rw [mfind_none.2 h]
theorem jfr {g:Hist'} {a key:Int} {W:List Int} {i:Nat} (hi:i<W.length):Jg g a key (W.take (i+1))=Jg g a key (W.take i)++(if W[i]=a then [] else [(W[i],XP g key W[i])]):=by
 unfold Jg
 rw [List.take_succ_eq_append_getElem hi,List.filter_append,List.map_append]
 by_cases h:W[i]=a <;> simp [h]
theorem jhh {g:Hist'} {a key:Int} {W:List Int} (hW:W.Pairwise (· < ·)) {i:Nat} (hi:i<W.length):W[i] ∉ (Jg g a key (W.take i)).map (·.1):=by
 intro h
 unfold Jg at h
 rw [List.map_map] at h
 obtain ⟨x,hx,he⟩:=List.mem_map.1 h
 have hx':=(List.mem_filter.1 hx).1
 simp only [Function.comp] at he
 obtain ⟨j,hj,rfl⟩:=List.getElem_of_mem hx'
 rw [List.length_take] at hj
 rw [List.getElem_take] at he
 have:=List.pairwise_iff_getElem.1 hW j i (by omega) hi (by omega)
 omega
def OthR (g:Hist') (a key:Int) (W:List Int) (ob:Nat→Option Obj') (ub:Nat) (r:V × (Nat→Option Obj') × (Nat→Bool) × Nat):Prop :=
 ∃ M U ver:Nat,r.1 = .map (2 * M+1) U∧ub≤M∧M<r.2.2.2∧ub≤U∧r.2.1 (2 * M+1)=some ⟨U,.mp ver (MP valV (Jg g a key W))⟩∧(∀ k,(∀ m,ub≤m→k≠2 * m+1)→r.2.1 k=ob k)∧ub≤r.2.2.2
theorem sv75 {Yf:YF} {g:Hist'} (hs:Small g) (hm:Jr g=true) (a key:Int) {ob:Nat→Option Obj'} {tk:Nat→Bool} {ro base ub:Nat} (hru:ro≤ub) :
 ∃ r,EvS E Yf.y 75 [.agg (j7 g),.int .i64 a,.int .i64 key] ob tk ro base ub r∧OthR g a key (writersH g key) ob ub r:=by
 refine J8 (af:=S75) rfl (by decide) ?_
 show wpC E Yf S75.body _ (JY S75.res _)
 obtain ⟨vw,e72,hv⟩:=ev72 hs hm key
 obtain ⟨W,hW⟩:∃ W,writersH g key=W:=⟨_,rfl⟩
 have hWl:W.length≤1000:=by have h1:=J6 (wrB key) g.ts g.ts.length;have h2:=hs.ts;rw [← hW];unfold writersH;omega
 have hWp:W.Pairwise (· < ·):=by rw [← hW];exact (Ql _ (Nat.le_refl _)).2
 rw [hW] at hv ⊢
 have n1:¬ 2 * ub=2 * (ub+64+64):=by omega
 have n2:¬ 2 * (ub+64+64)=2 * ub:=by omega
 simp [S75,j7,j6,n1]
 refine jf e72 (by simp [j7]) rfl (by simp [j7]) ?_
 obtain ⟨nl,hv⟩:=hv
 obtain ⟨t,add,hret⟩:=jfp (ub:=ub+64+64+64+64+64+64) hv
 rw [hret]
 simp
 refine XJ fun st hst=>?_
 obtain ⟨M,hM⟩:∃ M,M=ub+64+64:=⟨_,rfl⟩
 have g1:st.tm 1 = .int .i64 a:=by rw [hst];simp
 have g2:st.tm 2 = .int .i64 key:=by rw [hst];simp
 have g3:st.tm 3 = .ptr (2 * ub+1) ub 0:=by rw [hst];simp
 have g7:st.tm 7 = .map (2 * M+1) M:=by rw [hst,hM];simp
 have g13:st.tm 13 = .sl t nl W.length (W.flatMap intC):=by rw [hst];simp
 have g14:st.tm 14 = .int .i64 W.length:=by rw [hst];simp
 have g15:st.tm 15 = .int .i64 0:=by rw [hst];simp
 have gd:st.df=[]:=by rw [hst];simp
 have gr:st.ro=ro:=by rw [hst];simp
 have gn:M<st.nx:=by rw [hst,hM];simp
 have ph:st.ob (2 * ub+1)=some ⟨ub,.cells (j7 g)⟩:=by rw [hst];simp [n1,j7]
 have pm:st.ob (2 * M+1)=some ⟨M,.mp 0 []⟩:=by rw [hst,hM];simp
 have pf:∀ k,(∀ m,ub≤m→k≠2 * m+1)→st.ob k=ob k:=by
  intro k hk
  have h1:=hk ub (by omega)
  have h2:=hk (ub+64+64) (by omega)
  rw [hst];simp [h1,h2]
 clear hst hret
 have hMu:ub<M:=by omega
 clear hM n1 n2
 refine jL [(9,9),(15,31)] W.length (fun i s=>s.tm 15 = .int .i64 i∧M<s.nx∧s.ob (2 * ub+1)=some ⟨ub,.cells (j7 g)⟩∧(∀ k,(∀ m,ub≤m→k≠2 * m+1)→s.ob k=ob k)∧∃ ver,s.ob (2 * M+1)=some ⟨M,.mp ver (MP valV (Jg g a key (W.take i)))⟩) rfl rfl
  ⟨by simp [g15],gn,ph,pf,0,by simp [pm,Jg,MP]⟩ ?_
 rintro i s hi ⟨h15,hn,oh,of,ver,om⟩ f
 have f1:s.tm 1 = .int .i64 a:=by rw [f.t 1 (by simp),g1]
 have f2:s.tm 2 = .int .i64 key:=by rw [f.t 2 (by simp),g2]
 have f3:s.tm 3 = .ptr (2 * ub+1) ub 0:=by rw [f.t 3 (by simp),g3]
 have f7:s.tm 7 = .map (2 * M+1) M:=by rw [f.t 7 (by simp),g7]
 have f13:s.tm 13 = .sl t nl W.length (W.flatMap intC):=by rw [f.t 13 (by simp),g13]
 have f14:s.tm 14 = .int .i64 W.length:=by rw [f.t 14 (by simp),g14]
 have fd:s.df=[]:=by rw [f.d,gd]
 have fr:s.ro=ro:=by rw [f.r,gr]
 clear f
 by_cases hlt:i<W.length
 ·have hw:=JJ hlt (by omega)
  obtain ⟨x,hx⟩:∃ x,W[i]=x:=⟨_,rfl⟩
  have hI:JZ 1 (.sl t nl W.length (W.flatMap intC)) (.int .i64 (i:Int))=some (.eptr (W.flatMap intC) i):=by
   simp [JZ,hlt,jE jR]
  have hLd:∀ ob,YE ob none (.eptr (W.flatMap intC) i)=some (.int .i64 x):=fun ob=>by
   have h:=ju jR W hlt (by decide:0<1)
   rw [hx,Nat.mul_one,Nat.add_zero] at h
   rw [jau]
   simpa [Xq,intC] using h
  have hsn:=jfr (g:=g) (a:=a) (key:=key) hlt
  have hnw:=jhh (g:=g) (a:=a) (key:=key) hWp hlt
  rw [hx] at hsn hnw
  by_cases hxa:x=a
  ·rw [if_pos hxa,List.append_nil] at hsn
   subst hxa
   simp [h15,f13,f14,hlt,hI,hLd,f1,hw]
   exact ⟨by omega,oh,of,ver,by rw [hsn];exact om⟩
  ·rw [if_neg hxa] at hsn
   have hxa':(x != a)=true:=by simpa using hxa
   have e116:=ev116 hs x key
   simp [h15,f13,f14,hlt,hI,hLd,f1,hxa',f2,f3,oh,j6,f7,j7]
   refine jf e116 (by simp [j7]) rfl (by simp [j7]) ?_
   rw [JR (by simp [V.plain,J1])]
   have hlv:valV (Qo (Xr g x).2 key).1=valV (XP g key x):=rfl
   simp
   refine YG (f:=valV) (a:=XP g key x) (ver:=ver) (l:=2 * M+1) (u:=M) (k:=x) (Jg g a key (W.take i)) (by simp) (by simp) (by simp [valV,XP,J1]) (by simpa using om) (by simp [fr];omega) ?_
   rw [jsw hnw,← hsn]
   have nM:¬ 2 * ub+1=2 * M+1:=by omega
   have nM':¬ 2 * ub=2 * M:=by omega
   simp [h15,hw,nM',oh,j7]
   refine ⟨hlt,by omega,fun k hk=>?_⟩
   have:=hk M (by omega)
   rw [if_neg this]
   exact of k hk
 ·have:i=W.length:=by omega
  subst this
  rw [List.take_length] at om
  simp [h15,f14,f7]
  exact YL (by simp [fd]) ⟨M,M,ver,by simp,by omega,by simp;omega,by omega,by simpa using om,by simpa using of,by simp;omega⟩
end Go.Pv.T

/- Ranges over maps; slices of ints that grow. -/
namespace Go.Pv.T
open Go Go.Pv
section
variable {E:Env} {Yf:YF} {st:St} {ub:Nat} {K:St→Nat→Prop} {d:Option Nat} {nm:Bool}
theorem jjo {x:A} {l u ver:Nat} {es:List (V × V)} (hx:eval E st.tm x = .map l u) (ho:st.ob l=some ⟨u,.mp ver es⟩)
 (h:jae K st d ub { v:=.iter (jY d nm st.fb ub) ub,obs:=[(jY d nm st.fb ub,⟨ub,.miter l u ver es none⟩)] }):jG E Yf ⟨d,.range false x,none,nm⟩ st ub K:=by
 rw [je _ rfl rfl]
 have h1:jg st.ob l u=some es:=by simp [jg,ho]
 have h2:JU st.ob l=ver:=by simp [JU,ho]
 simp only [aop,hx,h1,h2,Option.bind_some,Jt,jX,YC]
 exact h
theorem jhe {l u l' u' ver:Nat} {δ:Delta}:∀ {es pre:List (V × V)},δ∈jhf l u l' u' ver pre es→∃ a k v b,es=a++(k,v)::b∧δ = { v:=.tup [.bool true,k,v],obs:=[(l,⟨u,.miter l' u' ver (pre++a++b) (some (k,v))⟩)] }
 | [],_,h=>by simp [jhf] at h
 | (k,v)::r,pre,h=>by
  rw [jhf,List.mem_cons] at h
  rcases h with h | h
  ·exact ⟨[],k,v,r,rfl,by rw [h];simp⟩
  ·obtain ⟨a,k',v',b,e,hd⟩:=jhe h
   exact ⟨(k,v)::a,k',v',b,by rw [e];rfl,by rw [hd];simp⟩
theorem jmr {x:A} {l u l' u' ver:Nat} {left es:List (V × V)} {last:Option (V × V)} (hx:eval E st.tm x = .iter l u) (ho:st.ob l=some ⟨u,.miter l' u' ver left last⟩) (hm:st.ob l'=some ⟨u',.mp ver es⟩) (hro:st.ro≤u)
 (h0:left=[]→QN K st d ub (.tup [.bool false]))
 (h1:∀ a k v b,left=a++(k,v)::b→jae K st d ub { v:=.tup [.bool true,k,v],obs:=[(l,⟨u,.miter l' u' ver (a++b) (some (k,v))⟩)] }):jG E Yf ⟨d,.nextMap x,none,nm⟩ st ub K:=by
 have e1:(jg st.ob l' u').isSome=true:=by simp [jg,hm]
 have e2:JU st.ob l'=ver:=by simp [JU,hm]
 simp only [jG,wanted,jt,jI]
 cases left with
 | nil =>
  refine ⟨[{ v:=.tup [.bool false] }],?_,?_⟩
  ·simp only [jfw,hx,ho]
   rw [if_pos ⟨Nat.ble_eq ▸ hro,trivial,e1,e2⟩]
  ·intro δ hδ
   rw [List.mem_singleton] at hδ
   subst hδ
   have:=h0 rfl
   rw [Wc]
   exact this
 | cons p r =>
  refine ⟨jhf l u l' u' ver [] (p::r),?_,?_⟩
  ·simp only [jfw,hx,ho]
   rw [if_pos ⟨Nat.ble_eq ▸ hro,trivial,e1,e2⟩]
  ·intro δ hδ
   obtain ⟨a,k,v,b,e,hd⟩:=jhe hδ
   subst hd
   exact h1 a k v b e
theorem jtf {x:A} {l u l' u' ver:Nat} {left es:List (V × V)} {k v:V} (hx:eval E st.tm x = .iter l u) (ho:st.ob l=some ⟨u,.miter l' u' ver left (some (k,v))⟩) (hm:st.ob l'=some ⟨u',.mp ver es⟩)
 (h:QN K st d ub (.tup [k,v])):jG E Yf ⟨d,.entry x,none,nm⟩ st ub K:=by
 have e1:(jg st.ob l' u').isSome=true:=by simp [jg,hm]
 have e2:JU st.ob l'=ver:=by simp [JU,hm]
 rw [je _ rfl rfl]
 simp only [aop,hx,ho]
 rw [if_pos ⟨trivial,e1,e2⟩,Yp,Wc]
 exact h
end
def IntsO (ob:Nat→Option Obj') (p:Nat→Prop) (l:List Int) (v:V):Prop :=
 (l=[]∧v = .sl none true 0 [])∨(l≠[]∧∃ u,v = .osl (2 * u+1) u 0 l.length 1∧ob (2 * u+1)=some ⟨u,.cells (l.flatMap intC)⟩∧p u)
theorem IntsO.frame {ob ob':Nat→Option Obj'} {p p':Nat→Prop} {l:List Int} {v:V} (h:IntsO ob p l v) (hf:∀ u,p u→ob' (2 * u+1)=ob (2 * u+1)) (hh:∀ u,p u→p' u):IntsO ob' p' l v:=by
 rcases h with h | ⟨h1,u,h2,h3,h4⟩
 ·exact Or.inl h
 ·exact Or.inr ⟨h1,u,h2,(hf u h4).trans h3,hh u h4⟩
theorem jqx (st:St) (d:Option Nat) (v:V) (l:Nat) (o:Obj') (kl:List Nat) (k:Nat):(st.app d { v:=v,obs:=[(l,o)],kill:=kl }).ob k=if k=l then some o else if kl.any (Nat.beq k) then none else st.ob k:=by
 simp [St.app,Jb,jB]
theorem jgm (st:St) (d:Option Nat) (v:V) (l:Nat) (o:Obj') (kl:List Nat) (k:Nat) (h:k ∉ kl):(st.app d { v:=v,obs:=[(l,o)],kill:=kl }).ob k=if k=l then some o else st.ob k:=by
 rw [jqx]
 have:(kl.any (Nat.beq k))=false:=by
  rw [List.any_eq_false]
  intro x hx hb
  exact h (Nat.eq_of_beq_eq_true hb ▸ hx)
 rw [this]
 rfl
theorem jak (st:St) (k:Nat):∀ l:List Int,(l.flatMap intC).mapM (Jj st (k+1))=some (l.flatMap intC)
 | []=>rfl
 | a::l=>by
  show ((V.int .i64 a)::l.flatMap intC).mapM _=_
  rw [List.mapM_cons,jak st k l]
  rfl
def Wy (T:List Int):V:=if T.isEmpty then .sl none true 0 [] else .sl (some (0,1)) false T.length (T.flatMap intC)
theorem Qs {st:St} {p:Nat→Prop} {n:Nat} {T:List Int} {v:V} (hd:st.df=[]) (hv:st.tm n=v) (h:IntsO st.ob p T v) (hro:∀ u,p u→st.ro≤u):jtn [.t n] (Wy T) .ret st:=by
 show Wr [.t n] (.ret,st)=some (Wy T)
 rcases h with ⟨rfl,rfl⟩ | ⟨hne,u,rfl,hob,hp⟩
 ·exact jC hd (by rw [hv];rfl) rfl
 ·have hoc:j6 st.ob (2 * u+1) u=some (T.flatMap intC):=by simp [j6,hob]
  have hlen:(T.flatMap intC).length=T.length:=by rw [jE jR];omega
  have hemp:T.isEmpty=false:=by cases T with | nil=>exact absurd rfl hne | cons=>rfl
  have hpos:0<T.length:=List.length_pos_iff.2 hne
  have hs:Jj st 6 (.osl (2 * u+1) u 0 T.length 1)=some (.sl none false T.length (T.flatMap intC)):=by
   show ((j6 st.ob (2 * u+1) u).bind fun cs=>if Nat.ble st.ro u=true∧0+T.length * 1≤cs.length then (((cs.drop 0).take (T.length * 1)).mapM (Jj st 5)).map fun cs'=>V.sl none false T.length cs' else none)=_
   rw [hoc,Option.bind_some]
   rw [if_pos ⟨Nat.ble_eq ▸ hro u hp,by omega⟩]
   rw [List.drop_zero,Nat.mul_one,List.take_of_length_le (by omega),jak]
   rfl
  have ho:jx st true 0 (.osl (2 * u+1) u 0 T.length 1)=some (.sl (some (0,1)) false T.length (T.flatMap intC)):=by
   simp only [jx,hs,Option.bind_some,hoc,Option.map_some]
   have hb:(true && Nat.beq 0 0 && Nat.blt 0 T.length && Nat.beq (T.length * 1) (T.flatMap intC).length)=true:=by
    rw [hlen,Nat.mul_one,Nat.beq_refl,Nat.beq_refl]
    simp
    exact hpos
   rw [hb]
   rfl
  have hto:X4 st true 0 (.osl (2 * u+1) u 0 T.length 1)=some (.sl (some (0,1)) false T.length (T.flatMap intC)):=ho
  have hr:[ARes.t n].mapM (jw st)=some [.osl (2 * u+1) u 0 T.length 1]:=by simp [jw,hv]
  simp only [Wr,Xv hd,Xs hd,if_true,hr,Option.bind_some,YB]
  have hn:nodup ([V.osl (2 * u+1) u 0 T.length 1].flatMap V.toks)=true:=rfl
  rw [hn]
  simp only [JG,hto,Option.bind_some,Option.map_some]
  rw [Wy,hemp]
  rfl
theorem je5 {E:Env} {Yf:YF} {st:St} {ub:Nat} {K:St→Nat→Prop} {d:Option Nat} {p:Nat→Prop} {l:List Int} {z:Int} {v:V} {s x:A} {X uX:Nat} (hs:eval E st.tm s=v) (hv:IntsO st.ob p l v) (hx:eval E st.tm x = .osl X uX 0 1 1) (hX:st.ob X=some ⟨uX,.cells [.int .i64 z]⟩) (hro:∀ u,p u→st.ro≤u) (hl:l.length≤1000)
 (h:∀ kl:List Nat,(∀ k∈kl,∃ u,p u∧k=2 * u+1)→jae K st d ub { v:=.osl (2 * ub+1) ub 0 (l++[z]).length 1,obs:=[(2 * ub+1,⟨ub,.cells ((l++[z]).flatMap intC)⟩)],kill:=kl }) :
 jG E Yf ⟨d,.append true 1 8 s x,none,true⟩ st ub K:=by
 have hsc:jO st.ob 1 (eval E st.tm x)=some [.int .i64 z]:=by
  rw [hx]
  simp [jO,j6,hX]
 rcases hv with ⟨rfl,rfl⟩ | ⟨hne,u,rfl,hob,hp⟩
 ·refine Q8 hs hsc (by simp) (by decide) rfl (by simp) (by simp) ?_
  simpa [intC,jY] using h [] (by simp)
 ·have hlen:(l.flatMap intC).length=l.length:=by rw [jE jR];omega
  refine jaw (cs:=l.flatMap intC) hs hsc hob (by simp) (hro u hp) (by omega) (by decide) rfl (by simp;omega) (by simp;omega) ?_
  have:=h [2 * u+1] (by simp;exact ⟨u,hp,rfl⟩)
  rw [Nat.mul_one,List.take_of_length_le (by omega)]
  simpa [intC,jY] using this
end Go.Pv.T

/- Who may have written what is read: the program's walk. -/
namespace Go.Pv.T
open Go Go.Pv
def Wz (o:Op') (v:Val'):Bool:=o.v.kind == 2 || (v.kind == o.v.kind && v.n == o.v.n)
def J5 (o:Op'):List Int:=if o.v.kind=1 then [] else [-1]
def ofL (g:Hist') (a:Int) (o:Op'):List Int:=J5 o++(writersH g o.key).filter fun i=>!(i == a) && Wz o (XP g o.key i)
def ofH (g:Hist') (a b:Int):List Int:=match opAt g a b with
 | some o=>if o.w then [] else ofL g a o
 | none=>[]
theorem jlj (g:Hist') (k:Int):(writersH g k).Pairwise (· < ·)∧∀ x∈writersH g k,0≤x:=by
 have:=Ql (p:=wrB k) (ts:=g.ts) g.ts.length (Nat.le_refl _)
 exact ⟨this.2,fun x hx=>(this.1 x hx).1⟩
theorem jmg (g:Hist') (a:Int) (o:Op'):(ofL g a o).Pairwise (·≤·):=by
 have h:=jlj g o.key
 unfold ofL J5
 rw [List.pairwise_append]
 refine ⟨?_,?_,?_⟩
 ·split <;> simp
 ·exact ((h.1.imp (fun h=>Int.le_of_lt h)).filter _)
 ·intro x hx y hy
  have hy':=h.2 y (List.mem_filter.1 hy).1
  split at hx
  ·cases hx
  ·rw [List.mem_singleton] at hx;omega
theorem jb9 (g:Hist') (k:Int):(writersH g k).length≤g.ts.length:=by
 unfold writersH
 exact J6 (wrB k) g.ts g.ts.length
theorem jw8 {g:Hist'} (hm:g.ts.length≤40) (a:Int) (o:Op'):(ofL g a o).length≤41:=by
 unfold ofL J5
 rw [List.length_append]
 have h1:=List.length_filter_le (fun i=>!(i == a) && Wz o (XP g o.key i)) (writersH g o.key)
 have h2:=jb9 g o.key
 split <;> simp <;> omega
theorem jpj {g:Hist'} (hm:Jr g=true):g.ts.length≤40:=by
 unfold Jr Xn at hm
 simp only [Bool.and_eq_true,decide_eq_true_eq] at hm
 exact hm.1.2.2.2.2
def Xj (o:Op') (P:List (Int × Val')):List Int:=(P.filter fun p=>Wz o p.2).map (·.1)
theorem ji9 {g:Hist'} {a:Int} {o:Op'} {P:List (Int × Val')} (h:P.Perm (Jg g a o.key (writersH g o.key))):(J5 o++Xj o P).Perm (ofL g a o):=by
 unfold ofL
 refine List.Perm.append_left _ ?_
 have h2:(Xj o P).Perm (Xj o (Jg g a o.key (writersH g o.key))):=(h.filter _).map _
 refine h2.trans ?_
 have e:Xj o (Jg g a o.key (writersH g o.key))=(writersH g o.key).filter fun i=>!(i == a) && Wz o (XP g o.key i):=by
  unfold Xj Jg
  rw [List.filter_map,List.map_map,List.filter_filter]
  have:((fun x:Int × Val'=>x.1) ∘ fun i=>(i,XP g o.key i))=id:=rfl
  rw [this,List.map_id]
  congr 1
  funext i
  simp only [Function.comp,Bool.and_comm]
 rw [e]
theorem juf {m:List (Int × Val')} {A B:List (V × V)} {k v:V} (h:MP valV m=A++(k,v)::B):∃ A' p B',m=A'++p::B'∧A=MP valV A'∧B=MP valV B'∧k = .int .i64 p.1∧v=valV p.2:=by
 unfold MP at h
 obtain ⟨A',C,e1,e2,e3⟩:=List.map_eq_append_iff.1 h
 obtain ⟨p,B',e4,e5,e6⟩:=List.map_eq_cons_iff.1 e3
 subst e4
 have:=Prod.mk.inj e5
 exact ⟨A',p,B',e1,e2.symm,e6.symm,this.1.symm,this.2.symm⟩
theorem jvj (a b:List (Int × Val')):MP valV a++MP valV b=MP valV (a++b):=by simp [MP]
theorem jux {x:Nat} (h:640≤x):¬ 2 * x=1152:=by omega
theorem ev27 {g:Hist'} (hs:Small g) (a b:Int):Ev E 27 [.agg (j7 g),.agg (jP (a,b))] (Wy (ofH g a b)):=by
 have e74:=ev74 hs a b
 refine jc (af:=F27) rfl ?_
 unfold ofH
 cases hop:opAt g a b with
 | none =>
  rw [hop] at e74
  simp [F27,j7,j6,jP]
  refine jf e74 (by simp [j7,jP]) rfl (by simp [j7,jP]) ?_
  rw [JR (by simp [V.plain,opC])]
  simp [jD,opC,op0,j6]
  exact Qs (p:=fun _=>True) (by simp) rfl (Or.inl ⟨rfl,by simp⟩) (by simp)
 | some o =>
  rw [hop] at e74
  simp only [Option.getD_some,Option.any_some] at e74
  have hmay:Jr g=true:=by
   unfold opAt at hop
   cases hm:Jr g
   ·rw [hm] at hop;cases hop
   ·rfl
  have hts:=jpj hmay
  simp [F27,j7,j6,jP]
  refine jf e74 (by simp [j7,jP]) rfl (by simp [j7,jP]) ?_
  rw [JR (by simp [V.plain,opC])]
  cases hw:o.w
  ·simp [jD,opC,j6]
   generalize hK:jea E Xx _ (jtn _ _)=K
   have rest:∀ (s:St) (v:V),s.tm 2 = .ptr 1 0 0→s.tm 3 = .ptr 129 64 0→s.tm 5 = .ptr 1153 576 0→s.ob 1=some ⟨0,.cells (j7 g)⟩→s.ob 129=some ⟨64,.cells [.int .i64 a,.int .i64 b]⟩→s.ob 1153=some ⟨576,.cells (opC o)⟩ →
    s.tm 7=v→IntsO s.ob (fun u=>640≤u∧u<s.nx) (J5 o) v→s.df=[]→s.ro=0→640≤s.nx→K .nrm s:=by
    intro s v h2 h3 h5 o1 o3 o5 h7 hv hd hr hn
    rw [← hK]
    clear hK
    simp [h2,h3,h5,o1,o3,o5,j6,opC,j7]
    refine jQ (vs:=[.agg (j7 g),.int .i64 a,.int .i64 o.key]) (by simp [j7]) rfl (sv75 hs hmay a o.key (by simp [hr])) ?_
    rintro w ob1 tk1 ub1 ⟨M,U,ver,e1,e2,e3,e4,e5,e6,e7⟩
    simp only at e1 e3 e5 e6 e7
    subst e1
    simp
    refine jjo (l:=2 * M+1) (u:=U) (ver:=ver) (by simp) (by simpa using e5) ?_
    simp
    refine XJ fun st hst=>?_
    have hub0:640≤ub1:=by first | omega | (simp at e7;omega)
    have hM0:640≤M:=by first | omega | (simp at e2;omega)
    obtain ⟨OTH,hOTH⟩:∃ l,Jg g a o.key (writersH g o.key)=l:=⟨_,rfl⟩
    rw [hOTH] at e5 hst
    have hfr:∀ k,(∀ m,s.nx≤m→k≠2 * m+1)→ob1 k=s.ob k:=fun k hk=>(e6 k (fun m hm=>hk m (by first | omega | (simp at hm;omega)))).trans (by simp)
    have hMs:s.nx≤M:=by first | omega | (simp at e2;omega)
    have g5:st.tm 5 = .ptr 1153 576 0:=by rw [hst];simp [h5]
    have g7:st.tm 7=v:=by rw [hst];simp [h7]
    have g31:st.tm 31 = .iter (2 * ub1+1) ub1:=by rw [hst];simp
    have gd:st.df=[]:=by rw [hst];simp [hd]
    have gr:st.ro=0:=by rw [hst];simp [hr]
    have gn:ub1<st.nx:=by rw [hst];simp
    have gf:∀ k,k≠2 * ub1+1→st.ob k=ob1 k:=by
     intro k hk
     rw [hst];simp [hk]
    have pi:st.ob (2 * ub1+1)=some ⟨ub1,.miter (2 * M+1) U ver (MP valV OTH) none⟩:=by rw [hst];simp
    have pm:st.ob (2 * M+1)=some ⟨U,.mp ver (MP valV OTH)⟩:=(gf _ (by omega)).trans e5
    have p5:st.ob 1153=some ⟨576,.cells (opC o)⟩:=(gf _ (by omega)).trans ((hfr _ (fun m hm=>by omega)).trans o5)
    have pv:IntsO st.ob (fun u=>640≤u∧u≠M∧u≠ub1∧u<st.nx) (J5 o++Xj o []) v:=by
     rw [show Xj o []=[] from rfl,List.append_nil]
     refine hv.frame (fun u hu=>?_) (fun u hu=>⟨hu.1,by omega,by first | omega | (simp at e7;omega),by first | omega | (simp at e7;omega)⟩)
     exact (gf _ (by first | omega | (simp at e7;omega))).trans (hfr _ (fun m hm=>by omega))
    clear hst e6 e5 hfr
    obtain ⟨J,hJ⟩:∃ J:Nat→St→Prop,J=fun n s=>∃ (P m':List (Int × Val')) (v:V) (last:Option (V × V)),n=m'.length∧(P++m').Perm OTH∧s.tm 7=v∧IntsO s.ob (fun u=>640≤u∧u≠M∧u≠ub1∧u<s.nx) (J5 o++Xj o P) v ∧
     s.ob (2 * ub1+1)=some ⟨ub1,.miter (2 * M+1) U ver (MP valV m') last⟩∧s.ob (2 * M+1)=some ⟨U,.mp ver (MP valV OTH)⟩∧s.ob 1153=some ⟨576,.cells (opC o)⟩∧ub1<s.nx:=⟨_,rfl⟩
    refine JI (n:=OTH.length) [(7,9),(32,50)] J rfl rfl (by rw [hJ];exact ⟨[],OTH,v,none,rfl,by simp,g7,pv,pi,pm,p5,gn⟩) ?_
    clear h7 hv g7 pv pi pm p5 gn v
    intro n s hJs f
    rw [hJ] at hJs
    obtain ⟨P,m',v,last,rfl,hperm,h7,hv,oi,om,o5',hn1⟩:=hJs
    have f5:s.tm 5 = .ptr 1153 576 0:=by rw [f.t 5 (by simp)];exact g5
    have f31:s.tm 31 = .iter (2 * ub1+1) ub1:=by rw [f.t 31 (by simp)];exact g31
    have fd:s.df=[]:=by rw [f.d];exact gd
    have fr:s.ro=0:=by rw [f.r];exact gr
    clear f
    have hPl:(P++m').length≤40:=by
     rw [hperm.length_eq,← hOTH]
     unfold Jg
     rw [List.length_map]
     have:=List.length_filter_le (fun i=>!(i == a)) (writersH g o.key)
     have:=jb9 g o.key
     omega
    rw [List.length_append] at hPl
    have hpl:(Xj o P).length≤P.length:=by
     unfold Xj
     rw [List.length_map]
     exact List.length_filter_le _ _
    have hsl:(J5 o).length≤1:=by unfold J5;split <;> simp
    simp
    refine jmr (l:=2 * ub1+1) (u:=ub1) (l':=2 * M+1) (u':=U) (ver:=ver) (es:=MP valV OTH) (left:=MP valV m') (by simp [f31]) oi om (by simp [fr]) ?_ ?_
    ·intro hemp
     have hm0:m'=[]:=by
      unfold MP at hemp
      exact List.map_eq_nil_iff.1 hemp
     subst hm0
     rw [List.append_nil] at hperm
     have hpp:=ji9 (g:=g) (a:=a) (o:=o) (P:=P) (by rw [hOTH];exact hperm)
     have hlen:=hpp.length_eq
     simp [h7]
     rcases hv with ⟨hnil,rfl⟩ | ⟨hne,u,rfl,hob,hu⟩
     ·rw [hnil] at hpp
      have hT:ofL g a o=[]:=List.perm_nil.1 hpp.symm
      refine jQ (vs:=[.sl none true 0 []]) (by simp) rfl sv76n ?_
      rintro w ob2 tk2 ub2 ⟨q1,q2,q3⟩
      simp [h7]
      exact Qs (p:=fun _=>True) (by simp [fd]) rfl (Or.inl ⟨hT,by simp⟩) (by simp [fr])
     ·refine jQ (vs:=[.osl (2 * u+1) u 0 (J5 o++Xj o P).length 1]) (by simp) rfl (sv76 hpp (jmg g a o) (by rw [List.length_append];omega) (by simpa using hob) (by simp [fr]) (fun m hm=>by have:=hu.2.2.2;first | omega | (simp at hm;omega)) (by simp [fr])) ?_
      rintro w ob2 tk2 ub2 hat
      simp only at hat
      simp [h7]
      refine Qs (p:=fun _=>True) (by simp [fd]) rfl (Or.inr ⟨?_,u,?_,by simpa using hat.1,trivial⟩) (by simp [fr])
      ·intro hT
       rw [hT] at hpp
       exact hne (List.perm_nil.1 hpp)
      ·rw [← hlen];simp
    ·intro A k w B hsp
     obtain ⟨A',q,B',rfl,rfl,rfl,rfl,rfl⟩:=juf hsp
     have hperm':((P++[q])++(A'++B')).Perm OTH:=by
      refine List.Perm.trans ?_ hperm
      rw [List.append_assoc]
      exact List.Perm.append_left _ (by simpa using List.perm_middle.symm)
     have nM:¬ 2 * M+1=2 * ub1+1:=by omega
     simp
     refine jtf (l:=2 * ub1+1) (u:=ub1) (l':=2 * M+1) (u':=U) (ver:=ver) (es:=MP valV OTH) (left:=MP valV A'++MP valV B') (k:=.int .i64 q.1) (v:=valV q.2) (by simp [f31]) (by simp) (by simp [show ¬ 2 * M=2 * ub1 by omega,om]) ?_
     have n5:¬ 1153=2 * ub1+1:=by omega
     simp [valV,J1,jD,fr,j6]
     generalize hK2:jea E Xx (C.cond _ _ _) _=K2
     have restF:∀ (s1:St) (fit:Bool),fit=Wz o q.2→s1.tm 46 = .bool fit→s1.tm 7=v→s1.tm 8 = .int .i64 q.1→IntsO s1.ob (fun u=>640≤u∧u≠M∧u≠ub1∧u<s1.nx) (J5 o++Xj o P) v →
      s1.ob (2 * ub1+1)=some ⟨ub1,.miter (2 * M+1) U ver (MP valV (A'++B')) (some (.int .i64 q.1,valV q.2))⟩→s1.ob (2 * M+1)=some ⟨U,.mp ver (MP valV OTH)⟩→s1.ob 1153=some ⟨576,.cells (opC o)⟩→ub1<s1.nx→s1.df=[]→s1.ro=0→K2 .nrm s1:=by
      intro s1 fit hfit h46 h7 h8 hv oi om o5 hn hd hr
      rw [← hK2]
      have hpk:Xj o (P++[q])=Xj o P++(if fit then [q.1] else []):=by
       unfold Xj
       rw [List.filter_append,List.map_append,hfit]
       cases hf:Wz o q.2 <;> simp [hf]
      have hml:(A'++B').length<(A'++q::B').length:=by simp
      cases fit
      ·simp only [Bool.false_eq_true,if_false,List.append_nil] at hpk
       simp [h46]
       exact ⟨(A'++B').length,by first | omega | (simp;done) | (simp;omega),by rw [hJ];exact ⟨P++[q],A'++B',v,some (.int .i64 q.1,valV q.2),rfl,hperm',by simp [h7],by rw [hpk];exact hv.frame (fun u _=>by simp) (fun u hu=>⟨hu.1,hu.2.1,hu.2.2.1,by have:=hu.2.2.2;first | omega | (simp;omega)⟩),by simp [oi],by simp [om],by simp [o5],by first | omega | (simp;omega)⟩⟩
      ·simp only [if_true] at hpk
       simp [h46,h7,h8]
       refine XY (cs:=[.int .i64 q.1]) (by simp [jD]) rfl rfl ?_
       simp
       refine je5 (p:=fun u=>640≤u∧u≠M∧u≠ub1∧u<s1.nx) (l:=J5 o++Xj o P) (z:=q.1) (v:=v) (X:=2 * (s1.nx+64+64)+1) (uX:=s1.nx+64+64) (by simp) (hv.frame (fun u hu=>?_) (fun _ h=>h)) (by simp) (by simp) (by simp [hr]) (by rw [List.length_append];simp at hPl;omega) (fun kl hkl=>?_)
       ·have:¬ 2 * u=2 * (s1.nx+64+64):=by have:=hu.2.2.2;omega
        simp [this]
       have nk:∀ z:Nat,(∀ u,640≤u→u≠M→u≠ub1→z≠2 * u+1)→z ∉ kl:=fun z hz hm=>by
        obtain ⟨u,hu,e⟩:=hkl z hm
        exact hz u hu.1 hu.2.1 hu.2.2.1 e
       have k1:=nk (2 * ub1+1) (fun u _ _ h e=>h (by omega))
       have k2:=nk (2 * M+1) (fun u _ h _ e=>h (by omega))
       have k3:=nk 1153 (fun u h _ _ e=>by omega)
       obtain ⟨Z,hZ⟩:∃ Z,s1.nx+64+64+64=Z:=⟨_,rfl⟩
       have d1:¬ 2 * ub1+1=2 * Z+1:=by omega
       have d2:¬ 2 * M+1=2 * Z+1:=by omega
       have d3:¬ 1153=2 * Z+1:=by omega
       have b1:¬ 2 * ub1+1=2 * (s1.nx+64+64)+1:=by omega
       have b2:¬ 2 * M+1=2 * (s1.nx+64+64)+1:=by omega
       have b3:¬ 1153=2 * (s1.nx+64+64)+1:=by omega
       have hnx:∀ X:Prop,X→X:=fun _ h=>h
       simp only [hZ]
       simp
       refine ⟨(A'++B').length,by first | omega | (simp;done) | (simp;omega),?_⟩
       rw [hJ]
       refine ⟨P++[q],A'++B',.osl (2 * Z+1) Z 0 (J5 o++Xj o (P++[q])).length 1,some (.int .i64 q.1,valV q.2),rfl,hperm',by simp [hpk],Or.inr ⟨by rw [hpk];simp,Z,rfl,?_,by omega,by omega,by omega,?_⟩,?_,?_,?_,?_⟩
       ·simp only [JX,Y9]
        rw [jqx,if_pos rfl,hpk]
        simp
       ·first | omega | (simp;done) | (simp;omega)
       ·simp only [JX,Y9]
        rw [jgm _ _ _ _ _ _ _ k1,if_neg d1]
        simp only [Jq,Y9,if_neg b1]
        exact oi
       ·simp only [JX,Y9]
        rw [jgm _ _ _ _ _ _ _ k2,if_neg d2]
        simp only [Jq,Y9,if_neg b2]
        exact om
       ·simp only [JX,Y9]
        rw [jgm _ _ _ _ _ _ _ k3,if_neg d3]
        simp only [Jq,Y9,if_neg b3]
        exact o5
       ·first | omega | (simp;done) | (simp;omega)
     clear hK2
     have c1:¬ 2 * ub1=2 * (s.nx+64+64+64+64+64):=by omega
     have c2:¬ 2 * M=2 * (s.nx+64+64+64+64+64):=by omega
     have c3:¬ 2 * M=2 * ub1:=by omega
     have hsn:640≤s.nx+64+64+64+64+64:=Nat.le_trans (Nat.le_trans hub0 (Nat.le_of_lt hn1)) (by simp [Nat.add_assoc])
     have nq:=jux hsn
     have n5':=jux hub0
     cases hk2:(o.v.kind == 2)
     ·simp [f5,o5',j6,opC,n5,nq,hk2]
      refine restF _ (q.2.kind == o.v.kind && q.2.n == o.v.n) (by unfold Wz;rw [hk2];rfl) (by simp) (by simp [h7]) (by simp) (hv.frame (fun u hu=>?_) (fun u hu=>⟨hu.1,hu.2.1,hu.2.2.1,by have:=hu.2.2.2;first | omega | (simp;omega)⟩)) (by simp [c1,jvj,valV,J1]) (by simp [c2,c3,om]) (by simp [nq,n5',o5',opC]) (by first | omega | (simp;omega)) (by simp [fd]) (by simp [fr])
      have a1:¬ 2 * u=2 * (s.nx+64+64+64+64+64):=by have:=hu.2.2.2;omega
      have a2:¬ 2 * u=2 * ub1:=by have:=hu.2.2.1;omega
      simp [a1,a2]
     ·simp [f5,o5',j6,opC,n5,nq,hk2]
      refine restF _ true (by unfold Wz;rw [hk2];rfl) (by simp) (by simp [h7]) (by simp) (hv.frame (fun u hu=>?_) (fun u hu=>⟨hu.1,hu.2.1,hu.2.2.1,by have:=hu.2.2.2;first | omega | (simp;omega)⟩)) (by simp [c1,jvj,valV,J1]) (by simp [c2,c3,om]) (by simp [nq,n5',o5',opC]) (by first | omega | (simp;omega)) (by simp [fd]) (by simp [fr])
      have a1:¬ 2 * u=2 * (s.nx+64+64+64+64+64):=by have:=hu.2.2.2;omega
      have a2:¬ 2 * u=2 * ub1:=by have:=hu.2.2.1;omega
      simp [a1,a2]
   clear hK
   refine jp2 fun st hst=>?_
   have g2:st.tm 2 = .ptr 1 0 0:=by rw [hst];simp
   have g3:st.tm 3 = .ptr 129 64 0:=by rw [hst];simp
   have g5:st.tm 5 = .ptr 1153 576 0:=by rw [hst];simp
   have g7:st.tm 7 = .sl none true 0 []:=by rw [hst];simp
   have p1:st.ob 1=some ⟨0,.cells (j7 g)⟩:=by rw [hst];simp [j7]
   have p3:st.ob 129=some ⟨64,.cells [.int .i64 a,.int .i64 b]⟩:=by rw [hst];simp
   have p5:st.ob 1153=some ⟨576,.cells (opC o)⟩:=by rw [hst];simp [opC,hw]
   have gd:st.df=[]:=by rw [hst];simp
   have gr:st.ro=0:=by rw [hst];simp
   have gn:640≤st.nx:=by rw [hst];simp
   clear hst
   cases hk1:(o.v.kind != 1)
   ·have hk:o.v.kind=1:=by simpa using hk1
    simp
    exact rest _ _ g2 g3 g5 p1 p3 p5 g7 (Or.inl ⟨by simp [J5,hk],rfl⟩) gd gr gn
   ·have hk:¬ o.v.kind=1:=by simpa using hk1
    simp [g7]
    refine XY (cs:=[.int .i64 (-1)]) (by simp [jD]) rfl rfl ?_
    simp
    refine je5 (p:=fun _=>False) (l:=[]) (z:=-1) (v:=.sl none true 0 []) (X:=2 * (st.nx+64)+1) (uX:=st.nx+64) (by simp) (Or.inl ⟨rfl,rfl⟩) (by simp) (by simp) (fun _ h=>h.elim) (by simp) (fun kl hkl=>?_)
    have hkl0:kl=[]:=by
     cases kl with
     | nil=>rfl
     | cons k _=>obtain ⟨_,h,_⟩:=hkl k (by simp);exact h.elim
    subst hkl0
    have n1:¬ 1=2 * (st.nx+64+64)+1:=by omega
    have n1':¬ 1=2 * (st.nx+64)+1:=by omega
    have n3:¬ 129=2 * (st.nx+64+64)+1:=by omega
    have n3':¬ 129=2 * (st.nx+64)+1:=by omega
    have n5:¬ 1153=2 * (st.nx+64+64)+1:=by omega
    have n5':¬ 1153=2 * (st.nx+64)+1:=by omega
    simp
    refine rest _ (.osl (2 * (st.nx+64+64)+1) (st.nx+64+64) 0 1 1) (by simp [g2]) (by simp [g3]) (by simp [g5]) ?_ ?_ ?_ (by simp) (Or.inr ⟨by simp [J5,hk],st.nx+64+64,by simp [J5,hk],by simp [J5,hk,intC],by omega,by simp⟩) (by simp [gd]) (by simp [gr]) (by simp;omega)
    ·simp only [JX,Y9,Jq,if_neg n1,if_neg n1'];exact p1
    ·simp only [JX,Y9,Jq,if_neg n3,if_neg n3'];exact p3
    ·simp only [JX,Y9,Jq,if_neg n5,if_neg n5'];exact p5
  ·simp [jD,opC,j6]
   exact Qs (p:=fun _=>True) (by simp) rfl (Or.inl ⟨rfl,by simp⟩) (by simp)
end Go.Pv.T

/- Who may have written what is read: the reference's read. -/
namespace Go.Pv.T
open Go Go.Pv
set_option maxRecDepth 100000 in
theorem ev77 {h:Hist'} (hs:Small h) (a b:Int):Ev E 77 [.agg (j7 h),.agg (jP (a,b))] (.bool ((opAt h a b).any fun o=>!o.w)):=by
 have e32:=ev32 hs
 have hts:=hs.ts
 refine jc (af:=F77) rfl ?_
 obtain ⟨R,hR⟩:∃ R,opAt h a b=R:=⟨_,rfl⟩
 rw [hR]
 unfold opAt at hR
 simp [F77,j7,j6,jP]
 refine Xt e32 (by simp [j7]) rfl (by simp [j7]) ?_
 cases hm:Jr h
 ·rw [WT hm]
  rw [hm] at hR
  subst hR
  simp
  exact jC (by simp) (by simp) rfl
 rw [hm] at hR
 rw [YD hm]
 by_cases k1n:a<0
 ·have k1:¬ 0≤a:=by omega
  rw [if_neg (by simp;omega)] at hR
  subst hR
  simp [k1,j6]
  exact jC (by simp) (by simp) rfl
 have k1:0≤a:=by omega
 by_cases k2n:(h.ts.length:Int)≤a
 ·have k2:¬ (a<(h.ts.length:Int)):=by omega
  rw [if_neg (by simp;omega)] at hR
  subst hR
  simp [k1,k2,j6]
  exact jC (by simp) (by simp) rfl
 have k2:a<(h.ts.length:Int):=by omega
 by_cases k3n:b<0
 ·have k3:¬ 0≤b:=by omega
  rw [if_neg (by simp;omega)] at hR
  subst hR
  simp [k1,k2,k3,j6]
  exact jC (by simp) (by simp) rfl
 have k3:0≤b:=by omega
 obtain ⟨i,rfl⟩:∃ i:Nat,a=i:=⟨a.toNat,by omega⟩
 have hi:i<h.ts.length:=by omega
 rw [Int.toNat_natCast,JB hi] at hR
 obtain ⟨t,ht⟩:∃ t,h.ts[i]=t:=⟨_,rfl⟩
 rw [ht] at hR
 have hl3:(h.ts.flatMap txnC)[i * 3+2]? = some (jl t.nl opC t.ops):=by
  rw [ju jH h.ts hi (by decide:2<3),ht];rfl
 by_cases k4n:(t.ops.length:Int)≤b
 ·have k4:¬ (b<(t.ops.length:Int)):=by omega
  rw [if_neg (by simp;omega)] at hR
  subst hR
  simp [k1,k2,k3,k4,j6,hi,jF jH,hl3]
  exact jC (by simp) (by simp) rfl
 have k4:b<(t.ops.length:Int):=by omega
 obtain ⟨j,rfl⟩:∃ j:Nat,b=j:=⟨b.toNat,by omega⟩
 have hj:j<t.ops.length:=by omega
 rw [if_pos (by simp;omega),Int.toNat_natCast,List.getElem?_eq_getElem hj] at hR
 obtain ⟨o,ho⟩:∃ o,t.ops[j]=o:=⟨_,rfl⟩
 rw [ho] at hR
 subst hR
 have a0:(t.ops.flatMap opC)[j * 4]? = some (.bool o.w):=by
  have:=ju jK t.ops hj (by decide:0<4)
  rw [Nat.add_zero,ho] at this
  rw [this];rfl
 simp [k1,k2,k3,k4,j6,hi,jF jH,hl3]
 simp [hj,jF jK,a0]
 exact jC (by simp) (by simp) rfl
end Go.Pv.T

/- Who may have written what is read: the reference's list. -/
namespace Go.Pv.T
open Go Go.Pv
def jn3 (o:Op') (a:Int) (i:Nat) (t:Txn'):Bool:=(!((i:Int) == a) && (t.f != 2)) && ((J3 o.key t.ops t.ops.length).2 && Wz o (J3 o.key t.ops t.ops.length).1)
def Xi (ts:List Txn') (a:Int) (o:Op'):Nat→List Int
 | 0=>J5 o
 | i+1=>Xi ts a o i++(match ts[i]? with | some t=>if jn3 o a i t then [(i:Int)] else [] | none=>[])
theorem jer {ts:List Txn'} {a:Int} {o:Op'} {i:Nat} (h:i<ts.length):Xi ts a o (i+1)=Xi ts a o i++(if jn3 o a i ts[i] then [(i:Int)] else []):=by
 simp [Xi,List.getElem?_eq_getElem h]
theorem jha (ts:List Txn') (a:Int) (o:Op'):∀ i,(Xi ts a o i).length≤i+1
 | 0=>by unfold Xi J5;split <;> simp
 | i+1=>by
  have:=jha ts a o i
  simp only [Xi,List.length_append]
  split
  ·split <;> simp <;> omega
  ·simp;omega
theorem jav {g:Hist'} (hm:Jr g=true) (key:Int) {i:Nat} (h:i<g.ts.length):XP g key i=(J3 key g.ts[i].ops g.ts[i].ops.length).1:=by
 unfold XP Qo Xr
 rw [hm,if_pos (by simp;omega)]
 simp only [Int.toNat_natCast]
 rw [JB h]
theorem jkl {g:Hist'} (hm:Jr g=true) (a:Int) (o:Op'):∀ i,i≤g.ts.length→Xi g.ts a o i=J5 o++(numsTo (wrB o.key) g.ts i).filter fun i=>!(i == a) && Wz o (XP g o.key i)
 | 0,_=>by simp [Xi,numsTo]
 | i+1,h=>by
  rw [jer (by omega),JT (by omega),List.filter_append,jkl hm a o i (by omega),List.append_assoc]
  congr 2
  have hr:=Qc o.key (g.ts[i]).ops (g.ts[i]).ops.length (Nat.le_refl _)
  rw [List.take_length] at hr
  have hl:=jav hm o.key (show i<g.ts.length by omega)
  unfold jn3 wrB
  rw [hr]
  cases h1:(g.ts[i].ops.any (wkB o.key)) <;> cases h2:(g.ts[i].f != 2) <;> cases h3:((i:Int) == a) <;> simp [List.filter_cons,h3,hl]
theorem jn9 {g:Hist'} (hm:Jr g=true) (a:Int) (o:Op'):Xi g.ts a o g.ts.length=ofL g a o:=jkl hm a o _ (Nat.le_refl _)
theorem Qj {g:Hist'} {a b:Int} {o:Op'} (h:opAt g a b=some o):∃ i j:Nat,a=i∧b=j∧∃ (hi:i<g.ts.length) (hj:j<(g.ts[i]).ops.length),(g.ts[i]).ops[j]=o:=by
 unfold opAt at h
 by_cases hc:(Jr g && (decide (0≤a) && (decide (a<g.ts.length) && (decide (0≤b) && decide (b<((g.ts.getD a.toNat ⟨0,0,true,[]⟩).ops.length:Nat))))))=true
 ·rw [if_pos hc] at h
  simp only [Bool.and_eq_true,decide_eq_true_eq] at hc
  obtain ⟨_,h1,h2,h3,h4⟩:=hc
  obtain ⟨i,rfl⟩:∃ i:Nat,a=i:=⟨a.toNat,by omega⟩
  obtain ⟨j,rfl⟩:∃ j:Nat,b=j:=⟨b.toNat,by omega⟩
  have hi:i<g.ts.length:=by omega
  rw [Int.toNat_natCast,JB hi] at h h4
  have hj:j<(g.ts[i]).ops.length:=by omega
  rw [Int.toNat_natCast,List.getElem?_eq_getElem hj] at h
  exact ⟨i,j,rfl,rfl,hi,hj,Option.some.inj h⟩
 ·rw [if_neg hc] at h
  cases h
theorem ev28' {g:Hist'} (hs:Small g) (a b:Int):∃ v,Ev E 28 [.agg (j7 g),.agg (jP (a,b))] v∧SlR v false (ofH g a b).length ((ofH g a b).flatMap intC):=by
 have e77:=ev77 hs a b
 refine YV (af:=F28) rfl (by decide) ?_
 unfold ofH
 cases hop:opAt g a b with
 | none =>
  rw [hop] at e77
  simp [F28,j7,jP]
  refine jT (cs:=[]) rfl rfl rfl ?_
  simp [j6]
  refine jf e77 (by simp [j7,jP]) rfl (by simp [j7,jP]) ?_
  simp
  exact slE (t:=some (192,1)) (nl:=false) (k:=0) (cs:=[]) (fun r h=>h) (by simp) (by simp)
 | some o =>
  rw [hop] at e77
  simp only [Option.any_some] at e77
  have hmay:Jr g=true:=by
   unfold opAt at hop
   cases hm:Jr g
   ·rw [hm] at hop;cases hop
   ·rfl
  have hts:=jpj hmay
  simp [F28,j7,jP]
  refine jT (cs:=[]) rfl rfl rfl ?_
  simp [j6]
  refine jf e77 (by simp [j7,jP]) rfl (by simp [j7,jP]) ?_
  cases hw:o.w
  ·obtain ⟨i,j,rfl,rfl,hi,hj,ho⟩:=Qj hop
   have hl3:(g.ts.flatMap txnC)[i * 3+2]? = some (jl (g.ts[i]).nl opC (g.ts[i]).ops):=by
    rw [ju jH g.ts hi (by decide:2<3)];rfl
   have hl4:=fun ob=>ja jK ob (g.ts[i]).ops hj
   rw [ho] at hl4
   simp [j6,hi,hj,jF jH,jF jK,hl3,hl4]
   refine ⟨by simp [opC],by simp [Jw,WJ,jbn,Qx,rdOb,rdTk,lOf,Delta.wo,Delta.wt,opC];try decide,?_⟩
   simp [opC]
   generalize hK:jea E Xx _ (jeb _ _)=K
   have rest:∀ (s:St) (U:Nat) (v:V),s.tm 2 = .ptr 4 0 0→s.tm 3 = .ptr 6 64 0→s.tm 6 = .ptr 12 U 0→s.ob 4=some ⟨0,.cells (j7 g)⟩→s.ob 6=some ⟨64,.cells [.int .i64 i,.int .i64 j]⟩→s.ob 12=some ⟨U,.cells (opC o)⟩ →
    s.tm 5=v→GrowT s.tk s.nx intC 1 (J5 o) v→s.df=[]→s.ro=0→s.fb=0→K .nrm s:=by
    intro s U v h2 h3 h6 o4 o6 o12 h5 hv hd hr hb
    rw [← hK]
    clear hK e77 hop
    simp
    generalize (i:Int)=a at *
    refine jL [(5,5),(7,9),(34,90)] g.ts.length (fun n s=>s.tm 7 = .int .i64 n∧s.ob 4=some ⟨0,.cells (j7 g)⟩∧s.ob 6=some ⟨64,.cells [.int .i64 a,.int .i64 j]⟩∧s.ob 12=some ⟨U,.cells (opC o)⟩∧GrowT s.tk s.nx intC 1 (Xi g.ts a o n) (s.tm 5)) rfl rfl ⟨by simp,by simp [o4],by simp [o6],by simp [o12],by rw [Xi];simp [h5];exact hv.mono (fun _ _ h=>h) (by omega)⟩ ?_
    rintro n s' hn ⟨h7,o4,o6,o12,hG⟩ f
    have f2:s'.tm 2 = .ptr 4 0 0:=by rw [f.t 2 (by simp)];simp [h2]
    have f3:s'.tm 3 = .ptr 6 64 0:=by rw [f.t 3 (by simp)];simp [h3]
    have f6:s'.tm 6 = .ptr 12 U 0:=by rw [f.t 6 (by simp)];simp [h6]
    have fd:s'.df=[]:=by rw [f.d];simp [hd]
    have fb:s'.fb=0:=by rw [f.b];simp [hb]
    have fr:s'.ro=0:=by rw [f.r];simp [hr]
    clear f
    by_cases hlt:n<g.ts.length
    ·have hw:=JJ hlt (by omega)
     have hsn:=jer (a:=a) (o:=o) hlt
     obtain ⟨t,ht⟩:∃ t,g.ts[n]=t:=⟨_,rfl⟩
     rw [ht] at hsn
     have hos:=hs.os t (ht ▸ List.getElem_mem hlt)
     have hll:=jha g.ts a o n
     have hff:(g.ts.flatMap txnC)[n * 3+1]? = some (.int .i64 t.f):=by
      rw [ju jH g.ts hlt (by decide:1<3),ht];rfl
     have hfo:(g.ts.flatMap txnC)[n * 3+2]? = some (jl t.nl opC t.ops):=by
      rw [ju jH g.ts hlt (by decide:2<3),ht];rfl
     have e78:=ev78 t (by omega) o.key
     simp [h7,f2,f6,o4,o12,j6,j7,opC,hlt,jF jH,ja jH,ht,hfo]
     refine Xt e78 (by simp [txnC]) rfl (by simp [txnC]) ?_
     rw [JR (by simp [V.plain,J1])]
     have hsee:jn3 o a n t=((!((n:Int) == a) && (t.f != 2)) && ((J3 o.key t.ops t.ops.length).2 && Wz o (J3 o.key t.ops t.ops.length).1)):=rfl
     generalize (J3 o.key t.ops t.ops.length).1=rv at *
     generalize (J3 o.key t.ops t.ops.length).2=rb at *
     have o4':s'.ob 4=some ⟨0,.cells [jl g.sn strC g.ss,jl g.kn strC g.ks,jl g.tn txnC g.ts]⟩:=o4
     have o12':s'.ob 12=some ⟨U,.cells [.bool o.w,.int .i64 o.key,.int .i64 o.v.kind,.int .i64 o.v.n]⟩:=o12
     have skip:jn3 o a n t=false→Xi g.ts a o (n+1)=Xi g.ts a o n:=fun h=>by rw [hsn,h];simp
     simp [J1,j6,fb,fr,jD,f3,o6,h7]
     refine ⟨by simp [Jw,WJ,jbn,Qx,rdOb,rdTk,lOf,Delta.wo,Delta.wt];try decide,?_⟩
     cases h1:((n:Int) != a)
     ·have h1b:((n:Int) == a)=true:=by simpa [bne] using h1
      have hsk:=skip (by rw [hsee,h1b];rfl)
      simp [o4',o6,o12',h7,hw,hlt]
      rw [hsk];exact hG.mono (fun u _ h=>by simpa [jW] using h) (by omega)
     have h1b:((n:Int) == a)=false:=by simpa [bne] using h1
     cases h2:(t.f != 2)
     ·have hsk:=skip (by rw [hsee,h1b,h2];rfl)
      simp [h2,f2,o4',o6,o12',h7,hw,j6,hlt,jF jH,hff]
      rw [hsk];exact hG.mono (fun u _ h=>by simpa [jW] using h) (by omega)
     cases rb
     ·have hsk:=skip (by rw [hsee,h1b,h2];rfl)
      simp [h2,f2,o4',o6,o12',h7,hw,j6,hlt,jF jH,hff]
      rw [hsk];exact hG.mono (fun u _ h=>by simpa [jW] using h) (by omega)
     cases h4:(o.v.kind == 2)
     ·cases h5:(rv.kind == o.v.kind && rv.n == o.v.n)
      ·have hsk:=skip (by rw [hsee,h1b,h2];unfold Wz;rw [h4,h5];rfl)
       simp [h2,h4,h5,f2,f6,o4',o6,o12',h7,hw,j6,hlt,jF jH,hff]
       rw [hsk];exact hG.mono (fun u _ h=>by simpa [jW] using h) (by omega)
      ·have h3f:Wz o rv=true:=by unfold Wz;rw [h4,h5];rfl
       have hsn2:Xi g.ts a o (n+1)=Xi g.ts a o n++[(n:Int)]:=by rw [hsn,hsee];simp [h1b,h2,h3f]
       simp [h2,h4,h5,f2,f6,o4',o12',h7,j6,hlt,jF jH,hff]
       refine jT (cs:=[.int .i64 n]) (by simp [jD]) rfl rfl ?_
       simp
       refine XF (f:=intC) (hi:=s'.nx) (l:=Xi g.ts a o n) (a:=(n:Int)) (v:=s'.tm 5) (hG.mono (fun u _ h=>by simp [jv,h]) (Nat.le_refl _)) (by simp) (by simp [jO,intC]) jR (by decide) rfl (by omega) (by omega) (fun del hdel=>?_)
       have hlen:(Xi g.ts a o n).length+1=(Xi g.ts a o (n+1)).length:=by rw [hsn2];simp
       rw [← hsn2,hlen]
       simp [h7,hw,o4',o6,o12']
       exact ⟨hlt,_,rfl,by simp [jv],by omega⟩
     ·have h3f:Wz o rv=true:=by unfold Wz;rw [h4];rfl
      have hsn2:Xi g.ts a o (n+1)=Xi g.ts a o n++[(n:Int)]:=by rw [hsn,hsee];simp [h1b,h2,h3f]
      simp [h2,h4,f2,f6,o4',o12',h7,j6,hlt,jF jH,hff]
      refine jT (cs:=[.int .i64 n]) (by simp [jD]) rfl rfl ?_
      simp
      refine XF (f:=intC) (hi:=s'.nx) (l:=Xi g.ts a o n) (a:=(n:Int)) (v:=s'.tm 5) (hG.mono (fun u _ h=>by simp [jv,h]) (Nat.le_refl _)) (by simp) (by simp [jO,intC]) jR (by decide) rfl (by omega) (by omega) (fun del hdel=>?_)
      have hlen:(Xi g.ts a o n).length+1=(Xi g.ts a o (n+1)).length:=by rw [hsn2];simp
      rw [← hsn2,hlen]
      simp [h7,hw,o4',o6,o12']
      exact ⟨hlt,_,rfl,by simp [jv],by omega⟩
    ·have:n=g.ts.length:=by omega
     subst this
     obtain ⟨u,hv,_,_⟩:=hG
     simp [h7,f2,o4,j6,j7]
     rw [← jn9 hmay]
     exact slE (t:=some (u,1)) (nl:=false) (k:=(Xi g.ts a o g.ts.length).length) (cs:=(Xi g.ts a o g.ts.length).flatMap intC) (fun r h=>h) (by simp [fd]) (by simp [hv])
   by_cases hk:o.v.kind=1
   ·simp [hk]
    refine rest _ 1280 _ (by simp) (by simp) (by simp) (by simp [j7]) (by simp) (by simp [opC,hk]) (by simp;rfl) ?_ (by simp) (by simp) (by simp)
    exact ⟨192,by simp [J5,hk],by simp [jv],by simp⟩
   ·have hkb:(o.v.kind != 1)=true:=by simp [hk]
    simp [hkb]
    refine jT (cs:=[.int .i64 (-1)]) (by simp [jD]) rfl rfl ?_
    simp
    refine XF (f:=intC) (hi:=576) (l:=[]) (a:=-1) (v:=.sl (some (192,1)) false 0 []) ⟨192,rfl,by simp [jv],by omega⟩ (by simp) (by simp [jO,intC]) jR (by decide) rfl (by simp) (by simp) (fun del hdel=>?_)
    simp
    refine rest _ 1280 _ (by simp) (by simp) (by simp) (by simp [j7]) (by simp) (by simp [opC]) (by simp;rfl) ?_ (by simp) (by simp) (by simp)
    exact ⟨1792,by simp [J5,hk],by simp [jv],by simp⟩
  ·simp
   exact slE (t:=some (192,1)) (nl:=false) (k:=0) (cs:=[]) (fun r h=>h) (by simp) (by simp)
end Go.Pv.T

/- Whole histories; comparing lists. -/
namespace Go.Pv.T
open Go Go.Pv
theorem jcs {ub:Nat} {v:V} {nl:Bool} {n:Nat} {cs:List V} {K:Delta→Prop} (hv:SlR v nl n cs) (h:∀ t add,K { v:=.sl t nl n cs,add:=add }):wpD (Xh ub v) K:=by
 obtain ⟨t,add,hr⟩:=jfp (ub:=ub) hv
 rw [hr,jX]
 exact h t add
theorem len0 {α:Type} (l:List α):((l.length:Int) == 0)=l.isEmpty:=by cases l <;> simp <;> omega
def jcc (g:Hist'):Bool:=Jr g && ((jV g).isEmpty && (Wx g).isEmpty)
theorem ev26 {a b:Bool} (l m:List Int) (hl:l.length≤1000000000) (hm:m.length≤1000000000):Ev E 26 [jl a intC l,jl b intC m] (.bool (l == m)):=by
 refine jc (af:=F26) rfl ?_
 have il:∀ (l:List Int) (i:Nat) (h:i<l.length),(l.flatMap intC)[i]? = some (.int .i64 l[i]):=fun l i h=>by
  have:=ju jR l h (by decide:0<1)
  rw [Nat.mul_one,Nat.add_zero] at this
  rw [this];rfl
 by_cases hlm:l.length=m.length
 ·simp [F26,hlm]
  refine jL [(4,5),(11,40)] l.length (fun i s=>s.tm 5 = .int .i64 i∧l.take i=m.take i) rfl rfl ⟨by simp,by simp⟩ ?_
  rintro i s hi ⟨h5,hT⟩ f
  have f0:s.tm 0=jl a intC l:=by rw [f.t 0 (by simp)];simp
  have f1:s.tm 1=jl b intC m:=by rw [f.t 1 (by simp)];simp
  have fd:s.df=[]:=by rw [f.d];simp
  clear f
  by_cases hlt:i<l.length
  ·have hw:=JJ hlt (by omega)
   have hlt2:i<m.length:=by omega
   have h1:=il l i hlt
   have h2:=il m i hlt2
   cases hne:(l[i] != m[i])
   ·have he:l[i]=m[i]:=by simpa using hne
    simp [h5,f0,f1,hlt,hlt2,jF jR,h1,h2,hne,hw]
    rw [List.take_succ_eq_append_getElem hlt,List.take_succ_eq_append_getElem hlt2,hT,he]
   ·have hn:l[i]≠m[i]:=by simpa using hne
    simp [h5,f0,f1,hlt,hlt2,jF jR,h1,h2,hne]
    refine jC (by simp [fd]) ?_ rfl
    have:(l == m)=false:=by
     rw [beq_eq_false_iff_ne]
     intro e
     subst e
     exact hn rfl
    simp [this]
  ·have:i=l.length:=by omega
   subst this
   simp [h5,f0]
   refine jC (by simp [fd]) ?_ rfl
   have:l=m:=by rw [List.take_length,hlm,List.take_length] at hT;exact hT
   simp [this]
 ·have hne:((l.length:Int) != m.length)=true:=by simp;omega
  simp [F26,hne]
  refine jC (by simp) ?_ rfl
  have:(l == m)=false:=by
   rw [beq_eq_false_iff_ne]
   intro e
   subst e
   exact hlm rfl
  simp [this]
end Go.Pv.T

/- Lists: whether a number is in one, where; the same places; what is committed. -/
namespace Go.Pv.T
open Go Go.Pv
def idxI:List Int→Int→Nat→Int
 | [],_,_=>-1
 | x::r,k,n=>if k == x then n else idxI r k (n+1)
theorem jsc (l:List (Int × Int)) (ob:Nat→Option Obj') {i:Nat} (h:i<l.length):YE ob (some 2) (.eptr (l.flatMap jP) (i * 2))=some (.agg [.int .i64 (l[i]).1,.int .i64 (l[i]).2]):=ja Wi ob l h
def Yh (t:Txn'):Bool:=t.f == 1
end Go.Pv.T

/- Reads that see what others wrote. -/
namespace Go.Pv.T
open Go Go.Pv
theorem j49 (t:Txn') (ht:t.ops.length≤1000000) (k:Int) {n:Nat} (hn:n≤t.ops.length):Ev E 78 [.agg (txnC t),.int .i64 n,.int .i64 k] (.tup [.agg (J1 (J3 k t.ops n).1),.bool (J3 k t.ops n).2]):=by
 refine jc (af:=F78) rfl ?_
 simp [F78,txnC,j6,jD]
 refine jL [(9,10),(12,45)] n (fun i s=>s.tm 10 = .int .i64 i∧s.ob 6=some ⟨0,.cells (txnC t)⟩∧s.ob 12=some ⟨64,.cells [.int .i64 0,.int .i64 0]⟩∧s.ob 16=some ⟨256,.cells (J1 (J3 k t.ops i).1)⟩∧s.tm 9 = .bool (J3 k t.ops i).2) rfl rfl
  ⟨by simp,by simp [txnC],by simp,by simp [J3,J1],by simp [J3]⟩ ?_
 rintro i s hi ⟨h10,o6,o12,o16,h9⟩ f
 have f1:s.tm 1 = .int .i64 n:=by rw [f.t 1 (by simp)];simp
 have f2:s.tm 2 = .int .i64 k:=by rw [f.t 2 (by simp)];simp
 have f3:s.tm 3 = .ptr 6 0 0:=by rw [f.t 3 (by simp)];simp
 have f6:s.tm 6 = .ptr 12 64 0:=by rw [f.t 6 (by simp)];simp
 have f8:s.tm 8 = .ptr 16 256 0:=by rw [f.t 8 (by simp)];simp
 have fd:s.df=[]:=by rw [f.d];simp
 have fr:s.ro=0:=by rw [f.r];simp
 clear f
 by_cases hin:i<n
 ·have hlt:i<t.ops.length:=by omega
  have hw:=JJ hlt (by omega)
  have hs:=Wh (k:=k) hlt
  obtain ⟨o,ho⟩:∃ o,t.ops[i]=o:=⟨_,rfl⟩
  rw [ho] at hs
  have a0:(t.ops.flatMap opC)[i * 4]? = some (.bool o.w):=by
   have:=ju jK t.ops hlt (by decide:0<4)
   rw [Nat.add_zero,ho] at this
   rw [this];rfl
  have a1:(t.ops.flatMap opC)[i * 4+1]? = some (.int .i64 o.key):=by
   rw [ju jK t.ops hlt (by decide:1<4),ho];rfl
  have a2:∀ ob,YE ob (some 2) (.eptr (t.ops.flatMap opC) (i * 4+2))=some (.agg (J1 o.v)):=fun ob=>by
   have hle:i * 4+4≤t.ops.length * 4:=by omega
   rw [jau,Wj,if_pos (by rw [jE jK];omega)]
   have:=Xc jK t.ops i hlt
   rw [ho] at this
   have e:((t.ops.flatMap opC).drop (i * 4+2)).take 2=((((t.ops.flatMap opC).drop (i * 4)).take 4).drop 2):=by
    rw [List.drop_take,List.drop_drop]
   rw [e,this]
   rfl
  cases hwk:o.w
  ·have hk:wkB k o=false:=by unfold wkB;rw [hwk];rfl
   rw [hk] at hs
   simp only [Bool.false_eq_true,if_false] at hs
   simp [h10,f1,f3,o6,j6,txnC,hin,hlt,jF jK,a0,hwk,hw,o12,o16,h9]
   exact ⟨by rw [hs],by rw [hs]⟩
  ·cases hke:(o.key == k)
   ·have hk:wkB k o=false:=by unfold wkB;rw [hwk,hke];rfl
    rw [hk] at hs
    simp only [Bool.false_eq_true,if_false] at hs
    simp [h10,f1,f2,f3,o6,j6,txnC,hin,hlt,jF jK,a0,a1,hwk,hke,hw,o12,o16,h9]
    exact ⟨by rw [hs],by rw [hs]⟩
   ·have hk:wkB k o=true:=by unfold wkB;rw [hwk,hke];rfl
    rw [hk] at hs
    simp only [if_true] at hs
    simp [h10,f1,f2,f3,f8,o6,j6,txnC,hin,hlt,jF jK,a0,a1,a2,hwk,hke,hw,o12,o16,J1,fr,jD]
    rw [hs]
    simp
 ·have:i=n:=by omega
  subst this
  simp [h10,f1,f8,o16,j6,h9,f6,o12,J1,fr,jD]
  exact JM (by simp [fd]) (l:=[.agg (J1 (J3 k t.ops i).1),.bool (J3 k t.ops i).2]) (by simp [jw,j6,f6,J1]) rfl rfl
theorem j5e {g:Hist'} (hs:Small g) (a b:Int):Ev E 131 [.agg (j7 g),.agg (jP (a,b))] (.bool (opAt g a b).isSome):=by
 have e32:=ev32 hs
 have hts:=hs.ts
 refine jc (af:=F131) rfl ?_
 obtain ⟨R,hR⟩:∃ R,opAt g a b=R:=⟨_,rfl⟩
 rw [hR]
 unfold opAt at hR
 simp [F131,j7,j6,jP]
 refine Xt e32 (by simp [j7]) rfl (by simp [j7]) ?_
 cases hm:Jr g
 ·rw [WT hm]
  rw [hm] at hR
  subst hR
  simp
  exact jC (by simp) (by simp) rfl
 rw [hm] at hR
 rw [YD hm]
 by_cases k1n:a<0
 ·have k1:¬ 0≤a:=by omega
  rw [if_neg (by simp;omega)] at hR
  subst hR
  simp [k1,j6]
  exact jC (by simp) (by simp) rfl
 have k1:0≤a:=by omega
 by_cases k2n:(g.ts.length:Int)≤a
 ·have k2:¬ (a<(g.ts.length:Int)):=by omega
  rw [if_neg (by simp;omega)] at hR
  subst hR
  simp [k1,k2,j6]
  exact jC (by simp) (by simp) rfl
 have k2:a<(g.ts.length:Int):=by omega
 by_cases k3n:b<0
 ·have k3:¬ 0≤b:=by omega
  rw [if_neg (by simp;omega)] at hR
  subst hR
  simp [k1,k2,k3,j6]
  exact jC (by simp) (by simp) rfl
 have k3:0≤b:=by omega
 obtain ⟨i,rfl⟩:∃ i:Nat,a=i:=⟨a.toNat,by omega⟩
 have hi:i<g.ts.length:=by omega
 rw [Int.toNat_natCast,JB hi] at hR
 obtain ⟨t,ht⟩:∃ t,g.ts[i]=t:=⟨_,rfl⟩
 rw [ht] at hR
 have hl3:(g.ts.flatMap txnC)[i * 3+2]? = some (jl t.nl opC t.ops):=by
  rw [ju jH g.ts hi (by decide:2<3),ht];rfl
 by_cases k4n:(t.ops.length:Int)≤b
 ·have k4:¬ (b<(t.ops.length:Int)):=by omega
  rw [if_neg (by simp;omega)] at hR
  subst hR
  simp [k1,k2,k3,k4,j6,hi,jF jH,hl3]
  exact jC (by simp) (by simp) rfl
 have k4:b<(t.ops.length:Int):=by omega
 obtain ⟨j,rfl⟩:∃ j:Nat,b=j:=⟨b.toNat,by omega⟩
 have hj:j<t.ops.length:=by omega
 rw [if_pos (by simp;omega),Int.toNat_natCast,List.getElem?_eq_getElem hj] at hR
 subst hR
 simp [k1,k2,k3,k4,j6,hi,jF jH,hl3]
 exact jC (by simp) (by simp) rfl
end Go.Pv.T

/- Reads that see what others wrote: the reference's own, and both Outers. -/
namespace Go.Pv.T
open Go Go.Pv
def jja (g:Hist') (a b:Int):Val' × Bool:=match opAt g a b with
 | some o=>J3 o.key (g.ts.getD a.toNat ⟨0,0,true,[]⟩).ops b.toNat
 | none=>(⟨0,0⟩,false)
def XN (g:Hist') (a b:Int):Bool:=match opAt g a b with
 | some o=>!o.w && !(jja g a b).2
 | none=>false
theorem ev132 {g:Hist'} (hs:Small g) (a b:Int):Ev E 132 [.agg (j7 g),.agg (jP (a,b))] (.tup [.agg (J1 (jja g a b).1),.bool (jja g a b).2]):=by
 have e131:=j5e hs a b
 refine jc (af:=F132) rfl ?_
 unfold jja
 cases hop:opAt g a b with
 | none =>
  rw [hop] at e131
  simp [F132,j7,jP,j6]
  refine jf e131 (by simp [j7,jP]) rfl (by simp [j7,jP]) ?_
  simp [j6,jD]
  exact JM (by simp) (l:=[.agg (J1 ⟨0,0⟩),.bool false]) (by simp [jw,j6,J1]) rfl rfl
 | some o =>
  rw [hop] at e131
  obtain ⟨i,j,rfl,rfl,hi,hj,ho⟩:=Qj hop
  have hos:=hs.os _ (List.getElem_mem hi)
  have e78:=j49 g.ts[i] (by omega) o.key (n:=j) (by omega)
  simp only [Int.toNat_natCast]
  rw [JB hi]
  have hl3:(g.ts.flatMap txnC)[i * 3+2]? = some (jl (g.ts[i]).nl opC (g.ts[i]).ops):=by
   rw [ju jH g.ts hi (by decide:2<3)];rfl
  have hlk:((g.ts[i]).ops.flatMap opC)[j * 4+1]? = some (.int .i64 o.key):=by
   rw [ju jK (g.ts[i]).ops hj (by decide:1<4),ho];rfl
  simp [F132,j7,jP,j6]
  refine jf e131 (by simp [j7,jP]) rfl (by simp [j7,jP]) ?_
  simp [j6,hi,hj,jF jH,jF jK,ja jH,hl3,hlk]
  refine Xt e78 (by simp [txnC]) rfl (by simp [txnC]) ?_
  rw [JR (by simp [V.plain,J1])]
  generalize (J3 o.key g.ts[i].ops j).1=rv at *
  generalize (J3 o.key g.ts[i].ops j).2=rb at *
  simp [J1,j6,jD]
  exact JM (by simp) (l:=[.agg [.int .i64 rv.kind,.int .i64 rv.n],.bool rb]) (by simp [jw,j6]) rfl rfl
theorem ev90 {g:Hist'} (hs:Small g) (a b:Int):Ev E 90 [.agg (j7 g),.agg (jP (a,b))] (.bool (XN g a b)):=by
 have e131:=j5e hs a b
 have e132:=ev132 hs a b
 refine jc (af:=F90) rfl ?_
 unfold XN
 cases hop:opAt g a b with
 | none =>
  rw [hop] at e131
  simp [F90,j7,jP,j6]
  refine Xt e131 (by simp [j7,jP]) rfl (by simp [j7,jP]) ?_
  simp
  exact jC (by simp) (by simp) rfl
 | some o =>
  rw [hop] at e131
  obtain ⟨i,j,rfl,rfl,hi,hj,ho⟩:=Qj hop
  have hl3:(g.ts.flatMap txnC)[i * 3+2]? = some (jl (g.ts[i]).nl opC (g.ts[i]).ops):=by
   rw [ju jH g.ts hi (by decide:2<3)];rfl
  have hlw:((g.ts[i]).ops.flatMap opC)[j * 4]? = some (.bool o.w):=by
   have:=ju jK (g.ts[i]).ops hj (by decide:0<4)
   rw [Nat.add_zero,ho] at this
   rw [this];rfl
  simp [F90,j7,jP,j6]
  refine Xt e131 (by simp [j7,jP]) rfl (by simp [j7,jP]) ?_
  generalize jja g (i:Int) (j:Int)=ow at *
  cases hw:o.w
  ·simp [j6,hi,hj,jF jH,jF jK,hl3,hlw,hw]
   refine jf e132 (by simp [j7,jP]) rfl (by simp [j7,jP]) ?_
   rw [JR (by simp [V.plain,J1])]
   simp [J1,j6,jD]
   exact jC (by simp) (by simp) rfl
  ·simp [j6,hi,hj,jF jH,jF jK,hl3,hlw,hw]
   exact jC (by simp) (by simp) rfl
end Go.Pv.T

/- Reads that see what others wrote: the given Outer. -/
namespace Go.Pv.T
open Go Go.Pv
theorem ev89 {g:Hist'} (hs:Small g) (a b:Int):Ev E 89 [.agg (j7 g),.agg (jP (a,b))] (.bool (XN g a b)):=by
 have e129:=jyk hs a
 refine jc (af:=F89) rfl ?_
 unfold XN
 cases hop:opAt g a b with
 | none =>
  simp [F89,j7,jP,j6]
  refine jf e129 (by simp [j7]) rfl (by simp [j7]) ?_
  rw [Ye rfl,jX]
  have hout:b<0∨((Xr g a).2.length:Int)≤b:=by
   unfold opAt at hop
   unfold Xr
   by_cases h1:(Jr g && (decide (0≤a) && decide (a<g.ts.length)))=true
   ·rw [if_pos h1]
    simp only [Bool.and_eq_true,decide_eq_true_eq] at h1
    by_cases h2:b<0
    ·exact .inl h2
    ·by_cases h3:b<((g.ts.getD a.toNat ⟨0,0,true,[]⟩).ops.length:Int)
     ·rw [if_pos (by simp only [Bool.and_eq_true,decide_eq_true_eq];exact ⟨h1.1,h1.2.1,h1.2.2,by omega,h3⟩)] at hop
      rw [List.getElem?_eq_none_iff] at hop
      exact absurd hop (by omega)
     ·exact .inr (Int.not_lt.1 h3)
   ·rw [if_neg h1]
    by_cases h2:b<0
    ·exact .inl h2
    ·exact .inr (by simp;omega)
  generalize Xr g a=oo at *
  by_cases h1:b<0
  ·simp [j6,h1]
   exact jC (by simp) (by simp) rfl
  ·have h2:(oo.2.length:Int)≤b:=by rcases hout with h | h;exact absurd h h1;exact h
   simp [j6,h1,h2]
   exact jC (by simp) (by simp) rfl
 | some o =>
  have hmay:Jr g=true:=by
   unfold opAt at hop
   cases hm:Jr g
   ·rw [hm] at hop;cases hop
   ·rfl
  unfold jja
  rw [hop]
  obtain ⟨i,j,rfl,rfl,hi,hj,ho⟩:=Qj hop
  simp only [Int.toNat_natCast]
  rw [JB hi]
  have hoo:Xr g (i:Int)=((g.ts[i]).nl,(g.ts[i]).ops):=by
   unfold Xr
   rw [hmay,if_pos (by simp;omega)]
   simp only [Int.toNat_natCast]
   rw [JB hi]
  rw [hoo] at e129
  have hos:=hs.os _ (List.getElem_mem hi)
  have hlw:((g.ts[i]).ops.flatMap opC)[j * 4]? = some (.bool o.w):=by
   have:=ju jK (g.ts[i]).ops hj (by decide:0<4)
   rw [Nat.add_zero,ho] at this
   rw [this];rfl
  have hlk:((g.ts[i]).ops.flatMap opC)[j * 4+1]? = some (.int .i64 o.key):=by
   rw [ju jK (g.ts[i]).ops hj (by decide:1<4),ho];rfl
  have n1:decide ((j:Int)<0)=false:=by simp
  have n2:decide (((g.ts[i]).ops.length:Int)≤j)=false:=by simp;omega
  have n3:((g.ts[i]).ops.length≤j)=False:=by simp;omega
  have n4:(((g.ts[i]).ops.length:Int)≤j)=False:=by simp;omega
  have hle:j≤(g.ts[i]).ops.length:=by omega
  have hsl:QX 4 none (some (.int .i64 (j:Int))) (jl (g.ts[i]).nl opC (g.ts[i]).ops)=some (jl (g.ts[i]).nl opC ((g.ts[i]).ops.take j)):=by
   have h1:=jiz (kk:=.i64) (t:=none) (nl:=(g.ts[i]).nl) (sz:=4) (cs:=(g.ts[i]).ops.flatMap opC) (n:=(g.ts[i]).ops.length) (k:=j) hle (jE jK _)
   refine Eq.trans h1 ?_
   have h2:((g.ts[i]).ops.flatMap opC).take (j * 4)=((g.ts[i]).ops.take j).flatMap opC:=by
    conv=>lhs;rw [← List.take_append_drop j (g.ts[i]).ops,List.flatMap_append]
    rw [List.take_left']
    rw [jE jK,List.length_take,Nat.min_eq_left hle]
   rw [h2,jl,List.length_take,Nat.min_eq_left hle]
  have e130:=jyj (g.ts[i]).nl ((g.ts[i]).ops.take j) (by rw [List.length_take];omega) o.key
  have hlast:(Qo ((g.ts[i]).ops.take j) o.key).2=(J3 o.key (g.ts[i]).ops j).2:=by
   unfold Qo
   rw [Qc _ _ _ (Nat.le_refl _),Qc _ _ _ hle,List.take_length]
  simp [F89,j7,jP,j6]
  refine jf e129 (by simp [j7]) rfl (by simp [j7]) ?_
  rw [Ye rfl,jX]
  cases hw:o.w
  ·simp [j6,n1,n4,hj,jF jK,hlw,hw]
   simp [hsl,hlk,hj,jF jK,j6]
   refine Xt e130 (by simp) rfl (by simp) ?_
   rw [JR (by simp [V.plain,J1])]
   rw [← hlast]
   generalize Qo ((g.ts[i]).ops.take j) o.key=lw at *
   simp [J1,j6,jD]
   refine ⟨by simp [Jw,WJ,jbn,Qx,rdOb,rdTk,lOf,Delta.wo,Delta.wt];try decide,?_⟩
   exact jC (by simp) (by simp) rfl
  ·simp [j6,n1,n4,hj,jF jK,hlw,hw]
   exact jC (by simp) (by simp) rfl
end Go.Pv.T

/- The reads that count: the reference's list. -/
namespace Go.Pv.T
open Go Go.Pv
def X3 (g:Hist') (i:Nat):Nat→List (Int × Int)
 | 0=>[]
 | k+1=>X3 g i k++(if XN g i k then [((i:Int),(k:Int))] else [])
def XL (g:Hist'):Nat→List (Int × Int)
 | 0=>[]
 | i+1=>XL g i++(match g.ts[i]? with | some t=>if Yh t then X3 g i t.ops.length else [] | none=>[])
def readH (g:Hist'):List (Int × Int):=XL g g.ts.length
theorem jam (g:Hist') (i:Nat):∀ k,(X3 g i k).length≤k
 | 0=>Nat.le_refl _
 | k+1=>by
  have:=jam g i k
  simp only [X3,List.length_append]
  split <;> simp <;> omega
set_option maxRecDepth 100000 in
theorem jan {g:Hist'} (hs:Small g):∀ i,(XL g i).length≤i * 1000
 | 0=>Nat.zero_le _
 | i+1=>by
  have:=jan hs i
  simp only [XL,List.length_append]
  rw [show (i+1) * 1000=i * 1000+1000 by omega]
  split
  ·rename_i t ht
   have h1:=jam g i t.ops.length
   have h2:=hs.os t (List.mem_of_getElem? ht)
   split
   ·omega
   ·simp only [List.length_nil];omega
  ·simp only [List.length_nil];omega
theorem ji4 {g:Hist'} {i:Nat} (h:i<g.ts.length):XL g (i+1)=XL g i++(if Yh g.ts[i] then X3 g i (g.ts[i]).ops.length else []):=by
 simp only [XL,List.getElem?_eq_getElem h]
set_option maxRecDepth 100000 in
theorem ev47 {g:Hist'} (hs:Small g):∃ v,Ev E 47 [.agg (j7 g)] v∧SlR v false (readH g).length ((readH g).flatMap jP):=by
 have hts:=hs.ts
 refine YV (af:=F47) rfl (by decide) ?_
 simp [F47,j7]
 refine jT (cs:=[]) rfl rfl rfl ?_
 simp
 refine jL [(3,6),(8,44)] g.ts.length (fun i s=>s.tm 4 = .int .i64 i∧s.ob 2=some ⟨0,.cells (j7 g)⟩∧GrowT s.tk s.nx jP 2 (XL g i) (s.tm 3)) rfl rfl ⟨by simp,by simp [j7],by rw [XL];exact ⟨128,by simp,by simp [jv],by simp⟩⟩ ?_
 rintro i s hi ⟨h4,o2,hG⟩ f
 have f1:s.tm 1 = .ptr 2 0 0:=by rw [f.t 1 (by simp)];simp
 have fd:s.df=[]:=by rw [f.d];simp
 have fb:s.fb=0:=by rw [f.b];simp
 have fr:s.ro=0:=by rw [f.r];simp
 clear f
 by_cases hlt:i<g.ts.length
 ·have hw:=JJ hlt (by omega)
  simp [h4,f1,o2,j6,j7,hlt]
  refine jL [(3,3),(5,6),(15,44)] (g.ts[i]).ops.length (fun k s'=>s'.tm 5 = .int .i64 k∧s'.ob 2=some ⟨0,.cells (j7 g)⟩∧GrowT s'.tk s'.nx jP 2 (XL g i++(if Yh g.ts[i] then X3 g i k else [])) (s'.tm 3)) rfl rfl ⟨by simp,by simp [o2],by simp [X3];exact hG.mono (fun _ _ h=>h) (by omega)⟩ ?_
  rintro k s' hk ⟨h5,o2',hG'⟩ f
  have e1:s'.tm 1 = .ptr 2 0 0:=by rw [f.t 1 (by simp)];simp [f1]
  have e4:s'.tm 4 = .int .i64 i:=by rw [f.t 4 (by simp)];simp [h4]
  have ed:s'.df=[]:=by rw [f.d];simp [fd]
  have eb:s'.fb=0:=by rw [f.b];simp [fb]
  have er:s'.ro=0:=by rw [f.r];simp [fr]
  clear f
  have e90:=ev90 hs (i:Int) (k:Int)
  have hos:=hs.os _ (List.getElem_mem hlt)
  have hff:(g.ts.flatMap txnC)[i * 3+1]? = some (.int .i64 (g.ts[i]).f):=by
   rw [ju jH g.ts hlt (by decide:1<3)];rfl
  have hfo:(g.ts.flatMap txnC)[i * 3+2]? = some (jl (g.ts[i]).nl opC (g.ts[i]).ops):=by
   rw [ju jH g.ts hlt (by decide:2<3)];rfl
  by_cases hkt:k<(g.ts[i]).ops.length
  ·have hw':=JJ hkt (by omega)
   have hll:(XL g i++(if Yh g.ts[i] then X3 g i k else [])).length≤1001000:=by
    have h1:=jan hs i
    have h2:=jam g i k
    have:i * 1000≤1000 * 1000:=Nat.mul_le_mul_right _ (by omega)
    rw [List.length_append]
    split
    ·omega
    ·simp only [List.length_nil];omega
   cases hc:Yh g.ts[i]
   ·have hc':((g.ts[i]).f == 1)=false:=hc
    rw [hc] at hG'
    simp [h5,e1,e4,o2',j6,j7,hlt,jF jH,hfo,hff,hkt,jD,eb,er,hc',hw']
    simpa using hG'.mono (fun u _ h=>by simpa [jW] using h) (by omega)
   ·have hc':((g.ts[i]).f == 1)=true:=hc
    rw [hc] at hG' hll
    simp only [if_true] at hG' hll
    simp [h5,e1,e4,o2',j6,j7,hlt,jF jH,hfo,hff,hkt,jD,eb,er,hc']
    refine jf e90 (by simp [j7,jP]) rfl (by simp [j7,jP]) ?_
    cases ho:XN g i k
    ·simp [h5,hw',o2',j7]
     have hstep:X3 g i (k+1)=X3 g i k:=by rw [X3,ho];simp
     rw [hstep]
     exact ⟨hkt,hG'.mono (fun u _ h=>by simpa [jW] using h) (by omega)⟩
    ·simp [j6]
     have hstep:XL g i++X3 g i (k+1)=(XL g i++X3 g i k)++[((i:Int),(k:Int))]:=by rw [X3,ho,List.append_assoc];simp
     refine jT (cs:=jP (i,k)) (by simp [jD,jP]) rfl rfl ?_
     simp
     refine XF (f:=jP) (hi:=s'.nx) (l:=XL g i++X3 g i k) (a:=((i:Int),(k:Int))) (v:=s'.tm 3) (hG'.mono (fun u _ h=>by simp [jv,h]) (Nat.le_refl _)) (by simp) (by simp [jO,jP]) Wi (by decide) rfl (by omega) (by omega) (fun del hdel=>?_)
     have hlen:(XL g i++X3 g i k).length+1=(XL g i++X3 g i (k+1)).length:=by rw [hstep,List.length_append (bs:=[_])];rfl
     rw [← hstep,hlen]
     obtain ⟨L,hL⟩:∃ L,XL g i++X3 g i (k+1)=L:=⟨_,rfl⟩
     rw [hL]
     simp [h5,hw',o2',j7,hL]
     exact ⟨hkt,_,rfl,by simp [jv],by omega⟩
  ·have:k=(g.ts[i]).ops.length:=by omega
   subst this
   simp [h5,e1,e4,o2',j6,j7,hlt,jF jH,hfo,hw]
   rw [ji4 hlt]
   exact hG'.mono (fun _ _ h=>h) (by omega)
 ·have:i=g.ts.length:=by omega
  subst this
  obtain ⟨u,hv,_,_⟩:=hG
  simp [h4,f1,o2,j6,j7]
  exact slE (t:=some (u,2)) (nl:=false) (k:=(readH g).length) (cs:=(readH g).flatMap jP) (fun r h=>h) (by simp [fd]) (by simp [hv,readH])
end Go.Pv.T

/- The reads that count: the given list. -/
namespace Go.Pv.T
open Go Go.Pv
def j0n (g:Hist'):List (Int × Int):=if jcc g then readH g else []
end Go.Pv.T

/- The reads that count: the given list's walk. -/
namespace Go.Pv.T
open Go Go.Pv
end Go.Pv.T

/- The choices: lists of lists. -/
namespace Go.Pv.T
open Go Go.Pv
section
variable {E:Env} {st:St} {ub:Nat} {K:List FP→St→Prop} {d:Option Nat} {nm:Bool} {r:List AOpr}
theorem jmu {α:Type} {f:α→List V} {sz bytes hi:Nat} {l:List α} {a:α} {v:V} {s x:A} (hg:GrowT st.tk hi f sz l v) (hs:eval E st.tm s=v) (hx:jO st.ob sz (eval E st.tm x)=some (f a)) (hf:∀ a,(f a).length=sz) (h0:0<sz)
 (hp:(f a).all V.pureLeaf=true) (hb:(l.length+1) * bytes≤140737488355328) (hb2:l.length+1≤140737488355328)
 (h:∀ del:Option Nat,(∀ u,del=some u→u<hi)→WI E r K (eval E st.tm) (.append false sz bytes s x) st d ub { v:=.sl (some (ub,sz)) false (l.length+1) ((l++[a]).flatMap f),del:=del,add:=[ub] }):jM E (⟨d,.append false sz bytes s x,none,nm⟩::r) st ub K:=by
 have hne:f a≠[]:=fun e=>by have:=hf a;rw [e] at this;simp at this;omega
 have h1:(f a).length / sz=1:=by rw [hf];exact Nat.div_self h0
 rw [Jh rfl]
 obtain ⟨u,rfl,ht,h3⟩:=hg
 simp only [aop,hs,hx,Option.bind_some,if_neg hne,Bool.false_and,Bool.false_eq_true,if_false]
 rw [if_pos ⟨by rw [jE hf],h0,hp,by rw [h1];exact hb,by rw [h1];exact hb2⟩,if_pos (by simp [ht]),jX,h1]
 have:=h (some u) (fun u' e=>by cases e;exact h3)
 simpa using this
end
def jkx (x:Bool × List Int):List V:=[.sl none x.1 x.2.length (x.2.flatMap intC)]
@[simp] theorem jb1 (x:Bool × List Int):(jkx x).length=1:=rfl
end Go.Pv.T

/- Bad reads of a transaction: the given list. -/
namespace Go.Pv.T
open Go Go.Pv
def jyw (ops:List Op') (k:Nat) (o:Op'):Bool:=!o.w && ((o.v.kind != 2) && ((J3 o.key ops k).2 && !(((J3 o.key ops k).1.kind == o.v.kind) && ((J3 o.key ops k).1.n == o.v.n))))
def X5 (ops:List Op'):Nat→List Int
 | 0=>[]
 | k+1=>X5 ops k++(match ops[k]? with | some o=>if jyw ops k o then [(k:Int)] else [] | none=>[])
theorem jfi {ops:List Op'} {k:Nat} (h:k<ops.length):X5 ops (k+1)=X5 ops k++if jyw ops k ops[k] then [(k:Int)] else []:=by simp [X5,List.getElem?_eq_getElem h]
theorem jd2 (ops:List Op'):∀ k,(X5 ops k).length≤k
 | 0=>by simp [X5]
 | k+1=>by
  have:=jd2 ops k
  simp only [X5,List.length_append]
  split
  ·split <;> simp <;> omega
  ·simp;omega
def badH (g:Hist') (i:Int):List Int:=X5 (Xr g i).2 (Xr g i).2.length
theorem jet (key:Int) (ops:List Op') (k:Nat):∀ j,j≤k→J3 key (ops.take k) j=J3 key ops j
 | 0,_=>rfl
 | j+1,h=>by
  simp only [J3,jet key ops k j (by omega),List.getElem?_take_of_lt (show j<k by omega)]
theorem jmn (key:Int) (ops:List Op') {k:Nat} (h:k≤ops.length):Qo (ops.take k) key=J3 key ops k:=by
 unfold Qo
 rw [List.length_take,Nat.min_eq_left h,jet key ops k k (Nat.le_refl _)]
theorem jnu {nl:Bool} {ops:List Op'} {k:Nat} (h:k≤ops.length):QX 4 none (some (.int .i64 (k:Int))) (jl nl opC ops)=some (jl nl opC (ops.take k)):=by
 have h1:=jiz (kk:=.i64) (t:=none) (nl:=nl) (sz:=4) (cs:=ops.flatMap opC) (n:=ops.length) (k:=k) h (jE jK _)
 refine Eq.trans h1 ?_
 have h2:(ops.flatMap opC).take (k * 4)=(ops.take k).flatMap opC:=by
  conv=>lhs;rw [← List.take_append_drop k ops,List.flatMap_append]
  rw [List.take_left']
  rw [jE jK,List.length_take,Nat.min_eq_left h]
 rw [h2,jl,List.length_take,Nat.min_eq_left h]
set_option maxRecDepth 100000 in
theorem ev176 {g:Hist'} (hs:Small g) (i:Int):∃ v,Ev E 176 [.agg (j7 g),.int .i64 i] v∧SlR v (badH g i).isEmpty (badH g i).length ((badH g i).flatMap intC):=by
 have e129:=jyk hs i
 have hol:=jhi hs i
 unfold badH
 refine YV (af:=F176) rfl (by decide) ?_
 generalize Xr g i=oo at *
 obtain ⟨nl,ops⟩:=oo
 simp only at e129 hol ⊢
 simp [F176,j7,j6]
 refine jf e129 (by simp [j7]) rfl (by simp [j7]) ?_
 rw [Ye rfl,jX]
 simp
 refine jL [(5,5),(7,10),(16,49)] ops.length (fun k s=>s.tm 16 = .int .i64 k∧Grow s.tk 0 s.nx intC 1 (X5 ops k) (s.tm 5)) rfl rfl ⟨by simp,by simp [X5];exact Grow.nil _ _ _ _ _⟩ ?_
 rintro k s hk ⟨h16,hG⟩ f
 have f6:s.tm 6=jl nl opC ops:=by rw [f.t 6 (by simp)];simp
 have f14:s.tm 14=jl nl opC ops:=by rw [f.t 14 (by simp)];simp
 have f15:s.tm 15 = .int .i64 ops.length:=by rw [f.t 15 (by simp)];simp
 have fd:s.df=[]:=by rw [f.d];simp
 have fb:s.fb=0:=by rw [f.b];simp
 have fr:s.ro=0:=by rw [f.r];simp
 clear f
 by_cases hlt:k<ops.length
 ·have hw':=JJ hlt (by omega)
  have hstep:=jfi hlt
  have hbl:=jd2 ops k
  obtain ⟨o,ho⟩:∃ o,ops[k]=o:=⟨_,rfl⟩
  have hload:YE s.ob (some 4) (.eptr (ops.flatMap opC) (k * 4))=some (.agg (opC o)):=by rw [ja jK s.ob ops hlt,ho]
  have hsl:=jnu (nl:=nl) (ops:=ops) (k:=k) (by omega)
  have e130:=jyj nl (ops.take k) (by rw [List.length_take];omega) o.key
  rw [jmn _ _ (by omega)] at e130
  rw [ho] at hstep
  unfold jyw at hstep
  cases hw:o.w
  ·rw [hw] at hstep
   cases hk2:(o.v.kind == 2)
   ·have hne2:(o.v.kind != 2)=true:=by simp only [bne,hk2,Bool.not_false]
    rw [hne2] at hstep
    simp only [Bool.not_false,Bool.true_and] at hstep
    simp [h16,f6,f14,f15,hlt,jF jK,hload,j6,opC,jD,fb,fr,hw,hk2,hsl]
    refine Xt e130 (by simp) rfl (by simp) ?_
    rw [JR (by simp [V.plain,J1])]
    generalize J3 o.key ops k=rv at *
    obtain ⟨rv,rb⟩:=rv
    simp only at hstep
    simp [J1,j6,jD,fb,fr]
    refine ⟨by simp [Jw,WJ,jbn,Qx,rdOb,rdTk,lOf,uOf,Delta.wo,Delta.wt];try decide,?_⟩
    cases rb
    ·simp [h16,hw']
     simp only [Bool.false_and,Bool.false_eq_true,if_false,List.append_nil] at hstep
     rw [hstep]
     exact ⟨hlt,hG.mono (fun u _ hu h=>by simpa [jW] using h) (by omega)⟩
    ·cases heq:((rv.kind == o.v.kind) && (rv.n == o.v.n))
     ·rw [heq] at hstep
      simp only [Bool.true_and,Bool.not_false,if_true] at hstep
      simp [j6,heq]
      refine jT (cs:=intC k) (by simp [jD,intC]) rfl rfl ?_
      simp
      refine Wo (f:=intC) (lo:=0) (hi:=s.nx) (l:=X5 ops k) (a:=(k:Int)) (v:=s.tm 5) (hG.mono (fun u _ _ h=>by simp [jv,jW,h]) (Nat.le_refl _)) (by simp) (by simp [jO,intC]) jR (by decide) rfl (by omega) (by omega) (fun del hdel=>?_)
      have hlen:(X5 ops k).length+1=(X5 ops (k+1)).length:=by rw [hstep];simp
      have hne:X5 ops (k+1)≠[]:=by rw [hstep];simp
      rw [← hstep,hlen]
      obtain ⟨M,hM⟩:∃ M,X5 ops (k+1)=M:=⟨_,rfl⟩
      rw [hM] at hne ⊢
      simp [h16,hw',hM]
      exact ⟨hlt,.inr ⟨hne,_,rfl,by simp [jv],Nat.zero_le _,by omega⟩⟩
     ·rw [heq] at hstep
      simp only [Bool.true_and,Bool.not_true,Bool.false_eq_true,if_false,List.append_nil] at hstep
      simp [j6,heq,h16,hw']
      rw [hstep]
      exact ⟨hlt,hG.mono (fun u _ hu h=>by simpa [jW] using h) (by omega)⟩
   ·have hne2:(o.v.kind != 2)=false:=by simp only [bne,hk2,Bool.not_true]
    rw [hne2] at hstep
    simp only [Bool.false_and,Bool.and_false,Bool.false_eq_true,if_false,List.append_nil] at hstep
    simp [h16,f6,f14,f15,hlt,jF jK,hload,j6,opC,jD,fb,fr,hw,hk2,hw']
    rw [hstep]
    exact hG.mono (fun u _ hu h=>by simpa [jW] using h) (by omega)
  ·rw [hw] at hstep
   simp only [Bool.not_true,Bool.false_and,Bool.false_eq_true,if_false,List.append_nil] at hstep
   simp [h16,f6,f14,f15,hlt,jF jK,hload,j6,opC,jD,fb,fr,hw,hw']
   rw [hstep]
   exact hG.mono (fun u _ hu h=>by simpa [jW] using h) (by omega)
 ·have:k=ops.length:=by omega
  subst this
  obtain ⟨t,ht⟩:=hG.form
  simp [h16,f15]
  exact slE (t:=t) (nl:=(X5 ops ops.length).isEmpty) (k:=(X5 ops ops.length).length) (cs:=(X5 ops ops.length).flatMap intC) (fun r h=>h) (by simp [fd]) (by simp [ht])
end Go.Pv.T

/- Bad reads of a transaction: the reference. -/
namespace Go.Pv.T
open Go Go.Pv
set_option maxRecDepth 100000 in
theorem ev137 {g:Hist'} (hs:Small g) (a:Int):∃ v,Ev E 137 [.agg (j7 g),.int .i64 a] v∧SlR v false (badH g a).length ((badH g a).flatMap intC):=by
 have e32:=ev32 hs
 have hts:=hs.ts
 refine YV (af:=F137) rfl (by decide) ?_
 obtain ⟨B,hB⟩:∃ B,badH g a=B:=⟨_,rfl⟩
 rw [hB]
 unfold badH Xr at hB
 have hend:∀ {st:St},st.df=[]→B=[]→(∃ t,st.tm 4 = .sl t false 0 [])→jeb [.t 4] (fun v=>SlR v false B.length (B.flatMap intC)) .ret st:=by
  rintro st hd rfl ⟨t,ht⟩
  exact slE (t:=t) (nl:=false) (k:=0) (cs:=[]) (fun r h=>h) hd ht
 simp [F137,j7,j6]
 refine jT (cs:=[]) rfl rfl rfl ?_
 simp [j6]
 refine jf e32 (by simp [j7]) rfl (by simp [j7]) ?_
 cases hm:Jr g
 ·rw [WT hm]
  rw [hm] at hB
  simp
  exact hend (by simp) (by simpa [X5] using hB.symm) ⟨some (128,1),by simp⟩
 rw [hm] at hB
 rw [YD hm]
 by_cases k1:a<0
 ·rw [if_neg (by simp;omega)] at hB
  simp [k1]
  exact hend (by simp) (by simpa [X5] using hB.symm) ⟨some (128,1),by simp⟩
 by_cases k2:(g.ts.length:Int)≤a
 ·rw [if_neg (by simp;omega)] at hB
  simp [k1,k2,j6]
  exact hend (by simp) (by simpa [X5] using hB.symm) ⟨some (128,1),by simp⟩
 obtain ⟨i,rfl⟩:∃ i:Nat,a=i:=⟨a.toNat,by omega⟩
 have hi:i<g.ts.length:=by omega
 rw [if_pos (by simp;omega)] at hB
 simp only [Int.toNat_natCast] at hB
 rw [JB hi] at hB
 have hos:=hs.os _ (List.getElem_mem hi)
 have hload:=ja jH (fun _=>none) g.ts hi
 obtain ⟨t,ht⟩:∃ t,g.ts[i]=t:=⟨_,rfl⟩
 have hload:∀ ob,YE ob (some 3) (.eptr (g.ts.flatMap txnC) (i * 3))=some (.agg (txnC t)):=fun ob=>by rw [ja jH ob g.ts hi,ht]
 rw [ht] at hB hos
 clear hend
 obtain ⟨s0,f0,nl,ops⟩:=t
 simp only at hB hos
 have k1':¬ ((i:Int)<0):=by omega
 have k2':¬ ((g.ts.length:Int)≤i):=by omega
 have k2'':¬ (g.ts.length≤i):=by omega
 simp [k1',k2',k2'',j6,hi,jF jH,hload,txnC,jD]
 refine jL [(5,5),(7,9),(31,83)] ops.length (fun k s=>s.tm 7 = .int .i64 k∧s.ob 12=some ⟨1472,.cells (txnC ⟨s0,f0,nl,ops⟩)⟩∧GrowT s.tk s.nx intC 1 (X5 ops k) (s.tm 5)) rfl rfl ⟨by simp,by simp [txnC],by simp [X5];exact ⟨128,by simp,by simp [jv,jW],by simp⟩⟩ ?_
 rintro k s hk ⟨h7,o12,hG⟩ f
 have f6:s.tm 6 = .ptr 12 1472 0:=by rw [f.t 6 (by simp)];simp
 have fd:s.df=[]:=by rw [f.d];simp
 have fb:s.fb=0:=by rw [f.b];simp
 have fr:s.ro=0:=by rw [f.r];simp
 clear f
 by_cases hlt:k<ops.length
 ·have hw':=JJ hlt (by omega)
  have hstep:=jfi hlt
  have hbl:=jd2 ops k
  obtain ⟨o,ho⟩:∃ o,ops[k]=o:=⟨_,rfl⟩
  rw [ho] at hstep
  unfold jyw at hstep
  have q0:(ops.flatMap opC)[k * 4]? = some (.bool o.w):=by
   have:=ju jK ops hlt (by decide:0<4)
   rw [Nat.add_zero,ho] at this
   rw [this];rfl
  have q1:(ops.flatMap opC)[k * 4+1]? = some (.int .i64 o.key):=by rw [ju jK ops hlt (by decide:1<4),ho];rfl
  have q2:(ops.flatMap opC)[k * 4+2]? = some (.int .i64 o.v.kind):=by rw [ju jK ops hlt (by decide:2<4),ho];rfl
  have a2:∀ ob,YE ob (some 2) (.eptr (ops.flatMap opC) (k * 4+2))=some (.agg (J1 o.v)):=fun ob=>by
   have:=Xc jK ops k hlt
   have h4:=jE jK ops
   simp only [YE,Xq]
   rw [if_pos (by omega)]
   congr 2
   rw [ho] at this
   have h2:((ops.flatMap opC).drop (k * 4+2)).take 2=((((ops.flatMap opC).drop (k * 4)).take 4).drop 2).take 2:=by
    rw [List.drop_take,List.drop_drop,List.take_take];rfl
   rw [h2,this];rfl
  have e78:=j49 ⟨s0,f0,nl,ops⟩ (by simp;omega) o.key (n:=k) (by simp;omega)
  simp only at e78
  simp [h7,f6,o12,j6,txnC,hlt,jF jK,q1]
  refine Xt e78 (by simp [txnC]) rfl (by simp [txnC]) ?_
  rw [JR (by simp [V.plain,J1])]
  generalize J3 o.key ops k=rv at *
  obtain ⟨rv,rb⟩:=rv
  simp only at hstep
  simp [J1,j6,jD,fb,fr,o12,txnC]
  refine ⟨by simp [Jw,WJ,jbn,Qx,rdOb,rdTk,lOf,uOf,Delta.wo,Delta.wt,f6];try decide,?_⟩
  cases hw:o.w
  ·rw [hw] at hstep q0
   cases rb
   ·simp only [Bool.false_and,Bool.and_false,Bool.false_eq_true,if_false,List.append_nil] at hstep
    simp [h7,f6,hw',o12,j6,txnC,hlt,jF jK,q0]
    rw [hstep]
    refine hG.mono (fun u hu h=>?_) (by omega)
    first | exact h | simpa [jW] using h
   ·cases hk2:(o.v.kind == 2)
    ·have hne2:(o.v.kind != 2)=true:=by simp only [bne,hk2,Bool.not_false]
     rw [hne2] at hstep
     simp only [Bool.not_false,Bool.true_and] at hstep
     have a2':=a2
     simp only [J1] at a2'
     cases heq:((rv.kind == o.v.kind) && (rv.n == o.v.n))
     ·rw [heq] at hstep
      have heq':((o.v.kind == rv.kind) && (o.v.n == rv.n))=false:=by rw [← heq,Bool.beq_comm,Bool.beq_comm (a:=o.v.n)]
      simp only [Bool.not_false,if_true] at hstep
      simp [h7,f6,hw',o12,j6,txnC,hlt,jF jK,q0,q2,hne2,a2',heq']
      refine jT (cs:=intC k) (by simp [jD,intC]) rfl rfl ?_
      simp
      refine XF (f:=intC) (hi:=s.nx) (l:=X5 ops k) (a:=(k:Int)) (v:=s.tm 5) (hG.mono (fun u _ h=>by simp [jv,jW,h]) (Nat.le_refl _)) (by simp) (by simp [jO,intC]) jR (by decide) rfl (by omega) (by omega) (fun del hdel=>?_)
      have hlen:(X5 ops k).length+1=(X5 ops (k+1)).length:=by rw [hstep];simp
      rw [← hstep,hlen]
      obtain ⟨M,hM⟩:∃ M,X5 ops (k+1)=M:=⟨_,rfl⟩
      rw [hM]
      simp [h7,hw',o12,txnC,hM]
      exact ⟨hlt,_,rfl,by simp [jv],by omega⟩
     ·rw [heq] at hstep
      have heq':((o.v.kind == rv.kind) && (o.v.n == rv.n))=true:=by rw [← heq,Bool.beq_comm,Bool.beq_comm (a:=o.v.n)]
      simp only [Bool.not_true,Bool.false_eq_true,if_false,List.append_nil] at hstep
      simp [h7,f6,hw',o12,j6,txnC,hlt,jF jK,q0,q2,hne2,a2',heq']
      rw [hstep]
      refine hG.mono (fun u hu h=>?_) (by omega)
      first | exact h | simpa [jW] using h
    ·have hne2:(o.v.kind != 2)=false:=by simp only [bne,hk2,Bool.not_true]
     rw [hne2] at hstep
     simp only [Bool.false_and,Bool.and_false,Bool.false_eq_true,if_false,List.append_nil] at hstep
     simp [h7,f6,hw',o12,j6,txnC,hlt,jF jK,q0,q2,hne2]
     rw [hstep]
     refine hG.mono (fun u hu h=>?_) (by omega)
     first | exact h | simpa [jW] using h
  ·rw [hw] at hstep q0
   simp only [Bool.not_true,Bool.false_and,Bool.false_eq_true,if_false,List.append_nil] at hstep
   simp [h7,f6,hw',o12,j6,txnC,hlt,jF jK,q0]
   rw [hstep]
   refine hG.mono (fun u hu h=>?_) (by omega)
   first | exact h | simpa [jW] using h
 ·have:k=ops.length:=by omega
  subst this
  rw [hB] at hG
  obtain ⟨u,hu,_,_⟩:=hG
  simp [h7,f6,o12,j6,txnC]
  exact slE (t:=some (u,1)) (nl:=false) (k:=B.length) (cs:=B.flatMap intC) (fun r h=>h) (by simp [fd]) (by simp [hu])
end Go.Pv.T

/- The knower: what it has learned; learning. -/
namespace Go.Pv.T
open Go Go.Pv
structure KnS where
 m:List (Int × Int)
 n:List (Int × Int)
 hop:Bool
 more:Bool
structure Kn (g:Hist') (uK um un:Nat) (s:KnS) (ob:Nat→Option Obj') (ub:Nat):Prop where
 lt:um<un∧un<uK∧uK<ub
 k:ob (2 * uK+1)=some ⟨uK,.cells [jl g.sn strC g.ss,jl g.kn strC g.ks,jl g.tn txnC g.ts,.map (2 * um+1) um,.map (2 * un+1) un,.bool s.hop,.bool s.more]⟩
 m:∃ ver,ob (2 * um+1)=some ⟨um,.mp ver (MP jaf s.m)⟩
 n:∃ ver,ob (2 * un+1)=some ⟨un,.mp ver (MP jaf s.n)⟩
def KnP (g:Hist') (uK um un:Nat) (s':KnS) (ob:Nat→Option Obj') (ub:Nat) (r:V × (Nat→Option Obj') × (Nat→Bool) × Nat):Prop :=
 Kn g uK um un s' r.2.1 r.2.2.2∧(∀ key,key≠2 * uK+1→key≠2 * um+1→key≠2 * un+1→(∀ m,ub≤m→key≠2 * m+1)→r.2.1 key=ob key)∧ub≤r.2.2.2
def KnS.learnM (s:KnS) (t:Int):KnS:=if JC s.m t=0 then { s with m:=jgp s.m t 1,more:=true } else s
def KnS.learnN (s:KnS) (t:Int):KnS:=if JC s.n t=0 then { s with n:=jgp s.n t 1,more:=true } else s
theorem jz1 {Yf:YF} {g:Hist'} {uK um un:Nat} {s:KnS} {t:Int} {ob:Nat→Option Obj'} {tk:Nat→Bool} {ro base ub:Nat} (hK:Kn g uK um un s ob ub) (hro:ro≤um) :
 ∃ r,EvS E Yf.y 179 [.ptr (2 * uK+1) uK 0,.map (2 * um+1) um,.int .i64 t] ob tk ro base ub r∧KnP g uK um un (s.learnM t) ob ub r:=by
 obtain ⟨⟨l1,l2,l3⟩,hk,⟨vm,hm⟩,⟨vn,hn⟩⟩:=hK
 refine J8 (af:=S179) rfl (by decide) ?_
 show wpC E Yf S179.body _ (JY S179.res _)
 have hmo:jg ob (2 * um+1) um=some (MP jaf s.m):=by simp [jg,hm]
 have hlk:=JE (k:=t) s.m hmo
 unfold KnS.learnM
 simp [S179,hlk]
 by_cases h0:JC s.m t=0
 ·have w1:IntKind.i64.wrap 1=1:=by decide
  simp [h0,hlk,w1]
  refine YG (f:=jaf) (l:=2 * um+1) (u:=um) (ver:=vm) (k:=t) (a:=1) s.m (by simp) (by simp) (by simp [V.strip,jaf]) (by simpa using hm) (by simpa using hro) ?_
  have n1:¬ 2 * uK=2 * um:=by omega
  have n2:¬ 2 * un=2 * um:=by omega
  have n3:¬ 2 * um=2 * uK:=by omega
  have n4:¬ 2 * un=2 * uK:=by omega
  have n5:ro≤uK:=by omega
  simp [j6,hk,n1,n5,jD]
  refine jy (.inl rfl) (by simp) ⟨⟨⟨l1,l2,by simp;omega⟩,by simp,⟨vm+1,by simp [n3]⟩,⟨vn,by simp [n2,n4,hn]⟩⟩,fun key h1 h2 h3 h4=>by simp [h1,h2],by simp;omega⟩
 ·have h0':(JC s.m t == 0)=false:=by simpa using h0
  simp [h0,h0']
  exact jy (.inl rfl) (by simp) ⟨⟨⟨l1,l2,by simp;omega⟩,hk,⟨vm,hm⟩,⟨vn,hn⟩⟩,fun key h1 h2 h3 h4=>rfl,by simp;omega⟩
theorem jz0 {Yf:YF} {g:Hist'} {uK um un:Nat} {s:KnS} {t:Int} {ob:Nat→Option Obj'} {tk:Nat→Bool} {ro base ub:Nat} (hK:Kn g uK um un s ob ub) (hro:ro≤um) :
 ∃ r,EvS E Yf.y 179 [.ptr (2 * uK+1) uK 0,.map (2 * un+1) un,.int .i64 t] ob tk ro base ub r∧KnP g uK um un (s.learnN t) ob ub r:=by
 obtain ⟨⟨l1,l2,l3⟩,hk,⟨vm,hm⟩,⟨vn,hn⟩⟩:=hK
 refine J8 (af:=S179) rfl (by decide) ?_
 show wpC E Yf S179.body _ (JY S179.res _)
 have hmo:jg ob (2 * un+1) un=some (MP jaf s.n):=by simp [jg,hn]
 have hlk:=JE (k:=t) s.n hmo
 unfold KnS.learnN
 simp [S179,hlk]
 by_cases h0:JC s.n t=0
 ·have w1:IntKind.i64.wrap 1=1:=by decide
  have n0:ro≤un:=by omega
  simp [h0,hlk,w1]
  refine YG (f:=jaf) (l:=2 * un+1) (u:=un) (ver:=vn) (k:=t) (a:=1) s.n (by simp) (by simp) (by simp [V.strip,jaf]) (by simpa using hn) (by simpa using n0) ?_
  have n1:¬ 2 * uK=2 * un:=by omega
  have n2:¬ 2 * um=2 * un:=by omega
  have n3:¬ 2 * un=2 * uK:=by omega
  have n4:¬ 2 * um=2 * uK:=by omega
  have n5:ro≤uK:=by omega
  simp [j6,hk,n1,n5,jD]
  refine jy (.inl rfl) (by simp) ⟨⟨⟨l1,l2,by simp;omega⟩,by simp,⟨vm,by simp [n2,n4,hm]⟩,⟨vn+1,by simp [n3]⟩⟩,fun key h1 h2 h3 h4=>by simp [h1,h3],by simp;omega⟩
 ·have h0':(JC s.n t == 0)=false:=by simpa using h0
  simp [h0,h0']
  exact jy (.inl rfl) (by simp) ⟨⟨⟨l1,l2,by simp;omega⟩,hk,⟨vm,hm⟩,⟨vn,hn⟩⟩,fun key h1 h2 h3 h4=>rfl,by simp;omega⟩
end Go.Pv.T

/- The knower: a transaction can't have committed. -/
namespace Go.Pv.T
open Go Go.Pv
def KnS.fails (s:KnS) (f:Int) (t:Int):KnS:=if f=1 then { s with hop:=true } else if f=3 then s.learnN t else s
theorem KnP.mono {g:Hist'} {uK um un:Nat} {s':KnS} {ob ob1:Nat→Option Obj'} {ub ub1:Nat} {r:V × (Nat→Option Obj') × (Nat→Bool) × Nat} (h:KnP g uK um un s' ob1 ub1 r)
 (ho:∀ key,key≠2 * uK+1→key≠2 * um+1→key≠2 * un+1→(∀ m,ub≤m→key≠2 * m+1)→ob1 key=ob key) (hu:ub≤ub1):KnP g uK um un s' ob ub r :=
 ⟨h.1,fun key h1 h2 h3 h4=>(h.2.1 key h1 h2 h3 (fun m hm=>h4 m (by omega))).trans (ho key h1 h2 h3 h4),Nat.le_trans hu h.2.2⟩
theorem Kn.up {g:Hist'} {uK um un:Nat} {s:KnS} {ob ob1:Nat→Option Obj'} {ub ub1:Nat} (h:Kn g uK um un s ob ub) (ho:ob1=ob) (hu:ub≤ub1):Kn g uK um un s ob1 ub1 :=
 ⟨⟨h.lt.1,h.lt.2.1,Nat.lt_of_lt_of_le h.lt.2.2 hu⟩,by rw [ho];exact h.k,by rw [ho];exact h.m,by rw [ho];exact h.n⟩
theorem jv5 {Yf:YF} {g:Hist'} {uK um un:Nat} {s:KnS} {i:Nat} (hi:i<g.ts.length) {ob:Nat→Option Obj'} {tk:Nat→Bool} {ro base ub:Nat} (hK:Kn g uK um un s ob ub) (hro:ro≤um) :
 ∃ r,EvS E Yf.y 177 [.ptr (2 * uK+1) uK 0,.int .i64 (i:Int)] ob tk ro base ub r∧KnP g uK um un (s.fails (g.ts[i]).f i) ob ub r:=by
 have hK':=hK
 obtain ⟨⟨l1,l2,l3⟩,hk,⟨vm,hm⟩,⟨vn,hn⟩⟩:=hK
 refine J8 (af:=S177) rfl (by decide) ?_
 show wpC E Yf S177.body _ (JY S177.res _)
 obtain ⟨f,hf⟩:∃ f,(g.ts[i]).f=f:=⟨_,rfl⟩
 have hlf:(g.ts.flatMap txnC)[i * 3+1]? = some (.int .i64 f):=by rw [ju jH g.ts hi (by decide:1<3),← hf];rfl
 rw [hf]
 have n5:ro≤uK:=by omega
 unfold KnS.fails
 simp [S177,j6,hk,hi,jF jH,hlf]
 by_cases h1:f=1
 ·have n1:¬ 2 * um=2 * uK:=by omega
  have n2:¬ 2 * un=2 * uK:=by omega
  simp [h1,hk,n5,j6,jD]
  refine jy (.inl rfl) (by simp) ⟨⟨⟨l1,l2,by simp;omega⟩,by simp,⟨vm,by simp [n1,hm]⟩,⟨vn,by simp [n2,hn]⟩⟩,fun key k1 k2 k3 k4=>by simp [k1],by simp;omega⟩
 ·by_cases h3:f=3
  ·simp [h3,hk,j6]
   refine jQ (vs:=[.ptr (2 * uK+1) uK 0,.map (2 * un+1) un,.int .i64 (i:Int)]) (by simp) rfl (jz0 (g:=g) (uK:=uK) (um:=um) (un:=un) (s:=s) (hK'.up (by simp) (by omega)) (by simpa using hro)) ?_
   rintro v ob1 tk1 ub1 hP
   simp
   refine jy (.inl rfl) (by simp) ?_
   refine hP.mono (fun _ _ _ _ _=>?_) ?_
   ·simp
   ·omega
  ·have e1:(f == 1)=false:=by simpa using h1
   have e3:(f == 3)=false:=by simpa using h3
   simp [h1,h3,e1,e3]
   exact jy (.inl rfl) (by simp) ⟨⟨⟨l1,l2,by simp;omega⟩,hk,⟨vm,hm⟩,⟨vn,hn⟩⟩,fun key k1 k2 k3 k4=>rfl,by simp;omega⟩
end Go.Pv.T

/- The knower: who is left; deleting from a slice. -/
namespace Go.Pv.T
open Go Go.Pv
theorem jpy {Yf:YF} {f:FuncId} {q:A} {xs:List A} {st:St} {ub:Nat} {K:St→Nat→Prop} {d:Option Nat} {nm:Bool} {first captured vs:List V} {P:V × (Nat→Option Obj') × (Nat→Bool) × Nat→Prop}
 (hq:eval E st.tm q = .fn (.func f) first captured) (hx:first++xs.map (eval E st.tm)++captured=vs) (hs:E.sh nm f=true)
 (he:∃ r,EvS E Yf.y f vs st.ob st.tk st.ro ((st.fb+d.getD 0+1) * 1024) ub r∧P r) (h:∀ v ob' tk' ub',P (v,ob',tk',ub')→K (jkh st d v ob' tk') ub'):jG E Yf ⟨d,.callV q xs,none,nm⟩ st ub K:=by
 have hsh:jI E nm (eval E st.tm) (.callV q xs)=some (f,vs):=by simp only [jI,hq,hs,hx,Bool.not_true,Bool.false_and,Bool.false_eq_true,if_false]
 simp only [jG,wanted,jt,hq,hsh]
 obtain ⟨r,hr,hP⟩:=he
 exact .inl ⟨hs,r,hr,h r.1 r.2.1 r.2.2.1 r.2.2.2 hP⟩
def jil (g:FuncId) (cap:V) (p:Int→Bool) (ob:Nat→Option Obj'):Prop:=∀ (Yf:YF) (x:Int) (tk:Nat→Bool) (ro base ub:Nat),∃ r,EvS E Yf.y g [.int .i64 x,cap] ob tk ro base ub r∧(r.1 = .bool (p x)∧r.2.1=ob∧r.2.2.1=tk∧ub≤r.2.2.2)
theorem jdf {Yf:YF} {q x:A} {st:St} {ub:Nat} {K:St→Nat→Prop} {d:Option Nat} {nm:Bool} {g:FuncId} {cap:V} {p:Int→Bool} {ob0:Nat→Option Obj'} {k:Int} (hp:jil g cap p ob0) (hob:st.ob=ob0) (hq:eval E st.tm q = .fn (.func g) [] [cap]) (hx:eval E st.tm x = .int .i64 k)
 (hs:E.sh nm g=true) (h:∀ ub',ub≤ub'→K (jkh st d (.bool (p k)) ob0 st.tk) ub'):jG E Yf ⟨d,.callV q [x],none,nm⟩ st ub K:=by
 refine jpy (f:=g) (first:=[]) (captured:=[cap]) (vs:=[.int .i64 k,cap]) hq (by simp [hx]) hs (by rw [hob];exact hp Yf k st.tk st.ro _ ub) ?_
 rintro v ob1 tk1 ub1 ⟨h1,h2,h3,h4⟩
 simp only at h1 h2 h3 h4
 subst h1 h2 h3
 exact h ub1 h4
theorem jwt {g:Hist'} {uK um un:Nat} {s:KnS} {ob:Nat→Option Obj'} {lb ub0:Nat} (hk:ob (2 * uK+1)=some ⟨uK,.cells [jl g.sn strC g.ss,jl g.kn strC g.ks,jl g.tn txnC g.ts,.map (2 * um+1) um,.map (2 * un+1) un,.bool s.hop,.bool s.more]⟩)
 (hn:∃ ver,ob (2 * un+1)=some ⟨un,.mp ver (MP jaf s.n)⟩) (hb:ob lb=some ⟨ub0,.cells [.ptr (2 * uK+1) uK 0]⟩):jil 218 (.ptr lb ub0 0) (fun t=>decide (0<JC s.n t)) ob:=by
 intro Yf x tk ro base ub
 obtain ⟨vn,hn⟩:=hn
 refine J8 (af:=S218) rfl (by decide) ?_
 show wpC E Yf S218.body _ (JY S218.res _)
 have hno:jg ob (2 * un+1) un=some (MP jaf s.n):=by simp [jg,hn]
 have hlk:=JE (k:=x) s.n hno
 simp [S218,j6,hb,hk,hlk]
 exact YL (by simp) ⟨by simp,by simp,by simp,by simp;omega⟩
theorem jwu {m:List (Int × Int)} {ob:Nat→Option Obj'} {lb ub0 lm um:Nat} (hn:∃ ver,ob lm=some ⟨um,.mp ver (MP jaf m)⟩) (hb:ob lb=some ⟨ub0,.cells [.map lm um]⟩):jil 135 (.ptr lb ub0 0) (fun t=>JC m t == 0) ob:=by
 intro Yf x tk ro base ub
 obtain ⟨vn,hn⟩:=hn
 refine J8 (af:=S135) rfl (by decide) ?_
 show wpC E Yf S135.body _ (JY S135.res _)
 have hno:jg ob lm um=some (MP jaf m):=by simp [jg,hn]
 have hlk:=JE (k:=x) m hno
 simp [S135,j6,hb,hlk]
 exact YL (by simp) ⟨by simp,by simp,by simp,by simp;omega⟩
def OwnI (ob:Nat→Option Obj') (v:V) (l:List Int):Prop:=(v = .sl none true 0 []∧l=[])∨∃ L u cs,v = .osl L u 0 l.length 1∧ob L=some ⟨u,.cells cs⟩∧l.length≤cs.length∧cs.take l.length=l.flatMap intC
theorem OwnI.at {l:List Int} {cs:List V} (ht:cs.take l.length=l.flatMap intC) {i:Nat} (h:i<l.length):cs[i]? = some (.int .i64 l[i]):=by
 have h1:=Qw l h
 rw [← ht,List.getElem?_take_of_lt h] at h1
 exact h1
theorem j46 {p:Int→Bool} {g:FuncId} {cap:V} {ob:Nat→Option Obj'} (hs:E.sh true g=true) (hp:jil g cap p ob) {L u:Nat} {l:List Int} {cs:List V} (ho:ob L=some ⟨u,.cells cs⟩) (ht:cs.take l.length=l.flatMap intC) (hl:l.length≤1000000) (tk:Nat→Bool) (base ub:Nat) :
 EvO E 106 [.osl L u 0 l.length 1,.fn (.func g) [] [cap]] ob tk base ub (.int .i64 (Yk p l)):=by
 refine WC (af:=S106) rfl ?_
 simp [S106]
 refine Xz (n:=l.length) (fun k s=>∃ i,k=l.length - i∧i≤l.length∧s.df=[]∧s.ob=ob∧s.tm 0 = .osl L u 0 l.length 1∧s.tm 1 = .fn (.func g) [] [cap]∧s.tm 7 = .int .i64 l.length∧s.tm 8 = .int .i64 i∧∀ j (hj:j<l.length),j<i→p l[j]=false)
  ⟨0,by simp⟩ ?_
 rintro k s ⟨i,rfl,hi,hd,hob,h0,h1,h7,h8,hb⟩
 by_cases hlt:i<l.length
 ·have hio:=W7 (l:=L) (u:=u) (n:=l.length) (kk:=.i64) (X:=(i:Int)) rfl hlt
  have hci:=OwnI.at ht hlt
  simp [h0,h1,h7,h8,hlt,hio,j6,hob,ho,hci]
  refine jdf hp (by simpa using hob) (by simp [h1]) (k:=l[i]) (by simp) hs fun ub1 hub=>?_
  cases hpi:p l[i]
  ·simp [h0,h1,h7,h8,hd]
   refine ⟨l.length - (i+1),by omega,i+1,rfl,by omega,by rw [J4 (by omega) (by omega)];simp,?_⟩
   ·intro j hj hji
    rcases Nat.lt_succ_iff_lt_or_eq.1 hji with h | rfl
    ·exact hb j hj h
    ·exact hpi
  ·simp
   refine jC (by simpa using hd) ?_ rfl
   simp
   rw [WX hlt hpi hb]
 ·have:i=l.length:=by omega
  subst this
  simp [h7,h8]
  refine jC (by simpa using hd) ?_ rfl
  simp [QR (fun j hj=>hb j hj hj)]
end Go.Pv.T

/- slices.DeleteFunc on numbers of one's own. -/
namespace Go.Pv.T
open Go Go.Pv
theorem jtg {E:Env} {Yf:YF} {st:St} {ub:Nat} {K:St→Nat→Prop} {d:Option Nat} {nm:Bool} {sz l u off n:Nat} {zero cs:List V} {x:A} (hx:eval E st.tm x = .osl l u off n sz) (ho:st.ob l=some ⟨u,.cells cs⟩) (hro:st.ro≤u) (hz:zero.length=sz) (hn:off+n * sz≤cs.length)
 (h:jae K st d ub { v:=JK,obs:=[(l,⟨u,.cells (jD cs off (jbi n zero))⟩)] }):jG E Yf ⟨d,.clear sz zero x,none,nm⟩ st ub K:=by
 have hoc:j6 st.ob l u=some cs:=by simp [j6,ho]
 rw [je _ rfl rfl]
 simp only [aop,hx]
 rw [if_pos ⟨Nat.ble_eq ▸ hro,trivial,hz⟩,hoc,Option.bind_some,if_pos hn,jX]
 exact h
theorem jlw {L u n i:Nat} (h:i≤n):QX 1 (some (.int .i64 (i:Int))) none (.osl L u 0 n 1)=some (.osl L u i (n - i) 1):=by
 have h':(i:Int)≤n:=by omega
 simp [QX,Jx,h']
 omega
theorem jrz {L u n i:Nat} (h:i≤n):QX 1 none (some (.int .i64 (i:Int))) (.osl L u 0 n 1)=some (.osl L u 0 i 1):=by
 have h':(i:Int)≤n:=by omega
 simp [QX,Jx,h']
theorem jyd {g:FuncId} {cap:V} {ob:Nat→Option Obj'} (tk:Nat→Bool) (base ub:Nat):EvO E 106 [.sl none true 0 [],.fn (.func g) [] [cap]] ob tk base ub (.int .i64 (-1)):=by
 refine WC (af:=S106) rfl ?_
 simp [S106]
 refine Y5 1 ?_
 simp
 exact jC rfl (by simp) rfl
theorem ja4 {p:Int→Bool} {l:List Int} (h:l.findIdx? p=none):l.filter (fun x=>!p x)=l:=by
 rw [List.filter_eq_self]
 intro x hx
 have:=List.findIdx?_eq_none_iff.1 h x hx
 simp [this]
theorem jeh:∀ (l:List Int) (n:Nat),(l.flatMap intC).take n=(l.take n).flatMap intC
 | [],n=>by simp
 | a::l,0=>by simp
 | a::l,n+1=>by
  have:=jeh l n
  simp only [List.flatMap_cons,intC,List.singleton_append,List.take_succ_cons,this]
def DelP (L u:Nat) (l:List Int) (ob:Nat→Option Obj') (tk:Nat→Bool) (ub:Nat) (r:V × (Nat→Option Obj') × (Nat→Bool) × Nat):Prop :=
 OwnI r.2.1 r.1 l∧(∀ key,key≠L→r.2.1 key=ob key)∧r.2.2.1=tk∧ub≤r.2.2.2∧(r.1 = .sl none true 0 []∨∃ n,r.1 = .osl L u 0 n 1)
theorem juj {Yf:YF} {g:FuncId} {a b c:Nat} {ob:Nat→Option Obj'} {tk:Nat→Bool} {ro base ub L u:Nat}:∃ r,EvS E Yf.y 134 [.sl none true 0 [],.fn (.func g) [] [.ptr a b c]] ob tk ro base ub r∧DelP L u [] ob tk ub r:=by
 refine J8 (af:=S134) rfl (by decide) ?_
 show wpC E Yf S134.body _ (JY S134.res _)
 simp [S134]
 refine Wn (vs:=[.sl none true 0 [],.fn (.func g) [] [.ptr a b c]]) (by simp) rfl rfl (jyd _ _ _) ?_
 simp
 refine YL (by simp) ⟨.inl ⟨by simp,rfl⟩,fun key h=>by simp,by simp,by simp;omega,.inl (by simp)⟩
def Qp (p:Int→Bool) (l:List Int) (j:Nat):List Int:=(l.take j).filter fun x=>!p x
theorem je3 {p:Int→Bool} {l:List Int} {j:Nat} (h:j<l.length):Qp p l (j+1)=Qp p l j++if p l[j] then [] else [l[j]]:=by
 unfold Qp
 rw [List.take_succ_eq_append_getElem h,List.filter_append]
 cases hp:p l[j] <;> simp [hp]
theorem js6 (p:Int→Bool) (l:List Int) (j:Nat):(Qp p l j).length≤j:=by
 unfold Qp
 have:=List.length_filter_le (fun x=>!p x) (l.take j)
 rw [List.length_take] at this
 omega
set_option maxRecDepth 100000 in
theorem jz3 {Yf:YF} {g:FuncId} {a b c:Nat} {p:Int→Bool} (hg:E.sh true g=true) {ob:Nat→Option Obj'} {tk:Nat→Bool} {ro base ub L u:Nat} {l:List Int} (hl:l.length≤1000000) (ho:ob L=some ⟨u,.cells (l.flatMap intC)⟩) (hro:ro≤u)
 (hp:∀ ob':Nat→Option Obj',(∀ key,key≠L→ob' key=ob key)→jil g (.ptr a b c) p ob') :
 ∃ r,EvS E Yf.y 134 [.osl L u 0 l.length 1,.fn (.func g) [] [.ptr a b c]] ob tk ro base ub r∧DelP L u (l.filter fun x=>!p x) ob tk ub r:=by
 refine J8 (af:=S134) rfl (by decide) ?_
 show wpC E Yf S134.body _ (JY S134.res _)
 have e106:=fun tk base ub=>j46 (g:=g) (cap:=.ptr a b c) hg (hp ob fun _ _=>rfl) ho (by rw [List.take_of_length_le (by rw [jE jR];omega)]) hl tk base ub
 simp [S134]
 refine Wn (vs:=[.osl L u 0 l.length 1,.fn (.func g) [] [.ptr a b c]]) (by simp) rfl rfl (by simpa using e106 _ _ _) ?_
 cases hf:l.findIdx? p with
 | none =>
  have hfi:Yk p l = -1:=by unfold Yk;rw [hf]
  rw [hfi]
  simp
  refine YL (by simp) ⟨.inr ⟨L,u,l.flatMap intC,by simp [ja4 hf],by simpa using ho,?_,?_⟩,fun key h=>by simp,by simp,by simp;omega,.inr ⟨_,by simp;rfl⟩⟩
  ·rw [ja4 hf,jE jR];omega
  ·rw [ja4 hf,List.take_of_length_le (by rw [jE jR];omega)]
 | some i0 =>
  have hfi:Yk p l=(i0:Int):=by unfold Yk;rw [hf]
  rw [hfi]
  obtain ⟨hi0,hpi,hbef⟩:=List.findIdx?_eq_some_iff_getElem.1 hf
  have hne:((i0:Int) == -1)=false:=by simp
  have hw0:=JJ hi0 (by omega)
  have hk0:Qp p l (i0+1)=l.take i0:=by
   rw [je3 hi0,hpi]
   simp only [if_true,List.append_nil]
   unfold Qp
   rw [List.filter_eq_self]
   intro x hx
   obtain ⟨j,hj,rfl⟩:=List.mem_iff_getElem.1 hx
   rw [List.length_take] at hj
   rw [List.getElem_take]
   have:=hbef j (by omega)
   simpa using this
  simp [hne,hw0]
  refine jL [(5,7),(16,35)] (l.length - (i0+1)) (fun k s=>s.tm 6 = .int .i64 ((i0+1+k:Nat):Int)∧s.tm 5 = .int .i64 ((Qp p l (i0+1+k)).length:Int)∧(∃ cs,s.ob L=some ⟨u,.cells cs⟩∧cs.length=l.length∧cs.take (Qp p l (i0+1+k)).length=(Qp p l (i0+1+k)).flatMap intC∧∀ j,i0+1+k≤j→cs[j]? = (l.flatMap intC)[j]?)∧(∀ key,key≠L→s.ob key=ob key)∧s.tk=tk∧ub≤s.nx) rfl rfl ⟨by simp,by simp [hk0];omega,⟨l.flatMap intC,by simpa using ho,by rw [jE jR];omega,?_,fun _ _=>rfl⟩,fun key h=>by simp,by simp,by simp;omega⟩ ?_
  ·rw [Nat.add_zero,hk0]
   rw [List.length_take,Nat.min_eq_left (by omega),jeh]
  rintro k s hk ⟨h6,h5,⟨cs,hcs,hlen,htk,hrest⟩,hoth,hst,hnx⟩ f
  have f0:s.tm 0 = .osl L u 0 l.length 1:=by rw [f.t 0 (by simp)];simp
  have f1:s.tm 1 = .fn (.func g) [] [.ptr a b c]:=by rw [f.t 1 (by simp)];simp
  have fd:s.df=[]:=by rw [f.d];simp
  have fr:s.ro=ro:=by rw [f.r];simp
  clear f
  have hkl:=js6 p l (i0+1+k)
  by_cases hlt:k<l.length - (i0+1)
  ·have hj:i0+1+k<l.length:=by omega
   obtain ⟨j,hjj⟩:∃ j,i0+1+k=j:=⟨_,rfl⟩
   rw [hjj] at h6 h5 htk hrest hj hkl
   have hjn:i0+1+(k+1)=j+1:=by omega
   have hw':=JJ (i:=j) (N:=l.length) hj (by omega)
   have hstep:=je3 (p:=p) hj
   have hcj:cs[j]? = some (.int .i64 l[j]):=by rw [hrest j (Nat.le_refl _),Qw l hj]
   have hio:=W7 (l:=L) (u:=u) (n:=l.length) (kk:=.i64) (X:=(j:Int)) rfl hj
   have hjl:(j:Int)<l.length:=by omega
   simp [h6,f0,f1,hjl,hio,j6,hcs,hcj]
   refine jdf (hp s.ob hoth) (by simp) (by simp) (k:=l[j]) (by simp) hg fun ub1 hub=>?_
   cases hpj:p l[j]
   ·rw [hpj] at hstep
    simp only [Bool.false_eq_true,if_false] at hstep
    obtain ⟨i,hii⟩:∃ i,(Qp p l j).length=i:=⟨_,rfl⟩
    rw [hii] at h5 htk hkl
    have hil:i<l.length:=by omega
    have hwi:=JJ (i:=i) (N:=l.length) hil (by omega)
    have hio2:=W7 (l:=L) (u:=u) (n:=l.length) (kk:=.i64) (X:=(i:Int)) rfl hil
    have hle:i+1≤l.length:=hil
    have hsl:(Qp p l (j+1)).length=i+1:=by rw [hstep,List.length_append,hii];rfl
    simp [h6,h5,f0,hio2,j6,hcs,fr,hro,hlen,hle,hw',hwi]
    rw [hjn]
    refine ⟨by omega,by omega,by rw [hsl];omega,⟨?_,?_,fun m hm=>?_⟩,fun key h=>by simp [h,hoth],by simp [jW,hst],by omega⟩
    ·unfold jD
     simp only [List.length_append,List.length_take,List.length_drop,List.length_singleton,hlen]
     omega
    ·have hl1:(cs.take i++[V.int .i64 l[j]]).length=i+1:=by rw [List.length_append,List.length_take];simp;omega
     rw [hsl,hstep,List.flatMap_append,← htk]
     unfold jD
     exact List.take_left' hl1
    ·have hs:jD cs i [.int .i64 l[j]]=cs.set i (.int .i64 l[j]):=by
      unfold jD
      rw [List.set_eq_take_append_cons_drop,if_pos (by omega),List.append_assoc]
      rfl
     rw [hs,List.getElem?_set_ne (by omega)]
     exact hrest m (by omega)
   ·rw [hpj] at hstep
    simp only [if_true,List.append_nil] at hstep
    simp [h6,h5,hw']
    rw [hjn,hstep]
    exact ⟨by omega,by omega,rfl,⟨cs,hcs,hlen,htk,fun m hm=>hrest m (by omega)⟩,hoth,by simp [hst],by omega⟩
  ·have hke:i0+1+k=l.length:=by omega
   rw [hke] at h6 h5 htk hrest hkl
   have hall:Qp p l l.length=l.filter fun x=>!p x:=by unfold Qp;rw [List.take_length]
   rw [hall] at h5 htk hkl
   generalize (l.filter fun x=>!p x)=R at *
   have hRl:(R.length:Int)≤l.length:=by omega
   simp [h6,h5,f0,jlw hkl]
   refine jtg (l:=L) (u:=u) (off:=R.length) (n:=l.length - R.length) (cs:=cs) (by simp) (by simpa using hcs) (by simp [fr,hro]) rfl (by omega) ?_
   simp [h5,f0,jrz hkl]
   have hl1:(cs.take R.length).length=R.length:=by rw [List.length_take];omega
   refine YL (by simp [fd]) ⟨.inr ⟨L,u,_,by simp,by simp;rfl,?_,?_⟩,fun key h=>by simp [h,hoth],?_,?_,.inr ⟨_,by simp;rfl⟩⟩
   ·unfold jD
    simp only [List.length_append,List.length_take]
    omega
   ·unfold jD
    rw [List.append_assoc]
    rw [List.take_left' hl1]
    exact htk
   ·simp [jW,hst]
   ·simp;omega
end Go.Pv.T

/- The knower: what a transaction tells. -/
namespace Go.Pv.T
open Go Go.Pv
def KnS.left (s:KnS) (g:Hist') (a b:Int):List Int:=(ofH g a b).filter fun t=>!decide (0<JC s.n t)
def KnS.op (s:KnS) (g:Hist') (f:Int) (t k:Nat) (o:Op'):KnS :=
 if o.v.kind == 2 || !XN g t k then s else
 if (s.left g t k).length=0 then s.fails f t else
 if (s.left g t k).length == 1 && (decide (0≤(s.left g t k).headD 0) && decide (0<JC s.m t)) then s.learnM ((s.left g t k).headD 0) else s
def KnS.ops (s:KnS) (g:Hist') (f:Int) (t:Nat) (l:List Op'):Nat→KnS
 | 0=>s
 | k+1=>match l[k]? with
  | some o=>(s.ops g f t l k).op g f t k o
  | none=>s.ops g f t l k
def KnS.txn (s:KnS) (g:Hist') (t:Nat) (f:Int) (l:List Op'):KnS:=(if (badH g t).isEmpty then s else s.fails f t).ops g f t l l.length
theorem Kn.keep {g:Hist'} {uK um un:Nat} {s:KnS} {ob ob1:Nat→Option Obj'} {ub ub1:Nat} (h:Kn g uK um un s ob ub) (ho:∀ key,(∀ m,ub≤m→key≠2 * m+1)→ob1 key=ob key) (hu:ub≤ub1):Kn g uK um un s ob1 ub1:=by
 obtain ⟨⟨l1,l2,l3⟩,hk,⟨vm,hm⟩,⟨vn,hn⟩⟩:=h
 exact ⟨⟨l1,l2,by omega⟩,(ho _ fun m h e=>by omega).trans hk,⟨vm,(ho _ fun m h e=>by omega).trans hm⟩,⟨vn,(ho _ fun m h e=>by omega).trans hn⟩⟩
def Aside (uK um un:Nat) (ob:Nat→Option Obj') (ub:Nat) (ob1:Nat→Option Obj'):Prop:=∀ key,key≠2 * uK+1→key≠2 * um+1→key≠2 * un+1→(∀ m,ub≤m→key≠2 * m+1)→ob1 key=ob key
theorem Aside.trans {uK um un:Nat} {ob ob1 ob2:Nat→Option Obj'} {ub ub1:Nat} (h:Aside uK um un ob ub ob1) (h':Aside uK um un ob1 ub1 ob2) (hu:ub≤ub1):Aside uK um un ob ub ob2 :=
 fun key h1 h2 h3 h4=>(h' key h1 h2 h3 fun m hm=>h4 m (by omega)).trans (h key h1 h2 h3 h4)
theorem Aside.new {uK um un:Nat} {ob ob1:Nat→Option Obj'} {ub:Nat} (h:∀ key,(∀ m,ub≤m→key≠2 * m+1)→ob1 key=ob key):Aside uK um un ob ub ob1:=fun key _ _ _ h4=>h key h4
def jvk:Prop:=∀ (Yf:YF) (g:Hist') (uK um un:Nat) (s:KnS) (a b:Int) (ob:Nat→Option Obj') (tk:Nat→Bool) (ro base ub:Nat),Small g→Kn g uK um un s ob ub→ro≤um →
 ∃ r,EvS E Yf.y 178 [.ptr (2 * uK+1) uK 0,.agg (jP (a,b))] ob tk ro base ub r∧(OwnI r.2.1 r.1 (s.left g a b)∧(∀ key,(∀ m,ub≤m→key≠2 * m+1)→r.2.1 key=ob key)∧ub≤r.2.2.2)
set_option maxRecDepth 100000 in
theorem sv133 (h178:jvk) {Yf:YF} {g:Hist'} (hs:Small g) {uK um un:Nat} {s:KnS} {i:Nat} (hi:i<g.ts.length) {ob:Nat→Option Obj'} {tk:Nat→Bool} {ro base ub:Nat} (hK:Kn g uK um un s ob ub) (hro:ro≤um) :
 ∃ r,EvS E Yf.y 133 [.ptr (2 * uK+1) uK 0,.int .i64 (i:Int)] ob tk ro base ub r∧KnP g uK um un (s.txn g i (g.ts[i]).f (g.ts[i]).ops) ob ub r:=by
 obtain ⟨vb,evb,hvb⟩:=ev176 hs i
 have hos:=hs.os _ (List.getElem_mem hi)
 have hts:=hs.ts
 refine J8 (af:=S133) rfl (by decide) ?_
 show wpC E Yf S133.body _ (JY S133.res _)
 have hk:=hK.k
 have hlo:(g.ts.flatMap txnC)[i * 3+2]? = some (jl (g.ts[i]).nl opC (g.ts[i]).ops):=by rw [ju jH g.ts hi (by decide:2<3)];rfl
 obtain ⟨l,hl⟩:∃ l,(g.ts[i]).ops=l:=⟨_,rfl⟩
 obtain ⟨fa,hfa⟩:∃ f,(g.ts[i]).f=f:=⟨_,rfl⟩
 obtain ⟨nl,hnl⟩:∃ nl,(g.ts[i]).nl=nl:=⟨_,rfl⟩
 rw [hl,hnl] at hlo
 rw [hl] at hos
 rw [hfa,hl]
 unfold KnS.txn
 obtain ⟨s1,hs1⟩:∃ s1,(if (badH g i).isEmpty then s else s.fails fa i)=s1:=⟨_,rfl⟩
 rw [hs1]
 simp [S133,j6,hk]
 refine jf evb (by simp [j7]) rfl (by simp [j7]) ?_
 refine jcs hvb fun tb addb=>?_
 simp
 generalize hKK:jea E Yf _ _=KK
 have rest:∀ st1:St,Kn g uK um un s1 st1.ob st1.nx→st1.tm 0 = .ptr (2 * uK+1) uK 0→st1.tm 1 = .int .i64 (i:Int)→st1.df=[]→st1.ro=ro→Aside uK um un ob ub st1.ob→ub≤st1.nx→KK .nrm st1:=by
  intro st1 k1 t0 t1 d1 r1 a1 n1
  have hk1:=k1.k
  rw [← hKK]
  simp [t0,t1,j6,hk1,hi,jF jH,hlo]
  refine jL [(4,7),(29,88)] l.length (fun k st=>st.tm 29 = .int .i64 k∧Kn g uK um un (s1.ops g fa i l k) st.ob st.nx∧Aside uK um un ob ub st.ob∧ub≤st.nx) rfl rfl ⟨by simp,by simp [KnS.ops];exact k1.up rfl (by omega),by simpa using a1,by simp;omega⟩ ?_
  rintro k st hkk ⟨h29,k2,a2,n2⟩ f
  have f0:st.tm 0 = .ptr (2 * uK+1) uK 0:=by rw [f.t 0 (by simp)];simp [t0]
  have f1:st.tm 1 = .int .i64 (i:Int):=by rw [f.t 1 (by simp)];simp [t1]
  have f27:st.tm 27=jl nl opC l:=by rw [f.t 27 (by simp)];simp
  have f28:st.tm 28 = .int .i64 l.length:=by rw [f.t 28 (by simp)];simp
  have fd:st.df=[]:=by rw [f.d];simp [d1]
  have fr:st.ro=ro:=by rw [f.r];simp [r1]
  clear f
  by_cases hlt:k<l.length
  ·have hwk:=JJ hlt (by omega)
   have hload:YE st.ob (some 4) (.eptr (l.flatMap opC) (k * 4))=some (.agg (opC l[k])):=ja jK st.ob l hlt
   obtain ⟨o,ho⟩:∃ o,l[k]=o:=⟨_,rfl⟩
   rw [ho] at hload
   have hstep:s1.ops g fa i l (k+1)=(s1.ops g fa i l k).op g fa i k o:=by simp only [KnS.ops,List.getElem?_eq_getElem hlt,ho]
   generalize s1.ops g fa i l k=s2 at *
   have hk2:=k2.k
   have e89:=ev89 hs (i:Int) (k:Int)
   unfold KnS.op at hstep
   have hlt3:=k2.lt
   have q1:¬ 2 * (st.nx+64+64+64+64)=2 * (st.nx+64+64+64+64+64+64+64+64+64+64):=by omega
   have q2:¬ 2 * uK=2 * (st.nx+64+64+64+64):=by omega
   have q3:¬ 2 * uK=2 * (st.nx+64+64+64+64+64+64+64+64+64+64):=by omega
   have q4:ro≤st.nx+64+64+64+64:=by omega
   have q5:ro≤st.nx+64+64+64+64+64+64+64+64+64+64:=by omega
   cases hq:(o.v.kind == 2)
   ·simp [h29,f0,f1,f27,f28,hlt,jF jK,hload,j6,opC,jD,fr,hro,hq,hk2,q1,q2,q3,q4,q5]
    have hkeep:∀ key,(∀ m,st.nx≤m→key≠2 * m+1)→¬ key=2 * (st.nx+64+64+64+64)+1∧¬ key=2 * (st.nx+64+64+64+64+64+64+64+64+64+64)+1:=fun key h=>⟨h _ (by omega),h _ (by omega)⟩
    refine jf e89 (by simp [j7,jP]) rfl (by simp [j7,jP]) ?_
    cases hou:XN g i k
    ·rw [hou] at hstep
     simp only [hq,Bool.not_false,Bool.or_true,if_true] at hstep
     simp [h29,hwk]
     rw [hstep]
     refine ⟨hlt,k2.keep (fun key hk=>?_) (by omega),a2.trans (Aside.new (ub:=st.nx) fun key hk=>?_) n2,by omega⟩
     ·simp [hkeep key hk]
     ·simp [hkeep key hk]
    ·rw [hou] at hstep
     simp only [hq,Bool.not_true,Bool.or_false,Bool.false_eq_true,if_false] at hstep
     simp [j6]
     refine jQ (vs:=[.ptr (2 * uK+1) uK 0,.agg (jP (i,k))]) (by simp [jP,f0]) rfl (h178 Yf g uK um un s2 i k _ _ _ _ _ hs (k2.keep (fun key hk=>?_) (by omega)) (by simp [fr,hro])) ?_
     ·simp [hkeep key hk]
     rintro v ob1 tk1 ub1 ⟨hown,hold,hub⟩
     simp only at hown hold hub
     have k3:Kn g uK um un s2 ob1 ub1:=by
      refine k2.keep (fun key hk=>?_) (by omega)
      rw [hold key (fun m hm=>hk m (by omega))]
      simp [hkeep key hk]
     have a3:Aside uK um un ob ub ob1:=by
      refine a2.trans (Aside.new (ub:=st.nx) fun key hk=>?_) n2
      rw [hold key (fun m hm=>hk m (by omega))]
      simp [hkeep key hk]
     clear hold
     obtain ⟨W,hW⟩:∃ W,s2.left g i k=W:=⟨_,rfl⟩
     rw [hW] at hown hstep
     rcases hown with ⟨hv,hWn⟩ | ⟨L,u,cs,hv,hL,hlen,htk⟩
     ·subst hv hWn
      simp only [List.length_nil,if_true] at hstep
      simp [f0,f1]
      refine jQ (vs:=[.ptr (2 * uK+1) uK 0,.int .i64 (i:Int)]) (by simp [f0,f1]) rfl (jv5 (g:=g) (uK:=uK) (um:=um) (un:=un) (s:=s2) hi (k3.up (by simp) (by omega)) (by simp [fr,hro])) ?_
      rintro v2 ob2 tk2 ub2 hP
      rw [hfa] at hP
      obtain ⟨p1,p2,p3⟩:=hP
      simp only at p1 p2 p3
      simp [h29,hwk]
      rw [hstep]
      exact ⟨hlt,p1.up rfl (by omega),a3.trans (fun key h1 h2 h3 h4=>by simpa using p2 key h1 h2 h3 (fun m hm=>h4 m (by omega))) (ub1:=ub1) (by omega),by omega⟩
     ·subst hv
      by_cases hW0:W=[]
      ·subst hW0
       simp only [List.length_nil,if_true] at hstep
       simp [f0,f1]
       refine jQ (vs:=[.ptr (2 * uK+1) uK 0,.int .i64 (i:Int)]) (by simp [f0,f1]) rfl (jv5 (g:=g) (uK:=uK) (um:=um) (un:=un) (s:=s2) hi (k3.up (by simp) (by omega)) (by simp [fr,hro])) ?_
       rintro v2 ob2 tk2 ub2 hP
       rw [hfa] at hP
       obtain ⟨p1,p2,p3⟩:=hP
       simp only at p1 p2 p3
       simp [h29,hwk]
       rw [hstep]
       exact ⟨hlt,p1.up rfl (by omega),a3.trans (fun key h1 h2 h3 h4=>by simpa using p2 key h1 h2 h3 (fun m hm=>h4 m (by omega))) (ub1:=ub1) (by omega),by omega⟩
      ·have hWl:0<W.length:=List.length_pos_iff.2 hW0
       have hl0:((W.length:Int) == 0)=false:=by simp;omega
       have hl0':¬ W.length=0:=by omega
       have hc0:=OwnI.at htk hWl
       have hhd:W.headD 0=W[0]:=by
        cases W with
        | nil=>exact absurd rfl hW0
        | cons x r=>rfl
       rw [if_neg hl0',hhd] at hstep
       have hk3:=k3.k
       obtain ⟨vm,hm3⟩:=k3.m
       have hmo:jg ob1 (2 * um+1) um=some (MP jaf s2.m):=by simp [jg,hm3]
       have hlk:=JE (k:=(i:Int)) s2.m hmo
       have hio:=W7 (l:=L) (u:=u) (n:=W.length) (kk:=.i64) (X:=0) rfl hWl
       generalize W[0]=w0 at *
       by_cases h1:W.length=1
       ·have hl1:((W.length:Int) == 1)=true:=by simp;omega
        have hl1':(W.length == 1)=true:=by simp [h1]
        rw [hl1'] at hstep
        by_cases h2:0≤w0
        ·by_cases h3:0<JC s2.m i
         ·simp only [h2,h3,decide_true,Bool.and_self,if_true] at hstep
          simp [f0,f1,hl0,hl1,hio,j6,hL,hc0,h2,hk3,hlk,h3]
          refine jQ (vs:=[.ptr (2 * uK+1) uK 0,.map (2 * um+1) um,.int .i64 w0]) (by simp [f0]) rfl (jz1 (g:=g) (uK:=uK) (um:=um) (un:=un) (s:=s2) (t:=w0) (k3.up (by simp) (by omega)) (by simp [fr,hro])) ?_
          rintro v2 ob2 tk2 ub2 ⟨p1,p2,p3⟩
          simp only at p1 p2 p3
          simp [h29,hwk]
          rw [hstep]
          exact ⟨hlt,p1.up rfl (by omega),a3.trans (fun key h1 h2 h3 h4=>by simpa using p2 key h1 h2 h3 (fun m hm=>h4 m (by omega))) (ub1:=ub1) (by omega),by omega⟩
         ·simp only [h2,h3,decide_true,decide_false,Bool.and_false,Bool.false_eq_true,if_false] at hstep
          simp [f0,f1,hl0,hl1,hio,j6,hL,hc0,h2,hk3,hlk,h3,h29,hwk]
          rw [hstep]
          exact ⟨hlt,k3.up rfl (by omega),a3,by omega⟩
        ·simp only [h2,decide_false,Bool.false_and,Bool.and_false,Bool.false_eq_true,if_false] at hstep
         simp [f0,f1,hl0,hl1,hio,j6,hL,hc0,h2,h29,hwk]
         rw [hstep]
         exact ⟨hlt,k3.up rfl (by omega),a3,by omega⟩
       ·have hl1:((W.length:Int) == 1)=false:=by simp;omega
        have hl1':(W.length == 1)=false:=by simpa using h1
        rw [hl1'] at hstep
        simp only [Bool.false_and,Bool.false_eq_true,if_false] at hstep
        simp [f0,f1,hl0,hl1,h29,hwk]
        rw [hstep]
        exact ⟨hlt,k3.up rfl (by omega),a3,by omega⟩
   ·simp only [hq,Bool.true_or,if_true] at hstep
    simp [h29,f0,f1,f27,f28,hlt,jF jK,hload,j6,opC,jD,fr,hro,hq,hk2,q1,q2,q3,q4,q5,hwk]
    rw [hstep]
    have hkeep:∀ key,(∀ m,st.nx≤m→key≠2 * m+1)→¬ key=2 * (st.nx+64+64+64+64)+1∧¬ key=2 * (st.nx+64+64+64+64+64+64+64+64+64+64)+1:=fun key h=>⟨h _ (by omega),h _ (by omega)⟩
    refine ⟨k2.keep (fun key hk=>?_) (by omega),a2.trans (Aside.new (ub:=st.nx) fun key hk=>?_) n2,by omega⟩
    ·simp [hkeep key hk]
    ·simp [hkeep key hk]
  ·have:k=l.length:=by omega
   subst this
   simp [h29,f28]
   exact jy (.inl rfl) (by simp [fd]) ⟨k2.up (by simp) (by simp),a2,by simp;omega⟩
 cases hbe:(badH g i).isEmpty
 ·rw [hbe] at hs1
  simp only [Bool.false_eq_true,if_false] at hs1
  have hbl:0<(badH g i).length:=List.length_pos_iff.2 (fun e=>by rw [e] at hbe;cases hbe)
  subst hs1
  simp [hbl]
  refine jQ (vs:=[.ptr (2 * uK+1) uK 0,.int .i64 (i:Int)]) (by simp) rfl (jv5 (g:=g) (uK:=uK) (um:=um) (un:=un) (s:=s) hi (hK.up (by simp) (by omega)) (by simpa using hro)) ?_
  rintro v ob1 tk1 ub1 hP
  rw [hfa] at hP
  obtain ⟨p1,p2,p3⟩:=hP
  simp only at p1 p2 p3
  simp
  refine rest _ ?_ ?_ ?_ ?_ ?_ ?_ ?_
  ·simpa using p1
  ·simp
  ·simp
  ·simp
  ·simp
  ·exact Aside.trans (ob1:=ob) (ub1:=ub+64) (Aside.new fun key _=>rfl) (fun key h1 h2 h3 h4=>by simpa using p2 key h1 h2 h3 (fun m hm=>h4 m (by omega))) (by omega)
  ·simp;omega
 ·rw [hbe] at hs1
  simp only [if_true] at hs1
  have hbl:¬ 0<(badH g i).length:=by rw [List.isEmpty_iff] at hbe;rw [hbe];simp
  subst hs1
  simp [hbl]
  refine rest _ ?_ ?_ ?_ ?_ ?_ ?_ ?_
  ·exact hK.up (by simp) (by simp;omega)
  ·simp
  ·simp
  ·simp
  ·simp
  ·exact Aside.new fun key _=>by simp
  ·simp;omega
end Go.Pv.T

/- The choices: the given list of lists. -/
namespace Go.Pv.T
open Go Go.Pv
def choW (g:Hist'):List (Bool × List Int):=(j0n g).map fun p=>((ofH g p.1 p.2).isEmpty,ofH g p.1 p.2)
end Go.Pv.T

/- The choices: the reference's list of lists. -/
namespace Go.Pv.T
open Go Go.Pv
def choR (g:Hist'):List (Bool × List Int):=(readH g).map fun p=>(false,ofH g p.1 p.2)
theorem jhb {g:Hist'} (hs:Small g):(readH g).length≤1000000:=by
 have:=jan hs g.ts.length
 have h2:=hs.ts
 have:g.ts.length * 1000≤1000 * 1000:=Nat.mul_le_mul_right _ h2
 unfold readH;omega
theorem ev45 {g:Hist'} (hs:Small g):∃ v,Ev E 45 [.agg (j7 g)] v∧SlR v false (choR g).length ((choR g).flatMap jkx):=by
 obtain ⟨vr,evr,hvr⟩:=ev47 hs
 have hll:=jhb hs
 obtain ⟨L,hL⟩:∃ L,readH g=L:=⟨_,rfl⟩
 obtain ⟨C,hC⟩:∃ C,choR g=C:=⟨_,rfl⟩
 have hCL:C=L.map fun p=>(false,ofH g p.1 p.2):=by rw [← hC,← hL];rfl
 have hCl:C.length=L.length:=by rw [hCL];simp
 rw [hC]
 rw [hL] at hvr hll
 refine YV (af:=F45) rfl (by decide) ?_
 simp [F45,j7,j6]
 refine jf evr (by simp [j7]) rfl (by simp [j7]) ?_
 refine jcs hvr fun tc addc=>?_
 simp
 refine jT (cs:=[]) rfl rfl rfl ?_
 simp
 refine jL [(4,5),(9,24)] L.length (fun i s=>s.tm 5 = .int .i64 i∧s.ob 2=some ⟨0,.cells (j7 g)⟩∧GrowT s.tk s.nx jkx 1 (C.take i) (s.tm 4)) rfl rfl ⟨by simp,by simp [j7],⟨256,by simp,by simp [jv],by simp⟩⟩ ?_
 rintro i s hi ⟨h5,o2,hG⟩ f
 have f1:s.tm 1 = .ptr 2 0 0:=by rw [f.t 1 (by simp)];simp
 have f3:s.tm 3 = .sl tc false L.length (L.flatMap jP):=by rw [f.t 3 (by simp)];simp
 have fd:s.df=[]:=by rw [f.d];simp
 clear f
 by_cases hlt:i<L.length
 ·have hw:=JJ hlt (by omega)
  have hix:JZ 2 (.sl tc false L.length (L.flatMap jP)) (.int .i64 (i:Int))=some (.eptr (L.flatMap jP) (i * 2)):=by
   simp only [Yj,jE Wi]
   rw [if_pos (by simp;omega)]
   rfl
  have hp:=fun ob=>jsc L ob hlt
  have hCi:C[i]? = some (false,ofH g (L[i]).1 (L[i]).2):=by
   rw [hCL,List.getElem?_map,List.getElem?_eq_getElem hlt];rfl
  obtain ⟨vo,evo,hvo⟩:=ev28' hs (L[i]).1 (L[i]).2
  generalize (L[i]).1=a at *
  generalize (L[i]).2=b at *
  obtain ⟨T,hT⟩:∃ T,ofH g a b=T:=⟨_,rfl⟩
  rw [hT] at hvo hCi
  have hstep:C.take (i+1)=C.take i++[(false,T)]:=by
   rw [List.take_add_one,hCi];rfl
  have hil:i<C.length:=by omega
  have htl:(C.take i).length=i:=by rw [List.length_take];omega
  simp [h5,f1,f3,o2,j6,j7,hlt,hix,hp]
  refine Xt evo (by simp [j7,jP]) rfl (by simp [j7,jP]) ?_
  refine jcs hvo fun t add=>?_
  simp
  refine jay (cs:=[.sl t false T.length (T.flatMap intC)]) (by simp [jD]) rfl (by simp [V.strip1,V.pureLeaf]) ?_
  simp [V.strip1]
  refine jmu (f:=jkx) (hi:=s.nx) (l:=C.take i) (a:=(false,T)) (v:=s.tm 4) (hG.mono (fun u _ h=>by simp [jv,h]) (Nat.le_refl _)) (by simp) (by simp [jO,jkx]) jb1 (by decide) (by simp [jkx,V.pureLeaf]) (by omega) (by omega) (fun del hdel=>?_)
  have hlen:(C.take i).length+1=(C.take (i+1)).length:=by rw [hstep,List.length_append];rfl
  rw [← hstep,hlen]
  obtain ⟨M,hM⟩:∃ M,C.take (i+1)=M:=⟨_,rfl⟩
  rw [hM]
  simp [h5,hw,o2,j7,hM]
  exact ⟨hlt,_,rfl,by simp [jv],by omega⟩
 ·have:i=L.length:=by omega
  subst this
  rw [← hCl,List.take_length] at hG
  obtain ⟨u,hv,_,_⟩:=hG
  simp [h5,f3]
  exact slE (t:=some (u,1)) (nl:=false) (k:=C.length) (cs:=C.flatMap jkx) (fun r h=>h) (by simp [fd]) (by simp [hv])
end Go.Pv.T

/- Whether a list is a map: the reference. -/
namespace Go.Pv.T
open Go Go.Pv
theorem ju1 (C:List (Bool × List Int)) {i:Nat} (h:i<C.length):(C.flatMap jkx)[i]? = some (.sl none (C[i]).1 (C[i]).2.length ((C[i]).2.flatMap intC)):=by
 have:=ju jb1 C h (by decide:0<1)
 rw [Nat.mul_one,Nat.add_zero] at this
 rw [this];rfl
theorem jo5 {g:Hist'} (hm:Jr g=true) (a b:Int):(ofH g a b).length≤41:=by
 unfold ofH
 split
 ·split
  ·simp
  ·exact jw8 (jpj hm) a _
 ·simp
end Go.Pv.T

/- The knower: who is left. -/
namespace Go.Pv.T
open Go Go.Pv
theorem ju6 {st:St} {ub:Nat} {K:List FP→St→Prop} {d:Option Nat} {nm:Bool} {r:List AOpr} {f:FuncId} {xs:List A} {vs args':List V} {v:V} {δ:Delta} (hx:xs.map (eval E st.tm)=vs) (hs:E.sh nm f=true) (htw:E.tw f=true)
 (ha:vs.mapM (YJ st.ob)=some args') (hev:Ev E f args' v) (hδ:WM (jY d nm st.fb ub) ub v=some δ)
 (h:jM E r (st.app d δ) (ub+64) (kFp { wo:=δ.wo,all:=true,seen:=fun l=>(st.ob l).isSome,nw:=true } K)):jM E (⟨d,.call f xs,none,nm⟩::r) st ub K:=by
 have hsh:jI E nm (eval E st.tm) (.call f xs)=some (f,vs):=by simp only [jI,hs,hx,Bool.not_true,Bool.false_and,Bool.false_eq_true,if_false]
 simp only [jM,wanted,hsh]
 exact .inr ⟨hs,htw,args',v,ha,hev,δ,by rw [name_eq'];exact hδ,h⟩
where
 name_eq':∀ {d:Option Nat} {op:AOp} {nm:Bool} {fb ub:Nat},AOpr.name ⟨d,op,none,nm⟩ fb ub=jY d nm fb ub:=by
  intro d op nm fb ub;cases nm <;> rfl
theorem jk3 (ob:Nat→Option Obj') (g:Hist') (a b:Int):[V.agg (j7 g),.agg (jP (a,b))].mapM (YJ ob)=some [.agg (j7 g),.agg (jP (a,b))]:=rfl
theorem j4e:jvk:=by
 intro Yf g uK um un s a b ob tk ro base ub hs hK hro
 have e27:=ev27 hs a b
 have hk:=hK.k
 have hn:=hK.n
 obtain ⟨l1,l2,l3⟩:=hK.lt
 refine J8 (af:=S178) rfl (by decide) ?_
 show wpC E Yf S178.body _ (JY S178.res _)
 have m1:¬ 2 * uK=2 * ub:=by omega
 have m2:¬ 2 * uK=2 * (ub+64):=by omega
 have m3:¬ 2 * ub=2 * (ub+64):=by omega
 simp [S178,j6,jP,hk,m1,m2,m3,V.cells,V.leaf]
 obtain ⟨T,hT⟩:∃ T,ofH g a b=T:=⟨_,rfl⟩
 rw [hT] at e27
 unfold KnS.left
 rw [hT]
 have hlen:T.length≤1000000:=by
  rw [← hT]
  cases hm:Jr g
  ·simp [ofH,opAt,hm]
  ·have:=jo5 hm a b
   omega
 have hnew:∀ key,(∀ m,ub≤m→key≠2 * m+1)→¬ key=2 * ub+1∧¬ key=2 * (ub+64)+1∧¬ key=2 * (ub+64+64+64+64+64+64+64+64)+1:=fun key h=>⟨h _ (by omega),h _ (by omega),h _ (by omega)⟩
 cases T with
 | nil =>
  refine ju6 (vs:=[.agg (j7 g),.agg (jP (a,b))]) (by simp [j7,jP]) rfl rfl (jk3 _ g a b) e27 (v:=.sl none true 0 []) rfl ?_
  simp [jY]
  refine ⟨rfl,?_⟩
  refine jQ (vs:=[.sl none true 0 [],.fn (.func 218) [] [.ptr (2 * ub+1) ub 0]]) (by simp) rfl (juj (L:=2 * ub+1) (u:=0)) ?_
  rintro v ob1 tk1 ub1 ⟨hown,hold,_,hub,_⟩
  simp only at hown hold hub
  simp
  refine YL (by simp) ⟨by simpa using hown,fun key hk=>?_,?_⟩
  ·obtain ⟨h1,h2,h3⟩:=hnew key hk
   simp only [Wc,jkh] at hold ⊢
   simp [hold key h1,h1,h2]
  ·simp
   omega
 | cons x T =>
  refine ju6 (vs:=[.agg (j7 g),.agg (jP (a,b))]) (by simp [j7,jP]) rfl rfl (jk3 _ g a b) e27 (δ:={ v:=.osl (2 * (ub+64+64+64+64+64+64+64+64)+1) (ub+64+64+64+64+64+64+64+64) 0 (x::T).length 1,obs:=[(2 * (ub+64+64+64+64+64+64+64+64)+1,⟨ub+64+64+64+64+64+64+64+64,.cells ((x::T).flatMap intC)⟩)] }) ?_ ?_
  ·have hc:((x::T).flatMap intC).all V.scal=true:=by
    rw [List.all_eq_true]
    intro v hv
    obtain ⟨n,_,hn⟩:=List.mem_flatMap.1 hv
    simp only [intC,List.mem_singleton] at hn
    rw [hn];rfl
   simp only [Wy,List.isEmpty_cons,Bool.false_eq_true,if_false,WM,hc,if_true]
   rfl
  simp [jY]
  have p1:¬ 2 * uK=2 * (ub+64+64+64+64+64+64+64+64):=by omega
  have p2:¬ 2 * ub=2 * (ub+64+64+64+64+64+64+64+64):=by omega
  refine ⟨?_,?_⟩
  ·unfold jc3
   rw [Bool.or_eq_true]
   right
   simp [jpb,List.range,List.range.loop,jji,jbn,rdOb,Delta.wo,lOf]
   have bne:∀ x y:Nat,x≠y→x.beq y=false:=fun x y h=>by
    cases e:x.beq y
    ·rfl
    ·exact absurd (Nat.eq_of_beq_eq_true e) h
   exact ⟨bne _ _ (by omega),bne _ _ (by omega),bne _ _ (by omega)⟩
  refine jQ (vs:=[.osl (2 * (ub+64+64+64+64+64+64+64+64)+1) (ub+64+64+64+64+64+64+64+64) 0 (x::T).length 1,.fn (.func 218) [] [.ptr (2 * ub+1) ub 0]]) (by simp) rfl
   (jz3 (p:=fun t=>decide (0<JC s.n t)) rfl hlen (by simp) (by simp;omega) fun ob' hob'=>jwt (g:=g) (uK:=uK) (um:=um) (un:=un) (ub0:=ub) ?_ ?_ ?_) ?_
  ·rw [hob' _ (by omega)]
   simp [m1,m2,hk,p1]
  ·obtain ⟨vn,hn⟩:=hn
   refine ⟨vn,?_⟩
   rw [hob' _ (by omega)]
   have q1:¬ 2 * un=2 * ub:=by omega
   have q2:¬ 2 * un=2 * (ub+64):=by omega
   have q3:¬ 2 * un=2 * (ub+64+64+64+64+64+64+64+64):=by omega
   simp [q1,q2,q3,hn]
  ·rw [hob' _ (by omega)]
   simp [m3,p2]
  rintro v ob1 tk1 ub1 ⟨hown,hold,_,hub,_⟩
  simp only at hown hold hub
  simp
  refine YL (by simp) ⟨by simpa using hown,fun key hk=>?_,?_⟩
  ·obtain ⟨h1,h2,h3⟩:=hnew key hk
   simp only [Wc,jkh] at hold ⊢
   simp [hold key h3,h1,h2,h3]
  ·simp
   omega
end Go.Pv.T

/- The knower: what is known; plain. -/
namespace Go.Pv.T
open Go Go.Pv
def KnS.init (g:Hist'):Nat→KnS
 | 0=>⟨[],[],false,true⟩
 | i+1=>match g.ts[i]? with
  | some t=>if t.f=1 then { KnS.init g i with m:=jgp (KnS.init g i).m i 1 } else if t.f=2 then { KnS.init g i with n:=jgp (KnS.init g i).n i 1 } else KnS.init g i
  | none=>KnS.init g i
def KnS.round (s:KnS) (g:Hist'):Nat→KnS
 | 0=>{ s with more:=false }
 | i+1=>match g.ts[i]? with
  | some t=>(s.round g i).txn g i t.f t.ops
  | none=>s.round g i
def KnS.iter (g:Hist'):Nat→KnS→KnS
 | 0,s=>s
 | k+1,s=>if s.more then KnS.iter g k (s.round g g.ts.length) else s
def KnS.both (s:KnS) (i:Int):Bool:=decide (0<JC s.m i) && decide (0<JC s.n i)
def KnS.hopTo (s:KnS):Nat→Bool
 | 0=>s.hop
 | i+1=>s.hopTo i || s.both i
def KnS.known (g:Hist'):KnS:=let s:=KnS.iter g (2 * g.ts.length+1) (KnS.init g g.ts.length);{ s with hop:=s.hopTo g.ts.length }
theorem jc5 (g:Hist'):∀ (i:Nat) (j:Int),(i:Int)≤j→JC (KnS.init g i).m j=0∧JC (KnS.init g i).n j=0
 | 0,j,_=>⟨rfl,rfl⟩
 | i+1,j,h=>by
  have ih:=jc5 g i j (by omega)
  simp only [KnS.init]
  split
  ·split
   ·simp only [J7]
    rw [if_neg (by omega)]
    exact ih
   ·split
    ·simp only [J7]
     rw [if_neg (by omega)]
     exact ih
    ·exact ih
  ·exact ih
def jec (m:List (Int × Int)):Nat→Nat
 | 0=>0
 | i+1=>jec m i+if JC m i=0 then 1 else 0
theorem jge (m:List (Int × Int)):∀ n,jec m n≤n
 | 0=>Nat.le_refl _
 | i+1=>by have:=jge m i;simp only [jec];split <;> omega
theorem jdo {m:List (Int × Int)} {t:Int} (h0:JC m t=0):∀ n:Nat,(jec (jgp m t 1) n≤jec m n)∧(0≤t→t<n→jec (jgp m t 1) n+1≤jec m n)
 | 0=>⟨Nat.le_refl _,fun h1 h2=>by omega⟩
 | i+1=>by
  have ih:=jdo h0 i
  simp only [jec,J7]
  by_cases hit:(i:Int)=t
  ·rw [if_pos hit,hit,if_pos h0,if_neg (by decide)]
   exact ⟨by omega,fun _ _=>by omega⟩
  ·rw [if_neg hit]
   refine ⟨by omega,fun h1 h2=>?_⟩
   have:=ih.2 h1 (by omega)
   omega
def KnS.free (s:KnS) (n:Nat):Nat:=jec s.m n+jec s.n n
def Less (n:Nat) (s s':KnS):Prop:=s'.free n≤s.free n∧(s'.more=true→s.more=true∨s'.free n+1≤s.free n)∧(s.more=true→s'.more=true)
theorem Less.rfl' (n:Nat) (s:KnS):Less n s s:=⟨Nat.le_refl _,fun h=>.inl h,fun h=>h⟩
theorem Less.trans {n:Nat} {a b c:KnS} (h:Less n a b) (h':Less n b c):Less n a c :=
 ⟨Nat.le_trans h'.1 h.1,fun hm=>by
  rcases h'.2.1 hm with h1 | h1
  ·rcases h.2.1 h1 with h2 | h2
   ·exact .inl h2
   ·exact .inr (by have:=h'.1;omega)
  ·exact .inr (by have:=h.1;omega),fun hm=>h'.2.2 (h.2.2 hm)⟩
theorem Less.learnM {n:Nat} {s:KnS} {t:Int} (h1:0≤t) (h2:t<n):Less n s (s.learnM t):=by
 unfold KnS.learnM
 split
 ·rename_i h0
  have:=jdo h0 n
  have:=this.2 h1 h2
  exact ⟨by simp only [KnS.free];omega,fun _=>.inr (by simp only [KnS.free];omega),fun _=>rfl⟩
 ·exact .rfl' n s
theorem Less.learnN {n:Nat} {s:KnS} {t:Int} (h1:0≤t) (h2:t<n):Less n s (s.learnN t):=by
 unfold KnS.learnN
 split
 ·rename_i h0
  have:=jdo h0 n
  have:=this.2 h1 h2
  exact ⟨by simp only [KnS.free];omega,fun _=>.inr (by simp only [KnS.free];omega),fun _=>rfl⟩
 ·exact .rfl' n s
theorem Less.fails {n:Nat} {s:KnS} {f t:Int} (h1:0≤t) (h2:t<n):Less n s (s.fails f t):=by
 unfold KnS.fails
 split
 ·exact ⟨Nat.le_refl _,fun h=>.inl h,fun h=>h⟩
 ·split
  ·exact .learnN h1 h2
  ·exact .rfl' n s
theorem jo4 {g:Hist'} {a b x:Int} (h:x∈ofH g a b):x<g.ts.length:=by
 unfold ofH at h
 split at h
 ·split at h
  ·simp at h
  ·rename_i o _ _
   unfold ofL J5 at h
   rcases List.mem_append.1 h with h | h
   ·split at h
    ·simp at h
    ·simp at h;omega
   ·have:=Ql (p:=wrB o.key) (ts:=g.ts) g.ts.length (Nat.le_refl _)
    exact (this.1 x (List.mem_filter.1 h).1).2
 ·simp at h
theorem Less.op {g:Hist'} {s:KnS} {f:Int} {t k:Nat} {o:Op'} (ht:t<g.ts.length):Less g.ts.length s (s.op g f t k o):=by
 unfold KnS.op
 split
 ·exact .rfl' _ s
 ·split
  ·exact .fails (by omega) (by omega)
  ·rename_i h0
   split
   ·rename_i h1
    simp only [Bool.and_eq_true,decide_eq_true_eq] at h1
    refine .learnM h1.2.1 ?_
    cases hl:s.left g t k with
    | nil=>rw [hl] at h0;simp at h0
    | cons x r =>
     have hm:x∈s.left g t k:=by rw [hl];exact List.mem_cons_self ..
     exact jo4 (List.mem_filter.1 hm).1
   ·exact .rfl' _ s
theorem Less.ops {g:Hist'} {s:KnS} {f:Int} {t:Nat} {l:List Op'} (ht:t<g.ts.length):∀ k,Less g.ts.length s (s.ops g f t l k)
 | 0=>.rfl' _ s
 | k+1=>by
  simp only [KnS.ops]
  split
  ·exact (Less.ops ht k).trans (.op ht)
  ·exact Less.ops ht k
theorem Less.txn {g:Hist'} {s:KnS} {f:Int} {t:Nat} {l:List Op'} (ht:t<g.ts.length):Less g.ts.length s (s.txn g t f l):=by
 unfold KnS.txn
 refine Less.trans ?_ (.ops ht _)
 split
 ·exact .rfl' _ s
 ·exact .fails (by omega) (by omega)
theorem Less.round {g:Hist'} {s:KnS}:∀ i,i≤g.ts.length→Less g.ts.length { s with more:=false } (s.round g i)
 | 0,_=>.rfl' _ _
 | i+1,h=>by
  simp only [KnS.round,List.getElem?_eq_getElem (show i<g.ts.length by omega)]
  exact (Less.round i (by omega)).trans (.txn (by omega))
end Go.Pv.T

/- The knower: what is known. -/
namespace Go.Pv.T
open Go Go.Pv
structure KnRun (g:Hist') (ub:Nat) (ob:Nat→Option Obj') (ro:Nat) (uK um un:Nat) (s:KnS) (st:St):Prop where
 kn:Kn g uK um un s st.ob st.nx
 t1:st.tm 1 = .ptr (2 * ub+1) ub 0
 t3:st.tm 3 = .ptr (2 * uK+1) uK 0
 df:st.df=[]
 ro:st.ro=ro
 h:st.ob (2 * ub+1)=some ⟨ub,.cells (j7 g)⟩
 old:∀ key,(∀ m,ub≤m→key≠2 * m+1)→st.ob key=ob key
theorem KnRun.up {g:Hist'} {ub:Nat} {ob:Nat→Option Obj'} {ro uK um un:Nat} {s:KnS} {st st':St} (k:KnRun g ub ob ro uK um un s st) (ho:st'.ob=st.ob) (hn:st.nx≤st'.nx) (h1:st'.tm 1=st.tm 1) (h3:st'.tm 3=st.tm 3) (hd:st'.df=st.df) (hr:st'.ro=st.ro):KnRun g ub ob ro uK um un s st' :=
 ⟨k.kn.up ho hn,h1.trans k.t1,h3.trans k.t3,hd.trans k.df,hr.trans k.ro,by rw [ho];exact k.h,by rw [ho];exact k.old⟩
theorem jmp (g:Hist'):(KnS.init g g.ts.length).free g.ts.length+(if (KnS.init g g.ts.length).more then 1 else 0)≤2 * g.ts.length+1:=by
 have h1:=jge (KnS.init g g.ts.length).m g.ts.length
 have h2:=jge (KnS.init g g.ts.length).n g.ts.length
 unfold KnS.free
 split <;> omega
set_option maxRecDepth 100000 in
theorem sv91 {Yf:YF} {g:Hist'} (hs:Small g) {ob:Nat→Option Obj'} {tk:Nat→Bool} {ro base ub:Nat} (hro:ro≤ub) :
 ∃ r,EvS E Yf.y 91 [.agg (j7 g)] ob tk ro base ub r∧(r.1 = .ptr (2 * (ub+384)+1) (ub+384) 0∧Kn g (ub+384) (ub+192) (ub+256) (KnS.known g) r.2.1 r.2.2.2∧(∀ key,(∀ m,ub≤m→key≠2 * m+1)→r.2.1 key=ob key)∧ub≤r.2.2.2):=by
 have hts:=hs.ts
 refine J8 (af:=S91) rfl (by decide) ?_
 show wpC E Yf S91.body _ (JY S91.res _)
 obtain ⟨um,hum⟩:∃ um,ub+64+64+64=um:=⟨_,rfl⟩
 obtain ⟨un,hun⟩:∃ un,um+64=un:=⟨_,rfl⟩
 obtain ⟨uK,huK⟩:∃ uK,un+64+64=uK:=⟨_,rfl⟩
 have e6:ub+384=uK:=by omega
 have e4:ub+256=un:=by omega
 have e3:ub+192=um:=by omega
 rw [e6,e4,e3]
 have m1:¬ 2 * ub=2 * uK:=by omega
 have m2:¬ 2 * ub=2 * um:=by omega
 have m3:¬ 2 * ub=2 * un:=by omega
 have m4:¬ 2 * um=2 * un:=by omega
 have m5:¬ 2 * um=2 * uK:=by omega
 have m6:¬ 2 * un=2 * uK:=by omega
 simp [S91,j6,j7,jD,hum,hun,huK,m1,m2,m3]
 generalize hK1:jea E Yf (C.seq _ _) _=K1
 have rest:∀ st1:St,KnRun g ub ob ro uK um un (KnS.init g g.ts.length) st1→K1 .nrm st1:=by
  intro st1 k1
  rw [← hK1]
  simp
  generalize hK2:jea E Yf (C.seq _ _) _=K2
  have rest2:∀ st2:St,KnRun g ub ob ro uK um un (KnS.iter g (2 * g.ts.length+1) (KnS.init g g.ts.length)) st2→K2 .nrm st2:=by
   intro st2 k2
   rw [← hK2]
   obtain ⟨s,hs2⟩:∃ s,KnS.iter g (2 * g.ts.length+1) (KnS.init g g.ts.length)=s:=⟨_,rfl⟩
   rw [hs2] at k2
   have hkn:KnS.known g = { s with hop:=s.hopTo g.ts.length }:=by rw [← hs2];rfl
   rw [hkn]
   clear hK2 hK1 k1 hkn hs2
   have hh:=k2.h
   simp [k2.t1,j6,hh,j7]
   refine jL [(7,7),(62,90)] g.ts.length (fun i st=>st.tm 62 = .int .i64 i∧KnRun g ub ob ro uK um un { s with hop:=s.hopTo i } st) rfl rfl ⟨by simp,k2.up (by simp) (by simp;omega) (by simp) (by simp) (by simp) (by simp)⟩ ?_
   rintro i w hi ⟨h62,kw⟩ f
   have f60:w.tm 60=jl g.tn txnC g.ts:=by rw [f.t 60 (by simp)];simp
   have f61:w.tm 61 = .int .i64 g.ts.length:=by rw [f.t 61 (by simp)];simp
   clear f
   have w3:=kw.t3
   have wr:=kw.ro
   by_cases hlt:i<g.ts.length
   ·have hwk:=JJ hlt (by omega)
    obtain ⟨⟨⟨l1,l2,l3⟩,hk,⟨vm,hm⟩,⟨vn,hn⟩⟩,w1,_,hdf,_,wh,hold⟩:=kw
    have hlm:=JE (ob:=w.ob) (l:=2 * um+1) (u:=um) (k:=(i:Int)) s.m (by simp [jg,hm])
    have hln:=JE (ob:=w.ob) (l:=2 * un+1) (u:=un) (k:=(i:Int)) s.n (by simp [jg,hn])
    have r1:ro≤uK:=by omega
    have hstep:s.hopTo (i+1)=(s.hopTo i || s.both i):=rfl
    have fin1:∀ (b:Bool) (st':St),s.hopTo (i+1)=b→st'.ob (2 * uK+1)=some ⟨uK,.cells [jl g.sn strC g.ss,jl g.kn strC g.ks,jl g.tn txnC g.ts,.map (2 * um+1) um,.map (2 * un+1) un,.bool b,.bool s.more]⟩→(∀ key,key≠2 * uK+1→st'.ob key=w.ob key)→w.nx≤st'.nx→st'.tm 1=w.tm 1→st'.tm 3=w.tm 3→st'.df=w.df→st'.ro=w.ro→KnRun g ub ob ro uK um un { s with hop:=s.hopTo (i+1) } st':=by
     intro b st' hb ho ho2 hnx h1 h3 hd hr'
     rw [hb]
     refine ⟨⟨⟨l1,l2,by omega⟩,ho,⟨vm,(ho2 _ (by omega)).trans hm⟩,⟨vn,(ho2 _ (by omega)).trans hn⟩⟩,h1.trans w1,h3.trans w3,hd.trans hdf,hr'.trans wr,(ho2 _ (by omega)).trans wh,fun key hkk=>?_⟩
     rw [ho2 _ (hkk uK (by omega))]
     exact hold key hkk
    unfold KnS.both at hstep
    cases hh1:s.hopTo i
    ·by_cases c1:0<JC s.m i
     ·by_cases c2:0<JC s.n i
      ·simp only [hh1,c1,c2,decide_true,Bool.and_self,Bool.or_true] at hstep
       simp [h62,f61,hlt,w3,j6,hk,hh1,hlm,hln,c1,c2,wr,r1,jD,hwk]
       exact fin1 true _ hstep (by simp) (fun key hne=>by simp [hne]) (by simp;omega) (by simp) (by simp) (by simp) (by simp)
      ·simp only [hh1,c1,c2,decide_true,decide_false,Bool.and_false,Bool.or_false] at hstep
       simp [h62,f61,hlt,w3,j6,hk,hh1,hlm,hln,c1,c2,wr,r1,jD,hwk]
       exact fin1 false _ hstep (by simp) (fun key hne=>by simp [hne]) (by simp;omega) (by simp) (by simp) (by simp) (by simp)
     ·simp only [hh1,c1,decide_false,Bool.false_and,Bool.or_false] at hstep
      simp [h62,f61,hlt,w3,j6,hk,hh1,hlm,c1,wr,r1,jD,hwk]
      exact fin1 false _ hstep (by simp) (fun key hne=>by simp [hne]) (by simp;omega) (by simp) (by simp) (by simp) (by simp)
    ·simp only [hh1,Bool.true_or] at hstep
     simp [h62,f61,hlt,w3,j6,hk,hh1,wr,r1,jD,hwk]
     exact fin1 true _ hstep (by simp) (fun key hne=>by simp [hne]) (by simp;omega) (by simp) (by simp) (by simp) (by simp)
   ·have:i=g.ts.length:=by omega
    subst this
    simp [h62,f61]
    refine YL (by simp [kw.df]) ⟨by simp [w3],kw.kn.up (by simp) (by simp;omega),by simpa using kw.old,?_⟩
    have:=kw.kn.lt
    simp
    omega
  clear hK2 hK1
  have hfree:(KnS.init g g.ts.length).free g.ts.length+(if (KnS.init g g.ts.length).more then 1 else 0)≤2 * g.ts.length+1:=jmp g
  obtain ⟨fin,hfin⟩:∃ fin,KnS.iter g (2 * g.ts.length+1) (KnS.init g g.ts.length)=fin:=⟨_,rfl⟩
  rw [hfin] at rest2
  generalize KnS.init g g.ts.length=s0 at *
  refine Xz (n:=2 * g.ts.length+1) (fun k st=>∃ s,KnRun g ub ob ro uK um un s st∧KnS.iter g k s=fin∧s.free g.ts.length+(if s.more then 1 else 0)≤k) ⟨s0,k1,hfin,hfree⟩ ?_
  rintro n st ⟨s,k,hit,hfr⟩
  have hk:=k.kn.k
  have hr:=k.ro
  have t3:=k.t3
  have t1:=k.t1
  obtain ⟨l1,l2,l3⟩:=k.kn.lt
  have hh:=k.h
  have r1:ro≤uK:=by omega
  cases hmo:s.more
  ·have hsf:fin=s:=by
    rw [← hit]
    cases n <;> simp [KnS.iter,hmo]
   simp [t3,j6,hk,hmo]
   exact rest2 _ (hsf ▸ k.up (by simp) (by simp;omega) (by simp) (by simp) (by simp) (by simp))
  ·rw [hmo] at hfr
   simp only [if_true] at hfr
   obtain ⟨n',rfl⟩:∃ n',n=n'+1:=⟨n - 1,by omega⟩
   simp only [KnS.iter,hmo,if_true] at hit
   simp [t3,t1,j6,hk,hmo,hr,r1,hh,m1,j7,jD]
   refine jL [(6,6),(52,58)] g.ts.length (fun i st=>st.tm 52 = .int .i64 i∧KnRun g ub ob ro uK um un (s.round g i) st) rfl rfl ⟨by simp,?_⟩ ?_
   ·obtain ⟨⟨_,hk,⟨vm,hm⟩,⟨vn,hn⟩⟩,_,_,hdf,_,hh,hold⟩:=k
    refine ⟨⟨⟨l1,l2,by simp;omega⟩,by simp [KnS.round],⟨vm,by simp [KnS.round,m5,hm]⟩,⟨vn,by simp [KnS.round,m6,hn]⟩⟩,by simp [t1],by simp [t3],by simp [hdf],by simp [hr],by simp [m1,hh],fun key hkk=>?_⟩
    simp [hkk uK (by omega),hold key hkk]
   rintro i w hi ⟨h52,kw⟩ f
   have f50:w.tm 50=jl g.tn txnC g.ts:=by rw [f.t 50 (by simp)];simp
   have f51:w.tm 51 = .int .i64 g.ts.length:=by rw [f.t 51 (by simp)];simp
   clear f
   have w3:=kw.t3
   have w1:=kw.t1
   have wr:=kw.ro
   have hwl:=kw.kn.lt
   by_cases hlt:i<g.ts.length
   ·have hwk:=JJ hlt (by omega)
    simp [h52,f51,hlt,w3]
    refine jQ (vs:=[.ptr (2 * uK+1) uK 0,.int .i64 (i:Int)]) (by simp) rfl (sv133 (g:=g) (uK:=uK) (um:=um) (un:=un) (s:=s.round g i) j4e hs hlt (kw.kn.up (by simp) (by omega)) (by simp [wr];omega)) ?_
    rintro v ob1 tk1 ub1 ⟨p1,p2,p3⟩
    simp only at p1 p2 p3
    have hstep:s.round g (i+1)=(s.round g i).txn g i (g.ts[i]).f (g.ts[i]).ops:=by simp only [KnS.round,List.getElem?_eq_getElem hlt]
    simp [h52,hwk,hlt]
    rw [hstep]
    have hkp:∀ key,key≠2 * uK+1→key≠2 * um+1→key≠2 * un+1→(∀ m,w.nx≤m→key≠2 * m+1)→ob1 key=w.ob key:=fun key h1 h2 h3 h4=>by
     rw [p2 key h1 h2 h3 (fun m hm=>h4 m (by omega))];simp
    refine ⟨p1.up (by simp) (by simp;omega),by simp [w1],by simp [w3],by simp [kw.df],by simp [wr],?_,fun key hkk=>?_⟩
    ·simp [hkp (2 * ub+1) (by omega) (by omega) (by omega) (fun m hm=>by omega),kw.h]
    ·simp [hkp key (hkk uK (by omega)) (hkk um (by omega)) (hkk un (by omega)) (fun m hm=>hkk m (by omega)),kw.old key hkk]
   ·have:i=g.ts.length:=by omega
    subst this
    simp [h52,f51]
    refine ⟨n',by omega,s.round g g.ts.length,kw.up (by simp) (by simp) (by simp) (by simp) (by simp) (by simp),hit,?_⟩
    have hround:=Less.round (g:=g) (s:=s) g.ts.length (Nat.le_refl _)
    have h1:({ s with more:=false }:KnS).free g.ts.length=s.free g.ts.length:=rfl
    cases hm2:(s.round g g.ts.length).more
    ·have:=hround.1
     rw [h1] at this
     simp
     omega
    ·rcases hround.2.1 hm2 with h2 | h2
     ·cases h2
     ·rw [h1] at h2
      simp
      omega
 clear hK1
 refine jL [(4,5),(16,41)] g.ts.length (fun i st=>st.tm 16 = .int .i64 i∧KnRun g ub ob ro uK um un (KnS.init g i) st) rfl rfl ⟨by simp,?_⟩ ?_
 ·refine ⟨⟨⟨by omega,by omega,by simp;omega⟩,?_,⟨0,?_⟩,⟨0,?_⟩⟩,by simp,by simp,by simp,by simp,?_,fun key hk=>?_⟩
  ·simp [KnS.init]
  ·simp [KnS.init,m4,m5,MP]
  ·simp [KnS.init,m6,MP]
  ·simp [m1,m2,m3,j7]
  ·have h1:=hk ub (by omega)
   have h2:=hk um (by omega)
   have h3:=hk un (by omega)
   have h4:=hk uK (by omega)
   simp [h1,h2,h3,h4]
 rintro i st hi ⟨h16,k⟩ f
 have f14:st.tm 14=jl g.tn txnC g.ts:=by rw [f.t 14 (by simp)];simp
 have f15:st.tm 15 = .int .i64 g.ts.length:=by rw [f.t 15 (by simp)];simp
 clear f
 by_cases hlt:i<g.ts.length
 ·have hwk:=JJ hlt (by omega)
  have hload:YE st.ob (some 3) (.eptr (g.ts.flatMap txnC) (i * 3))=some (.agg (txnC g.ts[i])):=ja jH st.ob g.ts hlt
  obtain ⟨t,ht⟩:∃ t,g.ts[i]=t:=⟨_,rfl⟩
  rw [ht] at hload
  obtain ⟨s,hs0⟩:∃ s,KnS.init g i=s:=⟨_,rfl⟩
  have hmc:=jc5 g i i (Int.le_refl _)
  have hstep:KnS.init g (i+1)=if t.f=1 then { s with m:=jgp s.m i 1 } else if t.f=2 then { s with n:=jgp s.n i 1 } else s:=by simp only [KnS.init,List.getElem?_eq_getElem hlt,ht,hs0]
  rw [hs0] at k hmc
  clear hs0
  obtain ⟨⟨⟨l1,l2,l3⟩,hk,⟨vm,hm⟩,⟨vn,hn⟩⟩,t1,t3,hdf,hr,hh,hold⟩:=k
  have q1:¬ 2 * uK=2 * (st.nx+64+64+64+64):=by omega
  have q2:¬ 2 * um=2 * (st.nx+64+64+64+64):=by omega
  have q3:¬ 2 * un=2 * (st.nx+64+64+64+64):=by omega
  have q4:ro≤st.nx+64+64+64+64:=by omega
  simp [h16,f14,f15,hlt,jF jH,hload,j6,txnC,jD,hr,q4]
  have q5:¬ 2 * ub=2 * (st.nx+64+64+64+64):=by omega
  have w1:IntKind.i64.wrap 1=1:=by decide
  have m4':¬ 2 * un=2 * um:=by omega
  have m5':¬ 2 * uK=2 * um:=by omega
  have m6':¬ 2 * uK=2 * un:=by omega
  by_cases hf1:t.f=1
  ·simp [hf1,t3,j6,hk,q1]
   rw [if_pos hf1] at hstep
   rw [JE (k:=(i:Int)) s.m (by simp [jg,hm,q2]),hmc.1]
   simp [w1]
   refine YG (f:=jaf) (l:=2 * um+1) (u:=um) (ver:=vm) (k:=(i:Int)) (a:=1) s.m (by simp) (by simp) (by simp [V.strip,jaf]) (by simp [hm,q2]) (by simp [hr];omega) ?_
   simp [h16,hwk,hlt]
   rw [hstep]
   refine ⟨⟨⟨l1,l2,by simp;omega⟩,by simp [m5',q1,hk],⟨vm+1,by simp⟩,⟨vn,by simp [m4',q3,hn]⟩⟩,by simp [t1],by simp [t3],by simp [hdf],by simp [hr],by simp [m2,q5,hh],fun key hkk=>?_⟩
   simp [hkk um (by omega),hkk (st.nx+64+64+64+64) (by omega),hold key hkk]
  ·by_cases hf2:t.f=2
   ·have e1:(t.f == 1)=false:=by simpa using hf1
    simp [hf2,t3,j6,hk,q1]
    rw [if_neg hf1,if_pos hf2] at hstep
    rw [JE (k:=(i:Int)) s.n (by simp [jg,hn,q3]),hmc.2]
    simp [w1]
    refine YG (f:=jaf) (l:=2 * un+1) (u:=un) (ver:=vn) (k:=(i:Int)) (a:=1) s.n (by simp) (by simp) (by simp [V.strip,jaf]) (by simp [hn,q3]) (by simp [hr];omega) ?_
    simp [h16,hwk,hlt]
    rw [hstep]
    refine ⟨⟨⟨l1,l2,by simp;omega⟩,by simp [m6',q1,hk],⟨vm,by simp [m4,q2,hm]⟩,⟨vn+1,by simp⟩⟩,by simp [t1],by simp [t3],by simp [hdf],by simp [hr],by simp [m3,q5,hh],fun key hkk=>?_⟩
    simp [hkk un (by omega),hkk (st.nx+64+64+64+64) (by omega),hold key hkk]
   ·have e1:(t.f == 1)=false:=by simpa using hf1
    have e2:(t.f == 2)=false:=by simpa using hf2
    simp [e1,e2,h16,hwk,hlt]
    rw [if_neg hf1,if_neg hf2] at hstep
    rw [hstep]
    refine ⟨⟨⟨l1,l2,by simp;omega⟩,by simp [q1,hk],⟨vm,by simp [q2,hm]⟩,⟨vn,by simp [q3,hn]⟩⟩,by simp [t1],by simp [t3],by simp [hdf],by simp [hr],by simp [q5,hh],fun key hkk=>?_⟩
    simp [hkk (st.nx+64+64+64+64) (by omega),hold key hkk]
 ·have:i=g.ts.length:=by omega
  subst this
  simp [h16,f15]
  exact rest _ (k.up (by simp) (by simp) (by simp) (by simp) (by simp) (by simp))
end Go.Pv.T

/- Infos as a list that may be made one's own. -/
namespace Go.Pv.T
open Go Go.Pv
theorem jds {st:St} {n lo hi:Nat} {l:List Int} {v:V} (hd:st.df=[]) (hv:st.tm n=v) (h:Grow st.tk lo hi intC 1 l v):Wr [.t n] (.ret,st)=some (Wy l):=by
 rcases h with ⟨rfl,rfl⟩ | ⟨hne,u,rfl,htk,_⟩
 ·exact jC hd (by rw [hv];rfl) rfl
 ·have hemp:l.isEmpty=false:=by cases l with | nil=>exact absurd rfl hne | cons=>rfl
  have hto:X4 st true 0 (.sl (some (u,1)) false l.length (l.flatMap intC))=some (.sl (some (0,1)) false l.length (l.flatMap intC)):=by
   simp only [X4,jx,htk,Bool.and_self,if_true]
  have hr:[ARes.t n].mapM (jw st)=some [.sl (some (u,1)) false l.length (l.flatMap intC)]:=by simp [jw,hv]
  simp only [Wr,Xv hd,Xs hd,if_true,hr,Option.bind_some,YB]
  have hn:nodup ([V.sl (some (u,1)) false l.length (l.flatMap intC)].flatMap V.toks)=true:=rfl
  rw [hn]
  simp only [JG,hto,Option.bind_some,Option.map_some]
  rw [Wy,hemp]
  rfl
theorem j5i {g:Hist'} (hs:Small g) (hm:Jr g=true):Ev E 100 [.agg (j7 g),.fn (.func 101) [] []] (Wy (jV g)):=by
 have e70:=jyg hs
 rw [YD hm] at e70
 have hts:=hs.ts
 refine jc (af:=F100) rfl ?_
 simp [F100,j7,j6]
 refine jf e70 (by simp [j7]) rfl (by simp [j7]) ?_
 simp [j6]
 refine jL [(4,7),(14,26)] g.ts.length (fun i s=>s.tm 14 = .int .i64 i∧Grow s.tk 0 s.nx intC 1 (numsTo jk g.ts i) (s.tm 5)) rfl rfl ⟨by simp,by simp [numsTo];exact Grow.nil _ _ _ _ _⟩ ?_
 rintro i s hi ⟨h14,hG⟩ f
 have f1:s.tm 1 = .fn (.func 101) [] []:=by rw [f.t 1 (by simp)];simp
 have f12:s.tm 12=jl g.tn txnC g.ts:=by rw [f.t 12 (by simp)];simp
 have f13:s.tm 13 = .int .i64 g.ts.length:=by rw [f.t 13 (by simp)];simp
 have fd:s.df=[]:=by rw [f.d];simp
 have fb:s.fb=0:=by rw [f.b];simp
 have fr:s.ro=0:=by rw [f.r];simp
 clear f
 by_cases hlt:i<g.ts.length
 ·have hw:=JJ hlt (by omega)
  have hsn:=JT (p:=jk) hlt
  obtain ⟨t,ht⟩:∃ t,g.ts[i]=t:=⟨_,rfl⟩
  rw [ht] at hsn
  have hll:=J6 jk g.ts i
  simp [h14,f12,f13,hlt,jF jH,ja jH,ht,txnC,j6,fb,fr,jD,f1]
  refine ju5 (f:=101) (first:=[]) (captured:=[]) (j5h t) (by simp) (by simp [txnC]) rfl (by simp [txnC]) ?_
  cases hi:jk t
  ·rw [hi] at hsn
   simp only [Bool.false_eq_true,if_false,List.append_nil] at hsn
   simp [h14,hw]
   exact ⟨hlt,by rw [hsn];exact hG.mono (fun u _ _ h=>by simpa [jW] using h) (by omega)⟩
  ·rw [hi] at hsn
   simp only [if_true] at hsn
   simp
   refine jT (cs:=[.int .i64 i]) (by simp [jD]) rfl rfl ?_
   simp
   refine Wo (f:=intC) (lo:=0) (hi:=s.nx) (l:=numsTo jk g.ts i) (a:=(i:Int)) (v:=s.tm 5) (hG.mono (fun u _ _ h=>by simp [jv,h]) (Nat.le_refl _)) (by simp) (by simp [jO,intC]) jR (by decide) rfl (by omega) (by omega) (fun del hdel=>?_)
   have hne:numsTo jk g.ts (i+1)≠[]:=by rw [hsn];simp
   have hlen:(numsTo jk g.ts i).length+1=(numsTo jk g.ts (i+1)).length:=by rw [hsn];simp
   rw [← hsn,hlen]
   simp [h14,hw]
   exact ⟨hlt,.inr ⟨hne,_,rfl,by simp [jv],Nat.zero_le _,by omega⟩⟩
 ·have:i=g.ts.length:=by omega
  subst this
  simp [h14,f13]
  show Wr [.t 4] (.ret,_)=some (Wy (jV g))
  exact jds (lo:=0) (hi:=s.nx) (by simp [fd]) rfl (by simpa [jV] using hG)
theorem ev61i {g:Hist'} (hs:Small g) (hm:Jr g=true):Ev E 61 [.agg (j7 g)] (Wy (jV g)):=by
 refine jc (af:=F61) rfl ?_
 simp [F61,j7,j6]
 refine jf (j5i hs hm) (by simp [j7]) rfl (by simp [j7]) ?_
 obtain ⟨l,hl⟩:∃ l,jV g=l:=⟨_,rfl⟩
 rw [hl]
 cases l with
 | nil =>
  have hr:Xh 192 (Wy [])=some { v:=.sl none true 0 [] }:=rfl
  rw [hr]
  simp
  show Wr [.t 2] (.ret,_)=some (Wy [])
  exact jds (lo:=0) (hi:=400) rfl rfl (.inl ⟨rfl,by simp⟩)
 | cons x r =>
  have hr:Xh 192 (Wy (x::r))=some { v:=.sl (some (192,1)) false (x::r).length ((x::r).flatMap intC),add:=[192] }:=by
   rw [Xh,if_pos (by simp [Wy,toksRes,V.toks,V.tok])]
   rfl
  rw [hr]
  simp
  show Wr [.t 2] (.ret,_)=some (Wy (x::r))
  exact jds (lo:=0) (hi:=400) rfl rfl (.inr ⟨by simp,192,by simp,by simp [jv],by omega,by omega⟩)
end Go.Pv.T

/- The knower: what of the infos is known (an observer). -/
namespace Go.Pv.T
open Go Go.Pv
theorem sv61 {Yf:YF} {g:Hist'} (hs:Small g) (hm:Jr g=true) {ob:Nat→Option Obj'} {tk:Nat→Bool} {ro base ub:Nat}:∃ r,EvS E Yf.y 61 [.agg (j7 g)] ob tk ro base ub r ∧
 (((jV g=[]∧r.1 = .sl none true 0 [])∨(r.1 = .osl (2 * ub+1) ub 0 (jV g).length 1∧r.2.1 (2 * ub+1)=some ⟨ub,.cells ((jV g).flatMap intC)⟩))∧(∀ key,key≠2 * ub+1→r.2.1 key=ob key)∧r.2.2.2=ub+64):=by
 have e61:=ev61i hs hm
 obtain ⟨l,hl⟩:∃ l,jV g=l:=⟨_,rfl⟩
 rw [hl] at e61 ⊢
 cases l with
 | nil=>exact ⟨(.sl none true 0 [],ob,tk,ub+64),jvl rfl (args':=[.agg (j7 g)]) rfl e61 rfl,.inl ⟨rfl,rfl⟩,fun _ _=>rfl,rfl⟩
 | cons x T =>
  have hc:((x::T).flatMap intC).all V.scal=true:=by
   rw [List.all_eq_true]
   intro v hv
   obtain ⟨n,_,hn⟩:=List.mem_flatMap.1 hv
   simp only [intC,List.mem_singleton] at hn
   rw [hn];rfl
  refine ⟨(.osl (2 * ub+1) ub 0 (x::T).length 1,upd ob (2 * ub+1) (some ⟨ub,.cells ((x::T).flatMap intC)⟩),tk,ub+64),jvl rfl (args':=[.agg (j7 g)]) rfl e61 ?_,.inr ⟨rfl,?_⟩,fun key h=>?_,rfl⟩
  ·simp only [Wy,List.isEmpty_cons,Bool.false_eq_true,if_false,jlt,hc,if_true]
  ·simp [upd]
  ·have hb:key.beq (2 * ub+1)=false:=by
    cases e:key.beq (2 * ub+1)
    ·rfl
    ·exact absurd (Nat.eq_of_beq_eq_true e) h
   simp [upd,hb]
theorem jy8 {f:FuncId} {af:AF} {args:List V} {ob:Nat→Option Obj'} {tk:Nat→Bool} {base ub:Nat} {P:V→Prop} (hf:E.fs f=some af) (h1:af.body.one=true) (h:wpC E Xx af.body (Jl args ob (fun _=>false) ub base ub) (jeb af.res P)) (hz:E.fz f=false:=by rfl):∃ r,EvO E f args ob tk base ub r∧P r:=by
 obtain ⟨n,x,hx,r,hr,hP⟩:=jhj h1 h
 refine ⟨r,⟨n+1,?_⟩,hP⟩
 simp only [jZ,hf,Option.bind_some,hz,Bool.false_eq_true,if_false]
 rw [show jo E (jZ E n) noY n af.body (Jl args ob (fun _=>false) ub base ub)=some [x] from hx]
 exact jfu (List.cons_ne_nil _ _) (fun y hy=>by rw [List.mem_singleton] at hy;subst hy;exact hr)
theorem jok {st:St} {n:Nat} {l:List Int} {v:V} {ub:Nat} {P:V→Prop} (hP:∀ r,jzp l r→P r) (hd:st.df=[]) (hv:st.tm n=v) (h:OwnI st.ob v l) (hu:v = .sl none true 0 []∨∃ L u n,v = .osl L u 0 n 1∧ub≤u) (hr:st.ro=ub):jeb [.t n] P .ret st:=by
 rcases h with ⟨rfl,rfl⟩ | ⟨L,u,cs,rfl,hob,hlen,htk⟩
 ·exact ⟨_,jC hd (by rw [hv];rfl) rfl,hP _ ⟨true,none,rfl,by simp⟩⟩
 ·have hub:ub≤u:=by
   rcases hu with h | ⟨L',u',n',h,h'⟩
   ·cases h
   ·cases h;exact h'
  have hoc:j6 st.ob L u=some cs:=by simp [j6,hob]
  have hs:Jj st 6 (.osl L u 0 l.length 1)=some (.sl none false l.length (l.flatMap intC)):=by
   show ((j6 st.ob L u).bind fun cs=>if Nat.ble st.ro u=true∧0+l.length * 1≤cs.length then (((cs.drop 0).take (l.length * 1)).mapM (Jj st 5)).map fun cs'=>V.sl none false l.length cs' else none)=_
   rw [hoc,Option.bind_some,if_pos ⟨Nat.ble_eq ▸ (by omega),by omega⟩,List.drop_zero,Nat.mul_one,htk,jak]
   rfl
  have ho:∃ t:Option (Nat × Nat),jx st true 0 (.osl L u 0 l.length 1)=some (.sl t false l.length (l.flatMap intC))∧∀ p∈t.toList,p.1<64:=by
   simp only [jx,hs,Option.bind_some,hoc,Option.map_some]
   refine ⟨_,rfl,fun p hp=>?_⟩
   split at hp
   ·simp at hp;subst hp;decide
   ·simp at hp
  obtain ⟨t,hto,htt⟩:=ho
  have hr':[ARes.t n].mapM (jw st)=some [.osl L u 0 l.length 1]:=by simp [jw,hv]
  refine ⟨.sl t false l.length (l.flatMap intC),?_,hP _ ⟨false,t,rfl,htt⟩⟩
  simp only [Wr,Xv hd,Xs hd,if_true,hr',Option.bind_some,YB]
  have hn:nodup ([V.osl L u 0 l.length 1].flatMap V.toks)=true:=rfl
  rw [hn]
  have hto':X4 st true 0 (.osl L u 0 l.length 1)=some (.sl t false l.length (l.flatMap intC)):=hto
  simp only [JG,hto',Option.bind_some,Option.map_some]
  cases t <;> rfl
theorem j41 {g:Hist'} (hs:Small g) (hm:Jr g=true) {uK um un ux:Nat} {s:KnS} {m:List (Int × Int)} {ob:Nat→Option Obj'} {tk:Nat→Bool} {base ub:Nat} (hK:Kn g uK um un s ob ub) (hx:∃ ver,ob (2 * ux+1)=some ⟨ux,.mp ver (MP jaf m)⟩) (hxl:ux<ub) :
 ∃ v,EvO E 92 [.ptr (2 * uK+1) uK 0,.map (2 * ux+1) ux] ob tk base ub v∧jzp ((jV g).filter fun t=>!(JC m t == 0)) v:=by
 refine jy8 (af:=S92) rfl (by decide) ?_
 have hk:=hK.k
 obtain ⟨l1,l2,l3⟩:=hK.lt
 have m1:¬ 2 * uK=2 * ub:=by omega
 simp [S92,j6,hk,m1]
 refine jQ (vs:=[.agg (j7 g)]) (by simp [j7]) rfl (sv61 (g:=g) hs hm) ?_
 rintro v ob1 tk1 ub1 ⟨hv,hoth,hub⟩
 simp only at hv hoth hub
 have hlen:(jV g).length≤1000000:=by
  have:=J6 jk g.ts g.ts.length
  have:=hs.ts
  unfold jV
  omega
 obtain ⟨z,hz⟩:∃ z,ub+64+64+64+64+64+64=z:=⟨_,rfl⟩
 rw [hz] at hv hoth hub
 have hbox:ob1 (2 * ub+1)=some ⟨ub,.cells [.map (2 * ux+1) ux]⟩:=by
  rw [hoth _ (by omega)];simp
 have hmap:∃ ver,ob1 (2 * ux+1)=some ⟨ux,.mp ver (MP jaf m)⟩:=by
  obtain ⟨ver,hx⟩:=hx
  have n1:¬ 2 * ux=2 * ub:=by omega
  exact ⟨ver,by rw [hoth _ (by omega)];simp [n1,hx]⟩
 simp
 generalize jV g=l at *
 rcases hv with ⟨rfl,rfl⟩ | ⟨rfl,hobl⟩
 ·refine jQ (vs:=[.sl none true 0 [],.fn (.func 135) [] [.ptr (2 * ub+1) ub 0]]) (by simp) rfl (juj (L:=0) (u:=ub)) ?_
  rintro v2 ob2 tk2 ub2 ⟨hown,_,_,_,hvv⟩
  simp only at hown hvv
  simp
  refine jok (l:=[]) (ub:=ub) (fun r h=>h) (by simp) rfl (by simpa using hown) ?_ (by simp)
  rcases hvv with h | ⟨n,h⟩
  ·exact .inl (by simpa using h)
  ·exact .inr ⟨0,ub,n,by simpa using h,Nat.le_refl _⟩
 ·refine jQ (vs:=[.osl (2 * z+1) z 0 l.length 1,.fn (.func 135) [] [.ptr (2 * ub+1) ub 0]]) (by simp) rfl
   (jz3 (p:=fun t=>JC m t == 0) rfl hlen (by simpa using hobl) (by simp;omega) fun ob' hob'=>jwu (m:=m) (lm:=2 * ux+1) (um:=ux) (ub0:=ub) ?_ ?_) ?_
  ·obtain ⟨ver,hm⟩:=hmap
   exact ⟨ver,by rw [hob' _ (by omega)];simpa using hm⟩
  ·rw [hob' _ (by omega)];simpa using hbox
  rintro v2 ob2 tk2 ub2 ⟨hown,_,_,_,hvv⟩
  simp only at hown hvv
  simp
  refine jok (ub:=ub) (fun r h=>h) (by simp) rfl (by simpa using hown) ?_ (by simp)
  rcases hvv with h | ⟨n,h⟩
  ·exact .inl (by simpa using h)
  ·exact .inr ⟨_,z,n,by simpa using h,by omega⟩
end Go.Pv.T

/- Several results, some of them slices; slices that are made; a copy of numbers. -/
namespace Go.Pv.T
open Go Go.Pv
def jue (l:List V) (v:V):Prop:=∃ vs,v = .tup vs∧vs.map V.strip1=l∧∀ p∈vs.flatMap V.toks,p<64
def j38:V→Bool
 | .agg _=>false
 | _=>true
theorem j0k {ub:Nat} {v:V} {l:List V} {K:Delta→Prop} (hv:jue l v) (hl:l.all j38=true) (h:∀ ws add,ws.map V.strip1=l→K { v:=.tup ws,add:=add }):wpD (Xh ub v) K:=by
 obtain ⟨vs,rfl,hs,ht⟩:=hv
 have e:Xh ub (.tup vs)=some { v:=.tup (vs.map (ja0 ub)),add:=(vs.flatMap V.toks).map (ub + ·) }:=by
  rw [Xh,if_pos (by simpa only [toksRes,List.all_eq_true,Nat.blt_eq] using ht)]
  rfl
 rw [e,jX]
 refine h _ _ ?_
 rw [← hs,List.map_map]
 refine List.map_congr_left fun w hw=>?_
 have hn:j38 w.strip1=true:=List.all_eq_true.1 hl _ (by rw [← hs];exact List.mem_map.2 ⟨w,hw,rfl⟩)
 cases w with
 | agg=>cases hn
 | sl t nl n cs=>cases t <;> rfl
 | _=>rfl
theorem jg2 {w:V} {nl:Bool} {n:Nat} {cs:List V} (h:w.strip1 = .sl none nl n cs):∃ t,w = .sl t nl n cs:=by
 cases w <;> simp [V.strip1] at h
 obtain ⟨rfl,rfl,rfl⟩:=h
 exact ⟨_,rfl⟩
theorem jiw {w:V} {b:Bool} (h:w.strip1 = .bool b):w = .bool b:=by cases w <;> simp [V.strip1] at h;subst h;rfl
theorem jlu {w:V} {k:IntKind} {b:Int} (h:w.strip1 = .int k b):w = .int k b:=by cases w <;> simp [V.strip1] at h;obtain ⟨rfl,rfl⟩:=h;rfl
def jy6 (st:St) (v w:V):Prop:=∀ keep i,∃ a,X4 st keep i v=some a∧a.strip1=w∧(a.toks=[]∨a.toks=[i])
def jli (st:St):List V→List V→Prop
 | [],[]=>True
 | v::vs,w::ws=>jy6 st v w∧jli st vs ws
 | _,_=>False
theorem Ji {st:St} {v:V} (h:v.pureLeaf=true):jy6 st v v:=by
 intro keep i
 refine ⟨v,?_,Xf h,.inl ?_⟩
 ·cases v with
  | agg=>cases h
  | fn=>cases h
  | _=>exact YS (st:=st) (keep:=keep) (i:=i) h
 ·cases v with
  | agg=>cases h
  | _=>exact jka h
theorem jkq {st:St} {v:V} {nl:Bool} {n:Nat} {cs:List V} (hv:v.leaf=true) (h:jba st v nl n cs):jy6 st v (.sl none nl n cs):=by
 intro keep i
 obtain ⟨a,ha,ht⟩:=h keep i
 refine ⟨.sl a nl n cs,?_,rfl,?_⟩
 ·rw [← ha]
  cases v with
  | agg=>cases hv
  | fn=>simp only [jx,Jj] at ha;split at ha <;> cases ha
  | _=>rfl
 ·rcases ht with rfl | ⟨z,rfl⟩
  ·exact .inl rfl
  ·exact .inr rfl
theorem Yg {st:St} {keep:Bool}:∀ {vs ls:List V} {i:Nat},jli st vs ls→∃ as1,JG st keep i vs=some as1∧as1.map V.strip1=ls∧(∀ p∈as1.flatMap V.toks,i≤p∧p<i+16 * vs.length)∧nodup (as1.flatMap V.toks)=true
 | [],[],i,_=>⟨[],rfl,rfl,by simp,rfl⟩
 | v::vs,w::ws,i,h=>by
  obtain ⟨a,h1,h2,h3⟩:=h.1 keep i
  obtain ⟨as1,k1,k2,k3,k4⟩:=Yg (keep:=keep) (i:=i+16) h.2
  refine ⟨a::as1,by simp only [JG,h1,Option.bind_some,k1,Option.map_some],by rw [List.map_cons,h2,k2],fun p hp=>?_,?_⟩
  ·rw [List.flatMap_cons,List.mem_append] at hp
   simp only [List.length_cons]
   rcases hp with hp | hp
   ·rcases h3 with h3 | h3 <;> rw [h3] at hp <;> simp at hp
    omega
   ·have:=k3 p hp;omega
  ·rw [List.flatMap_cons]
   rcases h3 with h3 | h3 <;> rw [h3]
   ·exact k4
   ·simp only [List.singleton_append,nodup,Bool.and_eq_true,k4,and_true,Bool.not_eq_true']
    rw [Bool.eq_false_iff]
    intro hc
    obtain ⟨p,hp,he⟩:=List.any_eq_true.1 hc
    have:=Nat.eq_of_beq_eq_true he
    have:=k3 p hp
    omega
 | [],_::_,_,h=>h.elim
 | _::_,[],_,h=>h.elim
theorem jkk (st:St):∀ ns:List Nat,(ns.map ARes.t).mapM (jw st)=some (ns.map st.tm)
 | []=>rfl
 | n::ns=>by rw [List.map_cons,List.mapM_cons,jkk st ns];rfl
theorem tupE {ns:List Nat} {st:St} {vs ls:List V} {P:V→Prop} (hP:∀ r,jue ls r→P r) (hd:st.df=[]) (h:ns.map st.tm=vs) (h2:2≤vs.length) (h4:vs.length≤4) (ho:jli st vs ls):jeb (ns.map .t) P .ret st:=by
 obtain ⟨as1,k1,k2,k3,k4⟩:=Yg (keep:=nodup (vs.flatMap V.toks)) (i:=0) ho
 have hal:2≤as1.length:=by
  have e1:=congrArg List.length k2
  have:∀ {vs ls:List V},jli st vs ls→vs.length=ls.length:=by
   intro vs
   induction vs with
   | nil=>intro ls h;cases ls with | nil=>rfl | cons=>exact h.elim
   | cons v vs ih=>intro ls h;cases ls with | nil=>exact h.elim | cons w ws=>rw [List.length_cons,List.length_cons,ih h.2]
  have:=this ho
  simp only [List.length_map] at e1
  omega
 refine ⟨.tup as1,?_,hP _ ⟨as1,rfl,k2,fun p hp=>by have:=k3 p hp;omega⟩⟩
 simp only [Wr,Xv hd,Xs hd,if_true,jkk,h,Option.bind_some,YB,k1,k4]
 match as1,hal with
 | a::b::r,_=>rfl
section
variable {E:Env} {Yf:YF} {st:St} {ub:Nat} {K:St→Nat→Prop} {d:Option Nat} {nm:Bool}
end
def Upto (n i:Nat) (J:List Int) (cs:List V):Prop:=cs.length=n∧(∀ j,j<i→cs[j]? = (J.flatMap intC)[j]?)∧cs.all V.pureLeaf=true
theorem Upto.set {n i:Nat} {J:List Int} {cs:List V} (h:Upto n i J cs) (hi:i<n) {x:Int} (hx:J[i]? = some x):Upto n (i+1) J (jD cs i [.int .i64 x]):=by
 obtain ⟨h1,h2,h3⟩:=h
 have hs:jD cs i [.int .i64 x]=cs.set i (.int .i64 x):=by
  unfold jD
  rw [List.set_eq_take_append_cons_drop,if_pos (by omega),List.append_assoc]
  rfl
 rw [hs]
 refine ⟨by rw [List.length_set];exact h1,fun j hj=>?_,?_⟩
 ·by_cases hji:j=i
  ·subst hji
   have hJ:=(List.getElem?_eq_some_iff.1 hx)
   rw [List.getElem?_set_self (by omega),Qw J hJ.1,hJ.2]
  ·rw [List.getElem?_set_ne (fun e=>hji e.symm)]
   exact h2 j (by omega)
 ·refine List.all_eq_true.2 fun y hy=>?_
  rcases List.mem_or_eq_of_mem_set hy with hy | rfl
  ·exact List.all_eq_true.1 h3 y hy
  ·rfl
theorem Upto.whole {n:Nat} {J:List Int} {cs:List V} (h:Upto n n J cs) (hJ:J.length=n):cs=J.flatMap intC:=by
 apply List.ext_getElem?
 intro j
 by_cases hj:j<n
 ·exact h.2.1 j hj
 ·rw [List.getElem?_eq_none (by rw [h.1];omega),List.getElem?_eq_none (by rw [jE jR];omega)]
theorem Upto.zero (n:Nat) (J:List Int):Upto n 0 J (jbi n [.int .i64 0]):=by
 refine ⟨by simp [jbi],fun j hj=>by omega,?_⟩
 refine List.all_eq_true.2 fun y hy=>?_
 simp only [jbi,List.mem_map] at hy
 obtain ⟨i,_,rfl⟩:=hy
 simp [V.pureLeaf,Nat.mod_one]
end Go.Pv.T

/- Must, as it is given. -/
namespace Go.Pv.T
open Go Go.Pv
theorem j4l {st:St} {ub:Nat} {K:List FP→St→Prop} {d:Option Nat} {nm:Bool} {r:List AOpr} {f:FuncId} {xs:List A} {vs:List V} {v:V} {δ:Delta} (hx:xs.map (eval E st.tm)=vs) (hs:E.sh nm f=false) (hp:(vs.all fun v=>v.strip.pureTop)=false)
 (hev:EvO E f vs st.ob st.tk ((st.fb+d.getD 0+1) * 1024) (ub+64 * (r.length+1)) v) (hδ:Xh ub v=some δ)
 (h:jM E r (st.app d δ) (ub+64) (kFp { wt:=δ.wt,all:=true,seen:=fun l=>(st.ob l).isSome } K)):jM E (⟨d,.call f xs,none,nm⟩::r) st ub K:=by
 have hp':(xs.all fun x=>(eval E st.tm x).strip.pureTop)=false:=by
  rw [← hx,List.all_map] at hp
  exact hp
 have hsh:jI E nm (eval E st.tm) (.call f xs)=some (f,vs):=by simp only [jI,hs,hx,hp',Bool.not_false,Bool.and_false,Bool.false_eq_true,if_false]
 simp only [jM,wanted,hsh]
 exact .inl ⟨hs,v,hev,δ,hδ,h⟩
theorem jp5 {st:St} {ub:Nat} {K:List FP→St→Prop} {d:Option Nat} {nm:Bool} {r:List AOpr} {f:FuncId} {xs:List A} {vs:List V} {l:List Int} (hx:xs.map (eval E st.tm)=vs) (hs:E.sh nm f=false) (hp:(vs.all fun v=>v.strip.pureTop)=false)
 (he:∃ v,EvO E f vs st.ob st.tk ((st.fb+d.getD 0+1) * 1024) (ub+64 * (r.length+1)) v∧jzp l v)
 (h:∀ t nl add,jM E r (st.app d { v:=.sl t nl l.length (l.flatMap intC),add:=add }) (ub+64) (kFp { wt:=add,all:=true,seen:=fun l=>(st.ob l).isSome } K)):jM E (⟨d,.call f xs,none,nm⟩::r) st ub K:=by
 obtain ⟨v,ev,nl,hv⟩:=he
 obtain ⟨t,add,hr⟩:=jfp (ub:=ub) hv
 exact j4l hx hs hp ev hr (h t nl add)
def jgo (g:Hist') (v:V):Prop :=
 if Jr g then (if (KnS.known g).hop then jue [.sl none true 0 [],.sl none true 0 [],.bool true,.int .i64 0] v
  else ∃ a b,jue [.sl none a ((jV g).filter fun t=>!(JC (KnS.known g).m t == 0)).length (((jV g).filter fun t=>!(JC (KnS.known g).m t == 0)).flatMap intC),
   .sl none b ((jV g).filter fun t=>!(JC (KnS.known g).n t == 0)).length (((jV g).filter fun t=>!(JC (KnS.known g).n t == 0)).flatMap intC),.bool false,.int .i64 0] v)
 else jue [.sl none true 0 [],.sl none true 0 [],.bool false,.int .i64 4] v
theorem ev48 {g:Hist'} (hs:Small g):∃ v,Ev E 48 [.agg (j7 g)] v∧jgo g v:=by
 have e70:=jyg hs
 have p0:Jr g=false→∀ v,jue [.sl none true 0 [],.sl none true 0 [],.bool false,.int .i64 4] v→jgo g v:=fun h v hv=>by
  unfold jgo;rw [h];exact hv
 have p1:Jr g=true→(KnS.known g).hop=true→∀ v,jue [.sl none true 0 [],.sl none true 0 [],.bool true,.int .i64 0] v→jgo g v:=fun h h' v hv=>by
  unfold jgo;rw [h,h'];exact hv
 have p2:Jr g=true→(KnS.known g).hop=false→∀ a b v,jue [.sl none a ((jV g).filter fun t=>!(JC (KnS.known g).m t == 0)).length (((jV g).filter fun t=>!(JC (KnS.known g).m t == 0)).flatMap intC),
  .sl none b ((jV g).filter fun t=>!(JC (KnS.known g).n t == 0)).length (((jV g).filter fun t=>!(JC (KnS.known g).n t == 0)).flatMap intC),.bool false,.int .i64 0] v→jgo g v:=fun h h' a b v hv=>by
  unfold jgo;rw [h,h'];exact ⟨a,b,hv⟩
 generalize jgo g=P at *
 refine YV (af:=F48) rfl (by decide) ?_
 simp [F48,j7,j6]
 refine jf e70 (by simp [j7]) rfl (by simp [j7]) ?_
 cases hm:Jr g
 ·rw [WT hm]
  simp
  refine tupE (ns:=[2,3,4,5]) (vs:=[.sl none true 0 [],.sl none true 0 [],.bool false,.int .i64 4]) (p0 hm) rfl (by simp) (by decide) (by decide) ?_
  exact ⟨Ji rfl,Ji rfl,Ji rfl,Ji rfl,trivial⟩
 rw [YD hm]
 simp [j6]
 refine jQ (vs:=[.agg (j7 g)]) (by simp [j7]) rfl (sv91 (g:=g) hs (Nat.zero_le _)) ?_
 rintro v ob1 tk1 ub1 ⟨hv,hK,hold,hub⟩
 simp only at hv hK hold hub
 subst hv
 have hk:=hK.k
 cases hh:(KnS.known g).hop
 ·rw [hh] at hk
  simp [j6,hk]
  obtain ⟨vm,hmm⟩:=hK.m
  obtain ⟨vn,hmn⟩:=hK.n
  have hlt:=hK.lt
  refine jp5 (vs:=[.ptr (2 * (704+384)+1) (704+384) 0,.map (2 * (704+192)+1) (704+192)]) (by simp) rfl rfl (j41 hs hm (hK.up (by simp) (by simp;omega)) ⟨vm,by simpa using hmm⟩ (by omega)) ?_
  intro ta nla adda
  simp [j6,hk]
  refine jp5 (vs:=[.ptr (2 * (704+384)+1) (704+384) 0,.map (2 * (704+256)+1) (704+256)]) (by simp) rfl rfl (j41 hs hm (hK.up (by simp) (by simp;omega)) ⟨vn,by simpa using hmn⟩ (by omega)) ?_
  intro tb nlb addb
  simp
  exact tupE (ns:=[2,3,4,5]) (vs:=[.sl ta nla ((jV g).filter fun t=>!(JC (KnS.known g).m t == 0)).length (((jV g).filter fun t=>!(JC (KnS.known g).m t == 0)).flatMap intC),
   .sl tb nlb ((jV g).filter fun t=>!(JC (KnS.known g).n t == 0)).length (((jV g).filter fun t=>!(JC (KnS.known g).n t == 0)).flatMap intC),.bool false,.int .i64 0]) (p2 hm hh nla nlb) (by simp) (by simp) (by simp) (by simp)
   ⟨jkq rfl (Yw _ ta nla _ _),jkq rfl (Yw _ tb nlb _ _),Ji rfl,Ji rfl,trivial⟩
 ·rw [hh] at hk
  simp [j6,hk]
  refine tupE (ns:=[2,3,4,5]) (vs:=[.sl none true 0 [],.sl none true 0 [],.bool true,.int .i64 0]) (p1 hm hh) (by simp) (by simp) (by decide) (by decide) ⟨Ji rfl,Ji rfl,Ji rfl,Ji rfl,trivial⟩
end Go.Pv.T

/- Against, as it is given. -/
namespace Go.Pv.T
open Go Go.Pv
def blC (b:Bool):List V:=[.bool b]
@[simp] theorem Xw (b:Bool):(blC b).length=1:=rfl
theorem jyv (l:List Bool) {i:Nat} (h:i<l.length):(l.flatMap blC)[i]? = some (.bool l[i]):=by
 have:=ju Xw l h (by decide:0<1)
 simpa [blC] using this
def KnS.ag (s:KnS) (x:Int) (b:Bool):Bool:=(b && decide (0<JC s.n x)) || (!b && decide (0<JC s.m x))
def KnS.agTo (s:KnS) (l:List Int) (bs:List Bool):Nat→Bool
 | 0=>false
 | i+1=>s.agTo l bs i || s.ag (l.getD i 0) (bs.getD i false)
theorem jii {s:KnS} {l:List Int} {bs:List Bool} {i:Nat} (h:s.agTo l bs i=true):∀ n,i≤n→s.agTo l bs n=true
 | 0,hn=>by
  have:i=0:=by omega
  rw [this] at h;exact h
 | n+1,hn=>by
  rcases Nat.lt_or_ge n i with h1 | h1
  ·have:i=n+1:=by omega
   rw [← this];exact h
  ·simp only [KnS.agTo,jii h n h1,Bool.true_or]
def Xg (g:Hist') (bs:List Bool):Bool × Int :=
 if Jr g then (if bs.length=(jV g).length then ((KnS.known g).agTo (jV g) bs bs.length || (KnS.known g).hop,0) else (false,2)) else (false,4)
set_option maxRecDepth 100000 in
theorem ev51 {g:Hist'} (hs:Small g) {nl:Bool} (bs:List Bool) (hb:bs.length≤1000000):Ev E 51 [.agg (j7 g),jl nl blC bs] (.tup [.bool (Xg g bs).1,.int .i64 (Xg g bs).2]):=by
 have e70:=jyg hs
 have hts:=hs.ts
 refine jc (af:=F51) rfl ?_
 obtain ⟨A,hA⟩:∃ A,Xg g bs=A:=⟨_,rfl⟩
 rw [hA]
 unfold Xg at hA
 simp [F51,j7,j6]
 refine jf e70 (by simp [j7]) rfl (by simp [j7]) ?_
 cases hm:Jr g
 ·rw [WT hm]
  rw [hm] at hA
  subst hA
  simp
  refine JH rfl (by simp) (by simp) rfl rfl
 obtain ⟨vi,evi,nli,hvi⟩:=ev61 hs hm
 rw [YD hm]
 rw [hm] at hA
 simp only [if_true] at hA
 simp [j6]
 refine jf evi (by simp [j7]) rfl (by simp [j7]) ?_
 refine jcs hvi fun ti addi=>?_
 obtain ⟨l,hl⟩:∃ l,jV g=l:=⟨_,rfl⟩
 have hll:l.length≤1000:=by
  have:=J6 jk g.ts g.ts.length
  rw [← hl]
  unfold jV
  omega
 rw [hl] at hA ⊢
 simp
 by_cases hne:bs.length=l.length
 ·rw [if_pos hne] at hA
  simp [hne,j6]
  refine jQ (vs:=[.agg (j7 g)]) (by simp [j7]) rfl (sv91 (g:=g) hs (Nat.zero_le _)) ?_
  rintro v ob1 tk1 ub1 ⟨hv,hK,hold,hub⟩
  simp only at hv hK hold hub
  subst hv
  have hk:=hK.k
  obtain ⟨vm,hmm⟩:=hK.m
  obtain ⟨vn,hmn⟩:=hK.n
  obtain ⟨s,hs0⟩:∃ s,KnS.known g=s:=⟨_,rfl⟩
  rw [hs0] at hA hk hmm hmn
  simp
  refine jL [(4,5),(9,10),(27,61)] l.length (fun i st=>st.tm 27 = .int .i64 i∧st.ob=ob1∧s.agTo l bs i=false) rfl rfl ⟨by simp,by simp,rfl⟩ ?_
  rintro i st hi ⟨h27,hob,hag⟩ f
  have f1:st.tm 1=jl nl blC bs:=by rw [f.t 1 (by simp)];simp
  have f8:st.tm 8 = .ptr (2 * (1088+384)+1) (1088+384) 0:=by rw [f.t 8 (by simp)];simp
  have f25:st.tm 25 = .sl ti nli l.length (l.flatMap intC):=by rw [f.t 25 (by simp)];simp
  have f26:st.tm 26 = .int .i64 l.length:=by rw [f.t 26 (by simp)];simp
  have fd:st.df=[]:=by rw [f.d];simp
  clear f
  rw [← hob] at hk hmm hmn
  have hlm:=JE (ob:=st.ob) (l:=2 * (1088+192)+1) (u:=1088+192) (k:=(l.getD i 0)) s.m (by simp [jg,hmm])
  have hln:=JE (ob:=st.ob) (l:=2 * (1088+256)+1) (u:=1088+256) (k:=(l.getD i 0)) s.n (by simp [jg,hmn])
  by_cases hlt:i<l.length
  ·have hlb:i<bs.length:=by omega
   have hwk:=JJ hlt (by omega)
   have hst:s.agTo l bs (i+1)=s.ag l[i] bs[i]:=by
    simp only [KnS.agTo,hag,Bool.false_or,List.getD_eq_getElem?_getD,List.getElem?_eq_getElem hlt,List.getElem?_eq_getElem hlb,Option.getD_some]
   have hia:=Qw l hlt
   have hba:=jyv bs hlb
   have hgx:l.getD i 0=l[i]:=by simp [List.getD_eq_getElem?_getD,List.getElem?_eq_getElem hlt]
   rw [hgx] at hlm hln
   have hon:s.agTo l bs (i+1)=true→A=(true,0):=fun h=>by
    rw [← hA,jii h bs.length (by omega)];rfl
   unfold KnS.ag at hst
   generalize l[i]=x at *
   simp at hk hlm hln
   cases hbb:bs[i]
   ·by_cases c:0<JC s.m x
    ·rw [hbb] at hba hst
     simp only [c,decide_true,Bool.not_false,Bool.and_self,Bool.or_true] at hst
     simp [h27,f1,f8,f25,f26,hlt,hlb,jgc jR,jF Xw,hia,hba,j6,hk,hlm,c]
     rw [hon hst]
     refine JH (by simp [fd]) (by simp) (by simp) rfl rfl
    ·rw [hbb] at hba hst
     simp only [c,decide_false,Bool.and_false,Bool.false_and,Bool.or_false] at hst
     simp [h27,f1,f8,f25,f26,hlt,hlb,jgc jR,jF Xw,hia,hba,j6,hk,hlm,c,hwk]
     exact ⟨hob,hst⟩
   ·by_cases c:0<JC s.n x
    ·rw [hbb] at hba hst
     simp only [c,decide_true,Bool.and_self,Bool.true_or] at hst
     simp [h27,f1,f8,f25,f26,hlt,hlb,jgc jR,jF Xw,hia,hba,j6,hk,hln,c]
     rw [hon hst]
     refine JH (by simp [fd]) (by simp) (by simp) rfl rfl
    ·rw [hbb] at hba hst
     simp only [c,decide_false,Bool.and_false,Bool.not_true,Bool.false_and,Bool.or_false] at hst
     simp [h27,f1,f8,f25,f26,hlt,hlb,jgc jR,jF Xw,hia,hba,j6,hk,hln,c,hwk]
     exact ⟨hob,hst⟩
  ·have:i=l.length:=by omega
   subst this
   rw [hne,hag,Bool.false_or] at hA
   subst hA
   simp at hk
   simp [h27,f26,f8,j6,hk]
   refine JH (by simp [fd]) (by simp) (by simp) rfl rfl
 ·rw [if_neg hne] at hA
  subst hA
  have hbn:((bs.length:Int) != l.length)=true:=by
   rw [bne_iff_ne]
   omega
  simp [hbn]
  refine JH rfl (by simp) (by simp) rfl rfl
end Go.Pv.T

/- Which value is jq1: the given comparison. -/
namespace Go.Pv.T
open Go Go.Pv Go.Sort
@[simp] theorem cellV_lf (v:Val'):(ja7 v).leaf=true:=by unfold ja7;split;rfl;split <;> rfl
def j4c (a b:Val'):Bool:=if a.kind=b.kind then (a.kind == 1 && decide (a.n<b.n)) else decide (a.kind<b.kind)
def cmpV (a b:Val'):Int:=if jgz a && jgz b && j4c a b then -1 else if jgz b && jgz a && j4c b a then 1 else 0
end Go.Pv.T

/- Values that are sorted by a function where they lie: their cells, and what is less. -/
namespace Go.Pv.T
open Go Go.Pv Go.Sort
abbrev VV:Type:={ v:Val' // jgz v=true }
instance:Inhabited VV:=⟨⟨⟨0,0⟩,rfl⟩⟩
def vvC (v:VV):List V:=J1 v.1
@[simp] theorem jvt (v:VV):(vvC v).length=2:=rfl
@[simp] theorem vvC_leaf (v:VV):∀ x∈vvC v,x.leaf=true:=by
 intro x hx
 simp only [vvC,J1,List.mem_cons,List.not_mem_nil,or_false] at hx
 rcases hx with rfl | rfl <;> rfl
@[simp] theorem jzw (v:VV):(vvC v).all V.leaf=true:=rfl
@[simp] theorem jy9 (v:VV):(vvC v).map V.strip1=vvC v:=rfl
@[simp] theorem vvC_pure (v:VV):(vvC v).all V.pureLeaf=true:=rfl
def ju0 (a b:VV):Bool:=decide (cmpV a.1 b.1<0)
@[simp] theorem j4a (a b:VV):decide (cmpV a.1 b.1<0)=ju0 a b:=rfl
abbrev CF:V:=.fn (.func 121) [] []
theorem At.swp {l u:Nat} {cs0 cs:List V} {ob:Nat→Option Obj'} {tk:Nat→Bool} {ub:Nat} {ob1:Nat→Option Obj'} {tk1:Nat→Bool} {ub1:Nat} {ob2:Nat→Option Obj'} {tk2:Nat→Bool} {ub2:Nat} (h:At l u cs0 ob tk ub ob1 tk1 ub1)
 (h1:ob2 l=some ⟨u,.cells cs⟩) (h2:∀ key,key≠l→ob2 key=ob1 key) (h3:tk2=tk1) (h4:ub1≤ub2):At l u cs ob tk ub ob2 tk2 ub2 :=
 ⟨h1,fun key a b=>(h2 key a).trans (h.2.1 key a b),h3.trans h.2.2.1,Nat.le_trans h.2.2.2 h4⟩
@[simp] theorem arrV_len (d:Array VV):(arr vvC d).length=d.size * 2:=jqw (sz:=2) jvt d
end Go.Pv.T

/- Insertion sort by a function. -/
namespace Go.Pv.T.Vs
open Go Go.Pv Go.Pv.T Go.Sort
end Go.Pv.T.Vs

/- Heap sort by a function: sifting. -/
namespace Go.Pv.T.Vs
open Go Go.Pv Go.Pv.T Go.Sort
end Go.Pv.T.Vs

/- Heap sort by a function. -/
namespace Go.Pv.T.Vs
open Go Go.Pv Go.Pv.T Go.Sort
theorem Yy (lt:VV→VV→Bool) (hi first root:Nat) (d:Array VV):(siftDown lt hi first root d).size=d.size:=by
 fun_induction siftDown lt hi first root d <;> simp_all [Jk]
end Go.Pv.T.Vs

/- Turning round, pivots, by a function. -/
namespace Go.Pv.T.Vs
open Go Go.Pv Go.Pv.T Go.Sort
end Go.Pv.T.Vs

/- Pivots, by a function. -/
namespace Go.Pv.T.Vs
open Go Go.Pv Go.Pv.T Go.Sort
end Go.Pv.T.Vs

/- Partitions, by a function. -/
namespace Go.Pv.T.Vs
open Go Go.Pv Go.Pv.T Go.Sort
theorem Qg {lt:VV→VV→Bool} {a i j i2 j2:Nat} {d:Array VV} (_:1≤i) (h1:scanUp (fun x=>lt x d[a]!) d j i=i2) (h2:scanDown (fun x=>!lt x d[a]!) d i2 j=j2) :
 partLoop lt a i j d=if i2 > j2 then (j2,d) else partLoop lt a (i2+1) (j2 - 1) (swp d i2 j2):=by
 have g1:=(YA (fun x=>lt x d[a]!) d j i).1
 have g2:=(Jm (fun x=>!lt x d[a]!) d i2 j).1
 rw [partLoop]
 simp only [h1,h2]
 by_cases h:i2 > j2
 ·rw [if_pos h,if_pos h]
 ·rw [if_neg h,if_neg h,dif_pos (by omega)]
end Go.Pv.T.Vs
