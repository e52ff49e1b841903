/- Breaking patterns; insertion sort of few. -/
import Derived.Test.YtopjfnbonjmnjaaGreatDoorWhD
import Derived.Laws.Bits64
namespace Go.Pv.T
open Go Go.Pv Go.Sort
theorem e201:((List.range 50).all fun n=>match (callers E 20 noY).d 201 [.int .i64 (n:Nat)] with
 | some (.int .u64 m)=>decide (n<8) || (decide (1≤m) && decide (m≤2 * (n:Nat)))
 | _=>false)=true:=by kernel_rfl
theorem ev201 {n:Nat} (h8:8≤n) (hn:n<50):∃ m:Nat,Ev E 201 [.int .i64 (n:Nat)] (.int .u64 m)∧1≤m∧m≤2 * n:=by
 have h:=List.all_eq_true.1 e201 n (List.mem_range.2 hn)
 split at h
 ·rename_i m hm
  simp only [Bool.or_eq_true,Bool.and_eq_true,decide_eq_true_eq] at h
  rcases h with h | ⟨h1,h2⟩
  ·omega
  ·refine ⟨m.toNat,⟨20,?_⟩,by omega,by omega⟩
   rw [show ((m.toNat:Nat):Int)=m from by omega]
   exact hm
 ·cases h
theorem e118:((List.range 50).all fun n=>match (callers E 20 noY).d 118 [.int .u64 (n:Nat)] with
 | some (.int .i64 m)=>decide (0≤m) && decide (m≤64)
 | _=>false)=true:=by kernel_rfl
theorem ev118 {n:Nat} (hn:n<50):∃ m:Nat,Ev E 118 [.int .u64 (n:Nat)] (.int .i64 m)∧m≤64:=by
 have h:=List.all_eq_true.1 e118 n (List.mem_range.2 hn)
 split at h
 ·rename_i m hm
  simp only [Bool.and_eq_true,decide_eq_true_eq] at h
  refine ⟨m.toNat,⟨20,?_⟩,by omega⟩
  rw [show ((m.toNat:Nat):Int)=m from by omega]
  exact hm
 ·cases h
@[simp] theorem convV_int (k k':IntKind) (n:Int):convV k (.int k' n)=some (.int k (k.wrap n)):=rfl
theorem shlU (x k:Int) (hk:0≤k):∃ y,binV .shl (.int .u64 x) (.int .u64 k)=some (.int .u64 y):=by
 simp only [binV,shiftBin]
 rw [if_neg (by omega)]
 exact ⟨_,rfl⟩
theorem shrU (x k:Int) (hk:0≤k):∃ y,binV .shr (.int .u64 x) (.int .u64 k)=some (.int .u64 y):=by
 simp only [binV,shiftBin]
 rw [if_neg (by omega)]
 exact ⟨_,rfl⟩
theorem xorU (x y:Int):∃ z,binV .xor (.int .u64 x) (.int .u64 y)=some (.int .u64 z):=⟨_,rfl⟩
theorem andU (x:Int) (y:Nat) (hy:y<1000):∃ z:Nat,binV .and (.int .u64 x) (.int .u64 y)=some (.int .u64 z)∧z≤y:=by
 refine ⟨(BitVec.ofInt 64 x &&& BitVec.ofInt 64 (y:Int)).toNat,?_,?_⟩
 ·simp only [binV,if_true,intBin]
  congr 2
  have h:=(BitVec.ofInt 64 x &&& BitVec.ofInt 64 (y:Int)).isLt
  show IntKind.u64.wrap ((BitVec.ofInt 64 x &&& BitVec.ofInt 64 (y:Int)).toNat:Int)=_
  rw [IntKind.wrap_u64]
  omega
 ·rw [BitVec.toNat_and]
  refine Nat.le_trans Nat.and_le_right ?_
  rw [BitVec.toNat_ofInt]
  omega
theorem sv202 {Yf:YF} {w uw:Nat} {x:Int} {ob:Nat→Option Obj'} {tk:Nat→Bool} {ro base ub:Nat} (hw:ob w=some ⟨uw,.cells [.int .u64 x]⟩) (hro:ro≤uw) :
 ∃ r,EvS E Yf.y 202 [.ptr w uw 0] ob tk ro base ub r∧(∃ z,r.1 = .int .u64 z∧r.2.1 w=some ⟨uw,.cells [.int .u64 z]⟩)∧(∀ key,key≠w→r.2.1 key=ob key)∧r.2.2.1=tk∧ub≤r.2.2.2:=by
 refine EvS_wp (af:=S202) rfl (by decide) ?_
 show wpC E Yf S202.body _ (kEndS S202.res _)
 obtain ⟨y1,h1⟩:=shlU x 13 (by omega)
 obtain ⟨y2,h2⟩:=xorU x y1
 obtain ⟨y3,h3⟩:=shrU y2 7 (by omega)
 obtain ⟨y4,h4⟩:=xorU y2 y3
 obtain ⟨y5,h5⟩:=shlU y4 17 (by omega)
 obtain ⟨y6,h6⟩:=xorU y4 y5
 simp [S202,objCells,hw,h1,h2,hro,splice,h3,h4,h5,h6]
 exact endS_1 (by simp) ⟨⟨y6,by simp,by simp⟩,fun key hk=>by simp [hk],by simp [app_tk0],by simp;omega⟩
theorem sv159 {Yf:YF} {l u a b:Nat} {d:Array Int} (hd:d.size≤49) (hb:b≤d.size) (hab:a+8≤b) {ob:Nat→Option Obj'} {tk:Nat→Bool} {ro base ub:Nat} (ho:ob l=some ⟨u,.cells (arr intC d)⟩) (hro:ro≤u) (hl:∀ m,ub≤m→l≠2 * m+1) (hru:ro≤ub) :
 ∃ r,EvS E Yf.y 159 [.osl l u 0 d.size 1,.int .i64 a,.int .i64 b] ob tk ro base ub r∧∃ d',PermIn a b d d'∧At l u (arr intC d') ob tk ub r.2.1 r.2.2.1 r.2.2.2:=by
 refine EvS_wp (af:=S159) rfl (by decide) ?_
 show wpC E Yf S159.body _ (kEndS S159.res _)
 obtain ⟨A,hA⟩:∃ x:Int,x=(a:Nat):=⟨_,rfl⟩
 obtain ⟨B,hB⟩:∃ x:Int,x=(b:Nat):=⟨_,rfl⟩
 obtain ⟨L,hL⟩:∃ x:Int,x=((b - a:Nat):Int):=⟨_,rfl⟩
 obtain ⟨q,hq⟩:∃ q,q=(b - a) / 4:=⟨_,rfl⟩
 obtain ⟨Q,hQ⟩:∃ x:Int,x=(q:Nat):=⟨_,rfl⟩
 obtain ⟨Q2,hQ2⟩:∃ x:Int,x=Q * 2:=⟨_,rfl⟩
 obtain ⟨P2,hP2⟩:∃ x:Int,x=A+Q2:=⟨_,rfl⟩
 obtain ⟨P3,hP3⟩:∃ x:Int,x=P2+1:=⟨_,rfl⟩
 have w1:IntKind.i64.wrap (B - A)=L:=by rw [wrapN (by omega) (by omega)];omega
 have w2:IntKind.i64.wrap (L.tdiv 4)=Q:=by
  have e2:L.tdiv 4=(((b - a) / 4:Nat):Int):=by rw [hL];exact (Int.ofNat_tdiv _ 4).symm
  rw [e2,wrapN (by omega) (by omega)];omega
 have w4:IntKind.i64.wrap (Q * 2)=Q2:=by rw [wrapN (by omega) (by omega)];exact hQ2.symm
 have w5:IntKind.i64.wrap (A+Q2)=P2:=by rw [wrapN (by omega) (by omega)];exact hP2.symm
 have w6:IntKind.i64.wrap (P2 - 1)=((a+q * 2 - 1:Nat):Int):=by rw [wrapN (by omega) (by omega)];omega
 have w7:IntKind.i64.wrap (P2+1)=P3:=by rw [wrapN (by omega) (by omega)];exact hP3.symm
 have w8:IntKind.u64.wrap L=L:=by rw [IntKind.wrap_u64];omega
 have c8:8≤L:=by omega
 have hq2:q * 2+2≤b - a∧1≤q:=by omega
 obtain ⟨m,em,m1,m2⟩:=ev201 (n:=b - a) (by omega) (by omega)
 rw [← hL] at em
 rw [← hA,← hB]
 generalize hS:((a+q * 2 - 1:Nat):Int)=S0 at w6
 simp [S159,w1,c8,w8,splice,objCells]
 obtain ⟨N,hN⟩:∃ N,ub+64+64+64+64+64+64+64+64=N:=⟨_,rfl⟩
 have hl':=hl N (by omega)
 refine ⟨by omega,?_⟩
 refine kS_ev em (by simp) rfl (by simp) ?_
 simp [w2,w4,w5,w6]
 refine wpC_gen fun st hst=>?_
 have g0:st.tm 0 = .osl l u 0 d.size 1:=by rw [hst];simp
 have g1:st.tm 1 = .int .i64 A:=by rw [hst];simp
 have g6:st.tm 6 = .int .i64 L:=by rw [hst];simp
 have g7:st.tm 7 = .ptr (2 * N+1) N 0:=by rw [hst,← hN];simp
 have g8:st.tm 8 = .int .u64 m:=by rw [hst];simp
 have g9:st.tm 9 = .int .i64 ((a+q * 2 - 1+0:Nat):Int):=by rw [Nat.add_zero,hS,hst];simp
 have gd:st.df=[]:=by rw [hst];simp
 have gr:st.ro=ro:=by rw [hst];simp
 have gn:N≤st.nx:=by rw [hst,← hN];simp
 have gw:st.ob (2 * N+1)=some ⟨N,.cells [.int .u64 L]⟩:=by rw [hst,← hN];simp
 have gf:∀ key,key≠2 * N+1→st.ob key=ob key:=by
  intro key hk
  rw [← hN] at hk
  rw [hst];simp [hk]
 have gt:st.tk=tk:=by rw [hst];simp [app_tk0]
 have hNu:ub≤N:=by rw [← hN];omega
 have hroN:ro≤N:=by omega
 clear hst em hN hS w6
 have gat:At l u (arr intC d) ob tk ub st.ob st.tk st.nx:=⟨(gf l hl').trans ho,fun key h1 h2=>gf key (h2 N hNu),gt,by omega⟩
 obtain ⟨I,hI⟩:∃ I:Nat→St→Prop,I=fun n s=>∃ k:Nat,n=3 - k∧k≤3∧s.tm 9 = .int .i64 ((a+q * 2 - 1+k:Nat):Int)∧(∃ z,s.ob (2 * N+1)=some ⟨N,.cells [.int .u64 z]⟩)∧∃ d1,PermIn a b d d1∧At l u (arr intC d1) ob tk ub s.ob s.tk s.nx:=⟨_,rfl⟩
 refine wp_loopF (n:=3 - 0) [(9,10),(26,64)] I rfl rfl (by rw [hI];exact ⟨0,rfl,by omega,g9,⟨L,gw⟩,d,permIn_refl d a b,gat⟩) ?_
 intro n s hIs f
 rw [hI] at hIs
 obtain ⟨k,rfl,hk3,h9,⟨z,hz⟩,d1,hperm,hat⟩:=hIs
 have f0:s.tm 0 = .osl l u 0 d1.size 1:=by rw [f.t 0 (by simp),g0,hperm.1]
 have f1:s.tm 1 = .int .i64 A:=by rw [f.t 1 (by simp)];exact g1
 have f6:s.tm 6 = .int .i64 L:=by rw [f.t 6 (by simp)];exact g6
 have f7:s.tm 7 = .ptr (2 * N+1) N 0:=by rw [f.t 7 (by simp)];exact g7
 have f8:s.tm 8 = .int .u64 m:=by rw [f.t 8 (by simp)];exact g8
 have fd:s.df=[]:=by rw [f.d];exact gd
 have fr:s.ro=ro:=by rw [f.r];exact gr
 clear f g0 g1 g6 g7 g8 g9 gd gr gn gw gf gt gat
 have z1:=hperm.1
 obtain ⟨X,hX⟩:∃ x:Int,x=((a+q * 2 - 1+k:Nat):Int):=⟨_,rfl⟩
 rw [← hX] at h9
 by_cases hk:k=3
 ·have c1:¬ X≤P3:=by omega
  simp [h9,f1,f6,w2,w4,w5,w7,c1]
  exact endS_nil (Or.inl rfl) (by simp [fd]) ⟨d1,hperm,hat.same rfl rfl (by simp;omega)⟩
 have c1:X≤P3:=by omega
 have w9:IntKind.u64.wrap ((m:Int) - 1)=((m - 1:Nat):Int):=by rw [IntKind.wrap_u64];omega
 simp [h9,f1,f6,w2,w4,w5,w7,c1]
 refine kS_callP (vs:=[.ptr (2 * N+1) N 0]) (by simp [f7]) rfl (sv202 (w:=2 * N+1) (uw:=N) (by simpa using hz) (by simp [fr,hroN])) ?_
 rintro v ob1 tk1 ub1 ⟨⟨z',hv,hz'⟩,q2,q3,q4⟩
 simp only at hv hz' q2 q3 q4
 subst hv
 obtain ⟨y,hy1,hy2⟩:=andU z' (m - 1) (by omega)
 have w10:IntKind.i64.wrap (y:Int)=y:=wrapN (by omega) (by omega)
 have w11:IntKind.i64.wrap (X+1)=((a+q * 2 - 1+(k+1):Nat):Int):=by rw [wrapN (by omega) (by omega)];omega
 generalize hX1:((a+q * 2 - 1+(k+1):Nat):Int)=X1 at w11
 simp [f8,w9,hy1,w10,f6]
 generalize hQ:kSeq E Yf (C.draw _ _) _=Qd
 have fin:∀ (s1:St) (o:Nat),o<b - a→s1.tm 10 = .int .i64 o→s1.tm 9 = .int .i64 X→s1.tm 0 = .osl l u 0 d1.size 1→s1.tm 1 = .int .i64 A→s1.df=[]→s1.ro=ro→(∃ z,s1.ob (2 * N+1)=some ⟨N,.cells [.int .u64 z]⟩)→At l u (arr intC d1) ob tk ub s1.ob s1.tk s1.nx→Qd .nrm s1:=by
  intro s1 o ho1 k10 k9 k0 k1 kd kr kw kat
  rw [← hQ]
  obtain ⟨O,hO⟩:∃ x:Int,x=(o:Nat):=⟨_,rfl⟩
  obtain ⟨AO,hAO⟩:∃ x:Int,x=A+O:=⟨_,rfl⟩
  rw [← hO] at k10
  have w12:IntKind.i64.wrap (A+O)=AO:=by rw [wrapN (by omega) (by omega)];exact hAO.symm
  have ix:=idxN (l:=l) (u:=u) (n:=d1.size) (kk:=.i64) (X:=X) (x:=a+q * 2 - 1+k) (by omega) (by omega)
  have iy:=idxN (l:=l) (u:=u) (n:=d1.size) (kk:=.i64) (X:=AO) (x:=a+o) (by omega) (by omega)
  have lx:=ldN kat.1 (x:=a+q * 2 - 1+k) (by omega)
  have ly:=ldN kat.1 (x:=a+o) (by omega)
  have sa:=stI (d:=d1) (x:=a+q * 2 - 1+k) (by omega) d1[a+o]!
  have sb:=stI (d:=d1.setIfInBounds (a+q * 2 - 1+k) d1[a+o]!) (x:=a+o) (by rw [Array.size_setIfInBounds];omega) d1[a+q * 2 - 1+k]!
  rw [show (d1.setIfInBounds (a+q * 2 - 1+k) d1[a+o]!).setIfInBounds (a+o) d1[a+q * 2 - 1+k]! = swp d1 (a+q * 2 - 1+k) (a+o) from rfl] at sb
  have za:a+q * 2 - 1+k+1≤d1.size:=by omega
  have zb:a+o+1≤d1.size:=by omega
  have hsp:=swp_permIn d1 a b (a+q * 2 - 1+k) (a+o) (by omega) (by omega) (by omega) (by omega) (by omega)
  obtain ⟨zz,hzz⟩:=kw
  have hl'':¬ 2 * N+1=l:=fun e=>hl' e.symm
  generalize a+q * 2 - 1+k=xx at *
  simp [k10,k9,k0,k1,w12,ix,iy,lx,ly,sa,sb,za,zb,objCells,hro,kr,kat.1,w11]
  exact ⟨3 - (k+1),by omega,by rw [hI];exact ⟨k+1,rfl,by omega,by simp [hX1],⟨zz,by simp [hl'',hzz]⟩,swp d1 xx (a+o),permIn_trans _ _ _ a b hperm hsp,kat.swap (by simp) (fun key hk=>by simp [hk]) (by simp [app_tk0]) (by simp;omega)⟩⟩
 clear hQ
 have hat1:∀ ub2,ub1≤ub2→At l u (arr intC d1) ob tk ub ob1 tk1 ub2:=fun ub2 hu=>⟨(q2 l hl').trans (by simpa using hat.1),fun key h1 h2=>(q2 key (h2 N hNu)).trans (by simpa using hat.2.1 key h1 h2),q3.trans (by simpa using hat.2.2.1),by have:=hat.2.2.2;omega⟩
 by_cases hyb:L≤(y:Int)
 ·have w13:IntKind.i64.wrap ((y:Int) - L)=((y - (b - a):Nat):Int):=by rw [wrapN (by omega) (by omega)];omega
  simp [hyb,f6,w13]
  exact fin _ (y - (b - a)) (by omega) (by simp) (by simp [h9]) (by simp [f0]) (by simp [f1]) (by simp [fd]) (by simp [fr]) ⟨z',by simpa using hz'⟩ (hat1 _ (by simp;omega))
 ·simp [hyb]
  exact fin _ y (by omega) (by simp) (by simp [h9]) (by simp [f0]) (by simp [f1]) (by simp [fd]) (by simp [fr]) ⟨z',by simpa using hz'⟩ (hat1 _ (by simp;omega))
end Go.Pv.T

/- Partial insertion sort of few. -/
namespace Go.Pv.T
open Go Go.Pv Go.Sort
theorem partialIns_few {d:Array Int} {a b:Nat} (h:b - a<50):partialInsertionSort ltInt d a b=(d,decide (scanSorted ltInt d b (a+1)=b)):=by
 unfold partialInsertionSort
 rw [partialIns]
 simp only
 by_cases hb:scanSorted ltInt d b (a+1)=b
 ·rw [if_pos hb,decide_eq_true hb]
 ·rw [if_neg hb,if_pos h,decide_eq_false hb]
theorem sv162 {Yf:YF} {l u a b:Nat} {d:Array Int} (hd:d.size≤49) (hb:b≤d.size) (hab:a<b) {ob:Nat→Option Obj'} {tk:Nat→Bool} {ro base ub:Nat} (ho:ob l=some ⟨u,.cells (arr intC d)⟩) :
 ∃ r,EvS E Yf.y 162 [.osl l u 0 d.size 1,.int .i64 a,.int .i64 b] ob tk ro base ub r∧r.1 = .bool (decide (scanSorted ltInt d b (a+1)=b))∧At l u (arr intC d) ob tk ub r.2.1 r.2.2.1 r.2.2.2:=by
 refine EvS_wp (af:=S162) rfl (by decide) ?_
 show wpC E Yf S162.body _ (kEndS S162.res _)
 have w1:IntKind.i64.wrap ((a:Int)+1)=((a+1:Nat):Int):=by rw [wrapN (by omega) (by omega)];omega
 have w2:IntKind.i64.wrap ((b:Int) - a)=(b:Int) - a:=wrapN (by omega) (by omega)
 have c2:(b:Int) - a<50:=by omega
 generalize hA1:((a+1:Nat):Int)=A1 at w1
 simp [S162,w1]
 refine wp_unroll 1 ?_
 simp
 refine wpC_gen fun st hst=>?_
 have g0:st.tm 0 = .osl l u 0 d.size 1:=by rw [hst];simp
 have g1:st.tm 1 = .int .i64 a:=by rw [hst];simp
 have g2:st.tm 2 = .int .i64 b:=by rw [hst];simp
 have g7:st.tm 7 = .int .i64 (a+1:Nat):=by rw [hst,hA1];simp
 have gd:st.df=[]:=by rw [hst];simp
 have gat:At l u (arr intC d) ob tk ub st.ob st.tk st.nx:=by rw [hst];exact (At.refl ho).same rfl rfl (by simp;omega)
 clear hst hA1 w1
 obtain ⟨I,hI⟩:∃ I:Nat→St→Prop,I=fun n s=>∃ i:Nat,n=b - i∧a+1≤i∧i≤b∧s.tm 7 = .int .i64 i∧scanSorted ltInt d b i=scanSorted ltInt d b (a+1)∧At l u (arr intC d) ob tk ub s.ob s.tk s.nx:=⟨_,rfl⟩
 refine wp_loopF (n:=b - (a+1)) [(7,7),(17,34)] I rfl rfl (by rw [hI];exact ⟨a+1,rfl,Nat.le_refl _,by omega,g7,rfl,gat⟩) ?_
 intro n s hIs f
 rw [hI] at hIs
 obtain ⟨i,rfl,hi,hib,h7,hsc,hat⟩:=hIs
 have f0:s.tm 0 = .osl l u 0 d.size 1:=by rw [f.t 0 (by simp)];exact g0
 have f1:s.tm 1 = .int .i64 a:=by rw [f.t 1 (by simp)];exact g1
 have f2:s.tm 2 = .int .i64 b:=by rw [f.t 2 (by simp)];exact g2
 have fd:s.df=[]:=by rw [f.d];exact gd
 clear f
 obtain ⟨X,hX⟩:∃ x:Int,x=(i:Nat):=⟨_,rfl⟩
 obtain ⟨B,hB⟩:∃ x:Int,x=(b:Nat):=⟨_,rfl⟩
 rw [← hX] at h7
 rw [← hB] at f2 w2 c2
 by_cases hlt:i<b
 ·have c1:X<B:=by omega
  have w3:IntKind.i64.wrap (X - 1)=X - 1:=wrapN (by omega) (by omega)
  have w4:IntKind.i64.wrap (X+1)=((i+1:Nat):Int):=by rw [wrapN (by omega) (by omega)];omega
  have ix:=idxN (l:=l) (u:=u) (n:=d.size) (kk:=.i64) (X:=X) (x:=i) (by omega) (by omega)
  have iy:=idxN (l:=l) (u:=u) (n:=d.size) (kk:=.i64) (X:=X - 1) (x:=i - 1) (by omega) (by omega)
  have lx:=ldN hat.1 (x:=i) (by omega)
  have ly:=ldN hat.1 (x:=i - 1) (by omega)
  generalize hX1:((i+1:Nat):Int)=X1 at w4
  simp [h7,f2,c1,f0,ix,iy,lx,ly,w3]
  refine kS_ev (ev163 d[i]! d[i - 1]!) (by simp) rfl (by simp) ?_
  simp
  cases hl:ltInt d[i]! d[i - 1]!
  ·simp [h7,w4]
   refine ⟨b - (i+1),by omega,?_⟩
   rw [hI]
   refine ⟨i+1,rfl,by omega,by omega,by simp [hX1],?_,hat.same rfl rfl (by simp;omega)⟩
   rw [← hsc]
   conv=>rhs;rw [scanSorted]
   simp [hlt,hl]
  ·have e3:scanSorted ltInt d b i=i:=by rw [scanSorted];simp [hl]
   rw [e3] at hsc
   have hne:¬ scanSorted ltInt d b (a+1)=b:=by omega
   have c3:¬ (X=B):=by omega
   have c3':(X == B)=false:=by simpa using c3
   simp [h7,f2,c3',w2,c2,f1]
   exact endS_1 (by simp [fd]) ⟨by simp [hne],hat.same rfl rfl (by simp;omega)⟩
 ·have c1:¬ X<B:=by omega
  have e3:scanSorted ltInt d b i=i:=by rw [scanSorted];simp [hlt]
  rw [e3] at hsc
  have hne:scanSorted ltInt d b (a+1)=b:=by omega
  have c3:X=B:=by omega
  rw [c3] at h7 c1
  simp [h7,f2,c1]
  exact endS_1 (by simp [fd]) ⟨by simp [hne],hat.same rfl rfl (by simp;omega)⟩
end Go.Pv.T

/- Sorting of few: the recursion. -/
namespace Go.Pv.T
open Go Go.Pv Go.Sort
structure PQ (l u ro a b:Nat) (d:Array Int) (ob:Nat→Option Obj') (tk:Nat→Bool) (ub a1 b1:Nat) (d1:Array Int) (s:St):Prop where
 t0:s.tm 0 = .osl l u 0 d.size 1
 t1:s.tm 1 = .int .i64 a1
 t2:s.tm 2 = .int .i64 b1
 t10:s.tm 10 = .int .i64 ((b1:Int) - a1)
 df:s.df=[]
 ro:s.ro=ro
 mem:At l u (arr intC d1) ob tk ub s.ob s.tk s.nx
 sz:d1.size=d.size
 bl:Below ltInt a1 b1 d1
 go:∀ R,PermIn a1 b1 d1 R→SortedIn ltInt a1 b1 R→PermIn a b d R∧SortedIn ltInt a b R
def Sorted (l u a b:Nat) (d:Array Int) (ob:Nat→Option Obj') (tk:Nat→Bool) (ub:Nat) (r:V × (Nat→Option Obj') × (Nat→Bool) × Nat):Prop:=∃ d',PermIn a b d d'∧SortedIn ltInt a b d'∧At l u (arr intC d') ob tk ub r.2.1 r.2.2.1 r.2.2.2
theorem PQ.turn {l u ro a b:Nat} {d:Array Int} {ob:Nat→Option Obj'} {tk:Nat→Bool} {ub a1 b1:Nat} {d2 d3:Array Int} {s s':St} (hp:PQ l u ro a b d ob tk ub a1 b1 d2 s) (hb1:b1≤d.size) (h0:s'.tm 0=s.tm 0) (h1:s'.tm 1=s.tm 1) (h2:s'.tm 2=s.tm 2) (h10:s'.tm 10=s.tm 10) (hd:s'.df=s.df) (hr:s'.ro=s.ro)
 (hm:At l u (arr intC d3) ob tk ub s'.ob s'.tk s'.nx) (hpm:PermIn a1 b1 d2 d3):PQ l u ro a b d ob tk ub a1 b1 d3 s' :=
 ⟨h0.trans hp.t0,h1.trans hp.t1,h2.trans hp.t2,h10.trans hp.t10,hd.trans hp.df,hr.trans hp.ro,hm,hpm.1.trans hp.sz,hp.bl.perm (by rw [hp.sz];exact hb1) hpm,fun R hR hs=>hp.go R (permIn_trans _ _ _ a1 b1 hpm hR) hs⟩
theorem PQ.mid {l u ro a b:Nat} {d:Array Int} {ob:Nat→Option Obj'} {tk:Nat→Bool} {ub a1 b1:Nat} {d2:Array Int} {s:St} (hp:PQ l u ro a b d ob tk ub a1 b1 d2 s) {cs:List V} {ob1:Nat→Option Obj'} {tk1:Nat→Bool} {ub0 ub1 ub2:Nat} (hat:At l u cs s.ob s.tk ub0 ob1 tk1 ub1) (h0:s.nx≤ub0) (h2:ub1≤ub2):At l u cs ob tk ub ob1 tk1 ub2:=(hp.mem.trans hat h0).same rfl rfl h2
theorem sv117 (N:Nat):∀ (Yf:YF) (l u a b lim:Nat) (d:Array Int),b - a<N→d.size≤49→b≤d.size→a≤b→lim≤1000→Below ltInt a b d→∀ (ob:Nat→Option Obj') (tk:Nat→Bool) (ro base ub:Nat),ob l=some ⟨u,.cells (arr intC d)⟩→ro≤u→(∀ m,ub≤m→l≠2 * m+1)→ro≤ub →
 ∃ r,EvS E Yf.y 117 [.osl l u 0 d.size 1,.int .i64 a,.int .i64 b,.int .i64 lim] ob tk ro base ub r∧Sorted l u a b d ob tk ub r:=by
 induction N with
 | zero=>intro _ _ _ _ _ _ _ h;omega
 | succ N ih =>
  intro Yf l u a b lim d hN hd hb hab hlim hbl ob tk ro base ub ho hro hl hru
  refine EvS_wp (af:=S117) rfl (by decide) ?_
  show wpC E Yf S117.body _ (kEndS S117.res _)
  simp [S117]
  obtain ⟨I,hI⟩:∃ I:Nat→St→Prop,I=fun n s=>∃ a1 b1 lim1:Nat,∃ wb wp:Bool,n=b1 - a1∧a1≤b1∧b1≤d.size∧b1 - a1≤b - a∧lim1≤1000∧s.tm 3 = .int .i64 lim1∧s.tm 8 = .bool wb∧s.tm 9 = .bool wp∧∃ d1:Array Int,PQ l u ro a b d ob tk ub a1 b1 d1 (s.setT (some 10) (.int .i64 ((b1:Int) - a1))):=⟨_,rfl⟩
  refine wp_loopF (n:=b - a) [(1,3),(8,133)] I rfl rfl (by
   rw [hI]
   exact ⟨a,b,lim,true,true,rfl,hab,hb,Nat.le_refl _,hlim,by simp,by simp,by simp,d,⟨by simp,by simp,by simp,by simp,by simp,by simp,(At.refl ho).same rfl rfl (by simp;omega),rfl,hbl,fun R h1 h2=>⟨h1,h2⟩⟩⟩) ?_
  intro n s hIs f
  rw [hI] at hIs
  obtain ⟨a1,b1,lim1,wb,wp,rfl,hab1,hb1,hlen,hlim1,h3,h8,h9,d1,hp⟩:=hIs
  clear f
  have f0:s.tm 0 = .osl l u 0 d.size 1:=by simpa using hp.t0
  have f1:s.tm 1 = .int .i64 a1:=by simpa using hp.t1
  have f2:s.tm 2 = .int .i64 b1:=by simpa using hp.t2
  have fd:s.df=[]:=by simpa using hp.df
  have fr:s.ro=ro:=by simpa using hp.ro
  have hm:At l u (arr intC d1) ob tk ub s.ob s.tk s.nx:=by simpa using hp.mem
  have z1:=hp.sz
  have w1:IntKind.i64.wrap ((b1:Int) - a1)=(b1:Int) - a1:=wrapN (by omega) (by omega)
  have hnx:=hm.2.2.2
  by_cases h12:b1 - a1≤12
  ·have c1:(b1:Int) - a1≤12:=by omega
   simp [f1,f2,w1,c1,f0]
   refine kS_callP (vs:=[.osl l u 0 d1.size 1,.int .i64 a1,.int .i64 b1]) (by simp [z1]) rfl (sv157 (l:=l) (u:=u) (d:=d1) (by omega) (by omega) hab1 (by simpa using hm.1) (by simp [fr,hro])) ?_
   rintro v ob1 tk1 ub1 hat
   have hins:=insertionSort_holds (lt:=ltInt) swo_ltInt d1 a1 b1 hab1 (by omega)
   obtain ⟨q1,q2⟩:=hp.go _ hins.1 hins.2
   simp
   exact endS_nil (Or.inr rfl) (by simp [fd]) ⟨_,q1,q2,(hm.trans hat (by omega)).same rfl rfl (by simp)⟩
  have c1:¬ (b1:Int) - a1≤12:=by omega
  by_cases hl0:lim1=0
  ·subst hl0
   simp [f1,f2,w1,c1,f0,h3]
   refine kS_callP (vs:=[.osl l u 0 d1.size 1,.int .i64 a1,.int .i64 b1]) (by simp [z1]) rfl (sv158 (l:=l) (u:=u) (d:=d1) (by omega) (by omega) hab1 (by simpa using hm.1) (by simp [fr,hro])) ?_
   rintro v ob1 tk1 ub1 hat
   have hins:=heapSort_holds (lt:=ltInt) swo_ltInt d1 a1 b1 hab1 (by omega)
   obtain ⟨q1,q2⟩:=hp.go _ hins.1 hins.2
   simp
   exact endS_nil (Or.inr rfl) (by simp [fd]) ⟨_,q1,q2,(hm.trans hat (by omega)).same rfl rfl (by simp)⟩
  have c2:((lim1:Int) == 0)=false:=by simp;omega
  simp [f1,f2,w1,c1,h3,c2,h8]
  have hp':PQ l u ro a b d ob tk ub a1 b1 d1 (s.setT (some 10) (.int .i64 ((b1:Int) - a1))):=hp
  have hp0:=hp'
  generalize hK:kSeq E Yf _ _=K
  have restB:∀ (s:St) (d2:Array Int) (lim2:Nat),lim2≤1000→PQ l u ro a b d ob tk ub a1 b1 d2 s→s.tm 3 = .int .i64 lim2→s.tm 8 = .bool wb→s.tm 9 = .bool wp→K .nrm s:=by
   intro s d2 lim2 hlim2 hp h3 h8 h9
   rw [← hK]
   have z2:=hp.sz
   have hnx:=hp.mem.2.2.2
   simp [hp.t0,hp.t1,hp.t2]
   refine kS_callP (vs:=[.osl l u 0 d2.size 1,.int .i64 a1,.int .i64 b1]) (by simp [z2]) rfl (sv160 (l:=l) (u:=u) (d:=d2) (by omega) (by omega) (by omega) (by simpa using hp.mem.1) (fun m hm=>hl m (by first | omega | (simp at hm;omega))) (by simp [hp.ro];omega)) ?_
   rintro v ob1 tk1 ub1 ⟨⟨pv,hnt,hv,hpa,hpb,hh⟩,hat⟩
   simp only at hv
   subst hv
   simp only at hat
   have hat':=fun ub2 (h:ub1≤ub2)=>hp.mid (ub2:=ub2) hat (by first | omega | (simp;done) | (simp;omega)) h
   simp
   generalize hK2:kSeq E Yf _ _=K2
   have restC:∀ (s:St) (d3:Array Int) (pv hnt:Nat),a1≤pv→pv<b1→hnt≤2→PQ l u ro a b d ob tk ub a1 b1 d3 s→s.tm 3 = .int .i64 lim2→s.tm 8 = .bool wb→s.tm 9 = .bool wp→s.tm 11 = .int .i64 pv→s.tm 12 = .int .i64 hnt→K2 .nrm s:=by
    intro s d3 pv hnt hpa hpb hh hp h3 h8 h9 h11 h12
    rw [← hK2,kSeq_nrm,kC_seq]
    clear hK2
    generalize hK3:kSeq E Yf _ _=K3
    have z3:=hp.sz
    have restD:∀ s:St,PQ l u ro a b d ob tk ub a1 b1 d3 s→s.tm 3 = .int .i64 lim2→s.tm 8 = .bool wb→s.tm 9 = .bool wp→s.tm 11 = .int .i64 pv→K3 .nrm s:=by
     intro s hp h3 h8 h9 h11
     rw [← hK3,kSeq_nrm,kC_seq]
     generalize hK4:kSeq E Yf _ _=K4
     have restE:∀ s:St,PQ l u ro a b d ob tk ub a1 b1 d3 s→s.tm 3 = .int .i64 lim2→s.tm 11 = .int .i64 pv→K4 .nrm s:=by
      intro s hp h3 h11
      rw [← hK4,kSeq_nrm]
      have hnx:=hp.mem.2.2.2
      simp [hp.t0,hp.t1,hp.t2,h11]
      refine kS_callP (vs:=[.osl l u 0 d3.size 1,.int .i64 a1,.int .i64 b1,.int .i64 pv]) (by simp [z3]) rfl (sv165 (l:=l) (u:=u) (d:=d3) (by omega) (by omega) hpa hpb (by simpa using hp.mem.1) (by simp [hp.ro,hro])) ?_
      rintro v ob5 tk5 ub5 ⟨hv,hat⟩
      simp only at hv hat
      subst hv
      obtain ⟨⟨mid,ap,d4⟩,hx⟩:∃ P,partition ltInt d3 a1 b1 pv=P:=⟨_,rfl⟩
      obtain ⟨g1,g2,hs4,hBa,hBr,hleft,hright⟩:=round_part swo_ltInt (partition_holds ltInt) hpa hpb (by omega) hp.bl hx
      rw [hx] at hat ⊢
      have hat5:=fun ub2 (h:ub5≤ub2)=>hp.mid (ub2:=ub2) hat (by first | omega | (simp;done) | (simp;omega)) h
      have hn5:=(hat5 ub5 (Nat.le_refl _)).2.2.2
      have w5:IntKind.i64.wrap ((mid:Int) - a1)=(mid:Int) - a1:=wrapN (by omega) (by omega)
      have w6:IntKind.i64.wrap ((b1:Int) - mid)=(b1:Int) - mid:=wrapN (by omega) (by omega)
      have w7:IntKind.i64.wrap ((mid:Int)+1)=((mid+1:Nat):Int):=by rw [wrapN (by omega) (by omega)];omega
      generalize hM1:((mid+1:Nat):Int)=M1 at w7
      have t10:=hp.t10
      simp [hp.t1,hp.t2,t10,w5,w6]
      generalize IntKind.i64.wrap (((b1:Int) - a1).tdiv 8)=T
      by_cases hlr:mid - a1<b1 - mid
      ·have c5:(mid:Int) - a1<b1 - mid:=by omega
       simp [c5,hp.t0,hp.t1,h3]
       refine kS_callP (vs:=[.osl l u 0 d4.size 1,.int .i64 a1,.int .i64 mid,.int .i64 lim2]) (by simp [hs4,z3]) rfl (ih Yf l u a1 mid lim2 d4 (by omega) (by omega) (by omega) g1 hlim2 hBa _ _ _ _ _ (by simpa using hat.1) (by simp [hp.ro,hro]) (fun m hm=>hl m (by first | omega | (simp at hm;omega))) (by first | (simp [hp.ro];omega) | simp [hp.ro])) ?_
       rintro v ob6 tk6 ub6 ⟨L,hL1,hL2,hat6⟩
       simp only at hat6
       obtain ⟨hBL,hfin⟩:=hleft L hL1 hL2
       simp [w7]
       exact ⟨b1 - (mid+1),by omega,by
        rw [hI]
        exact ⟨mid+1,b1,lim2,decide (T≤(mid:Int) - a1),ap,rfl,by omega,hb1,by omega,hlim2,by simp [h3],by simp,by simp,L,⟨by simp [hp.t0],by simp [hM1],by simp [hp.t2],by simp,by simp [hp.df],by simp [hp.ro],
         ((hat5 ub5 (Nat.le_refl _)).trans hat6 (by first | omega | (simp;done) | (simp;omega))).same rfl rfl (by first | omega | (simp;done) | (simp;omega)),by rw [hL1.1,hs4,z3],hBL,fun R hR hs=>by
           obtain ⟨p1,p2⟩:=hfin R hR hs
           exact hp.go R p1 p2⟩⟩⟩
      ·have c5:¬ (mid:Int) - a1<b1 - mid:=by omega
       simp [c5,hp.t0,hp.t2,h3,w7]
       refine kS_callP (vs:=[.osl l u 0 d4.size 1,.int .i64 (mid+1:Nat),.int .i64 b1,.int .i64 lim2]) (by simp [hs4,z3,hM1]) rfl (ih Yf l u (mid+1) b1 lim2 d4 (by omega) (by omega) (by omega) (by omega) hlim2 hBr _ _ _ _ _ (by simpa using hat.1) (by simp [hp.ro,hro]) (fun m hm=>hl m (by first | omega | (simp at hm;omega))) (by first | (simp [hp.ro];omega) | simp [hp.ro])) ?_
       rintro v ob6 tk6 ub6 ⟨L,hL1,hL2,hat6⟩
       simp only at hat6
       obtain ⟨hBL,hfin⟩:=hright L hL1 hL2
       simp
       exact ⟨mid - a1,by omega,by
        rw [hI]
        exact ⟨a1,mid,lim2,decide (T≤(b1:Int) - mid),ap,rfl,by omega,by omega,by omega,hlim2,by simp [h3],by simp,by simp,L,⟨by simp [hp.t0],by simp [hp.t1],by simp,by simp,by simp [hp.df],by simp [hp.ro],
         ((hat5 ub5 (Nat.le_refl _)).trans hat6 (by first | omega | (simp;done) | (simp;omega))).same rfl rfl (by first | omega | (simp;done) | (simp;omega)),by rw [hL1.1,hs4,z3],hBL,fun R hR hs=>by
           obtain ⟨p1,p2⟩:=hfin R hR hs
           exact hp.go R p1 p2⟩⟩⟩
     have hex:∀ s':St,(∃ j,j<b1 - a1∧I j s')→K4 (.exit 1) s':=fun s' h=>by
      rw [← hK4,kSeq_exit,kBlk_exit,if_pos rfl,kLoop_nrm]
      exact h
     clear hK4
     have hnx:=hp.mem.2.2.2
     by_cases ha0:a1=0
     ·have c3:¬ 0<a1:=by omega
      simp [hp.t1,c3]
      exact restE _ (hp.turn hb1 (by simp) (by simp) (by simp) (by simp) (by simp) (by simp) (hp.mem.same rfl rfl (by first | omega | (simp;done) | (simp;omega))) (permIn_refl d3 a1 b1)) (by simp [h3]) (by simp [h11])
     have c3:0<a1:=by omega
     have w5:IntKind.i64.wrap ((a1:Int) - 1)=((a1 - 1:Nat):Int):=by rw [wrapN (by omega) (by omega)];omega
     have ix:=idxN (l:=l) (u:=u) (n:=d.size) (kk:=.i64) (X:=((a1 - 1:Nat):Int)) (x:=a1 - 1) rfl (by omega)
     have iy:=idxN (l:=l) (u:=u) (n:=d.size) (kk:=.i64) (X:=(pv:Int)) (x:=pv) rfl (by omega)
     have lx:=ldN hp.mem.1 (x:=a1 - 1) (by omega)
     have ly:=ldN hp.mem.1 (x:=pv) (by omega)
     generalize ((a1 - 1:Nat):Int)=A1 at w5 ix
     simp [hp.t0,hp.t1,c3,h11,w5,ix,iy,lx,ly]
     refine kS_ev (ev163 d3[a1 - 1]! d3[pv]!) (by simp) rfl (by simp) ?_
     simp
     cases hlt:ltInt d3[a1 - 1]! d3[pv]!
     ·simp [hp.t0,hp.t1,hp.t2,h11]
      refine kS_callP (vs:=[.osl l u 0 d3.size 1,.int .i64 a1,.int .i64 b1,.int .i64 pv]) (by simp [z3]) rfl (sv164 (l:=l) (u:=u) (d:=d3) (by omega) (by omega) hpa hpb (by simpa using hp.mem.1) (by simp [hp.ro,hro])) ?_
      rintro v ob5 tk5 ub5 ⟨hv,hat⟩
      simp only at hv hat
      subst hv
      obtain ⟨⟨mid,d4⟩,hx⟩:∃ P,partitionEqual ltInt d3 a1 b1 pv=P:=⟨_,rfl⟩
      obtain ⟨g1,g2,hs4,hB4,hfin⟩:=round_eq swo_ltInt (partitionEqual_holds ltInt) c3 hpa hpb (by omega) hp.bl hlt hx
      rw [hx] at hat ⊢
      simp
      exact hex _ ⟨b1 - mid,by omega,by
       rw [hI]
       exact ⟨mid,b1,lim2,wb,wp,rfl,g2,hb1,by omega,hlim2,by simp [h3],by simp [h8],by simp [h9],d4,⟨by simp [hp.t0],by simp,by simp [hp.t2],by simp,by simp [hp.df],by simp [hp.ro],
        hp.mid hat (by first | omega | (simp;done) | (simp;omega)) (by first | omega | (simp;done) | (simp;omega)),by rw [hs4,z3],hB4,fun R hR hs=>by
         obtain ⟨p1,p2⟩:=hfin R hR hs
         exact hp.go R p1 p2⟩⟩⟩
     ·simp
      exact restE _ (hp.turn hb1 (by simp) (by simp) (by simp) (by simp) (by simp) (by simp) (hp.mem.same rfl rfl (by first | omega | (simp;done) | (simp;omega))) (permIn_refl d3 a1 b1)) (by simp [h3]) (by simp [h11])
    have hret:∀ s':St,kEndS [] (Sorted l u a b d ob tk ub) .ret s'→K3 .ret s':=fun s' h=>by
     rw [← hK3,kSeq_ret,kBlk_ret,kLoop_ret,kBlk_ret]
     exact h
    clear hK3
    have hnx:=hp.mem.2.2.2
    have onD:∀ s2:St,s2.tm 0=s.tm 0→s2.tm 1=s.tm 1→s2.tm 2=s.tm 2→s2.tm 3=s.tm 3→s2.tm 8=s.tm 8→s2.tm 9=s.tm 9→s2.tm 10=s.tm 10→s2.tm 11=s.tm 11→s2.df=s.df→s2.ro=s.ro→At l u (arr intC d3) ob tk ub s2.ob s2.tk s2.nx→K3 .nrm s2:=fun s2 k0 k1 k2 k3 k8 k9 k10 k11 kd kr km =>
     restD s2 (hp.turn hb1 k0 k1 k2 k10 kd kr km (permIn_refl d3 a1 b1)) (k3.trans h3) (k8.trans h8) (k9.trans h9) (k11.trans h11)
    cases wb
    ·simp [h8]
     exact onD _ (by simp) (by simp) (by simp) (by simp) (by simp) (by simp) (by simp) (by simp) (by simp) (by simp) (hp.mem.same rfl rfl (by first | omega | (simp;done) | (simp;omega)))
    cases wp
    ·simp [h8,h9]
     exact onD _ (by simp) (by simp) (by simp) (by simp) (by simp) (by simp) (by simp) (by simp) (by simp) (by simp) (hp.mem.same rfl rfl (by first | omega | (simp;done) | (simp;omega)))
    by_cases hn1:hnt=1
    ·subst hn1
     simp [h8,h9,h12,hp.t0,hp.t1,hp.t2]
     refine kS_callP (vs:=[.osl l u 0 d3.size 1,.int .i64 a1,.int .i64 b1]) (by simp [z3]) rfl (sv162 (l:=l) (u:=u) (d:=d3) (by omega) (by omega) (by omega) (by simpa using hp.mem.1)) ?_
     rintro v ob5 tk5 ub5 ⟨hv,hat⟩
     simp only at hv hat
     subst hv
     have hat5:=fun ub2 (h:ub5≤ub2)=>hp.mid (ub2:=ub2) hat (by first | omega | (simp;done) | (simp;omega)) h
     have hps:=partialInsertionSort_holds (lt:=ltInt) swo_ltInt d3 a1 b1 (by omega) (by omega) hp.bl
     rw [partialIns_few (by omega)] at hps
     simp
     by_cases hsc:scanSorted ltInt d3 b1 (a1+1)=b1
     ·obtain ⟨q1,q2⟩:=hp.go d3 hps.1 (hps.2 (by simp [hsc]))
      simp [hsc]
      exact hret _ (endS_nil (Or.inr rfl) (by simp [hp.df]) ⟨d3,q1,q2,hat5 _ (by first | omega | (simp;done) | (simp;omega))⟩)
     ·simp [hsc]
      exact onD _ (by simp) (by simp) (by simp) (by simp) (by simp) (by simp) (by simp) (by simp) (by simp) (by simp) (hat5 _ (by first | omega | (simp;done) | (simp;omega)))
    ·have hn1':((hnt:Int) == 1)=false:=by simp;omega
     simp [h8,h9,h12,hn1']
     exact onD _ (by simp) (by simp) (by simp) (by simp) (by simp) (by simp) (by simp) (by simp) (by simp) (by simp) (hp.mem.same rfl rfl (by first | omega | (simp;done) | (simp;omega)))
   by_cases h2:hnt=2
   ·subst h2
    have w2:IntKind.i64.wrap ((b1:Int) - 1)=(b1:Int) - 1:=wrapN (by omega) (by omega)
    have w3:IntKind.i64.wrap ((pv:Int) - a1)=(pv:Int) - a1:=wrapN (by omega) (by omega)
    have w4:IntKind.i64.wrap ((b1:Int) - 1 - (pv - a1))=((b1 - 1 - (pv - a1):Nat):Int):=by rw [wrapN (by omega) (by omega)];omega
    simp [hp.t0,hp.t1,hp.t2]
    refine kS_callP (vs:=[.osl l u 0 d2.size 1,.int .i64 a1,.int .i64 b1]) (by simp [z2]) rfl (sv161 (l:=l) (u:=u) (d:=d2) (by omega) (by omega) (by omega) (by simpa using hat.1) (by simp [hp.ro,hro])) ?_
    rintro v ob2 tk2 ub2 hat2
    simp only at hat2
    generalize hPV:((b1 - 1 - (pv - a1):Nat):Int)=PV at w4
    simp [hp.t1,hp.t2,w2,w3,w4]
    exact restC _ (reverseRange d2 a1 b1) (b1 - 1 - (pv - a1)) 1 (by omega) (by omega) (by omega) (hp.turn hb1 (by simp) (by simp) (by simp) (by simp) (by simp) (by simp) (((hat' ub1 (Nat.le_refl _)).trans hat2 (by first | omega | (simp;done) | (simp;omega))).same rfl rfl (by first | omega | (simp;done) | (simp;omega))) (reverseRange_holds d2 a1 b1 hab1 (by omega))) (by simp [h3]) (by simp [h8]) (by simp [h9]) (by simp [hPV]) (by simp)
   ·have h2':((hnt:Int) == 2)=false:=by simp;omega
    simp [h2']
    exact restC _ d2 pv hnt hpa hpb hh (hp.turn hb1 (by simp) (by simp) (by simp) (by simp) (by simp) (by simp) (hat' _ (by first | omega | (simp;done) | (simp;omega))) (permIn_refl d2 a1 b1)) (by simp [h3]) (by simp [h8]) (by simp [h9]) (by simp) (by simp)
  clear hK
  cases wb
  ·have w2:IntKind.i64.wrap ((lim1:Int) - 1)=((lim1 - 1:Nat):Int):=by rw [wrapN (by omega) (by omega)];omega
   simp [f0,f1,f2]
   refine kS_callP (vs:=[.osl l u 0 d1.size 1,.int .i64 a1,.int .i64 b1]) (by simp [z1]) rfl (sv159 (l:=l) (u:=u) (d:=d1) (by omega) (by omega) (by omega) (by simpa using hm.1) (by simp [fr,hro]) (fun m hm=>hl m (by first | omega | (simp at hm;omega))) (by simp [fr];omega)) ?_
   rintro v ob1 tk1 ub1 ⟨d2,hpm,hat⟩
   simp only at hat
   generalize hL1:((lim1 - 1:Nat):Int)=L1 at w2
   simp [h3,w2]
   exact restB _ d2 (lim1 - 1) (by omega) (hp0.turn hb1 (by simp) (by simp) (by simp) (by simp) (by simp) (by simp) ((hm.trans hat (by first | omega | (simp;done) | (simp;omega))).same rfl rfl (by first | omega | (simp;done) | (simp;omega))) hpm) (by simp [hL1]) (by simp [h8]) (by simp [h9])
  ·simp
   exact restB _ d1 lim1 hlim1 (hp0.turn hb1 (by simp) (by simp) (by simp) (by simp) (by simp) (by simp) (hm.same rfl rfl (by first | omega | (simp;done) | (simp;omega))) (permIn_refl d1 a1 b1)) (by simp [h3]) (by simp [h8]) (by simp [h9])
end Go.Pv.T

/- slices.Sort of few ints. -/
namespace Go.Pv.T
open Go Go.Pv Go.Sort
theorem sv157n {Yf:YF} {ob:Nat→Option Obj'} {tk:Nat→Bool} {ro base ub:Nat}:∃ r,EvS E Yf.y 157 [.sl none true 0 [],.int .i64 0,.int .i64 0] ob tk ro base ub r∧r.2.1=ob∧r.2.2.1=tk∧ub≤r.2.2.2:=by
 refine EvS_wp (af:=S157) rfl (by decide) ?_
 show wpC E Yf S157.body _ (kEndS S157.res _)
 have w1:IntKind.i64.wrap 1=1:=by decide
 simp [S157,w1]
 refine wp_unroll 1 ?_
 simp
 exact endS_nil (Or.inl rfl) (by simp) ⟨by simp,by simp,by simp;omega⟩
theorem sv117n {Yf:YF} {k:Nat} {ob:Nat→Option Obj'} {tk:Nat→Bool} {ro base ub:Nat}:∃ r,EvS E Yf.y 117 [.sl none true 0 [],.int .i64 0,.int .i64 0,.int .i64 k] ob tk ro base ub r∧r.2.1=ob∧r.2.2.1=tk∧ub≤r.2.2.2:=by
 refine EvS_wp (af:=S117) rfl (by decide) ?_
 show wpC E Yf S117.body _ (kEndS S117.res _)
 have w0:IntKind.i64.wrap 0=0:=by decide
 simp [S117]
 refine wp_unroll 1 ?_
 simp [w0]
 refine kS_callP (vs:=[.sl none true 0 [],.int .i64 0,.int .i64 0]) (by simp) rfl sv157n ?_
 rintro v ob1 tk1 ub1 ⟨h1,h2,h3⟩
 simp only at h1 h2 h3
 simp
 exact endS_nil (Or.inr rfl) (by simp) ⟨by simp [h1],by simp [h2],by simp;first | omega | (simp at h3;omega)⟩
theorem sv76n {Yf:YF} {ob:Nat→Option Obj'} {tk:Nat→Bool} {ro base ub:Nat}:∃ r,EvS E Yf.y 76 [.sl none true 0 []] ob tk ro base ub r∧r.2.1=ob∧r.2.2.1=tk∧ub≤r.2.2.2:=by
 refine EvS_wp (af:=S76) rfl (by decide) ?_
 show wpC E Yf S76.body _ (kEndS S76.res _)
 obtain ⟨k,ek,hk⟩:=ev118 (n:=0) (by omega)
 have w0:IntKind.u64.wrap 0=0:=by decide
 simp [S76,w0]
 refine kS_ev ek (by simp) rfl (by simp) ?_
 simp
 refine kS_callP (vs:=[.sl none true 0 [],.int .i64 0,.int .i64 0,.int .i64 k]) (by simp) rfl sv117n ?_
 rintro v ob1 tk1 ub1 ⟨h1,h2,h3⟩
 simp only at h1 h2 h3
 simp
 exact endS_nil (Or.inl rfl) (by simp) ⟨by simp [h1],by simp [h2],by simp;first | omega | (simp at h3;omega)⟩
theorem permIn_of {L T:List Int} (hp:L.Perm T):PermIn 0 L.toArray.size L.toArray T.toArray:=by
 have hl:=hp.length_eq
 refine ⟨by simp [hl],fun i hi=>?_,?_⟩
 ·have hi':L.length≤i:=by rcases hi with h | h;omega;simpa using h
  rw [getElem!_neg _ _ (by simp;omega),getElem!_neg _ _ (by simp;omega)]
 ·simp
  rw [List.take_of_length_le (by omega)]
  exact hp.symm
theorem sortedIn_of {T:List Int} (hs:T.Pairwise (·≤·)):SortedIn ltInt 0 T.length T.toArray:=by
 intro i j _ hij hj
 rw [getElem!_pos _ _ (by simpa using hj),getElem!_pos _ _ (by simp;omega)]
 have:=List.pairwise_iff_getElem.1 hs i j (by omega) hj hij
 simp only [List.getElem_toArray,ltInt,decide_eq_false_iff_not]
 omega
theorem sorted_is {L T:List Int} {d':Array Int} (hp:L.Perm T) (hs:T.Pairwise (·≤·)) (h1:PermIn 0 L.toArray.size L.toArray d') (h2:SortedIn ltInt 0 L.toArray.size d'):d'=T.toArray:=by
 have hex:∀ x y:Int,ltInt x y=false→ltInt y x=false→x=y:=by
  intro x y a b
  simp only [ltInt,decide_eq_false_iff_not] at a b
  omega
 have e1:=sorted_unique_holds swo_ltInt hex L.toArray d' h1 h2
 have e2:=sorted_unique_holds swo_ltInt hex L.toArray T.toArray (permIn_of hp) (by
  have:=sortedIn_of hs
  rwa [← hp.length_eq] at this)
 rw [← e2] at e1
 exact Array.toList_inj.1 e1
theorem sv76 {Yf:YF} {l u:Nat} {L T:List Int} (hp:L.Perm T) (hs:T.Pairwise (·≤·)) (hL:L.length≤49) {ob:Nat→Option Obj'} {tk:Nat→Bool} {ro base ub:Nat} (ho:ob l=some ⟨u,.cells (L.flatMap intC)⟩) (hro:ro≤u) (hl:∀ m,ub≤m→l≠2 * m+1) (hru:ro≤ub) :
 ∃ r,EvS E Yf.y 76 [.osl l u 0 L.length 1] ob tk ro base ub r∧At l u (T.flatMap intC) ob tk ub r.2.1 r.2.2.1 r.2.2.2:=by
 refine EvS_wp (af:=S76) rfl (by decide) ?_
 show wpC E Yf S76.body _ (kEndS S76.res _)
 obtain ⟨k,ek,hk⟩:=ev118 (n:=L.length) (by omega)
 have w0:IntKind.u64.wrap (L.length:Int)=(L.length:Int):=by rw [IntKind.wrap_u64];omega
 simp [S76,w0]
 refine kS_ev ek (by simp) rfl (by simp) ?_
 simp
 have z:L.toArray.size=L.length:=by simp
 refine kS_callP (vs:=[.osl l u 0 L.toArray.size 1,.int .i64 (0:Nat),.int .i64 (L.length:Nat),.int .i64 k]) (by simp) rfl (sv117 (L.length+1) Yf l u 0 L.length k L.toArray (by omega) (by omega) (by omega) (by omega) (by omega) (Or.inl rfl) _ _ _ _ _ (by simpa [arr] using ho) (by simp [hro]) (fun m hm=>hl m (by first | omega | (simp at hm;omega))) (by first | (simp;omega) | simp)) ?_
 rintro v ob1 tk1 ub1 ⟨d',h1,h2,hat⟩
 simp only at hat
 have e:=sorted_is hp hs (d':=d') (by rw [z];exact h1) (by rw [z];exact h2)
 subst e
 simp
 have hat':At l u (T.flatMap intC) ob tk ub ob1 tk1 ub1:=by
  have:arr intC T.toArray=T.flatMap intC:=by simp [arr]
  rw [this] at hat
  exact ⟨hat.1,fun key a b=>(hat.2.1 key a (fun m hm=>b m (by first | omega | (simp at hm;omega)))).trans (by simp),hat.2.2.1.trans (by simp),by have:=hat.2.2.2;first | omega | (simp at this;omega)⟩
 exact endS_nil (Or.inl rfl) (by simp) (hat'.same rfl rfl (by first | omega | simp))
end Go.Pv.T

/- Which value is ahead: the given comparison. -/
namespace Go.Pv.T
open Go Go.Pv Go.Sort
@[simp] theorem cellV_lf (v:Val'):(cellV v).leaf=true:=by unfold cellV;split;rfl;split <;> rfl
theorem ev214 (v:Val'):Ev E 214 [.agg [cellV v]] (.tup [.int .i64 (backV v).kind,.bool true]):=by
 have e:=ev168 v
 refine Ev_wpK (af:=F214) rfl ?_
 simp [F214,objCells]
 refine kS_call (vs:=[.agg [cellV v]]) (by simp) rfl (by simp [cellV_leaf,cellV_strip1]) (by simpa [cellV_strip1] using e) ?_
 generalize backV v=b
 rw [retA_tupl (by simp [V.plain,valC])]
 simp [valC,objCells,splice]
 exact endV_2 rfl (by simp) (by simp) rfl rfl
theorem ev215 {v:Val'} (h:v.kind=1):Ev E 215 [.agg [cellV v]] (.int .i64 v.n):=by
 refine Ev_wpK (af:=F215) rfl ?_
 have hc:cellV v = .iface 2 (.int .i64 v.n):=by unfold cellV;rw [if_pos h]
 rw [hc]
 simp [F215,objCells,assertV]
 exact endV_1 rfl (by simp) rfl
def lessV (a b:Val'):Bool:=if a.kind=b.kind then (a.kind == 1 && decide (a.n<b.n)) else decide (a.kind<b.kind)
theorem back_kind {v:Val'} (h:valB v=true):(backV v).kind=v.kind:=by
 rw [valB_back,Bool.and_eq_true,beq_iff_eq] at h
 exact h.1
set_option maxRecDepth 100000 in
theorem ev171 {a b:Val'} (ha:valB a=true) (hb:valB b=true):Ev E 171 [.agg [cellV a],.agg [cellV b]] (.bool (lessV a b)):=by
 have e1:=ev214 a
 have e2:=ev214 b
 rw [back_kind ha] at e1
 rw [back_kind hb] at e2
 refine Ev_wpK (af:=F171) rfl ?_
 unfold lessV
 simp [F171,objCells]
 refine kS_call (vs:=[.agg [cellV a]]) (by simp) rfl (by simp [cellV_leaf,cellV_strip1]) (by simpa [cellV_strip1] using e1) ?_
 rw [retA_tupl rfl]
 simp [objCells]
 refine kS_call (vs:=[.agg [cellV b]]) (by simp) rfl (by simp [cellV_leaf,cellV_strip1]) (by simpa [cellV_strip1] using e2) ?_
 rw [retA_tupl rfl]
 simp
 by_cases hk:a.kind=b.kind
 ·have hk':(a.kind != b.kind)=false:=by simp [hk]
  by_cases h1:a.kind=1
  ·have h1b:b.kind=1:=hk ▸ h1
   have e3:=ev215 h1
   have e4:=ev215 h1b
   simp [h1,h1b,objCells]
   refine kD_ev e3 (by simp [cellV_strip1]) rfl (by simp [cellV_leaf]) ?_
   simp [objCells]
   refine kD_ev e4 (by simp [cellV_strip1]) rfl (by simp [cellV_leaf]) ?_
   simp
   exact endV_1 rfl (by simp) rfl
  ·have h1':(a.kind == 1)=false:=by simpa using h1
   simp [hk',h1',hk]
   rw [hk] at h1'
   simp [h1']
   exact endV_1 rfl (by simp) rfl
 ·have hk':(a.kind != b.kind)=true:=by simpa using hk
  simp [hk',hk]
  exact endV_1 rfl (by simp) rfl
set_option maxRecDepth 100000 in
theorem ev122 (a b:Val'):Ev E 122 [.agg (valC a),.agg (valC b)] (.bool (valB a && valB b && lessV a b)):=by
 have e1:=ev119 a
 have e2:=ev119 b
 have e3:=ev169 a
 have e4:=ev169 b
 refine Ev_wpK (af:=F122) rfl ?_
 simp [F122,valC,objCells]
 refine kD_ev e1 (by simp [valC]) rfl (by simp [valC]) ?_
 cases ha:valB a
 ·simp
  exact endV_1 rfl (by simp) rfl
 simp [objCells]
 refine kD_ev e2 (by simp [valC]) rfl (by simp [valC]) ?_
 cases hb:valB b
 ·simp
  exact endV_1 rfl (by simp) rfl
 simp [objCells]
 have e5:=ev171 ha hb
 refine kD_ev e3 (by simp [valC]) rfl (by simp [valC]) ?_
 simp [retA_plain (v:=.agg [cellV a]) (by simp [V.plain,cellV_leaf]),objCells]
 refine kD_ev e4 (by simp [valC]) rfl (by simp [valC]) ?_
 simp [retA_plain (v:=.agg [cellV b]) (by simp [V.plain,cellV_leaf]),objCells]
 refine kD_ev e5 (by simp [cellV_strip1]) rfl (by simp [cellV_leaf]) ?_
 simp
 exact endV_1 rfl (by simp) rfl
def cmpV (a b:Val'):Int:=if valB a && valB b && lessV a b then -1 else if valB b && valB a && lessV b a then 1 else 0
set_option maxRecDepth 100000 in
theorem ev121 (a b:Val'):Ev E 121 [.agg (valC a),.agg (valC b)] (.int .i64 (cmpV a b)):=by
 have e1:=ev122 a b
 have e2:=ev122 b a
 refine Ev_wpK (af:=F121) rfl ?_
 unfold cmpV
 simp only [F121]
 generalize (valB a && valB b && lessV a b)=p at *
 generalize (valB b && valB a && lessV b a)=q at *
 simp [valC,objCells]
 refine kS_ev e1 (by simp [valC]) rfl (by simp [valC]) ?_
 cases p
 ·simp [objCells]
  refine kS_ev e2 (by simp [valC]) rfl (by simp [valC]) ?_
  cases q
  ·simp
   exact endV_1 rfl (by simp) rfl
  ·simp
   exact endV_1 rfl (by simp) rfl
 ·simp
  exact endV_1 rfl (by simp) rfl
end Go.Pv.T

/- Which keys are kept. -/
namespace Go.Pv.T
open Go Go.Pv
section
variable {E:Env} {Yf:YF} {st:St} {ub:Nat} {K:St→Nat→Prop} {d:Option Nat} {nm:Bool}
theorem kS_buildSlO {sz n:Nat} {zero:List V} {parts:List (Nat × Nat × A)} {cs:List V} (hf:fill zero (evalParts (eval E st.tm) parts)=some cs) (hl:cs.length=n * sz) (hp:cs.all V.leaf=true)
 (h:kApp K st d ub { v:=.osl (objName d nm st.fb ub) ub 0 n sz,obs:=[(objName d nm st.fb ub,⟨ub,.cells cs⟩)] }):wpStep E Yf ⟨d,.buildSl true sz zero parts n,none,nm⟩ st ub K:=by
 rw [wpStep_of _ rfl rfl]
 simp only [aop,hf,Option.bind_some,if_true,name_eq]
 rw [if_pos ⟨hl,hp⟩,mkObj,wpD_some]
 exact h
theorem kS_appendO_nil {sz bytes n:Nat} {cs ys:List V} {s x:A} (hs:eval E st.tm s = .sl none true n cs) (hx:slCells st.ob sz (eval E st.tm x)=some ys) (hne:ys≠[]) (h0:0<sz) (hp:ys.all V.leaf=true)
 (hb:(ys.length / sz) * bytes≤140737488355328) (hb2:ys.length / sz≤140737488355328) (h:kApp K st d ub { v:=.osl (objName d nm st.fb ub) ub 0 (ys.length / sz) sz,obs:=[(objName d nm st.fb ub,⟨ub,.cells ys⟩)] }) :
 wpStep E Yf ⟨d,.append true sz bytes s x,none,nm⟩ st ub K:=by
 rw [wpStep_of _ rfl rfl]
 simp only [aop,hs,hx,Option.bind_some,if_neg hne,Bool.and_self,if_true,name_eq]
 rw [if_pos ⟨h0,hp,hb,hb2⟩,mkObj,wpD_some]
 exact h
theorem kS_appendO {sz bytes l u n:Nat} {cs ys:List V} {s x:A} (hs:eval E st.tm s = .osl l u 0 n sz) (hx:slCells st.ob sz (eval E st.tm x)=some ys) (ho:st.ob l=some ⟨u,.cells cs⟩) (hne:ys≠[]) (hro:st.ro≤u) (hn:n * sz≤cs.length) (h0:0<sz) (hp:ys.all V.leaf=true)
 (hb:(n+ys.length / sz) * bytes≤140737488355328) (hb2:n+ys.length / sz≤140737488355328)
 (h:kApp K st d ub { v:=.osl (objName d nm st.fb ub) ub 0 (n+ys.length / sz) sz,obs:=[(objName d nm st.fb ub,⟨ub,.cells (cs.take (n * sz)++ys)⟩)],kill:=[l] }) :
 wpStep E Yf ⟨d,.append true sz bytes s x,none,nm⟩ st ub K:=by
 rw [wpStep_of _ rfl rfl]
 have hoc:objCells st.ob l u=some cs:=by simp [objCells,ho]
 simp only [aop,hs,hx,Option.bind_some,hoc,if_neg hne,name_eq]
 rw [if_pos ⟨Nat.ble_eq ▸ hro,trivial,trivial,hn,h0,hp,hb,hb2⟩,wpD_some]
 exact h
end
@[simp] theorem app_obk (st:St) (d:Option Nat) (v:V) (l k l':Nat) (o':Obj'):(st.app d { v:=v,obs:=[(l,o')],kill:=[l'] }).ob k=if k=l then some o' else if k=l' then none else st.ob k:=by
 have e:(Nat.beq k l')=decide (k=l'):=by rw [Bool.eq_iff_iff];simp
 simp only [St.app,setObs,upd_apply,List.any_cons,List.any_nil,Bool.or_false,e,decide_eq_true_eq]
theorem mfind_set {α:Type} {m:List (Int × α)} {k:Int} {a b:α} {i:Nat} (h:mfind m k=some (i,b)) (k':Int):(mfind (m.set i (k,a)) k').map (·.2)=if k'=k then some a else (mfind m k').map (·.2):=by
 induction m generalizing i with
 | nil=>cases h
 | cons p m ih =>
  obtain ⟨q,c⟩:=p
  by_cases hk:k=q
  ·simp only [mfind,hk,if_true,Option.some.injEq,Prod.mk.injEq] at h
   obtain ⟨rfl,rfl⟩:=h
   subst hk
   simp only [List.set_cons_zero,mfind]
   split <;> rfl
  ·simp only [mfind,hk,if_false,Option.map_eq_some_iff,Prod.mk.injEq] at h
   obtain ⟨⟨j,b'⟩,hj,rfl,rfl⟩:=h
   simp only [List.set_cons_succ,mfind]
   by_cases hq:k'=q
   ·have:¬ q=k:=fun e=>hk e.symm
    simp [hq,this]
   ·simp only [hq,if_false,Option.map_map]
    have:=ih hj
    simpa [Function.comp_def] using this
theorem mfind_app {α:Type} {m:List (Int × α)} {k:Int} {a:α} (h:mfind m k=none) (k':Int):(mfind (m++[(k,a)]) k').map (·.2)=if k'=k then some a else (mfind m k').map (·.2):=by
 induction m with
 | nil=>simp [mfind];try (split <;> simp)
 | cons p m ih =>
  obtain ⟨q,c⟩:=p
  by_cases hk:k=q
  ·simp [mfind,hk] at h
  ·simp only [mfind,hk,if_false,Option.map_eq_none_iff] at h
   simp only [List.cons_append,mfind]
   by_cases hq:k'=q
   ·have:¬ q=k:=fun e=>hk e.symm
    simp [hq,this]
   ·simp only [hq,if_false,Option.map_map]
    have:=ih h
    simpa [Function.comp_def] using this
theorem mcnt_set (m:List (Int × Int)) (k a k':Int):mcnt (mset m k a) k'=if k'=k then a else mcnt m k':=by
 unfold mcnt mset
 cases h:mfind m k with
 | none=>simp only [];rw [mfind_app h];split <;> rfl
 | some p =>
  obtain ⟨i,b⟩:=p
  simp only []
  rw [mfind_set h]
  split <;> rfl
def keepB (o:Op'):Bool:=!(o.v.kind == 2)
def cntK (k:Int) (l:List Op'):Nat:=(l.filter fun o=>o.key == k && keepB o).length
def usedN (h:Hist') (k:Nat):Bool:=decide (0<cntK k (opsOf h))
def toK (h:Hist'):Nat→Nat
 | 0=>0
 | i+1=>toK h i+(if usedN h i then 1 else 0)
end Go.Pv.T

/- Which keys are kept: the walk. -/
namespace Go.Pv.T
open Go Go.Pv
end Go.Pv.T

/- Histories without lost reads; histories in results. -/
namespace Go.Pv.T
open Go Go.Pv
@[simp] theorem cells_osl (a b c d e:Nat):(V.osl a b c d e).cells=[.osl a b c d e]:=rfl
@[simp] theorem leaf_osl (a b c d e:Nat):(V.osl a b c d e).leaf=true:=rfl
def SlOut (st:St) (v:V) (nl:Bool) (n:Nat) (cs:List V):Prop:=∀ keep i,∃ a,outLeaf st keep i v=some (.sl a nl n cs)∧(a=none∨∃ z,a=some (i,z))
theorem slOut_sl (st:St) (t:Option (Nat × Nat)) (nl:Bool) (n:Nat) (cs:List V):SlOut st (.sl t nl n cs) nl n cs:=by
 intro keep i
 cases t with
 | none=>exact ⟨none,rfl,.inl rfl⟩
 | some p =>
  obtain ⟨u,z⟩:=p
  refine ⟨_,rfl,?_⟩
  split
  ·exact .inr ⟨z,rfl⟩
  ·exact .inl rfl
def HistR (r:V) (g:Hist'):Prop:=∃ a b c:Option (Nat × Nat),r = .agg [.sl a g.sn g.ss.length (g.ss.flatMap strC),.sl b g.kn g.ks.length (g.ks.flatMap strC),.sl c g.tn g.ts.length (g.ts.flatMap txnC)]∧(∀ p∈a.toList++b.toList++c.toList,p.1<64)
theorem toks_sl (a:Option (Nat × Nat)) (nl:Bool) (n:Nat) (cs:List V):(V.sl a nl n cs).tok=a.toList.map (·.1):=by
 cases a with
 | none=>rfl
 | some p=>rfl
theorem tokm {a:Option (Nat × Nat)} {nl:Bool} {n:Nat} {cs:List V} {i:Nat}:i∈(V.sl a nl n cs).tok ↔ ∃ p∈a.toList,p.1=i:=by rw [toks_sl,List.mem_map]
end Go.Pv.T

/- Slices that grow; erase.Of. -/
namespace Go.Pv.T
open Go Go.Pv
def Grow {α:Type} (tk:Nat→Bool) (lo nx:Nat) (f:α→List V) (sz:Nat) (l:List α) (v:V):Prop :=
 (l=[]∧v = .sl none true 0 [])∨(l≠[]∧∃ u,v = .sl (some (u,sz)) false l.length (l.flatMap f)∧tk u=true∧lo≤u∧u<nx)
theorem Grow.nil {α:Type} (tk:Nat→Bool) (lo nx:Nat) (f:α→List V) (sz:Nat):Grow tk lo nx f sz [] (.sl none true 0 []):=.inl ⟨rfl,rfl⟩
theorem Grow.form {α:Type} {tk:Nat→Bool} {lo nx:Nat} {f:α→List V} {sz:Nat} {l:List α} {v:V} (h:Grow tk lo nx f sz l v):∃ t,v = .sl t l.isEmpty l.length (l.flatMap f):=by
 rcases h with ⟨rfl,rfl⟩ | ⟨hne,u,rfl,_⟩
 ·exact ⟨none,rfl⟩
 ·cases l with
  | nil=>exact absurd rfl hne
  | cons a l=>exact ⟨_,rfl⟩
theorem Grow.mono {α:Type} {tk tk':Nat→Bool} {lo nx nx':Nat} {f:α→List V} {sz:Nat} {l:List α} {v:V} (h:Grow tk lo nx f sz l v) (ht:∀ u,lo≤u→u<nx→tk u=true→tk' u=true) (hn:nx≤nx'):Grow tk' lo nx' f sz l v:=by
 rcases h with h | ⟨hne,u,hv,h1,h2,h3⟩
 ·exact .inl h
 ·exact .inr ⟨hne,u,hv,ht u h2 h3 h1,h2,by omega⟩
section
variable {E:Env} {Yf:YF} {st:St} {ub:Nat} {K:St→Nat→Prop} {d:Option Nat} {nm:Bool}
theorem kS_appendG {α:Type} {f:α→List V} {sz bytes lo hi:Nat} {l:List α} {a:α} {v:V} {s x:A} (hg:Grow st.tk lo hi f sz l v) (hs:eval E st.tm s=v) (hx:slCells st.ob sz (eval E st.tm x)=some (f a)) (hf:∀ a,(f a).length=sz) (h0:0<sz)
 (hp:(f a).all V.pureLeaf=true) (hb:(l.length+1) * bytes≤140737488355328) (hb2:l.length+1≤140737488355328)
 (h:∀ del:Option Nat,(∀ u,del=some u→lo≤u∧u<hi)→kApp K st d ub { v:=.sl (some (ub,sz)) false (l.length+1) ((l++[a]).flatMap f),del:=del,add:=[ub] }):wpStep E Yf ⟨d,.append false sz bytes s x,none,nm⟩ st ub K:=by
 have hne:f a≠[]:=fun e=>by have:=hf a;rw [e] at this;simp at this;omega
 have h1:(f a).length / sz=1:=by rw [hf];exact Nat.div_self h0
 rcases hg with ⟨rfl,rfl⟩ | ⟨hl,u,rfl,ht,h2,h3⟩
 ·refine kS_append_nil hs hx hne h0 hp (by rw [h1];simpa using hb) (by rw [h1];simp) ?_
  rw [h1]
  have:=h none (fun u e=>by cases e)
  simpa using this
 ·refine kS_append_tok hs ht hx hne (by rw [flatMap_len hf]) h0 hp (by rw [h1];exact hb) (by rw [h1];exact hb2) ?_
  rw [h1]
  have:=h (some u) (fun u' e=>by cases e;exact ⟨h2,h3⟩)
  simpa using this
end
end Go.Pv.T

/- erase.Of. -/
namespace Go.Pv.T
open Go Go.Pv
def kEndE (res:List ARes) (P:V→Prop):Ex→St→Prop:=fun e s=>∃ r,endV res (e,s)=some r∧P r
theorem Ev_wpE {f:FuncId} {af:AF} {args:List V} {P:V→Prop} (hf:E.fc f=some af) (h1:af.body.one=true) (h:wpC E noYF af.body (start args) (kEndE af.res P)):∃ r,Ev E f args r∧P r:=by
 obtain ⟨n,x,hx,r,hr,hP⟩:=one_of h1 h
 refine ⟨r,⟨n+1,?_⟩,hP⟩
 simp only [callers,hf,Option.bind_some]
 rw [show codeL E (callers E n) noY n af.body (start args)=some [x] from hx]
 exact one1_of (List.cons_ne_nil _ _) (fun y hy=>by rw [List.mem_singleton] at hy;subst hy;exact hr)
end Go.Pv.T

/- erase.By. -/
namespace Go.Pv.T
open Go Go.Pv
end Go.Pv.T

/- The reference's erasing: which keys are there. -/
namespace Go.Pv.T
open Go Go.Pv
section
variable {E:Env} {st:St} {ub:Nat} {K:List FP→St→Prop} {d:Option Nat} {nm:Bool} {r:List AOpr}
theorem kD_buildSl {sz n:Nat} {zero:List V} {parts:List (Nat × Nat × A)} {cs:List V} (hf:fill zero (evalParts (eval E st.tm) parts)=some cs) (hl:cs.length=n * sz) (hp:(cs.map V.strip1).all V.pureLeaf=true)
 (h:kDApp E r K (eval E st.tm) (.buildSl false sz zero parts n) st d ub { v:=.sl (some (ub,sz)) false n (cs.map V.strip1),add:=[ub] }):wpDraw E (⟨d,.buildSl false sz zero parts n,none,nm⟩::r) st ub K:=by
 rw [wpDraw_of rfl]
 simp only [aop,hf,Option.bind_some,Bool.false_eq_true,if_false]
 rw [if_pos ⟨hl,hp⟩,wpD_some]
 exact h
theorem kD_appendG2 {α:Type} {f:α→List V} {sz bytes lo hi:Nat} {l:List α} {a:α} {v:V} {s x:A} (hg:Grow st.tk lo hi f sz l v) (hs:eval E st.tm s=v) (hx:slCells st.ob sz (eval E st.tm x)=some (f a)) (hf:∀ a,(f a).length=sz) (h0:0<sz)
 (hp:(f a).all V.pureLeaf=true) (hb:(l.length+1) * bytes≤140737488355328) (hb2:l.length+1≤140737488355328)
 (h:∀ del:Option Nat,(∀ u,del=some u→u∈v.tok)→kDApp E r K (eval E st.tm) (.append false sz bytes s x) st d ub { v:=.sl (some (ub,sz)) false (l.length+1) ((l++[a]).flatMap f),del:=del,add:=[ub] }):wpDraw E (⟨d,.append false sz bytes s x,none,nm⟩::r) st ub K:=by
 have hne:f a≠[]:=fun e=>by have:=hf a;rw [e] at this;simp at this;omega
 have h1:(f a).length / sz=1:=by rw [hf];exact Nat.div_self h0
 rw [wpDraw_of rfl]
 rcases hg with ⟨rfl,rfl⟩ | ⟨hl,u,rfl,ht,h2,h3⟩
 ·simp only [aop,hs,hx,Option.bind_some,if_neg hne,Bool.false_and,Bool.false_eq_true,if_false]
  rw [if_pos ⟨by simp,h0,hp,by rw [h1];simpa using hb,by rw [h1];simp⟩,if_pos trivial,wpD_some,h1]
  have:=h none (fun u e=>by cases e)
  simpa using this
 ·simp only [aop,hs,hx,Option.bind_some,if_neg hne,Bool.false_and,Bool.false_eq_true,if_false]
  rw [if_pos ⟨by rw [flatMap_len hf],h0,hp,by rw [h1];exact hb,by rw [h1];exact hb2⟩,if_pos (by simp [ht]),wpD_some,h1]
  have:=h (some u) (fun u' e=>by cases e;simp [V.tok])
  simpa using this
theorem Grow.tok_lt {α:Type} {tk:Nat→Bool} {lo nx:Nat} {f:α→List V} {sz:Nat} {l:List α} {v:V} (h:Grow tk lo nx f sz l v):∀ u∈v.tok,lo≤u∧u<nx:=by
 rcases h with ⟨_,rfl⟩ | ⟨_,u,rfl,_,h2,h3⟩
 ·intro u hu;simp [V.tok] at hu
 ·intro u' hu';simp [V.tok] at hu';subst hu';exact ⟨h2,h3⟩
end
def toList (h:Hist'):Nat→List Int
 | 0=>[]
 | i+1=>toList h i++[((toK h i:Nat):Int)]
end Go.Pv.T

/- The reference's erasing. -/
namespace Go.Pv.T
open Go Go.Pv
@[simp] theorem str_strip1 (s:List UInt8):(V.str s).strip1 = .str s:=rfl
theorem endH1 {st:St} {p l u:Nat} {x y z:V} {g:Hist'} (hd:st.df=[]) (hp:st.tm p = .ptr l u 0) (ho:st.ob l=some ⟨u,.cells [x,y,z]⟩)
 (hx:SlOut st x g.sn g.ss.length (g.ss.flatMap strC)) (hy:SlOut st y g.kn g.ks.length (g.ks.flatMap strC)) (hz:SlOut st z g.tn g.ts.length (g.ts.flatMap txnC)):∃ r,endV [.cell p (some 3)] (.ret,st)=some r∧HistR r g:=by
 have h1:(objCells st.ob l u)=some [x,y,z]:=by simp [objCells,ho]
 have hres:[ARes.cell p (some 3)].mapM (resOf st)=some [.agg [x,y,z]]:=by
  simp [resOf,hp,h1]
 obtain ⟨a,ha,ha'⟩:=hx (nodup (List.flatMap V.toks [.agg [x,y,z]])) 0
 obtain ⟨b,hb,hb'⟩:=hy (nodup (List.flatMap V.toks [.agg [x,y,z]])) 1
 obtain ⟨c,hc,hc'⟩:=hz (nodup (List.flatMap V.toks [.agg [x,y,z]])) 2
 refine ⟨.agg [.sl a g.sn g.ss.length (g.ss.flatMap strC),.sl b g.kn g.ks.length (g.ks.flatMap strC),.sl c g.tn g.ts.length (g.ts.flatMap txnC)],?_,a,b,c,rfl,?_⟩
 ·simp only [endV,dfOk_of hd,noDf_of hd,if_true,hres,Option.bind_some,outRes]
  generalize nodup (List.flatMap V.toks [.agg [x,y,z]])=keep at *
  simp only [outTops,outTop,outList,ha,hb,hc,Nat.zero_add,Option.bind_some,Option.map_some]
  have hnd:nodup (List.flatMap V.toks [.agg [.sl a g.sn g.ss.length (g.ss.flatMap strC),.sl b g.kn g.ks.length (g.ks.flatMap strC),.sl c g.tn g.ts.length (g.ts.flatMap txnC)]])=true:=by
   have e:∀ x y z:V,List.flatMap V.toks [.agg [x,y,z]]=x.tok++(y.tok++z.tok):=fun x y z=>by simp [V.toks]
   rw [e,toks_sl,toks_sl,toks_sl]
   rcases ha' with rfl | ⟨_,rfl⟩ <;> rcases hb' with rfl | ⟨_,rfl⟩ <;> rcases hc' with rfl | ⟨_,rfl⟩ <;> rfl
  show (if nodup (List.flatMap V.toks [.agg [.sl a g.sn g.ss.length (g.ss.flatMap strC),.sl b g.kn g.ks.length (g.ks.flatMap strC),.sl c g.tn g.ts.length (g.ts.flatMap txnC)]])=true then some (V.agg [.sl a g.sn g.ss.length (g.ss.flatMap strC),.sl b g.kn g.ks.length (g.ks.flatMap strC),.sl c g.tn g.ts.length (g.ts.flatMap txnC)]) else none)=_
  rw [if_pos hnd]
 ·intro p hp
  simp only [List.mem_append] at hp
  rcases hp with (hp | hp) | hp
  ·rcases ha' with rfl | ⟨_,rfl⟩
   ·simp at hp
   ·simp at hp;subst hp;simp
  ·rcases hb' with rfl | ⟨_,rfl⟩
   ·simp at hp
   ·simp at hp;subst hp;simp
  ·rcases hc' with rfl | ⟨_,rfl⟩
   ·simp at hp
   ·simp at hp;subst hp;simp
theorem retA_hist1 {ub:Nat} {r:V} {g:Hist'} (h:HistR r g):∃ a b c add,retA ub r=some { v:=.agg [.sl a g.sn g.ss.length (g.ss.flatMap strC),.sl b g.kn g.ks.length (g.ks.flatMap strC),.sl c g.tn g.ts.length (g.ts.flatMap txnC)],add:=add }:=by
 obtain ⟨a,b,c,rfl,hlt⟩:=h
 have e:∀ x y z:V,toksRes (.agg [x,y,z])=x.tok++(y.tok++z.tok):=fun x y z=>by simp [toksRes,V.toks]
 have hall:(toksRes (.agg [.sl a g.sn g.ss.length (g.ss.flatMap strC),.sl b g.kn g.ks.length (g.ks.flatMap strC),.sl c g.tn g.ts.length (g.ts.flatMap txnC)])).all (fun i=>Nat.blt i 64)=true:=by
  rw [e,List.all_eq_true]
  intro i hi
  have:∃ p∈a.toList++b.toList++c.toList,p.1=i:=by
   rw [List.mem_append,List.mem_append,tokm,tokm,tokm] at hi
   rcases hi with ⟨p,hp,h⟩ | ⟨p,hp,h⟩ | ⟨p,hp,h⟩
   ·exact ⟨p,by simp [hp],h⟩
   ·exact ⟨p,by simp [hp],h⟩
   ·exact ⟨p,by simp [hp],h⟩
  obtain ⟨p,hp,rfl⟩:=this
  rw [Nat.blt_eq]
  exact hlt p hp
 have hin:∀ (t:Option (Nat × Nat)) (nl:Bool) (n:Nat) (cs:List V),∃ t',inLeaf ub (.sl t nl n cs) = .sl t' nl n cs:=fun t nl n cs=>by
  cases t with
  | none=>exact ⟨none,rfl⟩
  | some p=>exact ⟨_,rfl⟩
 obtain ⟨a',ha⟩:=hin a g.sn g.ss.length (g.ss.flatMap strC)
 obtain ⟨b',hb⟩:=hin b g.kn g.ks.length (g.ks.flatMap strC)
 obtain ⟨c',hc⟩:=hin c g.tn g.ts.length (g.ts.flatMap txnC)
 refine ⟨a',b',c',(toksRes (.agg [.sl a g.sn g.ss.length (g.ss.flatMap strC),.sl b g.kn g.ks.length (g.ks.flatMap strC),.sl c g.tn g.ts.length (g.ts.flatMap txnC)])).map (ub + ·),?_⟩
 rw [retA,if_pos hall]
 have hin2:inRes ub (.agg [.sl a g.sn g.ss.length (g.ss.flatMap strC),.sl b g.kn g.ks.length (g.ks.flatMap strC),.sl c g.tn g.ts.length (g.ts.flatMap txnC)]) =
  .agg [inLeaf ub (.sl a g.sn g.ss.length (g.ss.flatMap strC)),inLeaf ub (.sl b g.kn g.ks.length (g.ks.flatMap strC)),inLeaf ub (.sl c g.tn g.ts.length (g.ts.flatMap txnC))]:=rfl
 rw [hin2,ha,hb,hc]
end Go.Pv.T

/- Products. -/
namespace Go.Pv.T
open Go Go.Pv
theorem kS_evV {E:Env} {Yf:YF} {st:St} {ub:Nat} {K:St→Nat→Prop} {d:Option Nat} {nm:Bool} {q:A} {xs:List A} {f:FuncId} {first captured args:List V} {v:V} (hev:Ev E f args v) (hq:eval E st.tm q = .fn (.func f) first captured)
 (hx:(first++xs.map (eval E st.tm)++captured).map V.strip=args) (hs:E.sh nm f=false) (hp:args.all V.pureTop=true) (h:wpD (retA ub v) (kApp K st d ub)):wpStep E Yf ⟨d,.callV q xs,none,nm⟩ st ub K:=by
 refine wpS_callV hq ⟨⟨hs,?_⟩,v,by rw [hx];exact hev,h⟩
 rw [← hx,List.all_map] at hp
 exact hp
@[simp] theorem fn_strip0 (f:Fn):(V.fn f [] []).strip = .fn f [] []:=rfl
@[simp] theorem fn_pureTop0 (f:Fn):(V.fn f [] []).pureTop=true:=rfl
def IntsAt (ob:Nat→Option Obj') (nx:Nat) (l:List Int) (v:V):Prop :=
 (l=[]∧v = .sl none true 0 [])∨(l≠[]∧∃ L u,v = .osl L u 0 l.length 1∧ob L=some ⟨u,.cells (l.flatMap intC)⟩∧u<nx∧L=2 * u+1)
end Go.Pv.T

/- Values that are sorted by a function where they lie: their cells, and what is less. -/
namespace Go.Pv.T
open Go Go.Pv Go.Sort
abbrev VV:Type:={ v:Val' // valB v=true }
instance:Inhabited VV:=⟨⟨⟨0,0⟩,rfl⟩⟩
def vvC (v:VV):List V:=valC v.1
@[simp] theorem vvC_len (v:VV):(vvC v).length=2:=rfl
@[simp] theorem vvC_leaf (v:VV):∀ x∈vvC v,x.leaf=true:=by
 intro x hx
 simp only [vvC,valC,List.mem_cons,List.not_mem_nil,or_false] at hx
 rcases hx with rfl | rfl <;> rfl
@[simp] theorem vvC_leafs (v:VV):(vvC v).all V.leaf=true:=rfl
@[simp] theorem vvC_strip1 (v:VV):(vvC v).map V.strip1=vvC v:=rfl
@[simp] theorem vvC_pure (v:VV):(vvC v).all V.pureLeaf=true:=rfl
def ltVV (a b:VV):Bool:=decide (cmpV a.1 b.1<0)
theorem ltVV_eq (a b:VV):ltVV a b=lessV a.1 b.1:=by
 unfold ltVV cmpV
 rw [a.2,b.2]
 simp only [Bool.and_self,Bool.true_and]
 cases lessV a.1 b.1
 ·cases lessV b.1 a.1 <;> simp
 ·simp
@[simp] theorem ltVV_fold (a b:VV):decide (cmpV a.1 b.1<0)=ltVV a b:=rfl
theorem val_kind {v:Val'} (h:valB v=true):v.kind=1∨((v.kind=0∨v.kind=2)∧v.n=0):=by
 unfold valB at h
 simp only [Bool.or_eq_true,Bool.and_eq_true,beq_iff_eq] at h
 exact h
theorem ltVV_iff (a b:VV):ltVV a b=true ↔ (a.1.kind<b.1.kind∨(a.1.kind=b.1.kind∧a.1.kind=1∧a.1.n<b.1.n)):=by
 rw [ltVV_eq]
 unfold lessV
 split
 ·simp;omega
 ·simp;omega
theorem ltVV_not (a b:VV):ltVV a b=false ↔ ¬ (a.1.kind<b.1.kind∨(a.1.kind=b.1.kind∧a.1.kind=1∧a.1.n<b.1.n)):=by
 rw [← ltVV_iff,Bool.not_eq_true]
theorem swo_ltVV:SWO ltVV where
 irrefl x:=by rw [ltVV_not];omega
 trans x y z h1 h2:=by
  rw [ltVV_iff] at h1 h2 ⊢
  omega
 ntrans x y z h1 h2:=by
  rw [ltVV_not] at h1 h2 ⊢
  have k1:=val_kind x.2
  have k2:=val_kind y.2
  have k3:=val_kind z.2
  omega
abbrev CF:V:=.fn (.func 121) [] []
theorem evC (x y:VV):Ev E 121 [.agg (vvC x),.agg (vvC y)] (.int .i64 (cmpV x.1 y.1)):=ev121 x.1 y.1
theorem idxV {l u n x:Nat} {kk:IntKind} {X:Int} (hX:X=(x:Nat)) (hx:x<n):idxSlV 2 (.osl l u 0 n 2) (.int kk X)=some (.ptr l u (x * 2)):=by
 subst hX
 have:=idxA (sz:=2) (l:=l) (u:=u) (n:=n) (kk:=kk) (x:=(x:Int)) (by omega) (by omega)
 simpa using this
theorem ldV {ob:Nat→Option Obj'} {l u:Nat} {d:Array VV} {x:Nat} (ho:ob l=some ⟨u,.cells (arr vvC d)⟩) (hx:x<d.size):loadV ob (some 2) (.ptr l u (x * 2))=some (.agg (vvC d[x]!)):=by
 have h:=arr_at (sz:=2) vvC_len hx
 have hl:=arr_len (sz:=2) vvC_len d
 simp only [loadV,objCells,ho,if_true,Option.bind_some,pick1,h]
 rw [if_pos (by rw [hl];omega)]
theorem stV {d:Array VV} {x:Nat} (hx:x<d.size) (z:VV):splice (arr vvC d) (x * 2) (vvC z)=arr vvC (d.setIfInBounds x z):=arr_set (sz:=2) vvC_len hx z
theorem At.swp {l u:Nat} {cs0 cs:List V} {ob:Nat→Option Obj'} {tk:Nat→Bool} {ub:Nat} {ob1:Nat→Option Obj'} {tk1:Nat→Bool} {ub1:Nat} {ob2:Nat→Option Obj'} {tk2:Nat→Bool} {ub2:Nat} (h:At l u cs0 ob tk ub ob1 tk1 ub1)
 (h1:ob2 l=some ⟨u,.cells cs⟩) (h2:∀ key,key≠l→ob2 key=ob1 key) (h3:tk2=tk1) (h4:ub1≤ub2):At l u cs ob tk ub ob2 tk2 ub2 :=
 ⟨h1,fun key a b=>(h2 key a).trans (h.2.1 key a b),h3.trans h.2.2.1,Nat.le_trans h.2.2.2 h4⟩
@[simp] theorem arrV_len (d:Array VV):(arr vvC d).length=d.size * 2:=arr_len (sz:=2) vvC_len d
end Go.Pv.T

/- Insertion sort by a function. -/
namespace Go.Pv.T.Vs
open Go Go.Pv Go.Pv.T Go.Sort
theorem sv206 {Yf:YF} {l u a b:Nat} {d:Array VV} (hd:d.size≤1000000) (hb:b≤d.size) (hab:a≤b) {ob:Nat→Option Obj'} {tk:Nat→Bool} {ro base ub:Nat} (ho:ob l=some ⟨u,.cells (arr vvC d)⟩) (hro:ro≤u) :
 ∃ r,EvS E Yf.y 206 [.osl l u 0 d.size 2,.int .i64 a,.int .i64 b,CF] ob tk ro base ub r∧At l u (arr vvC (insertionSort ltVV d a b)) ob tk ub r.2.1 r.2.2.1 r.2.2.2:=by
 refine EvS_wp (af:=S206) rfl (by decide) ?_
 show wpC E Yf S206.body _ (kEndS S206.res _)
 have w1:IntKind.i64.wrap ((a:Int)+1)=(a:Int)+1:=wrapN (by omega) (by omega)
 simp [S206,w1]
 refine wp_loopUp [(8,9),(12,52)] (b - a) (fun k s=>s.tm 8 = .int .i64 ((a:Int)+1+k)∧∃ d1:Array VV,insOuter ltVV a b (a+1+k) d1=insertionSort ltVV d a b∧d1.size=d.size∧At l u (arr vvC d1) ob tk ub s.ob s.tk s.nx) rfl rfl
  ⟨by simp,d,rfl,rfl,by simp [ho],by simp,by simp,by simp;omega⟩ ?_
 rintro k s hk ⟨h6,d1,e1,z1,a1,a2,a3,a4⟩ f
 have f0:s.tm 0 = .osl l u 0 d.size 2:=by rw [f.t 0 (by simp)];simp
 have fc:s.tm 3=CF:=by rw [f.t 3 (by simp)];simp
 have f1:s.tm 1 = .int .i64 a:=by rw [f.t 1 (by simp)];simp
 have f2:s.tm 2 = .int .i64 b:=by rw [f.t 2 (by simp)];simp
 have fd:s.df=[]:=by rw [f.d];simp
 have fr:s.ro=ro:=by rw [f.r];simp
 clear f
 by_cases hlt:a+1+k<b
 ·have c1:(a:Int)+1+k<b:=by omega
  have hout:insOuter ltVV a b (a+1+k) d1=insOuter ltVV a b (a+1+(k+1)) (insInner ltVV a (a+1+k) d1):=by
   conv=>lhs;rw [insOuter,if_pos hlt]
   rfl
  have w2:IntKind.i64.wrap ((a:Int)+1+k+1)=(a:Int)+1+(k+1):=by rw [wrapN (by omega) (by omega)];omega
  simp [h6,f2,c1]
  refine wp_loopUp [(9,9),(18,52)] (a+1+k) (fun j s'=>s'.tm 9 = .int .i64 ((a+1+k - j:Nat):Int)∧∃ d2:Array VV,insInner ltVV a (a+1+k - j) d2=insInner ltVV a (a+1+k) d1∧d2.size=d.size∧At l u (arr vvC d2) ob tk ub s'.ob s'.tk s'.nx) rfl rfl
   ⟨by simp,d1,rfl,z1,by simp [a1],by simpa using a2,by simp [a3],by simp;omega⟩ ?_
  rintro j s1 hj ⟨h7,d2,e2,z2,b1,b2,b3,b4⟩ f
  have g0:s1.tm 0 = .osl l u 0 d.size 2:=by rw [f.t 0 (by simp)];simp [f0,fc]
  have gc:s1.tm 3=CF:=by rw [f.t 3 (by simp)];simp [fc]
  have g1:s1.tm 1 = .int .i64 a:=by rw [f.t 1 (by simp)];simp [f1]
  have g6:s1.tm 8 = .int .i64 ((a:Int)+1+k):=by rw [f.t 8 (by simp)];simp [h6]
  have gd:s1.df=[]:=by rw [f.d];simp [fd]
  have gr:s1.ro=ro:=by rw [f.r];simp [fr]
  clear f
  by_cases hgt:a<a+1+k - j
  ·obtain ⟨m,hm⟩:∃ m,a+1+k - j=m+1:=⟨a+1+k - j - 1,by omega⟩
   rw [hm] at h7 e2 hgt
   have i1:=idxV (l:=l) (u:=u) (n:=d.size) (kk:=.i64) (X:=((m+1:Nat):Int)) (x:=m+1) rfl (by omega)
   have i0:=idxV (l:=l) (u:=u) (n:=d.size) (kk:=.i64) (X:=((m:Nat):Int)) (x:=m) rfl (by omega)
   have w3:IntKind.i64.wrap (((m+1:Nat):Int) - 1)=(m:Nat):=by rw [wrapN (by omega) (by omega)];omega
   have l1:=ldV b1 (x:=m+1) (by omega)
   have l0:=ldV b1 (x:=m) (by omega)
   have c2:(a:Int)<((m+1:Nat):Int):=by omega
   generalize hM1:((m+1:Nat):Int)=M1 at *
   generalize hM0:((m:Nat):Int)=M0 at *
   simp [h7,g0,gc,g1,c2,i1,i0,w3,l1,l0]
   have st1:=stV (d:=d2) (x:=m+1) (by omega) d2[m]!
   have st2:=stV (d:=d2.setIfInBounds (m+1) d2[m]!) (x:=m) (by simp;omega) d2[m+1]!
   have hsw:(d2.setIfInBounds (m+1) d2[m]!).setIfInBounds m d2[m+1]! = swp d2 (m+1) m:=rfl
   rw [hsw] at st2
   have hz1:(m+1) * 2+2≤d2.size * 2:=by omega
   have hz2:(m) * 2+2≤d2.size * 2:=by omega
   have hro':ro≤u:=hro
   refine kS_evV (f:=121) (first:=[]) (captured:=[]) (evC d2[m+1]! d2[m]!) (by simp) (by simp) rfl (by simp) ?_
   simp
   cases hl:ltVV d2[m+1]! d2[m]!
   ·have e3:insInner ltVV a (m+1) d2=d2:=by rw [insInner];simp [hl]
    rw [e3] at e2
    simp [g6,w2]
    refine ⟨by omega,d2,?_,z2,by simpa [At] using ⟨b1,b2,b3,by omega⟩⟩
    rw [← e1,hout,← e2]
   ·have e3:insInner ltVV a (m+1) d2=insInner ltVV a m (swp d2 (m+1) m):=by rw [insInner];simp [hl,hgt]
    have hj1:a+1+k - (j+1)=m:=by omega
    simp [h7,g0,gc,i1,i0,w3,l1,l0,objCells,b1,st1,st2,hz1,hz2,hro',gr]
    refine ⟨by omega,by rw [hj1,hM0],swp d2 (m+1) m,by rw [hj1,← e3,e2],by rw [swp_size];exact z2,?_⟩
    simp [At,app_tk0,b3]
    refine ⟨fun key h1 h2=>?_,by omega⟩
    simp only [if_neg h1]
    exact b2 key h1 h2
  ·have e3:insInner ltVV a (a+1+k - j) d2=d2:=by
    cases hc:a+1+k - j with
    | zero=>rfl
    | succ m=>rw [insInner];simp;omega
   rw [e3] at e2
   have c3:¬ (a:Int)<((a+1+k - j:Nat):Int):=by omega
   generalize ((a+1+k - j:Nat):Int)=J at *
   simp [h7,g1,c3,g6,w2]
   refine ⟨by omega,d2,?_,z2,by simpa [At] using ⟨b1,b2,b3,by omega⟩⟩
   rw [← e1,hout,← e2]
 ·have c1:¬ (a:Int)+1+k<b:=by omega
  have e3:insOuter ltVV a b (a+1+k) d1=d1:=by rw [insOuter,if_neg hlt]
  rw [e3] at e1
  subst e1
  simp [h6,f2,c1]
  exact endS_nil (Or.inl rfl) (by simp [fd]) (by simpa [At] using ⟨a1,a2,a3,by omega⟩)
end Go.Pv.T.Vs

/- Heap sort by a function: sifting. -/
namespace Go.Pv.T.Vs
open Go Go.Pv Go.Pv.T Go.Sort
theorem sv241 {Yf:YF} {l u lo hi first:Nat} {d:Array VV} (hd:d.size≤1000000) (hf:first+hi≤d.size) (hlo:lo≤d.size) {ob:Nat→Option Obj'} {tk:Nat→Bool} {ro base ub:Nat} (ho:ob l=some ⟨u,.cells (arr vvC d)⟩) (hro:ro≤u) :
 ∃ r,EvS E Yf.y 241 [.osl l u 0 d.size 2,.int .i64 lo,.int .i64 hi,.int .i64 first,CF] ob tk ro base ub r∧At l u (arr vvC (siftDown ltVV hi first lo d)) ob tk ub r.2.1 r.2.2.1 r.2.2.2:=by
 refine EvS_wp (af:=S241) rfl (by decide) ?_
 show wpC E Yf S241.body _ (kEndS S241.res _)
 simp [S241]
 obtain ⟨I,hI⟩:∃ I:Nat→St→Prop,I=fun n s=>∃ root:Nat,n=hi - root∧root≤d.size∧s.tm 10 = .int .i64 root∧∃ d1:Array VV,siftDown ltVV hi first root d1=siftDown ltVV hi first lo d∧d1.size=d.size∧At l u (arr vvC d1) ob tk ub s.ob s.tk s.nx:=⟨_,rfl⟩
 refine wp_loopF (n:=hi - lo) [(10,11),(13,81)] I rfl rfl (by rw [hI];exact ⟨lo,rfl,hlo,by simp,d,rfl,rfl,by simp [At,ho];omega⟩) ?_
 intro n s hIs f
 rw [hI] at hIs
 obtain ⟨root,rfl,hrs,h8,d1,e1,z1,hat⟩:=hIs
 have f0:s.tm 0 = .osl l u 0 d.size 2:=by rw [f.t 0 (by simp)];simp
 have fc:s.tm 4=CF:=by rw [f.t 4 (by simp)];simp
 have f2:s.tm 2 = .int .i64 hi:=by rw [f.t 2 (by simp)];simp
 have f3:s.tm 3 = .int .i64 first:=by rw [f.t 3 (by simp)];simp
 have fd:s.df=[]:=by rw [f.d];simp
 have fr:s.ro=ro:=by rw [f.r];simp
 clear f
 obtain ⟨R,hR⟩:∃ x:Int,x=(root:Nat):=⟨_,rfl⟩
 obtain ⟨R2,hR2⟩:∃ x:Int,x=2 * R:=⟨_,rfl⟩
 obtain ⟨C,hC⟩:∃ x:Int,x=R2+1:=⟨_,rfl⟩
 obtain ⟨C1,hC1⟩:∃ x:Int,x=C+1:=⟨_,rfl⟩
 obtain ⟨F,hF⟩:∃ x:Int,x=(first:Nat):=⟨_,rfl⟩
 obtain ⟨H,hH⟩:∃ x:Int,x=(hi:Nat):=⟨_,rfl⟩
 obtain ⟨FR,hFR⟩:∃ x:Int,x=F+R:=⟨_,rfl⟩
 obtain ⟨FC,hFC⟩:∃ x:Int,x=F+C:=⟨_,rfl⟩
 obtain ⟨FC1,hFC1⟩:∃ x:Int,x=FC+1:=⟨_,rfl⟩
 have w1:IntKind.i64.wrap (2 * R)=R2:=by rw [wrapN (by omega) (by omega)];exact hR2.symm
 have w2:IntKind.i64.wrap (R2+1)=C:=by rw [wrapN (by omega) (by omega)];exact hC.symm
 have w3:IntKind.i64.wrap (C+1)=C1:=by rw [wrapN (by omega) (by omega)];exact hC1.symm
 have w4:IntKind.i64.wrap (F+R)=FR:=by rw [wrapN (by omega) (by omega)];exact hFR.symm
 have w5:IntKind.i64.wrap (F+C)=FC:=by rw [wrapN (by omega) (by omega)];exact hFC.symm
 have w6:IntKind.i64.wrap (FC+1)=FC1:=by rw [wrapN (by omega) (by omega)];exact hFC1.symm
 have w7:IntKind.i64.wrap (F+C1)=FC1:=by rw [wrapN (by omega) (by omega)];omega
 rw [← hR] at h8
 rw [← hH] at f2
 rw [← hF] at f3
 by_cases hc:hi≤2 * root+1
 ·have c1:H≤C:=by omega
  have e3:siftDown ltVV hi first root d1=d1:=by rw [siftDown];simp;omega
  rw [e3] at e1
  subst e1
  simp [h8,w1,w2,f2,c1]
  exact endS_nil (Or.inl rfl) (by simp [fd]) (hat.swp (by simp [hat.1]) (by simp) (by simp) (by simp;omega))
 have c1:¬ H≤C:=by omega
 have i0:=idxV (l:=l) (u:=u) (n:=d.size) (kk:=.i64) (X:=FR) (x:=first+root) (by omega) (by omega)
 have i1:=idxV (l:=l) (u:=u) (n:=d.size) (kk:=.i64) (X:=FC) (x:=first+(2 * root+1)) (by omega) (by omega)
 have l0:=ldV hat.1 (x:=first+root) (by omega)
 have l1:=ldV hat.1 (x:=first+(2 * root+1)) (by omega)
 have c0:¬ hi≤2 * root+1:=hc
 simp [h8,w1,w2,f2,c1]
 by_cases hr:2 * root+1+1<hi
 ·have c2:C1<H:=by omega
  have i2:=idxV (l:=l) (u:=u) (n:=d.size) (kk:=.i64) (X:=FC1) (x:=first+(2 * root+2)) (by omega) (by omega)
  have l2:=ldV hat.1 (x:=first+(2 * root+2)) (by omega)
  simp [w3,c2,f0,fc,f3,w5,w6,i1,l1,i2,l2]
  refine kS_evV (f:=121) (first:=[]) (captured:=[]) (evC d1[first+(2 * root+1)]! d1[first+(2 * root+2)]!) (by simp) (by simp) rfl (by simp) ?_
  simp
  have hi3:first+(2 * root+1)+1=first+(2 * root+2):=rfl
  cases hl:ltVV d1[first+(2 * root+1)]! d1[first+(2 * root+2)]!
  ·simp
   simp [h8,w4,f0,fc,f3,i0,l0,i1,l1,w5]
   refine kS_evV (f:=121) (first:=[]) (captured:=[]) (evC d1[first+root]! d1[first+(2 * root+1)]!) (by simp) (by simp) rfl (by simp) ?_
   simp
   cases hl2:ltVV d1[first+root]! d1[first+(2 * root+1)]!
   ·have e3:siftDown ltVV hi first root d1=d1:=by rw [siftDown];simp [c0,hr,hi3,hl,hl2]
    rw [e3] at e1
    subst e1
    simp
    exact endS_nil (Or.inr rfl) (by simp [fd]) (hat.swp (by simp [hat.1]) (by simp) (by simp) (by simp;omega))
   ·have e3:siftDown ltVV hi first root d1=siftDown ltVV hi first (2 * root+1) (swp d1 (first+root) (first+(2 * root+1))):=by rw [siftDown];simp [c0,hr,hi3,hl,hl2]
    have st1:=stV (d:=d1) (x:=first+root) (by omega) d1[first+(2 * root+1)]!
    have st2:=stV (d:=d1.setIfInBounds (first+root) d1[first+(2 * root+1)]!) (x:=first+(2 * root+1)) (by rw [Array.size_setIfInBounds];omega) d1[first+root]!
    have hsw:(d1.setIfInBounds (first+root) d1[first+(2 * root+1)]!).setIfInBounds (first+(2 * root+1)) d1[first+root]! = swp d1 (first+root) (first+(2 * root+1)):=rfl
    rw [hsw] at st2
    have hz1:(first+root) * 2+2≤d1.size * 2:=by omega
    have hz2:(first+(2 * root+1)) * 2+2≤d1.size * 2:=by omega
    simp [h8,w4,f0,fc,f3,i0,l0,i1,l1,w5,objCells,hat.1,fr,hro,st1,st2,hz1,hz2]
    exact ⟨hi - (2 * root+1),by omega,by rw [hI];exact ⟨2 * root+1,rfl,by omega,by simp;omega,swp d1 (first+root) (first+(2 * root+1)),by rw [← e3,e1],by rw [swp_size];exact z1,hat.swp (by simp) (fun key hk=>by simp [hk]) (by simp [app_tk0]) (by simp;omega)⟩⟩
  ·simp [w3]
   simp [h8,w4,f0,fc,f3,i0,l0,i2,l2,w7]
   refine kS_evV (f:=121) (first:=[]) (captured:=[]) (evC d1[first+root]! d1[first+(2 * root+2)]!) (by simp) (by simp) rfl (by simp) ?_
   simp
   cases hl2:ltVV d1[first+root]! d1[first+(2 * root+2)]!
   ·have e3:siftDown ltVV hi first root d1=d1:=by rw [siftDown];simp [c0,hr,hi3,hl,hl2]
    rw [e3] at e1
    subst e1
    simp
    exact endS_nil (Or.inr rfl) (by simp [fd]) (hat.swp (by simp [hat.1]) (by simp) (by simp) (by simp;omega))
   ·have e3:siftDown ltVV hi first root d1=siftDown ltVV hi first (2 * root+2) (swp d1 (first+root) (first+(2 * root+2))):=by rw [siftDown];simp [c0,hr,hi3,hl,hl2]
    have st1:=stV (d:=d1) (x:=first+root) (by omega) d1[first+(2 * root+2)]!
    have st2:=stV (d:=d1.setIfInBounds (first+root) d1[first+(2 * root+2)]!) (x:=first+(2 * root+2)) (by rw [Array.size_setIfInBounds];omega) d1[first+root]!
    have hsw:(d1.setIfInBounds (first+root) d1[first+(2 * root+2)]!).setIfInBounds (first+(2 * root+2)) d1[first+root]! = swp d1 (first+root) (first+(2 * root+2)):=rfl
    rw [hsw] at st2
    have hz1:(first+root) * 2+2≤d1.size * 2:=by omega
    have hz2:(first+(2 * root+2)) * 2+2≤d1.size * 2:=by omega
    simp [h8,w4,f0,fc,f3,i0,l0,i2,l2,w7,objCells,hat.1,fr,hro,st1,st2,hz1,hz2]
    exact ⟨hi - (2 * root+2),by omega,by rw [hI];exact ⟨2 * root+2,rfl,by omega,by simp;omega,swp d1 (first+root) (first+(2 * root+2)),by rw [← e3,e1],by rw [swp_size];exact z1,hat.swp (by simp) (fun key hk=>by simp [hk]) (by simp [app_tk0]) (by simp;omega)⟩⟩
 ·have c2:¬ C1<H:=by omega
  simp [w3,c2]
  simp [h8,w4,f0,fc,f3,i0,l0,i1,l1,w5]
  refine kS_evV (f:=121) (first:=[]) (captured:=[]) (evC d1[first+root]! d1[first+(2 * root+1)]!) (by simp) (by simp) rfl (by simp) ?_
  simp
  cases hl2:ltVV d1[first+root]! d1[first+(2 * root+1)]!
  ·have e3:siftDown ltVV hi first root d1=d1:=by rw [siftDown];simp [c0,hr,hl2]
   rw [e3] at e1
   subst e1
   simp
   exact endS_nil (Or.inr rfl) (by simp [fd]) (hat.swp (by simp [hat.1]) (by simp) (by simp) (by simp;omega))
  ·have e3:siftDown ltVV hi first root d1=siftDown ltVV hi first (2 * root+1) (swp d1 (first+root) (first+(2 * root+1))):=by rw [siftDown];simp [c0,hr,hl2]
   have st1:=stV (d:=d1) (x:=first+root) (by omega) d1[first+(2 * root+1)]!
   have st2:=stV (d:=d1.setIfInBounds (first+root) d1[first+(2 * root+1)]!) (x:=first+(2 * root+1)) (by rw [Array.size_setIfInBounds];omega) d1[first+root]!
   have hsw:(d1.setIfInBounds (first+root) d1[first+(2 * root+1)]!).setIfInBounds (first+(2 * root+1)) d1[first+root]! = swp d1 (first+root) (first+(2 * root+1)):=rfl
   rw [hsw] at st2
   have hz1:(first+root) * 2+2≤d1.size * 2:=by omega
   have hz2:(first+(2 * root+1)) * 2+2≤d1.size * 2:=by omega
   simp [h8,w4,f0,fc,f3,i0,l0,i1,l1,w5,objCells,hat.1,fr,hro,st1,st2,hz1,hz2]
   exact ⟨hi - (2 * root+1),by omega,by rw [hI];exact ⟨2 * root+1,rfl,by omega,by simp;omega,swp d1 (first+root) (first+(2 * root+1)),by rw [← e3,e1],by rw [swp_size];exact z1,hat.swp (by simp) (fun key hk=>by simp [hk]) (by simp [app_tk0]) (by simp;omega)⟩⟩
end Go.Pv.T.Vs

/- Heap sort by a function. -/
namespace Go.Pv.T.Vs
open Go Go.Pv Go.Pv.T Go.Sort
theorem siftDown_size (lt:VV→VV→Bool) (hi first root:Nat) (d:Array VV):(siftDown lt hi first root d).size=d.size:=by
 fun_induction siftDown lt hi first root d <;> simp_all [swp_size]
theorem sv207 {Yf:YF} {l u a b:Nat} {d:Array VV} (hd:d.size≤1000000) (hb:b≤d.size) (hab:a≤b) {ob:Nat→Option Obj'} {tk:Nat→Bool} {ro base ub:Nat} (ho:ob l=some ⟨u,.cells (arr vvC d)⟩) (hro:ro≤u) :
 ∃ r,EvS E Yf.y 207 [.osl l u 0 d.size 2,.int .i64 a,.int .i64 b,CF] ob tk ro base ub r∧At l u (arr vvC (heapSort ltVV d a b)) ob tk ub r.2.1 r.2.2.1 r.2.2.2:=by
 refine EvS_wp (af:=S207) rfl (by decide) ?_
 show wpC E Yf S207.body _ (kEndS S207.res _)
 obtain ⟨A,hA⟩:∃ x:Int,x=(a:Nat):=⟨_,rfl⟩
 obtain ⟨B,hB⟩:∃ x:Int,x=(b:Nat):=⟨_,rfl⟩
 obtain ⟨H,hH⟩:∃ x:Int,x=B - A:=⟨_,rfl⟩
 obtain ⟨H1,hH1⟩:∃ x:Int,x=H - 1:=⟨_,rfl⟩
 have w1:IntKind.i64.wrap (B - A)=H:=by rw [wrapN (by omega) (by omega)];exact hH.symm
 have w2:IntKind.i64.wrap (H - 1)=H1:=by rw [wrapN (by omega) (by omega)];exact hH1.symm
 have w3:IntKind.i64.wrap (H1.tdiv 2)=(((b - a - 1) / 2+1:Nat):Int) - 1:=by
  rcases Nat.eq_zero_or_pos (b - a) with h | h
  ·have:H1 = -1:=by omega
   rw [this,h];rfl
  ·have:H1=((b - a - 1:Nat):Int):=by omega
   have e:H1.tdiv 2=(((b - a - 1) / 2:Nat):Int):=by rw [this];exact (Int.ofNat_tdiv _ 2).symm
   rw [e,wrapN (by omega) (by omega)]
   omega
 rw [← hA,← hB]
 obtain ⟨K0,hK0⟩:∃ k,k=(b - a - 1) / 2+1:=⟨_,rfl⟩
 rw [← hK0] at w3
 obtain ⟨J0,hJ0⟩:∃ x:Int,x=(K0:Int) - 1:=⟨_,rfl⟩
 rw [← hJ0] at w3
 simp [S207,w1,w2,w3]
 obtain ⟨I,hI⟩:∃ I:Nat→St→Prop,I=fun n s=>s.tm 11 = .int .i64 ((n:Int) - 1)∧n≤K0∧∃ d1:Array VV,heapBuild ltVV (b - a) a n d1=heapBuild ltVV (b - a) a K0 d∧d1.size=d.size∧At l u (arr vvC d1) ob tk ub s.ob s.tk s.nx:=⟨_,rfl⟩
 refine wp_loopF (n:=K0) [(11,11),(20,29)] I rfl rfl (by rw [hI];exact ⟨by simp [hJ0],Nat.le_refl _,d,rfl,rfl,(At.refl ho).same (by simp) (by simp) (by simp;omega)⟩) ?_
 intro n s hIs f
 rw [hI] at hIs
 obtain ⟨h9,hnK,d1,e1,z1,hat⟩:=hIs
 have f0:s.tm 0 = .osl l u 0 d.size 2:=by rw [f.t 0 (by simp)];simp
 have fc:s.tm 3=CF:=by rw [f.t 3 (by simp)];simp
 have f6:s.tm 8 = .int .i64 A:=by rw [f.t 8 (by simp)];simp
 have f7:s.tm 9 = .int .i64 0:=by rw [f.t 9 (by simp)];simp
 have f8:s.tm 10 = .int .i64 H:=by rw [f.t 10 (by simp)];simp
 have fd:s.df=[]:=by rw [f.d];simp
 have fr:s.ro=ro:=by rw [f.r];simp
 clear f
 cases n with
 | succ m =>
  obtain ⟨J,hJ⟩:∃ x:Int,x=((m+1:Nat):Int) - 1:=⟨_,rfl⟩
  rw [← hJ] at h9
  have c1:0≤J:=by omega
  have w4:IntKind.i64.wrap (J - 1)=(m:Int) - 1:=by rw [wrapN (by omega) (by omega)];omega
  simp [h9,c1,f0,fc,f8,f6]
  refine kS_callP (vs:=[.osl l u 0 d1.size 2,.int .i64 (m:Nat),.int .i64 ((b - a:Nat):Int),.int .i64 (a:Nat),CF]) (by simp [z1];omega) rfl (sv241 (l:=l) (u:=u) (d:=d1) (by omega) (by omega) (by omega) (by simp [hat.1]) (by simp [fr,hro])) ?_
  rintro v ob' tk' ub' hat2
  simp [h9,w4]
  refine ⟨m,by omega,?_⟩
  rw [hI]
  exact ⟨by simp,by omega,siftDown ltVV (b - a) a m d1,by rw [← e1];rfl,by rw [siftDown_size];exact z1,(hat.trans hat2 (by omega)).same rfl rfl (by simp;omega)⟩
 | zero =>
  have e3:d1=heapBuild ltVV (b - a) a K0 d:=by rw [← e1];rfl
  have w5:IntKind.i64.wrap (H - 1)=((b - a:Nat):Int) - 1:=by rw [wrapN (by omega) (by omega)];omega
  simp [h9,f8,w5]
  obtain ⟨I2,hI2⟩:∃ I:Nat→St→Prop,I=fun n s=>s.tm 12 = .int .i64 ((n:Int) - 1)∧n≤b - a∧∃ d2:Array VV,heapPop ltVV a n d2=heapSort ltVV d a b∧d2.size=d.size∧At l u (arr vvC d2) ob tk ub s.ob s.tk s.nx:=⟨_,rfl⟩
  refine wp_loopF (n:=b - a) [(12,12),(32,59)] I2 rfl rfl (by rw [hI2];exact ⟨by simp,Nat.le_refl _,d1,by rw [e3,hK0];rfl,z1,hat.same rfl rfl (by simp;omega)⟩) ?_
  intro n s1 hIs f
  rw [hI2] at hIs
  obtain ⟨h10,hnB,d2,e2,z2,hat1⟩:=hIs
  have g0:s1.tm 0 = .osl l u 0 d.size 2:=by rw [f.t 0 (by simp)];simp [f0,fc]
  have gc:s1.tm 3=CF:=by rw [f.t 3 (by simp)];simp [fc]
  have g6:s1.tm 8 = .int .i64 A:=by rw [f.t 8 (by simp)];simp [f6]
  have g7:s1.tm 9 = .int .i64 0:=by rw [f.t 9 (by simp)];simp [f7]
  have gd:s1.df=[]:=by rw [f.d];simp [fd]
  have gr:s1.ro=ro:=by rw [f.r];simp [fr]
  clear f
  cases n with
  | succ m =>
   obtain ⟨J,hJ⟩:∃ x:Int,x=((m+1:Nat):Int) - 1:=⟨_,rfl⟩
   rw [← hJ] at h10
   obtain ⟨AJ,hAJ⟩:∃ x:Int,x=A+J:=⟨_,rfl⟩
   have c1:0≤J:=by omega
   have w4:IntKind.i64.wrap (J - 1)=(m:Int) - 1:=by rw [wrapN (by omega) (by omega)];omega
   have w6:IntKind.i64.wrap (A+J)=AJ:=by rw [wrapN (by omega) (by omega)];exact hAJ.symm
   have i0:=idxV (l:=l) (u:=u) (n:=d.size) (kk:=.i64) (X:=A) (x:=a) (by omega) (by omega)
   have i1:=idxV (l:=l) (u:=u) (n:=d.size) (kk:=.i64) (X:=AJ) (x:=a+m) (by omega) (by omega)
   have l0:=ldV hat1.1 (x:=a) (by omega)
   have l1:=ldV hat1.1 (x:=a+m) (by omega)
   have st1:=stV (d:=d2) (x:=a) (by omega) d2[a+m]!
   have st2:=stV (d:=d2.setIfInBounds a d2[a+m]!) (x:=a+m) (by rw [Array.size_setIfInBounds];omega) d2[a]!
   have hsw:(d2.setIfInBounds a d2[a+m]!).setIfInBounds (a+m) d2[a]! = swp d2 a (a+m):=rfl
   rw [hsw] at st2
   have hz1:(a) * 2+2≤d2.size * 2:=by omega
   have hz2:(a+m) * 2+2≤d2.size * 2:=by omega
   have hzs:(swp d2 a (a+m)).size=d2.size:=swp_size _ _ _
   simp [h10,c1,g0,gc,g6,w6,i0,i1,l0,l1,objCells,hat1.1,gr,hro,st1,st2,hz1,hz2,g7]
   have hat2:∀ (ob2:Nat→Option Obj') (tk2:Nat→Bool) (ub2:Nat),ob2 l=some ⟨u,.cells (arr vvC (swp d2 a (a+m)))⟩→(∀ key,key≠l→ob2 key=s1.ob key)→tk2=s1.tk→s1.nx≤ub2→At l u (arr vvC (swp d2 a (a+m))) ob tk ub ob2 tk2 ub2:=fun _ _ _ q1 q2 q3 q4=>hat1.swp q1 q2 q3 q4
   refine kS_callP (vs:=[.osl l u 0 (swp d2 a (a+m)).size 2,.int .i64 (0:Nat),.int .i64 (m:Nat),.int .i64 (a:Nat),CF]) (by simp [hzs,z2];omega) rfl (sv241 (l:=l) (u:=u) (d:=swp d2 a (a+m)) (by omega) (by omega) (by omega) (by simp) (by simp [gr,hro])) ?_
   rintro v ob' tk' ub' hat3
   have hat4:=(hat2 _ _ _ (by simp) (fun key hk=>by simp [hk]) (by simp [app_tk0]) (by omega)).trans hat3 (Nat.le_refl _)
   simp [h10,w4]
   refine ⟨m,by omega,?_⟩
   rw [hI2]
   exact ⟨by simp,by omega,siftDown ltVV m a 0 (swp d2 a (a+m)),by rw [← e2];rfl,by rw [siftDown_size,swp_size];exact z2,hat4.same rfl rfl (by simp;omega)⟩
  | zero =>
   have e4:d2=heapSort ltVV d a b:=by rw [← e2];rfl
   subst e4
   simp [h10]
   exact endS_nil (Or.inl rfl) (by simp [gd]) (hat1.same rfl rfl (by simp;omega))
end Go.Pv.T.Vs

/- Turning round, pivots, by a function. -/
namespace Go.Pv.T.Vs
open Go Go.Pv Go.Pv.T Go.Sort
theorem sv210 {Yf:YF} {l u a b:Nat} {d:Array VV} (hd:d.size≤1000000) (hb:b≤d.size) (hab:a<b) {ob:Nat→Option Obj'} {tk:Nat→Bool} {ro base ub:Nat} (ho:ob l=some ⟨u,.cells (arr vvC d)⟩) (hro:ro≤u) :
 ∃ r,EvS E Yf.y 210 [.osl l u 0 d.size 2,.int .i64 a,.int .i64 b,CF] ob tk ro base ub r∧At l u (arr vvC (reverseRange d a b)) ob tk ub r.2.1 r.2.2.1 r.2.2.2:=by
 refine EvS_wp (af:=S210) rfl (by decide) ?_
 show wpC E Yf S210.body _ (kEndS S210.res _)
 have w1:IntKind.i64.wrap ((b:Int) - 1)=((b - 1:Nat):Int):=by rw [wrapN (by omega) (by omega)];omega
 simp [S210,w1]
 obtain ⟨I,hI⟩:∃ I:Nat→St→Prop,I=fun n s=>∃ i j:Nat,n=j - i∧i≤b∧j<b∧s.tm 8 = .int .i64 i∧s.tm 9 = .int .i64 j∧∃ d1:Array VV,reverseLoop i j d1=reverseRange d a b∧d1.size=d.size∧At l u (arr vvC d1) ob tk ub s.ob s.tk s.nx:=⟨_,rfl⟩
 refine wp_loopF (n:=b - 1 - a) [(8,9),(13,33)] I rfl rfl (by rw [hI];exact ⟨a,b - 1,rfl,by omega,by omega,by simp,by simp,d,rfl,rfl,(At.refl ho).same rfl rfl (by simp;omega)⟩) ?_
 intro n s hIs f
 rw [hI] at hIs
 obtain ⟨i,j,rfl,hi,hj,h6,h7,d1,e1,z1,hat⟩:=hIs
 have f0:s.tm 0 = .osl l u 0 d.size 2:=by rw [f.t 0 (by simp)];simp
 have fc:s.tm 3=CF:=by rw [f.t 3 (by simp)];simp
 have fd:s.df=[]:=by rw [f.d];simp
 have fr:s.ro=ro:=by rw [f.r];simp
 clear f
 obtain ⟨X,hX⟩:∃ x:Int,x=(i:Nat):=⟨_,rfl⟩
 obtain ⟨Z,hZ⟩:∃ x:Int,x=(j:Nat):=⟨_,rfl⟩
 rw [← hX] at h6
 rw [← hZ] at h7
 by_cases hij:i<j
 ·have c1:X<Z:=by omega
  have w2:IntKind.i64.wrap (X+1)=((i+1:Nat):Int):=by rw [wrapN (by omega) (by omega)];omega
  have w3:IntKind.i64.wrap (Z - 1)=((j - 1:Nat):Int):=by rw [wrapN (by omega) (by omega)];omega
  have i0:=idxV (l:=l) (u:=u) (n:=d.size) (kk:=.i64) (X:=X) (x:=i) (by omega) (by omega)
  have i1:=idxV (l:=l) (u:=u) (n:=d.size) (kk:=.i64) (X:=Z) (x:=j) (by omega) (by omega)
  have l0:=ldV hat.1 (x:=i) (by omega)
  have l1:=ldV hat.1 (x:=j) (by omega)
  have st1:=stV (d:=d1) (x:=i) (by omega) d1[j]!
  have st2:=stV (d:=d1.setIfInBounds i d1[j]!) (x:=j) (by rw [Array.size_setIfInBounds];omega) d1[i]!
  have hsw:(d1.setIfInBounds i d1[j]!).setIfInBounds j d1[i]! = swp d1 i j:=rfl
  rw [hsw] at st2
  have hz1:(i) * 2+2≤d1.size * 2:=by omega
  have hz2:(j) * 2+2≤d1.size * 2:=by omega
  have e3:reverseLoop i j d1=reverseLoop (i+1) (j - 1) (swp d1 i j):=by rw [reverseLoop,if_pos hij]
  generalize hN1:((i+1:Nat):Int)=N1 at *
  generalize hN2:((j - 1:Nat):Int)=N2 at *
  simp [h6,h7,c1,f0,fc,i0,i1,l0,l1,objCells,hat.1,fr,hro,st1,st2,hz1,hz2,w2,w3]
  exact ⟨j - 1 - (i+1),by omega,by rw [hI];exact ⟨i+1,j - 1,rfl,by omega,by omega,by simp [hN1],by simp [hN2],swp d1 i j,by rw [← e3,e1],by rw [swp_size];exact z1,hat.swp (by simp) (fun key hk=>by simp [hk]) (by simp [app_tk0]) (by simp;omega)⟩⟩
 ·have c1:¬ X<Z:=by omega
  have e3:reverseLoop i j d1=d1:=by rw [reverseLoop,if_neg hij]
  rw [e3] at e1
  subst e1
  simp [h6,h7,c1]
  exact endS_nil (Or.inl rfl) (by simp [fd]) (hat.same rfl rfl (by simp;omega))
theorem sv257 {Yf:YF} {l u w uw a b:Nat} {d:Array VV} {c:Int} (ha:a<d.size) (hb:b<d.size) {ob:Nat→Option Obj'} {tk:Nat→Bool} {ro base ub:Nat} (ho:ob l=some ⟨u,.cells (arr vvC d)⟩) (hw:ob w=some ⟨uw,.cells [.int .i64 c]⟩) (hro:ro≤uw) :
 ∃ r,EvS E Yf.y 257 [.osl l u 0 d.size 2,.int .i64 a,.int .i64 b,.ptr w uw 0,CF] ob tk ro base ub r∧(∃ x y:Nat,r.1 = .tup [.int .i64 x,.int .i64 y]∧(x=a∧y=b∨x=b∧y=a))∧Cn w uw ob tk ub r.2.1 r.2.2.1 r.2.2.2:=by
 refine EvS_wp (af:=S257) rfl (by decide) ?_
 show wpC E Yf S257.body _ (kEndS S257.res _)
 have i0:=idxV (l:=l) (u:=u) (n:=d.size) (kk:=.i64) (X:=(a:Int)) (x:=a) rfl (by omega)
 have i1:=idxV (l:=l) (u:=u) (n:=d.size) (kk:=.i64) (X:=(b:Int)) (x:=b) rfl (by omega)
 have l0:=ldV ho (x:=a) (by omega)
 have l1:=ldV ho (x:=b) (by omega)
 simp [S257,i0,i1,l0,l1]
 refine kS_evV (f:=121) (first:=[]) (captured:=[]) (evC d[b]! d[a]!) (by simp) (by simp) rfl (by simp) ?_
 simp
 cases hl:ltVV d[b]! d[a]!
 ·simp
  exact endS_2 (by simp) ⟨⟨a,b,by simp,Or.inl ⟨rfl,rfl⟩⟩,⟨c,hw⟩,fun _ _=>rfl,rfl,by simp;omega⟩
 ·simp [objCells,hw,hro,splice]
  exact endS_2 (by simp) ⟨⟨b,a,by simp,Or.inr ⟨rfl,rfl⟩⟩,⟨IntKind.i64.wrap (c+1),by simp⟩,fun key hk=>by simp [hk],by simp [app_tk0],by simp;omega⟩
end Go.Pv.T.Vs

/- Pivots, by a function. -/
namespace Go.Pv.T.Vs
open Go Go.Pv Go.Pv.T Go.Sort
theorem sv243 {Yf:YF} {l u w uw a b c:Nat} {d:Array VV} {z:Int} (ha:a<d.size) (hb:b<d.size) (hc:c<d.size) (hlw:l≠w) {ob:Nat→Option Obj'} {tk:Nat→Bool} {ro base ub:Nat} (ho:ob l=some ⟨u,.cells (arr vvC d)⟩) (hw:ob w=some ⟨uw,.cells [.int .i64 z]⟩) (hro:ro≤uw) :
 ∃ r,EvS E Yf.y 243 [.osl l u 0 d.size 2,.int .i64 a,.int .i64 b,.int .i64 c,.ptr w uw 0,CF] ob tk ro base ub r∧(∃ x:Nat,r.1 = .int .i64 x∧(x=a∨x=b∨x=c))∧Cn w uw ob tk ub r.2.1 r.2.2.1 r.2.2.2:=by
 refine EvS_wp (af:=S243) rfl (by decide) ?_
 show wpC E Yf S243.body _ (kEndS S243.res _)
 simp [S243]
 refine kS_callP (vs:=[.osl l u 0 d.size 2,.int .i64 a,.int .i64 b,.ptr w uw 0,CF]) (by simp) rfl (sv257 (c:=z) ha hb (by simpa using ho) (by simpa using hw) (by simpa using hro)) ?_
 rintro v ob1 tk1 ub1 ⟨⟨x,y,hv,hxy⟩,hC⟩
 simp only at hv
 subst hv
 obtain ⟨⟨c1,q1⟩,q2,q3,q4⟩:=id hC
 simp only at q1 q2 q3 q4
 have ho1:ob1 l=some ⟨u,.cells (arr vvC d)⟩:=(q2 l hlw).trans (by simpa using ho)
 have hx:x<d.size:=by omega
 have hy:y<d.size:=by omega
 simp
 refine kS_callP (vs:=[.osl l u 0 d.size 2,.int .i64 y,.int .i64 c,.ptr w uw 0,CF]) (by simp) rfl (sv257 (c:=c1) hy hc (by simpa using ho1) (by simpa using q1) (by simpa using hro)) ?_
 rintro v ob2 tk2 ub2 ⟨⟨x2,y2,hv,hxy2⟩,hC2⟩
 simp only at hv
 subst hv
 obtain ⟨⟨c2,p1⟩,p2,p3,p4⟩:=id hC2
 simp only at p1 p2 p3 p4
 have ho2:ob2 l=some ⟨u,.cells (arr vvC d)⟩:=(p2 l hlw).trans (by simpa using ho1)
 have hx2:x2<d.size:=by omega
 simp
 refine kS_callP (vs:=[.osl l u 0 d.size 2,.int .i64 x,.int .i64 x2,.ptr w uw 0,CF]) (by simp) rfl (sv257 (c:=c2) hx hx2 (by simpa using ho2) (by simpa using p1) (by simpa using hro)) ?_
 rintro v ob3 tk3 ub3 ⟨⟨x3,y3,hv,hxy3⟩,hC3⟩
 simp only at hv
 subst hv
 simp
 have h12:=hC.trans hC2 (by show ub1≤_;omega)
 have h13:=h12.trans hC3 (by show ub2≤_;omega)
 exact endS_1 (by simp) ⟨⟨y3,by simp,by omega⟩,h13.1,h13.2.1,h13.2.2.1,by have:=h13.2.2.2;simp at this ⊢;omega⟩
theorem sv209 {Yf:YF} {l u a b:Nat} {d:Array VV} (hd:d.size≤49) (hb:b≤d.size) (hab:a<b) {ob:Nat→Option Obj'} {tk:Nat→Bool} {ro base ub:Nat} (ho:ob l=some ⟨u,.cells (arr vvC d)⟩) (hl:∀ m,ub≤m→l≠2 * m+1) (hru:ro≤ub) :
 ∃ r,EvS E Yf.y 209 [.osl l u 0 d.size 2,.int .i64 a,.int .i64 b,CF] ob tk ro base ub r∧(∃ x h:Nat,r.1 = .tup [.int .i64 x,.int .i64 h]∧a≤x∧x<b∧h≤2)∧At l u (arr vvC d) ob tk ub r.2.1 r.2.2.1 r.2.2.2:=by
 refine EvS_wp (af:=S209) rfl (by decide) ?_
 show wpC E Yf S209.body _ (kEndS S209.res _)
 obtain ⟨A,hA⟩:∃ x:Int,x=(a:Nat):=⟨_,rfl⟩
 obtain ⟨B,hB⟩:∃ x:Int,x=(b:Nat):=⟨_,rfl⟩
 obtain ⟨L,hL⟩:∃ x:Int,x=B - A:=⟨_,rfl⟩
 obtain ⟨q,hq⟩:∃ q,q=(b - a) / 4:=⟨_,rfl⟩
 obtain ⟨Q,hQ⟩:∃ x:Int,x=(q:Nat):=⟨_,rfl⟩
 obtain ⟨Q2,hQ2⟩:∃ x:Int,x=Q * 2:=⟨_,rfl⟩
 obtain ⟨Q3,hQ3⟩:∃ x:Int,x=Q * 3:=⟨_,rfl⟩
 obtain ⟨P1,hP1⟩:∃ x:Int,x=A+Q:=⟨_,rfl⟩
 obtain ⟨P2,hP2⟩:∃ x:Int,x=A+Q2:=⟨_,rfl⟩
 obtain ⟨P3,hP3⟩:∃ x:Int,x=A+Q3:=⟨_,rfl⟩
 have w1:IntKind.i64.wrap (B - A)=L:=by rw [wrapN (by omega) (by omega)];exact hL.symm
 have w2:IntKind.i64.wrap (L.tdiv 4)=Q:=by
  have e:L=((b - a:Nat):Int):=by omega
  have e2:L.tdiv 4=(((b - a) / 4:Nat):Int):=by rw [e];exact (Int.ofNat_tdiv _ 4).symm
  rw [e2,wrapN (by omega) (by omega)];omega
 have w3:IntKind.i64.wrap Q=Q:=wrapN (by omega) (by omega)
 have w4:IntKind.i64.wrap (Q * 2)=Q2:=by rw [wrapN (by omega) (by omega)];exact hQ2.symm
 have w5:IntKind.i64.wrap (Q * 3)=Q3:=by rw [wrapN (by omega) (by omega)];exact hQ3.symm
 have w6:IntKind.i64.wrap (A+Q)=P1:=by rw [wrapN (by omega) (by omega)];exact hP1.symm
 have w7:IntKind.i64.wrap (A+Q2)=P2:=by rw [wrapN (by omega) (by omega)];exact hP2.symm
 have w8:IntKind.i64.wrap (A+Q3)=P3:=by rw [wrapN (by omega) (by omega)];exact hP3.symm
 have c2:¬ 50≤L:=by omega
 have bq:a+q<b∧a+q * 2<b∧a+q * 3<b∧a≤a+q∧a≤a+q * 2∧a≤a+q * 3:=by omega
 rw [← hA,← hB]
 simp [S209,w1,w2,w3,w4,w5,w6,w7,w8]
 generalize hQ:kSeq E Yf _ (kEndS _ _)=Q
 have fin:∀ (s:St) (w uw x:Nat) (z:Int),s.tm 11 = .ptr w uw 0→s.ob w=some ⟨uw,.cells [.int .i64 z]⟩→s.tm 13 = .int .i64 x→a≤x→x<b→s.df=[]→At l u (arr vvC d) ob tk ub s.ob s.tk s.nx→Q .nrm s:=by
  intro s w uw x z h9 hw h11 hax hxb hd hat
  rw [← hQ]
  by_cases z0:z=0
  ·subst z0
   simp [h9,objCells,hw,h11]
   exact endS_2 (by simp [hd]) ⟨⟨x,1,by simp,hax,hxb,by omega⟩,hat.same rfl rfl (by simp;omega)⟩
  ·have z0':(z == 0)=false:=by simpa using z0
   by_cases z1:z=12
   ·subst z1
    simp [h9,objCells,hw,h11]
    exact endS_2 (by simp [hd]) ⟨⟨x,2,by simp,hax,hxb,by omega⟩,hat.same rfl rfl (by simp;omega)⟩
   ·have z1':(z == 12)=false:=by simpa using z1
    simp [h9,objCells,hw,h11,z0',z1']
    exact endS_2 (by simp [hd]) ⟨⟨x,0,by simp,hax,hxb,by omega⟩,hat.same rfl rfl (by simp;omega)⟩
 clear hQ
 obtain ⟨N,hN⟩:∃ N,ub+64+64+64+64+64+64=N:=⟨_,rfl⟩
 have hl':=hl N (by omega)
 have hl'':¬ 2 * N+1=l:=fun e=>hl' e.symm
 refine kIf_gen fun st hst=>?_
 have g0:st.tm 0 = .osl l u 0 d.size 2:=by rw [hst];simp
 have gc:st.tm 3=CF:=by rw [hst];simp
 have g8:st.tm 10 = .int .i64 L:=by rw [hst];simp
 have g9:st.tm 11 = .ptr (2 * N+1) N 0:=by rw [hst,← hN];simp
 have g10:st.tm 12 = .int .i64 ((a+q:Nat):Int):=by rw [hst];simp;omega
 have g11:st.tm 13 = .int .i64 ((a+q * 2:Nat):Int):=by rw [hst];simp;omega
 have g12:st.tm 14 = .int .i64 ((a+q * 3:Nat):Int):=by rw [hst];simp;omega
 have gd:st.df=[]:=by rw [hst];simp
 have gr:st.ro=ro:=by rw [hst];simp
 have gn:N≤st.nx:=by rw [hst,← hN];simp
 have gw:st.ob (2 * N+1)=some ⟨N,.cells [.int .i64 0]⟩:=by rw [hst,← hN];simp
 have gf:∀ key,key≠2 * N+1→st.ob key=ob key:=by
  intro key hk
  rw [← hN] at hk
  rw [hst];simp [hk]
 have gt:st.tk=tk:=by rw [hst];simp [app_tk0]
 clear hst
 have gl:st.ob l=some ⟨u,.cells (arr vvC d)⟩:=(gf l hl').trans ho
 by_cases h8:8≤L
 ·simp [h8,c2,g8,g0,gc,g10,g11,g12]
  refine kS_callP (vs:=[.osl l u 0 d.size 2,.int .i64 ((a+q:Nat):Int),.int .i64 ((a+q * 2:Nat):Int),.int .i64 ((a+q * 3:Nat):Int),.ptr (2 * N+1) N 0,CF]) (by simp [g9]) rfl (sv243 (l:=l) (u:=u) (d:=d) (z:=0) (by omega) (by omega) (by omega) hl' (by simpa using gl) (by simpa using gw) (by simp [gr];omega)) ?_
  rintro v ob' tk' ub' ⟨⟨x,hv,hx⟩,hC⟩
  simp only at hv
  subst hv
  obtain ⟨⟨c',q1⟩,q2,q3,q4⟩:=hC
  simp only at q1 q2 q3 q4
  simp
  have hxx:a≤x∧x<b:=by rcases hx with h | h | h <;> subst h <;> exact ⟨by first | exact bq.2.2.2.1 | exact bq.2.2.2.2.1 | exact bq.2.2.2.2.2,by first | exact bq.1 | exact bq.2.1 | exact bq.2.2.1⟩
  refine fin _ (2 * N+1) N x c' (by simp [g9]) (by simpa using q1) (by simp) hxx.1 hxx.2 (by simp [gd]) ⟨?_,?_,?_,?_⟩
  ·simp;rw [q2 l hl'];simpa using gl
  ·intro key h1 h2
   have:=h2 N (by rw [← hN];omega)
   simp;rw [q2 key this];simpa using gf key this
  ·simp;rw [q3];simpa using gt
  ·simp at q4 ⊢;omega
 ·simp [h8]
  refine fin _ (2 * N+1) N (a+q * 2) 0 g9 gw g11 bq.2.2.2.2.1 bq.2.1 gd ⟨gl,?_,gt,Nat.le_trans (by rw [← hN];omega) gn⟩
  intro key h1 h2
  exact gf key (h2 N (by rw [← hN];omega))
end Go.Pv.T.Vs

/- Partitions, by a function. -/
namespace Go.Pv.T.Vs
open Go Go.Pv Go.Pv.T Go.Sort
theorem partLoop_step {lt:VV→VV→Bool} {a i j i2 j2:Nat} {d:Array VV} (_:1≤i) (h1:scanUp (fun x=>lt x d[a]!) d j i=i2) (h2:scanDown (fun x=>!lt x d[a]!) d i2 j=j2) :
 partLoop lt a i j d=if i2 > j2 then (j2,d) else partLoop lt a (i2+1) (j2 - 1) (swp d i2 j2):=by
 have g1:=(scanUp_ge (fun x=>lt x d[a]!) d j i).1
 have g2:=(scanDown_le (fun x=>!lt x d[a]!) d i2 j).1
 rw [partLoop]
 simp only [h1,h2]
 by_cases h:i2 > j2
 ·rw [if_pos h,if_pos h]
 ·rw [if_neg h,if_neg h,dif_pos (by omega)]
theorem sv213 {Yf:YF} {l u a b pv:Nat} {d:Array VV} (hd:d.size≤1000000) (hb:b≤d.size) (hap:a≤pv) (hpb:pv<b) {ob:Nat→Option Obj'} {tk:Nat→Bool} {ro base ub:Nat} (ho:ob l=some ⟨u,.cells (arr vvC d)⟩) (hro:ro≤u) :
 ∃ r,EvS E Yf.y 213 [.osl l u 0 d.size 2,.int .i64 a,.int .i64 b,.int .i64 pv,CF] ob tk ro base ub r∧r.1 = .tup [.int .i64 (partition ltVV d a b pv).1,.bool (partition ltVV d a b pv).2.1]∧At l u (arr vvC (partition ltVV d a b pv).2.2) ob tk ub r.2.1 r.2.2.1 r.2.2.2:=by
 refine EvS_wp (af:=S213) rfl (by decide) ?_
 show wpC E Yf S213.body _ (kEndS S213.res _)
 have w1:IntKind.i64.wrap ((a:Int)+1)=((a+1:Nat):Int):=by rw [wrapN (by omega) (by omega)];omega
 have w2:IntKind.i64.wrap ((b:Int) - 1)=((b - 1:Nat):Int):=by rw [wrapN (by omega) (by omega)];omega
 have ia:∀ n,a<n→idxSlV 2 (.osl l u 0 n 2) (.int .i64 (a:Int))=some (.ptr l u (a * 2)):=fun n h=>idxV rfl h
 have ia':=ia d.size (by omega)
 have ip:=idxV (l:=l) (u:=u) (n:=d.size) (kk:=.i64) (X:=(pv:Int)) (x:=pv) rfl (by omega)
 have la:=ldV ho (x:=a) (by omega)
 have lp:=ldV ho (x:=pv) (by omega)
 have st1:=stV (d:=d) (x:=a) (by omega) d[pv]!
 have st2:=stV (d:=d.setIfInBounds a d[pv]!) (x:=pv) (by rw [Array.size_setIfInBounds];omega) d[a]!
 have hsw:(d.setIfInBounds a d[pv]!).setIfInBounds pv d[a]! = swp d a pv:=rfl
 rw [hsw] at st2
 have hz1:(a) * 2+2≤d.size * 2:=by omega
 have hz2:(pv) * 2+2≤d.size * 2:=by omega
 obtain ⟨P,hP⟩:∃ P,partition ltVV d a b pv=P:=⟨_,rfl⟩
 rw [hP]
 unfold partition at hP
 obtain ⟨D,hD⟩:∃ D,swp d a pv=D:=⟨_,rfl⟩
 have zD:D.size=d.size:=by rw [← hD];exact swp_size _ _ _
 rw [hD] at st2 hP
 simp only at hP
 generalize hA1:((a+1:Nat):Int)=A1 at w1
 generalize hB1:((b - 1:Nat):Int)=B1 at w2
 simp [S213,ia',ip,la,lp,objCells,ho,hro,st1,st2,hz1,hz2,w1,w2]
 refine wpC_gen fun st hst=>?_
 have g0:st.tm 0 = .osl l u 0 d.size 2:=by rw [hst];simp
 have gc:st.tm 4=CF:=by rw [hst];simp
 have g1:st.tm 1 = .int .i64 a:=by rw [hst];simp
 have g10:st.tm 12 = .int .i64 (a+1:Nat):=by rw [hst,hA1];simp
 have g11:st.tm 13 = .int .i64 (b - 1:Nat):=by rw [hst,hB1];simp
 have gd:st.df=[]:=by rw [hst];simp
 have gr:st.ro=ro:=by rw [hst];simp
 have gat:At l u (arr vvC D) ob tk ub st.ob st.tk st.nx:=by rw [hst];exact (At.refl ho).swp (by simp) (fun key hk=>by simp [hk]) (by simp [app_tk0]) (by simp;omega)
 clear hst st1 st2 hsw hA1 hB1 w1 w2 la lp ip
 refine scan_up (p:=fun x=>ltVV x D[a]!) (d:=D) (i0:=a+1) (j:=b - 1) [(12,12),(32,49)] rfl rfl rfl rfl g10 ?_ ?_ ?_
 ·intro s9 x1 hx9 h19 h29 hca9 hf9
  have m0:s9.tm 0 = .osl l u 0 d.size 2:=by rw [hf9.t 0 (by simp)];exact g0
  have mc:s9.tm 4=CF:=by rw [hf9.t 4 (by simp)];exact gc
  have m1:s9.tm 1 = .int .i64 a:=by rw [hf9.t 1 (by simp)];exact g1
  have mf:s9.tm 13 = .int .i64 ((b - 1:Nat):Int):=by rw [hf9.t 13 (by simp)];exact g11
  have hat9:=gat.calm hca9
  generalize hX:(x1:Int)=X at *
  generalize hZ:((b - 1:Nat):Int)=Z at *
  by_cases hle:x1≤b - 1
  ·have c1:X≤Z:=by omega
   have ii:=idxV (l:=l) (u:=u) (n:=d.size) (kk:=.i64) (X:=X) (x:=x1) (by omega) (by omega)
   have li:=ldV hat9.1 (x:=x1) (by omega)
   have la:=ldV hat9.1 (x:=a) (by omega)
   simp [hx9,mf,c1,m0,mc,m1,ii,li,ia',la]
   refine kS_evV (f:=121) (first:=[]) (captured:=[]) (evC D[x1]! D[a]!) (by simp) (by simp) rfl (by simp) ?_
   simp [hle,hx9,Calm] <;> omega
  ·have c1:¬ X≤Z:=by omega
   simp [hx9,mf,c1,hle,Calm] <;> omega
 ·intro s9 x1 hx9 h19 h29
  have hw:IntKind.i64.wrap ((x1:Int)+1)=(x1:Int)+1:=wrapN (by omega) (by omega)
  simp [hx9,hw,Calm] <;> omega
 intro s9 h9 hca9 hf9
 obtain ⟨i1,hi1⟩:∃ x,scanUp (fun x=>ltVV x D[a]!) D (b - 1) (a+1)=x:=⟨_,rfl⟩
 have bi:=scanUp_ge (fun x=>ltVV x D[a]!) D (b - 1) (a+1)
 rw [hi1] at h9 hP bi
 have k0:s9.tm 0 = .osl l u 0 d.size 2:=by rw [hf9.t 0 (by simp)];exact g0
 have kc:s9.tm 4=CF:=by rw [hf9.t 4 (by simp)];exact gc
 have k1:s9.tm 1 = .int .i64 a:=by rw [hf9.t 1 (by simp)];exact g1
 have k11:s9.tm 13 = .int .i64 ((b - 1:Nat):Int):=by rw [hf9.t 13 (by simp)];exact g11
 have kd:s9.df=[]:=by rw [hf9.d];exact gd
 have kr:s9.ro=ro:=by rw [hf9.r];exact gr
 have kat:=gat.calm hca9
 clear hca9 hf9
 have k10:=h9
 simp
 refine scan_down (p:=fun x=>!ltVV x D[a]!) (d:=D) (i:=i1) (j0:=b - 1) (by omega) [(13,13),(50,68)] rfl rfl rfl rfl k11 ?_ ?_ ?_
 ·intro s9 x1 hx9 h19 hca9 hf9
  have m0:s9.tm 0 = .osl l u 0 d.size 2:=by rw [hf9.t 0 (by simp)];exact k0
  have mc:s9.tm 4=CF:=by rw [hf9.t 4 (by simp)];exact kc
  have m1:s9.tm 1 = .int .i64 a:=by rw [hf9.t 1 (by simp)];exact k1
  have mf:s9.tm 12 = .int .i64 ((i1:Nat):Int):=by rw [hf9.t 12 (by simp)];exact k10
  have hat9:=kat.calm hca9
  generalize hX:(x1:Int)=X at *
  generalize hZ:((i1:Nat):Int)=Z at *
  by_cases hle:i1≤x1
  ·have c1:Z≤X:=by omega
   have ii:=idxV (l:=l) (u:=u) (n:=d.size) (kk:=.i64) (X:=X) (x:=x1) (by omega) (by omega)
   have li:=ldV hat9.1 (x:=x1) (by omega)
   have la:=ldV hat9.1 (x:=a) (by omega)
   simp [hx9,mf,c1,m0,mc,m1,ii,li,ia',la]
   refine kS_evV (f:=121) (first:=[]) (captured:=[]) (evC D[x1]! D[a]!) (by simp) (by simp) rfl (by simp) ?_
   simp [hle,hx9,Calm] <;> omega
  ·have c1:¬ Z≤X:=by omega
   simp [hx9,mf,c1,hle,Calm] <;> omega
 ·intro s9 x1 hx9 h19
  have hw:IntKind.i64.wrap (((x1+1:Nat):Int) - 1)=(x1:Int):=by rw [wrapN (by omega) (by omega)];omega
  generalize ((x1+1:Nat):Int)=J at *
  simp [hx9,hw,Calm] <;> omega
 intro s9 h9 hca9 hf9
 obtain ⟨j1,hj1⟩:∃ x,scanDown (fun x=>!ltVV x D[a]!) D i1 (b - 1)=x:=⟨_,rfl⟩
 have bj:=scanDown_le (fun x=>!ltVV x D[a]!) D i1 (b - 1)
 rw [hj1] at h9 hP bj
 have q0:s9.tm 0 = .osl l u 0 d.size 2:=by rw [hf9.t 0 (by simp)];exact k0
 have qc:s9.tm 4=CF:=by rw [hf9.t 4 (by simp)];exact kc
 have q1:s9.tm 1 = .int .i64 a:=by rw [hf9.t 1 (by simp)];exact k1
 have q10:s9.tm 12 = .int .i64 ((i1:Nat):Int):=by rw [hf9.t 12 (by simp)];exact k10
 have qd:s9.df=[]:=by rw [hf9.d];exact kd
 have qr:s9.ro=ro:=by rw [hf9.r];exact kr
 have qat:=kat.calm hca9
 clear hca9 hf9
 have q11:=h9
 clear h9
 obtain ⟨X,hX⟩:∃ x:Int,x=(i1:Nat):=⟨_,rfl⟩
 obtain ⟨Z,hZ⟩:∃ x:Int,x=(j1:Nat):=⟨_,rfl⟩
 rw [← hX] at q10
 rw [← hZ] at q11
 obtain ⟨A,hA⟩:∃ x:Int,x=(a:Nat):=⟨_,rfl⟩
 rw [← hA] at q1 ia'
 by_cases hgt:i1 > j1
 ·rw [if_pos hgt] at hP
  subst hP
  have c1:Z<X:=by omega
  have ix:=idxV (l:=l) (u:=u) (n:=d.size) (kk:=.i64) (X:=Z) (x:=j1) (by omega) (by omega)
  have iy:=idxV (l:=l) (u:=u) (n:=d.size) (kk:=.i64) (X:=A) (x:=a) (by omega) (by omega)
  have lx:=ldV qat.1 (x:=j1) (by omega)
  have ly:=ldV qat.1 (x:=a) (by omega)
  have sa:=stV (d:=D) (x:=j1) (by omega) D[a]!
  have sb:=stV (d:=D.setIfInBounds (j1) D[a]!) (x:=a) (by rw [Array.size_setIfInBounds];omega) D[j1]!
  rw [show (D.setIfInBounds (j1) D[a]!).setIfInBounds (a) D[j1]! = swp D (j1) (a) from rfl] at sb
  have za:(j1) * 2+2≤D.size * 2:=by omega
  have zb:(a) * 2+2≤D.size * 2:=by omega
  simp [q10,q11,q0,qc,q1,c1,ix,iy,lx,ly,sa,sb,za,zb,objCells,hro,qr,qat.1]
  exact endS_2 (by simp [qd]) ⟨by simp [hZ],qat.swp (by simp) (fun key hk=>by simp [hk]) (by simp [app_tk0]) (by simp;omega)⟩
 ·rw [if_neg hgt] at hP
  have c1:¬ Z<X:=by omega
  obtain ⟨r,hr⟩:∃ r,partLoop ltVV a (i1+1) (j1 - 1) (swp D i1 j1)=r:=⟨_,rfl⟩
  rw [hr] at hP
  have w3:IntKind.i64.wrap (X+1)=X+1:=wrapN (by omega) (by omega)
  have w4:IntKind.i64.wrap (Z - 1)=Z - 1:=wrapN (by omega) (by omega)
  have ix:=idxV (l:=l) (u:=u) (n:=d.size) (kk:=.i64) (X:=X) (x:=i1) (by omega) (by omega)
  have iy:=idxV (l:=l) (u:=u) (n:=d.size) (kk:=.i64) (X:=Z) (x:=j1) (by omega) (by omega)
  have lx:=ldV qat.1 (x:=i1) (by omega)
  have ly:=ldV qat.1 (x:=j1) (by omega)
  have sa:=stV (d:=D) (x:=i1) (by omega) D[j1]!
  have sb:=stV (d:=D.setIfInBounds (i1) D[j1]!) (x:=j1) (by rw [Array.size_setIfInBounds];omega) D[i1]!
  rw [show (D.setIfInBounds (i1) D[j1]!).setIfInBounds (j1) D[i1]! = swp D (i1) (j1) from rfl] at sb
  have za:(i1) * 2+2≤D.size * 2:=by omega
  have zb:(j1) * 2+2≤D.size * 2:=by omega
  simp [q10,q11,q0,qc,c1,ix,iy,lx,ly,sa,sb,za,zb,objCells,hro,qr,qat.1,w3,w4]
  refine wpC_gen fun st hst=>?_
  obtain ⟨I,hI⟩:∃ I:Nat→St→Prop,I=fun n s=>∃ i j:Nat,n=j+1 - i∧a+1≤i∧i≤b+1∧a≤j∧j<b∧s.tm 12 = .int .i64 i∧s.tm 13 = .int .i64 j∧∃ D3:Array VV,partLoop ltVV a i j D3=r∧D3.size=d.size∧At l u (arr vvC D3) ob tk ub s.ob s.tk s.nx:=⟨_,rfl⟩
  have e0:st.tm 0 = .osl l u 0 d.size 2:=by rw [hst];simp [q0,qc]
  have ec:st.tm 4=CF:=by rw [hst];simp [qc]
  have e1:st.tm 1 = .int .i64 a:=by rw [hst];simp [q1,hA]
  have e10:st.tm 12 = .int .i64 (i1+1:Nat):=by rw [hst];simp [hX]
  have e11:st.tm 13 = .int .i64 (j1 - 1:Nat):=by rw [hst];simp;omega
  have ed:st.df=[]:=by rw [hst];simp [qd]
  have er:st.ro=ro:=by rw [hst];simp [qr]
  have eat:At l u (arr vvC (swp D i1 j1)) ob tk ub st.ob st.tk st.nx:=by rw [hst];exact qat.swp (by simp) (fun key hk=>by simp [hk]) (by simp [app_tk0]) (by simp;omega)
  clear hst
  refine wp_loopF (n:=j1 - 1+1 - (i1+1)) [(12,13),(105,162)] I rfl rfl (by rw [hI];exact ⟨i1+1,j1 - 1,rfl,by omega,by omega,by omega,by omega,e10,e11,swp D i1 j1,hr,by rw [swp_size,zD],eat⟩) ?_
  intro n s hIs f
  rw [hI] at hIs
  obtain ⟨i,j,rfl,hi,hib,hja,hjb,t10,t11,D3,hpl,z3,tat⟩:=hIs
  have t0:s.tm 0 = .osl l u 0 d.size 2:=by rw [f.t 0 (by simp)];exact e0
  have tc:s.tm 4=CF:=by rw [f.t 4 (by simp)];exact ec
  have t1:s.tm 1 = .int .i64 a:=by rw [f.t 1 (by simp)];exact e1
  have td:s.df=[]:=by rw [f.d];exact ed
  have tr:s.ro=ro:=by rw [f.r];exact er
  clear f ix iy lx ly sa sb za zb q10 q11 q0 q1 qat qd qr e0 e1 e10 e11 ed er eat
  rw [hA] at ia'
  simp
  refine scan_up (p:=fun x=>ltVV x D3[a]!) (d:=D3) (i0:=i) (j:=j) [(12,12),(105,122)] rfl rfl rfl rfl t10 ?_ ?_ ?_
  ·intro s9 x1 hx9 h19 h29 hca9 hf9
   have m0:s9.tm 0 = .osl l u 0 d.size 2:=by rw [hf9.t 0 (by simp)];exact t0
   have mc:s9.tm 4=CF:=by rw [hf9.t 4 (by simp)];exact tc
   have m1:s9.tm 1 = .int .i64 a:=by rw [hf9.t 1 (by simp)];exact t1
   have mf:s9.tm 13 = .int .i64 ((j:Nat):Int):=by rw [hf9.t 13 (by simp)];exact t11
   have hat9:=tat.calm hca9
   generalize hX:(x1:Int)=X at *
   generalize hZ:((j:Nat):Int)=Z at *
   by_cases hle:x1≤j
   ·have c1:X≤Z:=by omega
    have ii:=idxV (l:=l) (u:=u) (n:=d.size) (kk:=.i64) (X:=X) (x:=x1) (by omega) (by omega)
    have li:=ldV hat9.1 (x:=x1) (by omega)
    have la:=ldV hat9.1 (x:=a) (by omega)
    simp [hx9,mf,c1,m0,mc,m1,ii,li,ia',la]
    refine kS_evV (f:=121) (first:=[]) (captured:=[]) (evC D3[x1]! D3[a]!) (by simp) (by simp) rfl (by simp) ?_
    simp [hle,hx9,Calm] <;> omega
   ·have c1:¬ X≤Z:=by omega
    simp [hx9,mf,c1,hle,Calm] <;> omega
  ·intro s9 x1 hx9 h19 h29
   have hw:IntKind.i64.wrap ((x1:Int)+1)=(x1:Int)+1:=wrapN (by omega) (by omega)
   simp [hx9,hw,Calm] <;> omega
  intro s9 h9 hca9 hf9
  obtain ⟨i2,hi2⟩:∃ x,scanUp (fun x=>ltVV x D3[a]!) D3 j i=x:=⟨_,rfl⟩
  have bi2:=scanUp_ge (fun x=>ltVV x D3[a]!) D3 j i
  rw [hi2] at h9 bi2
  have k0:s9.tm 0 = .osl l u 0 d.size 2:=by rw [hf9.t 0 (by simp)];exact t0
  have kc:s9.tm 4=CF:=by rw [hf9.t 4 (by simp)];exact tc
  have k1:s9.tm 1 = .int .i64 a:=by rw [hf9.t 1 (by simp)];exact t1
  have k11:s9.tm 13 = .int .i64 ((j:Nat):Int):=by rw [hf9.t 13 (by simp)];exact t11
  have kd:s9.df=[]:=by rw [hf9.d];exact td
  have kr:s9.ro=ro:=by rw [hf9.r];exact tr
  have kat:=tat.calm hca9
  clear hca9 hf9
  have k10:=h9
  clear h9
  simp
  refine scan_down (p:=fun x=>!ltVV x D3[a]!) (d:=D3) (i:=i2) (j0:=j) (by omega) [(13,13),(123,141)] rfl rfl rfl rfl k11 ?_ ?_ ?_
  ·intro s9 x1 hx9 h19 hca9 hf9
   have m0:s9.tm 0 = .osl l u 0 d.size 2:=by rw [hf9.t 0 (by simp)];exact k0
   have mc:s9.tm 4=CF:=by rw [hf9.t 4 (by simp)];exact kc
   have m1:s9.tm 1 = .int .i64 a:=by rw [hf9.t 1 (by simp)];exact k1
   have mf:s9.tm 12 = .int .i64 ((i2:Nat):Int):=by rw [hf9.t 12 (by simp)];exact k10
   have hat9:=kat.calm hca9
   generalize hX:(x1:Int)=X at *
   generalize hZ:((i2:Nat):Int)=Z at *
   by_cases hle:i2≤x1
   ·have c1:Z≤X:=by omega
    have ii:=idxV (l:=l) (u:=u) (n:=d.size) (kk:=.i64) (X:=X) (x:=x1) (by omega) (by omega)
    have li:=ldV hat9.1 (x:=x1) (by omega)
    have la:=ldV hat9.1 (x:=a) (by omega)
    simp [hx9,mf,c1,m0,mc,m1,ii,li,ia',la]
    refine kS_evV (f:=121) (first:=[]) (captured:=[]) (evC D3[x1]! D3[a]!) (by simp) (by simp) rfl (by simp) ?_
    simp [hle,hx9,Calm] <;> omega
   ·have c1:¬ Z≤X:=by omega
    simp [hx9,mf,c1,hle,Calm] <;> omega
  ·intro s9 x1 hx9 h19
   have hw:IntKind.i64.wrap (((x1+1:Nat):Int) - 1)=(x1:Int):=by rw [wrapN (by omega) (by omega)];omega
   generalize ((x1+1:Nat):Int)=J at *
   simp [hx9,hw,Calm] <;> omega
  intro s9 h9 hca9 hf9
  obtain ⟨j2,hj2⟩:∃ x,scanDown (fun x=>!ltVV x D3[a]!) D3 i2 j=x:=⟨_,rfl⟩
  have bj2:=scanDown_le (fun x=>!ltVV x D3[a]!) D3 i2 j
  rw [hj2] at h9 bj2
  have q0:s9.tm 0 = .osl l u 0 d.size 2:=by rw [hf9.t 0 (by simp)];exact k0
  have qc:s9.tm 4=CF:=by rw [hf9.t 4 (by simp)];exact kc
  have q1:s9.tm 1 = .int .i64 a:=by rw [hf9.t 1 (by simp)];exact k1
  have q10:s9.tm 12 = .int .i64 ((i2:Nat):Int):=by rw [hf9.t 12 (by simp)];exact k10
  have qd:s9.df=[]:=by rw [hf9.d];exact kd
  have qr:s9.ro=ro:=by rw [hf9.r];exact kr
  have qat:=kat.calm hca9
  clear hca9 hf9
  have q11:=h9
  clear h9
  have hst:=partLoop_step (by omega) hi2 hj2
  rw [hpl] at hst
  obtain ⟨X2,hX2⟩:∃ x:Int,x=(i2:Nat):=⟨_,rfl⟩
  obtain ⟨Z2,hZ2⟩:∃ x:Int,x=(j2:Nat):=⟨_,rfl⟩
  rw [← hX2] at q10
  rw [← hZ2] at q11
  by_cases hgt2:i2 > j2
  ·rw [if_pos hgt2] at hst
   subst hst
   subst hP
   have c2:Z2<X2:=by omega
   rw [← hA] at q1
   have ix:=idxV (l:=l) (u:=u) (n:=d.size) (kk:=.i64) (X:=Z2) (x:=j2) (by omega) (by omega)
   have iy:=idxV (l:=l) (u:=u) (n:=d.size) (kk:=.i64) (X:=A) (x:=a) (by omega) (by omega)
   have lx:=ldV qat.1 (x:=j2) (by omega)
   have ly:=ldV qat.1 (x:=a) (by omega)
   have sa:=stV (d:=D3) (x:=j2) (by omega) D3[a]!
   have sb:=stV (d:=D3.setIfInBounds (j2) D3[a]!) (x:=a) (by rw [Array.size_setIfInBounds];omega) D3[j2]!
   rw [show (D3.setIfInBounds (j2) D3[a]!).setIfInBounds (a) D3[j2]! = swp D3 (j2) (a) from rfl] at sb
   have za:(j2) * 2+2≤D3.size * 2:=by omega
   have zb:(a) * 2+2≤D3.size * 2:=by omega
   simp [q10,q11,q0,qc,q1,c2,ix,iy,lx,ly,sa,sb,za,zb,objCells,hro,qr,qat.1]
   exact endS_2 (by simp [qd]) ⟨by simp [hZ2],qat.swp (by simp) (fun key hk=>by simp [hk]) (by simp [app_tk0]) (by simp;omega)⟩
  ·rw [if_neg hgt2] at hst
   have c2:¬ Z2<X2:=by omega
   have w3:IntKind.i64.wrap (X2+1)=X2+1:=wrapN (by omega) (by omega)
   have w4:IntKind.i64.wrap (Z2 - 1)=Z2 - 1:=wrapN (by omega) (by omega)
   have ix:=idxV (l:=l) (u:=u) (n:=d.size) (kk:=.i64) (X:=X2) (x:=i2) (by omega) (by omega)
   have iy:=idxV (l:=l) (u:=u) (n:=d.size) (kk:=.i64) (X:=Z2) (x:=j2) (by omega) (by omega)
   have lx:=ldV qat.1 (x:=i2) (by omega)
   have ly:=ldV qat.1 (x:=j2) (by omega)
   have sa:=stV (d:=D3) (x:=i2) (by omega) D3[j2]!
   have sb:=stV (d:=D3.setIfInBounds (i2) D3[j2]!) (x:=j2) (by rw [Array.size_setIfInBounds];omega) D3[i2]!
   rw [show (D3.setIfInBounds (i2) D3[j2]!).setIfInBounds (j2) D3[i2]! = swp D3 (i2) (j2) from rfl] at sb
   have za:(i2) * 2+2≤D3.size * 2:=by omega
   have zb:(j2) * 2+2≤D3.size * 2:=by omega
   simp [q10,q11,q0,qc,c2,ix,iy,lx,ly,sa,sb,za,zb,objCells,hro,qr,qat.1,w3,w4]
   exact ⟨j2 - 1+1 - (i2+1),by omega,by rw [hI];exact ⟨i2+1,j2 - 1,rfl,by omega,by omega,by omega,by omega,by simp [hX2],by simp;omega,swp D3 i2 j2,hst.symm,by rw [swp_size,z3],qat.swp (by simp) (fun key hk=>by simp [hk]) (by simp [app_tk0]) (by simp;omega)⟩⟩
end Go.Pv.T.Vs

/- Partitions of what is not less, by a function. -/
namespace Go.Pv.T.Vs
open Go Go.Pv Go.Pv.T Go.Sort
theorem partEqLoop_step {lt:VV→VV→Bool} {a i j i2 j2:Nat} {d:Array VV} (_:1≤i) (h1:scanUp (fun x=>!lt d[a]! x) d j i=i2) (h2:scanDown (fun x=>lt d[a]! x) d i2 j=j2) :
 partEqLoop lt a i j d=if i2 > j2 then (i2,d) else partEqLoop lt a (i2+1) (j2 - 1) (swp d i2 j2):=by
 have g1:=(scanUp_ge (fun x=>!lt d[a]! x) d j i).1
 have g2:=(scanDown_le (fun x=>lt d[a]! x) d i2 j).1
 rw [partEqLoop]
 simp only [h1,h2]
 by_cases h:i2 > j2
 ·rw [if_pos h,if_pos h]
 ·rw [if_neg h,if_neg h,dif_pos (by omega)]
theorem sv212 {Yf:YF} {l u a b pv:Nat} {d:Array VV} (hd:d.size≤1000000) (hb:b≤d.size) (hap:a≤pv) (hpb:pv<b) {ob:Nat→Option Obj'} {tk:Nat→Bool} {ro base ub:Nat} (ho:ob l=some ⟨u,.cells (arr vvC d)⟩) (hro:ro≤u) :
 ∃ r,EvS E Yf.y 212 [.osl l u 0 d.size 2,.int .i64 a,.int .i64 b,.int .i64 pv,CF] ob tk ro base ub r∧r.1 = .int .i64 (partitionEqual ltVV d a b pv).1∧At l u (arr vvC (partitionEqual ltVV d a b pv).2) ob tk ub r.2.1 r.2.2.1 r.2.2.2:=by
 refine EvS_wp (af:=S212) rfl (by decide) ?_
 show wpC E Yf S212.body _ (kEndS S212.res _)
 have w1:IntKind.i64.wrap ((a:Int)+1)=((a+1:Nat):Int):=by rw [wrapN (by omega) (by omega)];omega
 have w2:IntKind.i64.wrap ((b:Int) - 1)=((b - 1:Nat):Int):=by rw [wrapN (by omega) (by omega)];omega
 have ia:∀ n,a<n→idxSlV 2 (.osl l u 0 n 2) (.int .i64 (a:Int))=some (.ptr l u (a * 2)):=fun n h=>idxV rfl h
 have ia':=ia d.size (by omega)
 have ip:=idxV (l:=l) (u:=u) (n:=d.size) (kk:=.i64) (X:=(pv:Int)) (x:=pv) rfl (by omega)
 have la:=ldV ho (x:=a) (by omega)
 have lp:=ldV ho (x:=pv) (by omega)
 have st1:=stV (d:=d) (x:=a) (by omega) d[pv]!
 have st2:=stV (d:=d.setIfInBounds a d[pv]!) (x:=pv) (by rw [Array.size_setIfInBounds];omega) d[a]!
 have hsw:(d.setIfInBounds a d[pv]!).setIfInBounds pv d[a]! = swp d a pv:=rfl
 rw [hsw] at st2
 have hz1:(a) * 2+2≤d.size * 2:=by omega
 have hz2:(pv) * 2+2≤d.size * 2:=by omega
 obtain ⟨P,hP⟩:∃ P,partitionEqual ltVV d a b pv=P:=⟨_,rfl⟩
 rw [hP]
 unfold partitionEqual at hP
 obtain ⟨D,hD⟩:∃ D,swp d a pv=D:=⟨_,rfl⟩
 have zD:D.size=d.size:=by rw [← hD];exact swp_size _ _ _
 rw [hD] at st2 hP
 generalize hA1:((a+1:Nat):Int)=A1 at w1
 generalize hB1:((b - 1:Nat):Int)=B1 at w2
 simp [S212,ia',ip,la,lp,objCells,ho,hro,st1,st2,hz1,hz2,w1,w2]
 refine wpC_gen fun st hst=>?_
 obtain ⟨I,hI⟩:∃ I:Nat→St→Prop,I=fun n s=>∃ i j:Nat,n=j+1 - i∧a+1≤i∧i≤b+1∧a≤j∧j<b∧s.tm 11 = .int .i64 i∧s.tm 12 = .int .i64 j∧∃ D3:Array VV,partEqLoop ltVV a i j D3=P∧D3.size=d.size∧At l u (arr vvC D3) ob tk ub s.ob s.tk s.nx:=⟨_,rfl⟩
 have e0:st.tm 0 = .osl l u 0 d.size 2:=by rw [hst];simp
 have ec:st.tm 4=CF:=by rw [hst];simp
 have e1:st.tm 1 = .int .i64 a:=by rw [hst];simp
 have e9:st.tm 11 = .int .i64 (a+1:Nat):=by rw [hst,hA1];simp
 have e10:st.tm 12 = .int .i64 (b - 1:Nat):=by rw [hst,hB1];simp
 have ed:st.df=[]:=by rw [hst];simp
 have er:st.ro=ro:=by rw [hst];simp
 have eat:At l u (arr vvC D) ob tk ub st.ob st.tk st.nx:=by rw [hst];exact (At.refl ho).swp (by simp) (fun key hk=>by simp [hk]) (by simp [app_tk0]) (by simp;omega)
 clear hst st1 st2 hsw hA1 hB1 w1 w2 la lp ip
 obtain ⟨A,hA⟩:∃ x:Int,x=(a:Nat):=⟨_,rfl⟩
 refine wp_loopF (n:=b - 1+1 - (a+1)) [(11,12),(31,88)] I rfl rfl (by rw [hI];exact ⟨a+1,b - 1,rfl,by omega,by omega,by omega,by omega,e9,e10,D,hP,zD,eat⟩) ?_
 intro n s hIs f
 rw [hI] at hIs
 obtain ⟨i,j,rfl,hi,hib,hja,hjb,t9,t10,D3,hpl,z3,tat⟩:=hIs
 have t0:s.tm 0 = .osl l u 0 d.size 2:=by rw [f.t 0 (by simp)];exact e0
 have tc:s.tm 4=CF:=by rw [f.t 4 (by simp)];exact ec
 have t1:s.tm 1 = .int .i64 a:=by rw [f.t 1 (by simp)];exact e1
 have td:s.df=[]:=by rw [f.d];exact ed
 have tr:s.ro=ro:=by rw [f.r];exact er
 clear f e0 e1 e9 e10 ed er eat
 simp
 refine scan_up (p:=fun x=>!ltVV D3[a]! x) (d:=D3) (i0:=i) (j:=j) [(11,11),(31,49)] rfl rfl rfl rfl t9 ?_ ?_ ?_
 ·intro s9 x1 hx9 h19 h29 hca9 hf9
  have m0:s9.tm 0 = .osl l u 0 d.size 2:=by rw [hf9.t 0 (by simp)];exact t0
  have mc:s9.tm 4=CF:=by rw [hf9.t 4 (by simp)];exact tc
  have m1:s9.tm 1 = .int .i64 a:=by rw [hf9.t 1 (by simp)];exact t1
  have mf:s9.tm 12 = .int .i64 ((j:Nat):Int):=by rw [hf9.t 12 (by simp)];exact t10
  have hat9:=tat.calm hca9
  generalize hX:(x1:Int)=X at *
  generalize hZ:((j:Nat):Int)=Z at *
  by_cases hle:x1≤j
  ·have c1:X≤Z:=by omega
   have ii:=idxV (l:=l) (u:=u) (n:=d.size) (kk:=.i64) (X:=X) (x:=x1) (by omega) (by omega)
   have li:=ldV hat9.1 (x:=x1) (by omega)
   have la:=ldV hat9.1 (x:=a) (by omega)
   simp [hx9,mf,c1,m0,mc,m1,ii,li,ia',la]
   refine kS_evV (f:=121) (first:=[]) (captured:=[]) (evC D3[a]! D3[x1]!) (by simp) (by simp) rfl (by simp) ?_
   simp [hle,hx9,Calm] <;> omega
  ·have c1:¬ X≤Z:=by omega
   simp [hx9,mf,c1,hle,Calm] <;> omega
 ·intro s9 x1 hx9 h19 h29
  have hw:IntKind.i64.wrap ((x1:Int)+1)=(x1:Int)+1:=wrapN (by omega) (by omega)
  simp [hx9,hw,Calm] <;> omega
 intro s9 h9 hca9 hf9
 obtain ⟨i2,hi2⟩:∃ x,scanUp (fun x=>!ltVV D3[a]! x) D3 j i=x:=⟨_,rfl⟩
 have bi2:=scanUp_ge (fun x=>!ltVV D3[a]! x) D3 j i
 rw [hi2] at h9 bi2
 have k0:s9.tm 0 = .osl l u 0 d.size 2:=by rw [hf9.t 0 (by simp)];exact t0
 have kc:s9.tm 4=CF:=by rw [hf9.t 4 (by simp)];exact tc
 have k1:s9.tm 1 = .int .i64 a:=by rw [hf9.t 1 (by simp)];exact t1
 have k10:s9.tm 12 = .int .i64 ((j:Nat):Int):=by rw [hf9.t 12 (by simp)];exact t10
 have kd:s9.df=[]:=by rw [hf9.d];exact td
 have kr:s9.ro=ro:=by rw [hf9.r];exact tr
 have kat:=tat.calm hca9
 clear hca9 hf9
 have k9:=h9
 clear h9
 simp
 refine scan_down (p:=fun x=>ltVV D3[a]! x) (d:=D3) (i:=i2) (j0:=j) (by omega) [(12,12),(50,67)] rfl rfl rfl rfl k10 ?_ ?_ ?_
 ·intro s9 x1 hx9 h19 hca9 hf9
  have m0:s9.tm 0 = .osl l u 0 d.size 2:=by rw [hf9.t 0 (by simp)];exact k0
  have mc:s9.tm 4=CF:=by rw [hf9.t 4 (by simp)];exact kc
  have m1:s9.tm 1 = .int .i64 a:=by rw [hf9.t 1 (by simp)];exact k1
  have mf:s9.tm 11 = .int .i64 ((i2:Nat):Int):=by rw [hf9.t 11 (by simp)];exact k9
  have hat9:=kat.calm hca9
  generalize hX:(x1:Int)=X at *
  generalize hZ:((i2:Nat):Int)=Z at *
  by_cases hle:i2≤x1
  ·have c1:Z≤X:=by omega
   have ii:=idxV (l:=l) (u:=u) (n:=d.size) (kk:=.i64) (X:=X) (x:=x1) (by omega) (by omega)
   have li:=ldV hat9.1 (x:=x1) (by omega)
   have la:=ldV hat9.1 (x:=a) (by omega)
   simp [hx9,mf,c1,m0,mc,m1,ii,li,ia',la]
   refine kS_evV (f:=121) (first:=[]) (captured:=[]) (evC D3[a]! D3[x1]!) (by simp) (by simp) rfl (by simp) ?_
   simp [hle,hx9,Calm] <;> omega
  ·have c1:¬ Z≤X:=by omega
   simp [hx9,mf,c1,hle,Calm] <;> omega
 ·intro s9 x1 hx9 h19
  have hw:IntKind.i64.wrap (((x1+1:Nat):Int) - 1)=(x1:Int):=by rw [wrapN (by omega) (by omega)];omega
  generalize ((x1+1:Nat):Int)=J at *
  simp [hx9,hw,Calm] <;> omega
 intro s9 h9 hca9 hf9
 obtain ⟨j2,hj2⟩:∃ x,scanDown (fun x=>ltVV D3[a]! x) D3 i2 j=x:=⟨_,rfl⟩
 have bj2:=scanDown_le (fun x=>ltVV D3[a]! x) D3 i2 j
 rw [hj2] at h9 bj2
 have q0:s9.tm 0 = .osl l u 0 d.size 2:=by rw [hf9.t 0 (by simp)];exact k0
 have qc:s9.tm 4=CF:=by rw [hf9.t 4 (by simp)];exact kc
 have q1:s9.tm 1 = .int .i64 a:=by rw [hf9.t 1 (by simp)];exact k1
 have q9:s9.tm 11 = .int .i64 ((i2:Nat):Int):=by rw [hf9.t 11 (by simp)];exact k9
 have qd:s9.df=[]:=by rw [hf9.d];exact kd
 have qr:s9.ro=ro:=by rw [hf9.r];exact kr
 have qat:=kat.calm hca9
 clear hca9 hf9
 have q10:=h9
 clear h9
 have hst:=partEqLoop_step (by omega) hi2 hj2
 rw [hpl] at hst
 obtain ⟨X2,hX2⟩:∃ x:Int,x=(i2:Nat):=⟨_,rfl⟩
 obtain ⟨Z2,hZ2⟩:∃ x:Int,x=(j2:Nat):=⟨_,rfl⟩
 rw [← hX2] at q9
 rw [← hZ2] at q10
 by_cases hgt2:i2 > j2
 ·rw [if_pos hgt2] at hst
  subst hst
  have c2:Z2<X2:=by omega
  simp [q9,q10,c2]
  exact endS_1 (by simp [qd]) ⟨by simp [hX2],qat.same rfl rfl (by simp;omega)⟩
 ·rw [if_neg hgt2] at hst
  have c2:¬ Z2<X2:=by omega
  have w3:IntKind.i64.wrap (X2+1)=X2+1:=wrapN (by omega) (by omega)
  have w4:IntKind.i64.wrap (Z2 - 1)=Z2 - 1:=wrapN (by omega) (by omega)
  have ix:=idxV (l:=l) (u:=u) (n:=d.size) (kk:=.i64) (X:=X2) (x:=i2) (by omega) (by omega)
  have iy:=idxV (l:=l) (u:=u) (n:=d.size) (kk:=.i64) (X:=Z2) (x:=j2) (by omega) (by omega)
  have lx:=ldV qat.1 (x:=i2) (by omega)
  have ly:=ldV qat.1 (x:=j2) (by omega)
  have sa:=stV (d:=D3) (x:=i2) (by omega) D3[j2]!
  have sb:=stV (d:=D3.setIfInBounds (i2) D3[j2]!) (x:=j2) (by rw [Array.size_setIfInBounds];omega) D3[i2]!
  rw [show (D3.setIfInBounds (i2) D3[j2]!).setIfInBounds (j2) D3[i2]! = swp D3 (i2) (j2) from rfl] at sb
  have za:(i2) * 2+2≤D3.size * 2:=by omega
  have zb:(j2) * 2+2≤D3.size * 2:=by omega
  simp [q9,q10,q0,qc,c2,ix,iy,lx,ly,sa,sb,za,zb,objCells,hro,qr,qat.1,w3,w4]
  exact ⟨j2 - 1+1 - (i2+1),by omega,by rw [hI];exact ⟨i2+1,j2 - 1,rfl,by omega,by omega,by omega,by omega,by simp [hX2],by simp;omega,swp D3 i2 j2,hst.symm,by rw [swp_size,z3],qat.swp (by simp) (fun key hk=>by simp [hk]) (by simp [app_tk0]) (by simp;omega)⟩⟩
end Go.Pv.T.Vs

/- Breaking patterns, of values. -/
namespace Go.Pv.T.Vs
open Go Go.Pv Go.Pv.T Go.Sort
set_option maxHeartbeats 1000000 in
theorem sv208 {Yf:YF} {l u a b:Nat} {d:Array VV} (hd:d.size≤49) (hb:b≤d.size) (hab:a+8≤b) {ob:Nat→Option Obj'} {tk:Nat→Bool} {ro base ub:Nat} (ho:ob l=some ⟨u,.cells (arr vvC d)⟩) (hro:ro≤u) (hl:∀ m,ub≤m→l≠2 * m+1) (hru:ro≤ub) :
 ∃ r,EvS E Yf.y 208 [.osl l u 0 d.size 2,.int .i64 a,.int .i64 b,CF] ob tk ro base ub r∧∃ d',PermIn a b d d'∧At l u (arr vvC d') ob tk ub r.2.1 r.2.2.1 r.2.2.2:=by
 refine EvS_wp (af:=S208) rfl (by decide) ?_
 show wpC E Yf S208.body _ (kEndS S208.res _)
 obtain ⟨A,hA⟩:∃ x:Int,x=(a:Nat):=⟨_,rfl⟩
 obtain ⟨B,hB⟩:∃ x:Int,x=(b:Nat):=⟨_,rfl⟩
 obtain ⟨L,hL⟩:∃ x:Int,x=((b - a:Nat):Int):=⟨_,rfl⟩
 obtain ⟨q,hq⟩:∃ q,q=(b - a) / 4:=⟨_,rfl⟩
 obtain ⟨Q,hQ⟩:∃ x:Int,x=(q:Nat):=⟨_,rfl⟩
 obtain ⟨Q2,hQ2⟩:∃ x:Int,x=Q * 2:=⟨_,rfl⟩
 obtain ⟨P2,hP2⟩:∃ x:Int,x=A+Q2:=⟨_,rfl⟩
 obtain ⟨P3,hP3⟩:∃ x:Int,x=P2+1:=⟨_,rfl⟩
 have w1:IntKind.i64.wrap (B - A)=L:=by rw [wrapN (by omega) (by omega)];omega
 have w2:IntKind.i64.wrap (L.tdiv 4)=Q:=by
  have e2:L.tdiv 4=(((b - a) / 4:Nat):Int):=by rw [hL];exact (Int.ofNat_tdiv _ 4).symm
  rw [e2,wrapN (by omega) (by omega)];omega
 have w4:IntKind.i64.wrap (Q * 2)=Q2:=by rw [wrapN (by omega) (by omega)];exact hQ2.symm
 have w5:IntKind.i64.wrap (A+Q2)=P2:=by rw [wrapN (by omega) (by omega)];exact hP2.symm
 have w6:IntKind.i64.wrap (P2 - 1)=((a+q * 2 - 1:Nat):Int):=by rw [wrapN (by omega) (by omega)];omega
 have w7:IntKind.i64.wrap (P2+1)=P3:=by rw [wrapN (by omega) (by omega)];exact hP3.symm
 have w8:IntKind.u64.wrap L=L:=by rw [IntKind.wrap_u64];omega
 have c8:8≤L:=by omega
 have hq2:q * 2+2≤b - a∧1≤q:=by omega
 obtain ⟨m,em,m1,m2⟩:=ev201 (n:=b - a) (by omega) (by omega)
 rw [← hL] at em
 rw [← hA,← hB]
 generalize hS:((a+q * 2 - 1:Nat):Int)=S0 at w6
 simp [S208,w1,c8,w8,splice,objCells]
 obtain ⟨N,hN⟩:∃ N,ub+64+64+64+64+64+64+64+64=N:=⟨_,rfl⟩
 have hl':=hl N (by omega)
 refine ⟨by omega,?_⟩
 refine kS_ev em (by simp) rfl (by simp) ?_
 simp [w2,w4,w5,w6]
 refine wpC_gen fun st hst=>?_
 have g0:st.tm 0 = .osl l u 0 d.size 2:=by rw [hst];simp
 have gc:st.tm 3=CF:=by rw [hst];simp
 have g1:st.tm 1 = .int .i64 A:=by rw [hst];simp
 have g6:st.tm 8 = .int .i64 L:=by rw [hst];simp
 have g7:st.tm 9 = .ptr (2 * N+1) N 0:=by rw [hst,← hN];simp
 have g8:st.tm 10 = .int .u64 m:=by rw [hst];simp
 have g9:st.tm 11 = .int .i64 ((a+q * 2 - 1+0:Nat):Int):=by rw [Nat.add_zero,hS,hst];simp
 have gd:st.df=[]:=by rw [hst];simp
 have gr:st.ro=ro:=by rw [hst];simp
 have gn:N≤st.nx:=by rw [hst,← hN];simp
 have gw:st.ob (2 * N+1)=some ⟨N,.cells [.int .u64 L]⟩:=by rw [hst,← hN];simp
 have gf:∀ key,key≠2 * N+1→st.ob key=ob key:=by
  intro key hk
  rw [← hN] at hk
  rw [hst];simp [hk]
 have gt:st.tk=tk:=by rw [hst];simp [app_tk0]
 have hNu:ub≤N:=by rw [← hN];omega
 have hroN:ro≤N:=by omega
 clear hst em hN hS w6
 have gat:At l u (arr vvC d) ob tk ub st.ob st.tk st.nx:=⟨(gf l hl').trans ho,fun key h1 h2=>gf key (h2 N hNu),gt,by omega⟩
 obtain ⟨I,hI⟩:∃ I:Nat→St→Prop,I=fun n s=>∃ k:Nat,n=3 - k∧k≤3∧s.tm 11 = .int .i64 ((a+q * 2 - 1+k:Nat):Int)∧(∃ z,s.ob (2 * N+1)=some ⟨N,.cells [.int .u64 z]⟩)∧∃ d1,PermIn a b d d1∧At l u (arr vvC d1) ob tk ub s.ob s.tk s.nx:=⟨_,rfl⟩
 refine wp_loopF (n:=3 - 0) [(11,12),(28,66)] I rfl rfl (by rw [hI];exact ⟨0,rfl,by omega,g9,⟨L,gw⟩,d,permIn_refl d a b,gat⟩) ?_
 intro n s hIs f
 rw [hI] at hIs
 obtain ⟨k,rfl,hk3,h9,⟨z,hz⟩,d1,hperm,hat⟩:=hIs
 have f0:s.tm 0 = .osl l u 0 d1.size 2:=by rw [f.t 0 (by simp),g0,hperm.1]
 have fc:s.tm 3=CF:=by rw [f.t 3 (by simp),gc]
 have f1:s.tm 1 = .int .i64 A:=by rw [f.t 1 (by simp)];exact g1
 have f6:s.tm 8 = .int .i64 L:=by rw [f.t 8 (by simp)];exact g6
 have f7:s.tm 9 = .ptr (2 * N+1) N 0:=by rw [f.t 9 (by simp)];exact g7
 have f8:s.tm 10 = .int .u64 m:=by rw [f.t 10 (by simp)];exact g8
 have fd:s.df=[]:=by rw [f.d];exact gd
 have fr:s.ro=ro:=by rw [f.r];exact gr
 clear f g0 g1 g6 g7 g8 g9 gd gr gn gw gf gt gat
 have z1:=hperm.1
 obtain ⟨X,hX⟩:∃ x:Int,x=((a+q * 2 - 1+k:Nat):Int):=⟨_,rfl⟩
 rw [← hX] at h9
 by_cases hk:k=3
 ·have c1:¬ X≤P3:=by omega
  simp [h9,f1,f6,w2,w4,w5,w7,c1]
  exact endS_nil (Or.inl rfl) (by simp [fd]) ⟨d1,hperm,hat.same rfl rfl (by simp;omega)⟩
 have c1:X≤P3:=by omega
 have w9:IntKind.u64.wrap ((m:Int) - 1)=((m - 1:Nat):Int):=by rw [IntKind.wrap_u64];omega
 simp [h9,f1,f6,w2,w4,w5,w7,c1]
 refine kS_callP (vs:=[.ptr (2 * N+1) N 0]) (by simp [f7]) rfl (sv202 (w:=2 * N+1) (uw:=N) (by simpa using hz) (by simp [fr,hroN])) ?_
 rintro v ob1 tk1 ub1 ⟨⟨z',hv,hz'⟩,q2,q3,q4⟩
 simp only at hv hz' q2 q3 q4
 subst hv
 obtain ⟨y,hy1,hy2⟩:=andU z' (m - 1) (by omega)
 have w10:IntKind.i64.wrap (y:Int)=y:=wrapN (by omega) (by omega)
 have w11:IntKind.i64.wrap (X+1)=((a+q * 2 - 1+(k+1):Nat):Int):=by rw [wrapN (by omega) (by omega)];omega
 generalize hX1:((a+q * 2 - 1+(k+1):Nat):Int)=X1 at w11
 simp [f8,w9,hy1,w10,f6]
 generalize hQ:kSeq E Yf (C.draw _ _) _=Qd
 have fin:∀ (s1:St) (o:Nat),o<b - a→s1.tm 12 = .int .i64 o→s1.tm 11 = .int .i64 X→s1.tm 0 = .osl l u 0 d1.size 2→s1.tm 1 = .int .i64 A→s1.df=[]→s1.ro=ro→(∃ z,s1.ob (2 * N+1)=some ⟨N,.cells [.int .u64 z]⟩)→At l u (arr vvC d1) ob tk ub s1.ob s1.tk s1.nx→Qd .nrm s1:=by
  intro s1 o ho1 k10 k9 k0 k1 kd kr kw kat
  rw [← hQ]
  obtain ⟨O,hO⟩:∃ x:Int,x=(o:Nat):=⟨_,rfl⟩
  obtain ⟨AO,hAO⟩:∃ x:Int,x=A+O:=⟨_,rfl⟩
  rw [← hO] at k10
  have w12:IntKind.i64.wrap (A+O)=AO:=by rw [wrapN (by omega) (by omega)];exact hAO.symm
  have ix:=idxV (l:=l) (u:=u) (n:=d1.size) (kk:=.i64) (X:=X) (x:=a+q * 2 - 1+k) (by omega) (by omega)
  have iy:=idxV (l:=l) (u:=u) (n:=d1.size) (kk:=.i64) (X:=AO) (x:=a+o) (by omega) (by omega)
  have lx:=ldV kat.1 (x:=a+q * 2 - 1+k) (by omega)
  have ly:=ldV kat.1 (x:=a+o) (by omega)
  have sa:=stV (d:=d1) (x:=a+q * 2 - 1+k) (by omega) d1[a+o]!
  have sb:=stV (d:=d1.setIfInBounds (a+q * 2 - 1+k) d1[a+o]!) (x:=a+o) (by rw [Array.size_setIfInBounds];omega) d1[a+q * 2 - 1+k]!
  rw [show (d1.setIfInBounds (a+q * 2 - 1+k) d1[a+o]!).setIfInBounds (a+o) d1[a+q * 2 - 1+k]! = swp d1 (a+q * 2 - 1+k) (a+o) from rfl] at sb
  have za:(a+q * 2 - 1+k) * 2+2≤d1.size * 2:=by omega
  have zb:(a+o) * 2+2≤d1.size * 2:=by omega
  have hsp:=swp_permIn d1 a b (a+q * 2 - 1+k) (a+o) (by omega) (by omega) (by omega) (by omega) (by omega)
  obtain ⟨zz,hzz⟩:=kw
  have hl'':¬ 2 * N+1=l:=fun e=>hl' e.symm
  generalize a+q * 2 - 1+k=xx at *
  simp [k10,k9,k0,k1,w12,ix,iy,lx,ly,sa,sb,za,zb,objCells,hro,kr,kat.1,w11]
  exact ⟨3 - (k+1),by omega,by rw [hI];exact ⟨k+1,rfl,by omega,by simp [hX1],⟨zz,by simp [hl'',hzz]⟩,swp d1 xx (a+o),permIn_trans _ _ _ a b hperm hsp,kat.swp (by simp) (fun key hk=>by simp [hk]) (by simp [app_tk0]) (by simp;omega)⟩⟩
 clear hQ
 have hat1:∀ ub2,ub1≤ub2→At l u (arr vvC d1) ob tk ub ob1 tk1 ub2:=fun ub2 hu=>⟨(q2 l hl').trans (by simpa using hat.1),fun key h1 h2=>(q2 key (h2 N hNu)).trans (by simpa using hat.2.1 key h1 h2),q3.trans (by simpa using hat.2.2.1),by have:=hat.2.2.2;omega⟩
 by_cases hyb:L≤(y:Int)
 ·have w13:IntKind.i64.wrap ((y:Int) - L)=((y - (b - a):Nat):Int):=by rw [wrapN (by omega) (by omega)];omega
  simp [hyb,f6,w13]
  exact fin _ (y - (b - a)) (by omega) (by simp) (by simp [h9]) (by simp [f0,fc]) (by simp [f1]) (by simp [fd]) (by simp [fr]) ⟨z',by simpa using hz'⟩ (hat1 _ (by simp;omega))
 ·simp [hyb]
  exact fin _ y (by omega) (by simp) (by simp [h9]) (by simp [f0,fc]) (by simp [f1]) (by simp [fd]) (by simp [fr]) ⟨z',by simpa using hz'⟩ (hat1 _ (by simp;omega))
end Go.Pv.T.Vs

/- Partial insertion sort of few, by a function. -/
namespace Go.Pv.T.Vs
open Go Go.Pv Go.Pv.T Go.Sort
theorem partialIns_few {d:Array VV} {a b:Nat} (h:b - a<50):partialInsertionSort ltVV d a b=(d,decide (scanSorted ltVV d b (a+1)=b)):=by
 unfold partialInsertionSort
 rw [partialIns]
 simp only
 by_cases hb:scanSorted ltVV d b (a+1)=b
 ·rw [if_pos hb,decide_eq_true hb]
 ·rw [if_neg hb,if_pos h,decide_eq_false hb]
theorem sv211 {Yf:YF} {l u a b:Nat} {d:Array VV} (hd:d.size≤49) (hb:b≤d.size) (hab:a<b) {ob:Nat→Option Obj'} {tk:Nat→Bool} {ro base ub:Nat} (ho:ob l=some ⟨u,.cells (arr vvC d)⟩) :
 ∃ r,EvS E Yf.y 211 [.osl l u 0 d.size 2,.int .i64 a,.int .i64 b,CF] ob tk ro base ub r∧r.1 = .bool (decide (scanSorted ltVV d b (a+1)=b))∧At l u (arr vvC d) ob tk ub r.2.1 r.2.2.1 r.2.2.2:=by
 refine EvS_wp (af:=S211) rfl (by decide) ?_
 show wpC E Yf S211.body _ (kEndS S211.res _)
 have w1:IntKind.i64.wrap ((a:Int)+1)=((a+1:Nat):Int):=by rw [wrapN (by omega) (by omega)];omega
 have w2:IntKind.i64.wrap ((b:Int) - a)=(b:Int) - a:=wrapN (by omega) (by omega)
 have c2:(b:Int) - a<50:=by omega
 generalize hA1:((a+1:Nat):Int)=A1 at w1
 simp [S211,w1]
 refine wp_unroll 1 ?_
 simp
 refine wpC_gen fun st hst=>?_
 have g0:st.tm 0 = .osl l u 0 d.size 2:=by rw [hst];simp
 have gc:st.tm 3=CF:=by rw [hst];simp
 have g1:st.tm 1 = .int .i64 a:=by rw [hst];simp
 have g2:st.tm 2 = .int .i64 b:=by rw [hst];simp
 have g7:st.tm 9 = .int .i64 (a+1:Nat):=by rw [hst,hA1];simp
 have gd:st.df=[]:=by rw [hst];simp
 have gat:At l u (arr vvC d) ob tk ub st.ob st.tk st.nx:=by rw [hst];exact (At.refl ho).same rfl rfl (by simp;omega)
 clear hst hA1 w1
 obtain ⟨I,hI⟩:∃ I:Nat→St→Prop,I=fun n s=>∃ i:Nat,n=b - i∧a+1≤i∧i≤b∧s.tm 9 = .int .i64 i∧scanSorted ltVV d b i=scanSorted ltVV d b (a+1)∧At l u (arr vvC d) ob tk ub s.ob s.tk s.nx:=⟨_,rfl⟩
 refine wp_loopF (n:=b - (a+1)) [(9,9),(19,38)] I rfl rfl (by rw [hI];exact ⟨a+1,rfl,Nat.le_refl _,by omega,g7,rfl,gat⟩) ?_
 intro n s hIs f
 rw [hI] at hIs
 obtain ⟨i,rfl,hi,hib,h7,hsc,hat⟩:=hIs
 have f0:s.tm 0 = .osl l u 0 d.size 2:=by rw [f.t 0 (by simp)];exact g0
 have fc:s.tm 3=CF:=by rw [f.t 3 (by simp)];exact gc
 have f1:s.tm 1 = .int .i64 a:=by rw [f.t 1 (by simp)];exact g1
 have f2:s.tm 2 = .int .i64 b:=by rw [f.t 2 (by simp)];exact g2
 have fd:s.df=[]:=by rw [f.d];exact gd
 clear f
 obtain ⟨X,hX⟩:∃ x:Int,x=(i:Nat):=⟨_,rfl⟩
 obtain ⟨B,hB⟩:∃ x:Int,x=(b:Nat):=⟨_,rfl⟩
 rw [← hX] at h7
 rw [← hB] at f2 w2 c2
 by_cases hlt:i<b
 ·have c1:X<B:=by omega
  have w3:IntKind.i64.wrap (X - 1)=X - 1:=wrapN (by omega) (by omega)
  have w4:IntKind.i64.wrap (X+1)=((i+1:Nat):Int):=by rw [wrapN (by omega) (by omega)];omega
  have ix:=idxV (l:=l) (u:=u) (n:=d.size) (kk:=.i64) (X:=X) (x:=i) (by omega) (by omega)
  have iy:=idxV (l:=l) (u:=u) (n:=d.size) (kk:=.i64) (X:=X - 1) (x:=i - 1) (by omega) (by omega)
  have lx:=ldV hat.1 (x:=i) (by omega)
  have ly:=ldV hat.1 (x:=i - 1) (by omega)
  generalize hX1:((i+1:Nat):Int)=X1 at w4
  simp [h7,f2,c1,f0,fc,ix,iy,lx,ly,w3]
  refine kS_evV (f:=121) (first:=[]) (captured:=[]) (evC d[i]! d[i - 1]!) (by simp) (by simp) rfl (by simp) ?_
  simp
  cases hl:ltVV d[i]! d[i - 1]!
  ·simp [h7,w4]
   refine ⟨b - (i+1),by omega,?_⟩
   rw [hI]
   refine ⟨i+1,rfl,by omega,by omega,by simp [hX1],?_,hat.same rfl rfl (by simp;omega)⟩
   rw [← hsc]
   conv=>rhs;rw [scanSorted]
   simp [hlt,hl]
  ·have e3:scanSorted ltVV d b i=i:=by rw [scanSorted];simp [hl]
   rw [e3] at hsc
   have hne:¬ scanSorted ltVV d b (a+1)=b:=by omega
   have c3:¬ (X=B):=by omega
   have c3':(X == B)=false:=by simpa using c3
   simp [h7,f2,c3',w2,c2,f1]
   exact endS_1 (by simp [fd]) ⟨by simp [hne],hat.same rfl rfl (by simp;omega)⟩
 ·have c1:¬ X<B:=by omega
  have e3:scanSorted ltVV d b i=i:=by rw [scanSorted];simp [hlt]
  rw [e3] at hsc
  have hne:scanSorted ltVV d b (a+1)=b:=by omega
  have c3:X=B:=by omega
  rw [c3] at h7 c1
  simp [h7,f2,c1]
  exact endS_1 (by simp [fd]) ⟨by simp [hne],hat.same rfl rfl (by simp;omega)⟩
end Go.Pv.T.Vs

/- Sorting of few by a function: the recursion. -/
namespace Go.Pv.T.Vs
open Go Go.Pv Go.Pv.T Go.Sort
structure PQ (l u ro a b:Nat) (d:Array VV) (ob:Nat→Option Obj') (tk:Nat→Bool) (ub a1 b1:Nat) (d1:Array VV) (s:St):Prop where
 t0:s.tm 0 = .osl l u 0 d.size 2
 t1:s.tm 1 = .int .i64 a1
 t2:s.tm 2 = .int .i64 b1
 t10:s.tm 12 = .int .i64 ((b1:Int) - a1)
 tc:s.tm 4=CF
 df:s.df=[]
 ro:s.ro=ro
 mem:At l u (arr vvC d1) ob tk ub s.ob s.tk s.nx
 sz:d1.size=d.size
 bl:Below ltVV a1 b1 d1
 go:∀ R,PermIn a1 b1 d1 R→SortedIn ltVV a1 b1 R→PermIn a b d R∧SortedIn ltVV a b R
def Sorted (l u a b:Nat) (d:Array VV) (ob:Nat→Option Obj') (tk:Nat→Bool) (ub:Nat) (r:V × (Nat→Option Obj') × (Nat→Bool) × Nat):Prop:=∃ d',PermIn a b d d'∧SortedIn ltVV a b d'∧At l u (arr vvC d') ob tk ub r.2.1 r.2.2.1 r.2.2.2
theorem PQ.turn {l u ro a b:Nat} {d:Array VV} {ob:Nat→Option Obj'} {tk:Nat→Bool} {ub a1 b1:Nat} {d2 d3:Array VV} {s s':St} (hp:PQ l u ro a b d ob tk ub a1 b1 d2 s) (hb1:b1≤d.size) (h0:s'.tm 0=s.tm 0) (h1:s'.tm 1=s.tm 1) (h2:s'.tm 2=s.tm 2) (h10:s'.tm 12=s.tm 12) (hc:s'.tm 4=s.tm 4) (hd:s'.df=s.df) (hr:s'.ro=s.ro)
 (hm:At l u (arr vvC d3) ob tk ub s'.ob s'.tk s'.nx) (hpm:PermIn a1 b1 d2 d3):PQ l u ro a b d ob tk ub a1 b1 d3 s' :=
 ⟨h0.trans hp.t0,h1.trans hp.t1,h2.trans hp.t2,h10.trans hp.t10,hc.trans hp.tc,hd.trans hp.df,hr.trans hp.ro,hm,hpm.1.trans hp.sz,hp.bl.perm (by rw [hp.sz];exact hb1) hpm,fun R hR hs=>hp.go R (permIn_trans _ _ _ a1 b1 hpm hR) hs⟩
theorem PQ.mid {l u ro a b:Nat} {d:Array VV} {ob:Nat→Option Obj'} {tk:Nat→Bool} {ub a1 b1:Nat} {d2:Array VV} {s:St} (hp:PQ l u ro a b d ob tk ub a1 b1 d2 s) {cs:List V} {ob1:Nat→Option Obj'} {tk1:Nat→Bool} {ub0 ub1 ub2:Nat} (hat:At l u cs s.ob s.tk ub0 ob1 tk1 ub1) (h0:s.nx≤ub0) (h2:ub1≤ub2):At l u cs ob tk ub ob1 tk1 ub2:=(hp.mem.trans hat h0).same rfl rfl h2
theorem sv170 (N:Nat):∀ (Yf:YF) (l u a b lim:Nat) (d:Array VV),b - a<N→d.size≤49→b≤d.size→a≤b→lim≤1000→Below ltVV a b d→∀ (ob:Nat→Option Obj') (tk:Nat→Bool) (ro base ub:Nat),ob l=some ⟨u,.cells (arr vvC d)⟩→ro≤u→(∀ m,ub≤m→l≠2 * m+1)→ro≤ub →
 ∃ r,EvS E Yf.y 170 [.osl l u 0 d.size 2,.int .i64 a,.int .i64 b,.int .i64 lim,CF] ob tk ro base ub r∧Sorted l u a b d ob tk ub r:=by
 induction N with
 | zero=>intro _ _ _ _ _ _ _ h;omega
 | succ N ih =>
  intro Yf l u a b lim d hN hd hb hab hlim hbl ob tk ro base ub ho hro hl hru
  refine EvS_wp (af:=S170) rfl (by decide) ?_
  show wpC E Yf S170.body _ (kEndS S170.res _)
  simp [S170]
  obtain ⟨I,hI⟩:∃ I:Nat→St→Prop,I=fun n s=>∃ a1 b1 lim1:Nat,∃ wb wp:Bool,n=b1 - a1∧a1≤b1∧b1≤d.size∧b1 - a1≤b - a∧lim1≤1000∧s.tm 3 = .int .i64 lim1∧s.tm 10 = .bool wb∧s.tm 11 = .bool wp∧∃ d1:Array VV,PQ l u ro a b d ob tk ub a1 b1 d1 (s.setT (some 12) (.int .i64 ((b1:Int) - a1))):=⟨_,rfl⟩
  refine wp_loopF (n:=b - a) [(1,3),(10,147)] I rfl rfl (by
   rw [hI]
   exact ⟨a,b,lim,true,true,rfl,hab,hb,Nat.le_refl _,hlim,by simp,by simp,by simp,d,⟨by simp,by simp,by simp,by simp,by simp,by simp,by simp,(At.refl ho).same rfl rfl (by simp;omega),rfl,hbl,fun R h1 h2=>⟨h1,h2⟩⟩⟩) ?_
  intro n s hIs f
  rw [hI] at hIs
  obtain ⟨a1,b1,lim1,wb,wp,rfl,hab1,hb1,hlen,hlim1,h3,h8,h9,d1,hp⟩:=hIs
  clear f
  have f0:s.tm 0 = .osl l u 0 d.size 2:=by simpa using hp.t0
  have fc:s.tm 4=CF:=by simpa using hp.tc
  have f1:s.tm 1 = .int .i64 a1:=by simpa using hp.t1
  have f2:s.tm 2 = .int .i64 b1:=by simpa using hp.t2
  have fd:s.df=[]:=by simpa using hp.df
  have fr:s.ro=ro:=by simpa using hp.ro
  have hm:At l u (arr vvC d1) ob tk ub s.ob s.tk s.nx:=by simpa using hp.mem
  have z1:=hp.sz
  have w1:IntKind.i64.wrap ((b1:Int) - a1)=(b1:Int) - a1:=wrapN (by omega) (by omega)
  have hnx:=hm.2.2.2
  by_cases h12:b1 - a1≤12
  ·have c1:(b1:Int) - a1≤12:=by omega
   simp [f1,f2,w1,c1,f0,fc]
   refine kS_callP (vs:=[.osl l u 0 d1.size 2,.int .i64 a1,.int .i64 b1,CF]) (by simp [z1]) rfl (sv206 (l:=l) (u:=u) (d:=d1) (by omega) (by omega) hab1 (by simpa using hm.1) (by simp [fr,hro])) ?_
   rintro v ob1 tk1 ub1 hat
   have hins:=insertionSort_holds (lt:=ltVV) swo_ltVV d1 a1 b1 hab1 (by omega)
   obtain ⟨q1,q2⟩:=hp.go _ hins.1 hins.2
   simp
   exact endS_nil (Or.inr rfl) (by simp [fd]) ⟨_,q1,q2,(hm.trans hat (by omega)).same rfl rfl (by simp)⟩
  have c1:¬ (b1:Int) - a1≤12:=by omega
  by_cases hl0:lim1=0
  ·subst hl0
   simp [f1,f2,w1,c1,f0,fc,h3]
   refine kS_callP (vs:=[.osl l u 0 d1.size 2,.int .i64 a1,.int .i64 b1,CF]) (by simp [z1]) rfl (sv207 (l:=l) (u:=u) (d:=d1) (by omega) (by omega) hab1 (by simpa using hm.1) (by simp [fr,hro])) ?_
   rintro v ob1 tk1 ub1 hat
   have hins:=heapSort_holds (lt:=ltVV) swo_ltVV d1 a1 b1 hab1 (by omega)
   obtain ⟨q1,q2⟩:=hp.go _ hins.1 hins.2
   simp
   exact endS_nil (Or.inr rfl) (by simp [fd]) ⟨_,q1,q2,(hm.trans hat (by omega)).same rfl rfl (by simp)⟩
  have c2:((lim1:Int) == 0)=false:=by simp;omega
  simp [f1,f2,w1,c1,h3,c2,h8]
  have hp':PQ l u ro a b d ob tk ub a1 b1 d1 (s.setT (some 12) (.int .i64 ((b1:Int) - a1))):=hp
  have hp0:=hp'
  generalize hK:kSeq E Yf _ _=K
  have restB:∀ (s:St) (d2:Array VV) (lim2:Nat),lim2≤1000→PQ l u ro a b d ob tk ub a1 b1 d2 s→s.tm 3 = .int .i64 lim2→s.tm 10 = .bool wb→s.tm 11 = .bool wp→K .nrm s:=by
   intro s d2 lim2 hlim2 hp h3 h8 h9
   rw [← hK]
   have z2:=hp.sz
   have hnx:=hp.mem.2.2.2
   simp [hp.t0,hp.tc,hp.t1,hp.t2]
   refine kS_callP (vs:=[.osl l u 0 d2.size 2,.int .i64 a1,.int .i64 b1,CF]) (by simp [z2]) rfl (sv209 (l:=l) (u:=u) (d:=d2) (by omega) (by omega) (by omega) (by simpa using hp.mem.1) (fun m hm=>hl m (by first | omega | (simp at hm;omega))) (by simp [hp.ro];omega)) ?_
   rintro v ob1 tk1 ub1 ⟨⟨pv,hnt,hv,hpa,hpb,hh⟩,hat⟩
   simp only at hv
   subst hv
   simp only at hat
   have hat':=fun ub2 (h:ub1≤ub2)=>hp.mid (ub2:=ub2) hat (by first | omega | (simp;done) | (simp;omega)) h
   simp
   generalize hK2:kSeq E Yf _ _=K2
   have restC:∀ (s:St) (d3:Array VV) (pv hnt:Nat),a1≤pv→pv<b1→hnt≤2→PQ l u ro a b d ob tk ub a1 b1 d3 s→s.tm 3 = .int .i64 lim2→s.tm 10 = .bool wb→s.tm 11 = .bool wp→s.tm 13 = .int .i64 pv→s.tm 14 = .int .i64 hnt→K2 .nrm s:=by
    intro s d3 pv hnt hpa hpb hh hp h3 h8 h9 h11 h12
    rw [← hK2,kSeq_nrm,kC_seq]
    clear hK2
    generalize hK3:kSeq E Yf _ _=K3
    have z3:=hp.sz
    have restD:∀ s:St,PQ l u ro a b d ob tk ub a1 b1 d3 s→s.tm 3 = .int .i64 lim2→s.tm 10 = .bool wb→s.tm 11 = .bool wp→s.tm 13 = .int .i64 pv→K3 .nrm s:=by
     intro s hp h3 h8 h9 h11
     rw [← hK3,kSeq_nrm,kC_seq]
     generalize hK4:kSeq E Yf _ _=K4
     have restE:∀ s:St,PQ l u ro a b d ob tk ub a1 b1 d3 s→s.tm 3 = .int .i64 lim2→s.tm 13 = .int .i64 pv→K4 .nrm s:=by
      intro s hp h3 h11
      rw [← hK4,kSeq_nrm]
      have hnx:=hp.mem.2.2.2
      simp [hp.t0,hp.tc,hp.t1,hp.t2,h11]
      refine kS_callP (vs:=[.osl l u 0 d3.size 2,.int .i64 a1,.int .i64 b1,.int .i64 pv,CF]) (by simp [z3]) rfl (sv213 (l:=l) (u:=u) (d:=d3) (by omega) (by omega) hpa hpb (by simpa using hp.mem.1) (by simp [hp.ro,hro])) ?_
      rintro v ob5 tk5 ub5 ⟨hv,hat⟩
      simp only at hv hat
      subst hv
      obtain ⟨⟨mid,ap,d4⟩,hx⟩:∃ P,partition ltVV d3 a1 b1 pv=P:=⟨_,rfl⟩
      obtain ⟨g1,g2,hs4,hBa,hBr,hleft,hright⟩:=round_part swo_ltVV (partition_holds ltVV) hpa hpb (by omega) hp.bl hx
      rw [hx] at hat ⊢
      have hat5:=fun ub2 (h:ub5≤ub2)=>hp.mid (ub2:=ub2) hat (by first | omega | (simp;done) | (simp;omega)) h
      have hn5:=(hat5 ub5 (Nat.le_refl _)).2.2.2
      have w5:IntKind.i64.wrap ((mid:Int) - a1)=(mid:Int) - a1:=wrapN (by omega) (by omega)
      have w6:IntKind.i64.wrap ((b1:Int) - mid)=(b1:Int) - mid:=wrapN (by omega) (by omega)
      have w7:IntKind.i64.wrap ((mid:Int)+1)=((mid+1:Nat):Int):=by rw [wrapN (by omega) (by omega)];omega
      generalize hM1:((mid+1:Nat):Int)=M1 at w7
      have t10:=hp.t10
      simp [hp.t1,hp.t2,t10,w5,w6]
      generalize IntKind.i64.wrap (((b1:Int) - a1).tdiv 8)=T
      by_cases hlr:mid - a1<b1 - mid
      ·have c5:(mid:Int) - a1<b1 - mid:=by omega
       simp [c5,hp.t0,hp.tc,hp.t1,h3]
       refine kS_callP (vs:=[.osl l u 0 d4.size 2,.int .i64 a1,.int .i64 mid,.int .i64 lim2,CF]) (by simp [hs4,z3]) rfl (ih Yf l u a1 mid lim2 d4 (by omega) (by omega) (by omega) g1 hlim2 hBa _ _ _ _ _ (by simpa using hat.1) (by simp [hp.ro,hro]) (fun m hm=>hl m (by first | omega | (simp at hm;omega))) (by first | (simp [hp.ro];omega) | simp [hp.ro])) ?_
       rintro v ob6 tk6 ub6 ⟨L,hL1,hL2,hat6⟩
       simp only at hat6
       obtain ⟨hBL,hfin⟩:=hleft L hL1 hL2
       simp [w7]
       exact ⟨b1 - (mid+1),by omega,by
        rw [hI]
        exact ⟨mid+1,b1,lim2,decide (T≤(mid:Int) - a1),ap,rfl,by omega,hb1,by omega,hlim2,by simp [h3],by simp,by simp,L,⟨by simp [hp.t0,hp.tc],by simp [hM1],by simp [hp.t2],by simp,by simp [hp.tc],by simp [hp.df],by simp [hp.ro],
         ((hat5 ub5 (Nat.le_refl _)).trans hat6 (by first | omega | (simp;done) | (simp;omega))).same rfl rfl (by first | omega | (simp;done) | (simp;omega)),by rw [hL1.1,hs4,z3],hBL,fun R hR hs=>by
           obtain ⟨p1,p2⟩:=hfin R hR hs
           exact hp.go R p1 p2⟩⟩⟩
      ·have c5:¬ (mid:Int) - a1<b1 - mid:=by omega
       simp [c5,hp.t0,hp.tc,hp.t2,h3,w7]
       refine kS_callP (vs:=[.osl l u 0 d4.size 2,.int .i64 (mid+1:Nat),.int .i64 b1,.int .i64 lim2,CF]) (by simp [hs4,z3,hM1]) rfl (ih Yf l u (mid+1) b1 lim2 d4 (by omega) (by omega) (by omega) (by omega) hlim2 hBr _ _ _ _ _ (by simpa using hat.1) (by simp [hp.ro,hro]) (fun m hm=>hl m (by first | omega | (simp at hm;omega))) (by first | (simp [hp.ro];omega) | simp [hp.ro])) ?_
       rintro v ob6 tk6 ub6 ⟨L,hL1,hL2,hat6⟩
       simp only at hat6
       obtain ⟨hBL,hfin⟩:=hright L hL1 hL2
       simp
       exact ⟨mid - a1,by omega,by
        rw [hI]
        exact ⟨a1,mid,lim2,decide (T≤(b1:Int) - mid),ap,rfl,by omega,by omega,by omega,hlim2,by simp [h3],by simp,by simp,L,⟨by simp [hp.t0,hp.tc],by simp [hp.t1],by simp,by simp,by simp [hp.tc],by simp [hp.df],by simp [hp.ro],
         ((hat5 ub5 (Nat.le_refl _)).trans hat6 (by first | omega | (simp;done) | (simp;omega))).same rfl rfl (by first | omega | (simp;done) | (simp;omega)),by rw [hL1.1,hs4,z3],hBL,fun R hR hs=>by
           obtain ⟨p1,p2⟩:=hfin R hR hs
           exact hp.go R p1 p2⟩⟩⟩
     have hex:∀ s':St,(∃ j,j<b1 - a1∧I j s')→K4 (.exit 1) s':=fun s' h=>by
      rw [← hK4,kSeq_exit,kBlk_exit,if_pos rfl,kLoop_nrm]
      exact h
     clear hK4
     have hnx:=hp.mem.2.2.2
     by_cases ha0:a1=0
     ·have c3:¬ 0<a1:=by omega
      simp [hp.t1,c3]
      exact restE _ (hp.turn hb1 (by simp) (by simp) (by simp) (by simp) (by simp) (by simp) (by simp) (hp.mem.same rfl rfl (by first | omega | (simp;done) | (simp;omega))) (permIn_refl d3 a1 b1)) (by simp [h3]) (by simp [h11])
     have c3:0<a1:=by omega
     have w5:IntKind.i64.wrap ((a1:Int) - 1)=((a1 - 1:Nat):Int):=by rw [wrapN (by omega) (by omega)];omega
     have ix:=idxV (l:=l) (u:=u) (n:=d.size) (kk:=.i64) (X:=((a1 - 1:Nat):Int)) (x:=a1 - 1) rfl (by omega)
     have iy:=idxV (l:=l) (u:=u) (n:=d.size) (kk:=.i64) (X:=(pv:Int)) (x:=pv) rfl (by omega)
     have lx:=ldV hp.mem.1 (x:=a1 - 1) (by omega)
     have ly:=ldV hp.mem.1 (x:=pv) (by omega)
     generalize ((a1 - 1:Nat):Int)=A1 at w5 ix
     simp [hp.t0,hp.tc,hp.t1,c3,h11,w5,ix,iy,lx,ly]
     refine kS_evV (f:=121) (first:=[]) (captured:=[]) (evC d3[a1 - 1]! d3[pv]!) (by simp) (by simp) rfl (by simp) ?_
     simp
     cases hlt:ltVV d3[a1 - 1]! d3[pv]!
     ·simp [hp.t0,hp.tc,hp.t1,hp.t2,h11]
      refine kS_callP (vs:=[.osl l u 0 d3.size 2,.int .i64 a1,.int .i64 b1,.int .i64 pv,CF]) (by simp [z3]) rfl (sv212 (l:=l) (u:=u) (d:=d3) (by omega) (by omega) hpa hpb (by simpa using hp.mem.1) (by simp [hp.ro,hro])) ?_
      rintro v ob5 tk5 ub5 ⟨hv,hat⟩
      simp only at hv hat
      subst hv
      obtain ⟨⟨mid,d4⟩,hx⟩:∃ P,partitionEqual ltVV d3 a1 b1 pv=P:=⟨_,rfl⟩
      obtain ⟨g1,g2,hs4,hB4,hfin⟩:=round_eq swo_ltVV (partitionEqual_holds ltVV) c3 hpa hpb (by omega) hp.bl hlt hx
      rw [hx] at hat ⊢
      simp
      exact hex _ ⟨b1 - mid,by omega,by
       rw [hI]
       exact ⟨mid,b1,lim2,wb,wp,rfl,g2,hb1,by omega,hlim2,by simp [h3],by simp [h8],by simp [h9],d4,⟨by simp [hp.t0,hp.tc],by simp,by simp [hp.t2],by simp,by simp [hp.tc],by simp [hp.df],by simp [hp.ro],
        hp.mid hat (by first | omega | (simp;done) | (simp;omega)) (by first | omega | (simp;done) | (simp;omega)),by rw [hs4,z3],hB4,fun R hR hs=>by
         obtain ⟨p1,p2⟩:=hfin R hR hs
         exact hp.go R p1 p2⟩⟩⟩
     ·simp
      exact restE _ (hp.turn hb1 (by simp) (by simp) (by simp) (by simp) (by simp) (by simp) (by simp) (hp.mem.same rfl rfl (by first | omega | (simp;done) | (simp;omega))) (permIn_refl d3 a1 b1)) (by simp [h3]) (by simp [h11])
    have hret:∀ s':St,kEndS [] (Sorted l u a b d ob tk ub) .ret s'→K3 .ret s':=fun s' h=>by
     rw [← hK3,kSeq_ret,kBlk_ret,kLoop_ret,kBlk_ret]
     exact h
    clear hK3
    have hnx:=hp.mem.2.2.2
    have onD:∀ s2:St,s2.tm 0=s.tm 0→s2.tm 1=s.tm 1→s2.tm 2=s.tm 2→s2.tm 3=s.tm 3→s2.tm 10=s.tm 10→s2.tm 11=s.tm 11→s2.tm 12=s.tm 12→s2.tm 13=s.tm 13→s2.tm 4=s.tm 4→s2.df=s.df→s2.ro=s.ro→At l u (arr vvC d3) ob tk ub s2.ob s2.tk s2.nx→K3 .nrm s2:=fun s2 k0 k1 k2 k3 k8 k9 k10 k11 kc kd kr km =>
     restD s2 (hp.turn hb1 k0 k1 k2 k10 kc kd kr km (permIn_refl d3 a1 b1)) (k3.trans h3) (k8.trans h8) (k9.trans h9) (k11.trans h11)
    cases wb
    ·simp [h8]
     exact onD _ (by simp) (by simp) (by simp) (by simp) (by simp) (by simp) (by simp) (by simp) (by simp) (by simp) (by simp) (hp.mem.same rfl rfl (by first | omega | (simp;done) | (simp;omega)))
    cases wp
    ·simp [h8,h9]
     exact onD _ (by simp) (by simp) (by simp) (by simp) (by simp) (by simp) (by simp) (by simp) (by simp) (by simp) (by simp) (hp.mem.same rfl rfl (by first | omega | (simp;done) | (simp;omega)))
    by_cases hn1:hnt=1
    ·subst hn1
     simp [h8,h9,h12,hp.t0,hp.tc,hp.t1,hp.t2]
     refine kS_callP (vs:=[.osl l u 0 d3.size 2,.int .i64 a1,.int .i64 b1,CF]) (by simp [z3]) rfl (sv211 (l:=l) (u:=u) (d:=d3) (by omega) (by omega) (by omega) (by simpa using hp.mem.1)) ?_
     rintro v ob5 tk5 ub5 ⟨hv,hat⟩
     simp only at hv hat
     subst hv
     have hat5:=fun ub2 (h:ub5≤ub2)=>hp.mid (ub2:=ub2) hat (by first | omega | (simp;done) | (simp;omega)) h
     have hps:=partialInsertionSort_holds (lt:=ltVV) swo_ltVV d3 a1 b1 (by omega) (by omega) hp.bl
     rw [partialIns_few (by omega)] at hps
     simp
     by_cases hsc:scanSorted ltVV d3 b1 (a1+1)=b1
     ·obtain ⟨q1,q2⟩:=hp.go d3 hps.1 (hps.2 (by simp [hsc]))
      simp [hsc]
      exact hret _ (endS_nil (Or.inr rfl) (by simp [hp.df]) ⟨d3,q1,q2,hat5 _ (by first | omega | (simp;done) | (simp;omega))⟩)
     ·simp [hsc]
      exact onD _ (by simp) (by simp) (by simp) (by simp) (by simp) (by simp) (by simp) (by simp) (by simp) (by simp) (by simp) (hat5 _ (by first | omega | (simp;done) | (simp;omega)))
    ·have hn1':((hnt:Int) == 1)=false:=by simp;omega
     simp [h8,h9,h12,hn1']
     exact onD _ (by simp) (by simp) (by simp) (by simp) (by simp) (by simp) (by simp) (by simp) (by simp) (by simp) (by simp) (hp.mem.same rfl rfl (by first | omega | (simp;done) | (simp;omega)))
   by_cases h2:hnt=2
   ·subst h2
    have w2:IntKind.i64.wrap ((b1:Int) - 1)=(b1:Int) - 1:=wrapN (by omega) (by omega)
    have w3:IntKind.i64.wrap ((pv:Int) - a1)=(pv:Int) - a1:=wrapN (by omega) (by omega)
    have w4:IntKind.i64.wrap ((b1:Int) - 1 - (pv - a1))=((b1 - 1 - (pv - a1):Nat):Int):=by rw [wrapN (by omega) (by omega)];omega
    simp [hp.t0,hp.tc,hp.t1,hp.t2]
    refine kS_callP (vs:=[.osl l u 0 d2.size 2,.int .i64 a1,.int .i64 b1,CF]) (by simp [z2]) rfl (sv210 (l:=l) (u:=u) (d:=d2) (by omega) (by omega) (by omega) (by simpa using hat.1) (by simp [hp.ro,hro])) ?_
    rintro v ob2 tk2 ub2 hat2
    simp only at hat2
    generalize hPV:((b1 - 1 - (pv - a1):Nat):Int)=PV at w4
    simp [hp.t1,hp.t2,w2,w3,w4]
    exact restC _ (reverseRange d2 a1 b1) (b1 - 1 - (pv - a1)) 1 (by omega) (by omega) (by omega) (hp.turn hb1 (by simp) (by simp) (by simp) (by simp) (by simp) (by simp) (by simp) (((hat' ub1 (Nat.le_refl _)).trans hat2 (by first | omega | (simp;done) | (simp;omega))).same rfl rfl (by first | omega | (simp;done) | (simp;omega))) (reverseRange_holds d2 a1 b1 hab1 (by omega))) (by simp [h3]) (by simp [h8]) (by simp [h9]) (by simp [hPV]) (by simp)
   ·have h2':((hnt:Int) == 2)=false:=by simp;omega
    simp [h2']
    exact restC _ d2 pv hnt hpa hpb hh (hp.turn hb1 (by simp) (by simp) (by simp) (by simp) (by simp) (by simp) (by simp) (hat' _ (by first | omega | (simp;done) | (simp;omega))) (permIn_refl d2 a1 b1)) (by simp [h3]) (by simp [h8]) (by simp [h9]) (by simp) (by simp)
  clear hK
  cases wb
  ·have w2:IntKind.i64.wrap ((lim1:Int) - 1)=((lim1 - 1:Nat):Int):=by rw [wrapN (by omega) (by omega)];omega
   simp [f0,fc,f1,f2]
   refine kS_callP (vs:=[.osl l u 0 d1.size 2,.int .i64 a1,.int .i64 b1,CF]) (by simp [z1]) rfl (sv208 (l:=l) (u:=u) (d:=d1) (by omega) (by omega) (by omega) (by simpa using hm.1) (by simp [fr,hro]) (fun m hm=>hl m (by first | omega | (simp at hm;omega))) (by simp [fr];omega)) ?_
   rintro v ob1 tk1 ub1 ⟨d2,hpm,hat⟩
   simp only at hat
   generalize hL1:((lim1 - 1:Nat):Int)=L1 at w2
   simp [h3,w2]
   exact restB _ d2 (lim1 - 1) (by omega) (hp0.turn hb1 (by simp) (by simp) (by simp) (by simp) (by simp) (by simp) (by simp) ((hm.trans hat (by first | omega | (simp;done) | (simp;omega))).same rfl rfl (by first | omega | (simp;done) | (simp;omega))) hpm) (by simp [hL1]) (by simp [h8]) (by simp [h9])
  ·simp
   exact restB _ d1 lim1 hlim1 (hp0.turn hb1 (by simp) (by simp) (by simp) (by simp) (by simp) (by simp) (by simp) (hm.same rfl rfl (by first | omega | (simp;done) | (simp;omega))) (permIn_refl d1 a1 b1)) (by simp [h3]) (by simp [h8]) (by simp [h9])
end Go.Pv.T.Vs

/- slices.SortFunc of few values. -/
namespace Go.Pv.T.Vs
open Go Go.Pv Go.Pv.T Go.Sort
def SortsTo (L T:List VV):Prop:=L.Perm T∧T.Pairwise fun x y=>ltVV y x=false
theorem sv120 {Yf:YF} {l u:Nat} {L:List VV} (hL:L.length≤49) {ob:Nat→Option Obj'} {tk:Nat→Bool} {ro base ub:Nat} (ho:ob l=some ⟨u,.cells (L.flatMap vvC)⟩) (hro:ro≤u) (hl:∀ m,ub≤m→l≠2 * m+1) (hru:ro≤ub) :
 ∃ r,EvS E Yf.y 120 [.osl l u 0 L.length 2,CF] ob tk ro base ub r∧∃ T,SortsTo L T∧At l u (T.flatMap vvC) ob tk ub r.2.1 r.2.2.1 r.2.2.2:=by
 refine EvS_wp (af:=S120) rfl (by decide) ?_
 show wpC E Yf S120.body _ (kEndS S120.res _)
 obtain ⟨k,ek,hk⟩:=ev118 (n:=L.length) (by omega)
 have w0:IntKind.u64.wrap (L.length:Int)=(L.length:Int):=by rw [IntKind.wrap_u64];omega
 simp [S120,w0]
 refine kS_ev ek (by simp) rfl (by simp) ?_
 simp
 have z:L.toArray.size=L.length:=by simp
 refine kS_callP (vs:=[.osl l u 0 L.toArray.size 2,.int .i64 (0:Nat),.int .i64 (L.length:Nat),.int .i64 k,CF]) (by simp) rfl (sv170 (L.length+1) Yf l u 0 L.length k L.toArray (by omega) (by omega) (by omega) (by omega) (by omega) (Or.inl rfl) _ _ _ _ _ (by simpa [arr] using ho) (by simp [hro]) (fun m hm=>hl m (by first | omega | (simp at hm;omega))) (by first | (simp;omega) | simp)) ?_
 rintro v ob1 tk1 ub1 ⟨d',h1,h2,hat⟩
 simp only at hat
 simp
 have hs:d'.size=L.length:=by rw [h1.1];simp
 have hper:L.Perm d'.toList:=by
  have:=h1.2.2
  have e1:(L.toArray.extract 0 L.length).toList=L:=by simp
  have e2:(d'.extract 0 L.length).toList=d'.toList:=by rw [← hs];simp
  rw [e1,e2] at this
  exact this.symm
 have hpw:d'.toList.Pairwise fun x y=>ltVV y x=false:=by
  rw [List.pairwise_iff_getElem]
  intro i j hi hj hij
  have:=h2 i j (Nat.zero_le _) hij (by rw [← hs];simpa using hj)
  rw [getElem!_pos _ _ (by simpa using hj),getElem!_pos _ _ (by simpa using hi)] at this
  simpa using this
 have hat':At l u (d'.toList.flatMap vvC) ob tk ub ob1 tk1 ub1 :=
  ⟨hat.1,fun key a b=>(hat.2.1 key a (fun m hm=>b m (by first | omega | (simp at hm;omega)))).trans (by simp),hat.2.2.1.trans (by simp),by have:=hat.2.2.2;first | omega | (simp at this;omega)⟩
 exact endS_nil (Or.inl rfl) (by simp) ⟨d'.toList,⟨hper,hpw⟩,hat'.same rfl rfl (by first | omega | simp)⟩
end Go.Pv.T.Vs

/- Which transactions may have committed; which reads were lost. -/
namespace Go.Pv.T
open Go Go.Pv
def SlR (v:V) (nl:Bool) (n:Nat) (cs:List V):Prop:=∃ t:Option (Nat × Nat),v = .sl t nl n cs∧∀ p∈t.toList,p.1<64
theorem sl_end {st:St} {n k:Nat} {t:Option (Nat × Nat)} {nl:Bool} {cs:List V} (hd:st.df=[]) (h:st.tm n = .sl t nl k cs):∃ r,endV [.t n] (.ret,st)=some r∧SlR r nl k cs:=by
 have hres:[ARes.t n].mapM (resOf st)=some [.sl t nl k cs]:=by simp [resOf,h]
 obtain ⟨a,ha,ha'⟩:=slOut_sl st t nl k cs (nodup (List.flatMap V.toks [.sl t nl k cs])) 0
 refine ⟨.sl a nl k cs,?_,a,rfl,?_⟩
 ·simp only [endV,dfOk_of hd,noDf_of hd,if_true,hres,Option.bind_some,outRes]
  generalize nodup (List.flatMap V.toks [.sl t nl k cs])=keep at *
  have e:outTop st keep 0 (.sl t nl k cs)=some (.sl a nl k cs):=ha
  simp only [outTops,e,Option.bind_some,Option.map_some]
  have hnd:nodup (List.flatMap V.toks [.sl a nl k cs])=true:=by
   rcases ha' with rfl | ⟨_,rfl⟩ <;> rfl
  show (if nodup (List.flatMap V.toks [.sl a nl k cs])=true then some (V.sl a nl k cs) else none)=_
  rw [if_pos hnd]
 ·intro p hp
  rcases ha' with rfl | ⟨_,rfl⟩
  ·simp at hp
  ·simp at hp;subst hp;simp
theorem retA_sl {ub:Nat} {v:V} {nl:Bool} {n:Nat} {cs:List V} (h:SlR v nl n cs):∃ t add,retA ub v=some { v:=.sl t nl n cs,add:=add }:=by
 obtain ⟨t,rfl,hlt⟩:=h
 cases t with
 | none=>exact ⟨none,[],rfl⟩
 | some p =>
  have:=hlt p (by simp)
  refine ⟨some (ub+p.1,p.2),[ub+p.1],?_⟩
  rw [retA,if_pos (by simp [toksRes,V.toks,V.tok,Nat.blt_eq,this])]
  rfl
theorem slE {st:St} {n k:Nat} {t:Option (Nat × Nat)} {nl:Bool} {cs:List V} {P:V→Prop} (hP:∀ r,SlR r nl k cs→P r) (hd:st.df=[]) (h:st.tm n = .sl t nl k cs):kEndE [.t n] P .ret st:=by
 obtain ⟨r,h1,h2⟩:=sl_end hd h
 exact ⟨r,h1,hP r h2⟩
def NumR (l:List Int) (v:V):Prop:=∃ nl,SlR v nl l.length (l.flatMap intC)
theorem may_err {g:Hist'} (hm:mayH g=true):errH g=0:=by unfold errH;rw [hm];rfl
def placeC (p:Int × Int):List V:=[.int .i64 p.1,.int .i64 p.2]
@[simp] theorem placeC_len (p:Int × Int):(placeC p).length=2:=rfl
def lostIn (i:Nat) (ops:List Op'):Nat→List (Int × Int)
 | 0=>[]
 | k+1=>lostIn i ops k++(match ops[k]? with | some o=>if o.v.kind == 2 then [((i:Int),(k:Int))] else [] | none=>[])
def lostTo (ts:List Txn'):Nat→List (Int × Int)
 | 0=>[]
 | i+1=>lostTo ts i++(match ts[i]? with | some t=>lostIn i t.ops t.ops.length | none=>[])
def lostH (h:Hist'):List (Int × Int):=lostTo h.ts h.ts.length
end Go.Pv.T

/- The reference's lost reads; who writes a key. -/
namespace Go.Pv.T
open Go Go.Pv
def GrowT {α:Type} (tk:Nat→Bool) (nx:Nat) (f:α→List V) (sz:Nat) (l:List α) (v:V):Prop:=∃ u,v = .sl (some (u,sz)) false l.length (l.flatMap f)∧tk u=true∧u<nx
theorem GrowT.mono {α:Type} {tk tk':Nat→Bool} {nx nx':Nat} {f:α→List V} {sz:Nat} {l:List α} {v:V} (h:GrowT tk nx f sz l v) (ht:∀ u,u<nx→tk u=true→tk' u=true) (hn:nx≤nx'):GrowT tk' nx' f sz l v:=by
 obtain ⟨u,hv,h1,h2⟩:=h
 exact ⟨u,hv,ht u h2 h1,by omega⟩
def wkB (k:Int) (o:Op'):Bool:=o.w && o.key == k
def wrB (k:Int) (t:Txn'):Bool:=t.f != 2 && t.ops.any (wkB k)
def KeyAt (k:Int) (ob:Nat→Option Obj') (l u:Nat):Prop:=l % 2=0∧ob l=some ⟨u,.cells [.int .i64 k]⟩
theorem evo115 {k:Int} {ob:Nat→Option Obj'} {l u:Nat} (hk:KeyAt k ob l u) (o:Op') (tk:Nat→Bool) (base ub:Nat):EvO E 115 [.agg (opC o),.ptr l u 0] ob tk base ub (.bool (wkB k o)):=by
 obtain ⟨h2,ho⟩:=hk
 refine EvO_wpK (af:=S115) rfl ?_
 have hne:¬ l=2 * ub+1:=by omega
 unfold wkB
 cases hw:o.w
 ·simp [S115,opC,objCells,hw]
  exact endV_1 rfl (by simp) rfl
 ·simp [S115,opC,objCells,hw,hne,ho]
  exact endV_1 rfl (by simp) rfl
theorem evo156 {p:Op'→Bool} {g:FuncId} {cap:V} {ob:Nat→Option Obj'} (hs:E.sh true g=false) (hcap:cap.strip.pureTop=false) (hp:∀ (t:Op') (tk:Nat→Bool) (base ub:Nat),EvO E g [.agg (opC t),cap] ob tk base ub (.bool (p t)))
 (nl:Bool) (l:List Op') (hl:l.length≤1000000000) (tk:Nat→Bool) (base ub:Nat):EvO E 156 [slOf nl opC l,.fn (.func g) [] [cap]] ob tk base ub (.int .i64 (firstI p l)):=by
 refine EvO_wpK (af:=S156) rfl ?_
 simp [S156]
 refine wp_loopUp [(4,5),(8,18)] l.length (fun i s=>s.tm 8 = .int .i64 i∧s.ob=ob∧∀ j (hj:j<l.length),j<i→p l[j]=false) rfl rfl ⟨by simp,by simp,fun _ _ h=>by omega⟩ ?_
 rintro i s hi ⟨h8,ho,hb⟩ f
 have h0:s.tm 0=slOf nl opC l:=by rw [f.t 0 (by simp)];simp
 have h1:s.tm 1 = .fn (.func g) [] [cap]:=by rw [f.t 1 (by simp)];simp
 have h7:s.tm 7 = .int .i64 l.length:=by rw [f.t 7 (by simp)];simp
 have hd:s.df=[]:=by rw [f.d];simp
 clear f
 by_cases hlt:i<l.length
 ·have hw:=wrapU hlt hl
  simp [h0,h1,h7,h8,hlt,idx_slOf opC_len,load_slOf opC_len]
  refine kS_callVO (f:=g) (first:=[]) (captured:=[cap]) (by simp) hs (by simp [hcap]) (v:=.bool (p l[i])) (by simpa [ho] using hp l[i] _ _ _) ?_
  cases hpi:p l[i]
  ·simp [h8,hw]
   refine ⟨hlt,ho,?_⟩
   intro j hj hji
   rcases Nat.lt_succ_iff_lt_or_eq.1 hji with h | rfl
   ·exact hb j hj h
   ·exact hpi
  ·simp
   refine endV_1 (by simpa using hd) ?_ rfl
   simp
   rw [firstI_found hlt hpi hb]
 ·have:i=l.length:=by omega
  subst this
  simp [h7,h8]
  refine endV_1 (by simpa using hd) ?_ rfl
  simp [firstI_none (fun j hj=>hb j hj hj)]
theorem evo114 {p:Op'→Bool} {g:FuncId} {ob:Nat→Option Obj'} {a b c:Nat} (hs:E.sh true g=false) (hp:∀ (t:Op') (tk:Nat→Bool) (base ub:Nat),EvO E g [.agg (opC t),.ptr a b c] ob tk base ub (.bool (p t)))
 (nl:Bool) (l:List Op') (hl:l.length≤1000000000) (tk:Nat→Bool) (base ub:Nat):EvO E 114 [slOf nl opC l,.fn (.func g) [] [.ptr a b c]] ob tk base ub (.bool (l.any p)):=by
 refine EvO_wpK (af:=S114) rfl ?_
 simp [S114]
 refine kS_callO (vs:=[slOf nl opC l,.fn (.func g) [] [.ptr a b c]]) (by simp) rfl rfl (evo156 hs rfl hp nl l hl _ _ _) ?_
 simp
 exact endV_1 rfl (by simp [firstI_any]) rfl
theorem evo113 {k:Int} {ob:Nat→Option Obj'} {l u:Nat} (hk:KeyAt k ob l u) (t:Txn') (ht:t.ops.length≤1000000) (tk:Nat→Bool) (base ub:Nat):EvO E 113 [.agg (txnC t),.ptr l u 0] ob tk base ub (.bool (wrB k t)):=by
 have hne:¬ l=2 * ub+1:=by have:=hk.1;omega
 refine EvO_wpK (af:=S113) rfl ?_
 unfold wrB
 cases hf:(t.f != 2)
 ·simp [S113,txnC,objCells,hf]
  exact endV_1 rfl (by simp) rfl
 ·simp [S113,txnC,objCells,hf]
  refine kS_callO (vs:=[slOf t.nl opC t.ops,.fn (.func 115) [] [.ptr l u 0]]) (by simp) rfl rfl (evo114 (p:=wkB k) rfl (fun t' tk base ub'=>evo115 ?_ t' tk base ub') t.nl t.ops (by omega) _ _ _) ?_
  ·obtain ⟨h2,ho⟩:=hk
   exact ⟨h2,by simp [hne,ho]⟩
  ·simp
   exact endV_1 rfl (by simp) rfl
end Go.Pv.T

/- How many write one key at most. -/
namespace Go.Pv.T
open Go Go.Pv
def writersH (g:Hist') (k:Int):List Int:=numsTo (wrB k) g.ts g.ts.length
theorem ev72 {g:Hist'} (hs:Small g) (hm:mayH g=true) (k:Int):∃ v,Ev E 72 [.agg (histC g),.int .i64 k] v∧NumR (writersH g k) v:=by
 have e70:=ev70 hs
 rw [may_err hm] at e70
 have hts:=hs.ts
 refine Ev_wpE (af:=F72) rfl (by decide) ?_
 simp [F72,histC,objCells]
 refine kS_ev e70 (by simp [histC]) rfl (by simp [histC]) ?_
 simp [objCells]
 refine wp_loopUp [(4,4),(6,8),(16,28)] g.ts.length (fun i s=>s.tm 16 = .int .i64 i∧s.ob 6=some ⟨64,.cells [.int .i64 k]⟩∧Grow s.tk 0 s.nx intC 1 (numsTo (wrB k) g.ts i) (s.tm 6)) rfl rfl ⟨by simp,by simp,by simp [numsTo];exact Grow.nil _ _ _ _ _⟩ ?_
 rintro i s hi ⟨h16,o6,hG⟩ f
 have f5:s.tm 5 = .fn (.func 113) [] [.ptr 6 64 0]:=by rw [f.t 5 (by simp)];simp
 have f14:s.tm 14=slOf g.tn txnC g.ts:=by rw [f.t 14 (by simp)];simp
 have f15:s.tm 15 = .int .i64 g.ts.length:=by rw [f.t 15 (by simp)];simp
 have fd:s.df=[]:=by rw [f.d];simp
 have fb:s.fb=0:=by rw [f.b];simp
 have fr:s.ro=0:=by rw [f.r];simp
 clear f
 by_cases hlt:i<g.ts.length
 ·have hw:=wrapU hlt (by omega)
  have hsn:=numsTo_succ (p:=wrB k) hlt
  obtain ⟨t,ht⟩:∃ t,g.ts[i]=t:=⟨_,rfl⟩
  rw [ht] at hsn
  have hos:=hs.os t (ht ▸ List.getElem_mem hlt)
  have hll:=numsTo_len (wrB k) g.ts i
  simp [h16,f14,f15,hlt,idx_slOf txnC_len,load_slOf txnC_len,ht,txnC,objCells,fb,fr,splice,f5]
  refine kS_callVO (f:=113) (first:=[]) (captured:=[.ptr 6 64 0]) (by simp) rfl (by simp;rfl) (evo113 (k:=k) (l:=6) (u:=64) ⟨rfl,by simp [o6]⟩ t (by omega) _ _ _) ?_
  cases hi:wrB k t
  ·rw [hi] at hsn
   simp only [Bool.false_eq_true,if_false,List.append_nil] at hsn
   simp [h16,hw,o6]
   exact ⟨hlt,by rw [hsn];exact hG.mono (fun u _ _ h=>by simpa [app_tk0] using h) (by omega)⟩
  ·rw [hi] at hsn
   simp only [if_true] at hsn
   simp
   refine kS_buildSl (cs:=[.int .i64 i]) (by simp [splice]) rfl rfl ?_
   simp
   refine kS_appendG (f:=intC) (lo:=0) (hi:=s.nx) (l:=numsTo (wrB k) g.ts i) (a:=(i:Int)) (v:=s.tm 6) (hG.mono (fun u _ _ h=>by simp [app_tk,h]) (Nat.le_refl _)) (by simp) (by simp [slCells,intC]) intC_len (by decide) rfl (by omega) (by omega) (fun del hdel=>?_)
   have hne:numsTo (wrB k) g.ts (i+1)≠[]:=by rw [hsn];simp
   have hlen:(numsTo (wrB k) g.ts i).length+1=(numsTo (wrB k) g.ts (i+1)).length:=by rw [hsn];simp
   rw [← hsn,hlen]
   simp [h16,hw,o6]
   exact ⟨hlt,.inr ⟨hne,_,rfl,by simp [app_tk],Nat.zero_le _,by omega⟩⟩
 ·have:i=g.ts.length:=by omega
  subst this
  obtain ⟨t,ht⟩:=hG.form
  simp [h16,f15]
  exact slE (t:=t) (nl:=(numsTo (wrB k) g.ts g.ts.length).isEmpty) (k:=(writersH g k).length) (cs:=(writersH g k).flatMap intC) (fun r h=>⟨_,h⟩) (by simp [fd]) (by simp [ht,writersH])
def mostTo (g:Hist'):Nat→Nat
 | 0=>0
 | i+1=>max (mostTo g i) (writersH g i).length
def mostH (g:Hist'):Nat:=mostTo g g.ks.length
end Go.Pv.T

/- How many write one key at most: the reference's way. -/
namespace Go.Pv.T
open Go Go.Pv
def rawTo (k:Int) (ops:List Op'):Nat→Val' × Bool
 | 0=>(⟨0,0⟩,false)
 | i+1=>match ops[i]? with
  | some o=>if wkB k o then (o.v,true) else rawTo k ops i
  | none=>rawTo k ops i
theorem rawTo_succ {k:Int} {ops:List Op'} {i:Nat} (h:i<ops.length):rawTo k ops (i+1)=if wkB k ops[i] then (ops[i].v,true) else rawTo k ops i:=by simp [rawTo,List.getElem?_eq_getElem h]
theorem rawTo_any (k:Int) (ops:List Op'):∀ i,i≤ops.length→(rawTo k ops i).2=(ops.take i).any (wkB k)
 | 0,_=>by simp [rawTo]
 | i+1,h=>by
  rw [rawTo_succ (by omega),List.take_succ_eq_append_getElem (by omega),List.any_append,← rawTo_any k ops i (by omega)]
  cases hw:wkB k ops[i] <;> simp [hw]
end Go.Pv.T

/- slices.Repeat, of one number. -/
namespace Go.Pv.T
open Go Go.Pv
section
variable {E:Env} {Yf:YF} {st:St} {ub:Nat} {K:St→Nat→Prop} {d:Option Nat} {nm:Bool}
end
end Go.Pv.T

/- slices.Repeat: the walk. -/
namespace Go.Pv.T
open Go Go.Pv
end Go.Pv.T

/- What is left without lost reads may be. -/
namespace Go.Pv.T
open Go Go.Pv
end Go.Pv.T

/- bound.Of. -/
namespace Go.Pv.T
open Go Go.Pv
structure Bnd (g:Hist'):Prop where
 i:(infosH g).length≤1000
 l:(lostH g).length≤1000000
 r:rcT g.ts≤1000000
 m:mostH g≤1000
 t:g.ts.length≤1000
end Go.Pv.T

/- The reference's bound. -/
namespace Go.Pv.T
open Go Go.Pv
theorem IntsAt.mono {ob:Nat→Option Obj'} {nx nx':Nat} {l:List Int} {v:V} (h:IntsAt ob nx l v) (hn:nx≤nx'):IntsAt ob nx' l v:=by
 rcases h with h | ⟨hne,L,u,h1,h2,h3,h4⟩
 ·exact .inl h
 ·exact .inr ⟨hne,L,u,h1,h2,by omega,h4⟩
theorem IntsAt.frame {ob ob':Nat→Option Obj'} {nx:Nat} {l:List Int} {v:V} (h:IntsAt ob nx l v) (hf:∀ k,(∀ m,nx≤m→k≠2 * m+1)→ob' k=ob k):IntsAt ob' nx l v:=by
 rcases h with h | ⟨hne,L,u,h1,h2,h3,h4⟩
 ·exact .inl h
 ·exact .inr ⟨hne,L,u,h1,by rw [hf L (fun m hm=>by omega)];exact h2,h3,h4⟩
end Go.Pv.T

/- Both bounds are the same number. -/
namespace Go.Pv.T
open Go Go.Pv
end Go.Pv.T

/- Few of a history. -/
namespace Go.Pv.T
open Go Go.Pv
def fewS (n:Nat) (l:List (List UInt8)):List (List UInt8):=(l.take n).map (·.take 100)
def fewT (t:Txn'):Txn':={ t with nl:=false,ops:=t.ops.take 25 }
def fewH (h:Hist'):Hist':={ sn:=(fewS 25 h.ss).isEmpty,ss:=fewS 25 h.ss,kn:=(fewS 45 h.ks).isEmpty,ks:=fewS 45 h.ks,tn:=((h.ts.take 45).map fewT).isEmpty,ts:=(h.ts.take 45).map fewT }
theorem small_few (h:Hist'):Small (fewH h):=by
 refine ⟨?_,?_,?_,?_,?_,?_⟩
 ·show (fewS 25 h.ss).length≤1000
  simp [fewS];omega
 ·intro s hs
  obtain ⟨a,_,rfl⟩:=List.mem_map.1 (show s∈fewS 25 h.ss from hs)
  simp;omega
 ·show (fewS 45 h.ks).length≤1000
  simp [fewS];omega
 ·intro s hs
  obtain ⟨a,_,rfl⟩:=List.mem_map.1 (show s∈fewS 45 h.ks from hs)
  simp;omega
 ·show ((h.ts.take 45).map fewT).length≤1000
  simp;omega
 ·intro t ht
  obtain ⟨a,_,rfl⟩:=List.mem_map.1 (show t∈(h.ts.take 45).map fewT from ht)
  simp [fewT];omega
theorem fewS_succ {n i:Nat} {l:List (List UInt8)} (hi:i<l.length) (_:i<n):fewS (i+1) l=fewS i l++[(l[i]).take 100]:=by
 rw [fewS,List.take_succ_eq_append_getElem hi,List.map_append];rfl
theorem fewS_end {n:Nat} {l:List (List UInt8)} {i:Nat} (hi:i≤l.length) (hn:i≤n) (h:¬ (i<l.length∧i<n)):fewS i l=fewS n l:=by
 unfold fewS
 congr 1
 by_cases h1:i<l.length
 ·have:i=n:=by omega
  rw [this]
 ·rw [List.take_of_length_le (by omega),List.take_of_length_le (by omega)]
end Go.Pv.T

/- Few of a history: the walk. -/
namespace Go.Pv.T
open Go Go.Pv
def tlC:C→C
 | .seq _ b=>b
 | c=>c
def hdC:C→C
 | .seq a _=>a
 | c=>c
def few1C:C:=tlC (tlC F14.body)
def few2C:C:=tlC few1C
def few3C:C:=tlC few2C
def few4C:C:=tlC few3C
theorem min_len (n m:Nat):minmaxV false [.int .i64 (n:Int),.int .i64 (m:Int)]=some (.int .i64 ((min n m:Nat):Int)):=by
 simp only [minmaxV,minmaxL]
 by_cases h:n≤m
 ·rw [Nat.min_eq_left h];simp [minmax2];omega
 ·rw [Nat.min_eq_right (Nat.le_of_not_le h)];simp [minmax2];omega
theorem take_min100 (c:List UInt8):c.take (min c.length 100)=c.take 100:=by
 rcases Nat.le_total c.length 100 with h' | h'
 ·rw [Nat.min_eq_left h',List.take_of_length_le (Nat.le_refl _),List.take_of_length_le h']
 ·rw [Nat.min_eq_right h']
theorem fewS_len (n:Nat) (l:List (List UInt8)):(fewS n l).length≤n:=by simp [fewS];omega
theorem slStr_to {l:List UInt8} {kk:IntKind} {k:Nat} (h:k≤l.length):slStrV none (some (.int kk (k:Int))) (.str l)=some (.str (l.take k)):=by
 simp [slStrV,bounds,h]
theorem slSl_to {cs:List V} {kk:IntKind} {t:Option (Nat × Nat)} {nl:Bool} {sz n k:Nat} (h:k≤n) (hc:cs.length=n * sz):slSlV sz none (some (.int kk (k:Int))) (.sl t nl n cs)=some (.sl none nl k (cs.take (k * sz))):=by
 simp [slSlV,bounds,h,hc]
structure FewS (h:Hist') (s:St) (a b c N1 N2:Nat) (Sv Kv Tv:V):Prop where
 t1:s.tm 1 = .ptr 2 0 0
 t2:s.tm 2 = .ptr 4 64 0
 t3:s.tm 3 = .ptr 6 192 0
 d:s.df=[]
 ro:s.ro=0
 fb:s.fb=0
 o2:s.ob 2=some ⟨0,.cells (histC h)⟩
 o4:s.ob 4=some ⟨64,.cells [.sl none true 0 [],.sl none true 0 [],.sl none true 0 []]⟩
 o6:s.ob 6=some ⟨192,.cells [Sv,Kv,Tv]⟩
 gS:Grow s.tk 0 N1 strC 1 (fewS a h.ss) Sv
 gK:Grow s.tk N1 N2 strC 1 (fewS b h.ks) Kv
 gT:Grow s.tk N2 s.nx txnC 3 ((h.ts.take c).map fewT) Tv
 n1:N1≤N2
 n2:N2≤s.nx
theorem few1_eq:few1C = .seq (hdC few1C) few2C:=rfl
set_option maxRecDepth 100000 in
theorem few1 {h:Hist'} {s0:St} {Q:Ex→St→Prop} (hs:FewS h s0 0 0 0 s0.nx s0.nx (.sl none true 0 []) (.sl none true 0 []) (.sl none true 0 []))
 (hrest:∀ s Sv,FewS h s 25 0 0 s.nx s.nx Sv (.sl none true 0 []) (.sl none true 0 [])→wpC E noYF few2C s Q):wpC E noYF few1C s0 Q:=by
 rw [few1_eq]
 obtain ⟨f1,f2,f3,fd,fr,fb,o2,o4,o6,gS,gK,gT,n1,n2⟩:=hs
 simp [hdC,few1C,tlC,F14]
 refine wp_loopUp [(4,4),(9,37)] 25 (fun i s=>s.tm 4 = .int .i64 i∧i≤h.ss.length∧∃ Sv,FewS h s i 0 0 s.nx s.nx Sv (.sl none true 0 []) (.sl none true 0 [])) rfl rfl ?_ ?_
 ·refine ⟨by simp,by simp,.sl none true 0 [],⟨by simp [f1],by simp [f2],by simp [f3],by simp [fd],by simp [fr],by simp [fb],by simp [o2],by simp [o4],by simp [o6],.inl ⟨rfl,rfl⟩,.inl ⟨rfl,rfl⟩,.inl ⟨rfl,rfl⟩,Nat.le_refl _,Nat.le_refl _⟩⟩
 rintro i s hi ⟨h4,hle,Sv,f1,f2,f3,fd,fr,fb,o2,o4,o6,gS,gK,gT,n1,n2⟩ f
 clear f
 by_cases hlt:i<h.ss.length
 ·by_cases hl5:i<25
  ·have hw:=wrapU hl5 (by omega)
   have hl5':(i:Int)<25:=by omega
   obtain ⟨c,hc⟩:∃ c,h.ss[i]=c:=⟨_,rfl⟩
   have hsi:=str_at h.ss hlt
   have hsn:=fewS_succ hlt hl5
   rw [hc] at hsi hsn
   have hmn:=min_len c.length 100
   have hst:=slStr_to (l:=c) (kk:=.i64) (Nat.min_le_left c.length 100)
   have htk:=take_min100 c
   rw [htk] at hst
   rw [show ((100:Nat):Int)=100 from rfl] at hmn
   simp [hmn,hst,h4,f1,o2,objCells,histC,hlt,hl5',f3,o6,idx_slOf strC_len,hsi]
   refine kD_buildSl (cs:=[.str (c.take 100)]) (by simp [splice]) rfl rfl ?_
   simp
   refine kD_appendG2 (f:=strC) (lo:=0) (hi:=s.nx) (l:=fewS i h.ss) (a:=c.take 100) (v:=Sv) (gS.mono (fun u _ _ h=>by simp [app_tk,h]) (Nat.le_refl _)) (by simp) (by simp [slCells,strC]) strC_len (by decide) rfl (by have:=fewS_len i h.ss;omega) (by have:=fewS_len i h.ss;omega) (fun del hdel=>?_)
   have hne:fewS (i+1) h.ss≠[]:=by rw [hsn];simp
   have hlen:(fewS i h.ss).length+1=(fewS (i+1) h.ss).length:=by rw [hsn];simp
   rw [← hsn,hlen]
   simp [f3,o6,objCells,fr,splice,h4,hw]
   refine ⟨by simp [drawOk,indep,disj,fpOf,rdOb,rdTk,lOf,uOf,Delta.wo,Delta.wt],?_⟩
   refine ⟨hl5,by omega,.sl (some (s.nx+64+64+64+64+64+64+64+64+64+64+64+64+64+64+64+64+64+64+64+64+64+64+64+64+64,1)) false (fewS (i+1) h.ss).length ((fewS (i+1) h.ss).flatMap strC),⟨by simp [f1],by simp [f2],by simp [f3],by simp [fd],by simp [fr],by simp [fb],by simp [o2,histC],by simp [o4],by simp,.inr ⟨hne,_,rfl,by simp [app_tk],Nat.zero_le _,by simp⟩,.inl ⟨rfl,rfl⟩,.inl ⟨rfl,rfl⟩,Nat.le_refl _,Nat.le_refl _⟩⟩
  ·have hl5':¬ (i:Int)<25:=by omega
   simp [h4,f1,o2,objCells,histC,hlt,hl5']
   refine hrest _ Sv ⟨by simp [f1],by simp [f2],by simp [f3],by simp [fd],by simp [fr],by simp [fb],by simp [o2,histC],by simp [o4],by simp [o6],?_,.inl ⟨rfl,rfl⟩,.inl ⟨rfl,rfl⟩,Nat.le_refl _,Nat.le_refl _⟩
   rw [← fewS_end hle hi (by omega)]
   simp
   exact gS.mono (fun _ _ _ h=>h) (by omega)
 ·simp [h4,f1,o2,objCells,histC,hlt]
  refine hrest _ Sv ⟨by simp [f1],by simp [f2],by simp [f3],by simp [fd],by simp [fr],by simp [fb],by simp [o2,histC],by simp [o4],by simp [o6],?_,.inl ⟨rfl,rfl⟩,.inl ⟨rfl,rfl⟩,Nat.le_refl _,Nat.le_refl _⟩
  rw [← fewS_end hle hi (by omega)]
  simp
  exact gS.mono (fun _ _ _ h=>h) (by omega)
end Go.Pv.T

/- Few of a history: the keys. -/
namespace Go.Pv.T
open Go Go.Pv
theorem few2_eq:few2C = .seq (hdC few2C) few3C:=rfl
set_option maxRecDepth 100000 in
theorem few2 {h:Hist'} {s0:St} {Q:Ex→St→Prop} {S0:V} {N1:Nat} (hs:FewS h s0 25 0 0 N1 s0.nx S0 (.sl none true 0 []) (.sl none true 0 []))
 (hrest:∀ s Kv,FewS h s 25 45 0 N1 s.nx S0 Kv (.sl none true 0 [])→wpC E noYF few3C s Q):wpC E noYF few2C s0 Q:=by
 rw [few2_eq]
 obtain ⟨f1,f2,f3,fd,fr,fb,o2,o4,o6,gS,gK,gT,n1,n2⟩:=hs
 simp [hdC,few2C,few1C,tlC,F14]
 refine wp_loopUp [(5,5),(38,66)] 45 (fun i s=>s.tm 5 = .int .i64 i∧i≤h.ks.length∧∃ Kv,FewS h s 25 i 0 N1 s.nx S0 Kv (.sl none true 0 [])) rfl rfl ?_ ?_
 ·refine ⟨by simp,by simp,.sl none true 0 [],⟨by simp [f1],by simp [f2],by simp [f3],by simp [fd],by simp [fr],by simp [fb],by simp [o2],by simp [o4],by simp [o6],?_,.inl ⟨rfl,rfl⟩,.inl ⟨rfl,rfl⟩,by simp;omega,Nat.le_refl _⟩⟩
  simp
  exact gS
 rintro i s hi ⟨h4,hle,Kv,f1,f2,f3,fd,fr,fb,o2,o4,o6,gS,gK,gT,n1,n2⟩ f
 clear f
 by_cases hlt:i<h.ks.length
 ·by_cases hl5:i<45
  ·have hw:=wrapU hl5 (by omega)
   have hl5':(i:Int)<45:=by omega
   obtain ⟨c,hc⟩:∃ c,h.ks[i]=c:=⟨_,rfl⟩
   have hsi:=str_at h.ks hlt
   have hsn:=fewS_succ hlt hl5
   rw [hc] at hsi hsn
   have hmn:=min_len c.length 100
   have hst:=slStr_to (l:=c) (kk:=.i64) (Nat.min_le_left c.length 100)
   have htk:=take_min100 c
   rw [htk] at hst
   rw [show ((100:Nat):Int)=100 from rfl] at hmn
   simp [hmn,hst,h4,f1,o2,objCells,histC,hlt,hl5',f3,o6,idx_slOf strC_len,hsi]
   refine kD_buildSl (cs:=[.str (c.take 100)]) (by simp [splice]) rfl rfl ?_
   simp
   refine kD_appendG2 (f:=strC) (lo:=N1) (hi:=s.nx) (l:=fewS i h.ks) (a:=c.take 100) (v:=Kv) (gK.mono (fun u _ _ h=>by simp [app_tk,h]) (Nat.le_refl _)) (by simp) (by simp [slCells,strC]) strC_len (by decide) rfl (by have:=fewS_len i h.ks;omega) (by have:=fewS_len i h.ks;omega) (fun del hdel=>?_)
   have hne:fewS (i+1) h.ks≠[]:=by rw [hsn];simp
   have hlen:(fewS i h.ks).length+1=(fewS (i+1) h.ks).length:=by rw [hsn];simp
   have hdN:∀ u,u<N1→¬ del=some u:=fun u hu e=>by have:=(gK.tok_lt _ (hdel u e)).1;omega
   rw [← hsn,hlen]
   simp [f3,o6,objCells,fr,splice,h4,hw]
   refine ⟨by simp [drawOk,indep,disj,fpOf,rdOb,rdTk,lOf,uOf,Delta.wo,Delta.wt],?_⟩
   refine ⟨hl5,by omega,.sl (some (s.nx+64+64+64+64+64+64+64+64+64+64+64+64+64+64+64+64+64+64+64+64+64+64+64+64+64,1)) false (fewS (i+1) h.ks).length ((fewS (i+1) h.ks).flatMap strC),⟨by simp [f1],by simp [f2],by simp [f3],by simp [fd],by simp [fr],by simp [fb],by simp [o2,histC],by simp [o4],by simp,gS.mono (fun u _ hu ht=>by simp [app_tk,ht,hdN u hu]) (Nat.le_refl _),.inr ⟨hne,_,rfl,by simp [app_tk],by omega,by simp⟩,.inl ⟨rfl,rfl⟩,by first | omega | (simp;omega),Nat.le_refl _⟩⟩
  ·have hl5':¬ (i:Int)<45:=by omega
   simp [h4,f1,o2,objCells,histC,hlt,hl5']
   refine hrest _ Kv ⟨by simp [f1],by simp [f2],by simp [f3],by simp [fd],by simp [fr],by simp [fb],by simp [o2,histC],by simp [o4],by simp [o6],?_,?_,.inl ⟨rfl,rfl⟩,by simp;omega,Nat.le_refl _⟩
   ·simp
    exact gS
   rw [← fewS_end hle hi (by omega)]
   simp
   exact gK.mono (fun _ _ _ h=>h) (by omega)
 ·simp [h4,f1,o2,objCells,histC,hlt]
  refine hrest _ Kv ⟨by simp [f1],by simp [f2],by simp [f3],by simp [fd],by simp [fr],by simp [fb],by simp [o2,histC],by simp [o4],by simp [o6],?_,?_,.inl ⟨rfl,rfl⟩,by simp;omega,Nat.le_refl _⟩
  ·simp
   exact gS
  rw [← fewS_end hle hi (by omega)]
  simp
  exact gK.mono (fun _ _ _ h=>h) (by omega)
end Go.Pv.T

/- Few of a history: the transactions. -/
namespace Go.Pv.T
open Go Go.Pv
theorem few3_eq:few3C = .seq (hdC few3C) few4C:=rfl
theorem few_end {h:Hist'} {i:Nat} (hi:i≤h.ts.length) (hn:i≤45) (hx:¬ (i<h.ts.length∧i<45)):(h.ts.take i).map fewT=(h.ts.take 45).map fewT:=by
 congr 1
 by_cases h1:i<h.ts.length
 ·have:i=45:=by omega
  rw [this]
 ·rw [List.take_of_length_le (by omega),List.take_of_length_le (by omega)]
theorem take_ops (l:List Op') (k:Nat):(l.flatMap opC).take (k * 4)=(l.take k).flatMap opC:=by
 induction l generalizing k with
 | nil=>simp
 | cons a l ih =>
  cases k with
  | zero=>simp
  | succ k =>
   rw [List.flatMap_cons,List.take_succ_cons,List.flatMap_cons,Nat.succ_mul,← ih k]
   show (V.bool a.w::V.int .i64 a.key::V.int .i64 a.v.kind::V.int .i64 a.v.n::l.flatMap opC).take (k * 4+4)=_
   simp [opC]
theorem kS_appendL2 {E:Env} {Yf:YF} {st:St} {ub:Nat} {K:St→Nat→Prop} {d:Option Nat} {nm:Bool} {α:Type} {f:α→List V} {sz bytes u:Nat} {l1 l2:List α} {s x:A} (hs:eval E st.tm s = .sl (some (u,sz)) false l1.length (l1.flatMap f)) (hu:st.tk u=true) (hle:u≤ub) (hx:slCells st.ob sz (eval E st.tm x)=some (l2.flatMap f)) (hf:∀ a,(f a).length=sz) (h0:0<sz)
 (hp:(l2.flatMap f).all V.pureLeaf=true) (hb:(l1.length+l2.length) * bytes≤140737488355328) (hb2:l1.length+l2.length≤140737488355328)
 (h:∀ (u':Nat) (del:Option Nat) (add:List Nat),u'≤ub→(∀ v,del=some v→v=u)→(if u'∈add then true else if u'∈del.toList then false else st.tk u')=true→kApp K st d ub { v:=.sl (some (u',sz)) false (l1++l2).length ((l1++l2).flatMap f),del:=del,add:=add }):wpStep E Yf ⟨d,.append false sz bytes s x,none,nm⟩ st ub K:=by
 cases l2 with
 | nil =>
  rw [wpStep_of _ rfl rfl]
  simp only [aop,hs,hx,Option.bind_some,List.flatMap_nil,if_true]
  rw [if_pos (by rw [flatMap_len hf]),wpD_one]
  have:=h u none [] hle (fun v e=>by cases e) (by simpa using hu)
  simpa using this
 | cons a l =>
  have h1:((a::l).flatMap f).length / sz=(a::l).length:=by rw [flatMap_len hf];exact Nat.mul_div_cancel _ h0
  have hne:(a::l).flatMap f≠[]:=fun e=>by have:=congrArg List.length e;rw [flatMap_len hf] at this;have:=Nat.mul_pos (show 0<(a::l).length by simp) h0;simp_all
  refine kS_append_tok hs hu hx hne (by rw [flatMap_len hf]) h0 hp (by rw [h1];exact hb) (by rw [h1];exact hb2) ?_
  rw [h1,← List.length_append,← List.flatMap_append]
  exact h ub (some u) [ub] (Nat.le_refl _) (fun v e=>by cases e;rfl) (by simp)
set_option maxRecDepth 100000 in
theorem few3 {h:Hist'} {s0:St} {Q:Ex→St→Prop} {S0 K0:V} {N1 N2:Nat} (hs:FewS h s0 25 45 0 N1 N2 S0 K0 (.sl none true 0 []))
 (hrest:∀ s Tv,FewS h s 25 45 45 N1 N2 S0 K0 Tv→wpC E noYF few4C s Q):wpC E noYF few3C s0 Q:=by
 rw [few3_eq]
 obtain ⟨f1,f2,f3,fd,fr,fb,o2,o4,o6,gS,gK,gT,n1,n2⟩:=hs
 simp [hdC,few3C,few2C,few1C,tlC,F14]
 refine wp_loopUp [(6,7),(67,98)] 45 (fun i s=>s.tm 6 = .int .i64 i∧i≤h.ts.length∧∃ Tv,FewS h s 25 45 i N1 N2 S0 K0 Tv) rfl rfl ?_ ?_
 ·refine ⟨by simp,by simp,.sl none true 0 [],⟨by simp [f1],by simp [f2],by simp [f3],by simp [fd],by simp [fr],by simp [fb],by simp [o2],by simp [o4],by simp [o6],?_,?_,.inl ⟨rfl,rfl⟩,n1,by simp;omega⟩⟩
  ·simp
   exact gS
  ·simp
   exact gK
 rintro i s hi ⟨h4,hle,Tv,f1,f2,f3,fd,fr,fb,o2,o4,o6,gS,gK,gT,n1,n2⟩ f
 clear f
 by_cases hlt:i<h.ts.length
 ·by_cases hl5:i<45
  ·have hw:=wrapU hl5 (by omega)
   have hl5':(i:Int)<45:=by omega
   obtain ⟨t,ht⟩:∃ t,h.ts[i]=t:=⟨_,rfl⟩
   have hmn:=min_len t.ops.length 25
   rw [show ((25:Nat):Int)=25 from rfl] at hmn
   have hld:=load_slOf txnC_len s.ob h.ts hlt
   rw [ht] at hld
   simp [h4,f1,o2,objCells,histC,hlt,hl5',idx_slOf txnC_len,load_slOf txnC_len,ht,txnC,fr,fb,splice]
   refine kS_buildSl (cs:=[]) rfl rfl rfl ?_
   have hss:=slSl_to (cs:=t.ops.flatMap opC) (kk:=.i64) (t:=none) (nl:=t.nl) (sz:=4) (n:=t.ops.length) (Nat.min_le_left t.ops.length 25) (by rw [flatMap_len opC_len])
   rw [take_ops] at hss
   have hto:t.ops.take (min t.ops.length 25)=t.ops.take 25:=by
    rcases Nat.le_total t.ops.length 25 with h' | h'
    ·rw [Nat.min_eq_left h',List.take_of_length_le (Nat.le_refl _),List.take_of_length_le h']
    ·rw [Nat.min_eq_right h']
   rw [hto] at hss
   have hmm:min t.ops.length 25=(t.ops.take 25).length:=by rw [List.length_take,Nat.min_comm]
   rw [hmm] at hss hmn
   replace hss:slSlV 4 none (some (.int .i64 ((t.ops.take 25).length:Int))) (slOf t.nl opC t.ops)=_:=hss
   generalize hL:t.ops.take 25=L at *
   simp [objCells,hmn,hss]
   have hLl:L.length≤25:=by rw [← hL,List.length_take];omega
   have hop:(L.flatMap opC).all V.pureLeaf=true:=by
    rw [List.all_eq_true]
    intro y hy
    obtain ⟨a,_,ha⟩:=List.mem_flatMap.1 hy
    simp [opC] at ha
    rcases ha with rfl | rfl | rfl | rfl <;> rfl
   refine kS_appendL2 (f:=opC) (l1:=[]) (l2:=L) (by simp;try rfl) (by simp [app_tk]) (by omega) (by simp [slCells,-List.length_flatMap,flatMap_len opC_len]) opC_len (by decide) hop (by simp;omega) (by simp;omega) ?_
   intro u2 del2 add2 hu2 hd2 htk2
   have hdS:∀ u,u<s.nx→¬ del2=some u:=fun u hu e=>by have:=hd2 u e;omega
   simp [objCells,fr,splice,f3,o6]
   refine kS_buildSl (cs:=[.int .i64 t.s,.int .i64 t.f,.sl (some (u2,4)) false L.length (L.flatMap opC)]) (by simp [splice]) rfl (by simp [-List.length_flatMap]) ?_
   simp
   have hl45:((h.ts.take i).map fewT).length≤45:=by rw [List.length_map,List.length_take];omega
   have hfT:txnC (fewT t)=[.int .i64 t.s,.int .i64 t.f,.sl none false L.length (L.flatMap opC)]:=by simp [txnC,fewT,slOf,hL]
   obtain ⟨tT,hTv⟩:=gT.form
   refine kS_appendG (f:=txnC) (lo:=N2) (hi:=s.nx) (l:=(h.ts.take i).map fewT) (a:=fewT t) (v:=Tv) ?_ (by simp) (by simp [slCells,hfT]) txnC_len (by decide) (by simp [hfT,-List.length_flatMap]) (by omega) (by omega) (fun del hdel=>?_)
   ·exact gT.mono (fun u _ hu ht=>by simp [app_tk,ht,hdS u hu]) (Nat.le_refl _)
   have hdN:∀ u,u<N2→¬ del=some u:=fun u hu e=>by have:=hdel u e;omega
   have hsn:(h.ts.take (i+1)).map fewT=(h.ts.take i).map fewT++[fewT t]:=by rw [List.take_succ_eq_append_getElem hlt,ht];simp
   have hne:(h.ts.take (i+1)).map fewT≠[]:=by rw [hsn];simp
   have hlen:((h.ts.take i).map fewT).length+1=((h.ts.take (i+1)).map fewT).length:=by rw [hsn];simp
   rw [← hsn,hlen]
   generalize hM:(h.ts.take (i+1)).map fewT=M at *
   simp [f3,o6,objCells,fr,splice,h4,hw]
   refine ⟨hl5,by omega,_,⟨by simp [f1],by simp [f2],by simp [f3],by simp [fd],by simp [fr],by simp [fb],by simp [o2,histC],by simp [o4],by simp;try rfl,gS.mono (fun u _ hu ht=>by simp [app_tk,ht,hdS u (by omega),hdN u (by omega)]) (Nat.le_refl _),gK.mono (fun u _ hu ht=>by simp [app_tk,ht,hdS u (by omega),hdN u (by omega)]) (Nat.le_refl _),?_,n1,by first | omega | (simp;omega)⟩⟩
   rw [hM]
   exact .inr ⟨hne,_,rfl,by simp [app_tk],by omega,by first | omega | simp⟩
  ·have hl5':¬ (i:Int)<45:=by omega
   simp [h4,f1,o2,objCells,histC,hlt,hl5']
   refine hrest _ Tv ⟨by simp [f1],by simp [f2],by simp [f3],by simp [fd],by simp [fr],by simp [fb],by simp [o2,histC],by simp [o4],by simp [o6],?_,?_,?_,n1,by simp;omega⟩
   ·simp
    exact gS
   ·simp
    exact gK
   rw [← few_end hle hi (fun hx=>by omega)]
   simp [-List.map_take]
   exact gT.mono (fun _ _ _ h=>h) (by omega)
 ·simp [h4,f1,o2,objCells,histC,hlt]
  refine hrest _ Tv ⟨by simp [f1],by simp [f2],by simp [f3],by simp [fd],by simp [fr],by simp [fb],by simp [o2,histC],by simp [o4],by simp [o6],?_,?_,?_,n1,by simp;omega⟩
  ·simp
   exact gS
  ·simp
   exact gK
  rw [← few_end hle hi (fun hx=>by omega)]
  simp [-List.map_take]
  exact gT.mono (fun _ _ _ h=>h) (by omega)
end Go.Pv.T

/- Few of a history: whole. -/
namespace Go.Pv.T
open Go Go.Pv
theorem kE1 {st:St} {p l u:Nat} {x y z:V} {g:Hist'} (hd:st.df=[]) (hp:st.tm p = .ptr l u 0) (ho:st.ob l=some ⟨u,.cells [x,y,z]⟩)
 (hx:SlOut st x g.sn g.ss.length (g.ss.flatMap strC)) (hy:SlOut st y g.kn g.ks.length (g.ks.flatMap strC)) (hz:SlOut st z g.tn g.ts.length (g.ts.flatMap txnC)):kEndE [.cell p (some 3)] (fun r=>HistR r g) .ret st:=endH1 hd hp ho hx hy hz
set_option maxRecDepth 100000 in
theorem few4 {h:Hist'} {s:St} {N1 N2:Nat} {S0 K0 T0:V} (hs:FewS h s 25 45 45 N1 N2 S0 K0 T0):wpC E noYF few4C s (kEndE [.cell 2 (some 3)] fun r=>HistR r (fewH h)):=by
 obtain ⟨f1,f2,f3,fd,fr,fb,o2,o4,o6,gS,gK,gT,n1,n2⟩:=hs
 obtain ⟨T,hTd⟩:∃ T,(h.ts.take 45).map fewT=T:=⟨_,rfl⟩
 obtain ⟨S,hSd⟩:∃ S,fewS 25 h.ss=S:=⟨_,rfl⟩
 obtain ⟨K,hKd⟩:∃ K,fewS 45 h.ks=K:=⟨_,rfl⟩
 have hg:fewH h=⟨S.isEmpty,S,K.isEmpty,K,T.isEmpty,T⟩:=by rw [← hTd,← hSd,← hKd];rfl
 rw [hTd] at gT
 rw [hSd] at gS
 rw [hKd] at gK
 rw [hg]
 obtain ⟨tS,hS⟩:=gS.form
 obtain ⟨tK,hK⟩:=gK.form
 obtain ⟨tT,hT⟩:=gT.form
 generalize hP:(kEndE [.cell 2 (some 3)] fun r=>HistR r ⟨S.isEmpty,S,K.isEmpty,K,T.isEmpty,T⟩)=P
 simp [few4C,few3C,few2C,few1C,tlC,F14,f3,f2,o6,o4,objCells,fr,splice,hS,hK,hT]
 subst hP
 refine kE1 (l:=4) (u:=64) (x:=.sl tS S.isEmpty S.length (S.flatMap strC)) (y:=.sl tK K.isEmpty K.length (K.flatMap strC)) (z:=.sl tT T.isEmpty T.length (T.flatMap txnC)) (by simp [fd]) (by simp [f2]) (by simp) (slOut_sl _ tS _ _ _) (slOut_sl _ tK _ _ _) (slOut_sl _ tT _ _ _)
theorem ev14 (h:Hist'):∃ r,Ev E 14 [.agg (histC h)] r∧HistR r (fewH h):=by
 refine Ev_wpE (af:=F14) rfl (by decide) ?_
 show wpC E noYF F14.body _ (kEndE [.cell 2 (some 3)] fun r=>HistR r (fewH h))
 generalize hP:(kEndE [.cell 2 (some 3)] fun r=>HistR r (fewH h))=P
 have e:F14.body = .seq (hdC F14.body) (.seq (hdC (tlC F14.body)) few1C):=rfl
 rw [e]
 simp [hdC,tlC,F14,histC,objCells,splice]
 refine few1 (h:=h) ⟨by simp,by simp,by simp,by simp,by simp,by simp,by simp [histC],by simp,by simp,.inl ⟨rfl,rfl⟩,.inl ⟨rfl,rfl⟩,.inl ⟨rfl,rfl⟩,Nat.le_refl _,Nat.le_refl _⟩ ?_
 intro s1 Sv h1
 refine few2 h1 ?_
 intro s2 Kv h2
 refine few3 h2 ?_
 intro s3 Tv h3
 rw [← hP]
 exact few4 h3
end Go.Pv.T

/- Going backward through ops. -/
namespace Go.Pv.T
open Go Go.Pv
theorem run217 {Yf:YF} (nl:Bool) (ops:List Op') (hm:ops.length≤1000000) {l u lh uh:Nat} {ob0:Nat→Option Obj'} {tk0:Nat→Bool} {ro base ub0:Nat} (J:Nat→(Nat→Option Obj')→(Nat→Bool)→Nat→Prop) (P:V × (Nat→Option Obj') × (Nat→Bool) × Nat→Prop)
 (hfr:∀ k ob ob' tk ub ub',J k ob tk ub→ub≤ub'→Fr ub ob ob'→J k ob' tk ub') (hcap:∀ k ob tk ub,J k ob tk ub→ob lh=some ⟨uh,.cells [slOf nl opC ops]⟩) (hru0:ro≤ub0)
 (hstep:∀ k (_:k<ops.length) ob tk ub,J k ob tk ub→ro≤ub→∃ r,EvY Yf l u [.int .i64 (ops.length - 1 - k:Nat),.agg (opC (ops.getD (ops.length - 1 - k) ⟨false,0,0,0⟩))] ob tk ro ub r∧ro≤r.2.2.2 ∧
  ((r.1 = .bool true∧J (k+1) r.2.1 r.2.2.1 r.2.2.2)∨(r.1 = .bool false∧∀ ob' ub',r.2.2.2≤ub'→Fr r.2.2.2 r.2.1 ob'→P (.tup [],ob',r.2.2.1,ub'))))
 (hend:∀ ob tk ub,J ops.length ob tk ub→P (.tup [],ob,tk,ub)) (h0:J 0 ob0 tk0 ub0):∃ r,EvS E Yf.y 217 [.yld l u,.ptr lh uh 0] ob0 tk0 ro base ub0 r∧P r:=by
 refine EvS_wp (af:=S217) rfl (by decide) ?_
 show wpC E Yf S217.body _ (kEndS S217.res P)
 have hh:=hcap 0 ob0 tk0 ub0 h0
 have w1:IntKind.i64.wrap ((ops.length:Int) - 1)=(ops.length:Int) - 1:=wrap64' (by omega) (by omega)
 simp [S217,objCells,hh,w1]
 refine wp_loopUp [(3,3),(7,18)] ops.length (fun k s=>s.tm 3 = .int .i64 ((ops.length:Int) - 1 - k)∧ro≤s.nx∧J k s.ob s.tk s.nx) rfl rfl ⟨by simp,by simp;omega,hfr _ _ _ _ _ _ h0 (by simp;omega) (Fr.refl _ _)⟩ ?_
 rintro k s hk ⟨h3,hnx,hJ⟩ f
 have f0:s.tm 0 = .yld l u:=by rw [f.t 0 (by simp)];simp
 have f1:s.tm 1 = .ptr lh uh 0:=by rw [f.t 1 (by simp)];simp
 have fd:s.df=[]:=by rw [f.d];simp
 have fr:s.ro=ro:=by rw [f.r];simp
 clear f
 have hc:=hcap _ _ _ _ hJ
 by_cases hlt:k<ops.length
 ·obtain ⟨j,hj⟩:∃ j,j=ops.length - 1 - k:=⟨_,rfl⟩
  have hjl:j<ops.length:=by omega
  have e:(ops.length:Int) - 1 - k=(j:Int):=by omega
  rw [e] at h3
  have w2:IntKind.i64.wrap ((j:Int) - 1)=(ops.length:Int) - 1 - (k+1):=by rw [wrap64' (by omega) (by omega)];omega
  have hgd:ops.getD j ⟨false,0,0,0⟩=ops[j]:=by rw [List.getD_eq_getElem?_getD,List.getElem?_eq_getElem hjl];rfl
  simp [h3,f0,f1,objCells,hc,hjl,idx_slOf opC_len,load_slOf opC_len]
  refine step_gen fun s' hs'=>?_
  have e11:s'.tm 11 = .yld l u:=by rw [hs'];simp
  have e12:s'.tm 12 = .int .i64 j:=by rw [hs'];simp
  have e16:s'.tm 16 = .agg (opC ops[j]):=by rw [hs'];simp
  have e3:s'.tm 3 = .int .i64 j:=by rw [hs'];simp [h3]
  have ed:s'.df=[]:=by rw [hs'];simp [fd]
  have er:s'.ro=ro:=by rw [hs'];simp [fr]
  have et:s'.tk=s.tk:=by rw [hs'];simp
  have eo:s'.ob=s.ob:=by rw [hs'];simp
  clear hs'
  obtain ⟨r,hr,hru,hcase⟩:=hstep k hlt s'.ob s.tk (s.nx+64+64+64+64+64+64+64+64) (hfr _ _ _ _ _ _ hJ (by omega) (by rw [eo];exact Fr.refl _ _)) (by omega)
  rw [← hj,hgd] at hr
  refine wpS_yield (l:=l) (u:=u) (by simpa using e11) ⟨r,by simpa [e12,e16,et,er] using hr,?_⟩
  rcases hcase with ⟨hr1,hJ2⟩ | ⟨hr1,hP⟩
  ·simp [hr1,put,upd_apply,e3,w2]
   exact ⟨hlt,by omega,hfr _ _ _ _ _ _ hJ2 (by omega) (Fr.refl _ _)⟩
  ·simp [hr1,put]
   refine ⟨(.tup [],r.2.1,r.2.2.1,r.2.2.2+64),?_,hP _ _ (by omega) (Fr.refl _ _)⟩
   simp [endS,ed]
 ·have:k=ops.length:=by omega
  subst this
  obtain ⟨X,hX⟩:∃ x:Int,x=(ops.length:Int) - 1 - ops.length:=⟨_,rfl⟩
  rw [← hX] at h3
  have c1:¬ 0≤X:=by omega
  simp [h3,c1]
  refine ⟨(.tup [],s.ob,s.tk,s.nx+64+64),?_,hend _ _ _ (hfr _ _ _ _ _ _ hJ (by omega) (Fr.refl _ _))⟩
  simp [endS,fd]
end Go.Pv.T

/- The last write of a key: going backward. -/
namespace Go.Pv.T
open Go Go.Pv
def AS130:C:=.region [⟨some 7,.alloc [(.bool false),(.int .i64 0),(.int .i64 0),(.int .i64 0)],none,false⟩,⟨none,.store 4 (.t 7) (.t 11),none,false⟩]
def BD130:C:=.block 1 (.seq (.region [⟨some 12,.fieldAddr 0 (.t 7),none,false⟩,⟨some 13,.load none (.t 12),none,false⟩,⟨some 14,.mov (.t 13),none,false⟩,⟨some 15,.fieldAddr 1 (.t 7),(some (14,true)),false⟩,⟨some 16,.load none (.t 15),(some (14,true)),false⟩,⟨some 17,.load none (.t 3),(some (14,true)),false⟩,⟨some 18,.bin .eql (.t 16) (.t 17),(some (14,true)),false⟩,⟨some 19,.pick (.t 14) (.t 18) (.c (.bool false)),none,false⟩])
 (.cond (.t 19) (.seq (.region [⟨some 20,.fieldAddr 2 (.t 7),none,false⟩,⟨some 21,.load (some 2) (.t 20),none,false⟩,⟨none,.store 2 (.t 4) (.t 21),none,false⟩,⟨none,.store 1 (.t 5) (.c (.bool true)),none,false⟩]) (.ret)) (.skip)))
theorem range130 (nl:Bool) (ops:List Op') (hm:ops.length≤1000000) (kv:Int) {st:St} {lh uh:Nat} (U:Nat) (hU:st.nx=U) (hU0:64≤U) (h9:st.tm 9 = .fn (.func 217) [] [.ptr lh uh 0]) (hl:∃ m,lh=2 * m+1∧m<U)
 (h3:st.tm 3 = .ptr 6 0 0) (h4:st.tm 4 = .ptr 8 64 0) (h5:st.tm 5 = .ptr 10 128 0) (hro:st.ro=0) (hfb:st.fb=0) (o6:st.ob 6=some ⟨0,.cells [.int .i64 kv]⟩) (o8:st.ob 8=some ⟨64,.cells [.int .i64 0,.int .i64 0]⟩) (o10:st.ob 10=some ⟨128,.cells [.bool false]⟩)
 (oh:st.ob lh=some ⟨uh,.cells [slOf nl opC ops]⟩) {Q:Ex→St→Prop}
 (hQ:∀ (e:Ex) (ob:Nat→Option Obj') (tk:Nat→Bool) (ub:Nat) (v:Val') (b:Bool),ob 8=some ⟨64,.cells (valC v)⟩→ob 10=some ⟨128,.cells [.bool b]⟩→ob (2 * U+3)=some ⟨U+1,.dfr⟩→U+64≤ub →
  rawTo kv ops ops.length=(v,b)→(e = .nrm∧v=⟨0,0⟩∧b=false∨e = .ret)→Q e { st with ob:=ob,tk:=tk,nx:=ub,df:=(2 * U+3,U+1)::st.df }) :
 wpC E noYF (.rangeFunc (.t 9) [10,11] AS130 BD130) st Q:=by
 obtain ⟨m,rfl,hmU⟩:=hl
 subst hU
 refine wpC_rangeFunc (g:=217) (first:=[]) (captured:=[.ptr (2 * m+1) uh 0]) (by simpa using h9) ?_
 have e1:¬ 2 * m+1=2 * st.nx+1:=by omega
 have e2:¬ 2 * m+1=2 * st.nx+3:=by omega
 have e1':¬ 2 * m=2 * st.nx:=by omega
 have e2':¬ 2 * m=2 * st.nx+2:=by omega
 have:=run217 (Yf:=roundF E noYF AS130 BD130 st [10,11] (2 * st.nx+1) st.nx) nl ops hm (l:=2 * st.nx+1) (u:=st.nx) (lh:=2 * m+1) (uh:=uh)
  (ob0:=upd (upd st.ob (2 * st.nx+3) (some ⟨st.nx+1,.dfr⟩)) (2 * st.nx+1) (some ⟨st.nx,.loop .ready none⟩)) (tk0:=st.tk) (ro:=st.ro) (base:=(st.fb+1023) * 1024) (ub0:=st.nx+64)
  (fun k ob tk ub=>rawTo kv ops ops.length=rawTo kv ops (ops.length - k)∧ob (2 * st.nx+1)=some ⟨st.nx,.loop .ready none⟩∧ob (2 * st.nx+3)=some ⟨st.nx+1,.dfr⟩∧ob 6=some ⟨0,.cells [.int .i64 kv]⟩∧ob 8=some ⟨64,.cells [.int .i64 0,.int .i64 0]⟩∧ob 10=some ⟨128,.cells [.bool false]⟩∧ob (2 * m+1)=some ⟨uh,.cells [slOf nl opC ops]⟩∧st.nx+64≤ub)
  (fun r=>∃ s pend,r.2.1 (2 * st.nx+1)=some ⟨st.nx,.loop s pend⟩∧s≠.busy∧st.ro≤st.nx∧Q (pend.getD .nrm) { st with ob:=fun k=>if Nat.beq (2 * st.nx+1) k then none else r.2.1 k,tk:=r.2.2.1,nx:=r.2.2.2,df:=(2 * st.nx+3,st.nx+1)::st.df })
  ?_ ?_ (by omega) ?_ ?_ ?_
 ·obtain ⟨r,hr,hP⟩:=this
  exact ⟨r,hr,hP⟩
 ·rintro k ob ob' tk ub ub' ⟨g1,g2,g3,g4,g5,g6,g7,g8⟩ hub hfr
  have f:∀ key,(∀ m,ub≤m→key≠2 * m+1)→ob' key=ob key:=hfr
  exact ⟨g1,by rw [f _ (fun m hm=>by omega)];exact g2,by rw [f _ (fun m hm=>by omega)];exact g3,by rw [f _ (fun m hm=>by omega)];exact g4,by rw [f _ (fun m hm=>by omega)];exact g5,by rw [f _ (fun m hm=>by omega)];exact g6,by rw [f _ (fun m hm=>by omega)];exact g7,by omega⟩
 ·rintro k ob tk ub ⟨g1,g2,g3,g4,g5,g6,g7,g8⟩
  exact g7
 ·rintro k hk ob tk ub ⟨g1,g2,g3,g4,g5,g6,g7,g8⟩ hru
  obtain ⟨j,hj⟩:∃ j,j=ops.length - 1 - k:=⟨_,rfl⟩
  have hjl:j<ops.length:=by omega
  have hgd:ops.getD j ⟨false,0,0,0⟩=ops[j]:=by rw [List.getD_eq_getElem?_getD,List.getElem?_eq_getElem hjl];rfl
  have hraw:=rawTo_succ (k:=kv) hjl
  rw [← hj,hgd]
  obtain ⟨o,ho⟩:∃ o,ops[j]=o:=⟨_,rfl⟩
  rw [ho] at hraw ⊢
  rw [show ops.length - k=j+1 by omega] at g1
  rw [hraw] at g1
  refine EvY_round (as:=AS130) (bd:=BD130) (xs:=[.int .i64 (j:Nat),.agg (opC o)]) rfl (by omega) g2 (by decide) (by decide) ?_
  simp [AS130,setPs,objCells,hfb,opC,hro,splice]
  refine ⟨by rw [if_neg (by omega),if_neg (by omega)];exact g2,wpC_gen fun s' hs'=>?_⟩
  have f3:s'.tm 3 = .ptr 6 0 0:=by rw [hs'];simp [upd_apply,h3]
  have f4:s'.tm 4 = .ptr 8 64 0:=by rw [hs'];simp [upd_apply,h4]
  have f5:s'.tm 5 = .ptr 10 128 0:=by rw [hs'];simp [upd_apply,h5]
  have f7:s'.tm 7 = .ptr 14 ub 0:=by rw [hs'];simp
  have n6:¬ 6=2 * st.nx+1:=by omega
  have n8:¬ 8=2 * st.nx+1:=by omega
  have n10:¬ 10=2 * st.nx+1:=by omega
  have n14:¬ 14=2 * st.nx+1:=by omega
  have n3:¬ 2 * st.nx+3=2 * st.nx+1:=by omega
  have n314:¬ 2 * st.nx+3=14:=by omega
  have n114:¬ 2 * m+1=14:=by omega
  have p6:s'.ob 6=some ⟨0,.cells [.int .i64 kv]⟩:=by rw [hs'];simp [upd_apply,n6,g4]
  have p8:s'.ob 8=some ⟨64,.cells [.int .i64 0,.int .i64 0]⟩:=by rw [hs'];simp [upd_apply,n8,g5]
  have p10:s'.ob 10=some ⟨128,.cells [.bool false]⟩:=by rw [hs'];simp [upd_apply,n10,g6]
  have p14:s'.ob 14=some ⟨ub,.cells (opC o)⟩:=by rw [hs'];simp [upd_apply,n14,opC]
  have p3:s'.ob (2 * st.nx+3)=some ⟨st.nx+1,.dfr⟩:=by rw [hs'];simp [upd_apply,n314,g3]
  have p1:s'.ob (2 * st.nx+1)=some ⟨st.nx,.loop .busy none⟩:=by rw [hs'];simp
  have ph:s'.ob (2 * m+1)=some ⟨uh,.cells [slOf nl opC ops]⟩:=by rw [hs'];simp [upd_apply,e1',n114,g7]
  have fr:s'.ro=0:=by rw [hs']
  have fn:ub≤s'.nx:=by rw [hs'];simp;omega
  clear hs'
  have m18:¬ 2 * st.nx+1=8:=by omega
  have m110:¬ 2 * st.nx+1=10:=by omega
  have m38:¬ 2 * st.nx+3=8:=by omega
  have m310:¬ 2 * st.nx+3=10:=by omega
  have skip:wkB kv o=false→rawTo kv ops ops.length=rawTo kv ops (ops.length - (k+1)):=fun hw=>by
   rw [hw] at g1
   rw [g1,show ops.length - (k+1)=j by omega]
   rfl
  have done:wkB kv o=false→(skip':True)→rawTo kv ops ops.length=rawTo kv ops (ops.length - (k+1))∧upd s'.ob (2 * st.nx+1) (some ⟨st.nx,.loop .ready none⟩) (2 * st.nx+3)=some ⟨st.nx+1,.dfr⟩:=fun hw _=>⟨skip hw,by rw [upd_apply,if_neg n3];exact p3⟩
  cases hw1:o.w
  ·have hw:=skip (by unfold wkB;rw [hw1];rfl)
   simp [BD130,f7,p14,objCells,opC,hw1,p1,roundAns]
   exact ⟨hw,by rw [upd_apply,if_neg n3];exact p3,by rw [upd_apply,if_neg n6];exact p6,by rw [upd_apply,if_neg n8];exact p8,by rw [upd_apply,if_neg n10];exact p10,by rw [upd_apply,if_neg e1];exact ph,by omega⟩
  cases hk1:(o.key == kv)
  ·have hw:=skip (by unfold wkB;rw [hw1,hk1];rfl)
   simp [BD130,f7,p14,objCells,opC,hw1,f3,p6,hk1,p1,roundAns]
   exact ⟨hw,by rw [upd_apply,if_neg n3];exact p3,by rw [upd_apply,if_neg n6];exact p6,by rw [upd_apply,if_neg n8];exact p8,by rw [upd_apply,if_neg n10];exact p10,by rw [upd_apply,if_neg e1];exact ph,by omega⟩
  ·have hwt:wkB kv o=true:=by unfold wkB;rw [hw1,hk1];rfl
   rw [hwt] at g1
   simp only [if_true] at g1
   simp [BD130,f7,p14,objCells,opC,hw1,f3,p6,hk1,f4,f5,p8,p10,fr,splice,m18,m110,p1,roundAns]
   intro ob' ub' hle hfr
   have fk:∀ key,(∀ m,s'.nx+64+64+64+64+64+64+64+64+64+64+64+64≤m→key≠2 * m+1)→ob' key=_:=hfr
   have n1':∀ {k:Nat},k≠2 * st.nx+1→(if 2 * st.nx+1=k then none else ob' k)=ob' k:=fun hk=>if_neg fun e=>hk e.symm
   refine ⟨.done,some .ret,?_,by simp,?_⟩
   ·rw [fk _ (fun m hm=>by omega)]
    simp
   ·have:=hQ .ret (fun k=>if 2 * st.nx+1=k then none else ob' k) s'.tk ub' o.v true (by rw [n1' n8,fk _ (fun m hm=>by omega)];simp [upd_apply,n8,valC]) (by rw [n1' n10,fk _ (fun m hm=>by omega)];simp [upd_apply,n10])
     (by rw [n1' n3,fk _ (fun m hm=>by omega)];simp [upd_apply,m38,m310,p3]) (by omega) g1 (Or.inr rfl)
    rw [hro,hfb] at this
    simpa [app_tk0] using this
 ·rintro ob tk ub ⟨g1,g2,g3,g4,g5,g6,g7,g8⟩
  refine ⟨.ready,none,g2,by simp,by omega,?_⟩
  rw [Nat.sub_self] at g1
  exact hQ .nrm _ _ _ ⟨0,0⟩ false ((away ob (by omega)).trans g5) ((away ob (by omega)).trans g6) ((away ob (by omega)).trans g3) g8 g1 (Or.inl ⟨rfl,rfl,rfl⟩)
 ·have n13:¬ 2 * st.nx+3=2 * st.nx+1:=by omega
  have a6:¬ 6=2 * st.nx+1:=by omega
  have b6:¬ 6=2 * st.nx+3:=by omega
  have a8:¬ 8=2 * st.nx+1:=by omega
  have b8:¬ 8=2 * st.nx+3:=by omega
  have a10:¬ 10=2 * st.nx+1:=by omega
  have b10:¬ 10=2 * st.nx+3:=by omega
  exact ⟨by rw [Nat.sub_zero],by simp,by simp [upd_apply],by simp [upd_apply,a6,b6,o6],by simp [upd_apply,a8,b8,o8],by simp [upd_apply,a10,b10,o10],by simp [upd_apply,e1',e2',oh],by omega⟩
end Go.Pv.T

/- Fresh numbers: the reference's way. -/
namespace Go.Pv.T
open Go Go.Pv
def wrTo (h:Hist') (key:Int) (i k:Nat):List Int:=((opsTo h i k).filter (wkB key)).map (·.v.n)
def wrL (h:Hist') (key:Int):List Int:=((opsOf h).filter (wkB key)).map (·.v.n)
theorem wrTo_end (h:Hist') (key:Int):wrTo h key h.ts.length 0=wrL h key:=by unfold wrTo wrL;rw [opsTo_end]
theorem wrTo_next {h:Hist'} {i:Nat} (hi:i<h.ts.length) (key:Int):wrTo h key i (h.ts[i]).ops.length=wrTo h key (i+1) 0:=by unfold wrTo;rw [opsTo_next hi]
theorem wrTo_step {h:Hist'} {i k:Nat} (hi:i<h.ts.length) (hk:k<(h.ts[i]).ops.length) (key:Int) :
 wrTo h key i (k+1)=wrTo h key i k++(if wkB key (h.ts[i]).ops[k] then [((h.ts[i]).ops[k]).v.n] else []):=by
 unfold wrTo
 rw [opsTo_step hi hk,List.filter_append,List.map_append]
 cases hw:wkB key (h.ts[i]).ops[k] <;> simp [hw]
end Go.Pv.T

/- Fresh numbers: least that is not there; the reference's walk. -/
namespace Go.Pv.T
open Go Go.Pv
def mex (l:List Int):Nat:=((List.range (l.length+1)).find? fun (n:Nat)=>!decide ((n:Int)∈l)).getD 0
theorem mex_le:∀ (n:Nat) (l:List Int),(∀ j:Nat,j<n→(j:Int)∈l)→n≤l.length
 | 0,_,_=>Nat.zero_le _
 | n+1,l,h=>by
  have h1:=h n (by omega)
  have h2:=mex_le n (l.erase (n:Int)) (fun j hj=>(List.mem_erase_of_ne (by omega)).2 (h j (by omega)))
  rw [List.length_erase_of_mem h1] at h2
  have:=List.length_pos_of_mem h1
  omega
theorem mex_of {l:List Int} {n:Nat} (h1:(n:Int) ∉ l) (h2:∀ j:Nat,j<n→(j:Int)∈l):mex l=n:=by
 have hn:=mex_le n l h2
 unfold mex
 rw [List.find?_range_eq_some.2 ⟨by simpa using h1,by rw [List.mem_range];omega,fun j hj=>by simpa using h2 j hj⟩]
 rfl
theorem may_bad {g:Hist'} (hm:mayH g=false):errH g=4:=by unfold errH;rw [hm];rfl
theorem flat_le {ts:List Txn'} (h:∀ t∈ts,t.ops.length≤1000):(ts.flatMap (·.ops)).length≤ts.length * 1000:=by
 induction ts with
 | nil=>simp
 | cons t ts ih =>
  rw [List.flatMap_cons,List.length_append,List.length_cons]
  have:=h t (List.mem_cons_self ..)
  have:=ih fun t ht=>h t (List.mem_cons_of_mem _ ht)
  omega
theorem wrL_len {h:Hist'} (hs:Small h) (key:Int):(wrL h key).length≤1000000:=by
 unfold wrL
 rw [List.length_map]
 have h1:=List.length_filter_le (wkB key) (opsOf h)
 have h2:(opsOf h).length≤h.ts.length * 1000:=flat_le hs.os
 have h3:=hs.ts
 omega
def freshH (h:Hist') (key:Int):Val':=if mayH h && (decide (0≤key) && decide (key<h.ks.length)) then ⟨1,(mex (wrL h key):Nat)⟩ else ⟨0,0⟩
end Go.Pv.T

/- The last write of a key; what a transaction leaves. -/
namespace Go.Pv.T
open Go Go.Pv
theorem sv175 {Yf:YF} {sl:V} (hs:sl.cells=[sl]) (hl:sl.leaf=true) {ob:Nat→Option Obj'} {tk:Nat→Bool} {ro base ub:Nat}:∃ r,EvS E Yf.y 175 [sl] ob tk ro base ub r ∧
 r.1 = .fn (.func 217) [] [.ptr (2 * ub+1) ub 0]∧(∀ key,r.2.1 key=if key=2 * ub+1 then some ⟨ub,.cells [sl]⟩ else ob key)∧r.2.2.1=tk∧r.2.2.2=ub+256:=by
 refine EvS_wp (af:=S175) rfl (by decide) ?_
 show wpC E Yf S175.body _ (kEndS S175.res _)
 simp [S175,hs,hl]
 exact endS_1 (by simp) ⟨by simp,fun key=>by simp,by simp [app_tk0],by simp⟩
def lastW (ops:List Op') (key:Int):Val' × Bool:=rawTo key ops ops.length
theorem ev130 (nl:Bool) (ops:List Op') (hm:ops.length≤1000000) (key:Int):Ev E 130 [slOf nl opC ops,.int .i64 key] (.tup [.agg (valC (lastW ops key).1),.bool (lastW ops key).2]):=by
 refine Ev_wpK (af:=F130) rfl ?_
 simp [F130]
 refine kS_callP (vs:=[slOf nl opC ops]) (by simp) rfl (sv175 (by simp) (by simp)) ?_
 rintro v ob1 tk1 ub1 ⟨e1,e2,e3,e4⟩
 simp only at e1 e2 e3 e4
 subst e1 e4
 simp
 refine wpC_gen fun st hst=>?_
 have g3:st.tm 3 = .ptr 6 0 0:=by rw [hst];simp
 have g4:st.tm 4 = .ptr 8 64 0:=by rw [hst];simp
 have g5:st.tm 5 = .ptr 10 128 0:=by rw [hst];simp
 have g9:st.tm 9 = .fn (.func 217) [] [.ptr 513 256 0]:=by rw [hst];simp
 have gd:st.df=[]:=by rw [hst];simp
 have gb:st.fb=0:=by rw [hst];simp
 have gr:st.ro=0:=by rw [hst];simp
 have gn:st.nx=512:=by rw [hst];simp
 have p6:st.ob 6=some ⟨0,.cells [.int .i64 key]⟩:=by rw [hst];simp only [setN_ob,retS_ob];rw [e2];simp
 have p8:st.ob 8=some ⟨64,.cells [.int .i64 0,.int .i64 0]⟩:=by rw [hst];simp only [setN_ob,retS_ob];rw [e2];simp
 have p10:st.ob 10=some ⟨128,.cells [.bool false]⟩:=by rw [hst];simp only [setN_ob,retS_ob];rw [e2];simp
 have ph:st.ob 513=some ⟨256,.cells [slOf nl opC ops]⟩:=by rw [hst];simp only [setN_ob,retS_ob];rw [e2];simp
 clear hst e2
 refine range130 nl ops hm key 512 gn (by omega) g9 ⟨256,rfl,by omega⟩ g3 g4 g5 gr gb p6 p8 p10 ph ?_
 intro e ob tk ub v b q8 q10 qd hub hraw hcase
 have hl:lastW ops key=(v,b):=hraw
 rw [hl]
 rcases hcase with ⟨rfl,rfl,rfl⟩ | rfl
 ·simp [g4,g5,objCells,q8,q10,gr,splice,valC]
  refine endV_df (l:=1027) (u:=513) (by simp [gd]) (by simp [qd]) (by simp) (kEnd_of rfl (l:=[.agg (valC ⟨0,0⟩),.bool false]) (by simp [resOf,objCells,g4,g5,valC]) rfl rfl)
 ·simp
  refine endV_df (l:=1027) (u:=513) (by simp [gd]) (by simp [qd]) (by simp [gr]) (kEnd_of rfl (l:=[.agg (valC v),.bool b]) (by simp [resOf,objCells,g4,g5,q8,q10,valC]) rfl rfl)
def opsAt (h:Hist') (i:Int):Bool × List Op':=if mayH h && (decide (0≤i) && decide (i<h.ts.length)) then ((h.ts.getD i.toNat ⟨0,0,true,[]⟩).nl,(h.ts.getD i.toNat ⟨0,0,true,[]⟩).ops) else (true,[])
theorem ev129 {h:Hist'} (hs:Small h) (i:Int):Ev E 129 [.agg (histC h),.int .i64 i] (slOf (opsAt h i).1 opC (opsAt h i).2):=by
 have e70:=ev70 hs
 have hts:=hs.ts
 refine Ev_wpK (af:=F129) rfl ?_
 obtain ⟨R,hR⟩:∃ R,opsAt h i=R:=⟨_,rfl⟩
 rw [hR]
 unfold opsAt at hR
 simp [F129,histC,objCells]
 refine kS_ev e70 (by simp [histC]) rfl (by simp [histC]) ?_
 cases hm:mayH h
 ·rw [may_bad hm]
  rw [hm] at hR
  subst hR
  simp
  exact endV_1 rfl (by simp [slOf]) rfl
 rw [hm] at hR
 rw [may_err hm]
 by_cases k1:i<0
 ·rw [if_neg (by simp;omega)] at hR
  subst hR
  simp [k1]
  exact endV_1 rfl (by simp [slOf]) rfl
 by_cases k2:(h.ts.length:Int)≤i
 ·rw [if_neg (by simp;omega)] at hR
  subst hR
  simp [k1,k2,objCells]
  exact endV_1 rfl (by simp [slOf]) rfl
 rw [if_pos (by simp;omega)] at hR
 obtain ⟨j,rfl⟩:∃ j:Nat,i=j:=⟨i.toNat,by omega⟩
 have hj:j<h.ts.length:=by omega
 have hl3:(h.ts.flatMap txnC)[j * 3+2]? = some (slOf (h.ts[j]).nl opC (h.ts[j]).ops):=by
  rw [fld_at txnC_len h.ts hj (by decide:2<3)];rfl
 rw [Int.toNat_natCast,getD_lt hj] at hR
 subst hR
 simp [k1,k2,objCells,hj,idx_slOf txnC_len,hl3]
 exact endV_1 rfl (by simp) rfl
theorem opsAt_len {h:Hist'} (hs:Small h) (i:Int):(opsAt h i).2.length≤1000:=by
 unfold opsAt
 split
 ·rename_i hc
  simp only [Bool.and_eq_true,decide_eq_true_eq] at hc
  have hj:i.toNat<h.ts.length:=by omega
  rw [getD_lt hj]
  exact hs.os _ (List.getElem_mem hj)
 ·simp
theorem ev116 {h:Hist'} (hs:Small h) (i key:Int):Ev E 116 [.agg (histC h),.int .i64 i,.int .i64 key] (.tup [.agg (valC (lastW (opsAt h i).2 key).1),.bool (lastW (opsAt h i).2 key).2]):=by
 have e129:=ev129 hs i
 have e130:=ev130 (opsAt h i).1 (opsAt h i).2 (by have:=opsAt_len hs i;omega) key
 refine Ev_wpK (af:=F116) rfl ?_
 generalize (opsAt h i).1=nl at *
 generalize (opsAt h i).2=ops at *
 obtain ⟨R,hR⟩:∃ R,lastW ops key=R:=⟨_,rfl⟩
 rw [hR] at e130 ⊢
 simp [F116,histC,objCells]
 refine kS_ev e129 (by simp [histC]) rfl (by simp [histC]) ?_
 rw [retA_plain (show (slOf nl opC ops).plain=true from rfl)]
 simp
 refine kS_ev e130 (by simp) rfl (by simp) ?_
 rw [retA_tupl (by simp [V.plain,valC])]
 simp [objCells,splice,valC]
 exact kEnd_of (by simp) (l:=[.agg (valC R.1),.bool R.2]) (by simp [resOf,objCells,valC]) rfl rfl
end Go.Pv.T

/- The read at a place. -/
namespace Go.Pv.T
open Go Go.Pv
def opAt (h:Hist') (a b:Int):Option Op' :=
 if mayH h && (decide (0≤a) && (decide (a<h.ts.length) && (decide (0≤b) && decide (b<((h.ts.getD a.toNat ⟨0,0,true,[]⟩).ops.length:Nat))))) then (h.ts.getD a.toNat ⟨0,0,true,[]⟩).ops[b.toNat]? else none
def op0:Op':=⟨false,0,0,0⟩
theorem ev74 {h:Hist'} (hs:Small h) (a b:Int):Ev E 74 [.agg (histC h),.agg (placeC (a,b))] (.tup [.agg (opC ((opAt h a b).getD op0)),.bool ((opAt h a b).any fun o=>!o.w)]):=by
 have e70:=ev70 hs
 have hts:=hs.ts
 refine Ev_wpK (af:=F74) rfl ?_
 obtain ⟨R,hR⟩:∃ R,opAt h a b=R:=⟨_,rfl⟩
 rw [hR]
 unfold opAt at hR
 simp [F74,histC,objCells,placeC]
 generalize hK:kSeq E noYF (C.seq (C.draw _ _) _) (kEnd _ _)=K
 have hret:∀ s:St,kEnd [.cell 4 (some 4),.t 5] (.tup [.agg (opC (R.getD op0)),.bool (R.any fun o=>!o.w)]) .ret s→K .ret s:=fun s h=>by
  rw [← hK,kSeq_ret]
  exact h
 refine kD_ev e70 (by simp [histC]) rfl (by simp [histC]) ?_
 cases hm:mayH h
 ·rw [may_bad hm]
  rw [hm] at hR
  subst hR
  simp [objCells,splice]
  exact hret _ (kEnd_of (by simp) (l:=[.agg (opC op0),.bool false]) (by simp [resOf,objCells,opC,op0]) rfl rfl)
 rw [hm] at hR
 rw [may_err hm]
 by_cases k1:a<0
 ·rw [if_neg (by simp;omega)] at hR
  subst hR
  simp [k1,objCells,splice]
  exact hret _ (kEnd_of (by simp) (l:=[.agg (opC op0),.bool false]) (by simp [resOf,objCells,opC,op0]) rfl rfl)
 by_cases k2:(h.ts.length:Int)≤a
 ·rw [if_neg (by simp;omega)] at hR
  subst hR
  simp [k1,k2,objCells,splice]
  exact hret _ (kEnd_of (by simp) (l:=[.agg (opC op0),.bool false]) (by simp [resOf,objCells,opC,op0]) rfl rfl)
 obtain ⟨i,rfl⟩:∃ i:Nat,a=i:=⟨a.toNat,by omega⟩
 have hi:i<h.ts.length:=by omega
 rw [Int.toNat_natCast,getD_lt hi] at hR
 obtain ⟨t,ht⟩:∃ t,h.ts[i]=t:=⟨_,rfl⟩
 rw [ht] at hR
 have hos:=hs.os t (ht ▸ List.getElem_mem hi)
 have hl3:(h.ts.flatMap txnC)[i * 3+2]? = some (slOf t.nl opC t.ops):=by
  rw [fld_at txnC_len h.ts hi (by decide:2<3),ht];rfl
 by_cases k3:b<0
 ·rw [if_neg (by simp;omega)] at hR
  subst hR
  simp [k1,k2,k3,objCells,splice]
  exact hret _ (kEnd_of (by simp) (l:=[.agg (opC op0),.bool false]) (by simp [resOf,objCells,opC,op0]) rfl rfl)
 by_cases k4:(t.ops.length:Int)≤b
 ·rw [if_neg (by simp;omega)] at hR
  subst hR
  simp [k1,k2,k3,k4,objCells,splice,hi,idx_slOf txnC_len,hl3]
  exact hret _ (kEnd_of (by simp) (l:=[.agg (opC op0),.bool false]) (by simp [resOf,objCells,opC,op0]) rfl rfl)
 obtain ⟨j,rfl⟩:∃ j:Nat,b=j:=⟨b.toNat,by omega⟩
 have hj:j<t.ops.length:=by omega
 rw [if_pos (by simp;omega),Int.toNat_natCast,List.getElem?_eq_getElem hj] at hR
 obtain ⟨o,ho⟩:∃ o,t.ops[j]=o:=⟨_,rfl⟩
 rw [ho] at hR
 subst hR
 have k4':¬ t.ops.length≤j:=by omega
 have k2':¬ h.ts.length≤i:=by omega
 have rest:∀ s:St,s.tm 2 = .ptr 4 0 0→s.tm 3 = .ptr 6 64 0→s.tm 4 = .ptr 8 128 0→s.ob 4=some ⟨0,.cells (histC h)⟩→s.ob 6=some ⟨64,.cells [.int .i64 i,.int .i64 j]⟩→s.ob 8=some ⟨128,.cells [.bool false,.int .i64 0,.int .i64 0,.int .i64 0]⟩→s.df=[]→s.ro=0→s.fb=0→K .nrm s:=by
  intro s h2 h3 h4 o4 o6 o8 hd hr hf
  rw [← hK,kSeq_nrm]
  simp [h2,h3,o4,o6,objCells,histC,hi,idx_slOf txnC_len,hl3,hj,idx_slOf opC_len,load_slOf opC_len,ho,opC,splice,hf,hr]
  refine ⟨by simp [drawOk,indep,disj,fpOf,rdOb,rdTk,lOf,Delta.wo,Delta.wt];try decide,?_⟩
  simp [h4,o8,objCells,hr,splice]
  refine ⟨by simp [drawOk,indep,disj,fpOf,rdOb,rdTk,lOf,Delta.wo,Delta.wt,h4];try decide,?_⟩
  exact kEnd_of (by simp [hd]) (l:=[.agg (opC o),.bool !o.w]) (by simp [resOf,objCells,opC,h4]) rfl (by simp [tupOf,opC])
 clear hK
 simp [k1,k2,k3,k4,objCells,hi,idx_slOf txnC_len,hl3]
 exact rest _ (by simp) (by simp) (by simp) (by simp [histC]) (by simp) (by simp) (by simp) (by simp) (by simp)
end Go.Pv.T

/- What others leave of a key. -/
namespace Go.Pv.T
open Go Go.Pv
def valV (v:Val'):V:=.agg (valC v)
def leaveOf (g:Hist') (key i:Int):Val':=(lastW (opsAt g i).2 key).1
def othersOf (g:Hist') (a key:Int) (W:List Int):List (Int × Val'):=(W.filter fun i=>!(i == a)).map fun i=>(i,leaveOf g key i)
theorem numsTo_lt {p:Txn'→Bool} {ts:List Txn'}:∀ n,n≤ts.length→(∀ x∈numsTo p ts n,0≤x∧x<n)∧(numsTo p ts n).Pairwise (· < ·)
 | 0,_=>by simp [numsTo]
 | n+1,h=>by
  have ih:=numsTo_lt (p:=p) (ts:=ts) n (by omega)
  have e:=numsTo_succ (p:=p) (show n<ts.length by omega)
  rw [e]
  cases hp:p ts[n]
  ·simp only [Bool.false_eq_true,if_false,List.append_nil]
   exact ⟨fun x hx=>by have:=ih.1 x hx;omega,ih.2⟩
  ·simp only [if_true]
   refine ⟨fun x hx=>?_,?_⟩
   ·rcases List.mem_append.1 hx with h | h
    ·have:=ih.1 x h;omega
    ·rw [List.mem_singleton] at h;omega
   ·rw [List.pairwise_append]
    refine ⟨ih.2,List.pairwise_singleton _ _,fun x hx y hy=>?_⟩
    rw [List.mem_singleton] at hy
    have:=ih.1 x hx
    omega
theorem mset_new {α:Type} {m:List (Int × α)} {k:Int} {a:α} (h:k ∉ m.map (·.1)):mset m k a=m++[(k,a)]:=by
 unfold mset
 rw [mfind_none.2 h]
theorem othersOf_snoc {g:Hist'} {a key:Int} {W:List Int} {i:Nat} (hi:i<W.length):othersOf g a key (W.take (i+1))=othersOf g a key (W.take i)++(if W[i]=a then [] else [(W[i],leaveOf g key W[i])]):=by
 unfold othersOf
 rw [List.take_succ_eq_append_getElem hi,List.filter_append,List.map_append]
 by_cases h:W[i]=a <;> simp [h]
theorem othersOf_new {g:Hist'} {a key:Int} {W:List Int} (hW:W.Pairwise (· < ·)) {i:Nat} (hi:i<W.length):W[i] ∉ (othersOf g a key (W.take i)).map (·.1):=by
 intro h
 unfold othersOf at h
 rw [List.map_map] at h
 obtain ⟨x,hx,he⟩:=List.mem_map.1 h
 have hx':=(List.mem_filter.1 hx).1
 simp only [Function.comp] at he
 obtain ⟨j,hj,rfl⟩:=List.getElem_of_mem hx'
 rw [List.length_take] at hj
 rw [List.getElem_take] at he
 have:=List.pairwise_iff_getElem.1 hW j i (by omega) hi (by omega)
 omega
def OthR (g:Hist') (a key:Int) (W:List Int) (ob:Nat→Option Obj') (ub:Nat) (r:V × (Nat→Option Obj') × (Nat→Bool) × Nat):Prop :=
 ∃ M U ver:Nat,r.1 = .map (2 * M+1) U∧ub≤M∧M<r.2.2.2∧ub≤U∧r.2.1 (2 * M+1)=some ⟨U,.mp ver (MP valV (othersOf g a key W))⟩∧(∀ k,(∀ m,ub≤m→k≠2 * m+1)→r.2.1 k=ob k)∧ub≤r.2.2.2
theorem sv75 {Yf:YF} {g:Hist'} (hs:Small g) (hm:mayH g=true) (a key:Int) {ob:Nat→Option Obj'} {tk:Nat→Bool} {ro base ub:Nat} (hru:ro≤ub) :
 ∃ r,EvS E Yf.y 75 [.agg (histC g),.int .i64 a,.int .i64 key] ob tk ro base ub r∧OthR g a key (writersH g key) ob ub r:=by
 refine EvS_wp (af:=S75) rfl (by decide) ?_
 show wpC E Yf S75.body _ (kEndS S75.res _)
 obtain ⟨vw,e72,hv⟩:=ev72 hs hm key
 obtain ⟨W,hW⟩:∃ W,writersH g key=W:=⟨_,rfl⟩
 have hWl:W.length≤1000:=by have h1:=numsTo_len (wrB key) g.ts g.ts.length;have h2:=hs.ts;rw [← hW];unfold writersH;omega
 have hWp:W.Pairwise (· < ·):=by rw [← hW];exact (numsTo_lt _ (Nat.le_refl _)).2
 rw [hW] at hv ⊢
 have n1:¬ 2 * ub=2 * (ub+64+64):=by omega
 have n2:¬ 2 * (ub+64+64)=2 * ub:=by omega
 simp [S75,histC,objCells,n1]
 refine kS_ev e72 (by simp [histC]) rfl (by simp [histC]) ?_
 obtain ⟨nl,hv⟩:=hv
 obtain ⟨t,add,hret⟩:=retA_sl (ub:=ub+64+64+64+64+64+64) hv
 rw [hret]
 simp
 refine wpC_gen fun st hst=>?_
 obtain ⟨M,hM⟩:∃ M,M=ub+64+64:=⟨_,rfl⟩
 have g1:st.tm 1 = .int .i64 a:=by rw [hst];simp
 have g2:st.tm 2 = .int .i64 key:=by rw [hst];simp
 have g3:st.tm 3 = .ptr (2 * ub+1) ub 0:=by rw [hst];simp
 have g7:st.tm 7 = .map (2 * M+1) M:=by rw [hst,hM];simp
 have g13:st.tm 13 = .sl t nl W.length (W.flatMap intC):=by rw [hst];simp
 have g14:st.tm 14 = .int .i64 W.length:=by rw [hst];simp
 have g15:st.tm 15 = .int .i64 0:=by rw [hst];simp
 have gd:st.df=[]:=by rw [hst];simp
 have gr:st.ro=ro:=by rw [hst];simp
 have gn:M<st.nx:=by rw [hst,hM];simp
 have ph:st.ob (2 * ub+1)=some ⟨ub,.cells (histC g)⟩:=by rw [hst];simp [n1,histC]
 have pm:st.ob (2 * M+1)=some ⟨M,.mp 0 []⟩:=by rw [hst,hM];simp
 have pf:∀ k,(∀ m,ub≤m→k≠2 * m+1)→st.ob k=ob k:=by
  intro k hk
  have h1:=hk ub (by omega)
  have h2:=hk (ub+64+64) (by omega)
  rw [hst];simp [h1,h2]
 clear hst hret
 have hMu:ub<M:=by omega
 clear hM n1 n2
 refine wp_loopUp [(9,9),(15,31)] W.length (fun i s=>s.tm 15 = .int .i64 i∧M<s.nx∧s.ob (2 * ub+1)=some ⟨ub,.cells (histC g)⟩∧(∀ k,(∀ m,ub≤m→k≠2 * m+1)→s.ob k=ob k)∧∃ ver,s.ob (2 * M+1)=some ⟨M,.mp ver (MP valV (othersOf g a key (W.take i)))⟩) rfl rfl
  ⟨by simp [g15],gn,ph,pf,0,by simp [pm,othersOf,MP]⟩ ?_
 rintro i s hi ⟨h15,hn,oh,of,ver,om⟩ f
 have f1:s.tm 1 = .int .i64 a:=by rw [f.t 1 (by simp),g1]
 have f2:s.tm 2 = .int .i64 key:=by rw [f.t 2 (by simp),g2]
 have f3:s.tm 3 = .ptr (2 * ub+1) ub 0:=by rw [f.t 3 (by simp),g3]
 have f7:s.tm 7 = .map (2 * M+1) M:=by rw [f.t 7 (by simp),g7]
 have f13:s.tm 13 = .sl t nl W.length (W.flatMap intC):=by rw [f.t 13 (by simp),g13]
 have f14:s.tm 14 = .int .i64 W.length:=by rw [f.t 14 (by simp),g14]
 have fd:s.df=[]:=by rw [f.d,gd]
 have fr:s.ro=ro:=by rw [f.r,gr]
 clear f
 by_cases hlt:i<W.length
 ·have hw:=wrapU hlt (by omega)
  obtain ⟨x,hx⟩:∃ x,W[i]=x:=⟨_,rfl⟩
  have hI:idxSlV 1 (.sl t nl W.length (W.flatMap intC)) (.int .i64 (i:Int))=some (.eptr (W.flatMap intC) i):=by
   simp [idxSlV,hlt,flatMap_len intC_len]
  have hLd:∀ ob,loadV ob none (.eptr (W.flatMap intC) i)=some (.int .i64 x):=fun ob=>by
   have h:=fld_at intC_len W hlt (by decide:0<1)
   rw [hx,Nat.mul_one,Nat.add_zero] at h
   rw [loadV_e]
   simpa [pick1,intC] using h
  have hsn:=othersOf_snoc (g:=g) (a:=a) (key:=key) hlt
  have hnw:=othersOf_new (g:=g) (a:=a) (key:=key) hWp hlt
  rw [hx] at hsn hnw
  by_cases hxa:x=a
  ·rw [if_pos hxa,List.append_nil] at hsn
   subst hxa
   simp [h15,f13,f14,hlt,hI,hLd,f1,hw]
   exact ⟨by omega,oh,of,ver,by rw [hsn];exact om⟩
  ·rw [if_neg hxa] at hsn
   have hxa':(x != a)=true:=by simpa using hxa
   have e116:=ev116 hs x key
   simp [h15,f13,f14,hlt,hI,hLd,f1,hxa',f2,f3,oh,objCells,f7,histC]
   refine kS_ev e116 (by simp [histC]) rfl (by simp [histC]) ?_
   rw [retA_tupl (by simp [V.plain,valC])]
   have hlv:valV (lastW (opsAt g x).2 key).1=valV (leaveOf g key x):=rfl
   simp
   refine kS_mapSet (f:=valV) (a:=leaveOf g key x) (ver:=ver) (l:=2 * M+1) (u:=M) (k:=x) (othersOf g a key (W.take i)) (by simp) (by simp) (by simp [valV,leaveOf,valC]) (by simpa using om) (by simp [fr];omega) ?_
   rw [mset_new hnw,← hsn]
   have nM:¬ 2 * ub+1=2 * M+1:=by omega
   have nM':¬ 2 * ub=2 * M:=by omega
   simp [h15,hw,nM',oh,histC]
   refine ⟨hlt,by omega,fun k hk=>?_⟩
   have:=hk M (by omega)
   rw [if_neg this]
   exact of k hk
 ·have:i=W.length:=by omega
  subst this
  rw [List.take_length] at om
  simp [h15,f14,f7]
  exact endS_1 (by simp [fd]) ⟨M,M,ver,by simp,by omega,by simp;omega,by omega,by simpa using om,by simpa using of,by simp;omega⟩
end Go.Pv.T

/- Ranges over maps; slices of ints that grow. -/
namespace Go.Pv.T
open Go Go.Pv
section
variable {E:Env} {Yf:YF} {st:St} {ub:Nat} {K:St→Nat→Prop} {d:Option Nat} {nm:Bool}
theorem kS_rangeMap {x:A} {l u ver:Nat} {es:List (V × V)} (hx:eval E st.tm x = .map l u) (ho:st.ob l=some ⟨u,.mp ver es⟩)
 (h:kApp K st d ub { v:=.iter (objName d nm st.fb ub) ub,obs:=[(objName d nm st.fb ub,⟨ub,.miter l u ver es none⟩)] }):wpStep E Yf ⟨d,.range false x,none,nm⟩ st ub K:=by
 rw [wpStep_of _ rfl rfl]
 have h1:objMap st.ob l u=some es:=by simp [objMap,ho]
 have h2:objVer st.ob l=ver:=by simp [objVer,ho]
 simp only [aop,hx,h1,h2,Option.bind_some,mkObj,wpD_some,name_eq]
 exact h
theorem picks_mem {l u l' u' ver:Nat} {δ:Delta}:∀ {es pre:List (V × V)},δ∈picks l u l' u' ver pre es→∃ a k v b,es=a++(k,v)::b∧δ = { v:=.tup [.bool true,k,v],obs:=[(l,⟨u,.miter l' u' ver (pre++a++b) (some (k,v))⟩)] }
 | [],_,h=>by simp [picks] at h
 | (k,v)::r,pre,h=>by
  rw [picks,List.mem_cons] at h
  rcases h with h | h
  ·exact ⟨[],k,v,r,rfl,by rw [h];simp⟩
  ·obtain ⟨a,k',v',b,e,hd⟩:=picks_mem h
   exact ⟨(k,v)::a,k',v',b,by rw [e];rfl,by rw [hd];simp⟩
theorem kS_nextMap {x:A} {l u l' u' ver:Nat} {left es:List (V × V)} {last:Option (V × V)} (hx:eval E st.tm x = .iter l u) (ho:st.ob l=some ⟨u,.miter l' u' ver left last⟩) (hm:st.ob l'=some ⟨u',.mp ver es⟩) (hro:st.ro≤u)
 (h0:left=[]→kSet K st d ub (.tup [.bool false]))
 (h1:∀ a k v b,left=a++(k,v)::b→kApp K st d ub { v:=.tup [.bool true,k,v],obs:=[(l,⟨u,.miter l' u' ver (a++b) (some (k,v))⟩)] }):wpStep E Yf ⟨d,.nextMap x,none,nm⟩ st ub K:=by
 have e1:(objMap st.ob l' u').isSome=true:=by simp [objMap,hm]
 have e2:objVer st.ob l'=ver:=by simp [objVer,hm]
 simp only [wpStep,wanted,yieldCall,sharedCall]
 cases left with
 | nil =>
  refine ⟨[{ v:=.tup [.bool false] }],?_,?_⟩
  ·simp only [nextL,hx,ho]
   rw [if_pos ⟨Nat.ble_eq ▸ hro,trivial,e1,e2⟩]
  ·intro δ hδ
   rw [List.mem_singleton] at hδ
   subst hδ
   have:=h0 rfl
   rw [app_v]
   exact this
 | cons p r =>
  refine ⟨picks l u l' u' ver [] (p::r),?_,?_⟩
  ·simp only [nextL,hx,ho]
   rw [if_pos ⟨Nat.ble_eq ▸ hro,trivial,e1,e2⟩]
  ·intro δ hδ
   obtain ⟨a,k,v,b,e,hd⟩:=picks_mem hδ
   subst hd
   exact h1 a k v b e
theorem kS_entry {x:A} {l u l' u' ver:Nat} {left es:List (V × V)} {k v:V} (hx:eval E st.tm x = .iter l u) (ho:st.ob l=some ⟨u,.miter l' u' ver left (some (k,v))⟩) (hm:st.ob l'=some ⟨u',.mp ver es⟩)
 (h:kSet K st d ub (.tup [k,v])):wpStep E Yf ⟨d,.entry x,none,nm⟩ st ub K:=by
 have e1:(objMap st.ob l' u').isSome=true:=by simp [objMap,hm]
 have e2:objVer st.ob l'=ver:=by simp [objVer,hm]
 rw [wpStep_of _ rfl rfl]
 simp only [aop,hx,ho]
 rw [if_pos ⟨trivial,e1,e2⟩,wpD_one,app_v]
 exact h
end
def IntsO (ob:Nat→Option Obj') (p:Nat→Prop) (l:List Int) (v:V):Prop :=
 (l=[]∧v = .sl none true 0 [])∨(l≠[]∧∃ u,v = .osl (2 * u+1) u 0 l.length 1∧ob (2 * u+1)=some ⟨u,.cells (l.flatMap intC)⟩∧p u)
theorem IntsO.frame {ob ob':Nat→Option Obj'} {p p':Nat→Prop} {l:List Int} {v:V} (h:IntsO ob p l v) (hf:∀ u,p u→ob' (2 * u+1)=ob (2 * u+1)) (hh:∀ u,p u→p' u):IntsO ob' p' l v:=by
 rcases h with h | ⟨h1,u,h2,h3,h4⟩
 ·exact Or.inl h
 ·exact Or.inr ⟨h1,u,h2,(hf u h4).trans h3,hh u h4⟩
theorem app_obl (st:St) (d:Option Nat) (v:V) (l:Nat) (o:Obj') (kl:List Nat) (k:Nat):(st.app d { v:=v,obs:=[(l,o)],kill:=kl }).ob k=if k=l then some o else if kl.any (Nat.beq k) then none else st.ob k:=by
 simp [St.app,setObs,upd_apply]
theorem app_obl' (st:St) (d:Option Nat) (v:V) (l:Nat) (o:Obj') (kl:List Nat) (k:Nat) (h:k ∉ kl):(st.app d { v:=v,obs:=[(l,o)],kill:=kl }).ob k=if k=l then some o else st.ob k:=by
 rw [app_obl]
 have:(kl.any (Nat.beq k))=false:=by
  rw [List.any_eq_false]
  intro x hx hb
  exact h (Nat.eq_of_beq_eq_true hb ▸ hx)
 rw [this]
 rfl
theorem solid_ints (st:St) (k:Nat):∀ l:List Int,(l.flatMap intC).mapM (solid st (k+1))=some (l.flatMap intC)
 | []=>rfl
 | a::l=>by
  show ((V.int .i64 a)::l.flatMap intC).mapM _=_
  rw [List.mapM_cons,solid_ints st k l]
  rfl
def intsV (T:List Int):V:=if T.isEmpty then .sl none true 0 [] else .sl (some (0,1)) false T.length (T.flatMap intC)
theorem kEnd_ints {st:St} {p:Nat→Prop} {n:Nat} {T:List Int} {v:V} (hd:st.df=[]) (hv:st.tm n=v) (h:IntsO st.ob p T v) (hro:∀ u,p u→st.ro≤u):kEnd [.t n] (intsV T) .ret st:=by
 show endV [.t n] (.ret,st)=some (intsV T)
 rcases h with ⟨rfl,rfl⟩ | ⟨hne,u,rfl,hob,hp⟩
 ·exact endV_1 hd (by rw [hv];rfl) rfl
 ·have hoc:objCells st.ob (2 * u+1) u=some (T.flatMap intC):=by simp [objCells,hob]
  have hlen:(T.flatMap intC).length=T.length:=by rw [flatMap_len intC_len];omega
  have hemp:T.isEmpty=false:=by cases T with | nil=>exact absurd rfl hne | cons=>rfl
  have hpos:0<T.length:=List.length_pos_iff.2 hne
  have hs:solid st 6 (.osl (2 * u+1) u 0 T.length 1)=some (.sl none false T.length (T.flatMap intC)):=by
   show ((objCells st.ob (2 * u+1) u).bind fun cs=>if Nat.ble st.ro u=true∧0+T.length * 1≤cs.length then (((cs.drop 0).take (T.length * 1)).mapM (solid st 5)).map fun cs'=>V.sl none false T.length cs' else none)=_
   rw [hoc,Option.bind_some]
   rw [if_pos ⟨Nat.ble_eq ▸ hro u hp,by omega⟩]
   rw [List.drop_zero,Nat.mul_one,List.take_of_length_le (by omega),solid_ints]
   rfl
  have ho:outLeaf st true 0 (.osl (2 * u+1) u 0 T.length 1)=some (.sl (some (0,1)) false T.length (T.flatMap intC)):=by
   simp only [outLeaf,hs,Option.bind_some,hoc,Option.map_some]
   have hb:(true && Nat.beq 0 0 && Nat.blt 0 T.length && Nat.beq (T.length * 1) (T.flatMap intC).length)=true:=by
    rw [hlen,Nat.mul_one,Nat.beq_refl,Nat.beq_refl]
    simp
    exact hpos
   rw [hb]
   rfl
  have hto:outTop st true 0 (.osl (2 * u+1) u 0 T.length 1)=some (.sl (some (0,1)) false T.length (T.flatMap intC)):=ho
  have hr:[ARes.t n].mapM (resOf st)=some [.osl (2 * u+1) u 0 T.length 1]:=by simp [resOf,hv]
  simp only [endV,dfOk_of hd,noDf_of hd,if_true,hr,Option.bind_some,outRes]
  have hn:nodup ([V.osl (2 * u+1) u 0 T.length 1].flatMap V.toks)=true:=rfl
  rw [hn]
  simp only [outTops,hto,Option.bind_some,Option.map_some]
  rw [intsV,hemp]
  rfl
theorem kS_appendM {E:Env} {Yf:YF} {st:St} {ub:Nat} {K:St→Nat→Prop} {d:Option Nat} {p:Nat→Prop} {l:List Int} {z:Int} {v:V} {s x:A} {X uX:Nat} (hs:eval E st.tm s=v) (hv:IntsO st.ob p l v) (hx:eval E st.tm x = .osl X uX 0 1 1) (hX:st.ob X=some ⟨uX,.cells [.int .i64 z]⟩) (hro:∀ u,p u→st.ro≤u) (hl:l.length≤1000)
 (h:∀ kl:List Nat,(∀ k∈kl,∃ u,p u∧k=2 * u+1)→kApp K st d ub { v:=.osl (2 * ub+1) ub 0 (l++[z]).length 1,obs:=[(2 * ub+1,⟨ub,.cells ((l++[z]).flatMap intC)⟩)],kill:=kl }) :
 wpStep E Yf ⟨d,.append true 1 8 s x,none,true⟩ st ub K:=by
 have hsc:slCells st.ob 1 (eval E st.tm x)=some [.int .i64 z]:=by
  rw [hx]
  simp [slCells,objCells,hX]
 rcases hv with ⟨rfl,rfl⟩ | ⟨hne,u,rfl,hob,hp⟩
 ·refine kS_appendO_nil hs hsc (by simp) (by decide) rfl (by simp) (by simp) ?_
  simpa [intC,objName] using h [] (by simp)
 ·have hlen:(l.flatMap intC).length=l.length:=by rw [flatMap_len intC_len];omega
  refine kS_appendO (cs:=l.flatMap intC) hs hsc hob (by simp) (hro u hp) (by omega) (by decide) rfl (by simp;omega) (by simp;omega) ?_
  have:=h [2 * u+1] (by simp;exact ⟨u,hp,rfl⟩)
  rw [Nat.mul_one,List.take_of_length_le (by omega)]
  simpa [intC,objName] using this
end Go.Pv.T

/- Who may have written what is read: the program's walk. -/
namespace Go.Pv.T
open Go Go.Pv
def fitsR (o:Op') (v:Val'):Bool:=o.v.kind == 2 || (v.kind == o.v.kind && v.n == o.v.n)
def ofStart (o:Op'):List Int:=if o.v.kind=1 then [] else [-1]
def ofL (g:Hist') (a:Int) (o:Op'):List Int:=ofStart o++(writersH g o.key).filter fun i=>!(i == a) && fitsR o (leaveOf g o.key i)
def ofH (g:Hist') (a b:Int):List Int:=match opAt g a b with
 | some o=>if o.w then [] else ofL g a o
 | none=>[]
theorem writers_pw (g:Hist') (k:Int):(writersH g k).Pairwise (· < ·)∧∀ x∈writersH g k,0≤x:=by
 have:=numsTo_lt (p:=wrB k) (ts:=g.ts) g.ts.length (Nat.le_refl _)
 exact ⟨this.2,fun x hx=>(this.1 x hx).1⟩
theorem ofL_sorted (g:Hist') (a:Int) (o:Op'):(ofL g a o).Pairwise (·≤·):=by
 have h:=writers_pw g o.key
 unfold ofL ofStart
 rw [List.pairwise_append]
 refine ⟨?_,?_,?_⟩
 ·split <;> simp
 ·exact ((h.1.imp (fun h=>Int.le_of_lt h)).filter _)
 ·intro x hx y hy
  have hy':=h.2 y (List.mem_filter.1 hy).1
  split at hx
  ·cases hx
  ·rw [List.mem_singleton] at hx;omega
theorem writers_len (g:Hist') (k:Int):(writersH g k).length≤g.ts.length:=by
 unfold writersH
 exact numsTo_len (wrB k) g.ts g.ts.length
theorem ofL_len {g:Hist'} (hm:g.ts.length≤40) (a:Int) (o:Op'):(ofL g a o).length≤41:=by
 unfold ofL ofStart
 rw [List.length_append]
 have h1:=List.length_filter_le (fun i=>!(i == a) && fitsR o (leaveOf g o.key i)) (writersH g o.key)
 have h2:=writers_len g o.key
 split <;> simp <;> omega
theorem may_ts {g:Hist'} (hm:mayH g=true):g.ts.length≤40:=by
 unfold mayH headsB at hm
 simp only [Bool.and_eq_true,decide_eq_true_eq] at hm
 exact hm.1.2.2.2.2
def picked (o:Op') (P:List (Int × Val')):List Int:=(P.filter fun p=>fitsR o p.2).map (·.1)
theorem picked_perm {g:Hist'} {a:Int} {o:Op'} {P:List (Int × Val')} (h:P.Perm (othersOf g a o.key (writersH g o.key))):(ofStart o++picked o P).Perm (ofL g a o):=by
 unfold ofL
 refine List.Perm.append_left _ ?_
 have h2:(picked o P).Perm (picked o (othersOf g a o.key (writersH g o.key))):=(h.filter _).map _
 refine h2.trans ?_
 have e:picked o (othersOf g a o.key (writersH g o.key))=(writersH g o.key).filter fun i=>!(i == a) && fitsR o (leaveOf g o.key i):=by
  unfold picked othersOf
  rw [List.filter_map,List.map_map,List.filter_filter]
  have:((fun x:Int × Val'=>x.1) ∘ fun i=>(i,leaveOf g o.key i))=id:=rfl
  rw [this,List.map_id]
  congr 1
  funext i
  simp only [Function.comp,Bool.and_comm]
 rw [e]
theorem MP_split {m:List (Int × Val')} {A B:List (V × V)} {k v:V} (h:MP valV m=A++(k,v)::B):∃ A' p B',m=A'++p::B'∧A=MP valV A'∧B=MP valV B'∧k = .int .i64 p.1∧v=valV p.2:=by
 unfold MP at h
 obtain ⟨A',C,e1,e2,e3⟩:=List.map_eq_append_iff.1 h
 obtain ⟨p,B',e4,e5,e6⟩:=List.map_eq_cons_iff.1 e3
 subst e4
 have:=Prod.mk.inj e5
 exact ⟨A',p,B',e1,e2.symm,e6.symm,this.1.symm,this.2.symm⟩
theorem MP_app (a b:List (Int × Val')):MP valV a++MP valV b=MP valV (a++b):=by simp [MP]
theorem ne1152 {x:Nat} (h:640≤x):¬ 2 * x=1152:=by omega
theorem ev27 {g:Hist'} (hs:Small g) (a b:Int):Ev E 27 [.agg (histC g),.agg (placeC (a,b))] (intsV (ofH g a b)):=by
 have e74:=ev74 hs a b
 refine Ev_wpK (af:=F27) rfl ?_
 unfold ofH
 cases hop:opAt g a b with
 | none =>
  rw [hop] at e74
  simp [F27,histC,objCells,placeC]
  refine kS_ev e74 (by simp [histC,placeC]) rfl (by simp [histC,placeC]) ?_
  rw [retA_tupl (by simp [V.plain,opC])]
  simp [splice,opC,op0,objCells]
  exact kEnd_ints (p:=fun _=>True) (by simp) rfl (Or.inl ⟨rfl,by simp⟩) (by simp)
 | some o =>
  rw [hop] at e74
  simp only [Option.getD_some,Option.any_some] at e74
  have hmay:mayH g=true:=by
   unfold opAt at hop
   cases hm:mayH g
   ·rw [hm] at hop;cases hop
   ·rfl
  have hts:=may_ts hmay
  simp [F27,histC,objCells,placeC]
  refine kS_ev e74 (by simp [histC,placeC]) rfl (by simp [histC,placeC]) ?_
  rw [retA_tupl (by simp [V.plain,opC])]
  cases hw:o.w
  ·simp [splice,opC,objCells]
   generalize hK:kSeq E noYF _ (kEnd _ _)=K
   have rest:∀ (s:St) (v:V),s.tm 2 = .ptr 1 0 0→s.tm 3 = .ptr 129 64 0→s.tm 5 = .ptr 1153 576 0→s.ob 1=some ⟨0,.cells (histC g)⟩→s.ob 129=some ⟨64,.cells [.int .i64 a,.int .i64 b]⟩→s.ob 1153=some ⟨576,.cells (opC o)⟩ →
    s.tm 7=v→IntsO s.ob (fun u=>640≤u∧u<s.nx) (ofStart o) v→s.df=[]→s.ro=0→640≤s.nx→K .nrm s:=by
    intro s v h2 h3 h5 o1 o3 o5 h7 hv hd hr hn
    rw [← hK]
    clear hK
    simp [h2,h3,h5,o1,o3,o5,objCells,opC,histC]
    refine kS_callP (vs:=[.agg (histC g),.int .i64 a,.int .i64 o.key]) (by simp [histC]) rfl (sv75 hs hmay a o.key (by simp [hr])) ?_
    rintro w ob1 tk1 ub1 ⟨M,U,ver,e1,e2,e3,e4,e5,e6,e7⟩
    simp only at e1 e3 e5 e6 e7
    subst e1
    simp
    refine kS_rangeMap (l:=2 * M+1) (u:=U) (ver:=ver) (by simp) (by simpa using e5) ?_
    simp
    refine wpC_gen fun st hst=>?_
    have hub0:640≤ub1:=by first | omega | (simp at e7;omega)
    have hM0:640≤M:=by first | omega | (simp at e2;omega)
    obtain ⟨OTH,hOTH⟩:∃ l,othersOf g a o.key (writersH g o.key)=l:=⟨_,rfl⟩
    rw [hOTH] at e5 hst
    have hfr:∀ k,(∀ m,s.nx≤m→k≠2 * m+1)→ob1 k=s.ob k:=fun k hk=>(e6 k (fun m hm=>hk m (by first | omega | (simp at hm;omega)))).trans (by simp)
    have hMs:s.nx≤M:=by first | omega | (simp at e2;omega)
    have g5:st.tm 5 = .ptr 1153 576 0:=by rw [hst];simp [h5]
    have g7:st.tm 7=v:=by rw [hst];simp [h7]
    have g31:st.tm 31 = .iter (2 * ub1+1) ub1:=by rw [hst];simp
    have gd:st.df=[]:=by rw [hst];simp [hd]
    have gr:st.ro=0:=by rw [hst];simp [hr]
    have gn:ub1<st.nx:=by rw [hst];simp
    have gf:∀ k,k≠2 * ub1+1→st.ob k=ob1 k:=by
     intro k hk
     rw [hst];simp [hk]
    have pi:st.ob (2 * ub1+1)=some ⟨ub1,.miter (2 * M+1) U ver (MP valV OTH) none⟩:=by rw [hst];simp
    have pm:st.ob (2 * M+1)=some ⟨U,.mp ver (MP valV OTH)⟩:=(gf _ (by omega)).trans e5
    have p5:st.ob 1153=some ⟨576,.cells (opC o)⟩:=(gf _ (by omega)).trans ((hfr _ (fun m hm=>by omega)).trans o5)
    have pv:IntsO st.ob (fun u=>640≤u∧u≠M∧u≠ub1∧u<st.nx) (ofStart o++picked o []) v:=by
     rw [show picked o []=[] from rfl,List.append_nil]
     refine hv.frame (fun u hu=>?_) (fun u hu=>⟨hu.1,by omega,by first | omega | (simp at e7;omega),by first | omega | (simp at e7;omega)⟩)
     exact (gf _ (by first | omega | (simp at e7;omega))).trans (hfr _ (fun m hm=>by omega))
    clear hst e6 e5 hfr
    obtain ⟨J,hJ⟩:∃ J:Nat→St→Prop,J=fun n s=>∃ (P m':List (Int × Val')) (v:V) (last:Option (V × V)),n=m'.length∧(P++m').Perm OTH∧s.tm 7=v∧IntsO s.ob (fun u=>640≤u∧u≠M∧u≠ub1∧u<s.nx) (ofStart o++picked o P) v ∧
     s.ob (2 * ub1+1)=some ⟨ub1,.miter (2 * M+1) U ver (MP valV m') last⟩∧s.ob (2 * M+1)=some ⟨U,.mp ver (MP valV OTH)⟩∧s.ob 1153=some ⟨576,.cells (opC o)⟩∧ub1<s.nx:=⟨_,rfl⟩
    refine wp_loopF (n:=OTH.length) [(7,9),(32,50)] J rfl rfl (by rw [hJ];exact ⟨[],OTH,v,none,rfl,by simp,g7,pv,pi,pm,p5,gn⟩) ?_
    clear h7 hv g7 pv pi pm p5 gn v
    intro n s hJs f
    rw [hJ] at hJs
    obtain ⟨P,m',v,last,rfl,hperm,h7,hv,oi,om,o5',hn1⟩:=hJs
    have f5:s.tm 5 = .ptr 1153 576 0:=by rw [f.t 5 (by simp)];exact g5
    have f31:s.tm 31 = .iter (2 * ub1+1) ub1:=by rw [f.t 31 (by simp)];exact g31
    have fd:s.df=[]:=by rw [f.d];exact gd
    have fr:s.ro=0:=by rw [f.r];exact gr
    clear f
    have hPl:(P++m').length≤40:=by
     rw [hperm.length_eq,← hOTH]
     unfold othersOf
     rw [List.length_map]
     have:=List.length_filter_le (fun i=>!(i == a)) (writersH g o.key)
     have:=writers_len g o.key
     omega
    rw [List.length_append] at hPl
    have hpl:(picked o P).length≤P.length:=by
     unfold picked
     rw [List.length_map]
     exact List.length_filter_le _ _
    have hsl:(ofStart o).length≤1:=by unfold ofStart;split <;> simp
    simp
    refine kS_nextMap (l:=2 * ub1+1) (u:=ub1) (l':=2 * M+1) (u':=U) (ver:=ver) (es:=MP valV OTH) (left:=MP valV m') (by simp [f31]) oi om (by simp [fr]) ?_ ?_
    ·intro hemp
     have hm0:m'=[]:=by
      unfold MP at hemp
      exact List.map_eq_nil_iff.1 hemp
     subst hm0
     rw [List.append_nil] at hperm
     have hpp:=picked_perm (g:=g) (a:=a) (o:=o) (P:=P) (by rw [hOTH];exact hperm)
     have hlen:=hpp.length_eq
     simp [h7]
     rcases hv with ⟨hnil,rfl⟩ | ⟨hne,u,rfl,hob,hu⟩
     ·rw [hnil] at hpp
      have hT:ofL g a o=[]:=List.perm_nil.1 hpp.symm
      refine kS_callP (vs:=[.sl none true 0 []]) (by simp) rfl sv76n ?_
      rintro w ob2 tk2 ub2 ⟨q1,q2,q3⟩
      simp [h7]
      exact kEnd_ints (p:=fun _=>True) (by simp [fd]) rfl (Or.inl ⟨hT,by simp⟩) (by simp [fr])
     ·refine kS_callP (vs:=[.osl (2 * u+1) u 0 (ofStart o++picked o P).length 1]) (by simp) rfl (sv76 hpp (ofL_sorted g a o) (by rw [List.length_append];omega) (by simpa using hob) (by simp [fr]) (fun m hm=>by have:=hu.2.2.2;first | omega | (simp at hm;omega)) (by simp [fr])) ?_
      rintro w ob2 tk2 ub2 hat
      simp only at hat
      simp [h7]
      refine kEnd_ints (p:=fun _=>True) (by simp [fd]) rfl (Or.inr ⟨?_,u,?_,by simpa using hat.1,trivial⟩) (by simp [fr])
      ·intro hT
       rw [hT] at hpp
       exact hne (List.perm_nil.1 hpp)
      ·rw [← hlen];simp
    ·intro A k w B hsp
     obtain ⟨A',q,B',rfl,rfl,rfl,rfl,rfl⟩:=MP_split hsp
     have hperm':((P++[q])++(A'++B')).Perm OTH:=by
      refine List.Perm.trans ?_ hperm
      rw [List.append_assoc]
      exact List.Perm.append_left _ (by simpa using List.perm_middle.symm)
     have nM:¬ 2 * M+1=2 * ub1+1:=by omega
     simp
     refine kS_entry (l:=2 * ub1+1) (u:=ub1) (l':=2 * M+1) (u':=U) (ver:=ver) (es:=MP valV OTH) (left:=MP valV A'++MP valV B') (k:=.int .i64 q.1) (v:=valV q.2) (by simp [f31]) (by simp) (by simp [show ¬ 2 * M=2 * ub1 by omega,om]) ?_
     have n5:¬ 1153=2 * ub1+1:=by omega
     simp [valV,valC,splice,fr,objCells]
     generalize hK2:kSeq E noYF (C.cond _ _ _) _=K2
     have restF:∀ (s1:St) (fit:Bool),fit=fitsR o q.2→s1.tm 46 = .bool fit→s1.tm 7=v→s1.tm 8 = .int .i64 q.1→IntsO s1.ob (fun u=>640≤u∧u≠M∧u≠ub1∧u<s1.nx) (ofStart o++picked o P) v →
      s1.ob (2 * ub1+1)=some ⟨ub1,.miter (2 * M+1) U ver (MP valV (A'++B')) (some (.int .i64 q.1,valV q.2))⟩→s1.ob (2 * M+1)=some ⟨U,.mp ver (MP valV OTH)⟩→s1.ob 1153=some ⟨576,.cells (opC o)⟩→ub1<s1.nx→s1.df=[]→s1.ro=0→K2 .nrm s1:=by
      intro s1 fit hfit h46 h7 h8 hv oi om o5 hn hd hr
      rw [← hK2]
      have hpk:picked o (P++[q])=picked o P++(if fit then [q.1] else []):=by
       unfold picked
       rw [List.filter_append,List.map_append,hfit]
       cases hf:fitsR o q.2 <;> simp [hf]
      have hml:(A'++B').length<(A'++q::B').length:=by simp
      cases fit
      ·simp only [Bool.false_eq_true,if_false,List.append_nil] at hpk
       simp [h46]
       exact ⟨(A'++B').length,by first | omega | (simp;done) | (simp;omega),by rw [hJ];exact ⟨P++[q],A'++B',v,some (.int .i64 q.1,valV q.2),rfl,hperm',by simp [h7],by rw [hpk];exact hv.frame (fun u _=>by simp) (fun u hu=>⟨hu.1,hu.2.1,hu.2.2.1,by have:=hu.2.2.2;first | omega | (simp;omega)⟩),by simp [oi],by simp [om],by simp [o5],by first | omega | (simp;omega)⟩⟩
      ·simp only [if_true] at hpk
       simp [h46,h7,h8]
       refine kS_buildSlO (cs:=[.int .i64 q.1]) (by simp [splice]) rfl rfl ?_
       simp
       refine kS_appendM (p:=fun u=>640≤u∧u≠M∧u≠ub1∧u<s1.nx) (l:=ofStart o++picked o P) (z:=q.1) (v:=v) (X:=2 * (s1.nx+64+64)+1) (uX:=s1.nx+64+64) (by simp) (hv.frame (fun u hu=>?_) (fun _ h=>h)) (by simp) (by simp) (by simp [hr]) (by rw [List.length_append];simp at hPl;omega) (fun kl hkl=>?_)
       ·have:¬ 2 * u=2 * (s1.nx+64+64):=by have:=hu.2.2.2;omega
        simp [this]
       have nk:∀ z:Nat,(∀ u,640≤u→u≠M→u≠ub1→z≠2 * u+1)→z ∉ kl:=fun z hz hm=>by
        obtain ⟨u,hu,e⟩:=hkl z hm
        exact hz u hu.1 hu.2.1 hu.2.2.1 e
       have k1:=nk (2 * ub1+1) (fun u _ _ h e=>h (by omega))
       have k2:=nk (2 * M+1) (fun u _ h _ e=>h (by omega))
       have k3:=nk 1153 (fun u h _ _ e=>by omega)
       obtain ⟨Z,hZ⟩:∃ Z,s1.nx+64+64+64=Z:=⟨_,rfl⟩
       have d1:¬ 2 * ub1+1=2 * Z+1:=by omega
       have d2:¬ 2 * M+1=2 * Z+1:=by omega
       have d3:¬ 1153=2 * Z+1:=by omega
       have b1:¬ 2 * ub1+1=2 * (s1.nx+64+64)+1:=by omega
       have b2:¬ 2 * M+1=2 * (s1.nx+64+64)+1:=by omega
       have b3:¬ 1153=2 * (s1.nx+64+64)+1:=by omega
       have hnx:∀ X:Prop,X→X:=fun _ h=>h
       simp only [hZ]
       simp
       refine ⟨(A'++B').length,by first | omega | (simp;done) | (simp;omega),?_⟩
       rw [hJ]
       refine ⟨P++[q],A'++B',.osl (2 * Z+1) Z 0 (ofStart o++picked o (P++[q])).length 1,some (.int .i64 q.1,valV q.2),rfl,hperm',by simp [hpk],Or.inr ⟨by rw [hpk];simp,Z,rfl,?_,by omega,by omega,by omega,?_⟩,?_,?_,?_,?_⟩
       ·simp only [setN_ob,setT_ob]
        rw [app_obl,if_pos rfl,hpk]
        simp
       ·first | omega | (simp;done) | (simp;omega)
       ·simp only [setN_ob,setT_ob]
        rw [app_obl' _ _ _ _ _ _ _ k1,if_neg d1]
        simp only [app_ob1,setT_ob,if_neg b1]
        exact oi
       ·simp only [setN_ob,setT_ob]
        rw [app_obl' _ _ _ _ _ _ _ k2,if_neg d2]
        simp only [app_ob1,setT_ob,if_neg b2]
        exact om
       ·simp only [setN_ob,setT_ob]
        rw [app_obl' _ _ _ _ _ _ _ k3,if_neg d3]
        simp only [app_ob1,setT_ob,if_neg b3]
        exact o5
       ·first | omega | (simp;done) | (simp;omega)
     clear hK2
     have c1:¬ 2 * ub1=2 * (s.nx+64+64+64+64+64):=by omega
     have c2:¬ 2 * M=2 * (s.nx+64+64+64+64+64):=by omega
     have c3:¬ 2 * M=2 * ub1:=by omega
     have hsn:640≤s.nx+64+64+64+64+64:=Nat.le_trans (Nat.le_trans hub0 (Nat.le_of_lt hn1)) (by simp [Nat.add_assoc])
     have nq:=ne1152 hsn
     have n5':=ne1152 hub0
     cases hk2:(o.v.kind == 2)
     ·simp [f5,o5',objCells,opC,n5,nq,hk2]
      refine restF _ (q.2.kind == o.v.kind && q.2.n == o.v.n) (by unfold fitsR;rw [hk2];rfl) (by simp) (by simp [h7]) (by simp) (hv.frame (fun u hu=>?_) (fun u hu=>⟨hu.1,hu.2.1,hu.2.2.1,by have:=hu.2.2.2;first | omega | (simp;omega)⟩)) (by simp [c1,MP_app,valV,valC]) (by simp [c2,c3,om]) (by simp [nq,n5',o5',opC]) (by first | omega | (simp;omega)) (by simp [fd]) (by simp [fr])
      have a1:¬ 2 * u=2 * (s.nx+64+64+64+64+64):=by have:=hu.2.2.2;omega
      have a2:¬ 2 * u=2 * ub1:=by have:=hu.2.2.1;omega
      simp [a1,a2]
     ·simp [f5,o5',objCells,opC,n5,nq,hk2]
      refine restF _ true (by unfold fitsR;rw [hk2];rfl) (by simp) (by simp [h7]) (by simp) (hv.frame (fun u hu=>?_) (fun u hu=>⟨hu.1,hu.2.1,hu.2.2.1,by have:=hu.2.2.2;first | omega | (simp;omega)⟩)) (by simp [c1,MP_app,valV,valC]) (by simp [c2,c3,om]) (by simp [nq,n5',o5',opC]) (by first | omega | (simp;omega)) (by simp [fd]) (by simp [fr])
      have a1:¬ 2 * u=2 * (s.nx+64+64+64+64+64):=by have:=hu.2.2.2;omega
      have a2:¬ 2 * u=2 * ub1:=by have:=hu.2.2.1;omega
      simp [a1,a2]
   clear hK
   refine kIf_gen fun st hst=>?_
   have g2:st.tm 2 = .ptr 1 0 0:=by rw [hst];simp
   have g3:st.tm 3 = .ptr 129 64 0:=by rw [hst];simp
   have g5:st.tm 5 = .ptr 1153 576 0:=by rw [hst];simp
   have g7:st.tm 7 = .sl none true 0 []:=by rw [hst];simp
   have p1:st.ob 1=some ⟨0,.cells (histC g)⟩:=by rw [hst];simp [histC]
   have p3:st.ob 129=some ⟨64,.cells [.int .i64 a,.int .i64 b]⟩:=by rw [hst];simp
   have p5:st.ob 1153=some ⟨576,.cells (opC o)⟩:=by rw [hst];simp [opC,hw]
   have gd:st.df=[]:=by rw [hst];simp
   have gr:st.ro=0:=by rw [hst];simp
   have gn:640≤st.nx:=by rw [hst];simp
   clear hst
   cases hk1:(o.v.kind != 1)
   ·have hk:o.v.kind=1:=by simpa using hk1
    simp
    exact rest _ _ g2 g3 g5 p1 p3 p5 g7 (Or.inl ⟨by simp [ofStart,hk],rfl⟩) gd gr gn
   ·have hk:¬ o.v.kind=1:=by simpa using hk1
    simp [g7]
    refine kS_buildSlO (cs:=[.int .i64 (-1)]) (by simp [splice]) rfl rfl ?_
    simp
    refine kS_appendM (p:=fun _=>False) (l:=[]) (z:=-1) (v:=.sl none true 0 []) (X:=2 * (st.nx+64)+1) (uX:=st.nx+64) (by simp) (Or.inl ⟨rfl,rfl⟩) (by simp) (by simp) (fun _ h=>h.elim) (by simp) (fun kl hkl=>?_)
    have hkl0:kl=[]:=by
     cases kl with
     | nil=>rfl
     | cons k _=>obtain ⟨_,h,_⟩:=hkl k (by simp);exact h.elim
    subst hkl0
    have n1:¬ 1=2 * (st.nx+64+64)+1:=by omega
    have n1':¬ 1=2 * (st.nx+64)+1:=by omega
    have n3:¬ 129=2 * (st.nx+64+64)+1:=by omega
    have n3':¬ 129=2 * (st.nx+64)+1:=by omega
    have n5:¬ 1153=2 * (st.nx+64+64)+1:=by omega
    have n5':¬ 1153=2 * (st.nx+64)+1:=by omega
    simp
    refine rest _ (.osl (2 * (st.nx+64+64)+1) (st.nx+64+64) 0 1 1) (by simp [g2]) (by simp [g3]) (by simp [g5]) ?_ ?_ ?_ (by simp) (Or.inr ⟨by simp [ofStart,hk],st.nx+64+64,by simp [ofStart,hk],by simp [ofStart,hk,intC],by omega,by simp⟩) (by simp [gd]) (by simp [gr]) (by simp;omega)
    ·simp only [setN_ob,setT_ob,app_ob1,if_neg n1,if_neg n1'];exact p1
    ·simp only [setN_ob,setT_ob,app_ob1,if_neg n3,if_neg n3'];exact p3
    ·simp only [setN_ob,setT_ob,app_ob1,if_neg n5,if_neg n5'];exact p5
  ·simp [splice,opC,objCells]
   exact kEnd_ints (p:=fun _=>True) (by simp) rfl (Or.inl ⟨rfl,by simp⟩) (by simp)
end Go.Pv.T

/- Who may have written what is read: the reference's read. -/
namespace Go.Pv.T
open Go Go.Pv
end Go.Pv.T

/- Who may have written what is read: the reference's list. -/
namespace Go.Pv.T
open Go Go.Pv
theorem leaveOf_at {g:Hist'} (hm:mayH g=true) (key:Int) {i:Nat} (h:i<g.ts.length):leaveOf g key i=(rawTo key g.ts[i].ops g.ts[i].ops.length).1:=by
 unfold leaveOf lastW opsAt
 rw [hm,if_pos (by simp;omega)]
 simp only [Int.toNat_natCast]
 rw [getD_lt h]
theorem opAt_some {g:Hist'} {a b:Int} {o:Op'} (h:opAt g a b=some o):∃ i j:Nat,a=i∧b=j∧∃ (hi:i<g.ts.length) (hj:j<(g.ts[i]).ops.length),(g.ts[i]).ops[j]=o:=by
 unfold opAt at h
 by_cases hc:(mayH g && (decide (0≤a) && (decide (a<g.ts.length) && (decide (0≤b) && decide (b<((g.ts.getD a.toNat ⟨0,0,true,[]⟩).ops.length:Nat))))))=true
 ·rw [if_pos hc] at h
  simp only [Bool.and_eq_true,decide_eq_true_eq] at hc
  obtain ⟨_,h1,h2,h3,h4⟩:=hc
  obtain ⟨i,rfl⟩:∃ i:Nat,a=i:=⟨a.toNat,by omega⟩
  obtain ⟨j,rfl⟩:∃ j:Nat,b=j:=⟨b.toNat,by omega⟩
  have hi:i<g.ts.length:=by omega
  rw [Int.toNat_natCast,getD_lt hi] at h h4
  have hj:j<(g.ts[i]).ops.length:=by omega
  rw [Int.toNat_natCast,List.getElem?_eq_getElem hj] at h
  exact ⟨i,j,rfl,rfl,hi,hj,Option.some.inj h⟩
 ·rw [if_neg hc] at h
  cases h
end Go.Pv.T

/- Whole histories; comparing lists. -/
namespace Go.Pv.T
open Go Go.Pv
theorem retSl {ub:Nat} {v:V} {nl:Bool} {n:Nat} {cs:List V} {K:Delta→Prop} (hv:SlR v nl n cs) (h:∀ t add,K { v:=.sl t nl n cs,add:=add }):wpD (retA ub v) K:=by
 obtain ⟨t,add,hr⟩:=retA_sl (ub:=ub) hv
 rw [hr,wpD_some]
 exact h t add
end Go.Pv.T

/- Lists: whether a number is in one, where; the same places; what is committed. -/
namespace Go.Pv.T
open Go Go.Pv
end Go.Pv.T

/- Reads that see what others wrote. -/
namespace Go.Pv.T
open Go Go.Pv
end Go.Pv.T

/- Reads that see what others wrote: the reference's own, and both Outers. -/
namespace Go.Pv.T
open Go Go.Pv
def ownAt (g:Hist') (a b:Int):Val' × Bool:=match opAt g a b with
 | some o=>rawTo o.key (g.ts.getD a.toNat ⟨0,0,true,[]⟩).ops b.toNat
 | none=>(⟨0,0⟩,false)
def outerB (g:Hist') (a b:Int):Bool:=match opAt g a b with
 | some o=>!o.w && !(ownAt g a b).2
 | none=>false
end Go.Pv.T

/- Reads that see what others wrote: the given Outer. -/
namespace Go.Pv.T
open Go Go.Pv
end Go.Pv.T

/- The reads that count: the reference's list. -/
namespace Go.Pv.T
open Go Go.Pv
end Go.Pv.T

/- The reads that count: the given list. -/
namespace Go.Pv.T
open Go Go.Pv
end Go.Pv.T

/- The reads that count: the given list's walk. -/
namespace Go.Pv.T
open Go Go.Pv
end Go.Pv.T

/- The choices: lists of lists. -/
namespace Go.Pv.T
open Go Go.Pv
section
variable {E:Env} {st:St} {ub:Nat} {K:List FP→St→Prop} {d:Option Nat} {nm:Bool} {r:List AOpr}
end
def lstC (x:Bool × List Int):List V:=[.sl none x.1 x.2.length (x.2.flatMap intC)]
@[simp] theorem lstC_len (x:Bool × List Int):(lstC x).length=1:=rfl
end Go.Pv.T

/- Bad reads of a transaction: the given list. -/
namespace Go.Pv.T
open Go Go.Pv
def badO (ops:List Op') (k:Nat) (o:Op'):Bool:=!o.w && ((o.v.kind != 2) && ((rawTo o.key ops k).2 && !(((rawTo o.key ops k).1.kind == o.v.kind) && ((rawTo o.key ops k).1.n == o.v.n))))
def badTo (ops:List Op'):Nat→List Int
 | 0=>[]
 | k+1=>badTo ops k++(match ops[k]? with | some o=>if badO ops k o then [(k:Int)] else [] | none=>[])
def badH (g:Hist') (i:Int):List Int:=badTo (opsAt g i).2 (opsAt g i).2.length
end Go.Pv.T

/- Bad reads of a transaction: the reference. -/
namespace Go.Pv.T
open Go Go.Pv
end Go.Pv.T

/- The knower: what it has learned; learning. -/
namespace Go.Pv.T
open Go Go.Pv
structure KnS where
 m:List (Int × Int)
 n:List (Int × Int)
 hop:Bool
 more:Bool
structure Kn (g:Hist') (uK um un:Nat) (s:KnS) (ob:Nat→Option Obj') (ub:Nat):Prop where
 lt:um<un∧un<uK∧uK<ub
 k:ob (2 * uK+1)=some ⟨uK,.cells [slOf g.sn strC g.ss,slOf g.kn strC g.ks,slOf g.tn txnC g.ts,.map (2 * um+1) um,.map (2 * un+1) un,.bool s.hop,.bool s.more]⟩
 m:∃ ver,ob (2 * um+1)=some ⟨um,.mp ver (MP intV s.m)⟩
 n:∃ ver,ob (2 * un+1)=some ⟨un,.mp ver (MP intV s.n)⟩
def KnP (g:Hist') (uK um un:Nat) (s':KnS) (ob:Nat→Option Obj') (ub:Nat) (r:V × (Nat→Option Obj') × (Nat→Bool) × Nat):Prop :=
 Kn g uK um un s' r.2.1 r.2.2.2∧(∀ key,key≠2 * uK+1→key≠2 * um+1→key≠2 * un+1→(∀ m,ub≤m→key≠2 * m+1)→r.2.1 key=ob key)∧ub≤r.2.2.2
def KnS.learnM (s:KnS) (t:Int):KnS:=if mcnt s.m t=0 then { s with m:=mset s.m t 1,more:=true } else s
def KnS.learnN (s:KnS) (t:Int):KnS:=if mcnt s.n t=0 then { s with n:=mset s.n t 1,more:=true } else s
end Go.Pv.T

/- The knower: a transaction can't have committed. -/
namespace Go.Pv.T
open Go Go.Pv
def KnS.fails (s:KnS) (f:Int) (t:Int):KnS:=if f=1 then { s with hop:=true } else if f=3 then s.learnN t else s
theorem KnP.mono {g:Hist'} {uK um un:Nat} {s':KnS} {ob ob1:Nat→Option Obj'} {ub ub1:Nat} {r:V × (Nat→Option Obj') × (Nat→Bool) × Nat} (h:KnP g uK um un s' ob1 ub1 r)
 (ho:∀ key,key≠2 * uK+1→key≠2 * um+1→key≠2 * un+1→(∀ m,ub≤m→key≠2 * m+1)→ob1 key=ob key) (hu:ub≤ub1):KnP g uK um un s' ob ub r :=
 ⟨h.1,fun key h1 h2 h3 h4=>(h.2.1 key h1 h2 h3 (fun m hm=>h4 m (by omega))).trans (ho key h1 h2 h3 h4),Nat.le_trans hu h.2.2⟩
theorem Kn.up {g:Hist'} {uK um un:Nat} {s:KnS} {ob ob1:Nat→Option Obj'} {ub ub1:Nat} (h:Kn g uK um un s ob ub) (ho:ob1=ob) (hu:ub≤ub1):Kn g uK um un s ob1 ub1 :=
 ⟨⟨h.lt.1,h.lt.2.1,Nat.lt_of_lt_of_le h.lt.2.2 hu⟩,by rw [ho];exact h.k,by rw [ho];exact h.m,by rw [ho];exact h.n⟩
end Go.Pv.T

/- The knower: who is left; deleting from a slice. -/
namespace Go.Pv.T
open Go Go.Pv
def OwnI (ob:Nat→Option Obj') (v:V) (l:List Int):Prop:=(v = .sl none true 0 []∧l=[])∨∃ L u cs,v = .osl L u 0 l.length 1∧ob L=some ⟨u,.cells cs⟩∧l.length≤cs.length∧cs.take l.length=l.flatMap intC
theorem OwnI.at {l:List Int} {cs:List V} (ht:cs.take l.length=l.flatMap intC) {i:Nat} (h:i<l.length):cs[i]? = some (.int .i64 l[i]):=by
 have h1:=int_at l h
 rw [← ht,List.getElem?_take_of_lt h] at h1
 exact h1
end Go.Pv.T

/- slices.DeleteFunc on numbers of one's own. -/
namespace Go.Pv.T
open Go Go.Pv
theorem kS_clear {E:Env} {Yf:YF} {st:St} {ub:Nat} {K:St→Nat→Prop} {d:Option Nat} {nm:Bool} {sz l u off n:Nat} {zero cs:List V} {x:A} (hx:eval E st.tm x = .osl l u off n sz) (ho:st.ob l=some ⟨u,.cells cs⟩) (hro:st.ro≤u) (hz:zero.length=sz) (hn:off+n * sz≤cs.length)
 (h:kApp K st d ub { v:=none',obs:=[(l,⟨u,.cells (splice cs off (repl n zero))⟩)] }):wpStep E Yf ⟨d,.clear sz zero x,none,nm⟩ st ub K:=by
 have hoc:objCells st.ob l u=some cs:=by simp [objCells,ho]
 rw [wpStep_of _ rfl rfl]
 simp only [aop,hx]
 rw [if_pos ⟨Nat.ble_eq ▸ hro,trivial,hz⟩,hoc,Option.bind_some,if_pos hn,wpD_some]
 exact h
end Go.Pv.T

/- The knower: what a transaction tells. -/
namespace Go.Pv.T
open Go Go.Pv
def KnS.left (s:KnS) (g:Hist') (a b:Int):List Int:=(ofH g a b).filter fun t=>!decide (0<mcnt s.n t)
def KnS.op (s:KnS) (g:Hist') (f:Int) (t k:Nat) (o:Op'):KnS :=
 if o.v.kind == 2 || !outerB g t k then s else
 if (s.left g t k).length=0 then s.fails f t else
 if (s.left g t k).length == 1 && (decide (0≤(s.left g t k).headD 0) && decide (0<mcnt s.m t)) then s.learnM ((s.left g t k).headD 0) else s
def KnS.ops (s:KnS) (g:Hist') (f:Int) (t:Nat) (l:List Op'):Nat→KnS
 | 0=>s
 | k+1=>match l[k]? with
  | some o=>(s.ops g f t l k).op g f t k o
  | none=>s.ops g f t l k
def KnS.txn (s:KnS) (g:Hist') (t:Nat) (f:Int) (l:List Op'):KnS:=(if (badH g t).isEmpty then s else s.fails f t).ops g f t l l.length
theorem Kn.keep {g:Hist'} {uK um un:Nat} {s:KnS} {ob ob1:Nat→Option Obj'} {ub ub1:Nat} (h:Kn g uK um un s ob ub) (ho:∀ key,(∀ m,ub≤m→key≠2 * m+1)→ob1 key=ob key) (hu:ub≤ub1):Kn g uK um un s ob1 ub1:=by
 obtain ⟨⟨l1,l2,l3⟩,hk,⟨vm,hm⟩,⟨vn,hn⟩⟩:=h
 exact ⟨⟨l1,l2,by omega⟩,(ho _ fun m h e=>by omega).trans hk,⟨vm,(ho _ fun m h e=>by omega).trans hm⟩,⟨vn,(ho _ fun m h e=>by omega).trans hn⟩⟩
def Aside (uK um un:Nat) (ob:Nat→Option Obj') (ub:Nat) (ob1:Nat→Option Obj'):Prop:=∀ key,key≠2 * uK+1→key≠2 * um+1→key≠2 * un+1→(∀ m,ub≤m→key≠2 * m+1)→ob1 key=ob key
theorem Aside.trans {uK um un:Nat} {ob ob1 ob2:Nat→Option Obj'} {ub ub1:Nat} (h:Aside uK um un ob ub ob1) (h':Aside uK um un ob1 ub1 ob2) (hu:ub≤ub1):Aside uK um un ob ub ob2 :=
 fun key h1 h2 h3 h4=>(h' key h1 h2 h3 fun m hm=>h4 m (by omega)).trans (h key h1 h2 h3 h4)
theorem Aside.new {uK um un:Nat} {ob ob1:Nat→Option Obj'} {ub:Nat} (h:∀ key,(∀ m,ub≤m→key≠2 * m+1)→ob1 key=ob key):Aside uK um un ob ub ob1:=fun key _ _ _ h4=>h key h4
end Go.Pv.T

/- The choices: the given list of lists. -/
namespace Go.Pv.T
open Go Go.Pv
end Go.Pv.T

/- The choices: the reference's list of lists. -/
namespace Go.Pv.T
open Go Go.Pv
end Go.Pv.T

/- Whether a list is a map: the reference. -/
namespace Go.Pv.T
open Go Go.Pv
theorem ofH_len {g:Hist'} (hm:mayH g=true) (a b:Int):(ofH g a b).length≤41:=by
 unfold ofH
 split
 ·split
  ·simp
  ·exact ofL_len (may_ts hm) a _
 ·simp
end Go.Pv.T

/- The knower: who is left. -/
namespace Go.Pv.T
open Go Go.Pv
theorem kD_own {st:St} {ub:Nat} {K:List FP→St→Prop} {d:Option Nat} {nm:Bool} {r:List AOpr} {f:FuncId} {xs:List A} {vs args':List V} {v:V} {δ:Delta} (hx:xs.map (eval E st.tm)=vs) (hs:E.sh nm f=true) (htw:E.tw f=true)
 (ha:vs.mapM (frzTop st.ob)=some args') (hev:Ev E f args' v) (hδ:thawD (objName d nm st.fb ub) ub v=some δ)
 (h:wpDraw E r (st.app d δ) (ub+64) (kFp { wo:=δ.wo,all:=true,seen:=fun l=>(st.ob l).isSome,nw:=true } K)):wpDraw E (⟨d,.call f xs,none,nm⟩::r) st ub K:=by
 have hsh:sharedCall E nm (eval E st.tm) (.call f xs)=some (f,vs):=by simp only [sharedCall,hs,hx,Bool.not_true,Bool.false_and,Bool.false_eq_true,if_false]
 simp only [wpDraw,wanted,hsh]
 exact .inr ⟨hs,htw,args',v,ha,hev,δ,by rw [name_eq'];exact hδ,h⟩
where
 name_eq':∀ {d:Option Nat} {op:AOp} {nm:Bool} {fb ub:Nat},AOpr.name ⟨d,op,none,nm⟩ fb ub=objName d nm fb ub:=by
  intro d op nm fb ub;cases nm <;> rfl
end Go.Pv.T
