/- Who may have written what is read: the program's walk. -/
import Derived.Test.YtphecmnehkdihaaGreatDoorMD
set_option maxRecDepth 100000
set_option maxHeartbeats 8000000
namespace Go.Pv.T
open Go Go.Pv
def QS (o:Op') (v:Val'):Bool:=o.v.kind == 2 || (v.kind == o.v.kind && v.n == o.v.n)
def J1 (o:Op'):List Int:=if o.v.kind=1 then [] else [-1]
def ofL (g:Hist') (a:Int) (o:Op'):List Int:=J1 o++(writersH g o.key).filter fun i=>!(i == a) && QS o (Y1 g o.key i)
def ofH (g:Hist') (a b:Int):List Int:=match opAt g a b with
 | some o=>if o.w then [] else ofL g a o
 | none=>[]
theorem jof (g:Hist') (k:Int):(writersH g k).Pairwise (· < ·)∧∀x∈writersH g k,0≤x:=by
 have:=Wo (p:=wrB k) (ts:=g.ts) g.ts.length zR
 exact⟨this.2,fun x a=>(this.1 x a).1⟩
theorem jpj (g:Hist') (a:Int) (o:Op'):(ofL g a o).Pairwise (·≤·):=by
 have h:=jof g o.key
 unfold ofL J1
 rw[List.pairwise_append]
 refine⟨?_,?_,?_⟩
 ·split <;> simp
 ·exact((h.1.imp (fun h=>Int.le_of_lt h)).filter _)
 ·intro x b y d
  have c:=h.2 y (List.mem_filter.1 d).1
  split at b
  ·cases b
  ·rw[List.mem_singleton]at b;omega
theorem jdd (g:Hist') (k:Int):(writersH g k).length≤g.ts.length:=by
 unfold writersH
 exact JJ (wrB k) g.ts g.ts.length
theorem j1z {g:Hist'}(c:g.ts.length≤40) (a:Int) (o:Op'):(ofL g a o).length≤41:=by
 unfold ofL J1
 rw[List.length_append]
 have b:=List.length_filter_le (fun i=>!(i == a) && QS o (Y1 g o.key i)) (writersH g o.key)
 have d:=jdd g o.key
 split <;> simp <;> omega
theorem jsu {g:Hist'}(a:W2 g=true):g.ts.length≤40:=by
 unfold W2 Y7 at a
 simp only[Bool.and_eq_true,decide_eq_true_eq]at a
 exact a.1.2.2.2.2
def Xp (o:Op') (P:List (Int × Val')):List Int:=(P.filter fun p=>QS o p.2).map (·.1)
theorem jlg {g:Hist'}{a:Int}{o:Op'}{P:List (Int × Val')}(h:P.Perm (Jf g a o.key (writersH g o.key))):(J1 o++Xp o P).Perm (ofL g a o):=by
 unfold ofL
 refine List.Perm.append_left _ ?_
 have b:(Xp o P).Perm (Xp o (Jf g a o.key (writersH g o.key))):=(h.filter _).map _
 refine b.trans ?_
 have e:Xp o (Jf g a o.key (writersH g o.key))=(writersH g o.key).filter fun i=>!(i == a) && QS o (Y1 g o.key i):=by
  unfold Xp Jf
  rw[List.filter_map,List.map_map,List.filter_filter]
  have:((fun x:Int × Val'=>x.1) ∘ fun i=>(i,Y1 g o.key i))=id:=rfl
  rw[this,List.map_id]
  congr 1
  funext i
  simp only[Function.comp,Bool.and_comm]
 rw[e]
theorem jy5 {m:List (Int × Val')}{A B:List (V × V)}{k v:V}(h:MP valV m=A++(k,v)::B):∃a p b,m=a++p::b∧A=MP valV a∧B=MP valV b∧k=.int .i64 p.1∧v=valV p.2:=by
 unfold MP at h
 obtain⟨a,C,e,c,i⟩:=List.map_eq_append_iff.1 h
 obtain⟨p,b,f,d,g⟩:=List.map_eq_cons_iff.1 i
 subst f
 have:=Prod.mk.inj d
 exact⟨a,p,b,e,c.symm,g.symm,this.1.symm,this.2.symm⟩
theorem j0j (a b:List (Int × Val')):MP valV a++MP valV b=MP valV (a++b):=by simp[MP]
theorem jzs {x:Nat}(h:640≤x):¬ 2*x=1152:=zO
theorem ev217 {g:Hist'}(hs:Small g) (a b:Int):Ev E 217 [.agg (histC g),.agg (jB (a,b))] (jhv (ofH g a b)):=by
 have N:=ev254 hs a b
 refine jQ (af:=F217) rfl ?_
 unfold ofH
 cases S:opAt g a b with
 | none=>
  rw[S]at N
  simp[F217,histC,objCells,jB]
  refine jO N (by simp[histC,jB]) rfl (by simp[histC,jB]) ?_
  rw[Ji (by simp[V.plain,opC])]
  simp[j2,opC,op0,objCells]
  exact W4 (p:=fun _=>True) zS rfl (Or.inl ⟨rfl,zS⟩) zS
 | some o=>
  rw[S]at N
  simp only[Option.getD_some,Option.any_some]at N
  have b9:W2 g=true:=by
   unfold opAt at S
   cases hm:W2 g
   ·rw[hm]at S;cases S
   ·rfl
  have h4:=jsu b9
  simp[F217,histC,objCells,jB]
  refine jO N (by simp[histC,jB]) rfl (by simp[histC,jB]) ?_
  rw[Ji (by simp[V.plain,opC])]
  cases hw:o.w
  ·simp[j2,opC,objCells]
   generalize hK:jqh E Y0 _ (jzu _ _)=K
   have b6:∀ (s:St) (v:V),s.tm 2=.ptr 1 0 0→s.tm 3=.ptr 129 64 0→s.tm 5=.ptr 1153 576 0→s.ob 1=some ⟨0,.cells (histC g)⟩→s.ob 129=some ⟨64,.cells [.int .i64 a,.int .i64 b]⟩→s.ob 1153=some ⟨576,.cells (opC o)⟩ →
    s.tm 7=v→IntsO s.ob (fun u=>640≤u∧u<s.nx) (J1 o) v→s.df=[]→s.ro=0→640≤s.nx→K .nrm s:=by
    intro s v h2 h3 h5 o1 o3 o5 h7 hv hd hr hn
    rw[← hK]
    clear hK
    simp[h2,h3,h5,o1,o3,o5,objCells,opC,histC]
    refine jU (vs:=[.agg (histC g),.int .i64 a,.int .i64 o.key]) (by simp[histC]) rfl (sv255 hs b9 a o.key (by simp[hr])) ?_
    rintro w d0 g8 c ⟨M,U,ver,e1,e2,e3,e4,e5,e6,e7⟩
    simp only at e1 e3 e5 e6 e7
    subst e1
    simp
    refine jlw (l:=2*M+1) (u:=U) (ver:=ver) zS (by simpa using e5) ?_
    simp
    refine jY fun x j=>?_
    have c0:640≤c:=by first|omega|(simp at e7;omega)
    have h0:640≤M:=by first|omega|(simp at e2;omega)
    obtain⟨F,T⟩:∃l,Jf g a o.key (writersH g o.key)=l:=⟨_,rfl⟩
    rw[T]at e5 j
    have c4:∀k,(∀m,s.nx≤m→k≠2*m+1)→d0 k=s.ob k:=fun k hk=>(e6 k (fun m hm=>hk m (by first|omega|(simp at hm;omega)))).trans zS
    have h1:s.nx≤M:=by first|omega|(simp at e2;omega)
    have g5:x.tm 5=.ptr 1153 576 0:=by rw[j];simp[h5]
    have g7:x.tm 7=v:=by rw[j];simp[h7]
    have f1:x.tm 31=.iter (2*c+1) c:=by rw[j];simp
    have gd:x.df=[]:=by rw[j];simp[hd]
    have gr:x.ro=0:=by rw[j];simp[hr]
    have gn:c<x.nx:=by rw[j];simp
    have gf:∀k,k≠2*c+1→x.ob k=d0 k:=by
     intro k hk
     rw[j];simp[hk]
    have pi:x.ob (2*c+1)=some ⟨c,.miter (2*M+1) U ver (MP valV F) none⟩:=by rw[j];simp
    have pm:x.ob (2*M+1)=some ⟨U,.mp ver (MP valV F)⟩:=(gf _ zO).trans e5
    have p5:x.ob 1153=some ⟨576,.cells (opC o)⟩:=(gf _ zO).trans ((c4 _ (fun m hm=>by omega)).trans o5)
    have pv:IntsO x.ob (fun u=>640≤u∧u≠M∧u≠c∧u<x.nx) (J1 o++Xp o []) v:=by
     rw[show Xp o []=[] from rfl,List.append_nil]
     refine hv.frame (fun u y=>?_) (fun u y=>⟨y.1,zO,by first|omega|(simp at e7;omega),by first|omega|(simp at e7;omega)⟩)
     exact(gf _ (by first|omega|(simp at e7;omega))).trans (c4 _ (fun m hm=>by omega))
    clear j e6 e5 c4
    obtain⟨J,hJ⟩:∃J:Nat→St→Prop,J=fun n s=>∃ (P m':List (Int × Val')) (v:V) (b7:Option (V × V)),n=m'.length∧(P++m').Perm F∧s.tm 7=v∧IntsO s.ob (fun u=>640≤u∧u≠M∧u≠c∧u<s.nx) (J1 o++Xp o P) v ∧
     s.ob (2*c+1)=some ⟨c,.miter (2*M+1) U ver (MP valV m') b7⟩∧s.ob (2*M+1)=some ⟨U,.mp ver (MP valV F)⟩∧s.ob 1153=some ⟨576,.cells (opC o)⟩∧c<s.nx:=⟨_,rfl⟩
    refine Yb (n:=F.length) [(7,9),(32,50)] J rfl rfl (by rw[hJ];exact⟨[],F,v,none,rfl,zS,g7,pv,pi,pm,p5,gn⟩) ?_
    clear h7 hv g7 pv pi pm p5 gn v
    intro n s d7 f
    rw[hJ]at d7
    obtain⟨P,m',v,b7,rfl,G,h7,hv,oi,om,a0,e8⟩:=d7
    have f5:s.tm 5=.ptr 1153 576 0:=by rw[f.t 5 zS];exact g5
    have e0:s.tm 31=.iter (2*c+1) c:=by rw[f.t 31 zS];exact f1
    have fd:s.df=[]:=by rw[f.d];exact gd
    have fr:s.ro=0:=by rw[f.r];exact gr
    clear f
    have d8:(P++m').length≤40:=by
     rw[G.length_eq,← T]
     unfold Jf
     rw[List.length_map]
     have:=List.length_filter_le (fun i=>!(i == a)) (writersH g o.key)
     have:=jdd g o.key
     omega
    rw[List.length_append]at d8
    have g1:(Xp o P).length≤P.length:=by
     unfold Xp
     rw[List.length_map]
     exact List.length_filter_le _ _
    have g9:(J1 o).length≤1:=by unfold J1;split <;> simp
    simp
    refine jps (l:=2*c+1) (u:=c) (l':=2*M+1) (u':=U) (ver:=ver) (es:=MP valV F) (left:=MP valV m') (by simp[e0]) oi om (by simp[fr]) ?_ ?_
    ·intro b8
     have g0:m'=[]:=by
      unfold MP at b8
      exact List.map_eq_nil_iff.1 b8
     subst g0
     rw[List.append_nil]at G
     have I:=jlg (g:=g) (a:=a) (o:=o) (P:=P) (by rw[T];exact G)
     have d9:=I.length_eq
     simp[h7]
     rcases hv with⟨c9,rfl⟩|⟨f7,u,rfl,f2,y⟩
     ·rw[c9]at I
      have hT:ofL g a o=[]:=List.perm_nil.1 I.symm
      refine jU (vs:=[.sl none true 0 []]) zS rfl sv69n ?_
      rintro w f0 e9 f6 ⟨q1,q2,q3⟩
      simp[h7]
      exact W4 (p:=fun _=>True) (by simp[fd]) rfl (Or.inl ⟨hT,zS⟩) (by simp[fr])
     ·refine jU (vs:=[.osl (2*u+1) u 0 (J1 o++Xp o P).length 1]) zS rfl (sv69 I (jpj g a o) (by rw[List.length_append];omega) (by simpa using f2) (by simp[fr]) (fun m hm=>by have:=y.2.2.2;first|omega|(simp at hm;omega)) (by simp[fr])) ?_
      rintro w f0 e9 f6 c8
      simp only at c8
      simp[h7]
      refine W4 (p:=fun _=>True) (by simp[fd]) rfl (Or.inr ⟨?_,u,?_,by simpa using c8.1,trivial⟩) (by simp[fr])
      ·intro hT
       rw[hT]at I
       exact f7 (List.perm_nil.1 I)
      ·rw[← d9];simp
    ·intro A k w B f3
     obtain⟨A',q,B',rfl,rfl,rfl,rfl,rfl⟩:=jy5 f3
     have H:((P++[q])++(A'++B')).Perm F:=by
      refine List.Perm.trans ?_ G
      rw[List.append_assoc]
      exact List.Perm.append_left _ (by simpa using List.perm_middle.symm)
     have nM:¬ 2*M+1=2*c+1:=zO
     simp
     refine jxn (l:=2*c+1) (u:=c) (l':=2*M+1) (u':=U) (ver:=ver) (es:=MP valV F) (left:=MP valV A'++MP valV B') (k:=.int .i64 q.1) (v:=valV q.2) (by simp[e0]) zS (by simp[show ¬ 2*M=2*c by omega,om]) ?_
     have n5:¬ 1153=2*c+1:=zO
     simp[valV,jv,j2,fr,objCells]
     generalize d5:jqh E Y0 (C.cond _ _ _) _=K2
     have Q:∀ (D:St) (O:Bool),O=QS o q.2→D.tm 46=.bool O→D.tm 7=v→D.tm 8=.int .i64 q.1→IntsO D.ob (fun u=>640≤u∧u≠M∧u≠c∧u<D.nx) (J1 o++Xp o P) v →
      D.ob (2*c+1)=some ⟨c,.miter (2*M+1) U ver (MP valV (A'++B')) (some (.int .i64 q.1,valV q.2))⟩→D.ob (2*M+1)=some ⟨U,.mp ver (MP valV F)⟩→D.ob 1153=some ⟨576,.cells (opC o)⟩→c<D.nx→D.df=[]→D.ro=0→K2 .nrm D:=by
      intro D O c6 d6 h7 h8 hv oi om o5 hn hd hr
      rw[← d5]
      have L:Xp o (P++[q])=Xp o P++(if O then [q.1] else []):=by
       unfold Xp
       rw[List.filter_append,List.map_append,c6]
       cases hf:QS o q.2 <;> simp[hf]
      have g4:(A'++B').length<(A'++q::B').length:=zS
      cases O
      ·simp only[Bool.false_eq_true,if_false,List.append_nil]at L
       simp[d6]
       exact⟨(A'++B').length,zL,by rw[hJ];exact⟨P++[q],A'++B',v,some (.int .i64 q.1,valV q.2),rfl,H,by simp[h7],by rw[L];exact hv.frame (fun u _=>by simp) (fun u y=>⟨y.1,y.2.1,y.2.2.1,by have:=y.2.2.2;first|omega|(simp;omega)⟩),by simp[oi],by simp[om],by simp[o5],by first|omega|(simp;omega)⟩⟩
      ·simp only[if_true]at L
       simp[d6,h7,h8]
       refine jo (cs:=[.int .i64 q.1]) (by simp[j2]) rfl rfl ?_
       simp
       refine QH (p:=fun u=>640≤u∧u≠M∧u≠c∧u<D.nx) (l:=J1 o++Xp o P) (z:=q.1) (v:=v) (X:=2*(D.nx+64+64)+1) (uX:=D.nx+64+64) zS (hv.frame (fun u y=>?_) (fun _ h=>h)) zS zS (by simp[hr]) (by rw[List.length_append];simp at d8;omega) (fun kl c5=>?_)
       ·have:¬ 2*u=2*(D.nx+64+64):=by have:=y.2.2.2;omega
        simp[this]
       have nk:∀z:Nat,(∀u,640≤u→u≠M→u≠c→z≠2*u+1)→z ∉ kl:=fun z hz hm=>by
        obtain⟨u,y,e⟩:=c5 z hm
        exact hz u y.1 y.2.1 y.2.2.1 e
       have k1:=nk (2*c+1) (fun u _ _ h e=>h zO)
       have k2:=nk (2*M+1) (fun u _ h _ e=>h zO)
       have k3:=nk 1153 (fun u h _ _ e=>by omega)
       obtain⟨Z,hZ⟩:∃Z,D.nx+64+64+64=Z:=⟨_,rfl⟩
       have d1:¬ 2*c+1=2*Z+1:=zO
       have d2:¬ 2*M+1=2*Z+1:=zO
       have d3:¬ 1153=2*Z+1:=zO
       have b1:¬ 2*c+1=2*(D.nx+64+64)+1:=zO
       have b2:¬ 2*M+1=2*(D.nx+64+64)+1:=zO
       have b3:¬ 1153=2*(D.nx+64+64)+1:=zO
       have g6:∀X:Prop,X→X:=fun _ h=>h
       simp only[hZ]
       simp
       refine⟨(A'++B').length,zL,?_⟩
       rw[hJ]
       refine⟨P++[q],A'++B',.osl (2*Z+1) Z 0 (J1 o++Xp o (P++[q])).length 1,some (.int .i64 q.1,valV q.2),rfl,H,by simp[L],Or.inr ⟨by rw[L];simp,Z,rfl,?_,zO,zO,zO,?_⟩,?_,?_,?_,?_⟩
       ·simp only[JA,YJ]
        rw[je7,if_pos rfl,L]
        simp
       ·first|omega|(simp;done)|(simp;omega)
       ·simp only[JA,YJ]
        rw[jh4 _ _ _ _ _ _ _ k1,if_neg d1]
        simp only[Jy,YJ,if_neg b1]
        exact oi
       ·simp only[JA,YJ]
        rw[jh4 _ _ _ _ _ _ _ k2,if_neg d2]
        simp only[Jy,YJ,if_neg b2]
        exact om
       ·simp only[JA,YJ]
        rw[jh4 _ _ _ _ _ _ _ k3,if_neg d3]
        simp only[Jy,YJ,if_neg b3]
        exact o5
       ·first|omega|(simp;done)|(simp;omega)
     clear d5
     have c1:¬ 2*c=2*(s.nx+64+64+64+64+64):=zO
     have c2:¬ 2*M=2*(s.nx+64+64+64+64+64):=zO
     have c3:¬ 2*M=2*c:=zO
     have f8:640≤s.nx+64+64+64+64+64:=Nat.le_trans (Nat.le_trans c0 (Nat.le_of_lt e8)) (by simp[Nat.add_assoc])
     have nq:=jzs f8
     have b0:=jzs c0
     cases b5:(o.v.kind == 2)
     ·simp[f5,a0,objCells,opC,n5,nq,b5]
      refine Q _ (q.2.kind == o.v.kind && q.2.n == o.v.n) (by unfold QS;rw[b5];rfl) zS (by simp[h7]) zS (hv.frame (fun u y=>?_) (fun u y=>⟨y.1,y.2.1,y.2.2.1,by have:=y.2.2.2;first|omega|(simp;omega)⟩)) (by simp[c1,j0j,valV,jv]) (by simp[c2,c3,om]) (by simp[nq,b0,a0,opC]) (by first|omega|(simp;omega)) (by simp[fd]) (by simp[fr])
      have a1:¬ 2*u=2*(s.nx+64+64+64+64+64):=by have:=y.2.2.2;omega
      have a2:¬ 2*u=2*c:=by have:=y.2.2.1;omega
      simp[a1,a2]
     ·simp[f5,a0,objCells,opC,n5,nq,b5]
      refine Q _ true (by unfold QS;rw[b5];rfl) zS (by simp[h7]) zS (hv.frame (fun u y=>?_) (fun u y=>⟨y.1,y.2.1,y.2.2.1,by have:=y.2.2.2;first|omega|(simp;omega)⟩)) (by simp[c1,j0j,valV,jv]) (by simp[c2,c3,om]) (by simp[nq,b0,a0,opC]) (by first|omega|(simp;omega)) (by simp[fd]) (by simp[fr])
      have a1:¬ 2*u=2*(s.nx+64+64+64+64+64):=by have:=y.2.2.2;omega
      have a2:¬ 2*u=2*c:=by have:=y.2.2.1;omega
      simp[a1,a2]
   clear hK
   refine j2n fun x j=>?_
   have g2:x.tm 2=.ptr 1 0 0:=by rw[j];simp
   have g3:x.tm 3=.ptr 129 64 0:=by rw[j];simp
   have g5:x.tm 5=.ptr 1153 576 0:=by rw[j];simp
   have g7:x.tm 7=.sl none true 0 []:=by rw[j];simp
   have p1:x.ob 1=some ⟨0,.cells (histC g)⟩:=by rw[j];simp[histC]
   have p3:x.ob 129=some ⟨64,.cells [.int .i64 a,.int .i64 b]⟩:=by rw[j];simp
   have p5:x.ob 1153=some ⟨576,.cells (opC o)⟩:=by rw[j];simp[opC,hw]
   have gd:x.df=[]:=by rw[j];simp
   have gr:x.ro=0:=by rw[j];simp
   have gn:640≤x.nx:=by rw[j];simp
   clear j
   cases d4:(o.v.kind != 1)
   ·have hk:o.v.kind=1:=by simpa using d4
    simp
    exact b6 _ _ g2 g3 g5 p1 p3 p5 g7 (Or.inl ⟨by simp[J1,hk],rfl⟩) gd gr gn
   ·have hk:¬ o.v.kind=1:=by simpa using d4
    simp[g7]
    refine jo (cs:=[.int .i64 (-1)]) (by simp[j2]) rfl rfl ?_
    simp
    refine QH (p:=fun _=>False) (l:=[]) (z:=-1) (v:=.sl none true 0 []) (X:=2*(x.nx+64)+1) (uX:=x.nx+64) zS (Or.inl ⟨rfl,rfl⟩) zS zS (fun _ h=>h.elim) zS (fun kl c5=>?_)
    have c7:kl=[]:=by
     cases kl with
     | nil=>rfl
     | cons k _=>obtain⟨_,h,_⟩:=c5 k zS;exact h.elim
    subst c7
    have n1:¬ 1=2*(x.nx+64+64)+1:=zO
    have f4:¬ 1=2*(x.nx+64)+1:=zO
    have n3:¬ 129=2*(x.nx+64+64)+1:=zO
    have f9:¬ 129=2*(x.nx+64)+1:=zO
    have n5:¬ 1153=2*(x.nx+64+64)+1:=zO
    have b0:¬ 1153=2*(x.nx+64)+1:=zO
    simp
    refine b6 _ (.osl (2*(x.nx+64+64)+1) (x.nx+64+64) 0 1 1) (by simp[g2]) (by simp[g3]) (by simp[g5]) ?_ ?_ ?_ zS (Or.inr ⟨by simp[J1,hk],x.nx+64+64,by simp[J1,hk],by simp[J1,hk,intC],zO,zS⟩) (by simp[gd]) (by simp[gr]) (by simp;omega)
    ·simp only[JA,YJ,Jy,if_neg n1,if_neg f4];exact p1
    ·simp only[JA,YJ,Jy,if_neg n3,if_neg f9];exact p3
    ·simp only[JA,YJ,Jy,if_neg n5,if_neg b0];exact p5
  ·simp[j2,opC,objCells]
   exact W4 (p:=fun _=>True) zS rfl (Or.inl ⟨rfl,zS⟩) zS
theorem ev175 {h:Hist'}(q:Small h) (a b:Int):Ev E 175 [.agg (histC h),.agg (jB (a,b))] (.bool ((opAt h a b).any fun o=>!o.w)):=by
 have n:=ev58 q
 have v:=q.ts
 refine jQ (af:=F175) rfl ?_
 obtain⟨R,c⟩:∃R,opAt h a b=R:=⟨_,rfl⟩
 rw[c]
 unfold opAt at c
 simp[F175,histC,objCells,jB]
 refine X5 n (by simp[histC]) rfl (by simp[histC]) ?_
 cases k:W2 h
 ·rw[Qp k]
  rw[k]at c
  subst c
  simp
  exact j1 zS zS rfl
 rw[k]at c
 rw[Yo k]
 by_cases x:a<0
 ·have d:¬ 0≤a:=zO
  rw[if_neg (by simp;omega)]at c
  subst c
  simp[d,objCells]
  exact j1 zS zS rfl
 have d:0≤a:=zO
 by_cases y:(h.ts.length:Int)≤a
 ·have f:¬ (a<(h.ts.length:Int)):=zO
  rw[if_neg (by simp;omega)]at c
  subst c
  simp[d,f,objCells]
  exact j1 zS zS rfl
 have f:a<(h.ts.length:Int):=zO
 by_cases u:b<0
 ·have l:¬ 0≤b:=zO
  rw[if_neg (by simp;omega)]at c
  subst c
  simp[d,f,l,objCells]
  exact j1 zS zS rfl
 have l:0≤b:=zO
 obtain⟨i,rfl⟩:∃i:Nat,a=i:=⟨a.toNat,zO⟩
 have g:i<h.ts.length:=zO
 rw[Int.toNat_natCast,Jv g]at c
 obtain⟨t,s⟩:∃t,h.ts[i]=t:=⟨_,rfl⟩
 rw[s]at c
 have e:(h.ts.flatMap jn)[i*3+2]? = some (slOf t.nl opC t.ops):=by
  rw[jR j7 h.ts g (by decide:2<3),s];rfl
 by_cases z:(t.ops.length:Int)≤b
 ·have m:¬ (b<(t.ops.length:Int)):=zO
  rw[if_neg (by simp;omega)]at c
  subst c
  simp[d,f,l,m,objCells,g,j5 j7,e]
  exact j1 zS zS rfl
 have m:b<(t.ops.length:Int):=zO
 obtain⟨j,rfl⟩:∃j:Nat,b=j:=⟨b.toNat,zO⟩
 have p:j<t.ops.length:=zO
 rw[if_pos (by simp;omega),Int.toNat_natCast,List.getElem?_eq_getElem p]at c
 obtain⟨o,r⟩:∃o,t.ops[j]=o:=⟨_,rfl⟩
 rw[r]at c
 subst c
 have B:(t.ops.flatMap opC)[j*4]? = some (.bool o.w):=by
  have:=jR jH t.ops p (by decide:0<4)
  rw[Nat.add_zero,r]at this
  rw[this];rfl
 simp[d,f,l,m,objCells,g,j5 j7,e]
 simp[p,j5 jH,B]
 exact j1 zS zS rfl
def jrc (o:Op') (a:Int) (i:Nat) (t:Txn'):Bool:=(!((i:Int) == a) && (t.f != 2)) && ((JL o.key t.ops t.ops.length).2 && QS o (JL o.key t.ops t.ops.length).1)
def Xo (ts:List Txn') (a:Int) (o:Op'):Nat→List Int
 | 0=>J1 o
 | i+1=>Xo ts a o i++(match ts[i]? with|some t=>if jrc o a i t then [(i:Int)] else []|none=>[])
theorem jfz {ts:List Txn'}{a:Int}{o:Op'}{i:Nat}(h:i<ts.length):Xo ts a o (i+1)=Xo ts a o i++(if jrc o a i ts[i] then [(i:Int)] else []):=by
 simp[Xo,List.getElem?_eq_getElem h]
theorem ji4 (ts:List Txn') (a:Int) (o:Op'):∀i,(Xo ts a o i).length≤i+1
 | 0=>by unfold Xo J1;split <;> simp
 | i+1=>by
  have:=ji4 ts a o i
  simp only[Xo,List.length_append]
  split
  ·split <;> simp <;> omega
  ·simp;omega
theorem jpp {g:Hist'}(a:W2 g=true) (key:Int) {i:Nat}(h:i<g.ts.length):Y1 g key i=(JL key g.ts[i].ops g.ts[i].ops.length).1:=by
 unfold Y1 W3 Jp
 rw[a,if_pos (by simp;omega)]
 simp only[Int.toNat_natCast]
 rw[Jv h]
theorem jm5 {g:Hist'}(c:W2 g=true) (a:Int) (o:Op'):∀i,i≤g.ts.length→Xo g.ts a o i=J1 o++(numsTo (wrB o.key) g.ts i).filter fun i=>!(i == a) && QS o (Y1 g o.key i)
 | 0,_=>by simp[Xo,numsTo]
 | i+1,h=>by
  rw[jfz zO,JM zO,List.filter_append,jm5 c a o i zO,List.append_assoc]
  congr 2
  have b:=jal o.key (g.ts[i]).ops (g.ts[i]).ops.length zR
  rw[List.take_length]at b
  have e:=jpp c o.key (show i<g.ts.length by omega)
  unfold jrc wrB
  rw[b]
  cases j:(g.ts[i].ops.any (wkB o.key)) <;> cases k:(g.ts[i].f != 2) <;> cases d:((i:Int) == a) <;> simp[List.filter_cons,d,e]
theorem jrl {g:Hist'}(b:W2 g=true) (a:Int) (o:Op'):Xo g.ts a o g.ts.length=ofL g a o:=jm5 b a o _ zR
theorem jaq {g:Hist'}{a b:Int}{o:Op'}(h:opAt g a b=some o):∃i j:Nat,a=i∧b=j∧∃ (hi:i<g.ts.length) (d:j<(g.ts[i]).ops.length),(g.ts[i]).ops[j]=o:=by
 unfold opAt at h
 by_cases c:(W2 g && (decide (0≤a) && (decide (a<g.ts.length) && (decide (0≤b) && decide (b<((g.ts.getD a.toNat ⟨0,0,true,[]⟩).ops.length:Nat))))))=true
 ·rw[if_pos c]at h
  simp only[Bool.and_eq_true,decide_eq_true_eq]at c
  obtain⟨_,f,l,k,e⟩:=c
  obtain⟨i,rfl⟩:∃i:Nat,a=i:=⟨a.toNat,zO⟩
  obtain⟨j,rfl⟩:∃j:Nat,b=j:=⟨b.toNat,zO⟩
  have hi:i<g.ts.length:=zO
  rw[Int.toNat_natCast,Jv hi]at h e
  have d:j<(g.ts[i]).ops.length:=zO
  rw[Int.toNat_natCast,List.getElem?_eq_getElem d]at h
  exact⟨i,j,rfl,rfl,hi,d,Option.some.inj h⟩
 ·rw[if_neg c]at h
  cases h
theorem ev112' {g:Hist'}(hs:Small g) (a b:Int):∃v,Ev E 112 [.agg (histC g),.agg (jB (a,b))] v∧SlR v false (ofH g a b).length ((ofH g a b).flatMap intC):=by
 have B:=ev175 hs a b
 refine XF (af:=F112) rfl zD ?_
 unfold ofH
 cases y:opAt g a b with
 | none=>
  rw[y]at B
  simp[F112,histC,jB]
  refine jJ (cs:=[]) rfl rfl rfl ?_
  simp[objCells]
  refine jO B (by simp[histC,jB]) rfl (by simp[histC,jB]) ?_
  simp
  exact slE (t:=some (192,1)) (nl:=false) (k:=0) (cs:=[]) (fun r h=>h) zS zS
 | some o=>
  rw[y]at B
  simp only[Option.any_some]at B
  have O:W2 g=true:=by
   unfold opAt at y
   cases hm:W2 g
   ·rw[hm]at y;cases y
   ·rfl
  have c1:=jsu O
  simp[F112,histC,jB]
  refine jJ (cs:=[]) rfl rfl rfl ?_
  simp[objCells]
  refine jO B (by simp[histC,jB]) rfl (by simp[histC,jB]) ?_
  cases Q:o.w
  ·obtain⟨i,j,rfl,rfl,hi,hj,ho⟩:=jaq y
   have b5:(g.ts.flatMap jn)[i*3+2]? = some (slOf (g.ts[i]).nl opC (g.ts[i]).ops):=by
    rw[jR j7 g.ts hi (by decide:2<3)];rfl
   have a0:=fun ob=>ja jH ob (g.ts[i]).ops hj
   rw[ho]at a0
   simp[objCells,hi,hj,j5 j7,j5 jH,b5,a0]
   refine⟨by simp[opC],by simp[Jw,QR,Qv,jbf,rdOb,rdTk,lOf,Delta.wo,Delta.wt,opC];try decide,?_⟩
   simp[opC]
   generalize hK:jqh E Y0 _ (ja2 _ _)=K
   have N:∀ (s:St) (U:Nat) (v:V),s.tm 2=.ptr 4 0 0→s.tm 3=.ptr 6 64 0→s.tm 6=.ptr 12 U 0→s.ob 4=some ⟨0,.cells (histC g)⟩→s.ob 6=some ⟨64,.cells [.int .i64 i,.int .i64 j]⟩→s.ob 12=some ⟨U,.cells (opC o)⟩ →
    s.tm 5=v→GrowT s.tk s.nx intC 1 (J1 o) v→s.df=[]→s.ro=0→s.fb=0→K .nrm s:=by
    intro s U v F h3 h6 o4 M J Z hv hd hr hb
    rw[← hK]
    clear hK B y
    simp
    generalize (i:Int)=a at *
    refine j8 [(5,5),(7,9),(34,90)] g.ts.length (fun n s=>s.tm 7=.int .i64 n∧s.ob 4=some ⟨0,.cells (histC g)⟩∧s.ob 6=some ⟨64,.cells [.int .i64 a,.int .i64 j]⟩∧s.ob 12=some ⟨U,.cells (opC o)⟩∧GrowT s.tk s.nx intC 1 (Xo g.ts a o n) (s.tm 5)) rfl rfl ⟨zS,by simp[o4],by simp[M],by simp[J],by rw[Xo];simp[Z];exact hv.mono (fun _ _ h=>h) zO⟩ ?_
    rintro n D hn ⟨H,o4,M,J,X⟩ f
    have T:D.tm 2=.ptr 4 0 0:=by rw[f.t 2 zS];simp[F]
    have f3:D.tm 3=.ptr 6 64 0:=by rw[f.t 3 zS];simp[h3]
    have f6:D.tm 6=.ptr 12 U 0:=by rw[f.t 6 zS];simp[h6]
    have fd:D.df=[]:=by rw[f.d];simp[hd]
    have fb:D.fb=0:=by rw[f.b];simp[hb]
    have fr:D.ro=0:=by rw[f.r];simp[hr]
    clear f
    by_cases c:n<g.ts.length
    ·have Q:=jb c zO
     have L:=jfz (a:=a) (o:=o) c
     obtain⟨t,ht⟩:∃t,g.ts[n]=t:=⟨_,rfl⟩
     rw[ht]at L
     have c0:=hs.os t (ht▸List.getElem_mem c)
     have b9:=ji4 g.ts a o n
     have G:(g.ts.flatMap jn)[n*3+1]? = some (.int .i64 t.f):=by
      rw[jR j7 g.ts c (by decide:1<3),ht];rfl
     have b6:(g.ts.flatMap jn)[n*3+2]? = some (slOf t.nl opC t.ops):=by
      rw[jR j7 g.ts c (by decide:2<3),ht];rfl
     have b8:=ev84 t zO o.key
     simp[H,T,f6,o4,J,objCells,histC,opC,c,j5 j7,ja j7,ht,b6]
     refine X5 b8 (by simp[jn]) rfl (by simp[jn]) ?_
     rw[Ji (by simp[V.plain,jv])]
     have m:jrc o a n t=((!((n:Int) == a) && (t.f != 2)) && ((JL o.key t.ops t.ops.length).2 && QS o (JL o.key t.ops t.ops.length).1)):=rfl
     generalize (JL o.key t.ops t.ops.length).1=rv at *
     generalize (JL o.key t.ops t.ops.length).2=rb at *
     have q:D.ob 4=some ⟨0,.cells [slOf g.sn Jk g.ss,slOf g.kn Jk g.ks,slOf g.tn jn g.ts]⟩:=o4
     have e:D.ob 12=some ⟨U,.cells [.bool o.w,.int .i64 o.key,.int .i64 o.v.kind,.int .i64 o.v.n]⟩:=J
     have skip:jrc o a n t=false→Xo g.ts a o (n+1)=Xo g.ts a o n:=fun h=>by rw[L,h];simp
     simp[jv,objCells,fb,fr,j2,f3,M,H]
     refine⟨by simp[Jw,QR,Qv,jbf,rdOb,rdTk,lOf,Delta.wo,Delta.wt];try decide,?_⟩
     cases h1:((n:Int) != a)
     ·have x:((n:Int) == a)=true:=by simpa[bne] using h1
      have z:=skip (by rw[m,x];rfl)
      simp[q,M,e,H,Q,c]
      rw[z];exact X.mono (fun u _ h=>by simpa[JG] using h) zO
     have x:((n:Int) == a)=false:=by simpa[bne] using h1
     cases F:(t.f != 2)
     ·have z:=skip (by rw[m,x,F];rfl)
      simp[F,T,q,M,e,H,Q,objCells,c,j5 j7,G]
      rw[z];exact X.mono (fun u _ h=>by simpa[JG] using h) zO
     cases rb
     ·have z:=skip (by rw[m,x,F];rfl)
      simp[F,T,q,M,e,H,Q,objCells,c,j5 j7,G]
      rw[z];exact X.mono (fun u _ h=>by simpa[JG] using h) zO
     cases h4:(o.v.kind == 2)
     ·cases Z:(rv.kind == o.v.kind && rv.n == o.v.n)
      ·have z:=skip (by rw[m,x,F];unfold QS;rw[h4,Z];rfl)
       simp[F,h4,Z,T,f6,q,M,e,H,Q,objCells,c,j5 j7,G]
       rw[z];exact X.mono (fun u _ h=>by simpa[JG] using h) zO
      ·have S:QS o rv=true:=by unfold QS;rw[h4,Z];rfl
       have p:Xo g.ts a o (n+1)=Xo g.ts a o n++[(n:Int)]:=by rw[L,m];simp[x,F,S]
       simp[F,h4,Z,T,f6,q,e,H,objCells,c,j5 j7,G]
       refine jJ (cs:=[.int .i64 n]) (by simp[j2]) rfl rfl ?_
       simp
       refine YD (f:=intC) (hi:=D.nx) (l:=Xo g.ts a o n) (a:=(n:Int)) (v:=D.tm 5) (X.mono (fun u _ h=>by simp[ju,h]) zR) zS (by simp[slCells,intC]) jC zD rfl zO zO (fun b0 P=>?_)
       have I:(Xo g.ts a o n).length+1=(Xo g.ts a o (n+1)).length:=by rw[p];simp
       rw[← p,I]
       simp[H,Q,q,M,e]
       exact⟨c,_,rfl,by simp[ju],zO⟩
     ·have S:QS o rv=true:=by unfold QS;rw[h4];rfl
      have p:Xo g.ts a o (n+1)=Xo g.ts a o n++[(n:Int)]:=by rw[L,m];simp[x,F,S]
      simp[F,h4,T,f6,q,e,H,objCells,c,j5 j7,G]
      refine jJ (cs:=[.int .i64 n]) (by simp[j2]) rfl rfl ?_
      simp
      refine YD (f:=intC) (hi:=D.nx) (l:=Xo g.ts a o n) (a:=(n:Int)) (v:=D.tm 5) (X.mono (fun u _ h=>by simp[ju,h]) zR) zS (by simp[slCells,intC]) jC zD rfl zO zO (fun b0 P=>?_)
      have I:(Xo g.ts a o n).length+1=(Xo g.ts a o (n+1)).length:=by rw[p];simp
      rw[← p,I]
      simp[H,Q,q,M,e]
      exact⟨c,_,rfl,by simp[ju],zO⟩
    ·have:n=g.ts.length:=zO
     subst this
     obtain⟨u,hv,_,_⟩:=X
     simp[H,T,o4,objCells,histC]
     rw[← jrl O]
     exact slE (t:=some (u,1)) (nl:=false) (k:=(Xo g.ts a o g.ts.length).length) (cs:=(Xo g.ts a o g.ts.length).flatMap intC) (fun r h=>h) (by simp[fd]) (by simp[hv])
   by_cases hk:o.v.kind=1
   ·simp[hk]
    refine N _ 1280 _ zS zS zS (by simp[histC]) zS (by simp[opC,hk]) (by simp;rfl) ?_ zS zS zS
    exact⟨192,by simp[J1,hk],by simp[ju],zS⟩
   ·have b7:(o.v.kind != 1)=true:=by simp[hk]
    simp[b7]
    refine jJ (cs:=[.int .i64 (-1)]) (by simp[j2]) rfl rfl ?_
    simp
    refine YD (f:=intC) (hi:=576) (l:=[]) (a:=-1) (v:=.sl (some (192,1)) false 0 []) ⟨192,rfl,by simp[ju],zO⟩ zS (by simp[slCells,intC]) jC zD rfl zS zS (fun b0 P=>?_)
    simp
    refine N _ 1280 _ zS zS zS (by simp[histC]) zS (by simp[opC]) (by simp;rfl) ?_ zS zS zS
    exact⟨1792,by simp[J1,hk],by simp[ju],zS⟩
  ·simp
   exact slE (t:=some (192,1)) (nl:=false) (k:=0) (cs:=[]) (fun r h=>h) zS zS
theorem XZ {ub:Nat}{v:V}{nl:Bool}{n:Nat}{cs:List V}{K:Delta→Prop}(a:SlR v nl n cs) (h:∀t add,K { v:=.sl t nl n cs,add:=add }):wpD (Xa ub v) K:=by
 obtain⟨t,add,b⟩:=jla (ub:=ub) a
 rw[b,jK]
 exact h t add
theorem len0 {a:Type}(l:List a):((l.length:Int) == 0)=l.isEmpty:=by cases l <;> simp <;> omega
theorem len0b {b a:Type}(l:List b) (m:List a):((l.length:Int)+m.length == 0)=(l.isEmpty && m.isEmpty):=by cases l <;> cases m <;> simp <;> omega
def JQ (g:Hist'):Bool:=W2 g && ((XX g).isEmpty && (jbt g).isEmpty)
theorem ev52 {g:Hist'}(e:Small g):Ev E 52 [.agg (histC g)] (.bool (JQ g)):=by
 have a:=jp3 e
 refine jQ (af:=F52) rfl ?_
 unfold JQ
 cases d:W2 g
 ·simp[F52,histC,objCells]
  refine jO a (by simp[histC]) rfl (by simp[histC]) ?_
  have c:(errH g == 0)=false:=by simp[Qp d]
  simp[c]
  exact j1 zS zS rfl
 ·rw[Yo d]at a
  obtain⟨n,f,l,h⟩:=ev104 e d
  obtain⟨m,j,k,i⟩:=ev105 e d
  simp[F52,histC,objCells]
  refine jO a (by simp[histC]) rfl (by simp[histC]) ?_
  simp[objCells]
  refine jO f (by simp[histC]) rfl (by simp[histC]) ?_
  refine XZ h fun t add=>?_
  have b:=len0 (XX g)
  cases c:(XX g).isEmpty
  ·rw[c]at b
   simp[b]
   exact j1 zS zS rfl
  ·rw[c]at b
   simp[b,objCells]
   refine jO j (by simp[histC]) rfl (by simp[histC]) ?_
   refine XZ i fun t add=>?_
   simp
   exact j1 zS (by simp[len0]) rfl
theorem ev21 {g:Hist'}(b:Small g):Ev E 21 [.agg (histC g)] (.bool (JQ g)):=by
 have a:=ev58 b
 refine jQ (af:=F21) rfl ?_
 unfold JQ
 cases f:W2 g
 ·simp[F21,histC,objCells]
  refine X5 a (by simp[histC]) rfl (by simp[histC]) ?_
  have k:(errH g == 0)=false:=by simp[Qp f]
  simp[k]
  exact j1 zS zS rfl
 ·rw[Yo f]at a
  have c:=ev59 g (by have:=b.ts;omega)
  obtain⟨m,d,h,e⟩:=ev60 b
  have B:=bnd_of b
  have o:=B.i
  have n:=B.l
  have j:IntKind.i64.wrap (((XX g).length:Int)+(jbt g).length)=((XX g).length:Int)+(jbt g).length:=jm zO zO
  simp[F21,histC,objCells]
  refine X5 a (by simp[histC]) rfl (by simp[histC]) ?_
  simp[objCells]
  refine X5 c (by simp[histC]) rfl (by simp[histC]) ?_
  rw[jm0]
  simp[objCells]
  refine X5 d (by simp[histC]) rfl (by simp[histC]) ?_
  refine XZ e fun t add=>?_
  simp[j]
  exact j1 zS (by simp[len0b]) rfl
theorem ev32 {a b:Bool}(l m:List Int) (F:l.length≤1000000000) (D:m.length≤1000000000):Ev E 32 [slOf a intC l,slOf b intC m] (.bool (l == m)):=by
 refine jQ (af:=F32) rfl ?_
 have u:∀ (l:List Int) (i:Nat) (h:i<l.length),(l.flatMap intC)[i]? = some (.int .i64 l[i]):=fun l i h=>by
  have:=jR jC l h (by decide:0<1)
  rw[Nat.mul_one,Nat.add_zero]at this
  rw[this];rfl
 by_cases k:l.length=m.length
 ·simp[F32,k]
  refine j8 [(4,5),(11,40)] l.length (fun i s=>s.tm 5=.int .i64 i∧l.take i=m.take i) rfl rfl ⟨zS,zS⟩ ?_
  rintro i s B ⟨n,p⟩ f
  have o:s.tm 0=slOf a intC l:=by rw[f.t 0 zS];simp
  have r:s.tm 1=slOf b intC m:=by rw[f.t 1 zS];simp
  have v:s.df=[]:=by rw[f.d];simp
  clear f
  by_cases j:i<l.length
  ·have z:=jb j zO
   have c:i<m.length:=zO
   have q:=u l i j
   have w:=u m i c
   cases g:(l[i] != m[i])
   ·have y:l[i]=m[i]:=by simpa using g
    simp[n,o,r,j,c,j5 jC,q,w,g,z]
    rw[List.take_succ_eq_append_getElem j,List.take_succ_eq_append_getElem c,p,y]
   ·have x:l[i]≠m[i]:=by simpa using g
    simp[n,o,r,j,c,j5 jC,q,w,g]
    refine j1 (by simp[v]) ?_ rfl
    have:(l == m)=false:=by
     rw[beq_eq_false_iff_ne]
     intro e
     subst e
     exact x rfl
    simp[this]
  ·have:i=l.length:=zO
   subst this
   simp[n,o]
   refine j1 (by simp[v]) ?_ rfl
   have:l=m:=by rw[List.take_length,k,List.take_length]at p;exact p
   simp[this]
 ·have g:((l.length:Int) != m.length)=true:=by simp;omega
  simp[F32,g]
  refine j1 zS ?_ rfl
  have:(l == m)=false:=by
   rw[beq_eq_false_iff_ne]
   intro e
   subst e
   exact k rfl
  simp[this]
theorem ev62 {a:Bool}(l:List Int) (w:l.length≤1000000000) (k:Int):Ev E 62 [slOf a intC l,.int .i64 k] (.bool (l.contains k)):=by
 refine jQ (af:=F62) rfl ?_
 obtain⟨c,q⟩:∃c,l.contains k=c:=⟨_,rfl⟩
 rw[q]
 simp[F62]
 refine j8 [(4,30)] l.length (fun i s=>s.tm 5=.int .i64 i∧(l.drop i).contains k=c) rfl rfl ⟨zS,by simpa using q⟩ ?_
 rintro i s v ⟨m,h⟩ f
 have n:s.tm 0=slOf a intC l:=by rw[f.t 0 zS];simp
 have p:s.tm 1=.int .i64 k:=by rw[f.t 1 zS];simp
 have r:s.df=[]:=by rw[f.d];simp
 clear f
 by_cases b:i<l.length
 ·have u:=jb b zO
  have o:=JX l b
  rw[List.drop_eq_getElem_cons b,List.contains_cons]at h
  cases j:(l[i] == k)
  ·have g:(k == l[i])=false:=by rw[beq_eq_false_iff_ne]at j ⊢;exact fun e=>j e.symm
   rw[g,Bool.false_or]at h
   simp[m,n,p,b,j5 jC,o,j,u]
   simpa using h
  ·have g:(k == l[i])=true:=by rw[beq_iff_eq]at j ⊢;exact j.symm
   rw[g,Bool.true_or]at h
   simp[m,n,p,b,j5 jC,o,j]
   exact j1 (by simp[r]) (by rw[← h];simp) rfl
 ·have:i=l.length:=zO
  subst this
  rw[List.drop_length]at h
  simp[m,n]
  exact j1 (by simp[r]) (by rw[← h];simp) rfl
def jgk:List Int→Int→Nat→Int
 | [],_,_=>-1
 | x::r,k,n=>if k == x then n else jgk r k (n+1)
theorem jnu (k:Int):∀ (l:List Int) (n:Nat),decide (jgk l k n<0) = !l.contains k
 | [],n=>rfl
 | x::r,n=>by
  rw[jgk,List.contains_cons]
  cases h:(k == x)
  ·simpa using jnu k r (n+1)
  ·simp
theorem ev127 {a:Bool}(l:List Int) (q:l.length≤1000000000) (k:Int):Ev E 127 [slOf a intC l,.int .i64 k] (.int .i64 (jgk l k 0)):=by
 refine jQ (af:=F127) rfl ?_
 simp[F127]
 refine j8 [(4,5),(8,30)] l.length (fun i s=>s.tm 8=.int .i64 i∧jgk (l.drop i) k i=jgk l k 0) rfl rfl ⟨zS,zS⟩ ?_
 rintro i s r ⟨h,c⟩ f
 have o:s.tm 0=slOf a intC l:=by rw[f.t 0 zS];simp
 have n:s.tm 1=.int .i64 k:=by rw[f.t 1 zS];simp
 have g:s.tm 7=.int .i64 l.length:=by rw[f.t 7 zS];simp
 have m:s.df=[]:=by rw[f.d];simp
 clear f
 by_cases b:i<l.length
 ·have p:=jb b zO
  have j:=JX l b
  rw[List.drop_eq_getElem_cons b,jgk]at c
  cases e:(k == l[i])
  ·rw[e]at c
   simp[h,o,n,g,b,j5 jC,j,e,p]
   simpa using c
  ·rw[e]at c
   simp[h,o,n,g,b,j5 jC,j,e]
   exact j1 (by simp[m]) (by rw[← c];simp) rfl
 ·have:i=l.length:=zO
  subst this
  rw[List.drop_length,jgk]at c
  simp[h,g]
  exact j1 (by simp[m]) (by rw[← c];simp) rfl
theorem WL (l:List (Int × Int)) (ob:ZO) {i:Nat}(h:i<l.length):Ws ob (some 2) (.eptr (l.flatMap jB) (i*2))=some (.agg [.int .i64 (l[i]).1,.int .i64 (l[i]).2]):=ja jN ob l h
def Jl (t:Txn'):Bool:=t.f == 1
def comH (g:Hist'):List Int:=if JQ g then numsTo Jl g.ts g.ts.length else []
theorem ev71 {g:Hist'}(D:Small g):∃v,Ev E 71 [.agg (histC g)] v∧SlR v (comH g).isEmpty (comH g).length ((comH g).flatMap intC):=by
 have j:=ev52 D
 have I:=D.ts
 refine XF (af:=F71) rfl zD ?_
 unfold comH
 cases x:JQ g
 ·rw[x]at j
  simp[F71,histC,objCells]
  refine jO j (by simp[histC]) rfl (by simp[histC]) ?_
  simp
  exact slE (t:=none) (nl:=true) (k:=0) (cs:=[]) (fun r h=>h) zS zS
 rw[x]at j
 simp[F71,histC,objCells]
 refine jO j (by simp[histC]) rfl (by simp[histC]) ?_
 simp[objCells]
 refine j8 [(3,5),(12,24)] g.ts.length (fun i s=>s.tm 12=.int .i64 i∧Grow s.tk 0 s.nx intC 1 (numsTo Jl g.ts i) (s.tm 3)) rfl rfl ⟨zS,by simp[numsTo];exact Grow.nil _ _ _ _ _⟩ ?_
 rintro i s hi ⟨m,z⟩ f
 have y:s.tm 10=slOf g.tn jn g.ts:=by rw[f.t 10 zS];simp
 have o:s.tm 11=.int .i64 g.ts.length:=by rw[f.t 11 zS];simp
 have J:s.df=[]:=by rw[f.d];simp
 have F:s.fb=0:=by rw[f.b];simp
 have fr:s.ro=0:=by rw[f.r];simp
 clear f
 by_cases e:i<g.ts.length
 ·have x:=jb e zO
  have c:=JM (p:=Jl) e
  obtain⟨t,w⟩:∃t,g.ts[i]=t:=⟨_,rfl⟩
  rw[w]at c
  have H:=JJ Jl g.ts i
  cases hi:Jl t
  ·have n:(t.f == 1)=false:=hi
   rw[hi]at c
   simp only[Bool.false_eq_true,if_false,List.append_nil]at c
   simp[m,y,o,e,j5 j7,ja j7,w,jn,objCells,F,fr,j2,n,x]
   rw[c];exact z.mono (fun u _ _ h=>by simpa[JG] using h) zO
  ·have n:(t.f == 1)=true:=hi
   rw[hi]at c
   simp only[if_true]at c
   simp[m,y,o,e,j5 j7,ja j7,w,jn,objCells,F,fr,j2,n]
   refine jJ (cs:=[.int .i64 i]) (by simp[j2]) rfl rfl ?_
   simp
   refine YE (f:=intC) (lo:=0) (hi:=s.nx) (l:=numsTo Jl g.ts i) (a:=(i:Int)) (v:=s.tm 3) (z.mono (fun u _ _ h=>by simp[ju,h]) zR) zS (by simp[slCells,intC]) jC zD rfl zO zO (fun K G=>?_)
   have B:numsTo Jl g.ts (i+1)≠[]:=by rw[c];simp
   have q:(numsTo Jl g.ts i).length+1=(numsTo Jl g.ts (i+1)).length:=by rw[c];simp
   rw[← c,q]
   simp[m,x]
   exact⟨e,.inr ⟨B,_,rfl,by simp[ju],Nat.zero_le _,zO⟩⟩
 ·have:i=g.ts.length:=zO
  subst this
  obtain⟨t,w⟩:=z.form
  simp[m,o]
  exact slE (t:=t) (nl:=(numsTo Jl g.ts g.ts.length).isEmpty) (k:=(numsTo Jl g.ts g.ts.length).length) (cs:=(numsTo Jl g.ts g.ts.length).flatMap intC) (fun r h=>h) (by simp[J]) (by simp[w])
theorem ev84n (t:Txn') (L:t.ops.length≤1000000) (k:Int) {n:Nat}(M:n≤t.ops.length):Ev E 84 [.agg (jn t),.int .i64 n,.int .i64 k] (.tup [.agg (jv (JL k t.ops n).1),.bool (JL k t.ops n).2]):=by
 refine jQ (af:=F84) rfl ?_
 simp[F84,jn,objCells,j2]
 refine j8 [(9,10),(12,45)] n (fun i s=>s.tm 10=.int .i64 i∧s.ob 6=some ⟨0,.cells (jn t)⟩∧s.ob 12=some ⟨64,.cells [.int .i64 0,.int .i64 0]⟩∧s.ob 16=some ⟨256,.cells (jv (JL k t.ops i).1)⟩∧s.tm 9=.bool (JL k t.ops i).2) rfl rfl
  ⟨zS,by simp[jn],zS,by simp[JL,jv],by simp[JL]⟩ ?_
 rintro i s N ⟨j,B,h,m,D⟩ f
 have u:s.tm 1=.int .i64 n:=by rw[f.t 1 zS];simp
 have H:s.tm 2=.int .i64 k:=by rw[f.t 2 zS];simp
 have F:s.tm 3=.ptr 6 0 0:=by rw[f.t 3 zS];simp
 have G:s.tm 6=.ptr 12 64 0:=by rw[f.t 6 zS];simp
 have I:s.tm 8=.ptr 16 256 0:=by rw[f.t 8 zS];simp
 have K:s.df=[]:=by rw[f.d];simp
 have fr:s.ro=0:=by rw[f.r];simp
 clear f
 by_cases p:i<n
 ·have a:i<t.ops.length:=zO
  have y:=jb a zO
  have c:=QA (k:=k) a
  obtain⟨o,x⟩:∃o,t.ops[i]=o:=⟨_,rfl⟩
  rw[x]at c
  have z:(t.ops.flatMap opC)[i*4]? = some (.bool o.w):=by
   have:=jR jH t.ops a (by decide:0<4)
   rw[Nat.add_zero,x]at this
   rw[this];rfl
  have a1:(t.ops.flatMap opC)[i*4+1]? = some (.int .i64 o.key):=by
   rw[jR jH t.ops a (by decide:1<4),x];rfl
  have a2:∀ob,Ws ob (some 2) (.eptr (t.ops.flatMap opC) (i*4+2))=some (.agg (jv o.v)):=fun ob=>by
   have J:i*4+4≤t.ops.length*4:=zO
   rw[jbu,QB,if_pos (by rw[j4 jH];omega)]
   have:=XP jH t.ops i a
   rw[x]at this
   have e:((t.ops.flatMap opC).drop (i*4+2)).take 2=((((t.ops.flatMap opC).drop (i*4)).take 4).drop 2):=by
    rw[List.drop_take,List.drop_drop]
   rw[e,this]
   rfl
  cases b:o.w
  ·have q:wkB k o=false:=by unfold wkB;rw[b];rfl
   rw[q]at c
   simp only[Bool.false_eq_true,if_false]at c
   simp[j,u,F,B,objCells,jn,p,a,j5 jH,z,b,y,h,m,D]
   exact⟨by rw[c],by rw[c]⟩
  ·cases g:(o.key == k)
   ·have q:wkB k o=false:=by unfold wkB;rw[b,g];rfl
    rw[q]at c
    simp only[Bool.false_eq_true,if_false]at c
    simp[j,u,H,F,B,objCells,jn,p,a,j5 jH,z,a1,b,g,y,h,m,D]
    exact⟨by rw[c],by rw[c]⟩
   ·have q:wkB k o=true:=by unfold wkB;rw[b,g];rfl
    rw[q]at c
    simp only[if_true]at c
    simp[j,u,H,F,I,B,objCells,jn,p,a,j5 jH,z,a1,a2,b,g,y,h,m,jv,fr,j2]
    rw[c]
    simp
 ·have:i=n:=zO
  subst this
  simp[j,u,I,m,objCells,D,G,h,jv,fr,j2]
  exact jz (by simp[K]) (l:=[.agg (jv (JL k t.ops i).1),.bool (JL k t.ops i).2]) (by simp[jl,objCells,G,jv]) rfl rfl
theorem ev120 {g:Hist'}(o:Small g) (a b:Int):Ev E 120 [.agg (histC g),.agg (jB (a,b))] (.bool (opAt g a b).isSome):=by
 have n:=ev58 o
 have r:=o.ts
 refine jQ (af:=F120) rfl ?_
 obtain⟨R,c⟩:∃R,opAt g a b=R:=⟨_,rfl⟩
 rw[c]
 unfold opAt at c
 simp[F120,histC,objCells,jB]
 refine X5 n (by simp[histC]) rfl (by simp[histC]) ?_
 cases k:W2 g
 ·rw[Qp k]
  rw[k]at c
  subst c
  simp
  exact j1 zS zS rfl
 rw[k]at c
 rw[Yo k]
 by_cases s:a<0
 ·have d:¬ 0≤a:=zO
  rw[if_neg (by simp;omega)]at c
  subst c
  simp[d,objCells]
  exact j1 zS zS rfl
 have d:0≤a:=zO
 by_cases u:(g.ts.length:Int)≤a
 ·have f:¬ (a<(g.ts.length:Int)):=zO
  rw[if_neg (by simp;omega)]at c
  subst c
  simp[d,f,objCells]
  exact j1 zS zS rfl
 have f:a<(g.ts.length:Int):=zO
 by_cases q:b<0
 ·have l:¬ 0≤b:=zO
  rw[if_neg (by simp;omega)]at c
  subst c
  simp[d,f,l,objCells]
  exact j1 zS zS rfl
 have l:0≤b:=zO
 obtain⟨i,rfl⟩:∃i:Nat,a=i:=⟨a.toNat,zO⟩
 have h:i<g.ts.length:=zO
 rw[Int.toNat_natCast,Jv h]at c
 obtain⟨t,p⟩:∃t,g.ts[i]=t:=⟨_,rfl⟩
 rw[p]at c
 have e:(g.ts.flatMap jn)[i*3+2]? = some (slOf t.nl opC t.ops):=by
  rw[jR j7 g.ts h (by decide:2<3),p];rfl
 by_cases w:(t.ops.length:Int)≤b
 ·have m:¬ (b<(t.ops.length:Int)):=zO
  rw[if_neg (by simp;omega)]at c
  subst c
  simp[d,f,l,m,objCells,h,j5 j7,e]
  exact j1 zS zS rfl
 have m:b<(t.ops.length:Int):=zO
 obtain⟨j,rfl⟩:∃j:Nat,b=j:=⟨b.toNat,zO⟩
 have v:j<t.ops.length:=zO
 rw[if_pos (by simp;omega),Int.toNat_natCast,List.getElem?_eq_getElem v]at c
 subst c
 simp[d,f,l,m,objCells,h,j5 j7,e]
 exact j1 zS zS rfl
def jo9 (g:Hist') (a b:Int):Val' × Bool:=match opAt g a b with
 | some o=>JL o.key (g.ts.getD a.toNat ⟨0,0,true,[]⟩).ops b.toNat
 | none=>(⟨0,0⟩,false)
def jao (g:Hist') (a b:Int):Bool:=match opAt g a b with
 | some o=>!o.w && !(jo9 g a b).2
 | none=>false
theorem ev121 {g:Hist'}(m:Small g) (a b:Int):Ev E 121 [.agg (histC g),.agg (jB (a,b))] (.tup [.agg (jv (jo9 g a b).1),.bool (jo9 g a b).2]):=by
 have c:=ev120 m a b
 refine jQ (af:=F121) rfl ?_
 unfold jo9
 cases d:opAt g a b with
 | none=>
  rw[d]at c
  simp[F121,histC,jB,objCells]
  refine jO c (by simp[histC,jB]) rfl (by simp[histC,jB]) ?_
  simp[objCells,j2]
  exact jz zS (l:=[.agg (jv ⟨0,0⟩),.bool false]) (by simp[jl,objCells,jv]) rfl rfl
 | some o=>
  rw[d]at c
  obtain⟨i,j,rfl,rfl,e,p,q⟩:=jaq d
  have r:=m.os _ (List.getElem_mem e)
  have k:=ev84n g.ts[i] zO o.key (n:=j) zO
  simp only[Int.toNat_natCast]
  rw[Jv e]
  have h:(g.ts.flatMap jn)[i*3+2]? = some (slOf (g.ts[i]).nl opC (g.ts[i]).ops):=by
   rw[jR j7 g.ts e (by decide:2<3)];rfl
  have f:((g.ts[i]).ops.flatMap opC)[j*4+1]? = some (.int .i64 o.key):=by
   rw[jR jH (g.ts[i]).ops p (by decide:1<4),q];rfl
  simp[F121,histC,jB,objCells]
  refine jO c (by simp[histC,jB]) rfl (by simp[histC,jB]) ?_
  simp[objCells,e,p,j5 j7,j5 jH,ja j7,h,f]
  refine X5 k (by simp[jn]) rfl (by simp[jn]) ?_
  rw[Ji (by simp[V.plain,jv])]
  generalize (JL o.key g.ts[i].ops j).1=rv at *
  generalize (JL o.key g.ts[i].ops j).2=rb at *
  simp[jv,objCells,j2]
  exact jz zS (l:=[.agg [.int .i64 rv.kind,.int .i64 rv.n],.bool rb]) (by simp[jl,objCells]) rfl rfl
theorem ev74 {g:Hist'}(m:Small g) (a b:Int):Ev E 74 [.agg (histC g),.agg (jB (a,b))] (.bool (jao g a b)):=by
 have c:=ev120 m a b
 have h:=ev121 m a b
 refine jQ (af:=F74) rfl ?_
 unfold jao
 cases d:opAt g a b with
 | none=>
  rw[d]at c
  simp[F74,histC,jB,objCells]
  refine X5 c (by simp[histC,jB]) rfl (by simp[histC,jB]) ?_
  simp
  exact j1 zS zS rfl
 | some o=>
  rw[d]at c
  obtain⟨i,j,rfl,rfl,k,l,p⟩:=jaq d
  have e:(g.ts.flatMap jn)[i*3+2]? = some (slOf (g.ts[i]).nl opC (g.ts[i]).ops):=by
   rw[jR j7 g.ts k (by decide:2<3)];rfl
  have f:((g.ts[i]).ops.flatMap opC)[j*4]? = some (.bool o.w):=by
   have:=jR jH (g.ts[i]).ops l (by decide:0<4)
   rw[Nat.add_zero,p]at this
   rw[this];rfl
  simp[F74,histC,jB,objCells]
  refine X5 c (by simp[histC,jB]) rfl (by simp[histC,jB]) ?_
  generalize jo9 g (i:Int) (j:Int)=ow at *
  cases n:o.w
  ·simp[objCells,k,l,j5 j7,j5 jH,e,f,n]
   refine jO h (by simp[histC,jB]) rfl (by simp[histC,jB]) ?_
   rw[Ji (by simp[V.plain,jv])]
   simp[jv,objCells,j2]
   exact j1 zS zS rfl
  ·simp[objCells,k,l,j5 j7,j5 jH,e,f,n]
   exact j1 zS zS rfl
theorem ev136 {g:Hist'}(B:Small g) (a b:Int):Ev E 136 [.agg (histC g),.agg (jB (a,b))] (.bool (jao g a b)):=by
 have e:=ev176 B a
 refine jQ (af:=F136) rfl ?_
 unfold jao
 cases c:opAt g a b with
 | none=>
  simp[F136,histC,jB,objCells]
  refine jO e (by simp[histC]) rfl (by simp[histC]) ?_
  rw[YC rfl,jK]
  have p:b<0∨((Jp g a).2.length:Int)≤b:=by
   unfold opAt at c
   unfold Jp
   by_cases d:(W2 g && (decide (0≤a) && decide (a<g.ts.length)))=true
   ·rw[if_pos d]
    simp only[Bool.and_eq_true,decide_eq_true_eq]at d
    by_cases m:b<0
    ·exact .inl m
    ·by_cases F:b<((g.ts.getD a.toNat ⟨0,0,true,[]⟩).ops.length:Int)
     ·rw[if_pos (by simp only[Bool.and_eq_true,decide_eq_true_eq];exact⟨d.1,d.2.1,d.2.2,zO,F⟩)]at c
      rw[List.getElem?_eq_none_iff]at c
      exact absurd c zO
     ·exact .inr (Int.not_lt.1 F)
   ·rw[if_neg d]
    by_cases m:b<0
    ·exact .inl m
    ·exact .inr (by simp;omega)
  generalize Jp g a=oo at *
  by_cases d:b<0
  ·simp[objCells,d]
   exact j1 zS zS rfl
  ·have m:(oo.2.length:Int)≤b:=by rcases p with h|h;exact absurd h d;exact h
   simp[objCells,d,m]
   exact j1 zS zS rfl
 | some o=>
  have r:W2 g=true:=by
   unfold opAt at c
   cases J:W2 g
   ·rw[J]at c;cases c
   ·rfl
  unfold jo9
  rw[c]
  obtain⟨i,j,rfl,rfl,x,u,D⟩:=jaq c
  simp only[Int.toNat_natCast]
  rw[Jv x]
  have z:Jp g (i:Int)=((g.ts[i]).nl,(g.ts[i]).ops):=by
   unfold Jp
   rw[r,if_pos (by simp;omega)]
   simp only[Int.toNat_natCast]
   rw[Jv x]
  rw[z]at e
  have K:=B.os _ (List.getElem_mem x)
  have q:((g.ts[i]).ops.flatMap opC)[j*4]? = some (.bool o.w):=by
   have:=jR jH (g.ts[i]).ops u (by decide:0<4)
   rw[Nat.add_zero,D]at this
   rw[this];rfl
  have v:((g.ts[i]).ops.flatMap opC)[j*4+1]? = some (.int .i64 o.key):=by
   rw[jR jH (g.ts[i]).ops u (by decide:1<4),D];rfl
  have H:decide ((j:Int)<0)=false:=zS
  have L:decide (((g.ts[i]).ops.length:Int)≤j)=false:=by simp;omega
  have M:((g.ts[i]).ops.length≤j)=False:=by simp;omega
  have G:(((g.ts[i]).ops.length:Int)≤j)=False:=by simp;omega
  have f:j≤(g.ts[i]).ops.length:=zO
  have y:Qi 4 none (some (.int .i64 (j:Int))) (slOf (g.ts[i]).nl opC (g.ts[i]).ops)=some (slOf (g.ts[i]).nl opC ((g.ts[i]).ops.take j)):=by
   have d:=jq9 (kk:=.i64) (t:=none) (nl:=(g.ts[i]).nl) (sz:=4) (cs:=(g.ts[i]).ops.flatMap opC) (n:=(g.ts[i]).ops.length) (k:=j) f (j4 jH _)
   refine Eq.trans d ?_
   have m:((g.ts[i]).ops.flatMap opC).take (j*4)=((g.ts[i]).ops.take j).flatMap opC:=by
    conv=>lhs;rw[← List.take_append_drop j (g.ts[i]).ops,List.flatMap_append]
    rw[List.take_left']
    rw[j4 jH,List.length_take,Nat.min_eq_left f]
   rw[m,slOf,List.length_take,Nat.min_eq_left f]
  have s:=ev177 (g.ts[i]).nl ((g.ts[i]).ops.take j) (by rw[List.length_take];omega) o.key
  have l:(W3 ((g.ts[i]).ops.take j) o.key).2=(JL o.key (g.ts[i]).ops j).2:=by
   unfold W3
   rw[jal _ _ _ zR,jal _ _ _ f,List.take_length]
  simp[F136,histC,jB,objCells]
  refine jO e (by simp[histC]) rfl (by simp[histC]) ?_
  rw[YC rfl,jK]
  cases I:o.w
  ·simp[objCells,H,G,u,j5 jH,q,I]
   simp[y,v,u,j5 jH,objCells]
   refine X5 s zS rfl zS ?_
   rw[Ji (by simp[V.plain,jv])]
   rw[← l]
   generalize W3 ((g.ts[i]).ops.take j) o.key=lw at *
   simp[jv,objCells,j2]
   refine⟨by simp[Jw,QR,Qv,jbf,rdOb,rdTk,lOf,Delta.wo,Delta.wt];try decide,?_⟩
   exact j1 zS zS rfl
  ·simp[objCells,H,G,u,j5 jH,q,I]
   exact j1 zS zS rfl
def jr (g:Hist') (i:Nat):Nat→List (Int × Int)
 | 0=>[]
 | k+1=>jr g i k++(if jao g i k then [((i:Int),(k:Int))] else [])
def XC (g:Hist'):Nat→List (Int × Int)
 | 0=>[]
 | i+1=>XC g i++(match g.ts[i]? with|some t=>if Jl t then jr g i t.ops.length else []|none=>[])
def readH (g:Hist'):List (Int × Int):=XC g g.ts.length
theorem W0 (g:Hist') (i:Nat):∀k,(jr g i k).length≤k
 | 0=>Nat.le_refl _
 | k+1=>by
  have:=W0 g i k
  simp only[jr,List.length_append]
  split <;> simp <;> omega
theorem Q9 {g:Hist'}(a:Small g):∀i,(XC g i).length≤i*1000
 | 0=>Nat.zero_le _
 | i+1=>by
  have:=Q9 a i
  simp only[XC,List.length_append]
  rw[show(i+1)*1000=i*1000+1000 by omega]
  split
  ·rename_i t b
   have c:=W0 g i t.ops.length
   have d:=a.os t (List.mem_of_getElem? b)
   split
   ·omega
   ·simp only[List.length_nil];omega
  ·simp only[List.length_nil];omega
theorem jdy {g:Hist'}{i:Nat}(h:i<g.ts.length):XC g (i+1)=XC g i++(if Jl g.ts[i] then jr g i (g.ts[i]).ops.length else []):=by
 simp only[XC,List.getElem?_eq_getElem h]
theorem ev31 {g:Hist'}(D:Small g):∃v,Ev E 31 [.agg (histC g)] v∧SlR v false (readH g).length ((readH g).flatMap jB):=by
 have X:=D.ts
 refine XF (af:=F31) rfl zD ?_
 simp[F31,histC]
 refine jJ (cs:=[]) rfl rfl rfl ?_
 simp
 refine j8 [(3,6),(8,44)] g.ts.length (fun i s=>s.tm 4=.int .i64 i∧s.ob 2=some ⟨0,.cells (histC g)⟩∧GrowT s.tk s.nx jB 2 (XC g i) (s.tm 3)) rfl rfl ⟨zS,by simp[histC],by rw[XC];exact⟨128,zS,by simp[ju],zS⟩⟩ ?_
 rintro i s hi ⟨M,I,U⟩ f
 have G:s.tm 1=.ptr 2 0 0:=by rw[f.t 1 zS];simp
 have Q:s.df=[]:=by rw[f.d];simp
 have Z:s.fb=0:=by rw[f.b];simp
 have fr:s.ro=0:=by rw[f.r];simp
 clear f
 by_cases e:i<g.ts.length
 ·have hw:=jb e zO
  simp[M,G,I,objCells,histC,e]
  refine j8 [(3,3),(5,6),(15,44)] (g.ts[i]).ops.length (fun k m=>m.tm 5=.int .i64 k∧m.ob 2=some ⟨0,.cells (histC g)⟩∧GrowT m.tk m.nx jB 2 (XC g i++(if Jl g.ts[i] then jr g i k else [])) (m.tm 3)) rfl rfl ⟨zS,by simp[I],by simp[jr];exact U.mono (fun _ _ h=>h) zO⟩ ?_
  rintro k m hk ⟨y,o,j⟩ f
  have K:m.tm 1=.ptr 2 0 0:=by rw[f.t 1 zS];simp[G]
  have J:m.tm 4=.int .i64 i:=by rw[f.t 4 zS];simp[M]
  have ed:m.df=[]:=by rw[f.d];simp[Q]
  have P:m.fb=0:=by rw[f.b];simp[Z]
  have T:m.ro=0:=by rw[f.r];simp[fr]
  clear f
  have H:=ev74 D (i:Int) (k:Int)
  have a0:=D.os _ (List.getElem_mem e)
  have x:(g.ts.flatMap jn)[i*3+1]? = some (.int .i64 (g.ts[i]).f):=by
   rw[jR j7 g.ts e (by decide:1<3)];rfl
  have q:(g.ts.flatMap jn)[i*3+2]? = some (slOf (g.ts[i]).nl opC (g.ts[i]).ops):=by
   rw[jR j7 g.ts e (by decide:2<3)];rfl
  by_cases n:k<(g.ts[i]).ops.length
  ·have p:=jb n zO
   have B:(XC g i++(if Jl g.ts[i] then jr g i k else [])).length≤1001000:=by
    have h1:=Q9 D i
    have h2:=W0 g i k
    have:i*1000≤1000*1000:=Nat.mul_le_mul_right _ zO
    rw[List.length_append]
    split
    ·omega
    ·simp only[List.length_nil];omega
   cases F:Jl g.ts[i]
   ·have w:((g.ts[i]).f == 1)=false:=F
    rw[F]at j
    simp[y,K,J,o,objCells,histC,e,j5 j7,q,x,n,j2,P,T,w,p]
    simpa using j.mono (fun u _ h=>by simpa[JG] using h) zO
   ·have w:((g.ts[i]).f == 1)=true:=F
    rw[F]at j B
    simp only[if_true]at j B
    simp[y,K,J,o,objCells,histC,e,j5 j7,q,x,n,j2,P,T,w]
    refine jO H (by simp[histC,jB]) rfl (by simp[histC,jB]) ?_
    cases N:jao g i k
    ·simp[y,p,o,histC]
     have c:jr g i (k+1)=jr g i k:=by rw[jr,N];simp
     rw[c]
     exact⟨n,j.mono (fun u _ h=>by simpa[JG] using h) zO⟩
    ·simp[objCells]
     have c:XC g i++jr g i (k+1)=(XC g i++jr g i k)++[((i:Int),(k:Int))]:=by rw[jr,N,List.append_assoc];simp
     refine jJ (cs:=jB (i,k)) (by simp[j2,jB]) rfl rfl ?_
     simp
     refine YD (f:=jB) (hi:=m.nx) (l:=XC g i++jr g i k) (a:=((i:Int),(k:Int))) (v:=m.tm 3) (j.mono (fun u _ h=>by simp[ju,h]) zR) zS (by simp[slCells,jB]) jN zD rfl zO zO (fun b0 S=>?_)
     have z:(XC g i++jr g i k).length+1=(XC g i++jr g i (k+1)).length:=by rw[c,List.length_append (bs:=[_])];rfl
     rw[← c,z]
     obtain⟨L,O⟩:∃L,XC g i++jr g i (k+1)=L:=⟨_,rfl⟩
     rw[O]
     simp[y,p,o,histC,O]
     exact⟨n,_,rfl,by simp[ju],zO⟩
  ·have:k=(g.ts[i]).ops.length:=zO
   subst this
   simp[y,K,J,o,objCells,histC,e,j5 j7,q,hw]
   rw[jdy e]
   exact j.mono (fun _ _ h=>h) zO
 ·have:i=g.ts.length:=zO
  subst this
  obtain⟨u,hv,_,_⟩:=U
  simp[M,G,I,objCells,histC]
  exact slE (t:=some (u,2)) (nl:=false) (k:=(readH g).length) (cs:=(readH g).flatMap jB) (fun r h=>h) (by simp[Q]) (by simp[hv,readH])
def rdOf (g:Hist') (x:Int):List (Int × Int):=jr g x.toNat (g.ts.getD x.toNat ⟨0,0,true,[]⟩).ops.length
theorem jlb {g:Hist'}{i:Nat}(h:i<g.ts.length):rdOf g i=jr g i (g.ts[i]).ops.length:=by
 unfold rdOf
 rw[Int.toNat_natCast,Jv h]
theorem jd0 {g:Hist'}:∀n,n≤g.ts.length→(numsTo Jl g.ts n).flatMap (rdOf g)=XC g n
 | 0,_=>rfl
 | n+1,h=>by
  rw[JM zO,jdy zO,List.flatMap_append,jd0 n zO]
  cases Jl g.ts[n]
  ·rfl
  ·simp[jlb (show n<g.ts.length by omega)]
def jbn (g:Hist'):List (Int × Int):=if JQ g then readH g else []
theorem jo4 (g:Hist'):(comH g).flatMap (rdOf g)=jbn g:=by
 unfold comH jbn
 split
 ·exact jd0 _ zR
 ·rfl
theorem j3s {g:Hist'}:∀x∈comH g,0≤x∧x<g.ts.length:=by
 unfold comH
 split
 ·exact(Wo (p:=Jl) (ts:=g.ts) _ zR).1
 ·simp
theorem jyv (g:Hist'):(comH g).length≤g.ts.length:=by
 unfold comH
 split
 ·exact JJ _ _ _
 ·simp
theorem jdi {g:Hist'}(a:Small g):∀ (l:List Int),(∀x∈l,0≤x∧x<g.ts.length)→(l.flatMap (rdOf g)).length≤l.length*1000
 | [],_=>Nat.zero_le _
 | x::l,h=>by
  obtain⟨d,f⟩:=h x (List.mem_cons_self ..)
  obtain⟨i,rfl⟩:∃i:Nat,x=i:=⟨x.toNat,zO⟩
  have b:i<g.ts.length:=zO
  have:=jdi a l fun y c=>h y (List.mem_cons_of_mem _ c)
  have e:=W0 g i (g.ts[i]).ops.length
  have j:=a.os _ (List.getElem_mem b)
  rw[List.flatMap_cons,List.length_append,jlb b,List.length_cons,Nat.succ_mul]
  omega
theorem ev86 {g:Hist'}(N:Small g):∃v,Ev E 86 [.agg (histC g)] v∧SlR v (jbn g).isEmpty (jbn g).length ((jbn g).flatMap jB):=by
 have c0:=N.ts
 obtain⟨vc,a0,Z⟩:=ev71 N
 have b9:=jyv g
 have q:=j3s (g:=g)
 rw[← jo4]
 generalize comH g=C at *
 obtain⟨L,hL⟩:∃L,C.flatMap (rdOf g)=L:=⟨_,rfl⟩
 rw[hL]
 refine XF (af:=F86) rfl zD ?_
 simp[F86,histC,objCells]
 refine jO a0 (by simp[histC]) rfl (by simp[histC]) ?_
 refine XZ Z fun tc b5=>?_
 simp
 refine j8 [(3,7),(11,36)] C.length (fun i s=>s.tm 11=.int .i64 i∧s.ob 2=some ⟨0,.cells (histC g)⟩∧Grow s.tk 0 s.nx jB 2 ((C.take i).flatMap (rdOf g)) (s.tm 3)) rfl rfl ⟨zS,by simp[histC],by simp;exact Grow.nil _ _ _ _ _⟩ ?_
 rintro i s hi ⟨z,o2,Q⟩ f
 have f1:s.tm 1=.ptr 2 0 0:=by rw[f.t 1 zS];simp
 have f9:s.tm 9=.sl tc C.isEmpty C.length (C.flatMap intC):=by rw[f.t 9 zS];simp
 have F:s.tm 10=.int .i64 C.length:=by rw[f.t 10 zS];simp
 have fd:s.df=[]:=by rw[f.d];simp
 have fb:s.fb=0:=by rw[f.b];simp
 have fr:s.ro=0:=by rw[f.r];simp
 clear f
 by_cases m:i<C.length
 ·have hw:=jb m zO
  obtain⟨x,I⟩:∃x,C[i]=x:=⟨_,rfl⟩
  obtain⟨x1,x2⟩:=q x (I▸List.getElem_mem m)
  obtain⟨j,rfl⟩:∃j:Nat,x=j:=⟨x.toNat,zO⟩
  have O:j<g.ts.length:=zO
  have B:=JX C m
  rw[I]at B
  have U:(g.ts.flatMap jn)[j*3+2]? = some (slOf (g.ts[j]).nl opC (g.ts[j]).ops):=by
   rw[jR j7 g.ts O (by decide:2<3)];rfl
  have K:JP 1 (.sl tc C.isEmpty C.length (C.flatMap intC)) (.int .i64 (i:Int))=some (.eptr (C.flatMap intC) (i*1)):=by
   simp only[YQ,j4 jC]
   rw[if_pos (by simp;omega)]
   rfl
  rw[Nat.mul_one]at K
  simp[z,f1,f9,F,o2,objCells,histC,m,K,B,O,j5 j7,U]
  obtain⟨P,S⟩:∃P,(C.take i).flatMap (rdOf g)=P:=⟨_,rfl⟩
  have b8:P.length≤1000000:=by
   have h1:=jdi N (C.take i) (fun x I=>q x (List.mem_of_mem_take I))
   rw[S,List.length_take]at h1
   have:min i C.length*1000≤1000*1000:=Nat.mul_le_mul_right _ zO
   omega
  have y:(C.take (i+1)).flatMap (rdOf g)=P++jr g j (g.ts[j]).ops.length:=by
   rw[List.take_succ_eq_append_getElem m,List.flatMap_append,S,I]
   simp[jlb O]
  rw[S]at Q
  refine j8 [(3,3),(6,7),(22,35)] (g.ts[j]).ops.length (fun k e=>e.tm 22=.int .i64 k∧e.ob 2=some ⟨0,.cells (histC g)⟩∧Grow e.tk 0 e.nx jB 2 (P++jr g j k) (e.tm 3)) rfl rfl ⟨zS,by simp[o2],by simp[jr];exact Q.mono (fun _ _ _ h=>h) zO⟩ ?_
  rintro k e hk ⟨o,n,w⟩ f
  have e1:e.tm 1=.ptr 2 0 0:=by rw[f.t 1 zS];simp[f1]
  have e5:e.tm 5=.int .i64 j:=by rw[f.t 5 zS];simp
  have T:e.tm 11=.int .i64 i:=by rw[f.t 11 zS];simp[z]
  have H:e.tm 21=.int .i64 (g.ts[j]).ops.length:=by rw[f.t 21 zS];simp
  have ed:e.df=[]:=by rw[f.d];simp[fd]
  have eb:e.fb=0:=by rw[f.b];simp[fb]
  have er:e.ro=0:=by rw[f.r];simp[fr]
  clear f
  have X:=ev136 N (j:Int) (k:Int)
  have b6:=N.os _ (List.getElem_mem O)
  have b7:=W0 g j k
  by_cases p:k<(g.ts[j]).ops.length
  ·have G:=jb p zO
   simp[o,e1,e5,H,n,objCells,histC,p,j2,eb,er]
   refine jO X (by simp[histC,jB]) rfl (by simp[histC,jB]) ?_
   cases ho:jao g j k
   ·have c:jr g j (k+1)=jr g j k:=by rw[jr,ho];simp
    simp[o,G,n,histC]
    rw[c]
    exact⟨p,w.mono (fun u _ _ h=>by simpa[JG] using h) zO⟩
   ·have c:P++jr g j (k+1)=(P++jr g j k)++[((j:Int),(k:Int))]:=by rw[jr,ho,List.append_assoc];simp
    simp[objCells]
    refine jJ (cs:=jB (j,k)) (by simp[j2,jB]) rfl rfl ?_
    simp
    refine YE (f:=jB) (lo:=0) (hi:=e.nx) (l:=P++jr g j k) (a:=((j:Int),(k:Int))) (v:=e.tm 3) (w.mono (fun u _ _ h=>by simp[ju,h]) zR) zS (by simp[slCells,jB]) jN zD rfl (by rw[List.length_append];omega) (by rw[List.length_append];omega) (fun c1 b0=>?_)
    have J:(P++jr g j k).length+1=(P++jr g j (k+1)).length:=by rw[c,List.length_append (bs:=[_])];rfl
    have D:P++jr g j (k+1)≠[]:=by rw[c];simp
    rw[← c,J]
    obtain⟨M,hM⟩:∃M,P++jr g j (k+1)=M:=⟨_,rfl⟩
    rw[hM]at D ⊢
    simp[o,G,n,histC,hM]
    exact⟨p,.inr ⟨D,_,rfl,by simp[ju],Nat.zero_le _,zO⟩⟩
  ·have:k=(g.ts[j]).ops.length:=zO
   subst this
   simp[o,T,H,n,histC,hw]
   rw[y]
   exact⟨m,w.mono (fun _ _ _ h=>h) zO⟩
 ·have:i=C.length:=zO
  subst this
  rw[List.take_length,hL]at Q
  obtain⟨t,ht⟩:=Q.form
  simp[z,F]
  exact slE (t:=t) (nl:=L.isEmpty) (k:=L.length) (cs:=L.flatMap jB) (fun r h=>h) (by simp[fd]) (by simp[ht])
section
variable {E:Env}{st:St}{ub:Nat}{K:List FP→St→Prop}{d:Option Nat}{nm:Bool}{r:List AOpr}
theorem jpx {j:Type}{f:j→List V}{sz b hi:Nat}{l:List j}{a:j}{v:V}{s x:A}(w:GrowT st.tk hi f sz l v) (o:eval E st.tm s=v) (q:slCells st.ob sz (eval E st.tm x)=some (f a)) (i:∀a,(f a).length=sz) (m:0<sz)
 (hp:(f a).all V.pureLeaf=true) (p:(l.length+1)*b≤140737488355328) (g:l.length+1≤140737488355328)
 (h:∀del:Option Nat,(∀u,del=some u→u<hi)→Wt E r K (eval E st.tm) (.append false sz b s x) st d ub { v:=.sl (some (ub,sz)) false (l.length+1) ((l++[a]).flatMap f),del:=del,add:=[ub] }):jE E (⟨d,.append false sz b s x,none,nm⟩::r) st ub K:=by
 have k:f a≠[]:=fun e=>by have:=i a;rw[e]at this;simp at this;omega
 have c:(f a).length / sz=1:=by rw[i];exact Nat.div_self m
 rw[Jo rfl]
 obtain⟨u,rfl,t,n⟩:=w
 simp only[aop,o,q,Option.bind_some,if_neg k,Bool.false_and,Bool.false_eq_true,if_false]
 rw[if_pos ⟨by rw[j4 i],m,hp,by rw[c];exact p,by rw[c];exact g⟩,if_pos (by simp[t]),jK,c]
 have:=h (some u) (fun y e=>by cases e;exact n)
 simpa using this
end
def jeb (x:Bool × List Int):List V:=[.sl none x.1 x.2.length (x.2.flatMap intC)]
@[simp] theorem jax (x:Bool × List Int):(jeb x).length=1:=rfl
end Go.Pv.T
namespace Go.Pv.T
open Go Go.Pv
end Go.Pv.T
namespace Go.Pv.T
open Go Go.Pv
end Go.Pv.T
namespace Go.Pv.T
open Go Go.Pv
end Go.Pv.T
namespace Go.Pv.T
open Go Go.Pv
end Go.Pv.T
namespace Go.Pv.T
open Go Go.Pv
end Go.Pv.T
namespace Go.Pv.T
open Go Go.Pv
theorem jxp {E:Env}{Yf:YF}{st:St}{ub:Nat}{K:St→Nat→Prop}{d:Option Nat}{nm:Bool}{sz l u off n:Nat}{zero cs:List V}{x:A}(f:eval E st.tm x=.osl l u off n sz) (e:st.ob l=some ⟨u,.cells cs⟩) (a:st.ro≤u) (c:zero.length=sz) (g:off+n*sz≤cs.length)
 (h:WZ K st d ub { v:=jq,obs:=[(l,⟨u,.cells (j2 cs off (QX n zero))⟩)] }):j6 E Yf ⟨d,.clear sz zero x,none,nm⟩ st ub K:=by
 have b:objCells st.ob l u=some cs:=by simp[objCells,e]
 rw[jP _ rfl rfl]
 simp only[aop,f]
 rw[if_pos ⟨Nat.ble_eq▸a,trivial,c⟩,b,Option.bind_some,if_pos g,jK]
 exact h
end Go.Pv.T
namespace Go.Pv.T
open Go Go.Pv
end Go.Pv.T
namespace Go.Pv.T
open Go Go.Pv
theorem ji5 {g:Hist'}(a:Small g):(jbn g).length≤1000000:=by
 unfold jbn
 have:=Q9 a g.ts.length
 have b:=a.ts
 have:g.ts.length*1000≤1000*1000:=Nat.mul_le_mul_right _ b
 split
 ·unfold readH;omega
 ·simp
def choW (g:Hist'):List (Bool × List Int):=(jbn g).map fun p=>((ofH g p.1 p.2).isEmpty,ofH g p.1 p.2)
theorem jra (T:List Int):SlR (jhv T) T.isEmpty T.length (T.flatMap intC):=by
 unfold jhv
 cases T with
 | nil=>exact⟨none,rfl,zS⟩
 | cons a l=>exact⟨some (0,1),rfl,zS⟩
theorem ev161 {g:Hist'}(D:Small g):∃v,Ev E 161 [.agg (histC g)] v∧SlR v (choW g).isEmpty (choW g).length ((choW g).flatMap jeb):=by
 obtain⟨vr,x,w⟩:=ev86 D
 have B:=ji5 D
 obtain⟨L,H⟩:∃L,jbn g=L:=⟨_,rfl⟩
 obtain⟨C,P⟩:∃C,choW g=C:=⟨_,rfl⟩
 have n:C=L.map fun p=>((ofH g p.1 p.2).isEmpty,ofH g p.1 p.2):=by rw[← P,← H];rfl
 have y:C.length=L.length:=by rw[n];simp
 rw[P]
 rw[H]at w B
 refine XF (af:=F161) rfl zD ?_
 simp[F161,histC,objCells]
 refine jO x (by simp[histC]) rfl (by simp[histC]) ?_
 refine XZ w fun Q O=>?_
 simp
 refine j8 [(3,5),(9,20)] L.length (fun i s=>s.tm 9=.int .i64 i∧s.ob 2=some ⟨0,.cells (histC g)⟩∧Grow s.tk 0 s.nx jeb 1 (C.take i) (s.tm 3)) rfl rfl ⟨zS,by simp[histC],by simp;exact Grow.nil _ _ _ _ _⟩ ?_
 rintro i s hi ⟨F,I,z⟩ f
 have S:s.tm 1=.ptr 2 0 0:=by rw[f.t 1 zS];simp
 have X:s.tm 7=.sl Q L.isEmpty L.length (L.flatMap jB):=by rw[f.t 7 zS];simp
 have K:s.tm 8=.int .i64 L.length:=by rw[f.t 8 zS];simp
 have Z:s.df=[]:=by rw[f.d];simp
 have U:s.fb=0:=by rw[f.b];simp
 have fr:s.ro=0:=by rw[f.r];simp
 clear f
 by_cases e:i<L.length
 ·have hw:=jb e zO
  have G:JP 2 (.sl Q L.isEmpty L.length (L.flatMap jB)) (.int .i64 (i:Int))=some (.eptr (L.flatMap jB) (i*2)):=by
   simp only[YQ,j4 jN]
   rw[if_pos (by simp;omega)]
   rfl
  have hp:=fun ob=>WL L ob e
  have j:C[i]? = some ((ofH g (L[i]).1 (L[i]).2).isEmpty,ofH g (L[i]).1 (L[i]).2):=by
   rw[n,List.getElem?_map,List.getElem?_eq_getElem e];rfl
  have q:=ev217 D (L[i]).1 (L[i]).2
  generalize (L[i]).1=a at *
  generalize (L[i]).2=b at *
  obtain⟨T,hT⟩:∃T,ofH g a b=T:=⟨_,rfl⟩
  rw[hT]at q j
  simp[F,S,X,K,I,objCells,histC,e,G,hp,j2,U,fr]
  refine jO q (by simp[histC,jB]) rfl (by simp[histC,jB]) ?_
  refine XZ (jra T) fun t add=>?_
  simp
  have c:C.take (i+1)=C.take i++[(T.isEmpty,T)]:=by
   rw[List.take_add_one,j];rfl
  have b0:i<C.length:=zO
  have a0:(C.take i).length=i:=by rw[List.length_take];omega
  refine jJ (cs:=[.sl t T.isEmpty T.length (T.flatMap intC)]) (by simp[j2]) rfl (by simp[V.strip1,V.pureLeaf]) ?_
  simp[V.strip1]
  refine YE (f:=jeb) (lo:=0) (hi:=s.nx) (l:=C.take i) (a:=(T.isEmpty,T)) (v:=s.tm 3) (z.mono (fun u _ _ h=>by simp[ju,h]) zR) zS (by simp[slCells,jeb]) jax zD (by simp[jeb,V.pureLeaf]) zO zO (fun b5 J=>?_)
  have m:C.take (i+1)≠[]:=by rw[c];simp
  have o:(C.take i).length+1=(C.take (i+1)).length:=by rw[c,List.length_append];rfl
  rw[← c,o]
  obtain⟨M,N⟩:∃M,C.take (i+1)=M:=⟨_,rfl⟩
  rw[N]at m ⊢
  simp[F,hw,I,histC,N]
  exact⟨e,.inr ⟨m,_,rfl,by simp[ju],Nat.zero_le _,zO⟩⟩
 ·have:i=L.length:=zO
  subst this
  rw[← y,List.take_length]at z
  obtain⟨t,ht⟩:=z.form
  simp[F,K]
  exact slE (t:=t) (nl:=C.isEmpty) (k:=C.length) (cs:=C.flatMap jeb) (fun r h=>h) (by simp[Z]) (by simp[ht])
def choR (g:Hist'):List (Bool × List Int):=(readH g).map fun p=>(false,ofH g p.1 p.2)
theorem jak {g:Hist'}(a:Small g):(readH g).length≤1000000:=by
 have:=Q9 a g.ts.length
 have b:=a.ts
 have:g.ts.length*1000≤1000*1000:=Nat.mul_le_mul_right _ b
 unfold readH;omega
theorem ev61 {g:Hist'}(D:Small g):∃v,Ev E 61 [.agg (histC g)] v∧SlR v false (choR g).length ((choR g).flatMap jeb):=by
 obtain⟨vr,w,q⟩:=ev31 D
 have B:=jak D
 obtain⟨L,H⟩:∃L,readH g=L:=⟨_,rfl⟩
 obtain⟨C,P⟩:∃C,choR g=C:=⟨_,rfl⟩
 have m:C=L.map fun p=>(false,ofH g p.1 p.2):=by rw[← P,← H];rfl
 have x:C.length=L.length:=by rw[m];simp
 rw[P]
 rw[H]at q B
 refine XF (af:=F61) rfl zD ?_
 simp[F61,histC,objCells]
 refine jO w (by simp[histC]) rfl (by simp[histC]) ?_
 refine XZ q fun Q O=>?_
 simp
 refine jJ (cs:=[]) rfl rfl rfl ?_
 simp
 refine j8 [(4,5),(9,24)] L.length (fun i s=>s.tm 5=.int .i64 i∧s.ob 2=some ⟨0,.cells (histC g)⟩∧GrowT s.tk s.nx jeb 1 (C.take i) (s.tm 4)) rfl rfl ⟨zS,by simp[histC],⟨256,zS,by simp[ju],zS⟩⟩ ?_
 rintro i s hi ⟨y,I,z⟩ f
 have S:s.tm 1=.ptr 2 0 0:=by rw[f.t 1 zS];simp
 have K:s.tm 3=.sl Q false L.length (L.flatMap jB):=by rw[f.t 3 zS];simp
 have U:s.df=[]:=by rw[f.d];simp
 clear f
 by_cases e:i<L.length
 ·have X:=jb e zO
  have G:JP 2 (.sl Q false L.length (L.flatMap jB)) (.int .i64 (i:Int))=some (.eptr (L.flatMap jB) (i*2)):=by
   simp only[YQ,j4 jN]
   rw[if_pos (by simp;omega)]
   rfl
  have hp:=fun ob=>WL L ob e
  have j:C[i]? = some (false,ofH g (L[i]).1 (L[i]).2):=by
   rw[m,List.getElem?_map,List.getElem?_eq_getElem e];rfl
  obtain⟨vo,F,n⟩:=ev112' D (L[i]).1 (L[i]).2
  generalize (L[i]).1=a at *
  generalize (L[i]).2=b at *
  obtain⟨T,hT⟩:∃T,ofH g a b=T:=⟨_,rfl⟩
  rw[hT]at n j
  have c:C.take (i+1)=C.take i++[(false,T)]:=by
   rw[List.take_add_one,j];rfl
  have a0:i<C.length:=zO
  have Z:(C.take i).length=i:=by rw[List.length_take];omega
  simp[y,S,K,I,objCells,histC,e,G,hp]
  refine X5 F (by simp[histC,jB]) rfl (by simp[histC,jB]) ?_
  refine XZ n fun t add=>?_
  simp
  refine jpw (cs:=[.sl t false T.length (T.flatMap intC)]) (by simp[j2]) rfl (by simp[V.strip1,V.pureLeaf]) ?_
  simp[V.strip1]
  refine jpx (f:=jeb) (hi:=s.nx) (l:=C.take i) (a:=(false,T)) (v:=s.tm 4) (z.mono (fun u _ h=>by simp[ju,h]) zR) zS (by simp[slCells,jeb]) jax zD (by simp[jeb,V.pureLeaf]) zO zO (fun b0 J=>?_)
  have o:(C.take i).length+1=(C.take (i+1)).length:=by rw[c,List.length_append];rfl
  rw[← c,o]
  obtain⟨M,N⟩:∃M,C.take (i+1)=M:=⟨_,rfl⟩
  rw[N]
  simp[y,X,I,histC,N]
  exact⟨e,_,rfl,by simp[ju],zO⟩
 ·have:i=L.length:=zO
  subst this
  rw[← x,List.take_length]at z
  obtain⟨u,hv,_,_⟩:=z
  simp[y,K]
  exact slE (t:=some (u,1)) (nl:=false) (k:=C.length) (cs:=C.flatMap jeb) (fun r h=>h) (by simp[U]) (by simp[hv])
def jbe:List (Bool × List Int)→List Int→Bool
 | [],_=>true
 | _::_,[]=>false
 | c::cs,m::ms=>c.2.contains m && jbe cs ms
def jav (g:Hist') (M:List Int):Bool:=JQ g && (M.length == (choR g).length && jbe (choR g) M)
theorem jzt (C:List (Bool × List Int)) {i:Nat}(h:i<C.length):(C.flatMap jeb)[i]? = some (.sl none (C[i]).1 (C[i]).2.length ((C[i]).2.flatMap intC)):=by
 have:=jR jax C h (by decide:0<1)
 rw[Nat.mul_one,Nat.add_zero]at this
 rw[this];rfl
theorem jsk {g:Hist'}(c:W2 g=true) (a b:Int):(ofH g a b).length≤41:=by
 unfold ofH
 split
 ·split
  ·simp
  ·exact j1z (jsu c) a _
 ·simp
theorem ev22 {g:Hist'}(u:Small g) {b:Bool}(M:List Int) (_:M.length≤1000000000):Ev E 22 [.agg (histC g),slOf b intC M] (.bool (jav g M)):=by
 have h:=ev21 u
 refine jQ (af:=F22) rfl ?_
 unfold jav
 cases l:JQ g
 ·rw[l]at h
  simp[F22,histC,objCells]
  refine jO h (by simp[histC]) rfl (by simp[histC]) ?_
  simp
  exact j1 zS zS rfl
 rw[l]at h
 obtain⟨T,y,v⟩:=ev61 u
 have z:=jak u
 have L:(choR g).length≤1000000:=by unfold choR;rw[List.length_map];exact z
 have w:∀x∈choR g,x.2.length≤41:=by
  intro x B
  unfold choR at B
  obtain⟨p,_,rfl⟩:=List.mem_map.1 B
  have O:W2 g=true:=by unfold JQ at l;simp only[Bool.and_eq_true]at l;exact l.1
  exact jsk O _ _
 generalize choR g=C at *
 simp[F22,histC,objCells]
 refine jO h (by simp[histC]) rfl (by simp[histC]) ?_
 simp[objCells]
 refine jO y (by simp[histC]) rfl (by simp[histC]) ?_
 refine XZ v fun J I=>?_
 by_cases P:M.length=C.length
 ·obtain⟨R,F⟩:∃R,jbe C M=R:=⟨_,rfl⟩
  rw[F]
  simp[P]
  refine j8 [(4,4),(6,6),(17,32)] C.length (fun i s=>s.tm 6=.int .i64 i∧jbe (C.drop i) (M.drop i)=R) rfl rfl ⟨zS,by simpa using F⟩ ?_
  rintro i s S ⟨q,j⟩ f
  have N:s.tm 1=slOf b intC M:=by rw[f.t 1 zS];simp
  have H:s.tm 5=.sl J false C.length (C.flatMap jeb):=by rw[f.t 5 zS];simp
  have D:s.df=[]:=by rw[f.d];simp
  clear f
  by_cases c:i<C.length
  ·have n:=jb c zO
   have e:i<M.length:=zO
   have K:=jzt C c
   have Q:=JX M e
   have m:JP 1 (.sl J false C.length (C.flatMap jeb)) (.int .i64 (i:Int))=some (.eptr (C.flatMap jeb) (i*1)):=by
    simp only[YQ,j4 jax]
    rw[if_pos (by simp;omega)]
    rfl
   rw[Nat.mul_one]at m
   rw[List.drop_eq_getElem_cons c,List.drop_eq_getElem_cons e,jbe]at j
   have o:=ev62 (a:=(C[i]).1) (C[i]).2 (by have:=w _ (List.getElem_mem c);omega) M[i]
   simp[q,N,H,c,e,m,j5 jC,K,Q]
   refine X5 o (by simp[slOf]) rfl (by simp[slOf]) ?_
   cases G:(C[i]).2.contains M[i]
   ·rw[G,Bool.false_and]at j
    simp
    exact j1 (by simp[D]) (by simp[← j]) rfl
   ·rw[G,Bool.true_and]at j
    simp[q,n]
    exact⟨c,j⟩
  ·have:i=C.length:=zO
   subst this
   rw[List.drop_length,jbe]at j
   simp[q,H]
   exact j1 (by simp[D]) (by simp[← j]) rfl
 ·have r:((M.length:Int) != C.length)=true:=by simp;omega
  have k:(M.length == C.length)=false:=by simp;omega
  simp[r]
  exact j1 zS (by simp[k]) rfl
theorem kD_own {st:St}{ub:Nat}{K:List FP→St→Prop}{d:Option Nat}{nm:Bool}{r:List AOpr}{f:FuncId}{xs:List A}{vs a:List V}{v:V}{δ:Delta}(k:xs.map (eval E st.tm)=vs) (i:E.sh nm f=true) (g:E.tw f=true)
 (j:vs.mapM (W6 st.ob)=some a) (e:Ev E f a v) (b:QO (jG d nm st.fb ub) ub v=some δ)
 (h:jE E r (st.app d δ) (ub+64) (kFp { wo:=δ.wo,all:=true,seen:=fun l=>(st.ob l).isSome,nw:=true } K)):jE E (⟨d,.call f xs,none,nm⟩::r) st ub K:=by
 have c:jA E nm (eval E st.tm) (.call f xs)=some (f,vs):=by simp only[jA,i,k,Bool.not_true,Bool.false_and,Bool.false_eq_true,if_false]
 simp only[jE,wanted,c]
 exact .inr (.inl ⟨i,g,a,v,j,e,δ,by rw[name_eq'];exact b,h⟩)
where
 name_eq':∀ {d:Option Nat}{op:AOp}{nm:Bool}{fb ub:Nat},AOpr.name ⟨d,op,none,nm⟩ fb ub=jG d nm fb ub:=by
  intro d op nm fb ub;cases nm <;> rfl
end Go.Pv.T
namespace Go.Pv.T
open Go Go.Pv
end Go.Pv.T
namespace Go.Pv.T
open Go Go.Pv
end Go.Pv.T
namespace Go.Pv.T
open Go Go.Pv
end Go.Pv.T
namespace Go.Pv.T
open Go Go.Pv
theorem jb6 {f:FuncId}{af:AF}{args:List V}{ob:ZO}{tk:Nat→Bool}{base ub:Nat}{P:V→Prop}(g:E.fs f=some af) (b:af.body.one=true) (h:wpC E Y0 af.body (Jm args ob (fun _=>false) ub base ub) (ja2 af.res P)) (d:E.fz f=false:=by rfl):∃r,EvO E f args ob tk base ub r∧P r:=by
 obtain⟨n,x,e,r,i,c⟩:=jje b h fun _=>rfl
 refine⟨r,⟨n+1,?_⟩,c⟩
 simp only[callers,g,Option.bind_some,d,Bool.false_eq_true,if_false]
 rw[show jW E (callers E n) noY n af.body (Jm args ob (fun _=>false) ub base ub)=some [x] from e]
 exact jhj (List.cons_ne_nil _ _) (fun y a=>by rw[List.mem_singleton]at a;subst a;exact i)
def jy3 (l:List V) (v:V):Prop:=∃vs,v=.tup vs∧vs.map V.strip1=l∧∀p∈vs.flatMap V.toks,p<64
def noAgg:V→Bool
 | .agg _=>false
 | _=>true
theorem jzj {ub:Nat}{v:V}{l:List V}{K:Delta→Prop}(j:jy3 l v) (g:l.all noAgg=true) (h:∀ws add,ws.map V.strip1=l→K { v:=.tup ws,add:=add }):wpD (Xa ub v) K:=by
 obtain⟨a,rfl,b,f⟩:=j
 have e:Xa ub (.tup a)=some { v:=.tup (a.map (jbw ub)),add:=(a.flatMap V.toks).map (ub + ·) }:=by
  rw[Xa,if_pos (by simpa only[toksRes,List.all_eq_true,Nat.blt_eq] using f)]
  rfl
 rw[e,jK]
 refine h _ _ ?_
 rw[← b,List.map_map]
 refine List.map_congr_left fun w i=>?_
 have c:noAgg w.strip1=true:=List.all_eq_true.1 g _ (by rw[← b];exact List.mem_map.2 ⟨w,i,rfl⟩)
 cases w with
 | agg=>cases c
 | sl t k n cs=>cases t <;> rfl
 | _=>rfl
theorem jdk {w:V}{nl:Bool}{n:Nat}{cs:List V}(h:w.strip1=.sl none nl n cs):∃t,w=.sl t nl n cs:=by
 cases w <;> simp[V.strip1]at h
 obtain⟨rfl,rfl,rfl⟩:=h
 exact⟨_,rfl⟩
theorem jk0 {w:V}{b:Bool}(h:w.strip1=.bool b):w=.bool b:=by cases w <;> simp[V.strip1]at h;subst h;rfl
theorem jos {w:V}{k:IntKind}{b:Int}(h:w.strip1=.int k b):w=.int k b:=by cases w <;> simp[V.strip1]at h;obtain⟨rfl,rfl⟩:=h;rfl
theorem map2 {c e:Type}{f:c→e}{ws:List c}{a b:e}(h:ws.map f=[a,b]):∃x y,ws=[x,y]∧f x=a∧f y=b:=by
 match ws with
 | [x,y]=>simp only[List.map_cons,List.map_nil,List.cons.injEq,and_true]at h;exact⟨x,y,rfl,h.1,h.2⟩
 | []=>simp at h
 | [_]=>simp at h
 | _::_::_::_=>simp at h
theorem map3 {e g:Type}{f:e→g}{ws:List e}{a b c:g}(h:ws.map f=[a,b,c]):∃x y z,ws=[x,y,z]∧f x=a∧f y=b∧f z=c:=by
 match ws with
 | [x,y,z]=>simp only[List.map_cons,List.map_nil,List.cons.injEq,and_true]at h;exact⟨x,y,z,rfl,h.1,h.2.1,h.2.2⟩
 | []=>simp at h
 | [_]=>simp at h
 | [_,_]=>simp at h
 | _::_::_::_::_=>simp at h
theorem jzk {ub:Nat}{v:V}{a1 a2 b:Bool}{g e:Nat}{f i:List V}{K:Delta→Prop}(m:jy3 [.sl none a1 g f,.sl none a2 e i,.bool b] v)
 (h:∀c a add,K { v:=.tup [.sl c a1 g f,.sl a a2 e i,.bool b],add:=add }):wpD (Xa ub v) K:=by
 refine jzj m rfl fun ws add l=>?_
 obtain⟨x,y,z,rfl,j,n,k⟩:=map3 l
 obtain⟨c,rfl⟩:=jdk j
 obtain⟨a,rfl⟩:=jdk n
 obtain rfl:=jk0 k
 exact h c a add
theorem jo2 {ub:Nat}{v:V}{a1:Bool}{k:IntKind}{b:Int}{e:Nat}{c:List V}{K:Delta→Prop}(j:jy3 [.sl none a1 e c,.int k b] v)
 (h:∀a add,K { v:=.tup [.sl a a1 e c,.int k b],add:=add }):wpD (Xa ub v) K:=by
 refine jzj j rfl fun ws add i=>?_
 obtain⟨x,z,rfl,f,g⟩:=map2 i
 obtain⟨a,rfl⟩:=jdk f
 obtain rfl:=jos g
 exact h a add
def j4d (st:St) (v w:V):Prop:=∀keep i,∃a,XS st keep i v=some a∧a.strip1=w∧(a.toks=[]∨a.toks=[i])
def joe (st:St):List V→List V→Prop
 | [],[]=>True
 | v::vs,w::ws=>j4d st v w∧joe st vs ws
 | _,_=>False
theorem JI {st:St}{v:V}(h:v.pureLeaf=true):j4d st v v:=by
 intro keep i
 refine⟨v,?_,Xj h,.inl ?_⟩
 ·cases v with
  | agg=>cases h
  | fn=>cases h
  | _=>exact Xr (st:=st) (keep:=keep) (i:=i) h
 ·cases v with
  | agg=>cases h
  | _=>exact jmm h
theorem QC {st:St}{v:V}{nl:Bool}{n:Nat}{cs:List V}(c:v.leaf=true) (h:jcx st v nl n cs):j4d st v (.sl none nl n cs):=by
 intro keep i
 obtain⟨a,b,e⟩:=h keep i
 refine⟨.sl a nl n cs,?_,rfl,?_⟩
 ·rw[← b]
  cases v with
  | agg=>cases c
  | fn=>simp only[ji,JC]at b;split at b <;> cases b
  | _=>rfl
 ·rcases e with rfl|⟨z,rfl⟩
  ·exact .inl rfl
  ·exact .inr rfl
theorem W1 {st:St}{keep:Bool}:∀ {vs ls:List V}{i:Nat},joe st vs ls→∃b,JE st keep i vs=some b∧b.map V.strip1=ls∧(∀p∈b.flatMap V.toks,i≤p∧p<i+16*vs.length)∧nodup (b.flatMap V.toks)=true
 | [],[],i,_=>⟨[],rfl,rfl,zS,rfl⟩
 | v::vs,w::ws,i,h=>by
  obtain⟨a,j,m,e⟩:=h.1 keep i
  obtain⟨b,o,n,g,f⟩:=W1 (keep:=keep) (i:=i+16) h.2
  refine⟨a::b,by simp only[JE,j,Option.bind_some,o,Option.map_some],by rw[List.map_cons,m,n],fun p c=>?_,?_⟩
  ·rw[List.flatMap_cons,List.mem_append]at c
   simp only[List.length_cons]
   rcases c with c|c
   ·rcases e with e|e <;> rw[e]at c <;> simp at c
    omega
   ·have:=g p c;omega
  ·rw[List.flatMap_cons]
   rcases e with e|e <;> rw[e]
   ·exact f
   ·simp only[List.singleton_append,nodup,Bool.and_eq_true,f,and_true,Bool.not_eq_true']
    rw[Bool.eq_false_iff]
    intro k
    obtain⟨p,c,l⟩:=List.any_eq_true.1 k
    have:=Nat.eq_of_beq_eq_true l
    have:=g p c
    omega
 | [],_::_,_,h=>h.elim
 | _::_,[],_,h=>h.elim
theorem jm3 (st:St):∀a:List Nat,(a.map ARes.t).mapM (jl st)=some (a.map st.tm)
 | []=>rfl
 | n::a=>by rw[List.map_cons,List.mapM_cons,jm3 st a];rfl
theorem jzb {ns:List Nat}{st:St}{vs ls:List V}{P:V→Prop}(l:∀r,jy3 ls r→P r) (g:st.df=[]) (h:ns.map st.tm=vs) (u:2≤vs.length) (x:vs.length≤4) (f:joe st vs ls):ja2 (ns.map .t) P .ret st:=by
 obtain⟨c,s,j,q,k⟩:=W1 (keep:=nodup (vs.flatMap V.toks)) (i:=0) f
 have e:2≤c.length:=by
  have o:=congrArg List.length j
  have:∀ {vs ls:List V},joe st vs ls→vs.length=ls.length:=by
   intro vs
   induction vs with
   | nil=>intro ls h;cases ls with|nil=>rfl|cons=>exact h.elim
   | cons v vs n=>intro ls h;cases ls with|nil=>exact h.elim|cons w ws=>rw[List.length_cons,List.length_cons,n h.2]
  have:=this f
  simp only[List.length_map]at o
  omega
 refine⟨.tup c,?_,l _ ⟨c,rfl,j,fun p m=>by have:=q p m;omega⟩⟩
 simp only[ja8,YU g,YN g,if_true,jm3,h,Option.bind_some,Yg,s,k]
 match c,e with
 | a::b::r,_=>rfl
theorem ev25 (b:Bool) (l:List Int) (c:l.length≤1000000000):∃v,Ev E 25 [slOf b intC l] v∧SlR v false l.length (l.flatMap intC):=by
 refine XF (af:=F25) rfl zD ?_
 simp[F25]
 refine jJ (cs:=[]) rfl rfl rfl ?_
 simp
 refine jfg (f:=intC) (l:=l) (u:=64) zS (by simp[ju]) (by simp[jit jC]) jC zD (by simp[intC,V.pureLeaf]) zO zO (fun t a add _ _=>?_)
 simp
 exact slE (t:=t) (nl:=false) (k:=l.length) (cs:=l.flatMap intC) (fun r h=>h) zS zS
section
variable {E:Env}{Yf:YF}{st:St}{ub:Nat}{K:St→Nat→Prop}{d:Option Nat}{nm:Bool}
theorem jno {sz a n:Nat}{zero:List V}{x y:A}(b:eval E st.tm x=.int .i64 (n:Int)) (g:eval E st.tm y=.int .i64 (n:Int)) (f:n*a≤140737488355328) (i:n≤140737488355328) (c:zero.length=sz) (e:0<sz)
 (h:WZ K st d ub { v:=.osl (jG d nm st.fb ub) ub 0 n sz,obs:=[(jG d nm st.fb ub,⟨ub,.cells (QX n zero)⟩)] }):j6 E Yf ⟨d,.mkSl true sz a zero x y,none,nm⟩ st ub K:=by
 rw[jP _ rfl rfl]
 simp only[aop,b,g]
 rw[if_pos (by refine⟨zO,zO,?_,zO,c,e⟩;rw[← Int.natCast_mul];exact Int.ofNat_le.2 f),if_neg zS,Jg,jK]
 simp only[Int.toNat_natCast,Jq]
 exact h
end
def Upto (n i:Nat) (J:List Int) (cs:List V):Prop:=cs.length=n∧(∀j,j<i→cs[j]? = (J.flatMap intC)[j]?)∧cs.all V.pureLeaf=true
theorem Upto.set {n i:Nat}{J:List Int}{cs:List V}(h:Upto n i J cs) (hi:i<n) {x:Int}(g:J[i]? = some x):Upto n (i+1) J (j2 cs i [.int .i64 x]):=by
 obtain⟨f,k,l⟩:=h
 have m:j2 cs i [.int .i64 x]=cs.set i (.int .i64 x):=by
  unfold j2
  rw[List.set_eq_take_append_cons_drop,if_pos zO,List.append_assoc]
  rfl
 rw[m]
 refine⟨by rw[List.length_set];exact f,fun j o=>?_,?_⟩
 ·by_cases a:j=i
  ·subst a
   have c:=(List.getElem?_eq_some_iff.1 g)
   rw[List.getElem?_set_self zO,JX J c.1,c.2]
  ·rw[List.getElem?_set_ne (fun e=>a e.symm)]
   exact k j zO
 ·refine List.all_eq_true.2 fun y b=>?_
  rcases List.mem_or_eq_of_mem_set b with b|rfl
  ·exact List.all_eq_true.1 l y b
  ·rfl
theorem Upto.whole {n:Nat}{J:List Int}{cs:List V}(h:Upto n n J cs) (b:J.length=n):cs=J.flatMap intC:=by
 apply List.ext_getElem?
 intro j
 by_cases a:j<n
 ·exact h.2.1 j a
 ·rw[List.getElem?_eq_none (by rw[h.1];omega),List.getElem?_eq_none (by rw[j4 jC];omega)]
theorem Upto.zero (n:Nat) (J:List Int):Upto n 0 J (QX n [.int .i64 0]):=by
 refine⟨by simp[QX],fun j b=>by omega,?_⟩
 refine List.all_eq_true.2 fun y a=>?_
 simp only[QX,List.mem_map]at a
 obtain⟨i,_,rfl⟩:=a
 simp[V.pureLeaf,Nat.mod_one]
theorem jzv {st:St}{ub:Nat}{K:List FP→St→Prop}{d:Option Nat}{nm:Bool}{r:List AOpr}{f:FuncId}{xs:List A}{vs:List V}{v:V}{δ:Delta}(i:xs.map (eval E st.tm)=vs) (g:E.sh nm f=false) (hp:(vs.all fun v=>v.strip.pureTop)=false)
 (e:EvO E f vs st.ob st.tk ((st.fb+d.getD 0+1)*1024) (ub+64*(r.length+1)) v) (a:Xa ub v=some δ)
 (h:jE E r (st.app d δ) (ub+64) (kFp { wt:=δ.wt,all:=true,seen:=fun l=>(st.ob l).isSome } K)):jE E (⟨d,.call f xs,none,nm⟩::r) st ub K:=by
 have c:(xs.all fun x=>(eval E st.tm x).strip.pureTop)=false:=by
  rw[← i,List.all_map]at hp
  exact hp
 have b:jA E nm (eval E st.tm) (.call f xs)=some (f,vs):=by simp only[jA,g,i,c,Bool.not_false,Bool.and_false,Bool.false_eq_true,if_false]
 simp only[jE,wanted,b]
 exact .inl ⟨g,v,e,δ,a,h⟩
def blC (b:Bool):List V:=[.bool b]
@[simp] theorem jmd (b:Bool):(blC b).length=1:=rfl
theorem bl_at (l:List Bool) {i:Nat}(h:i<l.length):(l.flatMap blC)[i]? = some (.bool l[i]):=by
 have:=jR jmd l h (by decide:0<1)
 simpa[blC] using this
end Go.Pv.T
namespace Go.Pv.T
open Go Go.Pv Go.Sort
@[simp] theorem cellV_lf (v:Val'):(jb3 v).leaf=true:=by unfold jb3;split;rfl;split <;> rfl
def lessV (a b:Val'):Bool:=if a.kind=b.kind then (a.kind == 1 && decide (a.n<b.n)) else decide (a.kind<b.kind)
def cmpV (a b:Val'):Int:=if joo a && joo b && lessV a b then -1 else if joo b && joo a && lessV b a then 1 else 0
abbrev VV:Type:={ v:Val' // joo v=true }
instance:Inhabited VV:=⟨⟨⟨0,0⟩,rfl⟩⟩
def vvC (v:VV):List V:=jv v.1
@[simp] theorem j0r (v:VV):(vvC v).length=2:=rfl
@[simp] theorem vvC_leaf (v:VV):∀x∈vvC v,x.leaf=true:=by
 intro x a
 simp only[vvC,jv,List.mem_cons,List.not_mem_nil,or_false]at a
 rcases a with rfl|rfl <;> rfl
@[simp] theorem j42 (v:VV):(vvC v).all V.leaf=true:=rfl
@[simp] theorem j4g (v:VV):(vvC v).map V.strip1=vvC v:=rfl
@[simp] theorem vvC_pure (v:VV):(vvC v).all V.pureLeaf=true:=rfl
def ltVV (a b:VV):Bool:=decide (cmpV a.1 b.1<0)
@[simp] theorem ltVV_fold (a b:VV):decide (cmpV a.1 b.1<0)=ltVV a b:=rfl
@[simp] theorem arrV_len (d:Array VV):(arr vvC d).length=d.size*2:=juq (sz:=2) j0r d
end Go.Pv.T
namespace Go.Pv.T.Vs
open Go Go.Pv Go.Pv.T Go.Sort
end Go.Pv.T.Vs
namespace Go.Pv.T.Vs
open Go Go.Pv Go.Pv.T Go.Sort
end Go.Pv.T.Vs
namespace Go.Pv.T.Vs
open Go Go.Pv Go.Pv.T Go.Sort
end Go.Pv.T.Vs
namespace Go.Pv.T.Vs
open Go Go.Pv Go.Pv.T Go.Sort
end Go.Pv.T.Vs
namespace Go.Pv.T.Vs
open Go Go.Pv Go.Pv.T Go.Sort
end Go.Pv.T.Vs
namespace Go.Pv.T.Vs
open Go Go.Pv Go.Pv.T Go.Sort
end Go.Pv.T.Vs
namespace Go.Pv.T.Vs
open Go Go.Pv Go.Pv.T Go.Sort
end Go.Pv.T.Vs
namespace Go.Pv.T.Vs
open Go Go.Pv Go.Pv.T Go.Sort
end Go.Pv.T.Vs
namespace Go.Pv.T.Vs
open Go Go.Pv Go.Pv.T Go.Sort
end Go.Pv.T.Vs
namespace Go.Pv.T.Vs
open Go Go.Pv Go.Pv.T Go.Sort
end Go.Pv.T.Vs
namespace Go.Pv.T.Vs
open Go Go.Pv Go.Pv.T Go.Sort
end Go.Pv.T.Vs
namespace Go.Pv.T
open Go Go.Pv
@[simp] theorem Q5 (v:Val'):(jv v).length=2:=rfl
theorem jy9 (a b:Val'):(a == b)=(a.kind == b.kind && a.n == b.n):=by
 obtain⟨a1,a2⟩:=a
 obtain⟨b1,b2⟩:=b
 rw[Bool.eq_iff_iff]
 simp
theorem jw9 (ob:ZO) (l:List Val') {i:Nat}(h:i<l.length):Ws ob (some 2) (.eptr (l.flatMap jv) (i*2))=some (.agg (jv l[i])):=ja Q5 ob l h
def idxJ:List (Bool × List Int)→List Int→List Int
 | c::cs,m::ms=>jgk c.2 m 0::idxJ cs ms
 | _,_=>[]
theorem jnt:∀ (C:List (Bool × List Int)) (M:List Int),C.length=M.length→(idxJ C M).length=C.length
 | [],[],_=>rfl
 | c::cs,m::ms,h=>by simp only[idxJ,List.length_cons]at h ⊢;rw[jnt cs ms zO]
 | [],_::_,h=>by simp at h
 | _::_,[],h=>by simp at h
theorem jty:∀ (C:List (Bool × List Int)) (M:List Int) (i:Nat) (h:i<C.length) (a:i<M.length),(idxJ C M)[i]? = some (jgk (C[i]).2 M[i] 0)
 | c::cs,m::ms,0,_,_=>rfl
 | c::cs,m::ms,i+1,h,a=>by
  simp only[idxJ,List.getElem?_cons_succ,List.getElem_cons_succ]
  exact jty cs ms i (by simpa using h) (by simpa using a)
 | [],_,_,h,_=>by simp at h
 | _::_,[],_,_,h=>by simp at h
def Xz (g:Hist') (M:List Int):Option (List Int):=if JQ g && ((choW g).length == M.length && (idxJ (choW g) M).all fun x=>decide (0≤x)) then some (idxJ (choW g) M) else none
def jmi (g:Hist') (r:Option (List Int)) (v:V):Prop:=match r with
 | some J=>jy3 [.sl none (choW g).isEmpty (choW g).length ((choW g).flatMap jeb),.sl none false J.length (J.flatMap intC),.bool true] v
 | none=>jy3 [.sl none true 0 [],.sl none true 0 [],.bool false] v
theorem jyw {g:Hist'}(a:Small g):(choW g).length≤1000000:=by unfold choW;rw[List.length_map];exact ji5 a
theorem j3v {g:Hist'}(_:Small g):∀x∈choW g,x.1=x.2.isEmpty∧x.2.length≤41:=by
 intro x a
 unfold choW jbn at a
 split at a
 ·rename_i b
  obtain⟨p,_,rfl⟩:=List.mem_map.1 a
  have c:W2 g=true:=by unfold JQ at b;simp only[Bool.and_eq_true]at b;exact b.1
  exact⟨rfl,jsk c _ _⟩
 ·simp at a
theorem ev106 {g:Hist'}(hs:Small g) {b:Bool}(M:List Int) (hM:M.length≤1000000):∃v,Ev E 106 [.agg (histC g),slOf b intC M] v∧jmi g (Xz g M) v:=by
 obtain⟨vc,c0,Q⟩:=ev161 hs
 have b9:=ev52 hs
 have b5:=jyw hs
 have S:=j3v hs
 have q:∀ {o:St}{P:V→Prop},o.df=[]→o.tm 4=.sl none true 0 []→o.tm 5=.sl none true 0 []→o.tm 6=.bool false→Xz g M=none→ja2 [.t 4,.t 5,.t 6] (jmi g (Xz g M)) .ret o:=by
  intro o _ hd h4 h5 h6 hp
  rw[hp]
  exact jzb (ns:=[4,5,6]) (vs:=[.sl none true 0 [],.sl none true 0 [],.bool false]) (fun r h=>h) hd (by simp[h4,h5,h6]) zS zS ⟨JI rfl,JI rfl,JI rfl,trivial⟩
 refine XF (af:=F106) rfl zD ?_
 obtain⟨P,hP⟩:∃P,jmi g (Xz g M)=P:=⟨_,rfl⟩
 have w:=fun o h1 h2 h3 h4 h5=>hP▸@q o (fun _=>True) h1 h2 h3 h4 h5
 rw[hP]
 obtain⟨C,hC⟩:∃C,choW g=C:=⟨_,rfl⟩
 rw[hC]at Q b5 S
 simp[F106,histC,objCells]
 refine jO c0 (by simp[histC]) rfl (by simp[histC]) ?_
 refine XZ Q fun tc c1=>?_
 simp[objCells]
 refine jO b9 (by simp[histC]) rfl (by simp[histC]) ?_
 cases hw:JQ g
 ·simp
  exact w _ zS zS zS zS (by simp[Xz,hw])
 by_cases z:¬ C.length=M.length
 ·have B:((C.length:Int) != M.length)=true:=by simp;omega
  simp[B]
  exact w _ zS zS zS zS (by simp[Xz,hC,z])
 have z:C.length=M.length:=Classical.byContradiction z
 have B:((C.length:Int) != M.length)=false:=by simp;omega
 simp[B]
 refine jno (n:=M.length) zS zS zO zO rfl zD ?_
 simp
 obtain⟨J,hJ⟩:∃J,idxJ C M=J:=⟨_,rfl⟩
 have I:J.length=M.length:=by rw[← hJ,jnt C M z];exact z
 have p:=jty C M
 rw[hJ]at p
 have e:Xz g M=if J.all (fun x=>decide (0≤x)) then some J else none:=by
  unfold Xz
  rw[hC,hJ,hw,z]
  simp
 refine j8 [(4,6),(9,10),(28,47)] C.length (fun i s=>s.tm 28=.int .i64 i∧(∃cs,s.ob 2433=some ⟨1216,.cells cs⟩∧Upto M.length i J cs)∧(J.take i).all (fun x=>decide (0≤x))=true) rfl rfl ⟨zS,⟨_,zS,Upto.zero _ _⟩,zS⟩ ?_
 rintro i s hi ⟨D,⟨cs,O,G⟩,k⟩ f
 have f1:s.tm 1=slOf b intC M:=by rw[f.t 1 zS];simp
 have f7:s.tm 7=.sl tc C.isEmpty C.length (C.flatMap jeb):=by rw[f.t 7 zS];simp
 have f8:s.tm 8=.osl 2433 1216 0 M.length 1:=by rw[f.t 8 zS];simp
 have b8:s.tm 26=.sl tc C.isEmpty C.length (C.flatMap jeb):=by rw[f.t 26 zS];simp
 have T:s.tm 27=.int .i64 C.length:=by rw[f.t 27 zS];simp
 have fd:s.df=[]:=by rw[f.d];simp
 have fr:s.ro=0:=by rw[f.r];simp
 clear f
 by_cases j:i<C.length
 ·have b0:=jb j zO
  have c:i<M.length:=zO
  have h1:=jzt C j
  have h2:=JX M c
  have U:JP 1 (.sl tc C.isEmpty C.length (C.flatMap jeb)) (.int .i64 (i:Int))=some (.eptr (C.flatMap jeb) (i*1)):=by
   simp only[YQ,j4 jax]
   rw[if_pos (by simp;omega)]
   rfl
  rw[Nat.mul_one]at U
  have b7:=idxN (l:=2433) (u:=1216) (n:=M.length) (kk:=.i64) (X:=(i:Int)) rfl c
  have K:=ev127 (a:=(C[i]).1) (C[i]).2 (by have:=(S _ (List.getElem_mem j)).2;omega) M[i]
  have m:=p i j c
  generalize jgk (C[i]).2 M[i] 0=x at *
  have Z:=G.set c m
  have N:(j2 cs i [.int .i64 x])[i]? = some (.int .i64 x):=by
   rw[Z.2.1 i zO]
   have H:=List.getElem?_eq_some_iff.1 m
   rw[JX J H.1,H.2]
  have b6:=G.1
  have a0:i+1≤M.length:=c
  simp[D,f1,f8,b8,T,j,c,U,j5 jC,h1,h2]
  refine jO K (by simp[slOf]) rfl (by simp[slOf]) ?_
  simp[b7,O,objCells,fr,b6,a0,f8,N]
  by_cases hx:x<0
  ·simp[hx]
   refine w _ (by simp[fd]) zS zS zS ?_
   rw[e]
   have hm:x∈J:=List.mem_of_getElem? m
   rw[if_neg]
   rw[List.all_eq_true]
   intro h
   have:=h x hm
   simp at this
   omega
  ·simp[hx,D,b0]
   refine⟨j,Z,fun y F=>?_⟩
   rw[List.take_add_one,m,List.mem_append]at F
   rcases F with F|F
   ·simpa using List.all_eq_true.1 k y F
   ·simp at F;omega
 ·have:i=C.length:=zO
  subst this
  simp[D,T]
  rw[List.take_of_length_le zO]at k
  rw[z]at G
  have L:=G.whole I
  rw[← hP,e,if_pos k]
  subst L
  refine jzb (ns:=[4,5,6]) (vs:=[.sl tc C.isEmpty C.length (C.flatMap jeb),.osl 2433 1216 0 M.length 1,.bool true]) (fun r h=>h) (by simp[fd]) (by simp[f7,f8]) zS zS ⟨?_,?_,JI rfl,trivial⟩
  ·rw[hC];exact QC rfl (WH _ _ _ _ _)
  ·rw[I];exact QC rfl (jis (by simp[O]) G.1 (by simp[fr]) G.2.2)
theorem ev53 {g:Hist'}(d:Small g) {b:Bool}(M:List Int) (h:M.length≤1000000):Ev E 53 [.agg (histC g),slOf b intC M] (.bool (Xz g M).isSome):=by
 obtain⟨v,f,a⟩:=ev106 d (b:=b) M h
 refine jQ (af:=F53) rfl ?_
 simp[F53,histC,objCells]
 refine jO f (by simp[histC,slOf]) rfl (by simp[histC,slOf]) ?_
 cases c:Xz g M with
 | none=>
  rw[c]at a
  refine jzk a fun e i add=>?_
  simp
  exact j1 zS zS rfl
 | some J=>
  rw[c]at a
  refine jzk a fun e i add=>?_
  simp
  exact j1 zS zS rfl
theorem jkm:∀ (C D:List (Bool × List Int)) (M:List Int),C.map (·.2)=D.map (·.2)→jbe D M=((idxJ C M).all (fun x=>decide (0≤x)) && decide (C.length≤M.length))
 | [],[],M,_=>by cases M <;> simp[jbe,idxJ]
 | c::C,d::D,[],_=>by simp[jbe]
 | c::C,d::D,m::M,h=>by
  simp only[List.map_cons,List.cons.injEq]at h
  have a:=jkm C D M h.2
  have e:=jnu m c.2 0
  have b:decide (0≤jgk c.2 m 0)=c.2.contains m:=by
   have:decide (0≤jgk c.2 m 0) = !decide (jgk c.2 m 0<0):=by
    by_cases h:jgk c.2 m 0<0
    ·simp[h];
    ·simp[h];omega
   rw[this,e,Bool.not_not]
  simp only[jbe,idxJ,List.all_cons,a,b,← h.1,List.length_cons,Nat.add_le_add_iff_right]
  rw[Bool.and_assoc]
 | [],_::_,_,h=>by simp at h
 | _::_,[],_,h=>by simp at h
theorem jui {g:Hist'}(a:JQ g=true):(choW g).map (·.2)=(choR g).map (·.2):=by
 unfold choW choR jbn
 rw[if_pos a]
 simp[List.map_map,Function.comp_def]
theorem j3u {g:Hist'}(a:JQ g=true):(choW g).length=(choR g).length:=by
 have:=congrArg List.length (jui a)
 simpa using this
theorem is_eq (g:Hist') (M:List Int):(Xz g M).isSome=jav g M:=by
 unfold Xz jav
 cases d:JQ g
 ·simp
 ·rw[jkm _ _ M (jui d),j3u d]
  by_cases b:M.length=(choR g).length
  ·have a:((choR g).length == M.length)=true:=by simp[b]
   have c:(M.length == (choR g).length)=true:=by simp[b]
   rw[a,c]
   simp only[Bool.true_and,b,Nat.le_refl,decide_true,Bool.and_true]
   split
   ·rename_i h;simp[h]
   ·rename_i h;simp only[Option.isSome_none];simpa using h
  ·have a:((choR g).length == M.length)=false:=by simp;omega
   have c:(M.length == (choR g).length)=false:=by simp;omega
   rw[a,c]
   simp
@[simp] theorem eqVV_bool (ob:ZO) (neg a b:Bool):ju3 ob neg .bool (.bool a) (.bool b)=some (.bool (xor neg (a == b))):=rfl
theorem jrj {ub:Nat}{r:V}{g:Hist'}{K:Delta→Prop}(h:jqf r g)
 (d:∀a b c add,K { v:=.agg [.sl a g.sn g.ss.length (g.ss.flatMap Jk),.sl b g.kn g.ks.length (g.ks.flatMap Jk),.sl c g.tn g.ts.length (g.ts.flatMap jn)],add:=add }):wpD (Xa ub r) K:=by
 obtain⟨a,b,c,add,e⟩:=jo3 (ub:=ub) h
 rw[e,jK]
 exact d a b c add
theorem jac {c:Type}{f:c→List V}{k:Nat}(b:∀a,(f a).length=k):∀ (l:List c) (n:Nat),(l.flatMap f).take (n*k)=(l.take n).flatMap f
 | [],n=>by simp
 | a::l,0=>by simp
 | a::l,n+1=>by
  rw[List.flatMap_cons,List.take_succ_cons,List.flatMap_cons,Nat.succ_mul,Nat.add_comm,← b a,List.take_length_add_append,b a,jac b l n]
section
variable {E:Env}{st:St}{ub:Nat}{K:List FP→St→Prop}{d:Option Nat}{nm:Bool}{r:List AOpr}
theorem nbeq {a b:Nat}(h:a≠b):a.beq b=false:=by
 cases e:a.beq b
 ·rfl
 ·exact absurd (Nat.eq_of_beq_eq_true e) h
@[simp] theorem j0s (v:Val'):(jv v).map V.strip1=jv v:=rfl
end
theorem j04 {b:Type}{f:b→List V}{sz:Nat}(c:∀a,(f a).length=sz) (t:Option (Nat × Nat)) (nl:Bool) (l:List b) {k:Nat}(i:k≤l.length):Qi sz none (some (.int .i64 (k:Int))) (.sl t nl l.length (l.flatMap f))=some (.sl none nl (l.take k).length ((l.take k).flatMap f)):=by
 have g:(l.take k).length=k:=by rw[List.length_take];omega
 have e:=jac c l k
 have h:(k:Int)≤l.length:=zO
 simp[Qi,Jx,j4 c,g,e,h]
theorem jfs {L u n i:Nat}(h:i≤n):Qi 2 (some (.int .i64 (i:Int))) none (.osl L u 0 n 2)=some (.osl L u (i*2) (n - i) 2):=by
 have a:(i:Int)≤n:=zO
 simp[Qi,Jx]
 omega
theorem jvy {L u n i:Nat}(h:i≤n):Qi 2 none (some (.int .i64 (i:Int))) (.osl L u 0 n 2)=some (.osl L u 0 i 2):=by
 have a:(i:Int)≤n:=zO
 simp[Qi,Jx,a]
theorem idx2 {l u off n x:Nat}{kk:IntKind}{X:Int}(a:X=(x:Nat)) (b:x<n):JP 2 (.osl l u off n 2) (.int kk X)=some (.ptr l u (off+x*2)):=by
 subst a
 have:(x:Int)<n:=zO
 simp[JP,this]
theorem ld2 {ob:ZO}{l u:Nat}{M:List Val'}{x:Nat}(a:ob l=some ⟨u,.cells (M.flatMap jv)⟩) (b:x<M.length):Ws ob (some 2) (.ptr l u (x*2))=some (.agg (jv M[x])):=by
 have h:=jw9 ob M b
 rw[← h]
 simp only[Ws,objCells,a,if_true,Option.bind_some]
theorem st2 {M:List Val'}{x:Nat}(a:x<M.length) (v:Val'):j2 (M.flatMap jv) (x*2) (jv v)=(M.set x v).flatMap jv:=jnz Q5 v M x a
def JD (T:List Val'):Nat→List Val'
 | 0=>[]
 | j+1=>JD T j++(if 0<j∧T[j - 1]? = T[j]? then [] else T[j]?.toList)
theorem jgr (T:List Val'):∀j,j≤T.length→(JD T j).length≤j
 | 0,_=>by simp[JD]
 | j+1,h=>by
  have:=jgr T j zO
  simp only[JD,List.length_append,List.getElem?_eq_getElem (show j<T.length by omega)]
  split <;> simp <;> omega
theorem jka {T:List Val'}{j:Nat}(b:0<j) (h:j<T.length) (a:T[j]=T[j - 1]):JD T (j+1)=JD T j:=by
 simp only[JD]
 rw[if_pos ⟨b,by rw[List.getElem?_eq_getElem zO,List.getElem?_eq_getElem h,a]⟩,List.append_nil]
theorem jez {T:List Val'}{j:Nat}(h:j<T.length) (b:0<j→T[j]≠T[j - 1]):JD T (j+1)=JD T j++[T[j]]:=by
 simp only[JD]
 rw[if_neg,List.getElem?_eq_getElem h]
 ·rfl
 ·rintro⟨c,a⟩
  rw[List.getElem?_eq_getElem zO,List.getElem?_eq_getElem h]at a
  exact b c (Option.some.inj a).symm
def CompP (l u n:Nat) (C:List Val') (ob:ZO) (tk:Nat→Bool) (ub:Nat) (r:V × (ZO) × (Nat→Bool) × Nat):Prop :=
 r.1=.osl l u 0 C.length 2∧(∃cs,r.2.1 l=some ⟨u,.cells cs⟩∧cs.length=n*2∧C.length≤n∧cs.take (C.length*2)=C.flatMap jv)∧(∀key,key≠l→r.2.1 key=ob key)∧r.2.2.1=tk∧ub≤r.2.2.2
end Go.Pv.T
namespace Go.Pv.T
open Go Go.Pv
end Go.Pv.T
namespace Go.Pv.T
open Go Go.Pv
end Go.Pv.T
namespace Go.Pv.T
open Go Go.Pv
end Go.Pv.T
namespace Go.Pv.T
open Go Go.Pv
@[simp] theorem j4h (v:Val'):(jv v).all V.leaf=true:=rfl
theorem jow {st:St}{L u n sz:Nat}{cs b:List V}(g:st.ob L=some ⟨u,.cells cs⟩) (d:st.ro≤u) (p:n*sz≤cs.length) (m:cs.take (n*sz)=b) (hp:b.all V.pureLeaf=true):jcx st (.osl L u 0 n sz) false n b:=by
 have c:objCells st.ob L u=some cs:=by simp[objCells,g]
 have j:∀ (k:Nat) (l:List V),l.all V.pureLeaf=true→l.mapM (JC st (k+1))=some l:=by
  intro k l
  induction l with
  | nil=>intro _;rfl
  | cons a l o=>
   intro h
   simp only[List.all_cons,Bool.and_eq_true]at h
   rw[List.mapM_cons,o h.2]
   have:JC st (k+1) a=some a:=by
    have:=Xr (st:=st) (keep:=false) (i:=0) h.1
    cases a with
    | sl t q n cs=>cases t with
     | none=>rfl
     | some t=>cases h.1
    | osl=>cases h.1
    | _=>simp only[JC,h.1,if_true]
   rw[this]
   rfl
 have f:JC st 6 (.osl L u 0 n sz)=some (.sl none false n b):=by
  show((objCells st.ob L u).bind fun cs=>if Nat.ble st.ro u=true∧0+n*sz≤cs.length then (((cs.drop 0).take (n*sz)).mapM (JC st 5)).map fun e=>V.sl none false n e else none)=_
  rw[c,Option.bind_some,if_pos ⟨Nat.ble_eq▸d,zO⟩,List.drop_zero,m,j 4 b hp]
  rfl
 intro keep i
 refine⟨_,by simp only[ji,f,Option.bind_some,c,Option.map_some];rfl,?_⟩
 split
 ·exact .inr ⟨_,rfl⟩
 ·exact .inl rfl
end Go.Pv.T
namespace Go.Pv.T
open Go Go.Pv
end Go.Pv.T
namespace Go.Pv.T
open Go Go.Pv
end Go.Pv.T
namespace Go.Pv.T
open Go Go.Pv
end Go.Pv.T
namespace Go.Pv.T
open Go Go.Pv
end Go.Pv.T
namespace Go.Pv.T
open Go Go.Pv
end Go.Pv.T
namespace Go.Pv.T
open Go Go.Pv
section
end
theorem jsq {c:Type}(k0:Int) (b:c) (m:List (Int × c)) (k:Int) (a:c):jib ((k0,b)::m) k a=if k=k0 then (k,a)::m else (k0,b)::jib m k a:=by
 unfold jib
 rw[JS]
 by_cases h:k=k0
 ·simp[h]
 ·rw[if_neg h,if_neg h]
  cases JS m k <;> simp
theorem Wq {f:Type}(k:Int) (a:f) (c:Int):∀m:List (Int × f),(JS (jib m k a) c).map (·.2)=if c=k then some a else (JS m c).map (·.2)
 | []=>by
  by_cases h:c=k <;> simp[jib,JS,h]
 | (k0,b)::m=>by
  rw[jsq]
  have g:=Wq k a c m
  by_cases h:k=k0
  ·subst h
   rw[if_pos rfl,JS,JS]
   by_cases d:c=k <;> simp[d]
  ·rw[if_neg h,JS,JS]
   by_cases d:c=k0
   ·subst d
    simp[show ¬ c=k from fun e=>h e.symm]
   ·rw[if_neg d,if_neg d]
    simp only[Option.map_map]
    have e:((fun x:Nat × f=>x.2) ∘ fun p:Nat × f=>(p.1+1,p.2))=fun x=>x.2:=rfl
    rw[e]
    exact g
theorem jgc {a:Type}{k:a→a}{y:a}:∀ {l:List a}{i:Nat},y∈l.modify i k→y∈l∨∃x,l[i]? = some x∧y=k x
 | [],i,h=>by simp at h
 | x::l,0,h=>by
  rw[List.modify_cons]at h
  simp only[if_true,List.mem_cons]at h
  rcases h with rfl|h
  ·exact .inr ⟨x,rfl,rfl⟩
  ·exact .inl (List.mem_cons_of_mem _ h)
 | x::l,i+1,h=>by
  rw[List.modify_cons]at h
  simp only[Nat.add_one_ne_zero,if_false,Nat.add_sub_cancel,List.mem_cons]at h
  rcases h with rfl|h
  ·exact .inl (List.mem_cons_self ..)
  ·rcases jgc h with h|⟨z,b,c⟩
   ·exact .inl (List.mem_cons_of_mem _ h)
   ·exact .inr ⟨z,by simpa using b,c⟩
section
variable {g:Hist'}{cs:List Bool}{lo:List Val'}
theorem readIn_mem {i:Nat}{p:Int × Int}:∀ {n:Nat},p∈jr g i n ↔ ∃k:Nat,k<n∧p=((i:Int),(k:Int))∧jao g i k=true
 | 0=>by simp[jr]
 | n+1=>by
  simp only[jr,List.mem_append,readIn_mem (n:=n)]
  constructor
  ·rintro(⟨k,c,a⟩|h)
   ·exact⟨k,zO,a⟩
   ·split at h
    ·rename_i b
     exact⟨n,zO,by simpa using h,b⟩
    ·simp at h
  ·rintro⟨k,c,a,b⟩
   rcases Nat.lt_succ_iff_lt_or_eq.1 c with h|h
   ·exact .inl ⟨k,h,a,b⟩
   ·subst h
    right
    simp[b,a]
end
section
end
def hd1 (c:Bool × List Int):Int:=c.2.headD 0
end Go.Pv.T
namespace Go.Pv.T
open Go Go.Pv
end Go.Pv.T
namespace Go.Pv.T
open Go Go.Pv
theorem ev39 (h:Hist') (p:h.ts.length≤1000):Ev E 39 [.agg (histC h)] (.sl (some (0,1)) false (numsTo Jl h.ts h.ts.length).length ((numsTo Jl h.ts h.ts.length).flatMap intC)):=by
 refine jQ (af:=F39) rfl ?_
 simp[F39,histC]
 refine jJ (cs:=[]) rfl rfl rfl ?_
 simp
 refine Ya (n:=h.ts.length) (fun k s=>∃i u,k=h.ts.length - i∧i≤h.ts.length∧s.df=[]∧s.fb=0∧s.ro=0∧s.tm 1=.ptr 2 0 0∧s.ob 2=some ⟨0,.cells (histC h)⟩∧s.tm 4=.int .i64 i∧s.tk u=true ∧
  s.tm 3=.sl (some (u,1)) false (numsTo Jl h.ts i).length ((numsTo Jl h.ts i).flatMap intC))
  ⟨0,128,by simp[numsTo,histC]⟩ ?_
 rintro k s ⟨i,u,rfl,q,m,c,b,e,g,d,l,j⟩
 by_cases a:i<h.ts.length
 ·simp[e,g,d,objCells,histC,a,j5 j7,jR j7,jn]
  have r:=JJ Jl h.ts i
  cases o:h.ts[i].f == 1
  ·simp[d]
   refine⟨h.ts.length - (i+1),zO,i+1,⟨rfl,zO,m,c,b,e,by simpa[histC] using g,by rw[jm zO zO];simp,u,l,?_⟩⟩
   rw[j,JM a,Jl,o]
   simp
  ·simp[j,d]
   refine jJ (cs:=[.int .i64 i]) (by simp[j2]) rfl rfl ?_
   simp
   refine X4 (u:=u) (nl:=false) (n:=(numsTo Jl h.ts i).length) (cs:=(numsTo Jl h.ts i).flatMap intC) (ys:=[.int .i64 i]) zS (by simp[ju,l]) (by simp[slCells]) zS (by rw[j4 jC]) zD rfl (by simp;omega) (by simp;omega) ?_
   simp[d,m,c,b,e,g,histC]
   refine⟨h.ts.length - (i+1),zO,i+1,rfl,zO,by rw[jm zO zO];simp,Or.inl ?_⟩
   rw[JM a,Jl,o]
   simp[intC]
 ·have:i=h.ts.length:=zO
  subst this
  simp[e,g,d,objCells,histC]
  exact jex (u:=u) (by simpa using m) (by simp[j]) (by simpa using l)
def Y3 (f:Nat→Bool):Nat→List Int
 | 0=>[]
 | k+1=>Y3 f k++(if f k then [(k:Int)] else [])
theorem jeu (f:Nat→Bool):∀n,(Y3 f n).length≤n
 | 0=>Nat.le_refl _
 | n+1=>by
  have:=jeu f n
  simp only[Y3,List.length_append]
  split <;> simp <;> omega
theorem filTo_mem {f:Nat→Bool}{x:Int}:∀ {n:Nat},x∈Y3 f n ↔ ∃k:Nat,k<n∧x=k∧f k=true
 | 0=>by simp[Y3]
 | n+1=>by
  rw[Y3,List.mem_append,filTo_mem]
  constructor
  ·rintro(⟨k,d,b,a⟩|h)
   ·exact⟨k,zO,b,a⟩
   ·cases c:f n
    ·simp[c]at h
    ·simp[c]at h;exact⟨n,zO,h,c⟩
  ·rintro⟨k,d,b,a⟩
   rcases Nat.lt_or_ge k n with h|h
   ·exact .inl ⟨k,h,b,a⟩
   ·have:k=n:=zO
    subst this
    exact .inr (by simp[a,b])
theorem jev {f a:Nat→Bool}:∀ {n:Nat},(∀k,k<n→f k=a k)→Y3 f n=Y3 a n
 | 0,_=>rfl
 | n+1,h=>by rw[Y3,Y3,jev fun k b=>h k zO,h n zO]
def Xx (g:Hist') (a:Nat):Bool:=match g.ts[a]? with|some t=>Jl t|none=>false
def sesAt (g:Hist') (a:Nat):Int:=match g.ts[a]? with|some t=>t.s|none=>0
def jmq (p:Txn'→Bool) (ts:List Txn') (a:Nat):Bool:=match ts[a]? with|some t=>p t|none=>false
theorem QD (p:Txn'→Bool) (ts:List Txn'):∀n,numsTo p ts n=Y3 (jmq p ts) n
 | 0=>rfl
 | n+1=>by
  rw[numsTo,Y3,QD p ts n]
  congr 1
  unfold jmq
  cases ts[n]? <;> rfl
theorem WV {g:Hist'}{a:Nat}(h:Xx g a=true):a<g.ts.length:=by
 unfold Xx at h
 cases b:g.ts[a]? with
 | none=>rw[b]at h;cases h
 | some t=>exact(List.getElem?_eq_some_iff.1 b).1
def comL (g:Hist'):List Int:=numsTo Jl g.ts g.ts.length
theorem comL_mem {g:Hist'}{x:Int}:x∈comL g ↔ ∃k:Nat,x=k∧Xx g k=true:=by
 rw[comL,QD,filTo_mem]
 exact⟨fun⟨k,_,b,a⟩=>⟨k,b,a⟩,fun⟨k,b,a⟩=>⟨k,WV a,b,a⟩⟩
theorem juf {g:Hist'}(h:JQ g=true):comH g=comL g:=by rw[comH,if_pos h];rfl
def j29 (R:List (Int × Int)) (M:List Int) (a b:Nat):Bool:=(R.zip M).any fun x=>x.2 == (a:Int) && x.1.1 == (b:Int)
def jct (g:Hist') (M:List Int) (a b:Nat):Bool:=Xx g a && Xx g b && ((decide (a<b) && sesAt g a == sesAt g b) || j29 (readH g) M a b)
def war (r:Nat→Nat→Bool):Nat→Nat→Nat→Bool
 | 0,b,a=>r a b
 | k+1,b,a=>war r k b a || (war r k b k && war r k k a)
theorem Qz {r:Nat→Nat→Bool}:∀ {K k:Nat},k<K→∀ {b a:Nat},war r K b k=true→war r K k a=true→war r K b a=true
 | K+1,k,hk,b,a,c,d=>by
  simp only[war,Bool.or_eq_true,Bool.and_eq_true]at c d ⊢
  rcases Nat.lt_or_ge k K with hlt|hge
  ·rcases c with c|⟨c,f⟩ <;> rcases d with d|⟨d,e⟩
   ·exact .inl (Qz hlt c d)
   ·exact .inr ⟨Qz hlt c d,e⟩
   ·exact .inr ⟨c,Qz hlt f d⟩
   ·exact .inr ⟨c,e⟩
  ·have:k=K:=zO
   subst this
   rcases c with c|⟨c,f⟩ <;> rcases d with d|⟨d,e⟩
   ·exact .inr ⟨c,d⟩
   ·exact .inr ⟨c,e⟩
   ·exact .inr ⟨c,d⟩
   ·exact .inr ⟨c,e⟩
theorem jky {r:Nat→Nat→Bool}{b a:Nat}(h:r a b=true):∀K,war r K b a=true
 | 0=>h
 | K+1=>by simp[war,jky h K]
theorem jml {r:Nat→Nat→Bool}{p:Nat→Prop}{q:Nat→Prop}(d:∀a b,q b→r a b=true→p a) (c:∀b,p b→q b):∀ (K:Nat) {b a:Nat},q b→war r K b a=true→p a
 | 0,b,a,hb,h=>d a b hb h
 | K+1,b,a,hb,h=>by
  simp only[war,Bool.or_eq_true,Bool.and_eq_true]at h
  rcases h with h|⟨h,e⟩
  ·exact jml d c K hb h
  ·exact jml d c K (c _ (jml d c K hb h)) e
def farB (g:Hist') (M:List Int) (t a:Nat):Bool:=war (jct g M) g.ts.length t a
theorem jin {g:Hist'}{M:List Int}{a b:Nat}(h:jct g M a b=true):Xx g a=true∧Xx g b=true:=by
 simp only[jct,Bool.and_eq_true]at h
 exact h.1
def atO (O:List Int) (t:Int):Int:=jgk O t 0
def jff (g:Hist') (p:Int × Int):Int:=match opAt g p.1 p.2 with|some o=>o.key|none=>0
def Yq (g:Hist') (t key:Int):Bool:=(W3 (Jp g t).2 key).2
def rcB (R:List (Int × Int)) (M:List Int) (p:Int × Int) (t:Int):Bool:=(R.zip M).any fun x=>x.1.1 == p.1 && (decide (x.1.2<p.2) && x.2 == t)
def jbk (g:Hist') (lvl:Int) (M O:List Int) (p:Int × Int) (t:Nat):Bool :=
 if lvl=1 then rcB (readH g) M p t else if lvl=2 then farB g M p.1.toNat t else if lvl=3 then Xx g t && decide (atO O t<atO O p.1) else false
def jbl (g:Hist') (lvl:Int) (M O:List Int) (p:Int × Int):List Int:=Y3 (jbk g lvl M O p) g.ts.length
theorem com_f {g:Hist'}(c:JQ g=true) {a:Nat}{t:Txn'}(b:g.ts[a]? = some t) (j:t.f≠2):Xx g a=true:=by
 unfold JQ at c
 simp only[Bool.and_eq_true,List.isEmpty_iff]at c
 obtain⟨d,h,_⟩:=c
 have i:t.f≠3:=fun e=>by
  have:((a:Nat):Int)∈XX g:=by
   rw[XX,QD,filTo_mem]
   exact⟨a,(List.getElem?_eq_some_iff.1 b).1,rfl,by simp[jmq,b,X7,e]⟩
  rw[h]at this
  cases this
 unfold W2 at d
 simp only[Bool.and_eq_true,List.all_eq_true]at d
 have:=d.2.1 t (List.mem_of_getElem? b)
 simp only[jcz,Bool.and_eq_true,decide_eq_true_eq]at this
 simp only[Xx,b,Jl,beq_iff_eq]
 omega
theorem of_com {g:Hist'}(f:JQ g=true) {a b x:Int}(h:x∈ofH g a b):x = -1∨x∈comL g:=by
 unfold ofH at h
 split at h
 ·split at h
  ·cases h
  ·rw[ofL,List.mem_append]at h
   rcases h with h|h
   ·unfold J1 at h
    split at h
    ·cases h
    ·exact .inl (by simpa using h)
   ·have d:=(List.mem_filter.1 h).1
    rw[writersH,QD,filTo_mem]at d
    obtain⟨k,d,i,c⟩:=d
    refine .inr (comL_mem.2 ⟨k,i,?_⟩)
    unfold jmq at c
    cases e:g.ts[k]? with
    | none=>rw[e]at c;cases c
    | some t=>
     rw[e]at c
     simp only[wrB,Bool.and_eq_true,bne_iff_ne,ne_eq]at c
     exact com_f f e c.1
 ·cases h
theorem jkn:∀ {C:List (Bool × List Int)}{M:List Int}{i:Nat}{c:Bool × List Int},jbe C M=true→C[i]? = some c→∃m,M[i]? = some m∧m∈c.2
 | [],_,_,_,_,hc=>by simp at hc
 | _::_,[],_,_,h,_=>by simp[jbe]at h
 | d::C,m::M,0,c,h,hc=>by
  simp only[jbe,Bool.and_eq_true]at h
  simp at hc
  subst hc
  exact⟨m,rfl,by simpa using h.1⟩
 | d::C,m::M,i+1,c,h,hc=>by
  simp only[jbe,Bool.and_eq_true]at h
  simpa using jkn h.2 (by simpa using hc)
section
variable {g:Hist'}{M O:List Int}
theorem jw7 (h:jav g M=true) {i:Nat}{p:Int × Int}(hp:(readH g)[i]? = some p):∃m,M[i]? = some m∧m∈ofH g p.1 p.2:=by
 unfold jav at h
 simp only[Bool.and_eq_true]at h
 exact jkn (c:=(false,ofH g p.1 p.2)) h.2.2 (by simp[choR,hp])
theorem Yp (h:jav g M=true):M.length=(readH g).length:=by
 unfold jav at h
 simp only[Bool.and_eq_true,beq_iff_eq]at h
 simpa[choR] using h.2.1
theorem jea (h:jav g M=true):JQ g=true:=by
 unfold jav at h
 simp only[Bool.and_eq_true]at h
 exact h.1
theorem j12 (h:jav g M=true) {m:Int}(f:m∈M):m = -1∨m∈comL g:=by
 obtain⟨i,c,e⟩:=List.getElem_of_mem f
 have a:i<(readH g).length:=by rw[← Yp h];exact c
 obtain⟨j,b,d⟩:=jw7 h (List.getElem?_eq_getElem a)
 rw[List.getElem?_eq_getElem c]at b
 cases b
 rw[← e]
 exact of_com (jea h) d
theorem jdz {p:Int × Int}:∀ {n:Nat},p∈XC g n→∃ (i k:Nat) (t:Txn'),p=((i:Int),(k:Int))∧g.ts[i]? = some t∧Jl t=true∧k<t.ops.length∧jao g i k=true
 | 0,h=>by simp[XC]at h
 | n+1,h=>by
  rw[XC,List.mem_append]at h
  rcases h with h|h
  ·exact jdz h
  ·cases a:g.ts[n]? with
   | none=>rw[a]at h;cases h
   | some t=>
    rw[a]at h
    simp only at h
    split at h
    ·rename_i e
     obtain⟨k,b,d,c⟩:=readIn_mem.1 h
     exact⟨n,k,t,d,a,e,b,c⟩
    ·cases h
theorem jv9 {p:Int × Int}(h:p∈readH g):p.1∈comL g:=by
 obtain⟨i,k,t,rfl,b,a,_⟩:=jdz h
 exact comL_mem.2 ⟨i,rfl,by simp[Xx,b,a]⟩
/-! Orders -/
theorem j3r (g:Hist'):(comL g).Pairwise (· < ·):=(Wo (p:=Jl) (ts:=g.ts) g.ts.length zR).2
/-! Where each stands -/
/-! Sessions -/
/-! What reads see -/
/-! Levels -/
end
section
end
section
end
end Go.Pv.T
namespace Go.Pv.T
open Go Go.Pv
end Go.Pv.T
namespace Go.Pv.T
open Go Go.Pv
theorem ev63 {a:Bool}(l:List Int) (r:l.length≤1000000000) (k:Int):Ev E 63 [slOf a intC l,.int .i64 k] (.int .i64 (atO l k)):=by
 refine jQ (af:=F63) rfl ?_
 unfold atO
 simp[F63]
 refine j8 [(4,18)] l.length (fun i s=>s.tm 5=.int .i64 i∧jgk (l.drop i) k i=jgk l k 0) rfl rfl ⟨zS,zS⟩ ?_
 rintro i s u ⟨j,c⟩ f
 have m:s.tm 0=slOf a intC l:=by rw[f.t 0 zS];simp
 have o:s.tm 1=.int .i64 k:=by rw[f.t 1 zS];simp
 have p:s.df=[]:=by rw[f.d];simp
 clear f
 by_cases b:i<l.length
 ·have q:=jb b zO
  have n:=JX l b
  rw[List.drop_eq_getElem_cons b,jgk]at c
  cases h:(l[i] == k)
  ·have g:(k == l[i])=false:=by rw[beq_eq_false_iff_ne]at h ⊢;exact fun e=>h e.symm
   rw[g]at c
   simp only[Bool.false_eq_true,if_false]at c
   simp[j,m,o,b,j5 jC,n,h,q]
   exact c
  ·have g:(k == l[i])=true:=by rw[beq_iff_eq]at h ⊢;exact h.symm
   rw[g]at c
   simp only[if_true]at c
   simp[j,m,o,b,j5 jC,n,h]
   exact j1 (by simp[p]) (by rw[← c];simp) rfl
 ·have:i=l.length:=zO
  subst this
  rw[List.drop_length,jgk]at c
  simp[j,m]
  exact j1 (by simp[p]) (by rw[← c];simp) rfl
theorem ev64 {g:Hist'}(h:Small g) (i key:Int):Ev E 64 [.agg (histC g),.int .i64 i,.int .i64 key] (.tup [.agg (jv (W3 (Jp g i).2 key).1),.bool (W3 (Jp g i).2 key).2]):=by
 have a:=ev58 h
 refine jQ (af:=F64) rfl ?_
 cases d:W2 g
 ·rw[Qp d]at a
  have b:Jp g i=(true,[]):=by unfold Jp;rw[d];rfl
  rw[b]
  simp[F64,histC,objCells]
  refine jO a (by simp[histC]) rfl (by simp[histC]) ?_
  simp[objCells,j2]
  exact jz zS (l:=[.agg (jv ⟨0,0⟩),.bool false]) (by simp[jl,objCells,jv]) rfl rfl
 ·rw[Yo d]at a
  by_cases m:0≤i
  ·by_cases j:i<g.ts.length
   ·obtain⟨n,rfl⟩:∃n:Nat,i=n:=⟨i.toNat,zO⟩
    have c:n<g.ts.length:=zO
    have b:(Jp g (n:Int)).2=(g.ts[n]).ops:=by unfold Jp;simp[d,c,List.getD_eq_getElem?_getD]
    rw[b,W3]
    have k:=h.os _ (List.getElem_mem c)
    have f:=ev84 g.ts[n] zO key
    have e:(g.ts.flatMap jn)[n*3+2]? = some (slOf (g.ts[n]).nl opC (g.ts[n]).ops):=by rw[jR j7 g.ts c (by decide:2<3)];rfl
    simp[F64,histC,objCells]
    refine jO a (by simp[histC]) rfl (by simp[histC]) ?_
    simp[objCells,c,Nat.not_le.2 c,show ¬ ((n:Int)<0) by omega,j5 j7,ja j7,e]
    refine X5 f (by simp[jn]) rfl (by simp[jn]) ?_
    rw[Ji (by simp[V.plain,jv])]
    generalize (JL key g.ts[n].ops g.ts[n].ops.length).1=rv at *
    generalize (JL key g.ts[n].ops g.ts[n].ops.length).2=rb at *
    simp[jv,objCells,j2]
    exact jz zS (l:=[.agg [.int .i64 rv.kind,.int .i64 rv.n],.bool rb]) (by simp[jl,objCells]) rfl rfl
   ·have b:Jp g i=(true,[]):=by unfold Jp;simp[j]
    rw[b]
    simp[F64,histC,objCells]
    refine jO a (by simp[histC]) rfl (by simp[histC]) ?_
    simp[objCells,j2,show ¬ i<0 by omega,show(g.ts.length:Int)≤i by omega]
    exact jz zS (l:=[.agg (jv ⟨0,0⟩),.bool false]) (by simp[jl,objCells,jv]) rfl rfl
  ·have b:Jp g i=(true,[]):=by unfold Jp;simp[m]
   rw[b]
   simp[F64,histC,objCells]
   refine jO a (by simp[histC]) rfl (by simp[histC]) ?_
   simp[objCells,j2,show i<0 by omega]
   exact jz zS (l:=[.agg (jv ⟨0,0⟩),.bool false]) (by simp[jl,objCells,jv]) rfl rfl
theorem jh0 {g:Hist'}{a:Nat}(h:a<g.ts.length):Xx g a=((g.ts[a]).f == 1):=by simp[Xx,Jl,h]
theorem jmy {g:Hist'}{a:Nat}(h:a<g.ts.length):sesAt g a=(g.ts[a]).s:=by simp[sesAt,h]
theorem jrv (l:List (Int × Int)) {i:Nat}(h:i<l.length):(l.flatMap jB)[i*2]? = some (.int .i64 (l[i]).1)∧(l.flatMap jB)[i*2+1]? = some (.int .i64 (l[i]).2):=by
 have a:=jR jN l h (by decide:0<2)
 have b:=jR jN l h (by decide:1<2)
 rw[Nat.add_zero]at a
 exact⟨a.trans rfl,b.trans rfl⟩
theorem ev122 {g:Hist'}(O:Small g) {nl:Bool}{M:List Int}(hM:M.length=(readH g).length) {a b:Nat}(n:a<g.ts.length) (r:b<g.ts.length) :
 Ev E 122 [.agg (histC g),slOf false jB (readH g),slOf nl intC M,.int .i64 (a:Int),.int .i64 (b:Int)] (.bool (jct g M a b)):=by
 have U:=jak O
 have Q:=O.ts
 refine jQ (af:=F122) rfl ?_
 unfold jct
 rw[jh0 n,jh0 r,jmy n,jmy r]
 generalize readH g=R at *
 have F:(g.ts.flatMap jn)[a*3+1]? = some (.int .i64 (g.ts[a]).f):=by rw[jR j7 g.ts n (by decide:1<3)];rfl
 have J:(g.ts.flatMap jn)[b*3+1]? = some (.int .i64 (g.ts[b]).f):=by rw[jR j7 g.ts r (by decide:1<3)];rfl
 have S:(g.ts.flatMap jn)[a*3]? = some (.int .i64 (g.ts[a]).s):=by have:=jR j7 g.ts n (by decide:0<3);rw[Nat.add_zero]at this;rw[this];rfl
 have X:(g.ts.flatMap jn)[b*3]? = some (.int .i64 (g.ts[b]).s):=by have:=jR j7 g.ts r (by decide:0<3);rw[Nat.add_zero]at this;rw[this];rfl
 have z:∀ {x:Int}{c:Bool},(x == 1)=c→(x != 1) = !c:=fun h=>by rw[← h];rfl
 cases q:((g.ts[a]).f == 1)
 ·simp[F122,histC,objCells,n,j5 j7,F,z q]
  exact j1 zS zS rfl
 cases w:((g.ts[b]).f == 1)
 ·simp[F122,histC,objCells,n,r,j5 j7,F,J,z q,z w]
  exact j1 zS zS rfl
 obtain⟨c,I⟩:∃c,j29 R M a b=c:=⟨_,rfl⟩
 rw[I]
 unfold j29 at I
 simp[F122,histC,objCells,n,r,j5 j7,F,J,z q,z w]
 generalize y:jqh E Y0 _ _=KK
 have p:∀o:St,o.tm 1=slOf false jB R→o.tm 2=slOf nl intC M→o.tm 3=.int .i64 (a:Int)→o.tm 4=.int .i64 (b:Int)→o.df=[]→o.tm 45=.bool (decide (a<b) && (g.ts[a]).s == (g.ts[b]).s)→KK .nrm o:=by
  intro o t1 T t3 Z K v
  rw[← y]
  clear y
  generalize (decide (a<b) && (g.ts[a]).s == (g.ts[b]).s)=c0 at *
  cases c0
  ·simp only[Bool.false_or]
   simp[v]
   refine j8 [(10,11),(46,66)] R.length (fun i s=>s.tm 11=.int .i64 i∧((R.drop i).zip (M.drop i)).any (fun x=>x.2 == (a:Int) && x.1.1 == (b:Int))=c) rfl rfl ⟨zS,by simpa using I⟩ ?_
   rintro i s hi ⟨k,l⟩ f
   have B:s.tm 1=slOf false jB R:=by rw[f.t 1 zS];simp[t1]
   have G:s.tm 2=slOf nl intC M:=by rw[f.t 2 zS];simp[T]
   have H:s.tm 3=.int .i64 (a:Int):=by rw[f.t 3 zS];simp[t3]
   have P:s.tm 4=.int .i64 (b:Int):=by rw[f.t 4 zS];simp[Z]
   have L:s.df=[]:=by rw[f.d];simp[K]
   clear f
   by_cases j:i<R.length
   ·have N:=jb j zO
    have e:i<M.length:=zO
    have q:=JX M e
    have w:=(jrv R j).1
    rw[List.drop_eq_getElem_cons j,List.drop_eq_getElem_cons e,List.zip_cons_cons,List.any_cons]at l
    cases u:(M[i] == (a:Int))
    ·rw[u,Bool.false_and,Bool.false_or]at l
     simp[k,B,G,H,j,e,j5 jC,q,u,N]
     exact l
    ·cases D:((R[i]).1 == (b:Int))
     ·rw[u,D,Bool.true_and,Bool.false_or]at l
      simp[k,B,G,H,P,j,e,j5 jC,j5 jN,q,w,u,D,N]
      exact l
     ·rw[u,D,Bool.true_and,Bool.true_or]at l
      simp[k,B,G,H,P,j,e,j5 jC,j5 jN,q,w,u,D]
      exact j1 (by simp[L]) (by simp[← l]) rfl
   ·have:i=R.length:=zO
    subst this
    rw[List.drop_length]at l
    simp[k,B]
    exact j1 (by simp[L]) (by simp[← l]) rfl
  ·simp[v]
   exact j1 (by simp[K]) zS rfl
 by_cases m:a<b
 ·simp[m,objCells,n,r,j5 j7,S,X]
  exact p _ zS zS zS zS zS (by simp[m])
 ·simp[m]
  exact p _ zS zS zS zS zS (by simp[m])
theorem joa (l:List Bool) {i:Nat}(h:i<l.length):(l.map V.bool)[i]? = some (.bool l[i]):=by simp[h]
theorem jot (bs:List Bool) (k:Nat) (b:Bool) (h:k<bs.length):j2 (bs.map V.bool) k [.bool b]=(bs.set k b).map V.bool:=by
 unfold j2
 rw[List.map_set,List.set_eq_take_append_cons_drop,if_pos (by simpa using h)]
 simp
theorem js6 {Yf:YF}{f:FuncId}{xs:List A}{st:St}{ub:Nat}{K:St→Nat→Prop}{d:Option Nat}{nm:Bool}{vs:List V}{P:V→Prop}(c:xs.map (eval E st.tm)=vs) (b:E.sh nm f=false) (hp:(vs.all fun v=>v.strip.pureTop)=false)
 (e:∃v,EvO E f vs st.ob st.tk ((st.fb+d.getD 0+1)*1024) ub v∧P v) (h:∀v,P v→wpD (Xa ub v) (WZ K st d ub)):j6 E Yf ⟨d,.call f xs,none,nm⟩ st ub K:=by
 obtain⟨v,g,a⟩:=e
 exact jh c b hp g (h v a)
section
variable (g:Hist') (M:List Int) (t:Nat)
def jet (bs:List Bool) (a b:Nat):Bool:=!bs.getD a false && ((b == t || bs.getD b false) && jct g M a b)
def FarS (bs:List Bool):Prop:=bs.length=g.ts.length∧∀a,bs.getD a false=true→farB g M t a=true
def FarR (bs0:List Bool) (i j:Nat) (bs:List Bool) (more:Bool):Prop:=FarS g M t bs∧(more=false→bs=bs0∧∀a b,(a<i∨a=i∧b<j)→b<g.ts.length→jet g M t bs0 a b=false) ∧
 (more=true→bs.count false+1≤bs0.count false)
end
section
variable {g:Hist'}{M:List Int}{t:Nat}
theorem FarS.fire {bs:List Bool}(h:FarS g M t bs) (j:t<g.ts.length) {a b:Nat}(i:b<g.ts.length) (c:jet g M t bs a b=true):FarS g M t (bs.set a true):=by
 refine⟨by simp[h.1],fun x f=>?_⟩
 unfold jet at c
 simp only[Bool.and_eq_true,Bool.or_eq_true,beq_iff_eq]at c
 by_cases d:x=a
 ·subst d
  rcases c.2.1 with rfl|h2
  ·exact jky c.2.2 _
  ·exact Qz i (h.2 b h2) (jky c.2.2 _)
 ·refine h.2 x ?_
  rw[List.getD_eq_getElem?_getD,List.getElem?_set_ne (fun e=>d e.symm)]at f
  simpa[List.getD_eq_getElem?_getD] using f
theorem jp7 {bs:List Bool}{a:Nat}(b:a<bs.length) (c:bs.getD a false=false):(bs.set a true).count false+1=bs.count false:=by
 have e:bs[a]=false:=by simpa[List.getD_eq_getElem?_getD,b] using c
 have d:0<bs.count false:=List.count_pos_iff.2 (e▸List.getElem_mem b)
 rw[List.count_set b,e]
 simp
 omega
theorem FarR.next {e bs:List Bool}{i j:Nat}{m:Bool}(h:FarR g M t e i j bs m) (s:t<g.ts.length) (hi:i<g.ts.length) (u:j<g.ts.length) :
 FarR g M t e i (j+1) (if jet g M t bs i j then bs.set i true else bs) (m || jet g M t bs i j):=by
 obtain⟨f,p,n⟩:=h
 cases d:jet g M t bs i j
 ·simp only[Bool.or_false,Bool.false_eq_true,if_false]
  refine⟨f,fun k=>?_,n⟩
  obtain⟨rfl,q⟩:=p k
  refine⟨rfl,fun a b c o=>?_⟩
  rcases c with c|⟨rfl,c⟩
  ·exact q a b (.inl c) o
  ·rcases Nat.lt_succ_iff_lt_or_eq.1 c with h|h
   ·exact q a b (.inr ⟨rfl,h⟩) o
   ·subst h;exact d
 ·simp only[Bool.or_true,if_true]
  have l:bs.getD i false=false:=by
   unfold jet at d
   simp only[Bool.and_eq_true,Bool.not_eq_true']at d
   exact d.1
  have r:=jp7 (by rw[f.1];exact hi) l
  refine⟨f.fire s u d,fun k=>(by cases k),fun _=>?_⟩
  cases m
  ·rw[(p rfl).1]at r ⊢
   omega
  ·have:=n rfl
   omega
theorem FarR.row {d bs:List Bool}{i:Nat}{m:Bool}(h:FarR g M t d i g.ts.length bs m):FarR g M t d (i+1) 0 bs m:=by
 refine⟨h.1,fun f=>⟨(h.2.1 f).1,fun a b c e=>(h.2.1 f).2 a b ?_ e⟩,h.2.2⟩
 rcases c with c|⟨_,c⟩
 ·rcases Nat.lt_succ_iff_lt_or_eq.1 c with h1|h1
  ·exact .inl h1
  ·exact .inr ⟨h1,e⟩
 ·omega
theorem j3e {bs:List Bool}(f:FarS g M t bs) (o:t<g.ts.length) (h:∀a b,a<g.ts.length→b<g.ts.length→jet g M t bs a b=false):bs=(List.range g.ts.length).map (farB g M t):=by
 apply List.ext_getElem
 ·simp[f.1]
 intro a k n
 have m:a<g.ts.length:=by rw[← f.1];exact k
 rw[List.getElem_map,List.getElem_range]
 have l:bs.getD a false=bs[a]:=by simp[List.getD_eq_getElem?_getD,k]
 cases i:farB g M t a
 ·cases d:bs[a]
  ·rfl
  ·rw[f.2 a (by rw[l,d])]at i;cases i
 ·have:=jml (r:=jct g M) (p:=fun a=>bs.getD a false=true∧a<g.ts.length) (q:=fun b=>b=t∨bs.getD b false=true∧b<g.ts.length) (fun a b d e=>by
   have c:=WV (jin e).1
   have j:=WV (jin e).2
   have:=h a b c j
   unfold jet at this
   rw[e,Bool.and_true]at this
   rcases d with rfl|⟨d,_⟩
   ·simp at this
    exact⟨by simpa[List.getD_eq_getElem?_getD] using this,c⟩
   ·rw[d]at this
    simp at this
    exact⟨by simpa[List.getD_eq_getElem?_getD] using this,c⟩) (fun b d=>.inr d) g.ts.length (b:=t) (.inl rfl) i
  rw[l]at this
  exact this.1
end
theorem j30 (bs:List Bool):bs.map V.bool=bs.flatMap blC:=by induction bs <;> simp_all [blC]
theorem bl_end {st:St}{q l u n:Nat}{bs:List Bool}{P:V→Prop}(k:∀r,SlR r false n (bs.flatMap blC)→P r) (m:st.df=[]) (x:st.tm q=.osl l u 0 n 1) (c:st.ob l=some ⟨u,.cells (bs.flatMap blC)⟩) (o:bs.length=n) (_:0<n) (y:st.ro=0):ja2 [.t q] P .ret st:=by
 have g:(bs.flatMap blC).length=n:=by rw[j4 jmd,Nat.mul_one,o]
 have a:objCells st.ob l u=some (bs.flatMap blC):=by simp[objCells,c]
 have e:(bs.flatMap blC).mapM (JC st 5)=some (bs.flatMap blC):=by
  clear a c g o k
  induction bs with
  | nil=>rfl
  | cons b bs w=>
   rw[List.flatMap_cons]
   show(V.bool b::bs.flatMap blC).mapM (JC st 5)=_
   rw[List.mapM_cons,w]
   rfl
 have s:JC st 6 (.osl l u 0 n 1)=some (.sl none false n (bs.flatMap blC)):=by
  show((objCells st.ob l u).bind fun cs=>if Nat.ble st.ro u=true∧0+n*1≤cs.length then (((cs.drop 0).take (n*1)).mapM (JC st 5)).map fun h=>V.sl none false n h else none)=_
  rw[a,Option.bind_some,if_pos ⟨Nat.ble_eq▸zO,zO⟩,List.drop_zero,Nat.mul_one,List.take_of_length_le zO,e]
  rfl
 have c:∃t:Option (Nat × Nat),ji st true 0 (.osl l u 0 n 1)=some (.sl t false n (bs.flatMap blC))∧∀p∈t.toList,p.1<64:=by
  simp only[ji,s,Option.bind_some,a,Option.map_some]
  refine⟨_,rfl,fun p d=>?_⟩
  split at d
  ·simp at d;subst d;decide
  ·simp at d
 obtain⟨t,f,i⟩:=c
 have j:[ARes.t q].mapM (jl st)=some [.osl l u 0 n 1]:=by simp[jl,x]
 refine⟨.sl t false n (bs.flatMap blC),?_,k _ ⟨t,rfl,i⟩⟩
 simp only[ja8,YU m,YN m,if_true,j,Option.bind_some,Yg]
 have v:nodup ([V.osl l u 0 n 1].flatMap V.toks)=true:=rfl
 rw[v]
 simp only[JE,XS,f,Option.bind_some,Option.map_some]
 cases t <;> rfl
theorem ev75 {g:Hist'}(hs:Small g) {nl:Bool}{M:List Int}(hM:M.length=(readH g).length) {t:Nat}(ht:t<g.ts.length) :
 ∃v,Ev E 75 [.agg (histC g),slOf false jB (readH g),slOf nl intC M,.int .i64 (t:Int)] v∧SlR v false g.ts.length (((List.range g.ts.length).map (farB g M t)).flatMap blC):=by
 have d5:=hs.ts
 have c9:0<g.ts.length:=zO
 refine XF (af:=F75) rfl zD ?_
 simp[F75,histC,objCells]
 refine jxi (n:=g.ts.length) zS zS zO zO zO rfl zD ?_
 simp[jfy]
 refine jY fun O q=>?_
 have g1:O.tm 1=slOf false jB (readH g):=by rw[q];simp
 have g2:O.tm 2=slOf nl intC M:=by rw[q];simp
 have g3:O.tm 3=.int .i64 (t:Int):=by rw[q];simp
 have g4:O.tm 4=.ptr 8 0 0:=by rw[q];simp
 have g9:O.tm 9=.osl 32 320 0 g.ts.length 1:=by rw[q];simp
 have d3:O.tm 10=.bool true:=by rw[q];simp
 have p8:O.ob 8=some ⟨0,.cells (histC g)⟩:=by rw[q];simp[histC]
 have d2:O.ob 32=some ⟨320,.cells ((List.replicate g.ts.length false).map V.bool)⟩:=by rw[q];simp
 have gd:O.df=[]:=by rw[q];simp
 have gr:O.ro=0:=by rw[q];simp
 have gb:O.fb=0:=by rw[q];simp
 clear q
 obtain⟨J,hJ⟩:∃J:Nat→St→Prop,J=fun k s=>∃bs m,FarS g M t bs∧(m=false→∀a b,a<g.ts.length→b<g.ts.length→jet g M t bs a b=false)∧bs.count false+(if m then 1 else 0)≤k ∧
  s.tm 1=slOf false jB (readH g)∧s.tm 2=slOf nl intC M∧s.tm 3=.int .i64 (t:Int)∧s.tm 4=.ptr 8 0 0∧s.tm 9=.osl 32 320 0 g.ts.length 1∧s.tm 10=.bool m∧s.ob 8=some ⟨0,.cells (histC g)⟩∧s.ob 32=some ⟨320,.cells (bs.map V.bool)⟩∧s.df=[]∧s.ro=0∧s.fb=0:=⟨_,rfl⟩
 refine Ya (n:=g.ts.length+1) J (by
  rw[hJ]
  exact⟨List.replicate g.ts.length false,true,⟨zS,fun a h=>by simp[List.getD_eq_getElem?_getD,List.getElem?_replicate]at h;split at h <;> cases h⟩,(fun h=>by cases h),zS,g1,g2,g3,g4,g9,d3,p8,d2,gd,gr,gb⟩) ?_
 intro k s b9
 rw[hJ]at b9
 obtain⟨S,m,hF,c8,hk,s1,s2,s3,s4,s9,c2,o8,b6,sd,sr,sb⟩:=b9
 cases m
 ·simp[c2]
  have c6:=j3e hF ht (c8 rfl)
  rw[c6,j30]at b6
  refine bl_end (l:=32) (u:=320) (n:=g.ts.length) (bs:=(List.range g.ts.length).map (farB g M t)) (fun r h=>h) (by simp[sd]) (by simp[s9]) (by simpa using b6) zS c9 (by simp[sr])
 ·simp only[if_true]at hk
  simp[c2]
  obtain⟨I,hI⟩:∃I:Nat→St→Prop,I=fun i s=>s.tm 11=.int .i64 i∧∃bs m,FarR g M t S i 0 bs m∧s.tm 10=.bool m∧s.ob 8=some ⟨0,.cells (histC g)⟩∧s.ob 32=some ⟨320,.cells (bs.map V.bool)⟩:=⟨_,rfl⟩
  refine j8 [(10,12),(18,58)] g.ts.length I rfl rfl (by
   rw[hI]
   exact⟨zS,S,false,⟨hF,fun _=>⟨rfl,fun a b h _=>by omega⟩,fun h=>by cases h⟩,zS,by simpa using o8,by simpa using b6⟩) ?_
  intro i w hi c0 f
  rw[hI]at c0
  obtain⟨b0,c1,m1,hR,c4,v8,c3⟩:=c0
  have f1:w.tm 1=slOf false jB (readH g):=by rw[f.t 1 zS];simp[s1]
  have f2:w.tm 2=slOf nl intC M:=by rw[f.t 2 zS];simp[s2]
  have f3:w.tm 3=.int .i64 (t:Int):=by rw[f.t 3 zS];simp[s3]
  have f4:w.tm 4=.ptr 8 0 0:=by rw[f.t 4 zS];simp[s4]
  have f9:w.tm 9=.osl 32 320 0 g.ts.length 1:=by rw[f.t 9 zS];simp[s9]
  have fd:w.df=[]:=by rw[f.d];simp[sd]
  have fr:w.ro=0:=by rw[f.r];simp[sr]
  have fb:w.fb=0:=by rw[f.b];simp[sb]
  clear f
  by_cases L:i<g.ts.length
  ·simp[b0,f4,v8,objCells,histC,L]
   obtain⟨I2,b5⟩:∃I2:Nat→St→Prop,I2=fun j s=>s.tm 12=.int .i64 j∧∃bs m,FarR g M t S i j bs m∧s.tm 10=.bool m∧s.ob 8=some ⟨0,.cells (histC g)⟩∧s.ob 32=some ⟨320,.cells (bs.map V.bool)⟩:=⟨_,rfl⟩
   refine j8 [(10,10),(12,12),(25,58)] g.ts.length I2 rfl rfl (by
    rw[b5]
    exact⟨zS,c1,m1,hR,by simpa using c4,by simpa using v8,by simpa using c3⟩) ?_
   intro j x hj c7 f
   rw[b5]at c7
   obtain⟨y,bs,m,a0,Q,H,o⟩:=c7
   have x1:x.tm 1=slOf false jB (readH g):=by rw[f.t 1 zS];simp[f1]
   have x2:x.tm 2=slOf nl intC M:=by rw[f.t 2 zS];simp[f2]
   have x3:x.tm 3=.int .i64 (t:Int):=by rw[f.t 3 zS];simp[f3]
   have x4:x.tm 4=.ptr 8 0 0:=by rw[f.t 4 zS];simp[f4]
   have x9:x.tm 9=.osl 32 320 0 g.ts.length 1:=by rw[f.t 9 zS];simp[f9]
   have D:x.tm 11=.int .i64 (i:Int):=by rw[f.t 11 zS];simp[b0]
   have xd:x.df=[]:=by rw[f.d];simp[fd]
   have xr:x.ro=0:=by rw[f.r];simp[fr]
   have xb:x.fb=0:=by rw[f.b];simp[fb]
   clear f
   by_cases e:j<g.ts.length
   ·have hw:=jb e zO
    have B:=a0.next ht L e
    have d4:bs.length=g.ts.length:=a0.1.1
    have F:=idxN (l:=32) (u:=320) (n:=g.ts.length) (kk:=.i64) (X:=(i:Int)) rfl L
    have b7:=idxN (l:=32) (u:=320) (n:=g.ts.length) (kk:=.i64) (X:=(j:Int)) rfl e
    have K:=joa bs (i:=i) zO
    have b8:=joa bs (i:=j) zO
    have d1:bs.getD i false=bs[i]:=by simp[List.getD_eq_getElem?_getD,show i<bs.length by omega]
    have d0:bs.getD j false=bs[j]:=by simp[List.getD_eq_getElem?_getD,show j<bs.length by omega]
    have G:=ev122 hs (nl:=nl) hM L e
    have P:((j:Int) == (t:Int))=(j == t):=by rw[Bool.eq_iff_iff];simp;omega
    unfold jet at B
    rw[d1,d0]at B
    have c5:=jot bs i true zO
    have p:∀ (x':St) (Z:List Bool) (m':Bool),FarR g M t S i (j+1) Z m'→x'.tm 12=.int .i64 ((j+1:Nat):Int)→x'.tm 10=.bool m'→x'.ob 8=some ⟨0,.cells (histC g)⟩→x'.ob 32=some ⟨320,.cells (Z.map V.bool)⟩→I2 (j+1) x':=fun x' Z m' a1 a2 a3 a4 a5=>by rw[b5];exact⟨a2,Z,m',a1,a3,a4,a5⟩
    cases T:bs[i]
    ·have N:∀c:Bool,jct g M i j=c→((j == t) || bs[j])=true→FarR g M t S i (j+1) (if c then bs.set i true else bs) (m || c):=fun c hc hq=>by
      rw[T,hc,hq]at B
      simpa using B
     cases U:(j == t)
     ·cases cj:bs[j]
      ·rw[T,U,cj]at B
       simp at B
       simp[y,x4,x3,x9,D,H,o,objCells,histC,e,F,b7,K,b8,T,cj,P,U,hw]
       exact p _ bs m B zS (by simp[Q]) (by simp[H,histC]) (by simp[o])
      ·rw[U,cj]at N
       cases cs:jct g M i j
       ·have z:=N false cs rfl
        rw[cs]at G
        simp at z
        simp[y,x4,x3,x9,D,x1,x2,H,o,objCells,histC,e,F,b7,K,b8,T,cj,P,U]
        refine jO G (by simp[histC]) rfl (by simp[histC]) ?_
        simp[hw,y,e]
        exact p _ bs m z zS (by simp[Q]) (by simp[H,histC]) (by simp[o])
       ·have z:=N true cs rfl
        rw[cs]at G
        simp at z
        simp[y,x4,x3,x9,D,x1,x2,H,o,objCells,histC,e,F,b7,K,b8,T,cj,P,U]
        refine jO G (by simp[histC]) rfl (by simp[histC]) ?_
        simp[hw,y,e,x9,D,F,o,objCells,c5,xr]
        exact⟨zO,p _ (bs.set i true) true z zS zS (by simp[H,histC]) (by simp[List.map_set])⟩
     ·cases cs:jct g M i j
      ·have z:=N false cs (by rw[U];rfl)
       rw[cs]at G
       simp at z
       simp[y,x4,x3,x9,D,x1,x2,H,o,objCells,histC,e,F,K,T,P,U]
       refine jO G (by simp[histC]) rfl (by simp[histC]) ?_
       simp[hw,y,e]
       exact p _ bs m z zS (by simp[Q]) (by simp[H,histC]) (by simp[o])
      ·have z:=N true cs (by rw[U];rfl)
       rw[cs]at G
       simp at z
       simp[y,x4,x3,x9,D,x1,x2,H,o,objCells,histC,e,F,K,T,P,U]
       refine jO G (by simp[histC]) rfl (by simp[histC]) ?_
       simp[hw,y,e,x9,D,F,o,objCells,c5,xr]
       exact⟨zO,p _ (bs.set i true) true z zS zS (by simp[H,histC]) (by simp[List.map_set])⟩
    ·rw[T]at B
     simp at B
     simp[y,x4,x9,D,H,o,objCells,histC,e,F,K,T,hw]
     exact p _ bs m B zS (by simp[Q]) (by simp[H,histC]) (by simp[o])
   ·have:j=g.ts.length:=zO
    subst this
    have hw:=jb L zO
    simp[y,x4,H,objCells,histC,D,hw,L]
    rw[hI]
    exact⟨zS,bs,m,a0.row,by simpa using Q,by simpa[histC] using H,by simpa using o⟩
  ·have:i=g.ts.length:=zO
   subst this
   simp[b0,f4,v8,objCells,histC]
   refine⟨k - 1,zO,?_⟩
   rw[hJ]
   refine⟨c1,m1,hR.1,fun hm a b ha hb=>?_,?_,by simpa using f1,by simpa using f2,by simpa using f3,by simpa using f4,by simpa using f9,by simpa using c4,by simpa[histC] using v8,by simpa using c3,by simp[fd],by simp[fr],by simp[fb]⟩
   ·rw[(hR.2.1 hm).1]
    exact(hR.2.1 hm).2 a b (.inl ha) hb
   ·cases m1
    ·rw[(hR.2.1 rfl).1];simp;omega
    ·have:=hR.2.2 rfl;simp;omega
theorem ev33 {g:Hist'}(hs:Small g) {nl on:Bool}{M O:List Int}(hM:M.length=(readH g).length) (hO:O.length≤1000000) (lvl:Int) {q:Nat}(hq:q<(readH g).length) {t:Nat}(ht:t<g.ts.length) (o:((readH g)[q]).1=t) :
 ∃v,Ev E 33 [.int .i64 lvl,.agg (histC g),slOf nl intC M,slOf on intC O,.int .i64 (q:Int)] v∧SlR v false (jbl g lvl M O (readH g)[q]).length ((jbl g lvl M O (readH g)[q]).flatMap intC):=by
 have f5:=hs.ts
 have f4:=jak hs
 obtain⟨vr,e4,d6⟩:=ev31 hs
 obtain⟨vp,d8,b7⟩:=ev75 hs (nl:=nl) hM ht
 refine XF (af:=F33) rfl zD ?_
 obtain⟨p,hp⟩:∃p,(readH g)[q]=p:=⟨_,rfl⟩
 have b9:=jrv (readH g) hq
 have f3:=ja jN (fun _=>none) (readH g) hq
 rw[hp]at o b9 ⊢
 obtain⟨F,hF⟩:∃F,(fun i=>jbk g lvl M O p i)=F:=⟨_,rfl⟩
 have j:∀i,jbk g lvl M O p i=F i:=fun i=>congrFun hF i
 have hL:jbl g lvl M O p=Y3 F g.ts.length:=by unfold jbl;rw[← hF]
 rw[hL]
 have d3:lvl=1→∀i:Nat,F i=rcB (readH g) M p i:=fun h i=>by rw[← j];simp[jbk,h]
 have d0:lvl=2→∀i,F i=farB g M t i:=fun h i=>by rw[← j];simp[jbk,h,o]
 have e6:lvl=3→∀i:Nat,F i=(Xx g i && decide (atO O i<atO O t)):=fun h i=>by rw[← j];simp[jbk,h,o]
 have d9:lvl≠1→lvl≠2→lvl≠3→∀i,F i=false:=fun h1 h2 h3 i=>by rw[← j];simp[jbk,h1,h2,h3]
 clear j hF
 obtain⟨B,hB⟩:∃B,(List.range g.ts.length).map (farB g M t)=B:=⟨_,rfl⟩
 rw[hB]at b7
 have d2:B.length=g.ts.length:=by rw[← hB];simp
 have e7:∀i (h:i<B.length),B[i]=farB g M t i:=fun i h=>by simp[← hB]
 clear hL
 generalize readH g=R at *
 simp[F33,histC,objCells]
 refine jO e4 (by simp[histC]) rfl (by simp[histC]) ?_
 refine XZ d6 fun tr f1=>?_
 simp
 refine jJ (cs:=[]) rfl rfl rfl ?_
 have b6:=fun ob=>WL R ob hq
 simp only[hp]at b6
 simp[objCells,hq,JY jN,b6,j2]
 simp only[o]at b6 b9
 simp[o]
 refine jO d8 (by simp[histC,slOf]) rfl (by simp[histC]) ?_
 rw[← d2]at b7
 refine XZ b7 fun tp f0=>?_
 simp
 refine jY fun H e=>?_
 have g0:H.tm 0=.int .i64 lvl:=by rw[e];simp
 have g2:H.tm 2=slOf nl intC M:=by rw[e];simp
 have g3:H.tm 3=slOf on intC O:=by rw[e];simp
 have g6:H.tm 6=.ptr 12 0 0:=by rw[e];simp
 have c9:H.tm 11=.sl tr false R.length (R.flatMap jB):=by rw[e];simp
 have e8:H.tm 13=.ptr 26 704 0:=by rw[e];simp
 have d7:H.tm 14=.sl tp false B.length (B.flatMap blC):=by rw[e];simp
 have d1:H.tm 15=.int .i64 0:=by rw[e];simp
 have d4:H.ob 12=some ⟨0,.cells (histC g)⟩:=by rw[e];simp[histC]
 have e0:H.ob 26=some ⟨704,.cells [.int .i64 (t:Int),.int .i64 p.2]⟩:=by rw[e];simp
 have gG:GrowT H.tk H.nx intC 1 (Y3 F 0) (H.tm 12):=by rw[e];exact⟨_,by simp[Y3];rfl,by simp[ju],zS⟩
 have gd:H.df=[]:=by rw[e];simp
 have gr:H.ro=0:=by rw[e];simp
 have gb:H.fb=0:=by rw[e];simp
 clear e
 obtain⟨I,hI⟩:∃I:Nat→St→Prop,I=fun i s=>s.tm 15=.int .i64 i∧s.ob 12=some ⟨0,.cells (histC g)⟩∧s.ob 26=some ⟨704,.cells [.int .i64 (t:Int),.int .i64 p.2]⟩∧GrowT s.tk s.nx intC 1 (Y3 F i) (s.tm 12):=⟨_,rfl⟩
 refine j8 [(12,12),(15,17),(31,105)] g.ts.length I rfl rfl (by
  rw[hI]
  exact⟨by simpa using d1,d4,e0,gG⟩) ?_
 intro i s hi c7 f
 rw[hI]at c7
 obtain⟨w,K,a0,hG⟩:=c7
 have s0:s.tm 0=.int .i64 lvl:=by rw[f.t 0 zS];simp[g0]
 have s2:s.tm 2=slOf nl intC M:=by rw[f.t 2 zS];simp[g2]
 have s3:s.tm 3=slOf on intC O:=by rw[f.t 3 zS];simp[g3]
 have s6:s.tm 6=.ptr 12 0 0:=by rw[f.t 6 zS];simp[g6]
 have d5:s.tm 11=.sl tr false R.length (R.flatMap jB):=by rw[f.t 11 zS];simp[c9]
 have b8:s.tm 13=.ptr 26 704 0:=by rw[f.t 13 zS];simp[e8]
 have e5:s.tm 14=.sl tp false B.length (B.flatMap blC):=by rw[f.t 14 zS];simp[d7]
 have sd:s.df=[]:=by rw[f.d];simp[gd]
 have sr:s.ro=0:=by rw[f.r];simp[gr]
 have sb:s.fb=0:=by rw[f.b];simp[gb]
 clear f
 by_cases G:i<g.ts.length
 ·have hw:=jb G zO
  have f2:=jeu F i
  simp[w,s6,K,objCells,histC,G,s0]
  generalize c8:jqh E Y0 _ _=KK
  have D:∀x:St,x.tm 16=.bool (F i)→x.tm 15=.int .i64 i→x.ob=s.ob→x.tk=s.tk→s.nx≤x.nx→x.tm 12=s.tm 12→KK .nrm x:=by
   intro x n J S xk xn Z
   rw[← c8]
   clear c8
   have m:Y3 F (i+1)=Y3 F i++(if F i then [(i:Int)] else []):=rfl
   cases hf:F i
   ·rw[hf]at n m
    simp only[Bool.false_eq_true,if_false,List.append_nil]at m
    simp[n,J,hw,G]
    rw[hI]
    refine⟨zS,by simp[S,K],by simp[S,a0],?_⟩
    rw[m]
    simpa[Z,xk] using hG.mono (nx':=x.nx+64+64+64+64) (fun _ _ h=>h) zO
   ·rw[hf]at n m
    simp only[if_true]at m
    simp[n,J]
    refine jJ (cs:=intC i) (by simp[j2,intC]) rfl rfl ?_
    simp[intC]
    refine YD (hi:=s.nx) (f:=intC) (l:=Y3 F i) (a:=(i:Int)) (v:=s.tm 12) (hG.mono (fun u _ h=>by simp[ju,xk,h]) zR) (by simp[Z]) (by simp[slCells,intC]) jC zD (by simp[intC,V.pureLeaf]) zO zO (fun f6 e9=>?_)
    rw[← m]
    have c0:(Y3 F i).length+1=(Y3 F (i+1)).length:=by rw[m];simp
    rw[c0]
    obtain⟨Q,hQ⟩:∃Q,Y3 F (i+1)=Q:=⟨_,rfl⟩
    rw[hQ]
    simp[J,hw,G]
    rw[hI]
    refine⟨zS,by simp[S,K],by simp[S,a0],?_⟩
    rw[hQ]
    exact⟨_,by simp;rfl,by simp[ju],zS⟩
  by_cases e1:lvl=1
  ·simp[e1]
   have hc:=d3 e1 i
   unfold rcB at hc
   refine j8 [(16,17),(41,75)] R.length (fun k x=>x.tm 17=.int .i64 k∧(∃X,x.tm 16=.bool X∧(X || ((R.drop k).zip (M.drop k)).any fun y=>y.1.1 == p.1 && (decide (y.1.2<p.2) && y.2 == (i:Int)))=F i)∧x.ob=s.ob∧x.tk=s.tk∧s.nx≤x.nx) rfl rfl ⟨zS,⟨false,zS,by simpa using hc.symm⟩,zS,zS,by simp;omega⟩ ?_
   rintro k x hk ⟨L,⟨X,n,c⟩,S,xk,xn⟩ f
   have J:x.tm 15=.int .i64 i:=by rw[f.t 15 zS];simp[w]
   have x2:x.tm 2=slOf nl intC M:=by rw[f.t 2 zS];simp[s2]
   have N:x.tm 11=.sl tr false R.length (R.flatMap jB):=by rw[f.t 11 zS];simp[d5]
   have b0:x.tm 13=.ptr 26 704 0:=by rw[f.t 13 zS];simp[b8]
   have Z:x.tm 12=s.tm 12:=by rw[f.t 12 zS];simp
   clear f
   have U:x.ob 26=some ⟨704,.cells [.int .i64 (t:Int),.int .i64 p.2]⟩:=by rw[S];exact a0
   by_cases z:k<R.length
   ·have T:=jb z zO
    have b5:k<M.length:=zO
    have h1:=JX M b5
    have h2:=jrv R z
    rw[List.drop_eq_getElem_cons z,List.drop_eq_getElem_cons b5,List.zip_cons_cons,List.any_cons,← Bool.or_assoc]at c
    rw[o]at c
    cases X
    ·cases P:((R[k]).1 == (t:Int))
     ·rw[P]at c
      simp[L,n,N,b0,U,objCells,z,JY jN,h2,P,T]
      exact⟨by simpa[o] using c,S,xk,zO⟩
     ·by_cases c2:(R[k]).2<p.2
      ·cases c3:(M[k] == (i:Int))
       ·rw[P,c3,decide_eq_true c2]at c
        simp[L,n,N,b0,U,x2,J,objCells,z,b5,JY jN,j5 jC,h1,h2,P,c2,c3,T]
        exact⟨by simpa[o] using c,S,xk,zO⟩
       ·rw[P,c3,decide_eq_true c2]at c
        simp[L,n,N,b0,U,x2,J,objCells,z,b5,JY jN,j5 jC,h1,h2,P,c2,c3,T]
        exact⟨by simpa[o] using c,S,xk,zO⟩
      ·rw[P,decide_eq_false c2]at c
       simp[L,n,N,b0,U,objCells,z,JY jN,h2,P,c2,T]
       exact⟨by simpa[o] using c,S,xk,zO⟩
    ·simp[L,n,N,z,T]
     exact⟨by simpa[o] using c,S,xk,zO⟩
   ·have:k=R.length:=zO
    subst this
    rw[List.drop_length]at c
    simp at c
    simp[L,N]
    exact D _ (by simp[n,c]) (by simp[J]) (by simp[S]) (by simp[xk]) (by simp;omega) (by simp[Z])
  ·have b1:(lvl == 1)=false:=by simpa using e1
   by_cases e2:lvl=2
   ·have c5:=bl_at B (i:=i) zO
    rw[e7 i zO,← d0 e2 i]at c5
    have c4:=JY jmd tp false B .i64 (i:=i) zO
    rw[Nat.mul_one]at c4
    simp[e2,e5,w,c4,c5]
    exact D _ zS (by simp[w]) zS zS (by simp;omega) zS
   ·have b2:(lvl == 2)=false:=by simpa using e2
    by_cases e3:lvl=3
    ·have c6:(g.ts.flatMap jn)[i*3+1]? = some (.int .i64 (g.ts[i]).f):=by rw[jR j7 g.ts G (by decide:1<3)];rfl
     have j:=e6 e3 i
     rw[jh0 G]at j
     have ea:=ev63 (a:=on) O zO (i:Int)
     have eb:=ev63 (a:=on) O zO (t:Int)
     cases P:((g.ts[i]).f == 1)
     ·rw[P,Bool.false_and]at j
      simp[e3,s6,K,objCells,histC,w,G,j5 j7,c6,P]
      exact D _ (by simp[j]) (by simp[w]) zS zS (by simp;omega) zS
     ·rw[P,Bool.true_and]at j
      simp[e3,s6,K,objCells,histC,w,G,j5 j7,c6,P,s3]
      refine X5 ea zS rfl zS ?_
      simp[b8,a0,objCells,s3]
      refine X5 eb zS rfl zS ?_
      simp
      exact D _ (by simp[j]) (by simp[w]) zS zS (by simp;omega) zS
    ·have b3:(lvl == 3)=false:=by simpa using e3
     simp[b1,b2,b3]
     exact D _ (by simp[d9 e1 e2 e3]) (by simp[w]) zS zS (by simp;omega) zS
 ·have:i=g.ts.length:=zO
  subst this
  obtain⟨u,hu,_,_⟩:=hG
  simp[w,s6,K,objCells,histC]
  exact slE (t:=some (u,1)) (nl:=false) (k:=(Y3 F g.ts.length).length) (cs:=(Y3 F g.ts.length).flatMap intC) (fun r h=>h) (by simp[sd]) (by simp[hu])
theorem jdb (g:Hist'):(comL g).length≤g.ts.length:=JJ Jl g.ts g.ts.length
theorem jrn {g:Hist'}(b:W2 g=true) {q:Nat}(c:q<(readH g).length):∃ (i k:Nat) (hi:i<g.ts.length) (a:k<(g.ts[i]).ops.length),(readH g)[q]=((i:Int),(k:Int))∧jff g (readH g)[q]=((g.ts[i]).ops[k]).key∧Xx g i=true:=by
 obtain⟨i,k,t,e,f,d,a,_⟩:=jdz (List.getElem_mem c)
 obtain⟨hi,rfl⟩:=List.getElem?_eq_some_iff.1 f
 refine⟨i,k,hi,a,e,?_,by simpa[Xx,hi] using d⟩
 rw[e]
 have:opAt g (i:Int) (k:Int)=some (g.ts[i]).ops[k]:=by
  unfold opAt
  simp[b,hi,a,List.getD_eq_getElem?_getD]
 unfold jff
 simp only[this]
theorem jii {g:Hist'}(h:JQ g=true):W2 g=true:=by
 unfold JQ at h
 simp only[Bool.and_eq_true]at h
 exact h.1
def Off (ub key:Nat):Prop:=∀m,ub≤m→¬ key=2*m+1
theorem Off.up {ub a key:Nat}(h:Off ub key) (c:ub≤a):Off a key:=fun m b=>h m (Nat.le_trans c b)
theorem Off.new {ub m:Nat}(h:m<ub):Off ub (2*m+1):=fun k a e=>by omega
theorem idx0 {l u n x sz:Nat}{kk:IntKind}(a:x<n):JP sz (.osl l u 0 n sz) (.int kk (x:Int))=some (.ptr l u (x*sz)):=by simp[JP,a]
theorem Yu {a b:Nat}(h:¬ a=b):Nat.beq a b=false:=by
 cases e:Nat.beq a b
 ·rfl
 ·exact absurd (Nat.eq_of_beq_eq_true e) h
end Go.Pv.T
namespace Go.Pv.T
open Go Go.Pv
end Go.Pv.T
namespace Go.Pv.T
open Go Go.Pv
theorem two_inj {a b:Nat}:(2*a=2*b)=(a=b):=propext ⟨fun h=>by omega,fun h=>by rw[h]⟩
structure WN where
 kW:Nat
 uW:Nat
 kR:Nat
 uR:Nat
 kA:Nat
 uA:Nat
 kL:Nat
 uL:Nat
 kS:Nat
 uS:Nat
 kP:Nat
 uP:Nat
section
variable {g:Hist'}{lvl:Int}{M:List Int}{N:WN}{A L S:List (Int × Int)}{P:Int→List Int}{ob ob':ZO}{ub ub':Nat}
theorem Off.ne {key:Nat}(h:Off ub key):∀m,ub≤m→¬ key=2*m+1:=h
end
end Go.Pv.T
namespace Go.Pv.T
section
end
end Go.Pv.T
namespace Go.Pv.T
open Go Go.Pv
def setC (w:Nat):List V:=[.int .u64 w,.int .u64 0,.int .u64 0,.int .u64 0,.int .u64 0,.int .u64 0,.int .u64 0,.int .u64 0]
theorem jiv:setC 0=j5n:=rfl
theorem jt0 {n:Nat}(h:n<64):IntKind.i64.wrap ((n:Int) / 64)=0:=by
 rw[show(n:Int) / 64=0 by omega];rfl
theorem jtz {n:Nat}(h:n<64):(n:Int).tmod 64=n:=Int.tmod_eq_of_lt zO zO
theorem j0v {w n:Nat}(a:n<64):Y8 .shr (.int .u64 (w:Int)) (.int .i64 (n:Int))=some (.int .u64 ((w >>> n:Nat):Int)):=by
 simp only[Y8,Q7]
 rw[if_neg zO]
 congr 2
 rw[Int.toNat_natCast,show IntKind.u64.bits=64 from rfl,Nat.min_eq_left (Nat.le_of_lt a),Nat.shiftRight_eq_div_pow,Int.fdiv_eq_ediv_of_nonneg _ (Int.le_of_lt (Int.pow_pos zD))]
 simp
theorem j0w {n:Nat}(h:n<64):Y8 .shl (.int .u64 1) (.int .i64 (n:Int))=some (.int .u64 ((1 <<< n:Nat):Int)):=by
 have b:2 ^ n<2 ^ 64:=Nat.pow_lt_pow_right zD h
 have:=jqv (a:=1) (k:=n) rfl zO zO
 rw[Nat.one_shiftLeft]
 rw[Nat.one_mul]at this
 exact this
theorem j31 (w n:Nat):((((w >>> n) &&& 1:Nat):Int) == 1)=w.testBit n:=by
 rw[Nat.testBit,Nat.and_comm 1,Nat.and_one_is_mod]
 rcases Nat.mod_two_eq_zero_or_one (w >>> n) with h|h <;> rw[h] <;> rfl
theorem j44 {w n:Nat}(a:w<2 ^ 64):w >>> n<2 ^ 64:=by
 rw[Nat.shiftRight_eq_div_pow]
 exact Nat.lt_of_le_of_lt (Nat.div_le_self _ _) a
theorem jzo {n:Nat}(h:n<64):1 <<< n<2 ^ 64:=by
 rw[Nat.one_shiftLeft]
 exact Nat.pow_lt_pow_right zD h
theorem or_lt {w n:Nat}(a:w<2 ^ 64) (h:n<64):w ||| 1 <<< n<2 ^ 64:=Nat.or_lt_two_pow a (jzo h)
@[simp] theorem eqVV_pn (ob:ZO) (neg:Bool) (l u o:Nat):ju3 ob neg .ptr (.ptr l u o) .nilptr=some (.bool (xor neg false)):=rfl
@[simp] theorem idxArr0 (k u:Nat):Yr 8 1 (.ptr k u 0) (.int .i64 0)=some (.ptr k u 0):=rfl
section
variable {ob:ZO}{ub k u w n:Nat}
theorem ev189 (a:n<500):Ev E 189 [.int .i64 (n:Int)] (.bool true):=by
 refine jQ (af:=F189) rfl ?_
 simp[F189]
 exact j1 zS (by simp;omega) rfl
theorem jz7 (a:n<500) (tk:Nat→Bool) (base:Nat):EvO E 128 [.ptr k u 0,.int .i64 (n:Int)] ob tk base ub (.int .i64 0):=by
 refine Jz (af:=S128) rfl ?_
 simp[S128]
 refine jO (ev189 a) zS rfl zS ?_
 simp
 exact j1 zS zS rfl
theorem jz8 (i:ob k=some ⟨u,.cells (setC w)⟩) (h:Off ub k) (a:n<64) (f:w<2 ^ 64) (tk:Nat→Bool) (base:Nat):EvO E 124 [.ptr k u 0,.int .i64 (n:Int)] ob tk base ub (.bool (w.testBit n)):=by
 refine Jz (af:=S124) rfl ?_
 have g:=h.ne
 simp[S124]
 refine jh (vs:=[.ptr k u 0,.int .i64 n]) zS rfl rfl (jz7 zO _ _) ?_
 have d:=j0v (w:=w) a
 have c:=jkz (m:=1) (b:=1) rfl (j44 (n:=n) f) zD
 have e:=j31 w n
 generalize w >>> n &&& 1=z at c e
 generalize w >>> n=q at d c
 simp(disch:=first|(simp;done)|omega) [jt0 a,jtz a,objCells,g,i,setC,d,c,e]
 exact j1 zS zS rfl
def PutR (ob:ZO) (ub k u w:Nat) (r:V × (ZO) × (Nat→Bool) × Nat):Prop :=
 r.1=.int .i64 0∧(∀key,Off ub key→r.2.1 key=if key=k then some ⟨u,.cells (setC w)⟩ else ob key)∧ub≤r.2.2.2
theorem sv81 {Yf:YF}{tk:Nat→Bool}{ro base:Nat}(d:ob k=some ⟨u,.cells (setC w)⟩) (h:Off ub k) (c:ro≤u) (a:n<64) (f:w<2 ^ 64) :
 ∃r,EvS E Yf.y 81 [.ptr k u 0,.int .i64 (n:Int)] ob tk ro base ub r∧PutR ob ub k u (w ||| 1 <<< n) r:=by
 refine Jn (af:=S81) rfl zD ?_
 show wpC E Yf S81.body _ (XT S81.res _)
 have g:=h.ne
 simp[S81]
 refine jh (vs:=[.ptr k u 0,.int .i64 n]) zS rfl rfl (jz7 zO _ _) ?_
 have e:=j0w a
 have b:=jik f (jzo a)
 generalize w ||| 1 <<< n=z at b ⊢
 generalize 1 <<< n=q at e b
 simp(disch:=first|(simp;done)|omega) [jt0 a,jtz a,objCells,g,d,setC,e,b,j2]
 refine⟨c,Yi zS ⟨zS,fun i d=>?_,by simp;omega⟩⟩
 have g:=d.ne
 simp(disch:=first|(simp;done)|omega) [g,j3,setC]
end
def ints (L:List Nat):List Int:=L.map fun a:Nat=>(a:Int)
section
end
def jd (w:Nat):List Nat:=(List.range 9).filter fun i=>w.testBit i
def jsz (w:Nat):Nat:=(jd w).headD 0
theorem bitsUp_mem {w a:Nat}:a∈jd w ↔ a<9∧w.testBit a=true:=by simp[jd]
theorem je5:jd 0=[]:=rfl
theorem k_bits:((List.range 512).all fun w=>w == 0 || (jd w == jsz w::jd (w &&& (w - 1)) && decide (w &&& (w - 1)<512)))=true:=by kernel_rfl
theorem jkh {w:Nat}(a:w<512) (h:w≠0):jd w=jsz w::jd (w &&& (w - 1))∧w &&& (w - 1)<512:=by
 have:=List.all_eq_true.1 k_bits w (List.mem_range.2 a)
 simpa[h] using this
theorem k190:((List.range 512).all fun w=>w == 0 || (match (callers E 2 noY).d 190 [.int .u64 (w:Nat)] with|some r=>V.eqb r (.int .i64 (jsz w:Nat))|none=>false))=true:=by kernel_rfl
theorem ev190 {w:Nat}(b:w<512) (h:w≠0):Ev E 190 [.int .u64 (w:Nat)] (.int .i64 (jsz w:Nat)):=by
 have:=List.all_eq_true.1 k190 w (List.mem_range.2 b)
 simp only[beq_iff_eq,Bool.or_eq_true,h,false_or]at this
 split at this
 ·rename_i r a
  exact⟨2,by rw[a,Wy _ _ this]⟩
 ·cases this
theorem low_lt {w:Nat}(a:w<512) (h:w≠0):jsz w<9:=by
 have:jsz w∈jd w:=by rw[(jkh a h).1];exact List.mem_cons_self ..
 exact(bitsUp_mem.1 this).1
theorem jh2 (w:Nat):(jd w).length≤9:=by
 unfold jd
 exact Nat.le_trans (List.length_filter_le _ _) zS
theorem jk6 {w i:Nat}(h:i<8):(setC w)[i]? = some (.int .u64 (if i=0 then w else 0:Nat)):=by
 match i,h with
 | 0,_=>rfl
 | 1,_=>rfl
 | 2,_=>rfl
 | 3,_=>rfl
 | 4,_=>rfl
 | 5,_=>rfl
 | 6,_=>rfl
 | 7,_=>rfl
section
variable {ob:ZO}{ub k u w:Nat}
theorem jt7 (hk:ob k=some ⟨u,.cells (setC w)⟩) (ho:Off ub k) (hw:w<512) (tk:Nat→Bool) (base:Nat):EvO E 130 [.ptr k u 0] ob tk base ub (jhv (ints (jd w))):=by
 refine Jz (af:=S130) rfl ?_
 have g:=ho.ne
 have b8:(setC w).length=8:=rfl
 simp[S130,objCells,hk,b8]
 refine jY fun o c=>?_
 have g3:o.tm 3=.sl none true 0 []:=by rw[c];simp
 have U:o.tm 11=.agg (setC w):=by rw[c];simp[setC]
 have b6:o.tm 12=.int .i64 0:=by rw[c];simp
 have gd:o.df=[]:=by rw[c];simp
 have gr:o.ro=ub:=by rw[c];simp
 have gn:ub≤o.nx:=by rw[c];simp;omega
 clear c
 obtain⟨n0,c2⟩:∃n,n=o.nx:=⟨_,rfl⟩
 obtain⟨P,G⟩:∃P:Nat→Nat→Prop,P=fun hi u=>ub≤u∧u<hi:=⟨_,rfl⟩
 obtain⟨J,hJ⟩:∃J:Nat→St→Prop,J=fun i s=>s.tm 12=.int .i64 i∧IntsO s.ob (P s.nx) (if i=0 then [] else ints (jd w)) (s.tm 3)∧ub≤s.nx:=⟨_,rfl⟩
 refine j8 [(3,5),(12,30)] 8 J rfl rfl (by rw[hJ];exact⟨by simpa using b6,.inl ⟨rfl,g3⟩,gn⟩) ?_
 intro i s hi K f
 rw[hJ]at K
 obtain⟨F,Q,sn⟩:=K
 have b5:s.tm 11=.agg (setC w):=by rw[f.t 11 zS];simp[U]
 have sd:s.df=[]:=by rw[f.d];simp[gd]
 have sr:s.ro=ub:=by rw[f.r];simp[gr]
 clear f
 by_cases I:i<8
 ·have a0:=jb I zD
  have O:Qs none 8 1 (.agg (setC w)) (.int .i64 (i:Int))=some (.int .u64 (if i=0 then w else 0:Nat)):=by
   have:=jk6 (w:=w) I
   have T:(i:Int)<8:=zO
   simp[Qs,T,Xb,this]
  have T:(i:Int)<8:=zO
  generalize D:(if i=0 then w else 0:Nat)=x0 at O
  simp[F,b5,T,O]
  refine jY fun o c=>?_
  have t3:o.tm 3=s.tm 3:=by rw[c];simp
  have t4:o.tm 4=.int .i64 i:=by rw[c];simp[F]
  have t5:o.tm 5=.int .u64 x0:=by rw[c];simp
  have b7:o.tm 12=.int .i64 i:=by rw[c];simp[F]
  have td:o.df=[]:=by rw[c];simp[sd]
  have tr:o.ro=ub:=by rw[c];simp[sr]
  have to:o.ob=s.ob:=by rw[c];simp
  have tn:s.nx≤o.nx:=by rw[c];simp;omega
  clear c
  obtain⟨J2,H⟩:∃J2:Nat→St→Prop,J2=fun n s=>∃x L,n=(jd x).length∧x<512∧(x=0∨i=0)∧s.tm 5=.int .u64 (x:Nat)∧L++ints (jd x)=ints (jd w)∧IntsO s.ob (P s.nx) L (s.tm 3)∧ub≤s.nx:=⟨_,rfl⟩
  refine Yb (n:=(jd x0).length) [(3,3),(5,5),(16,29)] J2 rfl rfl ?_ ?_
  ·rw[H]
   by_cases v:i=0
   ·rw[if_pos v]at D Q
    subst D
    refine⟨w,[],rfl,hw,.inr v,t5,rfl,?_,zO⟩
    rw[to,t3]
    exact Q.frame (fun _ _=>rfl) fun u j=>by rw[G]at j ⊢;exact⟨j.1,by have:=j.2;omega⟩
   ·rw[if_neg v]at D Q
    subst D
    refine⟨0,ints (jd w),rfl,zD,.inl rfl,t5,by simp[je5,ints],?_,zO⟩
    rw[to,t3]
    exact Q.frame (fun _ _=>rfl) fun u j=>by rw[G]at j ⊢;exact⟨j.1,by have:=j.2;omega⟩
  ·intro n q hq f
   rw[H]at hq
   obtain⟨x,L,rfl,Z,b0,q5,S,qI,qn⟩:=hq
   have q4:q.tm 4=.int .i64 i:=by rw[f.t 4 zS];simp[t4]
   have b9:q.tm 12=.int .i64 i:=by rw[f.t 12 zS];simp[b7]
   have qd:q.df=[]:=by rw[f.d];simp[td]
   have qr:q.ro=ub:=by rw[f.r];simp[tr]
   clear f
   by_cases N:x=0
   ·subst N
    simp[q5,b9,a0,I]
    rw[hJ]
    rw[je5,show ints []=[] from rfl,List.append_nil]at S
    subst S
    refine⟨zS,?_,by simp;omega⟩
    simp
    exact qI.frame (fun _ _=>rfl) fun u j=>by rw[G]at j ⊢;exact⟨j.1,by have:=j.2;simp at this ⊢;omega⟩
   ·have v:i=0:=b0.resolve_left N
    subst v
    obtain⟨e1,e2⟩:=jkh Z N
    have ex:((x:Int) != 0)=true:=by simp;omega
    have c0:=low_lt Z N
    have M:IntKind.u64.wrap ((x:Int) - 1)=((x - 1:Nat):Int):=by
     rw[IntKind.wrap_u64]
     omega
    have B:=jkz (a:=x) (b:=x - 1) (m:=((x - 1:Nat):Int)) rfl zO zO
    generalize x &&& (x - 1)=y at B e1 e2
    rw[← M]at B
    have hz:IntKind.i64.wrap ((jsz x:Nat):Int)=((jsz x:Nat):Int):=jm zO zO
    have c1:L.length≤9:=by
     have h1:=congrArg List.length S
     have T:=jh2 w
     simp[ints]at h1
     omega
    simp[q5,q4,ex]
    refine jO (ev190 Z N) zS rfl zS ?_
    simp[hz,show IntKind.i64.wrap 0=0 from rfl]
    refine jo (cs:=[.int .i64 ((jsz x:Nat):Int)]) (by simp[j2]) rfl rfl ?_
    simp
    refine QH (p:=P q.nx) (l:=L) (z:=((jsz x:Nat):Int)) (X:=2*(q.nx+512)+1) (uX:=q.nx+512) zS (qI.frame (fun u j=>?_) fun _ h=>h) (by simp[Nat.add_assoc]) (by simp[Nat.add_assoc]) (fun u j=>by rw[G]at j;simp[qr];exact j.1) zO fun kl c3=>?_
    ·rw[G]at j
     have:=j.2
     simp(disch:=first|(simp;done)|omega) [two_inj]
     intro e
     omega
    simp[q5,B]
    refine⟨(jd y).length,by rw[e1];simp,?_⟩
    rw[H]
    refine⟨y,L++[((jsz x:Nat):Int)],rfl,e2,.inr rfl,zS,by rw[← S,e1];simp[ints],.inr ⟨zS,q.nx+576,by simp[Nat.add_assoc],by simp[Nat.add_assoc,je7],?_⟩,by simp;omega⟩
    rw[G]
    simp
    omega
 ·have:i=8:=zO
  subst this
  simp[F]
  exact W4 (by simp[sd]) zS Q (fun u j=>by rw[G]at j;simp[sr];exact j.1)
end
section
end
section
end
theorem jnr (L:List Nat):(ints L).length=L.length:=by simp[ints]
section
end
end Go.Pv.T
namespace Go.Pv.T
open Go Go.Pv
end Go.Pv.T
namespace Go.Pv.T
open Go Go.Pv
/-! What goes before,by loops. -/
def sB (g:Hist') (a b:Nat):Bool:=Xx g a && (Xx g b && (decide (a<b) && sesAt g a == sesAt g b))
def fD2 (r:Nat→Nat→Bool) (k b0 b a:Nat):Bool:=if b<b0 then war r (k+1) b a else war r k b a
theorem jvk (r:Nat→Nat→Bool) (k a:Nat):war r (k+1) k a=war r k k a:=by
 rw[war]
 cases war r k k a <;> simp
theorem jz3 (r:Nat→Nat→Bool) (k b a:Nat):fD2 r k b b a=war r k b a:=by simp[fD2]
theorem jyn {r:Nat→Nat→Bool}{k c:Nat}(h:war r k c k=false) (b a:Nat):fD2 r k c b a=fD2 r k (c+1) b a:=by
 unfold fD2
 rcases Nat.lt_trichotomy b c with h1|h1|h1
 ·rw[if_pos h1,if_pos zO]
 ·subst h1
  rw[if_neg zO,if_pos zO,war,h,Bool.false_and,Bool.or_false]
 ·rw[if_neg zO,if_neg zO]
theorem jym (r:Nat→Nat→Bool) (k b a:Nat):fD2 r k 0 b a=war r k b a:=by simp[fD2]
theorem j3f {r:Nat→Nat→Bool}{k n b:Nat}(c:b<n) (a:Nat):fD2 r k n b a=war r (k+1) b a:=by simp[fD2,c]
section
end
theorem ju1 {l u n x:Nat}{kk:IntKind}(a:x<n):JP 1 (.osl l u 0 n 1) (.int kk (x:Int))=some (.ptr l u x):=idxN rfl a
theorem j1f {g:Hist'}{t:Nat}(a:t<g.ts.length):(g.ts.flatMap jn)[t*3]? = some (.int .i64 (sesAt g t)):=by
 have:=jR j7 g.ts a (by decide:0<3)
 rw[Nat.add_zero]at this
 rw[this]
 simp[jn,sesAt,a]
theorem jv7 (n:Nat) (v:V):QX n [v]=List.replicate n v:=by
 unfold QX
 refine List.ext_getElem zS fun i a b=>?_
 simp[Nat.mod_one]
@[simp] theorem eqVV_sl (ob:ZO) (neg nl:Bool) (t a:Option (Nat × Nat)) (n:Nat) (cs:List V):ju3 ob neg .sl (.sl t nl n cs) (.sl a true 0 [])=some (.bool (xor neg nl)):=rfl
end Go.Pv.T
namespace Go.Pv.T
open Go Go.Pv
end Go.Pv.T
namespace Go.Pv.T
open Go Go.Pv
end Go.Pv.T
namespace Go.Pv.T
open Go Go.Pv
end Go.Pv.T
namespace Go.Pv.T
open Go Go.Pv
end Go.Pv.T
namespace Go.Pv.T
open Go Go.Pv
section
end
theorem jvw {b:Type}{f:b→List V}{k:Nat}(c:∀a,(f a).length=k) (nl:Bool) (l:List b) (n:Nat) (kk:IntKind):Qi k none (some (.int kk ((min l.length n:Nat):Int))) (slOf nl f l)=some (.sl none nl (min l.length n) ((l.take n).flatMap f)):=by
 have d:=jq9 (kk:=kk) (t:=none) (nl:=nl) (sz:=k) (cs:=l.flatMap f) (n:=l.length) (k:=min l.length n) (Nat.min_le_left _ _) (j4 c _)
 refine Eq.trans d ?_
 rw[jac c]
 congr 2
 rcases Nat.le_total l.length n with h|h
 ·rw[Nat.min_eq_left h,List.take_length,List.take_of_length_le h]
 ·rw[Nat.min_eq_right h]
theorem jov {st:St}{k:Nat}{v:V}(h:v.pureLeaf=true):JC st (k+1) v=some v:=by
 cases v with
 | sl t b n cs=>cases t with
  | none=>rfl
  | some t=>cases h
 | osl l u a n s=>cases h
 | _=>simp[JC,h]
theorem Qh {st:St}{k:Nat}:∀ {l:List V},l.all V.pureLeaf=true→l.mapM (JC st (k+1))=some l
 | [],_=>rfl
 | v::l,h=>by
  rw[List.all_cons,Bool.and_eq_true]at h
  rw[List.mapM_cons,jov h.1,Qh h.2]
  rfl
theorem jxc (l:List Op'):(l.flatMap opC).all V.pureLeaf=true:=by
 rw[List.all_flatMap,List.all_eq_true]
 intro t _
 rfl
theorem jnh {f:V→Option V}:∀ {l m l' a:List V},l.mapM f=some l'→m.mapM f=some a→(l++m).mapM f=some (l'++a)
 | [],m,l',a,h,h'=>by
  cases (show some []=some l' from h)
  exact h'
 | v::l,m,l',a,h,h'=>by
  rw[List.mapM_cons]at h
  rw[List.cons_append,List.mapM_cons]
  cases c:f v with
  | none=>rw[c]at h;cases h
  | some e=>
   rw[c]at h
   cases b:l.mapM f with
   | none=>rw[b]at h;cases h
   | some r=>
    rw[b]at h
    cases (show some (e::r)=some l' from h)
    rw[jnh b h']
    rfl
def txU (p:Txn' × Nat):List V:=[.int .i64 p.1.s,.int .i64 p.1.f,.osl (2*p.2+1) p.2 0 p.1.ops.length 4]
@[simp] theorem WE (p:Txn' × Nat):(txU p).length=3:=rfl
structure InO (ob:ZO) (lo hi:Nat) (p:Txn' × Nat):Prop where
 nl:p.1.nl=false
 lo:lo≤p.2
 hi:p.2<hi
 ob:∃X,ob (2*p.2+1)=some ⟨p.2,.cells X⟩∧p.1.ops.length*4≤X.length∧X.take (p.1.ops.length*4)=p.1.ops.flatMap opC
theorem InO.frame {ob ob':ZO}{lo hi a:Nat}{p:Txn' × Nat}(h:InO ob lo hi p) (b:ob' (2*p.2+1)=ob (2*p.2+1)) (c:hi≤a):InO ob' lo a p :=
 ⟨h.nl,h.lo,by have:=h.hi;omega,by rw[b];exact h.ob⟩
def TsO (ob:ZO) (lo hi:Nat) (P:List (Txn' × Nat)) (v:V):Prop :=
 (∀p∈P,InO ob lo hi p)∧((P=[]∧v=.sl none true 0 [])∨(P≠[]∧∃u,lo≤u∧u<hi∧(∀p∈P,p.2≠u)∧v=.osl (2*u+1) u 0 P.length 3∧ob (2*u+1)=some ⟨u,.cells (P.flatMap txU)⟩))
theorem TsO.frame {ob ob':ZO}{lo hi a:Nat}{P:List (Txn' × Nat)}{v:V}(h:TsO ob lo hi P v) (g:∀u,lo≤u→u<hi→ob' (2*u+1)=ob (2*u+1)) (l:hi≤a):TsO ob' lo a P v:=by
 refine⟨fun p b=>(h.1 p b).frame (g _ (h.1 p b).lo (h.1 p b).hi) l,?_⟩
 rcases h.2 with c|⟨e,u,f,c,i,j,k⟩
 ·exact .inl c
 ·exact .inr ⟨e,u,f,zO,i,j,by rw[g u f c];exact k⟩
theorem jvv {st:St}{lo hi:Nat}{p:Txn' × Nat}(h:InO st.ob lo hi p) (i:st.ro≤lo):JC st 5 (.osl (2*p.2+1) p.2 0 p.1.ops.length 4)=some (slOf p.1.nl opC p.1.ops):=by
 obtain⟨X,c,g,e⟩:=h.ob
 have f:=h.lo
 have b:objCells st.ob (2*p.2+1) p.2=some X:=by simp[objCells,c]
 show((objCells st.ob (2*p.2+1) p.2).bind fun cs=>if Nat.ble st.ro p.2=true∧0+p.1.ops.length*4≤cs.length then (((cs.drop 0).take (p.1.ops.length*4)).mapM (JC st 4)).map fun a=>V.sl none false p.1.ops.length a else none)=_
 rw[b,Option.bind_some,if_pos ⟨Nat.ble_eq▸zO,zO⟩,List.drop_zero,e,Qh (jxc _),h.nl]
 rfl
theorem jir {st:St}{lo hi:Nat}(a:st.ro≤lo):∀ {P:List (Txn' × Nat)},(∀p∈P,InO st.ob lo hi p)→(P.flatMap txU).mapM (JC st 5)=some ((P.map (·.1)).flatMap jn)
 | [],_=>rfl
 | p::P,h=>by
  rw[List.flatMap_cons,List.map_cons,List.flatMap_cons]
  refine jnh ?_ (jir a fun q b=>h q (List.mem_cons_of_mem _ b))
  have:=jvv (h p (List.mem_cons_self ..)) a
  show[V.int .i64 p.1.s,.int .i64 p.1.f,.osl (2*p.2+1) p.2 0 p.1.ops.length 4].mapM (JC st 5)=_
  rw[List.mapM_cons,List.mapM_cons,List.mapM_cons,this]
  rfl
theorem TsO.out {st:St}{lo hi:Nat}{P:List (Txn' × Nat)}{v:V}(h:TsO st.ob lo hi P v) (e:st.ro≤lo):jcx st v P.isEmpty P.length ((P.map (·.1)).flatMap jn):=by
 rcases h.2 with⟨rfl,rfl⟩|⟨j,u,k,m,l,rfl,g⟩
 ·exact WH _ none true 0 []
 ·intro keep i
  have a:objCells st.ob (2*u+1) u=some (P.flatMap txU):=by simp[objCells,g]
  have c:JC st 6 (.osl (2*u+1) u 0 P.length 3)=some (.sl none false P.length ((P.map (·.1)).flatMap jn)):=by
   show((objCells st.ob (2*u+1) u).bind fun cs=>if Nat.ble st.ro u=true∧0+P.length*3≤cs.length then (((cs.drop 0).take (P.length*3)).mapM (JC st 5)).map fun b=>V.sl none false P.length b else none)=_
   rw[a,Option.bind_some,if_pos ⟨Nat.ble_eq▸zO,by rw[j4 WE];omega⟩,List.drop_zero,← j4 WE P,List.take_length,jir e h.1]
   rfl
  have f:P.isEmpty=false:=by cases P <;> simp_all
  rw[f]
  refine⟨_,by simp only[ji,c,Option.bind_some,a,Option.map_some];rfl,?_⟩
  split
  ·exact .inr ⟨_,rfl⟩
  ·exact .inl rfl
section
variable {Yf:YF}{st:St}{ub:Nat}{K:St→Nat→Prop}{d:Nat}
theorem jxo {y:Type}{f:y→List V}{l:List y}{z sz c:Nat}{s x:A}(r:eval E st.tm s=.osl (2*z+1) z 0 0 sz) (k:st.ob (2*z+1)=some ⟨z,.cells []⟩) (m:st.ro≤z)
 (v:slCells st.ob sz (eval E st.tm x)=some (l.flatMap f)) (w:∀a,(f a).length=sz) (o:0<sz) (hp:(l.flatMap f).all V.leaf=true) (B:l.length*c≤140737488355328) (j:l.length≤140737488355328)
 (h:∀ (g:St) (u:Nat),(u=z∨u=ub)→g.ob (2*u+1)=some ⟨u,.cells (l.flatMap f)⟩→(∀b,b≠2*z+1→b≠2*ub+1→g.ob b=st.ob b)→(∀t,g.tm t=if t=d then .osl (2*u+1) u 0 l.length sz else st.tm t)→g.df=st.df→g.ro=st.ro→g.fb=st.fb→g.tk=st.tk→K g (ub+64)) :
 j6 E Yf ⟨some d,.append true sz c s x,none,true⟩ st ub K:=by
 cases l with
 | nil=>
  rw[jP _ rfl rfl]
  simp only[aop,r,v,Option.bind_some,List.flatMap_nil,if_true]
  have q:objCells st.ob (2*z+1) z=some []:=by simp[objCells,k]
  rw[q,Option.bind_some,We]
  show WZ K st (some d) ub _
  rw[ja3]
  exact h _ z (.inl rfl) (by simpa using k) (fun b _ _=>by simp) (fun t=>by rw[jki];rfl) rfl rfl rfl zS
 | cons a l=>
  have i:((a::l).flatMap f).length / sz=(a::l).length:=by rw[j4 w];exact Nat.mul_div_cancel _ o
  have p:(a::l).flatMap f≠[]:=fun e=>by have:=congrArg List.length e;rw[j4 w]at this;have:=Nat.mul_pos (show 0<(a::l).length by simp) o;simp_all
  refine XN (l:=2*z+1) (u:=z) (n:=0) (cs:=[]) (ys:=(a::l).flatMap f) r v k p m zS o hp (by rw[i,Nat.zero_add];exact B) (by rw[i,Nat.zero_add];exact j) ?_
  rw[ja3,i,Nat.zero_add]
  refine h _ ub (.inr rfl) ?_ (fun b F D=>?_) (fun t=>by rw[jki];rfl) rfl rfl rfl ?_
  ·simp[jG]
  ·simp[jG,F,D]
  ·rfl
theorem jlz {lo hi:Nat}{P:List (Txn' × Nat)}{p:Txn' × Nat}{s x:A}(j:TsO st.ob lo hi P (eval E st.tm s)) (v:hi≤ub) (z:st.ro≤lo) (m:slCells st.ob 3 (eval E st.tm x)=some (txU p)) (hp:InO st.ob hi ub p) (F:lo≤hi) (k:P.length≤100000)
 (h:∀ (c:St) (o:V),TsO c.ob lo (ub+64) (P++[p]) o→(∀b,(∀u,lo≤u→u<hi→b≠2*u+1)→b≠2*ub+1→c.ob b=st.ob b)→(∀t,c.tm t=if t=d then o else st.tm t)→c.df=st.df→c.ro=st.ro→c.fb=st.fb→c.tk=st.tk→K c (ub+64)) :
 j6 E Yf ⟨some d,.append true 3 40 s x,none,true⟩ st ub K:=by
 have D:=hp.lo
 have B:=hp.hi
 rcases j.2 with⟨rfl,G⟩|⟨L,u,w,H,y,I,J⟩
 ·refine XE (n:=0) (cs:=[]) (ys:=txU p) G m (by simp[txU]) zD rfl zS zS ?_
  rw[ja3,show(txU p).length / 3=1 by rw[WE]]
  refine h _ (.osl (2*ub+1) ub 0 1 3) ⟨?_,.inr ⟨zS,ub,zO,zO,?_,zS,?_⟩⟩ (fun b r i=>?_) (fun t=>by rw[jki];rfl) rfl rfl rfl ?_
  ·intro q a
   simp only[List.nil_append,List.mem_singleton]at a
   subst a
   refine⟨hp.nl,zO,zO,?_⟩
   have:¬ 2*q.2=2*ub:=zO
   simpa[jG,Jy,this] using hp.ob
  ·intro q a
   simp only[List.nil_append,List.mem_singleton]at a
   subst a
   omega
  ·simp[jG,Jy]
  ·simp[jG,Jy,i]
  ·rfl
 ·refine XN (l:=2*u+1) (u:=u) (n:=P.length) (cs:=P.flatMap txU) (ys:=txU p) I m J (by simp[txU]) zO (by rw[j4 WE];omega) zD rfl (by simp;omega) (by simp;omega) ?_
  rw[ja3,show(txU p).length / 3=1 by rw[WE]]
  refine h _ (.osl (2*ub+1) ub 0 (P.length+1) 3) ⟨?_,.inr ⟨zS,ub,zO,zO,?_,zS,?_⟩⟩ (fun b r i=>?_) (fun t=>by rw[jki];rfl) rfl rfl rfl ?_
  ·intro q a
   rw[List.mem_append,List.mem_singleton]at a
   rcases a with a|rfl
   ·have hi:=j.1 q a
    refine⟨hi.nl,hi.lo,by have:=hi.hi;omega,?_⟩
    have g:¬ 2*q.2=2*ub:=by have:=hi.hi;omega
    have f:¬ 2*q.2=2*u:=by have:=y q a;omega
    simpa[jG,g,f] using hi.ob
   ·refine⟨hp.nl,zO,zO,?_⟩
    have g:¬ 2*q.2=2*ub:=zO
    have f:¬ 2*q.2=2*u:=zO
    simpa[jG,g,f] using hp.ob
  ·intro q a
   rw[List.mem_append,List.mem_singleton]at a
   rcases a with a|rfl
   ·have:=(j.1 q a).hi;omega
   ·omega
  ·simp[jG]
   exact List.take_of_length_le (by rw[j4 WE];omega)
  ·have e:=r u w H
   simp[jG,e,i]
  ·rfl
end
section
variable {E:Env}{st:St}{ub:Nat}{K:List FP→St→Prop}{d:Option Nat}{r:List AOpr}
theorem JN {sz n:Nat}{zero:List V}{a:List (Nat × Nat × A)}{cs:List V}(c:fill zero (jt (eval E st.tm) a)=some cs) (b:cs.length=n*sz) (hp:cs.all V.leaf=true)
 (h:Wt E r K (eval E st.tm) (.buildSl true sz zero a n) st d ub { v:=.osl (2*ub+1) ub 0 n sz,obs:=[(2*ub+1,⟨ub,.cells cs⟩)] }):jE E (⟨d,.buildSl true sz zero a n,none,true⟩::r) st ub K:=by
 rw[Jo rfl]
 simp only[aop,c,Option.bind_some,if_true]
 rw[if_pos ⟨b,hp⟩,Jg,jK]
 exact h
end
theorem jek {a b:Type}{l:List a}{m:List b}(h:l.length=m.length):l.isEmpty=m.isEmpty:=by
 cases l <;> cases m <;> simp_all
def StO (ob:ZO) (lo hi:Nat) (l:List (List UInt8)) (v:V):Prop :=
 (l=[]∧v=.sl none true 0 [])∨(l≠[]∧∃u,lo≤u∧u<hi∧v=.osl (2*u+1) u 0 l.length 1∧ob (2*u+1)=some ⟨u,.cells (l.flatMap Jk)⟩)
theorem StO.frame {ob ob':ZO}{lo hi lo' a:Nat}{l:List (List UInt8)}{v:V}(h:StO ob lo hi l v) (e:∀u,lo≤u→u<hi→ob' (2*u+1)=ob (2*u+1)) (i:lo'≤lo) (j:hi≤a):StO ob' lo' a l v:=by
 rcases h with h|⟨b,u,c,f,d,g⟩
 ·exact .inl h
 ·exact .inr ⟨b,u,zO,zO,d,by rw[e u c f];exact g⟩
theorem StO.leaf {ob:ZO}{lo hi:Nat}{l:List (List UInt8)}{v:V}(h:StO ob lo hi l v):v.leaf=true∧v.cells=[v]:=by
 rcases h with⟨_,rfl⟩|⟨_,u,_,_,rfl,_⟩ <;> exact⟨rfl,rfl⟩
theorem TsO.leaf {ob:ZO}{lo hi:Nat}{P:List (Txn' × Nat)}{v:V}(h:TsO ob lo hi P v):v.leaf=true∧v.cells=[v]:=by
 rcases h.2 with⟨_,rfl⟩|⟨_,u,_,_,_,rfl,_⟩ <;> exact⟨rfl,rfl⟩
theorem StO.out {st:St}{lo hi:Nat}{l:List (List UInt8)}{v:V}(h:StO st.ob lo hi l v) (f:st.ro≤lo):jcx st v l.isEmpty l.length (l.flatMap Jk):=by
 rcases h with⟨rfl,rfl⟩|⟨c,u,d,e,rfl,b⟩
 ·exact WH _ none true 0 []
 ·have a:l.isEmpty=false:=by cases l <;> simp_all
  rw[a]
  exact jis b (by rw[j4 Y9,Nat.mul_one]) zO (by rw[List.all_flatMap,List.all_eq_true];intro _ _;rfl)
theorem jD (st:St) (d:Option Nat) (v:V) (l k:Nat) (o':Obj') (ks:List Nat):(st.app d { v:=v,obs:=[(l,o')],kill:=ks }).ob k=if k=l then some o' else if ks.any (Nat.beq k) then none else st.ob k:=by
 simp[St.app,JK,j3]
theorem jei {E:Env}{st:St}{ub:Nat}{K:List FP→St→Prop}{d:Option Nat}{r:List AOpr}{lo hi:Nat}{l:List (List UInt8)}{c:List UInt8}{s x:A}(w:StO st.ob lo hi l (eval E st.tm s)) (j:slCells st.ob 1 (eval E st.tm x)=some (Jk c)) (p:st.ro≤lo) (i:l.length≤1000)
 (h:∀m:List Nat,(∀k∈m,∃u,lo≤u∧u<hi∧k=2*u+1)→Wt E r K (eval E st.tm) (.append true 1 16 s x) st d ub { v:=.osl (2*ub+1) ub 0 (l.length+1) 1,obs:=[(2*ub+1,⟨ub,.cells ((l++[c]).flatMap Jk)⟩)],kill:=m }) :
 jE E (⟨d,.append true 1 16 s x,none,true⟩::r) st ub K:=by
 rw[Jo rfl]
 rcases w with⟨rfl,q⟩|⟨z,u,n,t,o,y⟩
 ·simp only[aop,q,j,Option.bind_some]
  rw[if_neg (by simp[Jk]),if_pos (show(true && true)=true from rfl),if_pos ⟨zD,rfl,by simp[Jk],by simp[Jk]⟩,Jg,jK]
  have:=h [] (fun k b=>by cases b)
  have e:([]++[c]).flatMap Jk=Jk c:=zS
  rw[e]at this
  have f:(Jk c).length / 1=1:=by simp[Jk]
  rw[f]
  exact this
 ·have g:objCells st.ob (2*u+1) u=some (l.flatMap Jk):=by simp[objCells,y]
  simp only[aop,o,j,Option.bind_some,g]
  have a:(l.flatMap Jk).length=l.length:=by rw[j4 Y9,Nat.mul_one]
  rw[if_neg (by simp[Jk]),if_pos ⟨Nat.ble_eq▸zO,trivial,trivial,by rw[a];omega,zD,rfl,by simp[Jk];omega,by simp[Jk];omega⟩,jK]
  have:=h [2*u+1] (fun k b=>by simp only[List.mem_singleton]at b;exact⟨u,n,t,b⟩)
  have e:(l++[c]).flatMap Jk=(l.flatMap Jk).take (l.length*1)++Jk c:=by
   rw[List.take_of_length_le (by rw[a];omega),List.flatMap_append]
   simp
  rw[e]at this
  have f:(Jk c).length / 1=1:=by simp[Jk]
  rw[f]
  exact this
theorem j0g {ks:List Nat}{key:Nat}(h:∀k∈ks,key≠k):ks.any (Nat.beq key)=false:=by
 rw[List.any_eq_false]
 intro k a b
 exact h k a (Nat.eq_of_beq_eq_true b)
def jfi:C:=tlC (tlC S51.body)
def jfh:C:=tlC jfi
def jhy:C:=tlC jfh
def jyi:C:=tlC jhy
structure FewO (h:Hist') (ob0:ZO) (ub ro:Nat) (s:St) (a b N1 N2:Nat) (Sv Kv Tv:V) (P:List (Txn' × Nat)):Prop where
 t1:s.tm 1=.ptr (2*ub+1) ub 0
 t2:s.tm 2=.ptr (2*(ub+64)+1) (ub+64) 0
 t3:s.tm 3=.ptr (2*(ub+192)+1) (ub+192) 0
 d:s.df=[]
 ro:s.ro=ro
 o1:s.ob (2*ub+1)=some ⟨ub,.cells (histC h)⟩
 o2:s.ob (2*(ub+64)+1)=some ⟨ub+64,.cells [.sl none true 0 [],.sl none true 0 [],.sl none true 0 []]⟩
 o3:s.ob (2*(ub+192)+1)=some ⟨ub+192,.cells [Sv,Kv,Tv]⟩
 gS:StO s.ob (ub+256) N1 (YY a h.ss) Sv
 gK:StO s.ob N1 N2 (YY b h.ks) Kv
 gT:TsO s.ob N2 s.nx P Tv
 n0:ub+256≤N1
 n1:N1≤N2
 n2:N2≤s.nx
 fr:∀key,(∀m,ub≤m→key≠2*m+1)→s.ob key=ob0 key
theorem few0S {h:Hist'}{Yf:YF}{ob:ZO}{tk:Nat→Bool}{ro base ub:Nat}{Q:Ex→St→Prop}(d:ro≤ub) (a:∀s,FewO h ob ub ro s 0 0 s.nx s.nx (.sl none true 0 []) (.sl none true 0 []) (.sl none true 0 []) []→wpC E Yf jfi s Q) :
 wpC E Yf S51.body (Jm [.agg (histC h)] ob tk ro base ub) Q:=by
 have e:S51.body=.seq (hdC S51.body) (.seq (hdC (tlC S51.body)) jfi):=rfl
 rw[e]
 simp[hdC,tlC,S51,histC,objCells,j2]
 have a1:¬ 2*ub=2*(ub+64):=zO
 have a2:¬ 2*ub=2*(ub+64+64+64):=zO
 have a3:¬ 2*(ub+64)=2*(ub+64+64+64):=zO
 refine⟨zO,a _ ⟨zS,zS,zS,zS,zS,by simp[histC,a1,a2],by simp[a3],zS,.inl ⟨rfl,rfl⟩,.inl ⟨rfl,rfl⟩,⟨zS,.inl ⟨rfl,rfl⟩⟩,zS,zR,zR,fun c b=>?_⟩⟩
 have g:=b ub zR
 have f:=b (ub+64) zO
 have i:=b (ub+64+64+64) zO
 simp[g,f,i]
theorem jyl:jfi=.seq (hdC jfi) jfh:=rfl
theorem few1O {h:Hist'}{Yf:YF}{ob0:ZO}{ub ro:Nat}{K:St}{Q:Ex→St→Prop}(b9:ro≤ub) (hs:FewO h ob0 ub ro K 0 0 K.nx K.nx (.sl none true 0 []) (.sl none true 0 []) (.sl none true 0 []) [])
 (r:∀s D,FewO h ob0 ub ro s 25 0 s.nx s.nx D (.sl none true 0 []) (.sl none true 0 []) []→wpC E Yf jfh s Q):wpC E Yf jfi K Q:=by
 rw[jyl]
 obtain⟨p,J,t,H,fr,v,I,z,T,gK,gT,n0,n1,n2,G⟩:=hs
 simp[hdC,jfi,tlC,S51]
 refine j8 [(4,4),(9,37)] 25 (fun i s=>s.tm 4=.int .i64 i∧i≤h.ss.length∧∃D,FewO h ob0 ub ro s i 0 s.nx s.nx D (.sl none true 0 []) (.sl none true 0 []) []) rfl rfl ?_ ?_
 ·refine⟨zS,zS,.sl none true 0 [],⟨by simp[p],by simp[J],by simp[t],by simp[H],by simp[fr],by simp[v],by simp[I],by simp[z],.inl ⟨rfl,rfl⟩,.inl ⟨rfl,rfl⟩,⟨zS,.inl ⟨rfl,rfl⟩⟩,by simp;omega,zR,zR,fun a b=>by simp[G a b]⟩⟩
 rintro i s hi ⟨L,M,D,p,J,t,H,fr,v,I,z,T,gK,gT,n0,n1,n2,G⟩ f
 clear f
 have n:¬ (i<h.ss.length∧i<25)→∀g:St,(g.tm 1=s.tm 1∧g.tm 2=s.tm 2∧g.tm 3=s.tm 3)→g.df=s.df→g.ro=s.ro→g.ob=s.ob→s.nx≤g.nx→wpC E Yf jfh g Q:=by
  intro hx g ⟨q1,q2,q3⟩ e2 e3 B e5
  refine r g D ⟨q1.trans p,q2.trans J,q3.trans t,by rw[e2];exact H,by rw[e3];exact fr,by rw[B];exact v,by rw[B];exact I,by rw[B];exact z,?_,.inl ⟨rfl,rfl⟩,⟨zS,.inl ⟨rfl,rfl⟩⟩,zO,zR,zR,fun a b=>by rw[B];exact G a b⟩
  rw[← jn4 M hi hx,B]
  exact T.frame (fun _ _ _=>rfl) zR e5
 have q:s.ob (2*ub+1)=some ⟨ub,.cells [slOf h.sn Jk h.ss,slOf h.kn Jk h.ks,slOf h.tn jn h.ts]⟩:=v
 by_cases e:i<h.ss.length
 ·by_cases o:i<25
  ·have hw:=jb o zO
   have d:(i:Int)<25:=zO
   obtain⟨c,hc⟩:∃c,h.ss[i]=c:=⟨_,rfl⟩
   have F:=jfn h.ss e
   have m:=jj9 e o
   rw[hc]at F m
   have x:=jd9 c.length 100
   have y:=jmx (l:=c) (kk:=.i64) (Nat.min_le_left c.length 100)
   have O:=jdj c
   rw[O]at y
   rw[show((100:Nat):Int)=100 from rfl]at x
   simp[x,y,L,p,q,objCells,e,d,t,z,j5 Y9,F]
   refine JN (cs:=[.str (c.take 100)]) (by simp[j2]) rfl rfl ?_
   simp
   have b6:s.nx≤(s.nx+64+64+64+64+64+64+64+64+64+64+64+64+64+64+64+64+64+64+64+64+64+64+64+64):=zO
   have b5:s.nx≤(s.nx+64+64+64+64+64+64+64+64+64+64+64+64+64+64+64+64+64+64+64+64+64+64+64+64+64):=zO
   have b8:(s.nx+64+64+64+64+64+64+64+64+64+64+64+64+64+64+64+64+64+64+64+64+64+64+64+64)<(s.nx+64+64+64+64+64+64+64+64+64+64+64+64+64+64+64+64+64+64+64+64+64+64+64+64+64):=zO
   have b7:=jn2 i h.ss
   refine jei (lo:=ub+256) (hi:=s.nx) (l:=YY i h.ss) (c:=c.take 100) ?_ (by simp[slCells,objCells];rfl) (by simp[fr];omega) zO fun ks U=>?_
   ·simp
    refine T.frame (fun u N P=>?_) zR zR
    have e1:¬ 2*u=2*(s.nx+64+64+64+64+64+64+64+64+64+64+64+64+64+64+64+64+64+64+64+64+64+64+64+64):=zO
    simp[e1]
   rw[← m]
   have w:(YY i h.ss).length+1=(YY (i+1) h.ss).length:=by rw[m];simp
   rw[w]
   have j:∀a,(∀u,ub+256≤u→u<s.nx→a≠2*u+1)→ks.any (Nat.beq a)=false:=fun a b=>j0g fun k b0=>by
    obtain⟨u,N,P,h3⟩:=U k b0
    rw[h3];exact b u N P
   have X:=j (2*ub+1) (fun u _ _=>by omega)
   have a0:=j (2*(ub+64)+1) (fun u _ _=>by omega)
   have Z:=j (2*(ub+192)+1) (fun u _ _=>by omega)
   have w1:¬ 2*ub=2*(s.nx+64+64+64+64+64+64+64+64+64+64+64+64+64+64+64+64+64+64+64+64+64+64+64+64+64):=zO
   have w2:¬ 2*(ub+64)=2*(s.nx+64+64+64+64+64+64+64+64+64+64+64+64+64+64+64+64+64+64+64+64+64+64+64+64+64):=zO
   have w3:¬ 2*(ub+192)=2*(s.nx+64+64+64+64+64+64+64+64+64+64+64+64+64+64+64+64+64+64+64+64+64+64+64+64+64):=zO
   have w4:¬ 2*ub=2*(s.nx+64+64+64+64+64+64+64+64+64+64+64+64+64+64+64+64+64+64+64+64+64+64+64+64):=zO
   have w5:¬ 2*(ub+64)=2*(s.nx+64+64+64+64+64+64+64+64+64+64+64+64+64+64+64+64+64+64+64+64+64+64+64+64):=zO
   have w6:¬ 2*(ub+192)=2*(s.nx+64+64+64+64+64+64+64+64+64+64+64+64+64+64+64+64+64+64+64+64+64+64+64+64):=zO
   have w7:¬ 2*(s.nx+64+64+64+64+64+64+64+64+64+64+64+64+64+64+64+64+64+64+64+64+64+64+64+64+64)=2*(ub+192):=zO
   have w8:¬ 2*ub=2*(ub+192):=zO
   have w9:¬ 2*(ub+64)=2*(ub+192):=zO
   simp[t,objCells,jD,Z,w3,w6,z,fr,j2,L,hw]
   refine⟨zO,?_,?_⟩
   ·simp[Jw,QR,Qv,jbf,rdOb,rdTk,lOf,Delta.wo,Delta.wt]
    exact nbeq zO
   have S:YY (i+1) h.ss≠[]:=by rw[m];simp
   refine⟨o,zO,.osl (2*(s.nx+64+64+64+64+64+64+64+64+64+64+64+64+64+64+64+64+64+64+64+64+64+64+64+64+64)+1) (s.nx+64+64+64+64+64+64+64+64+64+64+64+64+64+64+64+64+64+64+64+64+64+64+64+64+64) 0 (YY (i+1) h.ss).length 1,⟨by simp[p],by simp[J],by simp[t],by simp[H],by simp[fr],by simp[jD,X,w1,w4,w8,v],by simp[jD,a0,w2,w5,w9,I],zS,
    .inr ⟨S,(s.nx+64+64+64+64+64+64+64+64+64+64+64+64+64+64+64+64+64+64+64+64+64+64+64+64+64),zO,zS,rfl,by simp[jD,w7]⟩,.inl ⟨rfl,rfl⟩,⟨zS,.inl ⟨rfl,rfl⟩⟩,by simp;omega,zR,zR,fun a b=>?_⟩⟩
   have k1:=b (ub+192) zO
   have k2:=b (s.nx+64+64+64+64+64+64+64+64+64+64+64+64+64+64+64+64+64+64+64+64+64+64+64+64+64) zO
   have k3:=b (s.nx+64+64+64+64+64+64+64+64+64+64+64+64+64+64+64+64+64+64+64+64+64+64+64+64) zO
   have k4:=j a (fun u N P=>b u zO)
   simp[jD,k1,k2,k3,k4]
   exact G a b
  ·have d:¬ (i:Int)<25:=zO
   simp[L,p,q,objCells,e,d]
   exact n zO _ ⟨zS,zS,zS⟩ zS zS (by funext k;simp) (by simp;omega)
 ·simp[L,p,q,objCells,e]
  exact n zO _ ⟨zS,zS,zS⟩ zS zS (by funext k;simp) (by simp;omega)
theorem jyk:jfh=.seq (hdC jfh) jhy:=rfl
theorem few2O {h:Hist'}{Yf:YF}{ob0:ZO}{ub ro:Nat}{s0:St}{Q:Ex→St→Prop}{B:Nat}{S0:V}(c1:ro≤ub) (hs:FewO h ob0 ub ro s0 25 0 B s0.nx S0 (.sl none true 0 []) (.sl none true 0 []) [])
 (r:∀s F,FewO h ob0 ub ro s 25 45 B s.nx S0 F (.sl none true 0 []) []→wpC E Yf jhy s Q):wpC E Yf jfh s0 Q:=by
 rw[jyk]
 obtain⟨p,N,v,J,fr,w,K,D,M,gK,gT,O,n1,n2,I⟩:=hs
 simp[hdC,jfh,jfi,tlC,S51]
 refine j8 [(5,5),(38,66)] 45 (fun i s=>s.tm 5=.int .i64 i∧i≤h.ks.length∧∃F,FewO h ob0 ub ro s 25 i B s.nx S0 F (.sl none true 0 []) []) rfl rfl ?_ ?_
 ·refine⟨zS,zS,.sl none true 0 [],⟨by simp[p],by simp[N],by simp[v],by simp[J],by simp[fr],by simp[w],by simp[K],by simp[D],M.frame (fun _ _ _=>by simp) zR zR,.inl ⟨rfl,rfl⟩,⟨zS,.inl ⟨rfl,rfl⟩⟩,O,by simp;omega,zR,fun a b=>by simp[I a b]⟩⟩
 rintro i s hi ⟨P,S,F,p,N,v,J,fr,w,K,D,M,gK,gT,O,n1,n2,I⟩ f
 clear f
 have n:¬ (i<h.ks.length∧i<45)→∀j:St,(j.tm 1=s.tm 1∧j.tm 2=s.tm 2∧j.tm 3=s.tm 3)→j.df=s.df→j.ro=s.ro→j.ob=s.ob→s.nx≤j.nx→wpC E Yf jhy j Q:=by
  intro hx j ⟨q1,q2,q3⟩ e2 e3 t e5
  refine r j F ⟨q1.trans p,q2.trans N,q3.trans v,by rw[e2];exact J,by rw[e3];exact fr,by rw[t];exact w,by rw[t];exact K,by rw[t];exact D,by rw[t];exact M,?_,⟨zS,.inl ⟨rfl,rfl⟩⟩,O,zO,zR,fun a b=>by rw[t];exact I a b⟩
  rw[← jn4 S hi hx,t]
  exact gK.frame (fun _ _ _=>rfl) zR e5
 have q:s.ob (2*ub+1)=some ⟨ub,.cells [slOf h.sn Jk h.ss,slOf h.kn Jk h.ks,slOf h.tn jn h.ts]⟩:=w
 by_cases g:i<h.ks.length
 ·by_cases o:i<45
  ·have hw:=jb o zO
   have e:(i:Int)<45:=zO
   obtain⟨c,hc⟩:∃c,h.ks[i]=c:=⟨_,rfl⟩
   have G:=jfn h.ks g
   have m:=jj9 g o
   rw[hc]at G m
   have y:=jd9 c.length 100
   have z:=jmx (l:=c) (kk:=.i64) (Nat.min_le_left c.length 100)
   have U:=jdj c
   rw[U]at z
   rw[show((100:Nat):Int)=100 from rfl]at y
   simp[y,z,P,p,q,objCells,g,e,v,D,j5 Y9,G]
   refine JN (cs:=[.str (c.take 100)]) (by simp[j2]) rfl rfl ?_
   simp
   have b8:s.nx≤(s.nx+64+64+64+64+64+64+64+64+64+64+64+64+64+64+64+64+64+64+64+64+64+64+64+64):=zO
   have b7:s.nx≤(s.nx+64+64+64+64+64+64+64+64+64+64+64+64+64+64+64+64+64+64+64+64+64+64+64+64+64):=zO
   have c0:(s.nx+64+64+64+64+64+64+64+64+64+64+64+64+64+64+64+64+64+64+64+64+64+64+64+64)<(s.nx+64+64+64+64+64+64+64+64+64+64+64+64+64+64+64+64+64+64+64+64+64+64+64+64+64):=zO
   have b9:=jn2 i h.ks
   refine jei (lo:=B) (hi:=s.nx) (l:=YY i h.ks) (c:=c.take 100) ?_ (by simp[slCells,objCells];rfl) (by simp[fr];omega) zO fun ks Z=>?_
   ·simp
    refine gK.frame (fun u H L=>?_) zR zR
    have e1:¬ 2*u=2*(s.nx+64+64+64+64+64+64+64+64+64+64+64+64+64+64+64+64+64+64+64+64+64+64+64+64):=zO
    simp[e1]
   rw[← m]
   have x:(YY i h.ks).length+1=(YY (i+1) h.ks).length:=by rw[m];simp
   rw[x]
   have d:∀a,(∀u,B≤u→u<s.nx→a≠2*u+1)→ks.any (Nat.beq a)=false:=fun a b=>j0g fun k b6=>by
    obtain⟨u,H,L,h3⟩:=Z k b6
    rw[h3];exact b u H L
   have a0:=d (2*ub+1) (fun u _ _=>by omega)
   have b5:=d (2*(ub+64)+1) (fun u _ _=>by omega)
   have b0:=d (2*(ub+192)+1) (fun u _ _=>by omega)
   have w1:¬ 2*ub=2*(s.nx+64+64+64+64+64+64+64+64+64+64+64+64+64+64+64+64+64+64+64+64+64+64+64+64+64):=zO
   have w2:¬ 2*(ub+64)=2*(s.nx+64+64+64+64+64+64+64+64+64+64+64+64+64+64+64+64+64+64+64+64+64+64+64+64+64):=zO
   have w3:¬ 2*(ub+192)=2*(s.nx+64+64+64+64+64+64+64+64+64+64+64+64+64+64+64+64+64+64+64+64+64+64+64+64+64):=zO
   have w4:¬ 2*ub=2*(s.nx+64+64+64+64+64+64+64+64+64+64+64+64+64+64+64+64+64+64+64+64+64+64+64+64):=zO
   have w5:¬ 2*(ub+64)=2*(s.nx+64+64+64+64+64+64+64+64+64+64+64+64+64+64+64+64+64+64+64+64+64+64+64+64):=zO
   have w6:¬ 2*(ub+192)=2*(s.nx+64+64+64+64+64+64+64+64+64+64+64+64+64+64+64+64+64+64+64+64+64+64+64+64):=zO
   have w7:¬ 2*(s.nx+64+64+64+64+64+64+64+64+64+64+64+64+64+64+64+64+64+64+64+64+64+64+64+64+64)=2*(ub+192):=zO
   have w8:¬ 2*ub=2*(ub+192):=zO
   have w9:¬ 2*(ub+64)=2*(ub+192):=zO
   simp[v,objCells,jD,b0,w3,w6,D,fr,j2,P,hw]
   refine⟨zO,?_,?_⟩
   ·simp[Jw,QR,Qv,jbf,rdOb,rdTk,lOf,Delta.wo,Delta.wt]
    exact nbeq zO
   have X:YY (i+1) h.ks≠[]:=by rw[m];simp
   refine⟨o,zO,.osl (2*(s.nx+64+64+64+64+64+64+64+64+64+64+64+64+64+64+64+64+64+64+64+64+64+64+64+64+64)+1) (s.nx+64+64+64+64+64+64+64+64+64+64+64+64+64+64+64+64+64+64+64+64+64+64+64+64+64) 0 (YY (i+1) h.ks).length 1,⟨by simp[p],by simp[N],by simp[v],by simp[J],by simp[fr],by simp[jD,a0,w1,w4,w8,w],by simp[jD,b5,w2,w5,w9,K],zS,
    M.frame (fun u H L=>?_) zR zR,.inr ⟨X,(s.nx+64+64+64+64+64+64+64+64+64+64+64+64+64+64+64+64+64+64+64+64+64+64+64+64+64),zO,zS,rfl,by simp[jD,w7]⟩,⟨zS,.inl ⟨rfl,rfl⟩⟩,O,by first|omega|(simp;omega),zR,fun a b=>?_⟩⟩
   ·have k1:¬ 2*u=2*(ub+192):=zO
    have k2:¬ 2*u=2*(s.nx+64+64+64+64+64+64+64+64+64+64+64+64+64+64+64+64+64+64+64+64+64+64+64+64+64):=zO
    have k3:¬ 2*u=2*(s.nx+64+64+64+64+64+64+64+64+64+64+64+64+64+64+64+64+64+64+64+64+64+64+64+64):=zO
    have T:=d (2*u+1) (fun u' _ _=>by omega)
    simp[jD,k1,k2,k3,T]
   have k1:=b (ub+192) zO
   have k2:=b (s.nx+64+64+64+64+64+64+64+64+64+64+64+64+64+64+64+64+64+64+64+64+64+64+64+64+64) zO
   have k3:=b (s.nx+64+64+64+64+64+64+64+64+64+64+64+64+64+64+64+64+64+64+64+64+64+64+64+64) zO
   have T:=d a (fun u H L=>b u zO)
   simp[jD,k1,k2,k3,T]
   exact I a b
  ·have e:¬ (i:Int)<45:=zO
   simp[P,p,q,objCells,g,e]
   exact n zO _ ⟨zS,zS,zS⟩ zS zS (by funext k;simp) (by simp;omega)
 ·simp[P,p,q,objCells,g]
  exact n zO _ ⟨zS,zS,zS⟩ zS zS (by funext k;simp) (by simp;omega)
section
end
section
end
section
end
section
end
section
end
section
end
section
end
section
end
section
end
def H20:Hist':=⟨false,[[115]],false,[[120]],false,[⟨0,1,false,[⟨false,0,⟨0,0⟩⟩]⟩]⟩
end Go.Pv.T
namespace Go.Pv.T
open Go Go.Pv
end Go.Pv.T
namespace Go.Pv.T
open Go Go.Pv
end Go.Pv.T
namespace Go.Pv.T
open Go Go.Pv
end Go.Pv.T
namespace Go.Pv.T
open Go Go.Pv
theorem jyj:jhy=.seq (hdC jhy) jyi:=rfl
theorem few3O {h:Hist'}{Yf:YF}{ob0:ZO}{ub ro:Nat}{s0:St}{Q:Ex→St→Prop}{N1 N2:Nat}{S0 K0:V}(c6:ro≤ub) (hs:FewO h ob0 ub ro s0 25 45 N1 N2 S0 K0 (.sl none true 0 []) [])
 (D:∀s F P,P.map (·.1)=(h.ts.take 45).map fewT→FewO h ob0 ub ro s 25 45 N1 N2 S0 K0 F P→wpC E Yf jyi s Q):wpC E Yf jhy s0 Q:=by
 rw[jyj]
 obtain⟨w,f2,G,fd,fr,H,o2,U,gS,gK,gT,n0,n1,n2,ff⟩:=hs
 simp[hdC,jhy,jfh,jfi,tlC,S51]
 refine j8 [(6,7),(67,98)] 45 (fun i s=>s.tm 6=.int .i64 i∧i≤h.ts.length∧∃F P,P.map (·.1)=(h.ts.take i).map fewT∧FewO h ob0 ub ro s 25 45 N1 N2 S0 K0 F P) rfl rfl ?_ ?_
 ·refine⟨zS,zS,.sl none true 0 [],[],zS,⟨by simp[w],by simp[f2],by simp[G],by simp[fd],by simp[fr],by simp[H],by simp[o2],by simp[U],gS.frame (fun _ _ _=>by simp) zR zR,gK.frame (fun _ _ _=>by simp) zR zR,⟨zS,.inl ⟨rfl,rfl⟩⟩,n0,n1,by simp;omega,fun a d=>by simp[ff a d]⟩⟩
 rintro i s hi ⟨h4,b0,F,P,hP,w,f2,G,fd,fr,H,o2,U,gS,gK,gT,n0,n1,n2,ff⟩ f
 clear f
 have q:¬ (i<h.ts.length∧i<45)→∀m:St,(m.tm 1=s.tm 1∧m.tm 2=s.tm 2∧m.tm 3=s.tm 3)→m.df=s.df→m.ro=s.ro→m.ob=s.ob→s.nx≤m.nx→wpC E Yf jyi m Q:=by
  intro hx m ⟨q1,q2,q3⟩ o e3 B e5
  refine D m F P (hP.trans (j3c b0 hi hx)) ⟨q1.trans w,q2.trans f2,q3.trans G,by rw[o];exact fd,by rw[e3];exact fr,by rw[B];exact H,by rw[B];exact o2,by rw[B];exact U,by rw[B];exact gS,by rw[B];exact gK,?_,n0,n1,zO,fun a d=>by rw[B];exact ff a d⟩
  exact gT.frame (fun _ _ _=>by rw[B]) e5
 have x:s.ob (2*ub+1)=some ⟨ub,.cells [slOf h.sn Jk h.ss,slOf h.kn Jk h.ks,slOf h.tn jn h.ts]⟩:=H
 by_cases n:i<h.ts.length
 ·by_cases K:i<45
  ·have hw:=jb K zO
   have g:(i:Int)<45:=zO
   obtain⟨t,ht⟩:∃t,h.ts[i]=t:=⟨_,rfl⟩
   have r:=jd9 t.ops.length 25
   rw[show((25:Nat):Int)=25 from rfl]at r
   have a0:=jvw jH t.nl t.ops 25 .i64
   have b5:min t.ops.length 25=(t.ops.take 25).length:=by rw[List.length_take,Nat.min_comm]
   rw[b5]at a0 r
   generalize hL:t.ops.take 25=L at *
   have c7:L.length≤25:=by rw[← hL,List.length_take];omega
   have X:(L.flatMap opC).all V.leaf=true:=by rw[List.all_flatMap,List.all_eq_true];intro _ _;rfl
   obtain⟨z,hz⟩:∃z,s.nx=z:=⟨_,rfl⟩
   simp[h4,w,x,objCells,n,g,j5 j7,ja j7,ht,jn,fr,j2,hz]
   refine⟨zO,?_⟩
   refine jo (cs:=[]) rfl rfl rfl ?_
   simp[objCells]
   obtain⟨e,hB⟩:∃y,(z+64+64+64+64+64+64+64+64+64+64+64+64+64+64+64+64)=y:=⟨_,rfl⟩
   obtain⟨b,hA⟩:∃y,(z+64+64+64+64+64+64+64+64+64+64+64+64+64+64)=y:=⟨_,rfl⟩
   have c8:e=b+128:=zO
   have b9:z+896=b:=zO
   rw[hB,hA]
   have w1:¬ 2*b=2*e:=zO
   have w2:¬ 2*e=2*b:=zO
   simp[objCells,w1,r,a0]
   refine jxo (f:=opC) (l:=L) (z:=e) zS zS (by simp[fr];omega) (by simp[slOf,slCells,j4 jH]) jH zD X zO zO ?_
   intro s1 u hu c0 cf Z cd cr cb ck
   have c5:e≤u:=zO
   have c2:u≤e+512:=zO
   have cA:s1.ob (2*b+1)=some ⟨b,.cells [.int .i64 t.s,.int .i64 t.f,slOf t.nl opC t.ops]⟩:=by
    rw[cf _ zO zO];simp[w1]
   have cO:∀a,a≠2*b+1→a≠2*e+1→a≠2*(e+512)+1→s1.ob a=s.ob a:=by
    intro a k1 k2 k3
    rw[cf _ k2 zO]
    simp[k1,k2]
   have v1:¬ 2*b=2*(ub+192):=zO
   have v2:¬ 2*(ub+192)=2*b:=zO
   have c3:s1.ob (2*(ub+192)+1)=some ⟨ub+192,.cells [S0,K0,F]⟩:=(cO _ zO zO zO).trans U
   have b8:ro≤b:=zO
   simp[Z,objCells,cA,cr,fr,j2,G,c3,v2,b8]
   obtain⟨p,hp⟩:∃p,(fewT t,u)=p:=⟨_,rfl⟩
   have O:txU p=[.int .i64 t.s,.int .i64 t.f,.osl (2*u+1) u 0 L.length 4]:=by
    rw[← hp]
    simp[txU,fewT,← hL]
   refine jo (cs:=txU p) (by rw[O];simp[j2]) rfl (by rw[O];rfl) ?_
   simp
   obtain⟨S,hE⟩:∃y,(e+64+64+64+64+64+64+64+64+64+64+64+64+64+64)=y:=⟨_,rfl⟩
   have c4:e+896=S:=zO
   rw[hE]
   have c1:P.length=i:=by
    have:=congrArg List.length hP
    rw[List.length_map,List.length_map,List.length_take]at this
    omega
   have v:p.2=u:=by rw[← hp]
   have J:p.1=fewT t:=by rw[← hp]
   have T:p.1.ops=L:=by rw[J];exact hL
   rw[hz]at gT n2
   have j:∀y,y<z→s1.ob (2*y+1)=s.ob (2*y+1):=fun y y2=>cO _ zO zO zO
   refine jlz (lo:=N2) (hi:=z) (P:=P) (p:=p) ?_ zO (by simp[cr,fr];omega) (by simp[slCells,objCells];rfl) ?_ n2 zO ?_
   ·simp
    refine gT.frame (fun y y1 y2=>?_) zR
    have c:¬ 2*y=2*S:=zO
    have o:¬ 2*y=2*b:=zO
    simp[c,o]
    exact j y y2
   ·refine⟨by rw[J];rfl,by rw[v];omega,by rw[v];omega,L.flatMap opC,?_,?_,?_⟩
    ·rw[v]
     have c:¬ 2*u=2*S:=zO
     have o:¬ 2*u=2*b:=zO
     simp[c,o]
     exact c0
    ·rw[T,j4 jH];exact Nat.le_refl _
    ·rw[T,← j4 jH,List.take_length]
   intro s4 v4 N x4 xt xd xr xb xk
   obtain⟨M,b6⟩:=N.leaf
   have I:∀y,(y<N2)→s4.ob (2*y+1)=s.ob (2*y+1):=by
    intro y hy
    rw[x4 _ (fun y y1 y2=>by omega) zO]
    have c:¬ 2*y=2*S:=zO
    have o:¬ 2*y=2*b:=zO
    simp[c,o]
    exact j y zO
   have x3:=(I (ub+192) zO).trans U
   have b7:(P++[p]).map (·.1)=(h.ts.take (i+1)).map fewT:=by
    rw[List.map_append,hP,List.take_succ_eq_append_getElem n,List.map_append,ht,← hp]
    rfl
   simp[xt,Z,G,objCells,x3,xr,cr,fr,j2,M,b6,h4,hw]
   have b1:¬ 2*ub=2*(ub+192):=zO
   have b2:¬ 2*(ub+64)=2*(ub+192):=zO
   refine⟨zO,K,zO,v4,P++[p],by rw[b7,List.map_take],⟨by simp[xt,Z,w],by simp[xt,Z,f2],by simp[xt,Z,G],by simp[xd,cd,fd],by simp[xr,cr,fr],by simp[b1];exact(I ub zO).trans H,by simp[b2];exact(I (ub+64) zO).trans o2,zS,
    gS.frame (fun y h1 h2=>?_) zR zR,gK.frame (fun y h1 h2=>?_) zR zR,N.frame (fun y h1 h2=>?_) (by simp <;> omega),n0,n1,by simp <;> omega,fun a d=>?_⟩⟩
   ·have c:¬ 2*y=2*(ub+192):=zO
    simp[c]
    exact I y zO
   ·have c:¬ 2*y=2*(ub+192):=zO
    simp[c]
    exact I y zO
   ·have c:¬ 2*y=2*(ub+192):=zO
    simp[c]
   ·have c:=d (ub+192) zO
    have o:=d S zO
    have e3:=d b zO
    simp[c]
    rw[x4 _ (fun y y1 y2=>d y zO) (d _ zO)]
    simp[o,e3]
    exact(cO a e3 (d e zO) (d (e+512) zO)).trans (ff a d)
  ·have g:¬ (i:Int)<45:=zO
   simp[h4,w,x,objCells,n,g]
   exact q zO _ ⟨zS,zS,zS⟩ zS zS (by funext k;simp) (by simp;omega)
 ·simp[h4,w,x,objCells,n]
  exact q zO _ ⟨zS,zS,zS⟩ zS zS (by funext k;simp) (by simp;omega)
def FewP (h:Hist') (ob:ZO) (ub:Nat) (r:V × (ZO) × (Nat→Bool) × Nat):Prop :=
 ∃Sv Kv Tv P N1 N2,r.1=.agg [Sv,Kv,Tv]∧StO r.2.1 (ub+256) N1 (YY 25 h.ss) Sv∧StO r.2.1 N1 N2 (YY 45 h.ks) Kv∧TsO r.2.1 N2 r.2.2.2 P Tv∧P.map (·.1)=(h.ts.take 45).map fewT∧ub+256≤N1∧N1≤N2∧N2≤r.2.2.2 ∧
  ∀key,(∀m,ub≤m→key≠2*m+1)→r.2.1 key=ob key
theorem sv51 {Yf:YF}{h:Hist'}{ob:ZO}{tk:Nat→Bool}{ro base ub:Nat}(a:ro≤ub):∃r,EvS E Yf.y 51 [.agg (histC h)] ob tk ro base ub r∧FewP h ob ub r:=by
 refine Jn (af:=S51) rfl zD ?_
 show wpC E Yf S51.body _ (XT S51.res _)
 refine few0S a fun S c=>?_
 refine few1O a c fun T m d=>?_
 refine few2O a d fun I l w=>?_
 refine few3O a w fun M k P q G=>?_
 obtain⟨K,i,x,u,fr,J,v,t,n,o,p,F,B,H,s⟩:=G
 obtain⟨lS,L⟩:=n.leaf
 obtain⟨z,N⟩:=o.leaf
 obtain⟨D,O⟩:=p.leaf
 have b1:¬ 2*(ub+192)=2*(ub+64):=zO
 have g:S51.res=[.cell 2 (some 3)]:=rfl
 rw[g]
 generalize f:XT [.cell 2 (some 3)] (FewP h ob ub)=Q
 simp[jyi,jhy,jfh,jfi,tlC,S51,i,x,v,t,objCells,fr,j2,lS,z,D]
 refine⟨zO,?_⟩
 rw[← f]
 refine⟨(.agg [m,l,k],_,_,_),by simp[endS,u,jl,i,objCells];exact⟨rfl,rfl,rfl⟩,m,l,k,P,_,_,rfl,n.frame (fun y c d=>?_) zR zR,o.frame (fun y c d=>?_) zR zR,p.frame (fun y c d=>?_) ?_,q,F,B,?_,fun e j=>?_⟩
 ·have b:¬ 2*y=2*(ub+64):=zO
  simp[b]
 ·have b:¬ 2*y=2*(ub+64):=zO
  simp[b]
 ·have b:¬ 2*y=2*(ub+64):=zO
  simp[b]
 ·simp;omega
 ·simp;omega
 ·have b:=j (ub+64) zO
  simp[b]
  exact s e j
def jbj (t:Txn'):Txn':={ t with ops:=t.ops.take 6 }
def QJ (h:Hist'):Hist':=if 8<(jck h).ts.length then { jck h with tn:=true,ts:=[] } else { jck h with ts:=(jck h).ts.map jbj }
def mixT (P:List (Txn' × Nat)) (i:Nat):List (Txn' × Nat):=P.mapIdx fun j p=>if j<i then (jbj p.1,p.2) else p
theorem WP {P:List (Txn' × Nat)}{i:Nat}:(mixT P i).length=P.length:=by simp[mixT]
theorem jsr {P:List (Txn' × Nat)}:mixT P 0=P:=by
 apply List.ext_getElem?
 intro n
 simp[mixT]
theorem jw5 {P:List (Txn' × Nat)}:(mixT P P.length).map (·.1)=(P.map (·.1)).map jbj:=by
 apply List.ext_getElem?
 intro n
 simp only[mixT,List.getElem?_map,List.getElem?_mapIdx]
 cases h:P[n]? with
 | none=>rfl
 | some o=>
  have:=(List.getElem?_eq_some_iff.1 h).1
  simp[this]
theorem jlt {P:List (Txn' × Nat)}{i:Nat}(h:i<P.length):(mixT P i)[i]'(by rw[WP];exact h)=P[i]:=by simp[mixT]
theorem jjr {P:List (Txn' × Nat)}{i:Nat}(_:i<P.length):mixT P (i+1)=(mixT P i).modify i fun p=>(jbj p.1,p.2):=by
 apply List.ext_getElem?
 intro n
 simp only[mixT,List.getElem?_mapIdx,List.getElem?_modify]
 cases c:P[n]? with
 | none=>simp
 | some o=>
  simp only[Option.map_some,Option.map_eq_map]
  by_cases b:i=n
  ·subst b
   simp
  ·simp only[if_neg b]
   by_cases a:n<i
   ·rw[if_pos a,if_pos zO]
   ·rw[if_neg zO,if_neg a]
theorem jqw:∀ {P:List (Txn' × Nat)}{i:Nat}(h:i<P.length),j2 (P.flatMap txU) (i*3+2) [.osl (2*(P[i]).2+1) (P[i]).2 0 (jbj (P[i]).1).ops.length 4]=(P.modify i fun p=>(jbj p.1,p.2)).flatMap txU
 | [],_,h=>by simp at h
 | p::P,0,_=>by simp[List.modify_cons,j2,txU,jbj]
 | p::P,i+1,h=>by
  have a:=jqw (P:=P) (i:=i) (by simpa using h)
  simp only[List.modify_cons,Nat.add_one_ne_zero,if_false,Nat.add_sub_cancel,List.flatMap_cons,List.getElem_cons_succ]
  rw[← a]
  have:(i+1)*3+2=(txU p).length+(i*3+2):=by simp;omega
  rw[this]
  simp only[j2,Nat.add_assoc]
  rw[List.take_length_add_append,List.drop_length_add_append]
  simp only[List.append_assoc]
theorem InO.six {ob:ZO}{lo hi:Nat}{p:Txn' × Nat}(h:InO ob lo hi p):InO ob lo hi (jbj p.1,p.2):=by
 obtain⟨X,a,c,b⟩:=h.ob
 refine⟨h.nl,h.lo,h.hi,X,a,?_,?_⟩
 ·simp only[jbj,List.length_take];omega
 ·have e:X.take ((jbj p.1).ops.length*4)=(X.take (p.1.ops.length*4)).take ((jbj p.1).ops.length*4):=by
   rw[List.take_take]
   congr 1
   simp only[jbj,List.length_take]
   omega
  rw[e,b,jvn]
  congr 1
  simp only[jbj,List.length_take]
  rcases Nat.le_total p.1.ops.length 6 with h'|h'
  ·rw[Nat.min_eq_right h',List.take_length,List.take_of_length_le h']
  ·rw[Nat.min_eq_left h']
theorem jvx {L u n i:Nat}(h:i≤n):Qi 4 none (some (.int .i64 (i:Int))) (.osl L u 0 n 4)=some (.osl L u 0 i 4):=by
 simp[Qi,Jx,h]
theorem TsO.len {ob:ZO}{lo hi:Nat}{P:List (Txn' × Nat)}{v:V}(h:TsO ob lo hi P v):Qa v=some (.int .i64 P.length):=by
 rcases h.2 with⟨rfl,rfl⟩|⟨_,u,_,_,_,rfl,_⟩ <;> rfl
theorem ev15 (h:Hist'):∃v,Ev E 15 [.agg (histC h)] v∧jqf v (QJ h):=by
 refine XF (af:=F15) rfl zD ?_
 generalize b9:(ja2 [.cell 2 (some 3)] fun r=>jqf r (QJ h))=PP
 simp[F15,histC,objCells,b9]
 refine jU (vs:=[.agg (histC h)]) (by simp[histC]) rfl (sv51 (h:=h) (Nat.zero_le _)) ?_
 rintro v b6 d1 B ⟨Sv,Kv,Tv,P,N1,Q,hv,D,F,O,hP,n0,n1,n2,ff⟩
 simp only at hv D F O hP n0 n1 n2 ff
 subst hv
 obtain⟨lS,cS⟩:=D.leaf
 obtain⟨lK,cK⟩:=F.leaf
 obtain⟨lT,cT⟩:=O.leaf
 have c7:=O.len
 have b1:b6 1=some ⟨0,.cells (histC h)⟩:=by rw[ff 1 (fun m hm=>by omega)];simp[histC]
 have b2:b6 129=some ⟨64,.cells [.sl none true 0 [],.sl none true 0 [],.sl none true 0 []]⟩:=by rw[ff 129 (fun m hm=>by omega)];simp
 have e1:(QJ h).ss=YY 25 h.ss:=by unfold QJ;split <;> rfl
 have e2:(QJ h).sn=(YY 25 h.ss).isEmpty:=by unfold QJ;split <;> rfl
 have e3:(QJ h).ks=YY 45 h.ks:=by unfold QJ;split <;> rfl
 have e4:(QJ h).kn=(YY 45 h.ks).isEmpty:=by unfold QJ;split <;> rfl
 have G:(jck h).ts.length=P.length:=by
  show((h.ts.take 45).map fewT).length=P.length
  rw[← hP,List.length_map]
 simp[b1,objCells,histC,j2]
 generalize hK:jqh E Y0 _ PP=K
 have I:∀ (s:St) (c:List (Txn' × Nat)) (p:V),c.length≤8→(QJ h).ts=(c.map (·.1)).map jbj→(QJ h).tn=c.isEmpty→s.tm 1=.ptr 1 0 0→s.tm 2=.ptr 129 64 0→s.df=[]→s.ro=0→s.fb=0→B≤s.nx →
  s.ob 1=some ⟨0,.cells [Sv,Kv,p]⟩→s.ob 129=some ⟨64,.cells [.sl none true 0 [],.sl none true 0 [],.sl none true 0 []]⟩→StO s.ob (192+256) N1 (YY 25 h.ss) Sv→StO s.ob N1 Q (YY 45 h.ks) Kv→TsO s.ob Q B c p→K .nrm s:=by
  intro s c p d2 b8 c1 g1 g2 gd gr gb gn p1 p2 D F O
  rw[← hK,jht]
  clear hK
  have c4:=O.leaf
  simp
  refine j8 [(3,3),(11,37)] c.length (fun i s=>s.tm 3=.int .i64 i∧s.ob 1=some ⟨0,.cells [Sv,Kv,p]⟩∧s.ob 129=some ⟨64,.cells [.sl none true 0 [],.sl none true 0 [],.sl none true 0 []]⟩∧StO s.ob (192+256) N1 (YY 25 h.ss) Sv∧StO s.ob N1 Q (YY 45 h.ks) Kv∧TsO s.ob Q B (mixT c i) p) rfl rfl
   ⟨zS,by simp[p1],by simp[p2],D.frame (fun _ _ _=>by simp) zR zR,F.frame (fun _ _ _=>by simp) zR zR,by rw[jsr];exact O.frame (fun _ _ _=>by simp) zR⟩ ?_
  clear D F
  rintro i X hi ⟨h3,o1,o2,D,F,gX⟩ f
  have f1:X.tm 1=.ptr 1 0 0:=by rw[f.t 1 zS];simp[g1]
  have f2:X.tm 2=.ptr 129 64 0:=by rw[f.t 2 zS];simp[g2]
  have fd:X.df=[]:=by rw[f.d];simp[gd]
  have fb:X.fb=0:=by rw[f.b];simp[gb]
  have fr:X.ro=0:=by rw[f.r];simp[gr]
  clear f
  have M:=gX.len
  rw[WP]at M
  by_cases j:i<c.length
  ·have hw:=jb j zO
   have o:i<(mixT c i).length:=by rw[WP];exact j
   rcases gX.2 with⟨he,_⟩|⟨c9,u,h1,h2,h4,rfl,h5⟩
   ·rw[he]at o;simp at o
   have d0:=gX.1 (c[i]) (by rw[← jlt j];exact List.getElem_mem o)
   have b7:JP 3 (.osl (2*u+1) u 0 (mixT c i).length 3) (.int .i64 (i:Int))=some (.ptr (2*u+1) u (i*3)):=by simp[JP,o]
   have U:((mixT c i).flatMap txU)[i*3+2]? = some (.osl (2*(c[i]).2+1) (c[i]).2 0 (c[i]).1.ops.length 4):=by
    rw[jR WE _ o (by decide:2<3),jlt j]
    rfl
   have k:=jqw (P:=mixT c i) (i:=i) o
   rw[← jjr j]at k
   simp only[jlt j]at k
   have b0:=jd9 (c[i]).1.ops.length 6
   rw[show((6:Nat):Int)=6 from rfl]at b0
   have c5:=fun L u=>jvx (L:=L) (u:=u) (n:=(c[i]).1.ops.length) (i:=min (c[i]).1.ops.length 6) (Nat.min_le_left _ _)
   have c0:(jbj (c[i]).1).ops.length=min (c[i]).1.ops.length 6:=by simp only[jbj,List.length_take,Nat.min_comm]
   rw[c0]at k
   have c8:¬ 2*u=0:=zO
   have c2:¬ 2*u=128:=zO
   have a0:i*3+2+1≤((mixT c i).flatMap txU).length:=by rw[j4 WE];omega
   simp[h3,f1,o1,objCells,M,j,b7,h5,U,b0,c5,fr,c8,c2,k]
   have J:∀q∈mixT c (i+1),InO X.ob Q B q∧q.2≠u:=by
    intro q J
    rw[jjr j]at J
    rcases jgc J with J|⟨x,hx,rfl⟩
    ·exact⟨gX.1 q J,h4 q J⟩
    ·have b5:=List.mem_of_getElem? hx
     exact⟨(gX.1 x b5).six,h4 x b5⟩
   have N:(mixT c (i+1)).length=(mixT c i).length:=by rw[WP,WP]
   refine⟨by have:=a0;simp only[List.length_flatMap,WE]at this;exact this,hw,o2,D.frame (fun y Z y2=>?_) zR zR,F.frame (fun y Z y2=>?_) zR zR,fun q S=>?_,.inr ⟨?_,u,h1,h2,fun q S=>(J q S).2,by rw[N],zS⟩⟩
   ·have w:¬ 2*y=2*u:=zO
    simp[w]
   ·have w:¬ 2*y=2*u:=zO
    simp[w]
   ·obtain⟨a,b⟩:=J q S
    have w:¬ 2*q.2=2*u:=zO
    exact a.frame (by simp[w]) zR
   ·intro e
    rw[e]at N
    simp at N
    omega
  ·have:i=c.length:=zO
   subst this
   simp[h3,f1,o1,objCells,M,f2,o2,j2,fr,D.leaf.1,F.leaf.1,c4.1]
   rw[← b9]
   have c3:(mixT c c.length).isEmpty=(QJ h).tn:=by rw[c1];exact jek WP
   refine kE1 (g:=QJ h) (l:=129) (u:=64) (x:=Sv) (y:=Kv) (z:=p) (by simp[fd]) (by simp[f2]) zS ?_ ?_ ?_
   ·rw[e1,e2]
    refine StO.out (lo:=192+256) (hi:=N1) (D.frame (fun y H q2=>?_) zR zR) (by simp[fr])
    have w:¬ 2*y=128:=zO
    simp[w]
   ·rw[e3,e4]
    refine StO.out (lo:=N1) (hi:=Q) (F.frame (fun y H q2=>?_) zR zR) (by simp[fr])
    have w:¬ 2*y=128:=zO
    simp[w]
   ·have c6:(QJ h).ts.length=(mixT c c.length).length:=by rw[b8,WP];simp
    rw[c6,← c3,b8,← jw5]
    refine TsO.out (lo:=Q) (hi:=B) (gX.frame (fun y H q2=>?_) zR) (by simp[fr])
    have w:¬ 2*y=128:=zO
    simp[w]
 refine⟨⟨lS,lK,lT⟩,?_⟩
 simp[c7]
 have H:∀y,192≤y→¬ 2*y=0:=fun y hy=>by omega
 by_cases h8:8<P.length
 ·have T:(8:Int)<(P.length:Int):=zO
  simp[T,objCells,j2]
  exact I _ [] (.sl none true 0 []) zS (by unfold QJ;rw[if_pos (by rw[G];exact h8)];rfl) (by unfold QJ;rw[if_pos (by rw[G];exact h8)];rfl) zS zS zS zS zS (by simp <;> omega) zS (by simp[b2])
   (D.frame (fun y Z y2=>by simp[H y zO]) zR zR) (F.frame (fun y Z y2=>by simp[H y zO]) zR zR) ⟨zS,.inl ⟨rfl,rfl⟩⟩
 ·have T:¬ (8:Int)<(P.length:Int):=zO
  simp[T]
  exact I _ P Tv zO (by unfold QJ;rw[if_neg (by rw[G];exact h8),hP];rfl) (by unfold QJ;rw[if_neg (by rw[G];exact h8)];show((h.ts.take 45).map fewT).isEmpty=_;rw[← hP];exact jek zS) zS zS zS zS zS (by simp <;> omega) zS (by simp[b2])
   (D.frame (fun y Z y2=>by simp[H y zO]) zR zR) (F.frame (fun y Z y2=>by simp[H y zO]) zR zR) (O.frame (fun y Z y2=>by simp[H y zO]) zR)
theorem j5h (h:Hist'):Small (QJ h):=by
 have a:=jq8 h
 unfold QJ
 split
 ·exact⟨a.ss,a.sl,a.ks,a.kl,zS,zS⟩
 ·refine⟨a.ss,a.sl,a.ks,a.kl,by simpa using a.ts,fun t c=>?_⟩
  simp only[List.mem_map]at c
  obtain⟨d,b,rfl⟩:=c
  have:=a.os d b
  simp only[jbj,List.length_take]
  omega
theorem jyh (h:Hist'):QJ (QJ h)=QJ h:=by
 have b:YY 25 (jck h).ss=(jck h).ss:=jn3 25 h.ss
 have d:YY 45 (jck h).ks=(jck h).ks:=jn3 45 h.ks
 by_cases c:8<(jck h).ts.length
 ·have e:QJ h = { jck h with tn:=true,ts:=[] }:=by unfold QJ;rw[if_pos c]
  have a:jck { jck h with tn:=true,ts:=[] } = { jck h with tn:=true,ts:=[] }:=by
   show Hist'.mk _ _ _ _ _ _=_
   simp only[b,d]
   rfl
  rw[e]
  unfold QJ
  rw[a]
  rfl
 ·have e:QJ h = { jck h with ts:=(jck h).ts.map jbj }:=by unfold QJ;rw[if_neg c]
  have g:(((jck h).ts.map jbj).take 45).map fewT=(jck h).ts.map jbj:=by
   show((((h.ts.take 45).map fewT).map jbj).take 45).map fewT=((h.ts.take 45).map fewT).map jbj
   rw[← List.map_take,← List.map_take,List.take_take,List.map_map,List.map_map,List.map_map]
   refine List.map_congr_left fun t _=>?_
   simp[fewT,jbj,List.take_take]
  have a:jck { jck h with ts:=(jck h).ts.map jbj } = { jck h with ts:=(jck h).ts.map jbj }:=by
   show Hist'.mk _ _ _ _ _ _=_
   simp only[b,d,g]
   simp[jck]
   cases h.ts <;> simp
  rw[e]
  unfold QJ
  rw[a]
  have f:¬ 8<((jck h).ts.map jbj).length:=by simpa using c
  simp only
  rw[if_neg f,List.map_map]
  congr 1
  refine List.map_congr_left fun t _=>?_
  simp[jbj,List.take_take]
end Go.Pv.T
namespace Go.Pv.T
open Go Go.Pv
end Go.Pv.T
namespace Go.Pv.T
open Go Go.Pv
theorem f20:Small H20:=⟨zD,zD,zD,zD,zD,zD⟩
theorem j3d (h:Hist'):(QJ h).ts.length≤8:=by
 unfold QJ
 split
 ·simp
 ·rename_i a
  simp only[List.length_map]
  omega
end Go.Pv.T
namespace Go.Pv.T
open Go Go.Pv
end Go.Pv.T
namespace Go.Pv.T
open Go Go.Pv
section
variable {E:Env}{st:St}{ub:Nat}{K:List FP→St→Prop}{d:Option Nat}{nm:Bool}{r:List AOpr}
theorem JW {a b:Nat}(h:a≠b):Nat.beq a b=false:=by cases c:Nat.beq a b;rfl;exact absurd (Nat.eq_of_beq_eq_true c) h
theorem kD_evT {f:FuncId}{xs:List A}{args:List V}{n:Nat}{cs:List V}(a:Ev E f args (.sl (some (0,1)) false n cs)) (c:(xs.map fun x=>(eval E st.tm x).strip)=args) (b:E.sh nm f=false) (hp:args.all V.pureTop=true)
 (h:∀u,u=ub→Wt E r K (eval E st.tm) (.call f xs) st d ub { v:=.sl (some (u,1)) false n cs,add:=[u] }):jE E (⟨d,.call f xs,none,nm⟩::r) st ub K:=by
 refine X5 a c b hp ?_
 rw[jm0]
 rw[jK]
 exact h ub rfl
end
section
end
abbrev P2:Type:=Int × Int
def pLt (x y:P2):Prop:=x.1<y.1∨x.1=y.1∧x.2<y.2
theorem pairLe_iff {x y:P2}:Wk x y=true ↔ pLt x y∨x=y:=by
 obtain⟨a,b⟩:=x
 obtain⟨c,d⟩:=y
 simp only[Wk,pLt,Bool.or_eq_true,Bool.and_eq_true,decide_eq_true_eq,Prod.mk.injEq]
 omega
theorem XL (x:P2):¬ pLt x x:=by unfold pLt;omega
theorem Xq {x y z:P2}(h:pLt x y) (a:pLt y z):pLt x z:=by unfold pLt at *;omega
theorem Wl (x y:P2):pLt x y∨x=y∨pLt y x:=by
 obtain⟨a,b⟩:=x
 obtain⟨c,d⟩:=y
 simp only[pLt,Prod.mk.injEq]
 omega
theorem jel (x:P2):∀l:List P2,(jzz x l).Perm (x::l)
 | []=>List.Perm.refl _
 | y::r=>by
  unfold jzz
  split
  ·exact List.Perm.refl _
  ·exact((jel x r).cons y).trans (List.Perm.swap x y r)
theorem X1:∀l:List P2,(QQ l).Perm l
 | []=>List.Perm.refl _
 | x::r=>(jel x (QQ r)).trans ((X1 r).cons x)
theorem jtw (x:P2):∀ {l:List P2},l.Pairwise (fun a b=>Wk a b=true)→(jzz x l).Pairwise fun a b=>Wk a b=true
 | [],_=>List.pairwise_singleton _ _
 | y::r,h=>by
  rw[List.pairwise_cons]at h
  unfold jzz
  split
  ·rename_i c
   rw[List.pairwise_cons]
   refine⟨fun z d=>?_,List.pairwise_cons.2 h⟩
   rcases List.mem_cons.1 d with rfl|d
   ·exact c
   ·rw[pairLe_iff]at c ⊢
    have:=pairLe_iff.1 (h.1 z d)
    rcases c with c|rfl
    ·rcases this with h2|rfl
     ·exact .inl (Xq c h2)
     ·exact .inl c
    ·exact this
  ·rename_i c
   rw[List.pairwise_cons]
   refine⟨fun z d=>?_,jtw x h.2⟩
   rcases List.mem_cons.1 ((jel x r).mem_iff.1 d) with rfl|d
   ·rw[pairLe_iff]at c ⊢
    rcases Wl y z with h|h|h
    ·exact .inl h
    ·exact .inr h
    ·exact absurd (.inl h) c
   ·exact h.1 z d
theorem jg3:∀l:List P2,(QQ l).Pairwise fun a b=>Wk a b=true
 | []=>List.Pairwise.nil
 | x::r=>jtw x (jg3 r)
def QT:List P2→List P2
 | []=>[]
 | x::r=>x::match QT r with
  | []=>[]
  | y::s=>if x=y then s else y::s
theorem compP_mem {z:P2}:∀ {l:List P2},z∈QT l ↔ z∈l
 | []=>Iff.rfl
 | x::r=>by
  have a:=compP_mem (z:=z) (l:=r)
  rw[QT]
  cases h:QT r with
  | nil=>
   rw[h]at a
   simp only[List.not_mem_nil,false_iff]at a
   simp[a]
  | cons y s=>
   rw[h]at a
   simp only
   split
   ·rename_i e
    subst e
    simp only[List.mem_cons]at a ⊢
    constructor
    ·exact fun h=>h.elim .inl fun h=>.inr (a.1 (.inr h))
    ·exact fun h=>h.elim .inl fun h=>a.2 h
   ·simp only[List.mem_cons]at a ⊢
    rw[a]
theorem jn7:∀ {l:List P2},l.Pairwise (fun a b=>Wk a b=true)→(QT l).Pairwise pLt
 | [],_=>List.Pairwise.nil
 | x::r,h=>by
  rw[List.pairwise_cons]at h
  have d:=jn7 h.2
  rw[QT]
  cases i:QT r with
  | nil=>exact List.pairwise_singleton _ _
  | cons y s=>
   rw[i]at d
   rw[List.pairwise_cons]at d
   have j:y∈r:=compP_mem.1 (by rw[i];exact List.mem_cons_self ..)
   have g:=pairLe_iff.1 (h.1 y j)
   simp only
   split
   ·rename_i e
    subst e
    exact List.pairwise_cons.2 d
   ·rename_i e
    have c:pLt x y:=g.resolve_right e
    rw[List.pairwise_cons]
    refine⟨fun z f=>?_,List.pairwise_cons.2 d⟩
    rcases List.mem_cons.1 f with rfl|f
    ·exact c
    ·exact Xq c (d.1 z f)
theorem jd1:∀ {l m:List P2},l.Pairwise pLt→m.Pairwise pLt→(∀z,z∈l ↔ z∈m)→l=m
 | [],[],_,_,_=>rfl
 | [],y::m,_,_,h=>absurd ((h y).2 (List.mem_cons_self ..)) List.not_mem_nil
 | x::l,[],_,_,h=>absurd ((h x).1 (List.mem_cons_self ..)) List.not_mem_nil
 | x::l,y::m,h1,h2,h=>by
  rw[List.pairwise_cons]at h1 h2
  have c:=List.mem_cons.1 ((h x).1 (List.mem_cons_self ..))
  have b:=List.mem_cons.1 ((h y).2 (List.mem_cons_self ..))
  have e:x=y:=by
   rcases c with e|c
   ·exact e
   ·rcases b with e|b
    ·exact e.symm
    ·exact absurd (Xq (h1.1 y b) (h2.1 x c)) (XL _)
  subst e
  rw[jd1 h1.2 h2.2 fun z=>?_]
  constructor
  ·intro a
   rcases List.mem_cons.1 ((h z).1 (List.mem_cons_of_mem _ a)) with e|h'
   ·subst e
    exact absurd (h1.1 z a) (XL _)
   ·exact h'
  ·intro a
   rcases List.mem_cons.1 ((h z).2 (List.mem_cons_of_mem _ a)) with e|h'
   ·subst e
    exact absurd (h2.1 z a) (XL _)
   ·exact h'
def jV (N:Nat) (p:Nat→Nat→Bool):List P2:=(List.range N).flatMap fun a=>((List.range N).filter (p a)).map fun b:Nat=>((a:Int),(b:Int))
theorem edgesOf_mem {N:Nat}{p:Nat→Nat→Bool}{z:P2}:z∈jV N p ↔ ∃a b:Nat,a<N∧b<N∧p a b=true∧z=((a:Int),(b:Int)):=by
 unfold jV
 simp only[List.mem_flatMap,List.mem_range,List.mem_map,List.mem_filter]
 constructor
 ·rintro⟨a,c,b,⟨d,e⟩,rfl⟩
  exact⟨a,b,c,d,e,rfl⟩
 ·rintro⟨a,b,c,d,e,rfl⟩
  exact⟨a,c,b,⟨d,e⟩,rfl⟩
theorem jb1 (N:Nat) (p:Nat→Nat→Bool):(jV N p).Pairwise pLt:=by
 unfold jV
 rw[List.pairwise_flatMap]
 refine⟨fun a _=>?_,?_⟩
 ·rw[List.pairwise_map]
  refine(List.pairwise_lt_range.filter _).imp fun {b c} h=>?_
  exact Or.inr ⟨rfl,Int.ofNat_lt.2 h⟩
 ·refine List.pairwise_lt_range.imp fun {a b} h x d y e=>?_
  obtain⟨_,_,rfl⟩:=List.mem_map.1 d
  obtain⟨_,_,rfl⟩:=List.mem_map.1 e
  exact Or.inl (Int.ofNat_lt.2 h)
theorem jue {N:Nat}{p:Nat→Nat→Bool}{l:List P2}(h:∀z,z∈l ↔ ∃a b:Nat,a<N∧b<N∧p a b=true∧z=((a:Int),(b:Int))):QT (QQ l)=jV N p :=
 jd1 (jn7 (jg3 l)) (jb1 N p) fun z=>by rw[compP_mem,(X1 l).mem_iff,h,edgesOf_mem]
def JF (g:Hist') (x:Int):Int:=if x<0 then g.ts.length else x
def jv2 (g:Hist') (i:Nat):List P2:=((g.ts.length:Int),(comL g).getD i 0)::((List.range i).filter fun k=>sesAt g ((comL g).getD k 0).toNat == sesAt g ((comL g).getD i 0).toNat).map fun k=>((comL g).getD k 0,(comL g).getD i 0)
def juy (g:Hist') (M:List Int) (i:Nat):P2:=(JF g (M.getD i 0),((readH g).getD i (0,0)).1)
def askE (g:Hist') (M:List Int) (seen:List Int) (i:Nat):List P2:=(seen.filter fun t=>Yq g t (jff g ((readH g).getD i (0,0))) && (t != M.getD i 0)).map fun t=>(t,JF g (M.getD i 0))
def Jd (g:Hist') (lvl:Int) (M:List Int) (i:Nat):List Int:=jbl g lvl M [] ((readH g).getD i (0,0))
def QV (g:Hist') (lvl:Int) (M:List Int) (a b:Nat):Bool :=
 (a == g.ts.length && Xx g b) || ((Xx g a && Xx g b && decide (a<b) && (sesAt g a == sesAt g b)) ||
  (List.range (readH g).length).any fun i=>juy g M i == ((a:Int),(b:Int)) || (askE g M (Jd g lvl M i) i).contains ((a:Int),(b:Int)))
def jh9 (g:Hist') (lvl:Int) (M:List Int) (l:List P2):Prop:=∀z,z∈l ↔ (∃i,i<(comL g).length∧z∈jv2 g i)∨∃i,i<(readH g).length∧(z=juy g M i∨z∈askE g M (Jd g lvl M i) i)
section
variable {g:Hist'}{lvl:Int}{M:List Int}
theorem jkc {i:Nat}(h:i<(comL g).length):∃k:Nat,(comL g).getD i 0=k∧Xx g k=true∧k<g.ts.length:=by
 have e:(comL g).getD i 0=(comL g)[i]:=by simp[List.getD_eq_getElem?_getD,List.getElem?_eq_getElem h]
 obtain⟨k,b,a⟩:=comL_mem.1 (List.getElem_mem h)
 exact⟨k,by rw[e,b],a,WV a⟩
theorem j0c {i k:Nat}(hi:i<(comL g).length) (a:k<i):(comL g).getD k 0<(comL g).getD i 0:=by
 have d:=j3r g
 have c:(comL g).getD i 0=(comL g)[i]:=by simp[List.getD_eq_getElem?_getD,List.getElem?_eq_getElem hi]
 have b:(comL g).getD k 0=(comL g)[k]' zO:=by simp[List.getD_eq_getElem?_getD,List.getElem?_eq_getElem (show k<(comL g).length by omega)]
 rw[c,b]
 exact List.pairwise_iff_getElem.1 d k i zO hi a
theorem jf0 {i:Nat}(h:i<(readH g).length):∃k:Nat,((readH g).getD i (0,0)).1=k∧Xx g k=true∧k<g.ts.length:=by
 have e:(readH g).getD i (0,0)=(readH g)[i]:=by simp[List.getD_eq_getElem?_getD,List.getElem?_eq_getElem h]
 obtain⟨k,b,a⟩:=comL_mem.1 (jv9 (List.getElem_mem h))
 exact⟨k,by rw[e,b],a,WV a⟩
theorem jsw (b:jav g M=true) {i:Nat}(h:i<(readH g).length):M.getD i 0<0∨∃k:Nat,M.getD i 0=k∧Xx g k=true∧k<g.ts.length:=by
 have a:i<M.length:=by rw[Yp b];exact h
 have e:M.getD i 0=M[i]:=by simp[List.getD_eq_getElem?_getD,List.getElem?_eq_getElem a]
 rcases j12 b (List.getElem_mem a) with h1|h1
 ·exact .inl (by rw[e,h1];decide)
 ·obtain⟨k,d,c⟩:=comL_mem.1 h1
  exact .inr ⟨k,by rw[e,d],c,WV c⟩
theorem jk7 {i:Nat}{t:Int}(h:t∈Jd g lvl M i):∃k:Nat,t=k∧k<g.ts.length:=by
 unfold Jd jbl at h
 obtain⟨k,a,e,_⟩:=filTo_mem.1 h
 exact⟨k,e,a⟩
theorem Wh (H:jav g M=true) {l:List P2}(h:jh9 g lvl M l):QT (QQ l)=jV (g.ts.length+1) (QV g lvl M):=by
 refine jue fun z=>?_
 rw[h]
 constructor
 ·rintro(⟨i,f,d⟩|⟨i,f,d⟩)
  ·obtain⟨b,w,r,B⟩:=jkc f
   unfold jv2 at d
   rw[w]at d
   rcases List.mem_cons.1 d with rfl|d
   ·exact⟨g.ts.length,b,zO,zO,by simp[QV,r],rfl⟩
   ·obtain⟨k,p,rfl⟩:=List.mem_map.1 d
    obtain⟨D,n⟩:=List.mem_filter.1 p
    have m:=List.mem_range.1 D
    obtain⟨a,o,F,v⟩:=jkc (show k<(comL g).length by omega)
    have s:=j0c f m
    rw[o]at n ⊢
    rw[o,w]at s
    refine⟨a,b,zO,zO,?_,rfl⟩
    simp only[Int.toNat_natCast]at n
    simp[QV,F,r,n,Int.ofNat_lt.1 s]
  ·have u:∀a b:Nat,z=((a:Int),(b:Int))→QV g lvl M a b=true:=fun a b e=>by
    unfold QV
    rw[Bool.or_eq_true,Bool.or_eq_true]
    refine .inr (.inr (List.any_eq_true.2 ⟨i,List.mem_range.2 f,?_⟩))
    rw[Bool.or_eq_true]
    rcases d with d|d
    ·exact .inl (by rw[← d,e];simp)
    ·exact .inr (by rw[e]at d;simpa using d)
   obtain⟨b,w,_,B⟩:=jf0 f
   have K:∃a:Nat,JF g (M.getD i 0)=a∧a<g.ts.length+1:=by
    unfold JF
    rcases jsw H f with h|⟨k,p,_,J⟩
    ·exact⟨g.ts.length,by rw[if_pos h],zO⟩
    ·exact⟨k,by rw[if_neg zO,p],zO⟩
   obtain⟨a,o,v⟩:=K
   rcases d with d|d
   ·have e:z=((a:Int),(b:Int)):=by rw[d,juy,o,w]
    exact⟨a,b,v,zO,u a b e,e⟩
   ·unfold askE at d
    obtain⟨t,O,e⟩:=List.mem_map.1 d
    obtain⟨c,N,L⟩:=jk7 (List.mem_filter.1 O).1
    have e:z=((c:Int),(a:Int)):=by rw[← e,N,o]
    exact⟨c,a,zO,zO,u c a e,e⟩
 ·rintro⟨a,b,o,w,j,rfl⟩
  unfold QV at j
  rw[Bool.or_eq_true,Bool.or_eq_true]at j
  rcases j with j|j|j
  ·rw[Bool.and_eq_true]at j
   obtain⟨q,G⟩:=j
   have q:a=g.ts.length:=by simpa using q
   obtain⟨i,f,e⟩:=List.getElem_of_mem (comL_mem.2 ⟨b,rfl,G⟩)
   refine .inl ⟨i,f,?_⟩
   unfold jv2
   rw[show(comL g).getD i 0=(b:Int) by simp[List.getD_eq_getElem?_getD,List.getElem?_eq_getElem f,e],q]
   exact List.mem_cons_self ..
  ·simp only[Bool.and_eq_true,decide_eq_true_eq]at j
   obtain⟨⟨⟨q,G⟩,Q⟩,P⟩:=j
   obtain⟨i,f,e⟩:=List.getElem_of_mem (comL_mem.2 ⟨b,rfl,G⟩)
   obtain⟨k,p,I⟩:=List.getElem_of_mem (comL_mem.2 ⟨a,rfl,q⟩)
   have y:(comL g).getD i 0=(b:Int):=by simp[List.getD_eq_getElem?_getD,List.getElem?_eq_getElem f,e]
   have x:(comL g).getD k 0=(a:Int):=by simp[List.getD_eq_getElem?_getD,List.getElem?_eq_getElem p,I]
   have m:k<i:=by
    rcases Nat.lt_trichotomy k i with h|h|h
    ·exact h
    ·subst h
     rw[y]at x
     omega
    ·have:=j0c p h
     rw[y,x]at this
     omega
   refine .inl ⟨i,f,?_⟩
   unfold jv2
   refine List.mem_cons_of_mem _ (List.mem_map.2 ⟨k,List.mem_filter.2 ⟨List.mem_range.2 m,?_⟩,by rw[y,x]⟩)
   rw[y,x,Int.toNat_natCast,Int.toNat_natCast]
   exact P
  ·obtain⟨i,f,h⟩:=List.any_eq_true.1 j
   refine .inr ⟨i,List.mem_range.1 f,?_⟩
   rw[Bool.or_eq_true]at h
   rcases h with h|h
   ·exact .inl (by simpa using(beq_iff_eq.1 h).symm)
   ·exact .inr (by simpa using h)
end
def edC (p:P2):List V:=[.int .i64 p.1,.int .i64 p.2]
theorem JO (p:P2):(edC p).length=2:=rfl
theorem jub (L:List P2):(L.flatMap edC).all V.pureLeaf=true:=by
 rw[List.all_flatMap,List.all_eq_true]
 intro _ _
 rfl
def EdV (ob:ZO) (lo hi:Nat) (v:V) (L:List P2):Prop :=
 (v=.sl none true 0 []∧L=[])∨∃u,v=.osl (2*u+1) u 0 L.length 2∧ob (2*u+1)=some ⟨u,.cells (L.flatMap edC)⟩∧lo≤u∧u<hi
theorem EdV.frame {ob ob':ZO}{lo hi a:Nat}{v:V}{L:List P2}(h:EdV ob lo hi v L) (e:∀u,lo≤u→u<hi→ob' (2*u+1)=ob (2*u+1)) (g:hi≤a):EdV ob' lo a v L:=by
 rcases h with h|⟨u,c,d,b,f⟩
 ·exact .inl h
 ·exact .inr ⟨u,c,(e u b f).trans d,b,zO⟩
theorem EdV.len {ob:ZO}{lo hi:Nat}{v:V}{L:List P2}(h:EdV ob lo hi v L):Qa v=some (.int .i64 (L.length:Nat)):=by
 rcases h with⟨rfl,rfl⟩|⟨u,rfl,_⟩ <;> rfl
theorem jeh {F:Env}{Yf:YF}{lo hi ub:Nat}{v:V}{L:List P2}{p:P2}{s x:A}{st:St}{K:St→Nat→Prop}{d:Option Nat}(b:eval F st.tm s=v) (j:EdV st.ob lo hi v L) (i:st.ro≤lo) (e:slCells st.ob 2 (eval F st.tm x)=some (edC p)) (l:L.length≤1000000)
 (h:∀a:List Nat,(a=[]∨∃u,lo≤u∧u<hi∧a=[2*u+1]∧st.ob (2*u+1)=some ⟨u,.cells (L.flatMap edC)⟩)→WZ K st d ub { v:=.osl (2*ub+1) ub 0 (L.length+1) 2,obs:=[(2*ub+1,⟨ub,.cells ((L++[p]).flatMap edC)⟩)],kill:=a }):j6 F Yf ⟨d,.append true 2 16 s x,none,true⟩ st ub K:=by
 rcases j with⟨rfl,rfl⟩|⟨u,rfl,c,f,k⟩
 ·refine XE b e (by simp[edC]) zD rfl (by simp[edC]) (by simp[edC]) ?_
  simpa[edC,jG] using h [] (.inl rfl)
 ·have g:=j4 JO L
  refine XN (cs:=L.flatMap edC) b e c (by simp[edC]) zO zO zD rfl (by simp[edC];omega) (by simp[edC];omega) ?_
  have:=h [2*u+1] (.inr ⟨u,f,k,rfl,c⟩)
  rw[List.take_of_length_le zO]
  simpa[edC,jG] using this
section
variable {ob:ZO}{lo hi kG uG:Nat}{Nv lv:V}{L:List P2}
theorem jz5 (w:ob kG=some ⟨uG,.cells [Nv,lv]⟩) (H:EdV ob lo hi lv L) (K:L.length≤1000000) (a b:Int) (tk:Nat→Bool) (base ub:Nat):EvO E 203 [.ptr kG uG 0,.int .i64 a,.int .i64 b] ob tk base ub (.bool (L.contains (a,b))):=by
 refine Jz (af:=S203) rfl ?_
 have e:=H.len
 obtain⟨R,I⟩:∃R,R=L.contains (a,b):=⟨_,rfl⟩
 rw[← I]
 simp[S203]
 refine j8 [(6,38)] L.length (fun i s=>s.tm 7=.int .i64 i∧s.ob=ob∧R=(L.drop i).contains (a,b)) rfl rfl ⟨zS,rfl,I⟩ ?_
 rintro i s hi ⟨z,r,m⟩ f
 have v:s.tm 0=.ptr kG uG 0:=by rw[f.t 0 zS];simp
 have D:s.tm 1=.int .i64 a:=by rw[f.t 1 zS];simp
 have J:s.tm 2=.int .i64 b:=by rw[f.t 2 zS];simp
 have G:s.df=[]:=by rw[f.d];simp
 clear f
 by_cases c:i<L.length
 ·have o:=jb c zO
  rw[List.drop_eq_getElem_cons c,List.contains_cons]at m
  rcases H with⟨_,rfl⟩|⟨u,rfl,F,_⟩
  ·simp at c
  have p:(L.flatMap edC)[i*2]? = some (.int .i64 L[i].1):=by
   have:=jR JO L c (by decide:0<2)
   rw[Nat.add_zero]at this
   rw[this]
   rfl
  have B:(L.flatMap edC)[i*2+1]? = some (.int .i64 L[i].2):=by rw[jR JO L c (by decide:1<2)];rfl
  have k:=idx0 (l:=2*u+1) (u:=u) (sz:=2) (kk:=.i64) c
  generalize L[i]=q at *
  obtain⟨x,y⟩:=q
  simp only at p B
  cases j:(x == a)
  ·have g:R=(L.drop (i+1)).contains (a,b):=by
    rw[m,show((a,b) == (x,y))=false by simp at j ⊢;intro h;exact absurd h.symm j,Bool.false_or]
   simp(disch:=first|(simp;done)|omega) [z,v,D,r,objCells,w,e,c,k,F,p,j,o]
   simpa using g
  ·cases n:(y == b)
   ·have g:R=(L.drop (i+1)).contains (a,b):=by
     rw[m,show((a,b) == (x,y))=false by simp at n ⊢;intro _ h;exact absurd h.symm n,Bool.false_or]
    simp(disch:=first|(simp;done)|omega) [z,v,D,J,r,objCells,w,e,c,k,F,p,B,j,n,o]
    simpa using g
   ·have g:R=true:=by
     simp only[beq_iff_eq]at j n
     rw[m,j,n]
     simp
    simp(disch:=first|(simp;done)|omega) [z,v,D,J,r,objCells,w,e,c,k,F,p,B,j,n]
    exact j1 (by simp[G]) (by simp[g]) rfl
 ·have:i=L.length:=zO
  subst this
  rw[List.drop_of_length_le zR]at m
  simp(disch:=first|(simp;done)|omega) [z,v,r,objCells,w,e]
  exact j1 (by simp[G]) (by simp[m]) rfl
end
def jrt (L:List P2) (p:P2):List P2:=if L.contains p then L else L++[p]
def GrR (kG uG lo N:Nat) (ob:ZO) (ub:Nat) (L:List P2):Prop:=∃lv,ob kG=some ⟨uG,.cells [.int .i64 (N:Int),lv]⟩∧EdV ob lo ub lv L
theorem GrR.keep {kG uG lo N ub b:Nat}{ob ob':ZO}{L:List P2}(h:GrR kG uG lo N ob ub L) (c:∀a,Off ub a→ob' a=ob a) (g:Off ub kG) (e:ub≤b):GrR kG uG lo N ob' b L:=by
 obtain⟨i,d,f⟩:=h
 exact⟨i,(c _ g).trans d,f.frame (fun u _ h=>c _ (Off.new h)) e⟩
theorem sv142 {Yf:YF}{kG uG lo N a b:Nat}{L:List P2}{ob:ZO}{tk:Nat→Bool}{ro base ub:Nat}(G:GrR kG uG lo N ob ub L) (h:Off lo kG) (g:lo≤ub) (l:ro≤lo) (s:ro≤uG) (I:L.length≤100000) (H:a<N) (J:b<N) :
 ∃r,EvS E Yf.y 142 [.ptr kG uG 0,.int .i64 (a:Int),.int .i64 (b:Int)] ob tk ro base ub r∧ub≤r.2.2.2∧GrR kG uG lo N r.2.1 r.2.2.2 (jrt L ((a:Int),(b:Int)))∧∀c,Off lo c→c≠kG→r.2.1 c=ob c:=by
 obtain⟨w,d,n⟩:=G
 have F:=(h.up g).ne
 have B:((a:Int)<0)=False:=zS
 have z:((b:Int)<0)=False:=zS
 have a1:((N:Int)≤a)=False:=by simp;omega
 have b1:((N:Int)≤b)=False:=by simp;omega
 refine Jn (af:=S142) rfl zD ?_
 show wpC E Yf S142.body _ (XT S142.res _)
 simp(disch:=first|(simp;done)|omega) [S142,objCells,d,B,z,a1,b1]
 refine jh (vs:=[.ptr kG uG 0,.int .i64 (a:Int),.int .i64 (b:Int)]) zS rfl rfl (jz5 (L:=L) (lo:=lo) (hi:=ub) (by simpa using d) (n.frame (fun u _ _=>by simp) zR) zO _ _ _ _ _) ?_
 unfold jrt
 cases K:L.contains ((a:Int),(b:Int))
 ·simp(disch:=first|(simp;done)|omega) [objCells,d,j2]
  refine jo (cs:=[.int .i64 (a:Int),.int .i64 (b:Int)]) (by simp[j2]) rfl rfl ?_
  simp
  refine jeh (lo:=lo) (hi:=ub) (v:=w) (L:=L) (p:=((a:Int),(b:Int))) zS (n.frame (fun u f k=>?_) zR) (by simpa using l) (by simp[slCells,objCells,edC]) zO fun t j=>?_
  ·have q:∀m,ub≤m→¬ u=m:=fun m x=>by omega
   simp(disch:=first|(simp;done)|omega) [two_inj,q]
  have i:∀c,Off lo c→t.any (Nat.beq c)=false:=fun c h=>by
   rcases j with rfl|⟨u,f,k,rfl,_⟩
   ·rfl
   ·simp only[List.any_cons,List.any_nil,Bool.or_false]
    exact Yu (h u f)
  have D:∀m,ub≤m→t.any (Nat.beq (2*m+1))=false:=fun m x=>by
   rcases j with rfl|⟨u,f,k,rfl,_⟩
   ·rfl
   ·simp only[List.any_cons,List.any_nil,Bool.or_false]
    exact JW zO
  generalize o:List.flatMap edC (L++[((a:Int),(b:Int))])=cs9
  simp(disch:=first|(simp;done)|omega) [objCells,d,i _ h,jD,F,j2]
  refine⟨s,jgp zS ?_⟩
  refine⟨zL,⟨.osl (2*(ub+2368)+1) (ub+2368) 0 (L.length+1) 2,by simp[Nat.add_assoc],.inr ⟨ub+2368,zS,?_,zO,zL⟩⟩,fun c f k=>?_⟩
  ·have:=(h.up (show lo≤ub+2368 by omega)).ne
   simp(disch:=first|(simp;done)|omega) [jD,two_inj,Nat.add_assoc,o]
   exact fun e=>absurd e.symm (this _ zR)
  ·have q:=(f.up g).ne
   simp(disch:=first|(simp;done)|omega) [jD,k,q,i c f]
 ·simp
  refine jgp zS ⟨zL,⟨w,by simpa using d,n.frame (fun u _ _=>by simp) zL⟩,fun c _ _=>by simp⟩
def ofE (l:List P2):List P2:=l.foldl jrt []
theorem jwf (L:List P2) (p:P2):(jrt L p).length≤L.length+1:=by
 unfold jrt
 split <;> simp
theorem ofE_len (l:List P2):(ofE l).length≤l.length:=by
 have:∀ (l L:List P2),(l.foldl jrt L).length≤L.length+l.length:=by
  intro l
  induction l with
  | nil=>intro L;simp
  | cons p l a=>
   intro L
   have b:=a (jrt L p)
   have c:=jwf L p
   simp only[List.foldl_cons,List.length_cons]
   omega
 have:=this l []
 simpa[ofE] using this
theorem jwe {L:List P2}{p z:P2}:z∈jrt L p ↔ z∈L∨z=p:=by
 unfold jrt
 split
 ·rename_i h
  have h:p∈L:=by simpa using h
  exact⟨.inl,fun a=>a.elim id fun e=>e▸h⟩
 ·simp
theorem j10 {l:List P2}{z:P2}:z∈ofE l ↔ z∈l:=by
 have:∀ (l L:List P2),z∈l.foldl jrt L ↔ z∈L∨z∈l:=by
  intro l
  induction l with
  | nil=>intro L;simp
  | cons p l a=>
   intro L
   rw[List.foldl_cons,a,jwe,List.mem_cons,or_assoc]
 have:=this l []
 simpa[ofE] using this
theorem jwy {l:List P2}{i:Nat}(h:i<l.length):ofE (l.take (i+1))=jrt (ofE (l.take i)) l[i]:=by
 unfold ofE
 rw[List.take_succ_eq_append_getElem h,List.foldl_append]
 rfl
theorem sv95 {Yf:YF}{lo hi N:Nat}{v:V}{l:List P2}{ob:ZO}{tk:Nat→Bool}{ro base ub:Nat}(L:EdV ob lo hi v l) (hu:hi≤ub) (b5:l.length≤100000) (hN:∀p∈l,∃a b:Nat,p=((a:Int),(b:Int))∧a<N∧b<N) (a0:ro≤ub) :
 ∃r,EvS E Yf.y 95 [.int .i64 (N:Int),v] ob tk ro base ub r∧∃u,ub≤u∧u<r.2.2.2∧r.1=.ptr (2*u+1) u 0∧GrR (2*u+1) u (u+1) N r.2.1 r.2.2.2 (ofE l)∧∀c,Off ub c→r.2.1 c=ob c:=by
 have j:=L.len
 refine Jn (af:=S95) rfl zD ?_
 show wpC E Yf S95.body _ (XT S95.res _)
 simp(disch:=first|(simp;done)|omega) [S95,j2]
 refine jY fun h e=>?_
 obtain⟨u,K,u2,g5,I⟩:∃u,ub≤u∧u<h.nx∧h.tm 5=.ptr (2*u+1) u 0∧h.ob (2*u+1)=some ⟨u,.cells [.int .i64 (N:Int),.sl none true 0 []]⟩:=by
  refine⟨ub+192,zO,?_,by rw[e];simp[Nat.add_assoc],by rw[e];simp[Nat.add_assoc]⟩
  rw[e]
  simp
 have g1:h.tm 1=v:=by rw[e];simp
 have Q:h.tm 6=.int .i64 0:=by rw[e];simp
 have gd:h.df=[]:=by rw[e];simp
 have gr:h.ro=ro:=by rw[e];simp
 have go:∀c,Off ub c→h.ob c=ob c:=fun c k=>by
  have:=k.ne
  rw[e]
  simp(disch:=first|(simp;done)|omega) [this]
 clear e
 obtain⟨J,n⟩:∃J:Nat→St→Prop,J=fun i s=>s.tm 6=.int .i64 i∧GrR (2*u+1) u (u+1) N s.ob s.nx (ofE (l.take i))∧u<s.nx∧∀c,Off ub c→s.ob c=ob c:=⟨_,rfl⟩
 refine j8 [(6,6),(10,27)] l.length J rfl rfl (by rw[n];exact⟨by simpa using Q,⟨_,I,.inl ⟨rfl,rfl⟩⟩,u2,go⟩) ?_
 clear I Q go
 intro i s hi m f
 rw[n]at m
 obtain⟨z,D,su,x⟩:=m
 have O:s.tm 1=v:=by rw[f.t 1 zS,g1]
 have S:s.tm 5=.ptr (2*u+1) u 0:=by rw[f.t 5 zS,g5]
 have Z:s.df=[]:=by rw[f.d,gd]
 have sr:s.ro=ro:=by rw[f.r,gr]
 clear f
 by_cases g:i<l.length
 ·have q:=jb g zO
  obtain⟨a,b,F,U,hb⟩:=hN _ (List.getElem_mem g)
  have B:=ofE_len (l.take i)
  rw[List.length_take]at B
  rcases L with⟨_,rfl⟩|⟨w,rfl,h4,w1,w2⟩
  ·simp at g
  have h5:s.ob (2*w+1)=some ⟨w,.cells (l.flatMap edC)⟩:=(x _ (Off.new zO)).trans h4
  have T:(l.flatMap edC)[i*2]? = some (.int .i64 a):=by
   have:=jR JO l g (by decide:0<2)
   rw[Nat.add_zero]at this
   rw[this,F]
   rfl
  have h2:(l.flatMap edC)[i*2+1]? = some (.int .i64 b):=by rw[jR JO l g (by decide:1<2),F];rfl
  have G:=idx0 (l:=2*w+1) (u:=w) (sz:=2) (kk:=.i64) g
  have e:=jwy g
  rw[F]at e
  simp(disch:=first|(simp;done)|omega) [z,S,O,j,g,G,objCells,h5,T,h2]
  refine jU (vs:=[.ptr (2*u+1) u 0,.int .i64 (a:Int),.int .i64 (b:Int)]) zS rfl (sv142 (lo:=u+1) (D.keep (fun c _=>by simp) (Off.new zO) zL) (Off.new zO) zL (by first|omega|(simp[sr];omega)) (by first|omega|(simp[sr];omega)) zO U hb) ?_
  rintro v1 b0 X o ⟨M,H,P⟩
  simp only at M H P
  have q1:s.nx≤o:=by first|omega|(simp at M;omega)
  rw[← e]at H
  simp(disch:=first|(simp;done)|omega) [z,q,g]
  rw[n]
  refine⟨zS,H.keep (fun c _=>by simp) (Off.new zO) zL,zL,fun c k=>?_⟩
  have:=P c (k.up zO) (k u K)
  simpa[this] using x c k
 ·have:i=l.length:=zO
  subst this
  rw[List.take_of_length_le zR]at D
  simp(disch:=first|(simp;done)|omega) [z,O,S,j]
  exact Yi (by simp[Z]) ⟨u,K,zL,zS,D.keep (fun c _=>by simp) (Off.new zO) zL,fun c k=>by simpa using x c k⟩
theorem jr0 {st:St}{n k L u sz:Nat}{cs:List V}{P:V→Prop}(i:∀r,SlR r false k cs→P r) (h:st.df=[]) (o:st.tm n=.osl L u 0 k sz) (c:st.ob L=some ⟨u,.cells cs⟩) (q:cs.length=k*sz) (m:st.ro≤u) (hp:cs.all V.pureLeaf=true):ja2 [.t n] P .ret st:=by
 have b:objCells st.ob L u=some cs:=by simp[objCells,c]
 have j:JC st 6 (.osl L u 0 k sz)=some (.sl none false k cs):=by
  show((objCells st.ob L u).bind fun cs=>if Nat.ble st.ro u=true∧0+k*sz≤cs.length then (((cs.drop 0).take (k*sz)).mapM (JC st 5)).map fun e=>V.sl none false k e else none)=_
  rw[b,Option.bind_some,if_pos ⟨Nat.ble_eq▸m,zO⟩,List.drop_zero,List.take_of_length_le zO,Qh hp]
  rfl
 have c:∃t:Option (Nat × Nat),ji st true 0 (.osl L u 0 k sz)=some (.sl t false k cs)∧∀p∈t.toList,p.1<64:=by
  simp only[ji,j,Option.bind_some,b,Option.map_some]
  refine⟨_,rfl,fun p hp=>?_⟩
  split at hp
  ·simp at hp;subst hp;exact Nat.le_of_ble_eq_true rfl
  ·simp at hp
 obtain⟨t,d,f⟩:=c
 have g:[ARes.t n].mapM (jl st)=some [.osl L u 0 k sz]:=by simp[jl,o]
 refine⟨.sl t false k cs,?_,i _ ⟨t,rfl,f⟩⟩
 simp only[ja8,YU h,YN h,if_true,g,Option.bind_some,Yg]
 have l:nodup ([V.osl L u 0 k sz].flatMap V.toks)=true:=rfl
 rw[l]
 have a:XS st true 0 (.osl L u 0 k sz)=some (.sl t false k cs):=d
 simp only[JE,a,Option.bind_some,Option.map_some]
 cases t <;> rfl
def IntL (ob:ZO) (lo hi:Nat) (v:V) (L:List Int):Prop:=∃u,v=.osl (2*u+1) u 0 L.length 1∧ob (2*u+1)=some ⟨u,.cells (L.flatMap intC)⟩∧lo≤u∧u<hi
def EdL (ob:ZO) (lo hi:Nat) (v:V) (L:List P2):Prop:=∃u,v=.osl (2*u+1) u 0 L.length 2∧ob (2*u+1)=some ⟨u,.cells (L.flatMap edC)⟩∧lo≤u∧u<hi
def XD (L:List P2) (N:Nat) (a i:Nat):List Int:=ints ((List.range i).filter fun b=>L.contains ((a:Int),(b:Int)))
theorem jga (L:List P2) (N a i:Nat):XD L N a (i+1)=XD L N a i++if L.contains ((a:Int),(i:Int)) then [(i:Int)] else []:=by
 unfold XD
 rw[List.range_succ,List.filter_append]
 cases h:L.contains ((a:Int),(i:Int))
 ·rw[List.filter_cons,h,if_neg zD,if_neg zD,List.filter_nil,List.append_nil,List.append_nil]
 ·rw[List.filter_cons,h,if_pos rfl,if_pos rfl,List.filter_nil]
  simp[ints]
theorem jau (L:List P2) (N a:Nat):∀i,(XD L N a i).length≤i
 | 0=>by simp[XD,ints]
 | i+1=>by
  have:=jau L N a i
  rw[jga]
  split <;> simp <;> omega
section
variable {ob:ZO}{lo kG uG N ub:Nat}{L:List P2}
theorem evo143 (hG:GrR kG uG lo N ob ub L) (g:Off ub kG) (hl:L.length≤100000) (hN:N≤1000) (a:Nat) (tk:Nat→Bool) (base:Nat):∃v,EvO E 143 [.ptr kG uG 0,.int .i64 (a:Int)] ob tk base ub v∧SlR v false (XD L N a N).length ((XD L N a N).flatMap intC):=by
 obtain⟨lv,F,hE⟩:=hG
 have oG:=g.ne
 refine jb6 (af:=S143) rfl zD ?_
 simp[S143]
 refine jo (cs:=[]) rfl rfl rfl ?_
 simp
 refine jY fun j c=>?_
 have T:j.tm 0=.ptr kG uG 0:=by rw[c];simp
 have g1:j.tm 1=.int .i64 (a:Int):=by rw[c];simp
 have M:j.tm 6=.int .i64 0:=by rw[c];simp
 have K:∃v,j.tm 5=v∧IntL j.ob ub j.nx v []:=by
  refine⟨_,rfl,ub+64,by rw[c];simp,by rw[c];simp,zO,?_⟩
  rw[c]
  first|omega|(simp;done)|(simp;omega)
 have gd:j.df=[]:=by rw[c];simp
 have gr:j.ro=ub:=by rw[c];simp
 have P:ub≤j.nx:=by rw[c];first|omega|(simp;done)|(simp;omega)
 have go:∀b,Off ub b→j.ob b=ob b:=fun b g=>by
  have:=g.ne
  rw[c]
  simp(disch:=first|(simp;done)|omega) [this]
 clear c
 obtain⟨J,z⟩:∃J:Nat→St→Prop,J=fun i s=>s.tm 6=.int .i64 i∧(∃v,s.tm 5=v∧IntL s.ob ub s.nx v (XD L N a i))∧ub≤s.nx∧∀b,Off ub b→s.ob b=ob b:=⟨_,rfl⟩
 refine j8 [(5,6),(8,23)] N J rfl rfl (by rw[z];exact⟨by simpa using M,K,P,go⟩) ?_
 clear K M go P
 intro i s hi q f
 rw[z]at q
 obtain⟨x,⟨v,H,D⟩,sn,B⟩:=q
 have Q:s.tm 0=.ptr kG uG 0:=by rw[f.t 0 zS,T]
 have s1:s.tm 1=.int .i64 (a:Int):=by rw[f.t 1 zS,g1]
 have X:s.df=[]:=by rw[f.d,gd]
 have sr:s.ro=ub:=by rw[f.r,gr]
 clear f
 have o:s.ob kG=some ⟨uG,.cells [.int .i64 (N:Int),lv]⟩:=(B _ g).trans F
 by_cases k:i<N
 ·have w:=jb k zO
  have a0:=jau L N a i
  have e:=jga L N a i
  simp(disch:=first|(simp;done)|omega) [x,Q,s1,objCells,o,k]
  refine jh (vs:=[.ptr kG uG 0,.int .i64 (a:Int),.int .i64 (i:Int)]) zS rfl rfl (jz5 (L:=L) (lo:=lo) (hi:=ub) (by simpa using o) (hE.frame (fun u _ h=>by simpa using B _ (Off.new h)) zR) zO _ _ _ _ _) ?_
  cases O:L.contains ((a:Int),(i:Int))
  ·rw[O,if_neg zD,List.append_nil]at e
   simp(disch:=first|(simp;done)|omega) [x,w,k]
   rw[z]
   obtain⟨u,rfl,y,p,S⟩:=D
   exact⟨zS,⟨.osl (2*u+1) u 0 (XD L N a i).length 1,by simp[H],u,by rw[e],by rw[e];simpa using y,p,zL⟩,zL,fun b g=>by simpa using B b g⟩
  ·rw[O,if_pos rfl]at e
   obtain⟨u,rfl,y,p,S⟩:=D
   have nu:∀m,s.nx≤m→¬ u=m:=fun m Z=>by omega
   have U:((XD L N a i).flatMap intC).length=(XD L N a i).length:=by rw[j4 jC,Nat.mul_one]
   simp(disch:=first|(simp;done)|omega) [x,H]
   refine jo (cs:=[.int .i64 (i:Int)]) (by simp[j2]) rfl rfl ?_
   simp
   refine XN (l:=2*u+1) (u:=u) (n:=(XD L N a i).length) (cs:=(XD L N a i).flatMap intC) (ys:=[.int .i64 (i:Int)]) zS (by simp[slCells,objCells]) ?_ zS (by simpa[sr] using p) zO zD rfl (by simp;omega) (by simp;omega) ?_
   ·simp(disch:=first|(simp;done)|omega) [two_inj,nu]
    exact y
   rw[List.take_of_length_le zO]
   simp(disch:=first|(simp;done)|omega) [x,w,k]
   rw[z]
   have G:(XD L N a i).flatMap intC++[V.int .i64 (i:Int)]=(XD L N a (i+1)).flatMap intC:=by rw[e];simp[intC]
   refine⟨zS,⟨.osl (2*(s.nx+832)+1) (s.nx+832) 0 (XD L N a (i+1)).length 1,by simp[e,Nat.add_assoc],s.nx+832,rfl,?_,zO,zL⟩,zL,fun b g=>?_⟩
   ·simp(disch:=first|(simp;done)|omega) [jD,two_inj,Nat.add_assoc,G]
   ·have h5:=g.ne
    have I:¬ b=2*u+1:=g u p
    have h7:∀m,s.nx≤m→¬ b=2*m+1:=fun m Z=>g m zO
    simp(disch:=first|(simp;done)|omega) [jD,I,h7,Yu I]
    exact B b g
 ·have:i=N:=zO
  subst this
  obtain⟨u,rfl,y,p,S⟩:=D
  simp(disch:=first|(simp;done)|omega) [x,Q,H,objCells,o]
  exact jr0 (L:=2*u+1) (u:=u) (sz:=1) (fun r h=>h) (by simp[X]) zS (by simpa using y) (by rw[j4 jC]) (by simpa[sr] using p) (by simp[intC,V.pureLeaf])
end
def rowE (L:List P2) (N a:Nat):List P2:=(XD L N a N).map fun b=>((a:Int),b)
def J6 (L:List P2) (N a:Nat):List P2:=(List.range a).flatMap (rowE L N)
theorem jcl (L:List P2) (N a:Nat):J6 L N (a+1)=J6 L N a++rowE L N a:=by
 unfold J6
 rw[List.range_succ,List.flatMap_append]
 simp
theorem jl9 (L:List P2) (N:Nat):J6 L N N=jV N fun a b=>L.contains ((a:Int),(b:Int)):=by
 unfold J6 jV rowE XD ints
 simp only[List.map_map]
 rfl
theorem jc1 (L:List P2) (N a:Nat):(rowE L N a).length=(XD L N a N).length:=by simp[rowE]
theorem jey (L:List P2) (N:Nat):∀a,(J6 L N a).length≤a*N
 | 0=>by simp[J6]
 | a+1=>by
  have b:=jey L N a
  have d:=jau L N a N
  have c:=jc1 L N a
  rw[jcl,List.length_append,Nat.succ_mul]
  omega
section
variable {ob:ZO}{lo kG uG N ub:Nat}{L:List P2}
theorem evo96 (hG:GrR kG uG lo N ob ub L) (i:Off ub kG) (hl:L.length≤100000) (hN:N≤100) (tk:Nat→Bool) (base:Nat):∃v,EvO E 96 [.ptr kG uG 0] ob tk base ub v∧SlR v false (J6 L N N).length ((J6 L N N).flatMap edC):=by
 have b7:=hG
 obtain⟨lv,Q,hE⟩:=hG
 refine jb6 (af:=S96) rfl zD ?_
 simp[S96]
 refine jo (cs:=[]) rfl rfl rfl ?_
 simp
 refine jY fun o c=>?_
 have g0:o.tm 0=.ptr kG uG 0:=by rw[c];simp
 have g4:o.tm 4=.int .i64 0:=by rw[c];simp
 have g3:∃v,o.tm 3=v∧EdL o.ob ub o.nx v []:=by
  refine⟨_,rfl,ub+64,by rw[c];simp,by rw[c];simp,zO,?_⟩
  rw[c]
  first|omega|(simp;done)|(simp;omega)
 have gd:o.df=[]:=by rw[c];simp
 have gr:o.ro=ub:=by rw[c];simp
 have gn:ub≤o.nx:=by rw[c];first|omega|(simp;done)|(simp;omega)
 have go:∀b,Off ub b→o.ob b=ob b:=fun b i=>by
  have:=i.ne
  rw[c]
  simp(disch:=first|(simp;done)|omega) [this]
 clear c
 obtain⟨J,hJ⟩:∃J:Nat→St→Prop,J=fun a s=>s.tm 4=.int .i64 a∧(∃v,s.tm 3=v∧EdL s.ob ub s.nx v (J6 L N a))∧ub≤s.nx∧∀b,Off ub b→s.ob b=ob b:=⟨_,rfl⟩
 refine j8 [(3,33)] N J rfl rfl (by rw[hJ];exact⟨by simpa using g4,g3,gn,go⟩) ?_
 clear g3 g4 go gn
 intro a s hi I f
 rw[hJ]at I
 obtain⟨S,⟨v,s3,sI⟩,sn,so⟩:=I
 have s0:s.tm 0=.ptr kG uG 0:=by rw[f.t 0 zS,g0]
 have sd:s.df=[]:=by rw[f.d,gd]
 have sr:s.ro=ub:=by rw[f.r,gr]
 clear f
 have y:s.ob kG=some ⟨uG,.cells [.int .i64 (N:Int),lv]⟩:=(so _ i).trans Q
 by_cases F:a<N
 ·have P:=jb F zO
  have b0:=jau L N a N
  have a0:=jey L N a
  have b8:a*N≤100*100:=Nat.mul_le_mul zO hN
  simp(disch:=first|(simp;done)|omega) [S,s0,objCells,y,F]
  refine js6 (vs:=[.ptr kG uG 0,.int .i64 (a:Int)]) zS rfl rfl (evo143 (L:=L) (lo:=lo) ⟨lv,by simpa using y,hE.frame (fun u _ h=>by simpa using so _ (Off.new h)) zL⟩ (i.up zL) hl zO a _ _) fun w hw=>?_
  refine XZ hw fun t1 add=>?_
  simp
  refine jY fun p k=>?_
  have p0:p.tm 0=.ptr kG uG 0:=by rw[k];simp[s0]
  have p3:p.tm 3=v:=by rw[k];simp[s3]
  have p4:p.tm 4=.int .i64 a:=by rw[k];simp[S]
  have p5:p.tm 5=.sl t1 false (XD L N a N).length ((XD L N a N).flatMap intC):=by rw[k];simp
  have p6:p.tm 6=.int .i64 0:=by rw[k];simp
  have pd:p.df=[]:=by rw[k];simp[sd]
  have pr:p.ro=ub:=by rw[k];simp[sr]
  have pn:s.nx≤p.nx:=by rw[k];first|omega|(simp;done)|(simp;omega)
  have po:p.ob=s.ob:=by rw[k];simp
  clear k
  obtain⟨T,z⟩:∃T:Nat→St→Prop,T=fun j q=>q.tm 6=.int .i64 j∧(∃v,q.tm 3=v∧EdL q.ob ub q.nx v (J6 L N a++(rowE L N a).take j))∧ub≤q.nx∧∀b,Off ub b→q.ob b=ob b:=⟨_,rfl⟩
  refine j8 [(3,3),(6,6),(19,33)] (XD L N a N).length T rfl rfl ?_ ?_
  ·rw[z]
   obtain⟨u,rfl,D,H,h4⟩:=sI
   exact⟨by simpa using p6,⟨_,p3,u,zS,by rw[po];simpa using D,H,zO⟩,zO,fun b i=>by rw[po];exact so b i⟩
  clear p6 p3
  intro j q hj M f
  rw[z]at M
  obtain⟨O,⟨v2,q3,qI⟩,qn,qo⟩:=M
  have q0:q.tm 0=.ptr kG uG 0:=by rw[f.t 0 zS,p0]
  have q4:q.tm 4=.int .i64 a:=by rw[f.t 4 zS,p4]
  have q5:q.tm 5=.sl t1 false (XD L N a N).length ((XD L N a N).flatMap intC):=by rw[f.t 5 zS,p5]
  have qd:q.df=[]:=by rw[f.d,pd]
  have qr:q.ro=ub:=by rw[f.r,pr]
  clear f
  obtain⟨u,rfl,D,H,h4⟩:=qI
  by_cases g:j<(XD L N a N).length
  ·have K:=jb g zO
   have X:=JY jC t1 false (XD L N a N) .i64 g
   have Z:=JX (XD L N a N) g
   have nu:∀m,q.nx≤m→¬ u=m:=fun m hm=>by omega
   have x:(rowE L N a).take (j+1)=(rowE L N a).take j++[((a:Int),(XD L N a N)[j])]:=by
    rw[List.take_succ_eq_append_getElem (by rw[jc1];exact g)]
    simp[rowE]
   have U:(J6 L N a++(rowE L N a).take j).flatMap edC++[V.int .i64 (a:Int),.int .i64 (XD L N a N)[j]]=(J6 L N a++(rowE L N a).take (j+1)).flatMap edC:=by
    rw[x,← List.append_assoc,List.flatMap_append (xs:=J6 L N a++(rowE L N a).take j)]
    simp[edC]
   have G:(J6 L N a++(rowE L N a).take (j+1)).length=(J6 L N a++(rowE L N a).take j).length+1:=by rw[x,← List.append_assoc,List.length_append (bs:=[_])];rfl
   have b5:(J6 L N a++(rowE L N a).take j).length≤20000:=by
    rw[List.length_append,List.length_take,jc1]
    omega
   have b6:((J6 L N a++(rowE L N a).take j).flatMap edC).length=(J6 L N a++(rowE L N a).take j).length*2:=j4 JO _
   generalize hA:J6 L N a++(rowE L N a).take j=A at *
   generalize hB:J6 L N a++(rowE L N a).take (j+1)=B at *
   simp(disch:=first|(simp;done)|omega) [O,q5,q3,q4,g,X,Z,j2]
   refine jo (cs:=[.int .i64 (a:Int),.int .i64 (XD L N a N)[j]]) (by simp[j2]) rfl rfl ?_
   simp
   refine XN (l:=2*u+1) (u:=u) (n:=A.length) (cs:=A.flatMap edC) (ys:=[.int .i64 (a:Int),.int .i64 (XD L N a N)[j]]) zS (by simp[slCells,objCells]) ?_ zS (by simpa[qr] using H) zO zD rfl (by simp;omega) (by simp;omega) ?_
   ·simp(disch:=first|(simp;done)|omega) [two_inj,nu]
    exact D
   rw[List.take_of_length_le zO,U]
   simp(disch:=first|(simp;done)|omega) [O,K,g]
   rw[z]
   simp only[hB]
   refine⟨zS,⟨.osl (2*(q.nx+768)+1) (q.nx+768) 0 B.length 2,by simp[G,Nat.add_assoc],q.nx+768,rfl,?_,zO,zL⟩,zL,fun b i=>?_⟩
   ·simp(disch:=first|(simp;done)|omega) [jD,two_inj,Nat.add_assoc]
   ·have h6:¬ b=2*u+1:=i u H
    have h7:∀m,q.nx≤m→¬ b=2*m+1:=fun m hm=>i m zO
    simp(disch:=first|(simp;done)|omega) [jD,h6,h7,Yu h6]
    exact qo b i
  ·have e:j=(XD L N a N).length:=zO
   subst e
   rw[List.take_of_length_le (by rw[jc1];exact Nat.le_refl _),← jcl]at D q3
   simp(disch:=first|(simp;done)|omega) [O,q5,q4,P,F]
   rw[hJ]
   exact⟨zS,⟨_,by simpa using q3,u,rfl,by simpa using D,H,zL⟩,zL,fun b i=>by simpa using qo b i⟩
 ·have:a=N:=zO
  subst this
  obtain⟨u,rfl,D,H,h4⟩:=sI
  simp(disch:=first|(simp;done)|omega) [S,s0,s3,objCells,y]
  exact jr0 (L:=2*u+1) (u:=u) (sz:=2) (fun r h=>h) (by simp[sd]) zS (by simpa using D) (by rw[j4 JO]) (by simpa[sr] using H) (jub _)
end
def jew (g:Hist') (lvl:Int) (M:List Int):Int:=if !JQ g then 4 else if lvl<1∨2<lvl∨jav g M=false then 2 else 0
section
variable {g:Hist'}{M:List Int}
theorem ev94 (g:Hist') (x:Int):Ev E 94 [.agg (histC g),.int .i64 x] (.int .i64 (JF g x)):=by
 refine jQ (af:=F94) rfl ?_
 unfold JF
 by_cases h:x<0
 ·simp[F94,histC,objCells,h]
  exact j1 rfl zS rfl
 ·simp[F94,histC,objCells,h]
  exact j1 rfl zS rfl
theorem ev43 (e:Small g) (lvl:Int) {mn:Bool}(i:M.length≤1000000):Ev E 43 [.int .i64 lvl,.agg (histC g),slOf mn intC M] (.int .i64 (jew g lvl M)):=by
 have c:=ev21 e
 have d:=ev22 e (b:=mn) M zO
 refine jQ (af:=F43) rfl ?_
 simp[F43,histC,objCells,slOf]
 refine jO c (by simp[histC,slOf]) rfl (by simp[histC,slOf]) ?_
 unfold jew
 cases j:JQ g
 ·simp
  exact j1 rfl zS rfl
 by_cases a:lvl<1
 ·simp[a]
  exact j1 rfl zS rfl
 by_cases f:2<lvl
 ·simp[a,f]
  exact j1 rfl zS rfl
 simp[a,f,objCells]
 refine jO d (by simp[histC,slOf]) rfl (by simp[histC,slOf]) ?_
 cases h:jav g M
 ·simp
  exact j1 rfl zS rfl
 ·simp
  exact j1 rfl zS rfl
end
theorem ev45 {an bn:Bool}(l m:List P2) (K:l.length≤1000000):Ev E 45 [slOf an edC l,slOf bn edC m] (.bool (l == m)):=by
 refine jQ (af:=F45) rfl ?_
 by_cases j:l.length=m.length
 ·have n:((l.length:Int) != (m.length:Int))=false:=by rw[j];simp
  simp[F45,slOf,n]
  obtain⟨R,B⟩:∃R,R=(l == m):=⟨_,rfl⟩
  rw[← B]
  refine j8 [(4,5),(11,25)] l.length (fun i s=>s.tm 5=.int .i64 i∧R=(l.drop i == m.drop i)) rfl rfl ⟨zS,by simpa using B⟩ ?_
  rintro i s L ⟨z,o⟩ f
  have D:s.tm 0=slOf an edC l:=by rw[f.t 0 zS];simp[slOf]
  have H:s.tm 1=slOf bn edC m:=by rw[f.t 1 zS];simp[slOf]
  have r:s.df=[]:=by rw[f.d];simp
  clear f
  by_cases h:i<l.length
  ·have u:=jb h zO
   have k:i<m.length:=zO
   rw[List.drop_eq_getElem_cons h,List.drop_eq_getElem_cons k]at o
   have F:=j5 JO an l .i64 h
   have I:=j5 JO bn m .i64 k
   have J:=XP JO l i h
   have G:=XP JO m i k
   have b1:i*2+2≤(l.flatMap edC).length:=by rw[j4 JO];omega
   have b2:i*2+2≤(m.flatMap edC).length:=by rw[j4 JO];omega
   have b3:=b1
   have b4:=b2
   rw[List.length_flatMap]at b3 b4
   generalize l[i]=p at *
   generalize m[i]=q at *
   obtain⟨a,b⟩:=p
   obtain⟨c,d⟩:=q
   simp(disch:=first|(simp;done)|omega) [z,D,H,h,F,I]
   refine⟨b3,b4,?_⟩
   rw[J,G]
   cases x:(a == c)
   ·have v:a≠c:=by simpa using x
    simp[edC,jj,YT,x]
    refine j1 (by simp[r]) ?_ rfl
    simp[o,v]
   ·have v:a=c:=by simpa using x
    subst v
    cases w:(b == d)
    ·have y:b≠d:=by simpa using w
     simp[edC,jj,YT,w]
     refine j1 (by simp[r]) ?_ rfl
     simp[o,y]
    ·have y:b=d:=by simpa using w
     subst y
     simp(disch:=first|(simp;done)|omega) [edC,jj,YT,z,u,h]
     rw[o]
     simp
  ·have:i=l.length:=zO
   subst this
   rw[List.drop_of_length_le zR,List.drop_of_length_le zO]at o
   simp(disch:=first|(simp;done)|omega) [z,D,slOf]
   exact j1 (by simp[r]) (by simp[o]) rfl
 ·have n:((l.length:Int) != (m.length:Int))=true:=by simp;omega
  simp[F45,slOf,n]
  refine j1 rfl ?_ rfl
  simp
  exact fun e=>j (congrArg List.length e)
theorem YO {st:St}{ub lo hi:Nat}{K:List FP→St→Prop}{d:Option Nat}{r:List AOpr}{v:V}{L:List P2}{p:P2}{s x:A}(f:eval E st.tm s=v) (m:EdV st.ob lo hi v L) (l:st.ro≤lo) (i:slCells st.ob 2 (eval E st.tm x)=some (edC p)) (q:L.length≤1000000)
 (h:∀c:List Nat,(c=[]∨∃u,lo≤u∧u<hi∧c=[2*u+1])→Wt E r K (eval E st.tm) (.append true 2 16 s x) st d ub { v:=.osl (2*ub+1) ub 0 (L.length+1) 2,obs:=[(2*ub+1,⟨ub,.cells ((L++[p]).flatMap edC)⟩)],kill:=c }):jE E (⟨d,.append true 2 16 s x,none,true⟩::r) st ub K:=by
 rw[Jo rfl]
 have b:edC p≠[]:=by simp[edC]
 have a:(edC p).all V.leaf=true:=rfl
 have k:=j4 JO L
 rcases m with⟨rfl,rfl⟩|⟨u,rfl,o,j,n⟩
 ·simp only[aop,f,i,Option.bind_some,if_neg b,Bool.and_self,if_true,Jq,Wn]
  rw[if_pos ⟨zD,a,by simp[edC],by simp[edC]⟩]
  simp only[Jg,jK]
  have:=h [] (.inl rfl)
  simpa[edC] using this
 ·have e:objCells st.ob (2*u+1) u=some (L.flatMap edC):=by simp[objCells,o]
  simp only[aop,f,i,e,Option.bind_some,if_neg b,Jq,Wn]
  rw[if_pos ⟨Nat.ble_eq▸zO,trivial,trivial,zO,zD,a,by simp[edC];omega,by simp[edC];omega⟩,jK]
  have:=h [2*u+1] (.inr ⟨u,j,n,rfl⟩)
  rw[show(L.flatMap edC).take (L.length*2)=L.flatMap edC from List.take_of_length_le zO]
  simpa[edC,List.flatMap_append] using this
def mkS (g:Hist') (mv rv lv:V):List V:=histC g++[mv,rv,lv]
def MkR (g:Hist') (mv rv:V) (kX uX lo:Nat) (ob:ZO) (ub:Nat) (L:List P2):Prop:=∃lv,ob kX=some ⟨uX,.cells (mkS g mv rv lv)⟩∧EdV ob lo ub lv L
theorem MkR.keep {g:Hist'}{mv rv:V}{kX uX lo ub b:Nat}{ob ob':ZO}{L:List P2}(h:MkR g mv rv kX uX lo ob ub L) (c:∀a,Off ub a→ob' a=ob a) (i:Off ub kX) (e:ub≤b):MkR g mv rv kX uX lo ob' b L:=by
 obtain⟨j,d,f⟩:=h
 exact⟨j,(c _ i).trans d,f.frame (fun u _ h=>c _ (Off.new h)) e⟩
section
variable {g:Hist'}{mv rv:V}{kX uX lo:Nat}{ob:ZO}{ub:Nat}{L:List P2}
theorem jz6 (a:∃b,ob kX=some ⟨uX,.cells (mkS g mv rv b)⟩) (x:Int) (tk:Nat→Bool) (base ub:Nat):EvO E 192 [.ptr kX uX 0,.int .i64 x] ob tk base ub (.int .i64 (JF g x)):=by
 obtain⟨b,a⟩:=a
 refine Jz (af:=S192) rfl ?_
 unfold JF
 by_cases h:x<0
 ·simp[S192,objCells,a,mkS,histC,h]
  exact j1 rfl zS rfl
 ·simp[S192,h]
  exact j1 rfl zS rfl
theorem EdV.at {ob:ZO}{lo hi:Nat}{v:V}{L:List P2}(h:EdV ob lo hi v L):∃c a,lo≤c∧(a≤hi∨a=lo)∧EdV ob c a v L∧∀u,c≤u→u<a→v=.osl (2*u+1) u 0 L.length 2:=by
 rcases h with⟨a,b⟩|⟨u,a,b,d,f⟩
 ·exact⟨lo,lo,zR,.inr rfl,.inl ⟨a,b⟩,fun u h e=>by omega⟩
 ·exact⟨u,u+1,d,.inl zO,.inr ⟨u,a,b,zR,Nat.lt_succ_self _⟩,fun w h e=>by rw[a,show w=u by omega]⟩
def jy4 (v:V) (L:List P2) (key:Nat):Prop:=∀u,v=.osl (2*u+1) u 0 L.length 2→key≠2*u+1
theorem EdV.off {ob:ZO}{lo hi:Nat}{v:V}{L:List P2}(h:EdV ob lo hi v L) {key:Nat}(b:Off lo key):jy4 v L key:=by
 intro u a
 rcases h with⟨rfl,_⟩|⟨w,rfl,_,c,_⟩
 ·cases a
 ·have:w=u:=by injection a
  exact b u zO
theorem jq0 {Yf:YF}{tk:Nat→Bool}{ro base:Nat}{lv:V}(d:ob kX=some ⟨uX,.cells (mkS g mv rv lv)⟩) (B:EdV ob lo ub lv L) (j:Off lo kX) (q:lo≤ub) (D:ro≤lo) (z:ro≤uX) (M:L.length≤100000) (a b:Int) :
 ∃r,EvS E Yf.y 137 [.ptr kX uX 0,.int .i64 a,.int .i64 b] ob tk ro base ub r∧ub≤r.2.2.2∧(∃h,r.2.1 kX=some ⟨uX,.cells (mkS g mv rv h)⟩∧EdL r.2.1 ub r.2.2.2 h (L++[(JF g a,JF g b)]))∧∀c,Off ub c→c≠kX→jy4 lv L c→r.2.1 c=ob c:=by
 have n:=(j.up q).ne
 obtain⟨F,f,O,N,K,G⟩:=B.at
 refine Jn (af:=S137) rfl zD ?_
 show wpC E Yf S137.body _ (XT S137.res _)
 simp(disch:=first|(simp;done)|omega) [S137,objCells,d,mkS,histC]
 refine jzv (vs:=[.ptr kX uX 0,.int .i64 a]) zS rfl rfl (jz6 (g:=g) (mv:=mv) (rv:=rv) ⟨lv,by simpa using d⟩ _ _ _ _) (YC rfl) ?_
 simp
 refine jzv (vs:=[.ptr kX uX 0,.int .i64 b]) zS rfl rfl (jz6 (g:=g) (mv:=mv) (rv:=rv) ⟨lv,by simpa using d⟩ _ _ _ _) (YC rfl) ?_
 simp[j2]
 refine JN (cs:=[.int .i64 (JF g a),.int .i64 (JF g b)]) (by simp[j2]) rfl rfl ?_
 simp
 refine YO (lo:=F) (hi:=f) (v:=lv) (L:=L) (p:=(JF g a,JF g b)) zS (K.frame (fun u f l=>?_) zR) (by simp;omega) (by simp[slCells,objCells,edC]) zO fun J x=>?_
 ·have w:∀m,ub≤m→¬ u=m:=fun m k=>by omega
  simp(disch:=first|(simp;done)|omega) [two_inj,w]
 have i:∀c,jy4 lv L c→J.any (Nat.beq c)=false:=fun c j=>by
  rcases x with rfl|⟨u,f,l,rfl⟩
  ·rfl
  ·simp only[List.any_cons,List.any_nil,Bool.or_false]
   exact Yu (j u (G u f l))
 have s:=i _ (B.off j)
 generalize t:List.flatMap edC (L++[(JF g a,JF g b)])=cs9
 simp(disch:=first|(simp;done)|omega) [objCells,d,mkS,histC,s,jD,n,j2]
 have I:∀m,ub≤m→Nat.beq kX (2*m+1)=false:=fun m k=>JW (n m k)
 have o:∀m,ub≤m→Nat.beq (2*m+1) kX=false:=fun m k=>JW (Ne.symm (n m k))
 refine⟨z,by simp(disch:=first|(simp;done)|omega) [Jw,QR,Qv,jbf,rdOb,rdTk,lOf,uOf,Delta.wo,Delta.wt,I,o],?_⟩
 refine jda (.inl rfl) zS ⟨zL,⟨.osl (2*(ub+832)+1) (ub+832) 0 (L.length+1) 2,by simp[mkS,histC,Nat.add_assoc],ub+832,zS,?_,zO,zL⟩,fun c f l H=>?_⟩
 ·simp(disch:=first|(simp;done)|omega) [jD,two_inj,Nat.add_assoc,t]
  exact fun e=>absurd e.symm (n _ zO)
 ·have w:=f.ne
  simp(disch:=first|(simp;done)|omega) [jD,l,w,i c H]
theorem sv137 {Yf:YF}{tk:Nat→Bool}{ro base:Nat}(n:MkR g mv rv kX uX lo ob ub L) (o:Off lo kX) (d:lo≤ub) (e:ro≤lo) (i:ro≤uX) (q:L.length≤100000) (a b:Int) :
 ∃r,EvS E Yf.y 137 [.ptr kX uX 0,.int .i64 a,.int .i64 b] ob tk ro base ub r∧ub≤r.2.2.2∧MkR g mv rv kX uX lo r.2.1 r.2.2.2 (L++[(JF g a,JF g b)])∧∀c,Off lo c→c≠kX→r.2.1 c=ob c:=by
 obtain⟨B,h,j⟩:=n
 obtain⟨r,l,s,⟨f,m,u,t,w,z,x⟩,p⟩:=jq0 (Yf:=Yf) (tk:=tk) (ro:=ro) (base:=base) h j o d e i q a b
 exact⟨r,l,s,⟨f,m,.inr ⟨u,t,w,zO,x⟩⟩,fun c k v=>p c (k.up d) v (j.off k)⟩
end
end Go.Pv.T
