/- Part. -/
import Derived.Test.YtmanndcfeicokaaGreatDoorPF
set_option maxRecDepth 100000
set_option maxHeartbeats 8000000
set_option linter.all false
namespace Go.Pv.T
open Go Go.Pv
def Qa (o:Op') (v:Val'):Bool:=o.v.kind==2||(v.kind==o.v.kind&&v.n==o.v.n)
def JO (o:Op'):List Int:=if o.v.kind=1 then [] else [-1]
def ofL (g:Hist') (a:Int) (o:Op'):List Int:=JO o++(yP g o.key).filter λi=>!(i==a)&&Qa o (Xx g o.key i)
def ofH (g:Hist') (a b:Int):List Int:=match opAt g a b with
 |some o=>if o.w then [] else ofL g a o
 |none=>[]
def jhw (g:Hist') (k:Int):(yP g k).Pairwise (· < ·)/\∀x∈yP g k,0<=x:=by have:=Qp (p:=wrB k) (ts:=g.ts) g.ts.length zK;exact⟨this.2,λx a=>(this.1 x a).1⟩
def jun (g:Hist') (a:Int) (o:Op'):(ofL g a o).Pairwise (·<=·):=by have h:=jhw g o.key;unfold ofL JO;rw[List.pairwise_append];refine⟨?_,?_,?_⟩;split<;>simp;exact((h.1.imp (λh=>Int.le_of_lt h)).filter _);intro x b y c;have d:=h.2 y (bL.1 c).1;split at b;cases b;rw[ae]at b;omega
def jfl (g:Hist') (k:Int):(yP g k).length<=g.ts.length:=by unfold yP;exact Jj (wrB k) g.ts g.ts.length
def j8m {g:Hist'}(c:g.ts.length<=40) (a:Int) (o:Op'):(ofL g a o).length<=41:=by unfold ofL JO;rw[ap];have b:=bO (λi=>!(i==a)&&Qa o (Xx g o.key i)) (yP g o.key);have d:=jfl g o.key;split<;>simp<;>omega
def jyt {g:Hist'}(a:Yr g=true):g.ts.length<=40:=by unfold Yr Xy at a;simp only[aj,ze]at a;exact a.1.2.2.2.2
def YP (o:Op') (P:List (Int×Val')):List Int:=(P.filter λp=>Qa o p.2).map (·.1)
def jo1 {g:Hist'}{a:Int}{o:Op'}{P:List (Int×Val')}(h:P.Perm (X3 g a o.key (yP g o.key))):(JO o++YP o P).Perm (ofL g a o):=by
 unfold ofL;refine List.Perm.append_left _ ?_;have b:(YP o P).Perm (YP o (X3 g a o.key (yP g o.key))):=(h.filter _).map _;refine b.trans ?_;have e:YP o (X3 g a o.key (yP g o.key))=(yP g o.key).filter λi=>!(i==a)&&Qa o (Xx g o.key i):=by unfold YP X3;rw[List.filter_map,cM,List.filter_filter];have:((λx:Int×Val'=>x.1) ∘ λi=>(i,Xx g o.key i))=id:=rfl;rw[this,ia];congr 1;funext i;simp only[Function.comp,gx]
 rw[e]
def j5o {m:List (Int×Val')}{A B:List (V×V)}{k v:V}(h:MP valV m=A++(k,v)::B):∃b p a,m=b++p::a/\A=MP valV b/\B=MP valV a/\k=.int .i64 p.1/\v=valV p.2:=by unfold MP at h;obtain⟨b,C,d,i,e⟩:=List.map_eq_append_iff.1 h;obtain⟨p,a,g,c,f⟩:=List.map_eq_cons_iff.1 e;subst g;have:=Prod.mk.inj c;exact⟨b,p,a,d,i.symm,f.symm,this.1.symm,this.2.symm⟩
def j6x (a b:List (Int×Val')):MP valV a++MP valV b=MP valV (a++b):=by simp[MP]
def j56 {x:Nat}(h:640<=x):¬2*x=1152:=zO
def ev113 {g:Hist'}(hs:Small g) (a b:Int):Ev E 113 [.agg (yb g),.agg (jC (a,b))] (jkt (ofH g a b)):=by
 have T:=ev165 hs a b;refine jS rfl ?_;unfold ofH;cases S:opAt g a b with
 |none=>
  rw[S]at T;conv in(occs:=*)F113=>all_goals cbv
  simp[yb,ya,jC];refine jH T (by simp[yb,jC]) rfl (by simp[yb,jC]) ?_;rw[Jb (by simp[V.plain,yS])];simp[j2,yS,op0,ya];exact Ww (p:=λ_=>True) zS rfl (Or.inl ⟨rfl,zS⟩) zS
 |some o=>
  rw[S]at T;simp only[cz,Option.any_some]at T;have c0:Yr g=true:=by unfold opAt at S;cases hm:Yr g;rw[hm]at S;cases S;rfl
  have g8:=jyt c0;conv in(occs:=*)F113=>all_goals cbv
  simp[yb,ya,jC];refine jH T (by simp[yb,jC]) rfl (by simp[yb,jC]) ?_;rw[Jb (by simp[V.plain,yS])];cases hw:o.w
  ·simp[j2,yS,ya];generalize hK:jv1 E YS _ (j57 _ _)=K;have b8:∀(s:St) (v:V),s.tm 2=.ptr 1 0 0->s.tm 3=.ptr 129 64 0->s.tm 5=.ptr 1153 576 0->s.ob 1=some ⟨0,.cells (yb g)⟩->s.ob 129=some ⟨64,.cells [.int .i64 a,.int .i64 b]⟩->s.ob 1153=some ⟨576,.cells (yS o)⟩ ->
    s.tm 7=v->IntsO s.ob (λu=>640<=u/\u<s.nx) (JO o) v->s.df=[]->s.ro=0->640<=s.nx->K .nrm s:=by
    intro s v h2 h3 h5 o1 o3 o5 h7 hv hd hr hn
    rw[<- hK]
    clear hK
    simp[h2,h3,h5,o1,o3,o5,ya,yS,yb]
    refine jJ (vs:=[.agg (yb g),.int .i64 a,.int .i64 o.key]) zI rfl (sv166 hs c0 a o.key (by simp[hr])) ?_
    rintro w d8 g1 c ⟨M,U,ver,e1,e2,e3,e4,e5,e6,e7⟩
    simp only at e1 e3 e5 e6 e7
    subst e1
    simp
    refine jpo (l:=2*M+1) (u:=U) (ver:=ver) zS (by simpa using e5) ?_
    simp
    refine jQ λx j=>?_
    have b9:640<=c:=by first|omega|(simp at e7;omega)
    have h1:640<=M:=by first|omega|(simp at e2;omega)
    obtain⟨D,Q⟩:∃l,X3 g a o.key (yP g o.key)=l:=⟨_,rfl⟩
    rw[Q]at e5 j
    have c4:∀k,(∀m,s.nx<=m->k≠2*m+1)->d8 k=s.ob k:=λk hk=>(e6 k (λm hm=>hk m (by first|omega|(simp at hm;omega)))).trans zS
    have g9:s.nx<=M:=by first|omega|(simp at e2;omega)
    have g5:x.tm 5=.ptr 1153 576 0:=by rw[j];simp[h5]
    have g7:x.tm 7=v:=by rw[j];simp[h7]
    have g0:x.tm 31=.iter (2*c+1) c:=by rw[j];simp
    have gd:x.df=[]:=by rw[j];simp[hd]
    have gr:x.ro=0:=by rw[j];simp[hr]
    have gn:c<x.nx:=by rw[j];simp
    have gf:∀k,k≠2*c+1->x.ob k=d8 k:=by intro k hk;rw[j];simp[hk]
    have pi:x.ob (2*c+1)=some ⟨c,.miter (2*M+1) U ver (MP valV D) none⟩:=by rw[j];simp
    have pm:x.ob (2*M+1)=some ⟨U,.mp ver (MP valV D)⟩:=(gf _ zO).trans e5
    have p5:x.ob 1153=some ⟨576,.cells (yS o)⟩:=(gf _ zO).trans ((c4 _ (λm hm=>by omega)).trans o5)
    have pv:IntsO x.ob (λu=>640<=u/\u≠M/\u≠c/\u<x.nx) (JO o++YP o []) v:=by rw[show YP o []=[] from rfl,aL];refine hv.frame (λu y=>?_) (λu y=>⟨y.1,zO,by first|omega|(simp at e7;omega),by first|omega|(simp at e7;omega)⟩);exact(gf _ (by first|omega|(simp at e7;omega))).trans (c4 _ (λm hm=>by omega))
    clear j e6 e5 c4
    obtain⟨J,hJ⟩:∃J:Nat->St->Prop,J=λn s=>∃(P m':List (Int×Val')) (v:V) (b6:Option (V×V)),n=m'.length/\(P++m').Perm D/\s.tm 7=v/\IntsO s.ob (λu=>640<=u/\u≠M/\u≠c/\u<s.nx) (JO o++YP o P) v /\
     s.ob (2*c+1)=some ⟨c,.miter (2*M+1) U ver (MP valV m') b6⟩/\s.ob (2*M+1)=some ⟨U,.mp ver (MP valV D)⟩/\s.ob 1153=some ⟨576,.cells (yS o)⟩/\c<s.nx:=⟨_,rfl⟩
    refine YH (n:=D.length) [(7,9),(32,50)] J rfl rfl (by rw[hJ];exact⟨[],D,v,none,rfl,zS,g7,pv,pi,pm,p5,gn⟩) ?_
    clear h7 hv g7 pv pi pm p5 gn v
    intro n s d7 f
    rw[hJ]at d7
    obtain⟨P,m',v,b6,rfl,G,h7,hv,oi,om,a0,f4⟩:=d7
    have f5:s.tm 5=.ptr 1153 576 0:=by rw[f.t 5 zS];exact g5
    have d9:s.tm 31=.iter (2*c+1) c:=by rw[f.t 31 zS];exact g0
    have fd:s.df=[]:=by rw[f.d];exact gd
    have fr:s.ro=0:=by rw[f.r];exact gr
    clear f
    have d0:(P++m').length<=40:=by rw[G.length_eq,<- Q];unfold X3;rw[bu];have:=bO (λi=>!(i==a)) (yP g o.key);have:=jfl g o.key;omega
    rw[ap]at d0
    have g6:(YP o P).length<=P.length:=by unfold YP;rw[bu];exact bO _ _
    have h0:(JO o).length<=1:=by unfold JO;split<;>simp
    simp
    refine juz (l:=2*c+1) (u:=c) (l':=2*M+1) (u':=U) (ver:=ver) (es:=MP valV D) (left:=MP valV m') (by simp[d9]) oi om (by simp[fr]) ?_ ?_
    ·intro b7;have f1:m'=[]:=by unfold MP at b7;exact gp.1 b7
     subst f1;rw[aL]at G;have I:=jo1 (g:=g) (a:=a) (o:=o) (P:=P) (by rw[Q];exact G);have d4:=I.length_eq;simp[h7];rcases hv with⟨d5,rfl⟩|⟨e8,u,rfl,f7,y⟩;rw[d5]at I;have hT:ofL g a o=[]:=List.perm_nil.1 I.symm;refine jJ (vs:=[.sl none true 0 []]) zS rfl sv167n ?_;rintro w e9 f3 f8 ⟨q1,q2,q3⟩;simp[h7];exact Ww (p:=λ_=>True) (by simp[fd]) rfl (Or.inl ⟨hT,zS⟩) (by simp[fr]);refine jJ (vs:=[.osl (2*u+1) u 0 (JO o++YP o P).length 1]) zS rfl (sv167 I (jun g a o) (by rw[ap];omega) (by simpa using f7) (by simp[fr]) (λm hm=>by have:=y.2.2.2;first|omega|(simp at hm;omega)) (by simp[fr])) ?_;rintro w e9 f3 f8 e0;simp only at e0;simp[h7];refine Ww (p:=λ_=>True) (by simp[fd]) rfl (Or.inr ⟨?_,u,?_,by simpa using e0.1,trivial⟩) (by simp[fr]);intro hT;rw[hT]at I;exact e8 (List.perm_nil.1 I);rw[<- d4];simp
    ·intro A k w B f9;obtain⟨A',q,B',rfl,rfl,rfl,rfl,rfl⟩:=j5o f9;have H:((P++[q])++(A'++B')).Perm D:=by refine List.Perm.trans ?_ G;rw[aY];exact List.Perm.append_left _ (by simpa using List.perm_middle.symm)
     have nM:¬2*M+1=2*c+1:=zO;simp;refine j3y (l:=2*c+1) (u:=c) (l':=2*M+1) (u':=U) (ver:=ver) (es:=MP valV D) (left:=MP valV A'++MP valV B') (k:=.int .i64 q.1) (v:=valV q.2) (by simp[d9]) zS (by simp[show ¬2*M=2*c by omega,om]) ?_;have n5:¬1153=2*c+1:=zO;simp[valV,J7,j2,fr,ya];generalize c9:jv1 E YS (C.cond _ _ _) _=K2;have O:∀(F:St) (N:Bool),N=Qa o q.2->F.tm 46=.bool N->F.tm 7=v->F.tm 8=.int .i64 q.1->IntsO F.ob (λu=>640<=u/\u≠M/\u≠c/\u<F.nx) (JO o++YP o P) v ->
      F.ob (2*c+1)=some ⟨c,.miter (2*M+1) U ver (MP valV (A'++B')) (some (.int .i64 q.1,valV q.2))⟩->F.ob (2*M+1)=some ⟨U,.mp ver (MP valV D)⟩->F.ob 1153=some ⟨576,.cells (yS o)⟩->c<F.nx->F.df=[]->F.ro=0->K2 .nrm F:=by
      intro F N c7 c6 h7 h8 hv oi om o5 hn hd hr
      rw[<- c9]
      have L:YP o (P++[q])=YP o P++(if N then [q.1] else []):=by unfold YP;rw[bN,bE,c7];cases hf:Qa o q.2<;>simp[hf]
      have h4:(A'++B').length<(A'++q::B').length:=zS
      cases N
      ·simp only[ag,zc,aL]at L;simp[c6];exact⟨(A'++B').length,zL,by rw[hJ];exact⟨P++[q],A'++B',v,some (.int .i64 q.1,valV q.2),rfl,H,by simp[h7],by rw[L];exact hv.frame (λu _=>by simp) (λu y=>⟨y.1,y.2.1,y.2.2.1,by have:=y.2.2.2;first|omega|(simp;omega)⟩),by simp[oi],by simp[om],by simp[o5],by first|omega|(simp;omega)⟩⟩
      ·simp only[zd]at L;simp[c6,h7,h8];refine jZ (cs:=[.int .i64 q.1]) (by simp[j2]) rfl rfl ?_;simp;refine jap (p:=λu=>640<=u/\u≠M/\u≠c/\u<F.nx) (l:=JO o++YP o P) (z:=q.1) (v:=v) (X:=2*(F.nx+64+64)+1) (uX:=F.nx+64+64) zS (hv.frame (λu y=>?_) (λ_ h=>h)) zS zS (by simp[hr]) (by rw[ap];simp at d0;omega) (λkl c5=>?_);have:¬2*u=2*(F.nx+64+64):=by have:=y.2.2.2;omega
       simp[this];have nk:∀z:Nat,(∀u,640<=u->u≠M->u≠c->z≠2*u+1)->z ∉ kl:=λz hz hm=>by obtain⟨u,y,e⟩:=c5 z hm;exact hz u y.1 y.2.1 y.2.2.1 e
       have k1:=nk (2*c+1) (λu _ _ h e=>h zO);have k2:=nk (2*M+1) (λu _ h _ e=>h zO);have k3:=nk 1153 (λu h _ _ e=>by omega);obtain⟨Z,hZ⟩:∃Z,F.nx+64+64+64=Z:=⟨_,rfl⟩;have d1:¬2*c+1=2*Z+1:=zO;have d2:¬2*M+1=2*Z+1:=zO;have d3:¬1153=2*Z+1:=zO;have b1:¬2*c+1=2*(F.nx+64+64)+1:=zO;have b2:¬2*M+1=2*(F.nx+64+64)+1:=zO;have b3:¬1153=2*(F.nx+64+64)+1:=zO;have g4:∀X:Prop,X->X:=λ_ h=>h;simp only[hZ];simp;refine⟨(A'++B').length,zL,?_⟩;rw[hJ];refine⟨P++[q],A'++B',.osl (2*Z+1) Z 0 (JO o++YP o (P++[q])).length 1,some (.int .i64 q.1,valV q.2),rfl,H,by simp[L],Or.inr ⟨by rw[L];simp,Z,rfl,?_,zO,zO,zO,?_⟩,?_,?_,?_,?_⟩;simp only[JZ,W0];rw[jhj,zb rfl,L];simp
       ·first|omega|(simp;done)|(simp;omega)
       simp only[JZ,W0];rw[jk7 _ _ _ _ _ _ _ k1,za d1];simp only[XM,W0,za b1];exact oi;simp only[JZ,W0];rw[jk7 _ _ _ _ _ _ _ k2,za d2];simp only[XM,W0,za b2];exact om;simp only[JZ,W0];rw[jk7 _ _ _ _ _ _ _ k3,za d3];simp only[XM,W0,za b3];exact o5
       ·first|omega|(simp;done)|(simp;omega)
     clear c9;have c1:¬2*c=2*(s.nx+64+64+64+64+64):=zO;have c2:¬2*M=2*(s.nx+64+64+64+64+64):=zO;have c3:¬2*M=2*c:=zO;have f6:640<=s.nx+64+64+64+64+64:=bI (bI b9 (gD f4)) (by simp[aA]);have nq:=j56 f6;have b5:=j56 b9;cases b0:(o.v.kind==2);simp[f5,a0,ya,yS,n5,nq,b0];refine O _ (q.2.kind==o.v.kind&&q.2.n==o.v.n) (by unfold Qa;rw[b0];rfl) zS (by simp[h7]) zS (hv.frame (λu y=>?_) (λu y=>⟨y.1,y.2.1,y.2.2.1,by have:=y.2.2.2;first|omega|(simp;omega)⟩)) (by simp[c1,j6x,valV,J7]) (by simp[c2,c3,om]) (by simp[nq,b5,a0,yS]) (by first|omega|(simp;omega)) (by simp[fd]) (by simp[fr]);have a1:¬2*u=2*(s.nx+64+64+64+64+64):=by have:=y.2.2.2;omega
     have a2:¬2*u=2*c:=by have:=y.2.2.1;omega
     simp[a1,a2];simp[f5,a0,ya,yS,n5,nq,b0];refine O _ true (by unfold Qa;rw[b0];rfl) zS (by simp[h7]) zS (hv.frame (λu y=>?_) (λu y=>⟨y.1,y.2.1,y.2.2.1,by have:=y.2.2.2;first|omega|(simp;omega)⟩)) (by simp[c1,j6x,valV,J7]) (by simp[c2,c3,om]) (by simp[nq,b5,a0,yS]) (by first|omega|(simp;omega)) (by simp[fd]) (by simp[fr]);have a1:¬2*u=2*(s.nx+64+64+64+64+64):=by have:=y.2.2.2;omega
     have a2:¬2*u=2*c:=by have:=y.2.2.1;omega
     simp[a1,a2]
   clear hK;refine j9f λx j=>?_;have g2:x.tm 2=.ptr 1 0 0:=by rw[j];simp
   have g3:x.tm 3=.ptr 129 64 0:=by rw[j];simp
   have g5:x.tm 5=.ptr 1153 576 0:=by rw[j];simp
   have g7:x.tm 7=.sl none true 0 []:=by rw[j];simp
   have p1:x.ob 1=some ⟨0,.cells (yb g)⟩:=by rw[j];simp[yb]
   have p3:x.ob 129=some ⟨64,.cells [.int .i64 a,.int .i64 b]⟩:=by rw[j];simp
   have p5:x.ob 1153=some ⟨576,.cells (yS o)⟩:=by rw[j];simp[yS,hw]
   have gd:x.df=[]:=by rw[j];simp
   have gr:x.ro=0:=by rw[j];simp
   have gn:640<=x.nx:=by rw[j];simp
   clear j;cases c8:(o.v.kind != 1);have hk:o.v.kind=1:=by simpa using c8
   simp;exact b8 _ _ g2 g3 g5 p1 p3 p5 g7 (Or.inl ⟨by simp[JO,hk],rfl⟩) gd gr gn;have hk:¬o.v.kind=1:=by simpa using c8
   simp[g7];refine jZ (cs:=[.int .i64 (-1)]) (by simp[j2]) rfl rfl ?_;simp;refine jap (p:=λ_=>False) (l:=[]) (z:=-1) (v:=.sl none true 0 []) (X:=2*(x.nx+64)+1) (uX:=x.nx+64) zS (Or.inl ⟨rfl,rfl⟩) zS zS (λ_ h=>h.elim) zS (λkl c5=>?_);have d6:kl=[]:=by
    cases kl with
    |nil=>rfl
    |cons k _=>obtain⟨_,h,_⟩:=c5 k zS;exact h.elim
   subst d6;have n1:¬1=2*(x.nx+64+64)+1:=zO;have f0:¬1=2*(x.nx+64)+1:=zO;have n3:¬129=2*(x.nx+64+64)+1:=zO;have f2:¬129=2*(x.nx+64)+1:=zO;have n5:¬1153=2*(x.nx+64+64)+1:=zO;have b5:¬1153=2*(x.nx+64)+1:=zO;simp;refine b8 _ (.osl (2*(x.nx+64+64)+1) (x.nx+64+64) 0 1 1) (by simp[g2]) (by simp[g3]) (by simp[g5]) ?_ ?_ ?_ zS (Or.inr ⟨by simp[JO,hk],x.nx+64+64,by simp[JO,hk],by simp[JO,hk,yf],zO,zS⟩) (by simp[gd]) (by simp[gr]) zP;simp only[JZ,W0,XM,za n1,za f0];exact p1;simp only[JZ,W0,XM,za n3,za f2];exact p3;simp only[JZ,W0,XM,za n5,za b5];exact p5
  simp[j2,yS,ya];exact Ww (p:=λ_=>True) zS rfl (Or.inl ⟨rfl,zS⟩) zS
def ev109 {h:Hist'}(s:Small h) (a b:Int):Ev E 109 [.agg (yb h),.agg (jC (a,b))] (.bool ((opAt h a b).any λo=>!o.w)):=by
 have m:=ev48 s;have x:=s.ts;refine jS rfl ?_;obtain⟨R,c⟩:∃R,opAt h a b=R:=⟨_,rfl⟩;rw[c];unfold opAt at c;conv in(occs:=*)F109=>all_goals cbv
 simp[yb,ya,jC];refine X4 m zI rfl zI ?_;cases k:Yr h;rw[Qr k];rw[k]at c;subst c;simp;exact j3 zS zS rfl;rw[k]at c;rw[W6 k];by_cases v:a<0;have d:¬0<=a:=zO;rw[za zP]at c;subst c;simp[d,ya];exact j3 zS zS rfl;have d:0<=a:=zO;by_cases B:(h.ts.length:Int)<=a;have f:¬(a<(h.ts.length:Int)):=zO;rw[za zP]at c;subst c;simp[d,f,ya];exact j3 zS zS rfl;have f:a<(h.ts.length:Int):=zO;by_cases z:b<0;have l:¬0<=b:=zO;rw[za zP]at c;subst c;simp[d,f,l,ya];exact j3 zS zS rfl;have l:0<=b:=zO;obtain⟨i,rfl⟩:∃i:Nat,a=i:=⟨a.toNat,zO⟩;have g:i<h.ts.length:=zO;rw[ba,XB g]at c;obtain⟨t,r⟩:∃t,h.ts[i]=t:=⟨_,rfl⟩;rw[r]at c;have e:(h.ts.flatMap jf)[i*3+2]? = some (yl t.nl yS t.ops):=by rw[jO j7 h.ts g (by decide:2<3),r];rfl
 by_cases u:(t.ops.length:Int)<=b;have p:¬(b<(t.ops.length:Int)):=zO;rw[za zP]at c;subst c;simp[d,f,l,p,ya,g,j4 j7,e];exact j3 zS zS rfl;have p:b<(t.ops.length:Int):=zO;obtain⟨j,rfl⟩:∃j:Nat,b=j:=⟨b.toNat,zO⟩;have n:j<t.ops.length:=zO;rw[zb zP,ba,aa n]at c;obtain⟨o,q⟩:∃o,t.ops[j]=o:=⟨_,rfl⟩;rw[q]at c;subst c;have y:(t.ops.flatMap yS)[j*4]? = some (.bool o.w):=by have:=jO jD t.ops n (by decide:0<4);rw[bl,q]at this;rw[this];rfl
 simp[d,f,l,p,ya,g,j4 j7,e];simp[n,j4 jD,y];exact j3 zS zS rfl
end Go.Pv.T
