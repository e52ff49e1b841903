/- Part. -/
import Derived.Test.YtmanndcfeicokaaGreatDoorTAH
set_option maxRecDepth 100000
set_option maxHeartbeats 8000000
set_option linter.all false
namespace Go.Pv.T
open Go Go.Pv
section
variable {E:Env}{Yf:YF}{st:St}{ub:Nat}{K:St->Nat->Prop}{d:Option Nat}{nm:Bool}
def jpu {x:A}{l u ver:Nat}{es:List (V×V)}(e:ye E st.tm x=.map l u) (a:st.ob l=some ⟨u,.mp ver es⟩)
 (h:QW K st d ub { v:=.iter (jI d nm st.fb ub) ub,obs:=[(jI d nm st.fb ub,⟨ub,.miter l u ver es none⟩)] }):jB E Yf ⟨d,.range false x,none,nm⟩ st ub K:=by
 rw[jR _ rfl rfl];have c:jY st.ob l u=some es:=by simp[jY,a]
 have b:jn st.ob l=ver:=by simp[jn,a]
 simp only[yS,e,c,b,ap,Jo,jJ,Jm];exact h
def jml {l u l' u' ver:Nat}{δ:Delta}:∀{es c:List (V×V)},δ∈jmm l u l' u' ver c es->∃a k v b,es=a++(k,v)::b/\δ={ v:=.tup [.bool true,k,v],obs:=[(l,⟨u,.miter l' u' ver (c++a++b) (some (k,v))⟩)] }
 |[],_,h=>by simp[jmm]at h
 |(k,v)::r,c,h=>by rw[jmm,bt]at h;rcases h with h|h;exact⟨[],k,v,r,rfl,by rw[h];simp⟩;obtain⟨a,i,g,b,e,f⟩:=jml h;exact⟨(k,v)::a,i,g,b,by rw[e];rfl,by rw[f];simp⟩
def ju1 {x:A}{l u l' u' ver:Nat}{left es:List (V×V)}{f:Option (V×V)}(i:ye E st.tm x=.iter l u) (h:st.ob l=some ⟨u,.miter l' u' ver left f⟩) (j:st.ob l'=some ⟨u',.mp ver es⟩) (g:st.ro<=u)
 (q:left=[]->jbh K st d ub (.tup [.bool false]))
 (t:∀a k v b,left=a++(k,v)::b->QW K st d ub { v:=.tup [.bool true,k,v],obs:=[(l,⟨u,.miter l' u' ver (a++b) (some (k,v))⟩)] }):jB E Yf ⟨d,.nextMap x,none,nm⟩ st ub K:=by
 have m:(jY st.ob l' u').isSome=true:=by simp[jY,j]
 have n:jn st.ob l'=ver:=by simp[jn,j]
 simp only[jB,yJ,jj,jC];cases left with
 |nil=>refine⟨[{ v:=.tup [.bool false] }],?_,?_⟩;simp only[Xf,i,h];rw[zb ⟨bY▸g,trivial,m,n⟩];intro s c;rw[ag]at c;subst c;have:=q rfl;rw[jbb];exact this
 |cons p r=>refine⟨jmm l u l' u' ver [] (p::r),?_,?_⟩;simp only[Xf,i,h];rw[zb ⟨bY▸g,trivial,m,n⟩];intro s c;obtain⟨a,k,v,b,e,o⟩:=jml c;subst o;exact t a k v b e
def j33 {x:A}{l u l' u' ver:Nat}{left es:List (V×V)}{k v:V}(f:ye E st.tm x=.iter l u) (b:st.ob l=some ⟨u,.miter l' u' ver left (some (k,v))⟩) (a:st.ob l'=some ⟨u',.mp ver es⟩)
 (h:jbh K st d ub (.tup [k,v])):jB E Yf ⟨d,.entry x,none,nm⟩ st ub K:=by
 have c:(jY st.ob l' u').isSome=true:=by simp[jY,a]
 have e:jn st.ob l'=ver:=by simp[jn,a]
 rw[jR _ rfl rfl];simp only[yS,f,b];rw[zb ⟨trivial,c,e⟩,WV,jbb];exact h
end
def IntsO (ob:ZO) (p:Nat->Prop) (l:List Int) (v:V):Prop :=
 (l=[]/\v=.sl none true 0 [])\/(l≠[]/\∃u,v=.osl (2*u+1) u 0 l.length 1/\ob (2*u+1)=some ⟨u,.cells (l.flatMap yf)⟩/\p u)
def IntsO.frame {ob ob':ZO}{p b:Nat->Prop}{l:List Int}{v:V}(h:IntsO ob p l v) (c:∀u,p u->ob' (2*u+1)=ob (2*u+1)) (f:∀u,p u->b u):IntsO ob' b l v:=by rcases h with h|⟨g,u,e,i,a⟩;exact Or.inl h;exact Or.inr ⟨g,u,e,(c u a).trans i,f u a⟩
def jhq (st:St) (d:Option Nat) (v:V) (l:Nat) (o:Obj') (kl:List Nat) (k:Nat):(st.app d { v:=v,obs:=[(l,o)],kill:=kl }).ob k=if k=l then some o else if kl.any (Nat.beq k) then none else st.ob k:=by simp[St.app,Ji,yg]
def jli (st:St) (d:Option Nat) (v:V) (l:Nat) (o:Obj') (kl:List Nat) (k:Nat) (h:k ∉ kl):(st.app d { v:=v,obs:=[(l,o)],kill:=kl }).ob k=if k=l then some o else st.ob k:=by
 rw[jhq];have:(kl.any (Nat.beq k))=false:=by rw[gU];intro x b a;exact h (bo a▸b)
 rw[this];rfl
def jdm (st:St) (k:Nat):∀l:List Int,(l.flatMap yf).mapM (Ja st (k+1))=some (l.flatMap yf)
 |[]=>rfl
 |a::l=>by show((V.int .i64 a)::l.flatMap yf).mapM _=_;rw[bP,jdm st k l];rfl
def jk7 (T:List Int):V:=if T.isEmpty then .sl none true 0 [] else .sl (some (0,1)) false T.length (T.flatMap yf)
def numR_intsV (T:List Int):j1l T (jk7 T):=by
 cases T with
 |nil=>exact⟨true,none,rfl,zS⟩
 |cons a T=>exact⟨false,some (0,1),rfl,zS⟩
def Wr {st:St}{p:Nat->Prop}{n:Nat}{T:List Int}{v:V}(g:st.df=[]) (m:st.tm n=v) (h:IntsO st.ob p T v) (j:∀u,p u->st.ro<=u):j6e [.t n] (jk7 T) .ret st:=by
 show jc2 [.t n] (.ret,st)=some (jk7 T);rcases h with⟨rfl,rfl⟩|⟨b,u,rfl,l,o⟩;exact j5 g (by rw[m];rfl) rfl;have a:j0 st.ob (2*u+1) u=some (T.flatMap yf):=by simp[j0,l]
 have f:(T.flatMap yf).length=T.length:=by rw[j4 j8];omega
 have c:T.isEmpty=false:=by cases T with|nil=>exact zf rfl b|cons=>rfl
 have e:0<T.length:=dT.2 b;have w:Ja st 6 (.osl (2*u+1) u 0 T.length 1)=some (.sl none false T.length (T.flatMap yf)):=by show((j0 st.ob (2*u+1) u).bind λcs=>if Nat.ble st.ro u=true/\0+T.length*1<=cs.length then (((cs.drop 0).take (T.length*1)).mapM (Ja st 5)).map λi=>V.sl none false T.length i else none)=_;rw[a,ap];rw[zb ⟨bY▸j u o,zO⟩];rw[dy,bB,aJ zO,jdm];rfl
 have q:jw st true 0 (.osl (2*u+1) u 0 T.length 1)=some (.sl (some (0,1)) false T.length (T.flatMap yf)):=by
  simp only[jw,w,ap,a,aU];have s:(true&&Nat.beq 0 0&&Nat.blt 0 T.length&&Nat.beq (T.length*1) (T.flatMap yf).length)=true:=by rw[f,bB,cL,cL];simp;exact e
  rw[s];rfl
 have k:XD st true 0 (.osl (2*u+1) u 0 T.length 1)=some (.sl (some (0,1)) false T.length (T.flatMap yf)):=q;have r:[ARes.t n].mapM (jv st)=some [.osl (2*u+1) u 0 T.length 1]:=by simp[jv,m]
 simp only[jc2,WB g,W0 g,zd,r,ap,WQ];have x:yH ([V.osl (2*u+1) u 0 T.length 1].flatMap V.toks)=true:=rfl;rw[x];simp only[Je,k,ap,aU];rw[jk7,c];rfl
def jat {E:Env}{Yf:YF}{st:St}{ub:Nat}{K:St->Nat->Prop}{d:Option Nat}{p:Nat->Prop}{l:List Int}{z:Int}{v:V}{s x:A}{X uX:Nat}(f:ye E st.tm s=v) (o:IntsO st.ob p l v) (n:ye E st.tm x=.osl X uX 0 1 1) (m:st.ob X=some ⟨uX,.cells [.int .i64 z]⟩) (b:∀u,p u->st.ro<=u) (q:l.length<=1000)
 (h:∀g:List Nat,(∀k∈g,∃u,p u/\k=2*u+1)->QW K st d ub { v:=.osl (2*ub+1) ub 0 (l++[z]).length 1,obs:=[(2*ub+1,⟨ub,.cells ((l++[z]).flatMap yf)⟩)],kill:=g }) :
 jB E Yf ⟨d,.append true 1 8 s x,none,true⟩ st ub K:=by
 have a:jF st.ob 1 (ye E st.tm x)=some [.int .i64 z]:=by rw[n];simp[jF,j0,m]
 rcases o with⟨rfl,rfl⟩|⟨j,u,rfl,c,e⟩;refine X8 f a zS zQ rfl zS zS ?_;simpa[yf,jI] using h [] zS;have i:(l.flatMap yf).length=l.length:=by rw[j4 j8];omega
 refine Xm (cs:=l.flatMap yf) f a c zS (b u e) zO zQ rfl zP zP ?_;have:=h [2*u+1] (by simp;exact⟨u,e,rfl⟩);rw[bB,aJ zO];simpa[yf,jI] using this
def Qb (o:Op') (v:Val'):Bool:=o.v.kind==2||(v.kind==o.v.kind&&v.n==o.v.n)
def JK (o:Op'):List Int:=if o.v.kind=1 then [] else [-1]
def ofL (g:Hist') (a:Int) (o:Op'):List Int:=JK o++(yN g o.key).filter λi=>!(i==a)&&Qb o (Xw g o.key i)
def ofH (g:Hist') (a b:Int):List Int:=match opAt g a b with
 |some o=>if o.w then [] else ofL g a o
 |none=>[]
def jh6 (g:Hist') (k:Int):(yN g k).Pairwise (· < ·)/\∀x∈yN g k,0<=x:=by have:=Qv (p:=wrB k) (ts:=g.ts) g.ts.length zK;exact⟨this.2,λx a=>(this.1 x a).1⟩
def jup (g:Hist') (a:Int) (o:Op'):(ofL g a o).Pairwise (·<=·):=by have h:=jh6 g o.key;unfold ofL JK;rw[List.pairwise_append];refine⟨?_,?_,?_⟩;split<;>simp;exact((h.1.imp (λh=>Int.le_of_lt h)).filter _);intro x b y c;have d:=h.2 y (bu.1 c).1;split at b;cases b;rw[ag]at b;omega
def jfi (g:Hist') (k:Int):(yN g k).length<=g.ts.length:=by unfold yN;exact Jh (wrB k) g.ts g.ts.length
def j8w {g:Hist'}(c:g.ts.length<=40) (a:Int) (o:Op'):(ofL g a o).length<=41:=by unfold ofL JK;rw[aw];have b:=cg (λi=>!(i==a)&&Qb o (Xw g o.key i)) (yN g o.key);have d:=jfi g o.key;split<;>simp<;>omega
def jyy {g:Hist'}(a:Yr g=true):g.ts.length<=40:=by unfold Yr Xx at a;simp only[ab,ze]at a;exact a.1.2.2.2.2
def YR (o:Op') (P:List (Int×Val')):List Int:=(P.filter λp=>Qb o p.2).map (·.1)
def jo9 {g:Hist'}{a:Int}{o:Op'}{P:List (Int×Val')}(h:P.Perm (X3 g a o.key (yN g o.key))):(JK o++YR o P).Perm (ofL g a o):=by
 unfold ofL;refine eP _ ?_;have b:(YR o P).Perm (YR o (X3 g a o.key (yN g o.key))):=(h.filter _).map _;refine b.trans ?_;have e:YR o (X3 g a o.key (yN g o.key))=(yN g o.key).filter λi=>!(i==a)&&Qb o (Xw g o.key i):=by unfold YR X3;rw[List.filter_map,dl,List.filter_filter];have:((λx:Int×Val'=>x.1) ∘ λi=>(i,Xw g o.key i))=id:=rfl;rw[this,gh];congr 1;funext i;simp only[Function.comp,gz]
 rw[e]
def j5u {m:List (Int×Val')}{A B:List (V×V)}{k v:V}(h:MP valV m=A++(k,v)::B):∃b p a,m=b++p::a/\A=MP valV b/\B=MP valV a/\k=.int .i64 p.1/\v=valV p.2:=by unfold MP at h;obtain⟨b,C,d,i,e⟩:=List.map_eq_append_iff.1 h;obtain⟨p,a,g,c,f⟩:=List.map_eq_cons_iff.1 e;subst g;have:=Prod.mk.inj c;exact⟨b,p,a,d,i.symm,f.symm,this.1.symm,this.2.symm⟩
def j63 (a b:List (Int×Val')):MP valV a++MP valV b=MP valV (a++b):=by simp[MP]
def j6d {x:Nat}(h:640<=x):¬2*x=1152:=zO
def ev113 {g:Hist'}(hs:Small g) (a b:Int):Ev E 113 [.agg (ya g),.agg (jE (a,b))] (jk7 (ofH g a b)):=by
 have T:=ev165 hs a b;refine jQ rfl ?_;unfold ofH;cases S:opAt g a b with
 |none=>
  rw[S]at T;conv in(occs:=*)F113=>all_goals cbv
  simp[ya,j0,jE];refine jL T (by simp[ya,jE]) rfl (by simp[ya,jE]) ?_;rw[JW (by simp[V.plain,yQ])];simp[j6,yQ,op0,j0];exact Wr (p:=λ_=>True) zS rfl (Or.inl ⟨rfl,zS⟩) zS
 |some o=>
  rw[S]at T;simp only[cy,Option.any_some]at T;have c0:Yr g=true:=by unfold opAt at S;cases hm:Yr g;rw[hm]at S;cases S;rfl
  have g8:=jyy c0;conv in(occs:=*)F113=>all_goals cbv
  simp[ya,j0,jE];refine jL T (by simp[ya,jE]) rfl (by simp[ya,jE]) ?_;rw[JW (by simp[V.plain,yQ])];cases hw:o.w
  ·simp[j6,yQ,j0];generalize hK:juz E YU _ (j6e _ _)=K;have b8:∀(s:St) (v:V),s.tm 2=.ptr 1 0 0->s.tm 3=.ptr 129 64 0->s.tm 5=.ptr 1153 576 0->s.ob 1=some ⟨0,.cells (ya g)⟩->s.ob 129=some ⟨64,.cells [.int .i64 a,.int .i64 b]⟩->s.ob 1153=some ⟨576,.cells (yQ o)⟩ ->
    s.tm 7=v->IntsO s.ob (λu=>640<=u/\u<s.nx) (JK o) v->s.df=[]->s.ro=0->640<=s.nx->K .nrm s:=by
    intro s v h2 h3 h5 o1 o3 o5 h7 hv hd hr hn
    rw[<- hK]
    clear hK
    simp[h2,h3,h5,o1,o3,o5,j0,yQ,ya]
    refine jP (vs:=[.agg (ya g),.int .i64 a,.int .i64 o.key]) zI rfl (sv166 hs c0 a o.key (by simp[hr])) ?_
    rintro w d8 g1 c ⟨M,U,ver,e1,e2,e3,e4,e5,e6,e7⟩
    simp only at e1 e3 e5 e6 e7
    subst e1
    simp
    refine jpu (l:=2*M+1) (u:=U) (ver:=ver) zS (by simpa using e5) ?_
    simp
    refine jg λx j=>?_
    have b9:640<=c:=by first|omega|(simp at e7;omega)
    have h1:640<=M:=by first|omega|(simp at e2;omega)
    obtain⟨D,Q⟩:∃l,X3 g a o.key (yN g o.key)=l:=⟨_,rfl⟩
    rw[Q]at e5 j
    have c4:∀k,(∀m,s.nx<=m->k≠2*m+1)->d8 k=s.ob k:=λk hk=>(e6 k (λm hm=>hk m (by first|omega|(simp at hm;omega)))).trans zS
    have g9:s.nx<=M:=by first|omega|(simp at e2;omega)
    have g5:x.tm 5=.ptr 1153 576 0:=by rw[j];simp[h5]
    have g7:x.tm 7=v:=by rw[j];simp[h7]
    have g0:x.tm 31=.iter (2*c+1) c:=by rw[j];simp
    have gd:x.df=[]:=by rw[j];simp[hd]
    have gr:x.ro=0:=by rw[j];simp[hr]
    have gn:c<x.nx:=by rw[j];simp
    have gf:∀k,k≠2*c+1->x.ob k=d8 k:=by intro k hk;rw[j];simp[hk]
    have pi:x.ob (2*c+1)=some ⟨c,.miter (2*M+1) U ver (MP valV D) none⟩:=by rw[j];simp
    have pm:x.ob (2*M+1)=some ⟨U,.mp ver (MP valV D)⟩:=(gf _ zO).trans e5
    have p5:x.ob 1153=some ⟨576,.cells (yQ o)⟩:=(gf _ zO).trans ((c4 _ (λm hm=>by omega)).trans o5)
    have pv:IntsO x.ob (λu=>640<=u/\u≠M/\u≠c/\u<x.nx) (JK o++YR o []) v:=by rw[show YR o []=[] from rfl,aP];refine hv.frame (λu y=>?_) (λu y=>⟨y.1,zO,by first|omega|(simp at e7;omega),by first|omega|(simp at e7;omega)⟩);exact(gf _ (by first|omega|(simp at e7;omega))).trans (c4 _ (λm hm=>by omega))
    clear j e6 e5 c4
    obtain⟨J,hJ⟩:∃J:Nat->St->Prop,J=λn s=>∃(P m':List (Int×Val')) (v:V) (b6:Option (V×V)),n=m'.length/\(P++m').Perm D/\s.tm 7=v/\IntsO s.ob (λu=>640<=u/\u≠M/\u≠c/\u<s.nx) (JK o++YR o P) v /\
     s.ob (2*c+1)=some ⟨c,.miter (2*M+1) U ver (MP valV m') b6⟩/\s.ob (2*M+1)=some ⟨U,.mp ver (MP valV D)⟩/\s.ob 1153=some ⟨576,.cells (yQ o)⟩/\c<s.nx:=⟨_,rfl⟩
    refine Yl (n:=D.length) [(7,9),(32,50)] J rfl rfl (by rw[hJ];exact⟨[],D,v,none,rfl,zS,g7,pv,pi,pm,p5,gn⟩) ?_
    clear h7 hv g7 pv pi pm p5 gn v
    intro n s d7 f
    rw[hJ]at d7
    obtain⟨P,m',v,b6,rfl,G,h7,hv,oi,om,a0,f4⟩:=d7
    have f5:s.tm 5=.ptr 1153 576 0:=by rw[f.t 5 zS];exact g5
    have d9:s.tm 31=.iter (2*c+1) c:=by rw[f.t 31 zS];exact g0
    have fd:s.df=[]:=by rw[f.d];exact gd
    have fr:s.ro=0:=by rw[f.r];exact gr
    clear f
    have d0:(P++m').length<=40:=by rw[G.length_eq,<- Q];unfold X3;rw[bm];have:=cg (λi=>!(i==a)) (yN g o.key);have:=jfi g o.key;omega
    rw[aw]at d0
    have g6:(YR o P).length<=P.length:=by unfold YR;rw[bm];exact cg _ _
    have h0:(JK o).length<=1:=by unfold JK;split<;>simp
    simp
    refine ju1 (l:=2*c+1) (u:=c) (l':=2*M+1) (u':=U) (ver:=ver) (es:=MP valV D) (left:=MP valV m') (by simp[d9]) oi om (by simp[fr]) ?_ ?_
    ·intro b7;have f1:m'=[]:=by unfold MP at b7;exact gt.1 b7
     subst f1;rw[aP]at G;have I:=jo9 (g:=g) (a:=a) (o:=o) (P:=P) (by rw[Q];exact G);have d4:=I.length_eq;simp[h7];rcases hv with⟨d5,rfl⟩|⟨e8,u,rfl,f7,y⟩;rw[d5]at I;have hT:ofL g a o=[]:=List.perm_nil.1 I.symm;refine jP (vs:=[.sl none true 0 []]) zS rfl sv167n ?_;rintro w e9 f3 f8 ⟨q1,q2,q3⟩;simp[h7];exact Wr (p:=λ_=>True) (by simp[fd]) rfl (Or.inl ⟨hT,zS⟩) (by simp[fr]);refine jP (vs:=[.osl (2*u+1) u 0 (JK o++YR o P).length 1]) zS rfl (sv167 I (jup g a o) (by rw[aw];omega) (by simpa using f7) (by simp[fr]) (λm hm=>by have:=y.2.2.2;first|omega|(simp at hm;omega)) (by simp[fr])) ?_;rintro w e9 f3 f8 e0;simp only at e0;simp[h7];refine Wr (p:=λ_=>True) (by simp[fd]) rfl (Or.inr ⟨?_,u,?_,by simpa using e0.1,trivial⟩) (by simp[fr]);intro hT;rw[hT]at I;exact e8 (List.perm_nil.1 I);rw[<- d4];simp
    ·intro A k w B f9;obtain⟨A',q,B',rfl,rfl,rfl,rfl,rfl⟩:=j5u f9;have H:((P++[q])++(A'++B')).Perm D:=by refine List.Perm.trans ?_ G;rw[bj];exact eP _ (by simpa using List.perm_middle.symm)
     have nM:¬2*M+1=2*c+1:=zO;simp;refine j33 (l:=2*c+1) (u:=c) (l':=2*M+1) (u':=U) (ver:=ver) (es:=MP valV D) (left:=MP valV A'++MP valV B') (k:=.int .i64 q.1) (v:=valV q.2) (by simp[d9]) zS (by simp[show ¬2*M=2*c by omega,om]) ?_;have n5:¬1153=2*c+1:=zO;simp[valV,J4,j6,fr,j0];generalize c9:juz E YU (C.cond _ _ _) _=K2;have O:∀(F:St) (N:Bool),N=Qb o q.2->F.tm 46=.bool N->F.tm 7=v->F.tm 8=.int .i64 q.1->IntsO F.ob (λu=>640<=u/\u≠M/\u≠c/\u<F.nx) (JK o++YR o P) v ->
      F.ob (2*c+1)=some ⟨c,.miter (2*M+1) U ver (MP valV (A'++B')) (some (.int .i64 q.1,valV q.2))⟩->F.ob (2*M+1)=some ⟨U,.mp ver (MP valV D)⟩->F.ob 1153=some ⟨576,.cells (yQ o)⟩->c<F.nx->F.df=[]->F.ro=0->K2 .nrm F:=by
      intro F N c7 c6 h7 h8 hv oi om o5 hn hd hr
      rw[<- c9]
      have L:YR o (P++[q])=YR o P++(if N then [q.1] else []):=by unfold YR;rw[cl,bA,c7];cases hf:Qb o q.2<;>simp[hf]
      have h4:(A'++B').length<(A'++q::B').length:=zS
      cases N
      ·simp only[ah,zc,aP]at L;simp[c6];exact⟨(A'++B').length,zL,by rw[hJ];exact⟨P++[q],A'++B',v,some (.int .i64 q.1,valV q.2),rfl,H,by simp[h7],by rw[L];exact hv.frame (λu _=>by simp) (λu y=>⟨y.1,y.2.1,y.2.2.1,by have:=y.2.2.2;first|omega|(simp;omega)⟩),by simp[oi],by simp[om],by simp[o5],by first|omega|(simp;omega)⟩⟩
      ·simp only[zd]at L;simp[c6,h7,h8];refine JL (cs:=[.int .i64 q.1]) (by simp[j6]) rfl rfl ?_;simp;refine jat (p:=λu=>640<=u/\u≠M/\u≠c/\u<F.nx) (l:=JK o++YR o P) (z:=q.1) (v:=v) (X:=2*(F.nx+64+64)+1) (uX:=F.nx+64+64) zS (hv.frame (λu y=>?_) (λ_ h=>h)) zS zS (by simp[hr]) (by rw[aw];simp at d0;omega) (λkl c5=>?_);have:¬2*u=2*(F.nx+64+64):=by have:=y.2.2.2;omega
       simp[this];have nk:∀z:Nat,(∀u,640<=u->u≠M->u≠c->z≠2*u+1)->z ∉ kl:=λz hz hm=>by obtain⟨u,y,e⟩:=c5 z hm;exact hz u y.1 y.2.1 y.2.2.1 e
       have k1:=nk (2*c+1) (λu _ _ h e=>h zO);have k2:=nk (2*M+1) (λu _ h _ e=>h zO);have k3:=nk 1153 (λu h _ _ e=>by omega);obtain⟨Z,hZ⟩:∃Z,F.nx+64+64+64=Z:=⟨_,rfl⟩;have d1:¬2*c+1=2*Z+1:=zO;have d2:¬2*M+1=2*Z+1:=zO;have d3:¬1153=2*Z+1:=zO;have b1:¬2*c+1=2*(F.nx+64+64)+1:=zO;have b2:¬2*M+1=2*(F.nx+64+64)+1:=zO;have b3:¬1153=2*(F.nx+64+64)+1:=zO;have g4:∀X:Prop,X->X:=λ_ h=>h;simp only[hZ];simp;refine⟨(A'++B').length,zL,?_⟩;rw[hJ];refine⟨P++[q],A'++B',.osl (2*Z+1) Z 0 (JK o++YR o (P++[q])).length 1,some (.int .i64 q.1,valV q.2),rfl,H,by simp[L],Or.inr ⟨by rw[L];simp,Z,rfl,?_,zO,zO,zO,?_⟩,?_,?_,?_,?_⟩;simp only[JU,Yu];rw[jhq,zb rfl,L];simp
       ·first|omega|(simp;done)|(simp;omega)
       simp only[JU,Yu];rw[jli _ _ _ _ _ _ _ k1,za d1];simp only[XK,Yu,za b1];exact oi;simp only[JU,Yu];rw[jli _ _ _ _ _ _ _ k2,za d2];simp only[XK,Yu,za b2];exact om;simp only[JU,Yu];rw[jli _ _ _ _ _ _ _ k3,za d3];simp only[XK,Yu,za b3];exact o5
       ·first|omega|(simp;done)|(simp;omega)
     clear c9;have c1:¬2*c=2*(s.nx+64+64+64+64+64):=zO;have c2:¬2*M=2*(s.nx+64+64+64+64+64):=zO;have c3:¬2*M=2*c:=zO;have f6:640<=s.nx+64+64+64+64+64:=bL (bL b9 (fV f4)) (by simp[aI]);have nq:=j6d f6;have b5:=j6d b9;cases b0:(o.v.kind==2);simp[f5,a0,j0,yQ,n5,nq,b0];refine O _ (q.2.kind==o.v.kind&&q.2.n==o.v.n) (by unfold Qb;rw[b0];rfl) zS (by simp[h7]) zS (hv.frame (λu y=>?_) (λu y=>⟨y.1,y.2.1,y.2.2.1,by have:=y.2.2.2;first|omega|(simp;omega)⟩)) (by simp[c1,j63,valV,J4]) (by simp[c2,c3,om]) (by simp[nq,b5,a0,yQ]) (by first|omega|(simp;omega)) (by simp[fd]) (by simp[fr]);have a1:¬2*u=2*(s.nx+64+64+64+64+64):=by have:=y.2.2.2;omega
     have a2:¬2*u=2*c:=by have:=y.2.2.1;omega
     simp[a1,a2];simp[f5,a0,j0,yQ,n5,nq,b0];refine O _ true (by unfold Qb;rw[b0];rfl) zS (by simp[h7]) zS (hv.frame (λu y=>?_) (λu y=>⟨y.1,y.2.1,y.2.2.1,by have:=y.2.2.2;first|omega|(simp;omega)⟩)) (by simp[c1,j63,valV,J4]) (by simp[c2,c3,om]) (by simp[nq,b5,a0,yQ]) (by first|omega|(simp;omega)) (by simp[fd]) (by simp[fr]);have a1:¬2*u=2*(s.nx+64+64+64+64+64):=by have:=y.2.2.2;omega
     have a2:¬2*u=2*c:=by have:=y.2.2.1;omega
     simp[a1,a2]
   clear hK;refine j9l λx j=>?_;have g2:x.tm 2=.ptr 1 0 0:=by rw[j];simp
   have g3:x.tm 3=.ptr 129 64 0:=by rw[j];simp
   have g5:x.tm 5=.ptr 1153 576 0:=by rw[j];simp
   have g7:x.tm 7=.sl none true 0 []:=by rw[j];simp
   have p1:x.ob 1=some ⟨0,.cells (ya g)⟩:=by rw[j];simp[ya]
   have p3:x.ob 129=some ⟨64,.cells [.int .i64 a,.int .i64 b]⟩:=by rw[j];simp
   have p5:x.ob 1153=some ⟨576,.cells (yQ o)⟩:=by rw[j];simp[yQ,hw]
   have gd:x.df=[]:=by rw[j];simp
   have gr:x.ro=0:=by rw[j];simp
   have gn:640<=x.nx:=by rw[j];simp
   clear j;cases c8:(o.v.kind != 1);have hk:o.v.kind=1:=by simpa using c8
   simp;exact b8 _ _ g2 g3 g5 p1 p3 p5 g7 (Or.inl ⟨by simp[JK,hk],rfl⟩) gd gr gn;have hk:¬o.v.kind=1:=by simpa using c8
   simp[g7];refine JL (cs:=[.int .i64 (-1)]) (by simp[j6]) rfl rfl ?_;simp;refine jat (p:=λ_=>False) (l:=[]) (z:=-1) (v:=.sl none true 0 []) (X:=2*(x.nx+64)+1) (uX:=x.nx+64) zS (Or.inl ⟨rfl,rfl⟩) zS zS (λ_ h=>h.elim) zS (λkl c5=>?_);have d6:kl=[]:=by
    cases kl with
    |nil=>rfl
    |cons k _=>obtain⟨_,h,_⟩:=c5 k zS;exact h.elim
   subst d6;have n1:¬1=2*(x.nx+64+64)+1:=zO;have f0:¬1=2*(x.nx+64)+1:=zO;have n3:¬129=2*(x.nx+64+64)+1:=zO;have f2:¬129=2*(x.nx+64)+1:=zO;have n5:¬1153=2*(x.nx+64+64)+1:=zO;have b5:¬1153=2*(x.nx+64)+1:=zO;simp;refine b8 _ (.osl (2*(x.nx+64+64)+1) (x.nx+64+64) 0 1 1) (by simp[g2]) (by simp[g3]) (by simp[g5]) ?_ ?_ ?_ zS (Or.inr ⟨by simp[JK,hk],x.nx+64+64,by simp[JK,hk],by simp[JK,hk,yf],zO,zS⟩) (by simp[gd]) (by simp[gr]) zP;simp only[JU,Yu,XK,za n1,za f0];exact p1;simp only[JU,Yu,XK,za n3,za f2];exact p3;simp only[JU,Yu,XK,za n5,za b5];exact p5
  simp[j6,yQ,j0];exact Wr (p:=λ_=>True) zS rfl (Or.inl ⟨rfl,zS⟩) zS
def ev109 {h:Hist'}(s:Small h) (a b:Int):Ev E 109 [.agg (ya h),.agg (jE (a,b))] (.bool ((opAt h a b).any λo=>!o.w)):=by
 have m:=ev48 s;have x:=s.ts;refine jQ rfl ?_;obtain⟨R,c⟩:∃R,opAt h a b=R:=⟨_,rfl⟩;rw[c];unfold opAt at c;conv in(occs:=*)F109=>all_goals cbv
 simp[ya,j0,jE];refine Jb m zI rfl zI ?_;cases k:Yr h;rw[Qw k];rw[k]at c;subst c;simp;exact j5 zS zS rfl;rw[k]at c;rw[W2 k];by_cases v:a<0;have d:¬0<=a:=zO;rw[za zP]at c;subst c;simp[d,j0];exact j5 zS zS rfl;have d:0<=a:=zO;by_cases B:(h.ts.length:Int)<=a;have f:¬(a<(h.ts.length:Int)):=zO;rw[za zP]at c;subst c;simp[d,f,j0];exact j5 zS zS rfl;have f:a<(h.ts.length:Int):=zO;by_cases z:b<0;have l:¬0<=b:=zO;rw[za zP]at c;subst c;simp[d,f,l,j0];exact j5 zS zS rfl;have l:0<=b:=zO;obtain⟨i,rfl⟩:∃i:Nat,a=i:=⟨a.toNat,zO⟩;have g:i<h.ts.length:=zO;rw[aX,JN g]at c;obtain⟨t,r⟩:∃t,h.ts[i]=t:=⟨_,rfl⟩;rw[r]at c;have e:(h.ts.flatMap jl)[i*3+2]? = some (yl t.nl yQ t.ops):=by rw[jZ jA h.ts g (by decide:2<3),r];rfl
 by_cases u:(t.ops.length:Int)<=b;have p:¬(b<(t.ops.length:Int)):=zO;rw[za zP]at c;subst c;simp[d,f,l,p,j0,g,j7 jA,e];exact j5 zS zS rfl;have p:b<(t.ops.length:Int):=zO;obtain⟨j,rfl⟩:∃j:Nat,b=j:=⟨b.toNat,zO⟩;have n:j<t.ops.length:=zO;rw[zb zP,aX,aa n]at c;obtain⟨o,q⟩:∃o,t.ops[j]=o:=⟨_,rfl⟩;rw[q]at c;subst c;have y:(t.ops.flatMap yQ)[j*4]? = some (.bool o.w):=by have:=jZ jH t.ops n (by decide:0<4);rw[bp,q]at this;rw[this];rfl
 simp[d,f,l,p,j0,g,j7 jA,e];simp[n,j7 jH,y];exact j5 zS zS rfl
end Go.Pv.T
