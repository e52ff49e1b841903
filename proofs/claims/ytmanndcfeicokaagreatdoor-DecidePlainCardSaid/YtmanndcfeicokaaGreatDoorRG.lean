/- Part. -/
import Derived.Test.YtmanndcfeicokaaGreatDoorRF
set_option maxRecDepth 100000
set_option maxHeartbeats 8000000
set_option linter.all false
namespace Go.Pv.T
open Go Go.Pv
def valV (v:Val'):V:=.agg (J7 v)
def Xy (g:Hist') (key i:Int):Val':=(Yu (Js g i).2 key).1
def X4 (g:Hist') (a key:Int) (W:List Int):List (Int×Val'):=(W.filter λi=>!(i==a)).map λi=>(i,Xy g key i)
def Qq {p:Txn'->Bool}{ts:List Txn'}:∀n,n<=ts.length->(∀x∈yu p ts n,0<=x/\x<n)/\(yu p ts n).Pairwise (· < ·)
 |0,_=>by simp[yu]
 |n+1,h=>by have a:=Qq (p:=p) (ts:=ts) n zO;have e:=Jn (p:=p) (show n<ts.length by omega);rw[e];cases d:p ts[n];simp only[ag,zc,aL];exact⟨λx b=>by have:=a.1 x b;omega,a.2⟩;simp only[zd];refine⟨λx b=>?_,?_⟩;rcases aQ.1 b with h|h;have:=a.1 x h;omega;rw[ae]at h;omega;rw[List.pairwise_append];refine⟨a.2,fP _ _,λx b y c=>?_⟩;rw[ae]at c;have:=a.1 x b;omega
def j29 {b:Type}{m:List (Int×b)}{k:Int}{a:b}(h:k ∉ m.map (·.1)):Wm m k a=m++[(k,a)]:=by unfold Wm;rw[mfind_none.2 h]
def jj9 {g:Hist'}{a key:Int}{W:List Int}{i:Nat}(hi:i<W.length):X4 g a key (W.take (i+1))=X4 g a key (W.take i)++(if W[i]=a then [] else [(W[i],Xy g key W[i])]):=by unfold X4;rw[av hi,bP,bE];by_cases h:W[i]=a<;>simp[h]
def jme {g:Hist'}{a key:Int}{W:List Int}(d:W.Pairwise (· < ·)) {i:Nat}(hi:i<W.length):W[i] ∉ (X4 g a key (W.take i)).map (·.1):=by intro h;unfold X4 at h;rw[cM]at h;obtain⟨x,f,c⟩:=aI.1 h;have b:=(bK.1 f).1;simp only[Function.comp]at c;obtain⟨j,e,rfl⟩:=bA b;rw[ai]at e;rw[eN]at c;have:=dA.1 d j i zO hi zO;omega
def OthR (g:Hist') (a key:Int) (W:List Int) (ob:ZO) (ub:Nat) (r:V×(ZO)×(Nat->Bool)×Nat):Prop :=
 ∃M U ver:Nat,r.1=.map (2*M+1) U/\ub<=M/\M<r.2.2.2/\ub<=U/\r.2.1 (2*M+1)=some ⟨U,.mp ver (MP valV (X4 g a key W))⟩/\(∀k,(∀m,ub<=m->k≠2*m+1)->r.2.1 k=ob k)/\ub<=r.2.2.2
def sv166 {Yf:YF}{g:Hist'}(Q:Small g) (hm:Yt g=true) (a key:Int) {ob:ZO}{tk:Nat->Bool}{ro base ub:Nat}(a0:ro<=ub) :
 ∃r,EvS E Yf.y 166 [.agg (yb g),.int .i64 a,.int .i64 key] ob tk ro base ub r/\OthR g a key (yP g key) ob ub r:=by
 refine J6 rfl zQ ?_;show wpC E Yf S166.body _ (Jh S166.res _);obtain⟨vw,O,H⟩:=ev218 Q hm key;obtain⟨W,N⟩:∃W,yP g key=W:=⟨_,rfl⟩;have b0:W.length<=1000:=by have h1:=Jk (wrB key) g.ts g.ts.length;have T:=Q.ts;rw[<- N];unfold yP;omega
 have I:W.Pairwise (· < ·):=by rw[<- N];exact(Qq _ zK).2
 rw[N]at H ⊢;have S:¬2*ub=2*(ub+64+64):=zO;have n2:¬2*(ub+64+64)=2*ub:=zO;conv in(occs:=*)S166=>all_goals cbv
 simp[yb,ya,S];refine jH O zI rfl zI ?_;obtain⟨nl,H⟩:=H;obtain⟨t,add,p⟩:=jj5 (ub:=ub+64+64+64+64+64+64) H;rw[p];simp;refine jQ λe b=>?_;obtain⟨M,G⟩:∃M,M=ub+64+64:=⟨_,rfl⟩;have g1:e.tm 1=.int .i64 a:=by rw[b];simp
 have g2:e.tm 2=.int .i64 key:=by rw[b];simp
 have g3:e.tm 3=.ptr (2*ub+1) ub 0:=by rw[b];simp
 have g7:e.tm 7=.map (2*M+1) M:=by rw[b,G];simp
 have P:e.tm 13=.sl t nl W.length (W.flatMap yf):=by rw[b];simp
 have L:e.tm 14=.int .i64 W.length:=by rw[b];simp
 have K:e.tm 15=.int .i64 0:=by rw[b];simp
 have gd:e.df=[]:=by rw[b];simp
 have gr:e.ro=ro:=by rw[b];simp
 have gn:M<e.nx:=by rw[b,G];simp
 have ph:e.ob (2*ub+1)=some ⟨ub,.cells (yb g)⟩:=by rw[b];simp[S,yb]
 have pm:e.ob (2*M+1)=some ⟨M,.mp 0 []⟩:=by rw[b,G];simp
 have pf:∀k,(∀m,ub<=m->k≠2*m+1)->e.ob k=ob k:=by intro k B;have h1:=B ub zO;have T:=B (ub+64+64) zO;rw[b];simp[h1,T]
 clear b p;have b5:ub<M:=zO;clear G S n2;refine j5 [(9,9),(15,31)] W.length (λi s=>s.tm 15=.int .i64 i/\M<s.nx/\s.ob (2*ub+1)=some ⟨ub,.cells (yb g)⟩/\(∀k,(∀m,ub<=m->k≠2*m+1)->s.ob k=ob k)/\∃ver,s.ob (2*M+1)=some ⟨M,.mp ver (MP valV (X4 g a key (W.take i)))⟩) rfl rfl
  ⟨by simp[K],gn,ph,pf,0,by simp[pm,X4,MP]⟩ ?_
 rintro i s hi ⟨n,hn,oh,of,ver,om⟩ f;have X:=(f.t 1 zS).trans g1;have f2:=(f.t 2 zS).trans g2;have f3:=(f.t 3 zS).trans g3;have U:=(f.t 7 zS).trans g7;have F:=(f.t 13 zS).trans P;have q:=(f.t 14 zS).trans L;have fd:=f.d.trans gd;have fr:=f.r.trans gr;clear f;by_cases c:i<W.length;have Z:=jR c zO;obtain⟨x,hx⟩:∃x,W[i]=x:=⟨_,rfl⟩;have hI:jv 1 (.sl t nl W.length (W.flatMap yf)) (.int .i64 (i:Int))=some (.eptr (W.flatMap yf) i):=by simp[jv,c,j1 j6]
 have v:∀ob,W9 ob none (.eptr (W.flatMap yf) i)=some (.int .i64 x):=λob=>by have h:=jO j6 W c (by decide:0<1);rw[hx,bx,bl]at h;rw[jdy];simpa[Y2,yf] using h
 have j:=jj9 (g:=g) (a:=a) (key:=key) c;have w:=jme (g:=g) (a:=a) (key:=key) I c;rw[hx]at j w;by_cases o:x=a;rw[zb o,aL]at j;subst o;simp[n,F,q,c,hI,v,X,Z];exact⟨zO,oh,of,ver,by rw[j];exact om⟩;rw[za o]at j;have D:(x != a)=true:=by simpa using o
 have z:=ev169 Q x key;simp[n,F,q,c,hI,v,X,D,f2,f3,oh,ya,U,yb];refine jH z zI rfl zI ?_;rw[Jc (by simp[V.plain,J7])];have b6:valV (Yu (Js g x).2 key).1=valV (Xy g key x):=rfl;simp;refine jcw (f:=valV) (a:=Xy g key x) (ver:=ver) (l:=2*M+1) (u:=M) (k:=x) (X4 g a key (W.take i)) zS zS (by simp[valV,Xy,J7]) (zU om) (by simp[fr];omega) ?_;rw[j29 w,<- j];have nM:¬2*ub+1=2*M+1:=zO;have J:¬2*ub=2*M:=zO;simp[n,Z,J,oh,yb];refine⟨c,zO,λk B=>?_⟩;have:=B M zO;rw[za this];exact of k B;have:i=W.length:=zO;subst this;rw[bh]at om;simp[n,q,U];exact JN (by simp[fd]) ⟨M,M,ver,zS,zO,by simp;omega,zO,zU om,zU of,by simp;omega⟩
section
variable {E:Env}{Yf:YF}{st:St}{ub:Nat}{K:St->Nat->Prop}{d:Option Nat}{nm:Bool}
def jps {x:A}{l u ver:Nat}{es:List (V×V)}(e:ye E st.tm x=.map l u) (a:st.ob l=some ⟨u,.mp ver es⟩)
 (h:QP K st d ub { v:=.iter (jI d nm st.fb ub) ub,obs:=[(jI d nm st.fb ub,⟨ub,.miter l u ver es none⟩)] }):j8 E Yf ⟨d,.range false x,none,nm⟩ st ub K:=by
 rw[jU _ rfl rfl];have c:jY st.ob l u=some es:=by simp[jY,a]
 have b:jo st.ob l=ver:=by simp[jo,a]
 simp only[yU,e,c,b,ah,Jo,jG,Je];exact h
def jmb {l u l' u' ver:Nat}{δ:Delta}:∀{es c:List (V×V)},δ∈jmc l u l' u' ver c es->∃a k v b,es=a++(k,v)::b/\δ={ v:=.tup [.bool true,k,v],obs:=[(l,⟨u,.miter l' u' ver (c++a++b) (some (k,v))⟩)] }
 |[],_,h=>by simp[jmc]at h
 |(k,v)::r,c,h=>by rw[jmc,bD]at h;rcases h with h|h;exact⟨[],k,v,r,rfl,by rw[h];simp⟩;obtain⟨a,i,g,b,e,f⟩:=jmb h;exact⟨(k,v)::a,i,g,b,by rw[e];rfl,by rw[f];simp⟩
def ju1 {x:A}{l u l' u' ver:Nat}{left es:List (V×V)}{f:Option (V×V)}(i:ye E st.tm x=.iter l u) (h:st.ob l=some ⟨u,.miter l' u' ver left f⟩) (j:st.ob l'=some ⟨u',.mp ver es⟩) (g:st.ro<=u)
 (q:left=[]->jar K st d ub (.tup [.bool false]))
 (t:∀a k v b,left=a++(k,v)::b->QP K st d ub { v:=.tup [.bool true,k,v],obs:=[(l,⟨u,.miter l' u' ver (a++b) (some (k,v))⟩)] }):j8 E Yf ⟨d,.nextMap x,none,nm⟩ st ub K:=by
 have m:(jY st.ob l' u').isSome=true:=by simp[jY,j]
 have n:jo st.ob l'=ver:=by simp[jo,j]
 simp only[j8,yK,jl,jA];cases left with
 |nil=>refine⟨[{ v:=.tup [.bool false] }],?_,?_⟩;simp only[X7,i,h];rw[zb ⟨bT▸g,trivial,m,n⟩];intro s c;rw[ae]at c;subst c;have:=q rfl;rw[ja8];exact this
 |cons p r=>refine⟨jmc l u l' u' ver [] (p::r),?_,?_⟩;simp only[X7,i,h];rw[zb ⟨bT▸g,trivial,m,n⟩];intro s c;obtain⟨a,k,v,b,e,o⟩:=jmb c;subst o;exact t a k v b e
def j3x {x:A}{l u l' u' ver:Nat}{left es:List (V×V)}{k v:V}(f:ye E st.tm x=.iter l u) (b:st.ob l=some ⟨u,.miter l' u' ver left (some (k,v))⟩) (a:st.ob l'=some ⟨u',.mp ver es⟩)
 (h:jar K st d ub (.tup [k,v])):j8 E Yf ⟨d,.entry x,none,nm⟩ st ub K:=by
 have c:(jY st.ob l' u').isSome=true:=by simp[jY,a]
 have e:jo st.ob l'=ver:=by simp[jo,a]
 rw[jU _ rfl rfl];simp only[yU,f,b];rw[zb ⟨trivial,c,e⟩,Wc,ja8];exact h
end
def IntsO (ob:ZO) (p:Nat->Prop) (l:List Int) (v:V):Prop :=
 (l=[]/\v=.sl none true 0 [])\/(l≠[]/\∃u,v=.osl (2*u+1) u 0 l.length 1/\ob (2*u+1)=some ⟨u,.cells (l.flatMap yf)⟩/\p u)
def IntsO.frame {ob ob':ZO}{p b:Nat->Prop}{l:List Int}{v:V}(h:IntsO ob p l v) (c:∀u,p u->ob' (2*u+1)=ob (2*u+1)) (f:∀u,p u->b u):IntsO ob' b l v:=by rcases h with h|⟨g,u,e,i,a⟩;exact Or.inl h;exact Or.inr ⟨g,u,e,(c u a).trans i,f u a⟩
def jhj (st:St) (d:Option Nat) (v:V) (l:Nat) (o:Obj') (kl:List Nat) (k:Nat):(st.app d { v:=v,obs:=[(l,o)],kill:=kl }).ob k=if k=l then some o else if kl.any (Nat.beq k) then none else st.ob k:=by simp[St.app,Jl,yg]
def jk5 (st:St) (d:Option Nat) (v:V) (l:Nat) (o:Obj') (kl:List Nat) (k:Nat) (h:k ∉ kl):(st.app d { v:=v,obs:=[(l,o)],kill:=kl }).ob k=if k=l then some o else st.ob k:=by
 rw[jhj];have:(kl.any (Nat.beq k))=false:=by rw[eO];intro x b a;exact h (br a▸b)
 rw[this];rfl
def jdl (st:St) (k:Nat):∀l:List Int,(l.flatMap yf).mapM (JY st (k+1))=some (l.flatMap yf)
 |[]=>rfl
 |a::l=>by show((V.int .i64 a)::l.flatMap yf).mapM _=_;rw[bR,jdl st k l];rfl
def jks (T:List Int):V:=if T.isEmpty then .sl none true 0 [] else .sl (some (0,1)) false T.length (T.flatMap yf)
def numR_intsV (T:List Int):j09 T (jks T):=by
 cases T with
 |nil=>exact⟨true,none,rfl,zS⟩
 |cons a T=>exact⟨false,some (0,1),rfl,zS⟩
def Wz {st:St}{p:Nat->Prop}{n:Nat}{T:List Int}{v:V}(g:st.df=[]) (m:st.tm n=v) (h:IntsO st.ob p T v) (j:∀u,p u->st.ro<=u):j54 [.t n] (jks T) .ret st:=by
 show jb4 [.t n] (.ret,st)=some (jks T);rcases h with⟨rfl,rfl⟩|⟨b,u,rfl,l,o⟩;exact j3 g (by rw[m];rfl) rfl;have a:ya st.ob (2*u+1) u=some (T.flatMap yf):=by simp[ya,l]
 have f:(T.flatMap yf).length=T.length:=by rw[j1 j6];omega
 have c:T.isEmpty=false:=by cases T with|nil=>exact zf rfl b|cons=>rfl
 have e:0<T.length:=dY.2 b;have w:JY st 6 (.osl (2*u+1) u 0 T.length 1)=some (.sl none false T.length (T.flatMap yf)):=by show((ya st.ob (2*u+1) u).bind λcs=>if Nat.ble st.ro u=true/\0+T.length*1<=cs.length then (((cs.drop 0).take (T.length*1)).mapM (JY st 5)).map λi=>V.sl none false T.length i else none)=_;rw[a,ah];rw[zb ⟨bT▸j u o,zO⟩];rw[dt,bx,aH zO,jdl];rfl
 have q:jt st true 0 (.osl (2*u+1) u 0 T.length 1)=some (.sl (some (0,1)) false T.length (T.flatMap yf)):=by
  simp only[jt,w,ah,a,aU];have s:(true&&Nat.beq 0 0&&Nat.blt 0 T.length&&Nat.beq (T.length*1) (T.flatMap yf).length)=true:=by rw[f,bx,cP,cP];simp;exact e
  rw[s];rfl
 have k:XF st true 0 (.osl (2*u+1) u 0 T.length 1)=some (.sl (some (0,1)) false T.length (T.flatMap yf)):=q;have r:[ARes.t n].mapM (ju st)=some [.osl (2*u+1) u 0 T.length 1]:=by simp[ju,m]
 simp only[jb4,Yk g,Yg g,zd,r,ah,W6];have x:yJ ([V.osl (2*u+1) u 0 T.length 1].flatMap V.toks)=true:=rfl;rw[x];simp only[Jd,k,ah,aU];rw[jks,c];rfl
def jas {E:Env}{Yf:YF}{st:St}{ub:Nat}{K:St->Nat->Prop}{d:Option Nat}{p:Nat->Prop}{l:List Int}{z:Int}{v:V}{s x:A}{X uX:Nat}(f:ye E st.tm s=v) (o:IntsO st.ob p l v) (n:ye E st.tm x=.osl X uX 0 1 1) (m:st.ob X=some ⟨uX,.cells [.int .i64 z]⟩) (b:∀u,p u->st.ro<=u) (q:l.length<=1000)
 (h:∀g:List Nat,(∀k∈g,∃u,p u/\k=2*u+1)->QP K st d ub { v:=.osl (2*ub+1) ub 0 (l++[z]).length 1,obs:=[(2*ub+1,⟨ub,.cells ((l++[z]).flatMap yf)⟩)],kill:=g }) :
 j8 E Yf ⟨d,.append true 1 8 s x,none,true⟩ st ub K:=by
 have a:yp st.ob 1 (ye E st.tm x)=some [.int .i64 z]:=by rw[n];simp[yp,ya,m]
 rcases o with⟨rfl,rfl⟩|⟨j,u,rfl,c,e⟩;refine X9 f a zS zQ rfl zS zS ?_;simpa[yf,jI] using h [] zS;have i:(l.flatMap yf).length=l.length:=by rw[j1 j6];omega
 refine JL (cs:=l.flatMap yf) f a c zS (b u e) zO zQ rfl zP zP ?_;have:=h [2*u+1] (by simp;exact⟨u,e,rfl⟩);rw[bx,aH zO];simpa[yf,jI] using this
def Qc (o:Op') (v:Val'):Bool:=o.v.kind==2||(v.kind==o.v.kind&&v.n==o.v.n)
def JQ (o:Op'):List Int:=if o.v.kind=1 then [] else [-1]
def ofL (g:Hist') (a:Int) (o:Op'):List Int:=JQ o++(yP g o.key).filter λi=>!(i==a)&&Qc o (Xy g o.key i)
def ofH (g:Hist') (a b:Int):List Int:=match opAt g a b with
 |some o=>if o.w then [] else ofL g a o
 |none=>[]
def jhx (g:Hist') (k:Int):(yP g k).Pairwise (· < ·)/\∀x∈yP g k,0<=x:=by have:=Qq (p:=wrB k) (ts:=g.ts) g.ts.length zK;exact⟨this.2,λx a=>(this.1 x a).1⟩
def juo (g:Hist') (a:Int) (o:Op'):(ofL g a o).Pairwise (·<=·):=by have h:=jhx g o.key;unfold ofL JQ;rw[List.pairwise_append];refine⟨?_,?_,?_⟩;split<;>simp;exact((h.1.imp (λh=>Int.le_of_lt h)).filter _);intro x b y c;have d:=h.2 y (bK.1 c).1;split at b;cases b;rw[ae]at b;omega
def jfi (g:Hist') (k:Int):(yP g k).length<=g.ts.length:=by unfold yP;exact Jk (wrB k) g.ts g.ts.length
def j8k {g:Hist'}(c:g.ts.length<=40) (a:Int) (o:Op'):(ofL g a o).length<=41:=by unfold ofL JQ;rw[ap];have b:=ch (λi=>!(i==a)&&Qc o (Xy g o.key i)) (yP g o.key);have d:=jfi g o.key;split<;>simp<;>omega
def jyq {g:Hist'}(a:Yt g=true):g.ts.length<=40:=by unfold Yt Y0 at a;simp only[aj,ze]at a;exact a.1.2.2.2.2
def YQ (o:Op') (P:List (Int×Val')):List Int:=(P.filter λp=>Qc o p.2).map (·.1)
def jo3 {g:Hist'}{a:Int}{o:Op'}{P:List (Int×Val')}(h:P.Perm (X4 g a o.key (yP g o.key))):(JQ o++YQ o P).Perm (ofL g a o):=by
 unfold ofL;refine List.Perm.append_left _ ?_;have b:(YQ o P).Perm (YQ o (X4 g a o.key (yP g o.key))):=(h.filter _).map _;refine b.trans ?_;have e:YQ o (X4 g a o.key (yP g o.key))=(yP g o.key).filter λi=>!(i==a)&&Qc o (Xy g o.key i):=by unfold YQ X4;rw[List.filter_map,cM,List.filter_filter];have:((λx:Int×Val'=>x.1) ∘ λi=>(i,Xy g o.key i))=id:=rfl;rw[this,ia];congr 1;funext i;simp only[Function.comp,gu]
 rw[e]
def j5l {m:List (Int×Val')}{A B:List (V×V)}{k v:V}(h:MP valV m=A++(k,v)::B):∃b p a,m=b++p::a/\A=MP valV b/\B=MP valV a/\k=.int .i64 p.1/\v=valV p.2:=by unfold MP at h;obtain⟨b,C,d,i,e⟩:=List.map_eq_append_iff.1 h;obtain⟨p,a,g,c,f⟩:=List.map_eq_cons_iff.1 e;subst g;have:=Prod.mk.inj c;exact⟨b,p,a,d,i.symm,f.symm,this.1.symm,this.2.symm⟩
def j6w (a b:List (Int×Val')):MP valV a++MP valV b=MP valV (a++b):=by simp[MP]
def j53 {x:Nat}(h:640<=x):¬2*x=1152:=zO
def ev113 {g:Hist'}(hs:Small g) (a b:Int):Ev E 113 [.agg (yb g),.agg (jC (a,b))] (jks (ofH g a b)):=by
 have T:=ev165 hs a b;refine jT rfl ?_;unfold ofH;cases S:opAt g a b with
 |none=>
  rw[S]at T;conv in(occs:=*)F113=>all_goals cbv
  simp[yb,ya,jC];refine jH T (by simp[yb,jC]) rfl (by simp[yb,jC]) ?_;rw[Jc (by simp[V.plain,yS])];simp[j2,yS,op0,ya];exact Wz (p:=λ_=>True) zS rfl (Or.inl ⟨rfl,zS⟩) zS
 |some o=>
  rw[S]at T;simp only[cz,Option.any_some]at T;have c0:Yt g=true:=by unfold opAt at S;cases hm:Yt g;rw[hm]at S;cases S;rfl
  have g8:=jyq c0;conv in(occs:=*)F113=>all_goals cbv
  simp[yb,ya,jC];refine jH T (by simp[yb,jC]) rfl (by simp[yb,jC]) ?_;rw[Jc (by simp[V.plain,yS])];cases hw:o.w
  ·simp[j2,yS,ya];generalize hK:jvy E YT _ (j54 _ _)=K;have b8:∀(s:St) (v:V),s.tm 2=.ptr 1 0 0->s.tm 3=.ptr 129 64 0->s.tm 5=.ptr 1153 576 0->s.ob 1=some ⟨0,.cells (yb g)⟩->s.ob 129=some ⟨64,.cells [.int .i64 a,.int .i64 b]⟩->s.ob 1153=some ⟨576,.cells (yS o)⟩ ->
    s.tm 7=v->IntsO s.ob (λu=>640<=u/\u<s.nx) (JQ o) v->s.df=[]->s.ro=0->640<=s.nx->K .nrm s:=by
    intro s v h2 h3 h5 o1 o3 o5 h7 hv hd hr hn
    rw[<- hK]
    clear hK
    simp[h2,h3,h5,o1,o3,o5,ya,yS,yb]
    refine jJ (vs:=[.agg (yb g),.int .i64 a,.int .i64 o.key]) zI rfl (sv166 hs c0 a o.key (by simp[hr])) ?_
    rintro w d8 g1 c ⟨M,U,ver,e1,e2,e3,e4,e5,e6,e7⟩
    simp only at e1 e3 e5 e6 e7
    subst e1
    simp
    refine jps (l:=2*M+1) (u:=U) (ver:=ver) zS (by simpa using e5) ?_
    simp
    refine jQ λx j=>?_
    have b9:640<=c:=by first|omega|(simp at e7;omega)
    have h1:640<=M:=by first|omega|(simp at e2;omega)
    obtain⟨D,Q⟩:∃l,X4 g a o.key (yP g o.key)=l:=⟨_,rfl⟩
    rw[Q]at e5 j
    have c4:∀k,(∀m,s.nx<=m->k≠2*m+1)->d8 k=s.ob k:=λk hk=>(e6 k (λm hm=>hk m (by first|omega|(simp at hm;omega)))).trans zS
    have g9:s.nx<=M:=by first|omega|(simp at e2;omega)
    have g5:x.tm 5=.ptr 1153 576 0:=by rw[j];simp[h5]
    have g7:x.tm 7=v:=by rw[j];simp[h7]
    have g0:x.tm 31=.iter (2*c+1) c:=by rw[j];simp
    have gd:x.df=[]:=by rw[j];simp[hd]
    have gr:x.ro=0:=by rw[j];simp[hr]
    have gn:c<x.nx:=by rw[j];simp
    have gf:∀k,k≠2*c+1->x.ob k=d8 k:=by intro k hk;rw[j];simp[hk]
    have pi:x.ob (2*c+1)=some ⟨c,.miter (2*M+1) U ver (MP valV D) none⟩:=by rw[j];simp
    have pm:x.ob (2*M+1)=some ⟨U,.mp ver (MP valV D)⟩:=(gf _ zO).trans e5
    have p5:x.ob 1153=some ⟨576,.cells (yS o)⟩:=(gf _ zO).trans ((c4 _ (λm hm=>by omega)).trans o5)
    have pv:IntsO x.ob (λu=>640<=u/\u≠M/\u≠c/\u<x.nx) (JQ o++YQ o []) v:=by rw[show YQ o []=[] from rfl,aL];refine hv.frame (λu y=>?_) (λu y=>⟨y.1,zO,by first|omega|(simp at e7;omega),by first|omega|(simp at e7;omega)⟩);exact(gf _ (by first|omega|(simp at e7;omega))).trans (c4 _ (λm hm=>by omega))
    clear j e6 e5 c4
    obtain⟨J,hJ⟩:∃J:Nat->St->Prop,J=λn s=>∃(P m':List (Int×Val')) (v:V) (b6:Option (V×V)),n=m'.length/\(P++m').Perm D/\s.tm 7=v/\IntsO s.ob (λu=>640<=u/\u≠M/\u≠c/\u<s.nx) (JQ o++YQ o P) v /\
     s.ob (2*c+1)=some ⟨c,.miter (2*M+1) U ver (MP valV m') b6⟩/\s.ob (2*M+1)=some ⟨U,.mp ver (MP valV D)⟩/\s.ob 1153=some ⟨576,.cells (yS o)⟩/\c<s.nx:=⟨_,rfl⟩
    refine YH (n:=D.length) [(7,9),(32,50)] J rfl rfl (by rw[hJ];exact⟨[],D,v,none,rfl,zS,g7,pv,pi,pm,p5,gn⟩) ?_
    clear h7 hv g7 pv pi pm p5 gn v
    intro n s d7 f
    rw[hJ]at d7
    obtain⟨P,m',v,b6,rfl,G,h7,hv,oi,om,a0,f4⟩:=d7
    have f5:s.tm 5=.ptr 1153 576 0:=by rw[f.t 5 zS];exact g5
    have d9:s.tm 31=.iter (2*c+1) c:=by rw[f.t 31 zS];exact g0
    have fd:s.df=[]:=by rw[f.d];exact gd
    have fr:s.ro=0:=by rw[f.r];exact gr
    clear f
    have d0:(P++m').length<=40:=by rw[G.length_eq,<- Q];unfold X4;rw[bt];have:=ch (λi=>!(i==a)) (yP g o.key);have:=jfi g o.key;omega
    rw[ap]at d0
    have g6:(YQ o P).length<=P.length:=by unfold YQ;rw[bt];exact ch _ _
    have h0:(JQ o).length<=1:=by unfold JQ;split<;>simp
    simp
    refine ju1 (l:=2*c+1) (u:=c) (l':=2*M+1) (u':=U) (ver:=ver) (es:=MP valV D) (left:=MP valV m') (by simp[d9]) oi om (by simp[fr]) ?_ ?_
    ·intro b7;have f1:m'=[]:=by unfold MP at b7;exact gm.1 b7
     subst f1;rw[aL]at G;have I:=jo3 (g:=g) (a:=a) (o:=o) (P:=P) (by rw[Q];exact G);have d4:=I.length_eq;simp[h7];rcases hv with⟨d5,rfl⟩|⟨e8,u,rfl,f7,y⟩;rw[d5]at I;have hT:ofL g a o=[]:=List.perm_nil.1 I.symm;refine jJ (vs:=[.sl none true 0 []]) zS rfl sv167n ?_;rintro w e9 f3 f8 ⟨q1,q2,q3⟩;simp[h7];exact Wz (p:=λ_=>True) (by simp[fd]) rfl (Or.inl ⟨hT,zS⟩) (by simp[fr]);refine jJ (vs:=[.osl (2*u+1) u 0 (JQ o++YQ o P).length 1]) zS rfl (sv167 I (juo g a o) (by rw[ap];omega) (by simpa using f7) (by simp[fr]) (λm hm=>by have:=y.2.2.2;first|omega|(simp at hm;omega)) (by simp[fr])) ?_;rintro w e9 f3 f8 e0;simp only at e0;simp[h7];refine Wz (p:=λ_=>True) (by simp[fd]) rfl (Or.inr ⟨?_,u,?_,by simpa using e0.1,trivial⟩) (by simp[fr]);intro hT;rw[hT]at I;exact e8 (List.perm_nil.1 I);rw[<- d4];simp
    ·intro A k w B f9;obtain⟨A',q,B',rfl,rfl,rfl,rfl,rfl⟩:=j5l f9;have H:((P++[q])++(A'++B')).Perm D:=by refine List.Perm.trans ?_ G;rw[aY];exact List.Perm.append_left _ (by simpa using List.perm_middle.symm)
     have nM:¬2*M+1=2*c+1:=zO;simp;refine j3x (l:=2*c+1) (u:=c) (l':=2*M+1) (u':=U) (ver:=ver) (es:=MP valV D) (left:=MP valV A'++MP valV B') (k:=.int .i64 q.1) (v:=valV q.2) (by simp[d9]) zS (by simp[show ¬2*M=2*c by omega,om]) ?_;have n5:¬1153=2*c+1:=zO;simp[valV,J7,j2,fr,ya];generalize c9:jvy E YT (C.cond _ _ _) _=K2;have O:∀(F:St) (N:Bool),N=Qc o q.2->F.tm 46=.bool N->F.tm 7=v->F.tm 8=.int .i64 q.1->IntsO F.ob (λu=>640<=u/\u≠M/\u≠c/\u<F.nx) (JQ o++YQ o P) v ->
      F.ob (2*c+1)=some ⟨c,.miter (2*M+1) U ver (MP valV (A'++B')) (some (.int .i64 q.1,valV q.2))⟩->F.ob (2*M+1)=some ⟨U,.mp ver (MP valV D)⟩->F.ob 1153=some ⟨576,.cells (yS o)⟩->c<F.nx->F.df=[]->F.ro=0->K2 .nrm F:=by
      intro F N c7 c6 h7 h8 hv oi om o5 hn hd hr
      rw[<- c9]
      have L:YQ o (P++[q])=YQ o P++(if N then [q.1] else []):=by unfold YQ;rw[bP,bE,c7];cases hf:Qc o q.2<;>simp[hf]
      have h4:(A'++B').length<(A'++q::B').length:=zS
      cases N
      ·simp only[ag,zc,aL]at L;simp[c6];exact⟨(A'++B').length,zL,by rw[hJ];exact⟨P++[q],A'++B',v,some (.int .i64 q.1,valV q.2),rfl,H,by simp[h7],by rw[L];exact hv.frame (λu _=>by simp) (λu y=>⟨y.1,y.2.1,y.2.2.1,by have:=y.2.2.2;first|omega|(simp;omega)⟩),by simp[oi],by simp[om],by simp[o5],by first|omega|(simp;omega)⟩⟩
      ·simp only[zd]at L;simp[c6,h7,h8];refine jZ (cs:=[.int .i64 q.1]) (by simp[j2]) rfl rfl ?_;simp;refine jas (p:=λu=>640<=u/\u≠M/\u≠c/\u<F.nx) (l:=JQ o++YQ o P) (z:=q.1) (v:=v) (X:=2*(F.nx+64+64)+1) (uX:=F.nx+64+64) zS (hv.frame (λu y=>?_) (λ_ h=>h)) zS zS (by simp[hr]) (by rw[ap];simp at d0;omega) (λkl c5=>?_);have:¬2*u=2*(F.nx+64+64):=by have:=y.2.2.2;omega
       simp[this];have nk:∀z:Nat,(∀u,640<=u->u≠M->u≠c->z≠2*u+1)->z ∉ kl:=λz hz hm=>by obtain⟨u,y,e⟩:=c5 z hm;exact hz u y.1 y.2.1 y.2.2.1 e
       have k1:=nk (2*c+1) (λu _ _ h e=>h zO);have k2:=nk (2*M+1) (λu _ h _ e=>h zO);have k3:=nk 1153 (λu h _ _ e=>by omega);obtain⟨Z,hZ⟩:∃Z,F.nx+64+64+64=Z:=⟨_,rfl⟩;have d1:¬2*c+1=2*Z+1:=zO;have d2:¬2*M+1=2*Z+1:=zO;have d3:¬1153=2*Z+1:=zO;have b1:¬2*c+1=2*(F.nx+64+64)+1:=zO;have b2:¬2*M+1=2*(F.nx+64+64)+1:=zO;have b3:¬1153=2*(F.nx+64+64)+1:=zO;have g4:∀X:Prop,X->X:=λ_ h=>h;simp only[hZ];simp;refine⟨(A'++B').length,zL,?_⟩;rw[hJ];refine⟨P++[q],A'++B',.osl (2*Z+1) Z 0 (JQ o++YQ o (P++[q])).length 1,some (.int .i64 q.1,valV q.2),rfl,H,by simp[L],Or.inr ⟨by rw[L];simp,Z,rfl,?_,zO,zO,zO,?_⟩,?_,?_,?_,?_⟩;simp only[Ja,W2];rw[jhj,zb rfl,L];simp
       ·first|omega|(simp;done)|(simp;omega)
       simp only[Ja,W2];rw[jk5 _ _ _ _ _ _ _ k1,za d1];simp only[XM,W2,za b1];exact oi;simp only[Ja,W2];rw[jk5 _ _ _ _ _ _ _ k2,za d2];simp only[XM,W2,za b2];exact om;simp only[Ja,W2];rw[jk5 _ _ _ _ _ _ _ k3,za d3];simp only[XM,W2,za b3];exact o5
       ·first|omega|(simp;done)|(simp;omega)
     clear c9;have c1:¬2*c=2*(s.nx+64+64+64+64+64):=zO;have c2:¬2*M=2*(s.nx+64+64+64+64+64):=zO;have c3:¬2*M=2*c:=zO;have f6:640<=s.nx+64+64+64+64+64:=bI (bI b9 (gC f4)) (by simp[aA]);have nq:=j53 f6;have b5:=j53 b9;cases b0:(o.v.kind==2);simp[f5,a0,ya,yS,n5,nq,b0];refine O _ (q.2.kind==o.v.kind&&q.2.n==o.v.n) (by unfold Qc;rw[b0];rfl) zS (by simp[h7]) zS (hv.frame (λu y=>?_) (λu y=>⟨y.1,y.2.1,y.2.2.1,by have:=y.2.2.2;first|omega|(simp;omega)⟩)) (by simp[c1,j6w,valV,J7]) (by simp[c2,c3,om]) (by simp[nq,b5,a0,yS]) (by first|omega|(simp;omega)) (by simp[fd]) (by simp[fr]);have a1:¬2*u=2*(s.nx+64+64+64+64+64):=by have:=y.2.2.2;omega
     have a2:¬2*u=2*c:=by have:=y.2.2.1;omega
     simp[a1,a2];simp[f5,a0,ya,yS,n5,nq,b0];refine O _ true (by unfold Qc;rw[b0];rfl) zS (by simp[h7]) zS (hv.frame (λu y=>?_) (λu y=>⟨y.1,y.2.1,y.2.2.1,by have:=y.2.2.2;first|omega|(simp;omega)⟩)) (by simp[c1,j6w,valV,J7]) (by simp[c2,c3,om]) (by simp[nq,b5,a0,yS]) (by first|omega|(simp;omega)) (by simp[fd]) (by simp[fr]);have a1:¬2*u=2*(s.nx+64+64+64+64+64):=by have:=y.2.2.2;omega
     have a2:¬2*u=2*c:=by have:=y.2.2.1;omega
     simp[a1,a2]
   clear hK;refine j9c λx j=>?_;have g2:x.tm 2=.ptr 1 0 0:=by rw[j];simp
   have g3:x.tm 3=.ptr 129 64 0:=by rw[j];simp
   have g5:x.tm 5=.ptr 1153 576 0:=by rw[j];simp
   have g7:x.tm 7=.sl none true 0 []:=by rw[j];simp
   have p1:x.ob 1=some ⟨0,.cells (yb g)⟩:=by rw[j];simp[yb]
   have p3:x.ob 129=some ⟨64,.cells [.int .i64 a,.int .i64 b]⟩:=by rw[j];simp
   have p5:x.ob 1153=some ⟨576,.cells (yS o)⟩:=by rw[j];simp[yS,hw]
   have gd:x.df=[]:=by rw[j];simp
   have gr:x.ro=0:=by rw[j];simp
   have gn:640<=x.nx:=by rw[j];simp
   clear j;cases c8:(o.v.kind != 1);have hk:o.v.kind=1:=by simpa using c8
   simp;exact b8 _ _ g2 g3 g5 p1 p3 p5 g7 (Or.inl ⟨by simp[JQ,hk],rfl⟩) gd gr gn;have hk:¬o.v.kind=1:=by simpa using c8
   simp[g7];refine jZ (cs:=[.int .i64 (-1)]) (by simp[j2]) rfl rfl ?_;simp;refine jas (p:=λ_=>False) (l:=[]) (z:=-1) (v:=.sl none true 0 []) (X:=2*(x.nx+64)+1) (uX:=x.nx+64) zS (Or.inl ⟨rfl,rfl⟩) zS zS (λ_ h=>h.elim) zS (λkl c5=>?_);have d6:kl=[]:=by
    cases kl with
    |nil=>rfl
    |cons k _=>obtain⟨_,h,_⟩:=c5 k zS;exact h.elim
   subst d6;have n1:¬1=2*(x.nx+64+64)+1:=zO;have f0:¬1=2*(x.nx+64)+1:=zO;have n3:¬129=2*(x.nx+64+64)+1:=zO;have f2:¬129=2*(x.nx+64)+1:=zO;have n5:¬1153=2*(x.nx+64+64)+1:=zO;have b5:¬1153=2*(x.nx+64)+1:=zO;simp;refine b8 _ (.osl (2*(x.nx+64+64)+1) (x.nx+64+64) 0 1 1) (by simp[g2]) (by simp[g3]) (by simp[g5]) ?_ ?_ ?_ zS (Or.inr ⟨by simp[JQ,hk],x.nx+64+64,by simp[JQ,hk],by simp[JQ,hk,yf],zO,zS⟩) (by simp[gd]) (by simp[gr]) zP;simp only[Ja,W2,XM,za n1,za f0];exact p1;simp only[Ja,W2,XM,za n3,za f2];exact p3;simp only[Ja,W2,XM,za n5,za b5];exact p5
  simp[j2,yS,ya];exact Wz (p:=λ_=>True) zS rfl (Or.inl ⟨rfl,zS⟩) zS
def ev109 {h:Hist'}(s:Small h) (a b:Int):Ev E 109 [.agg (yb h),.agg (jC (a,b))] (.bool ((opAt h a b).any λo=>!o.w)):=by
 have m:=ev48 s;have x:=s.ts;refine jT rfl ?_;obtain⟨R,c⟩:∃R,opAt h a b=R:=⟨_,rfl⟩;rw[c];unfold opAt at c;conv in(occs:=*)F109=>all_goals cbv
 simp[yb,ya,jC];refine X5 m zI rfl zI ?_;cases k:Yt h;rw[Qs k];rw[k]at c;subst c;simp;exact j3 zS zS rfl;rw[k]at c;rw[W8 k];by_cases v:a<0;have d:¬0<=a:=zO;rw[za zP]at c;subst c;simp[d,ya];exact j3 zS zS rfl;have d:0<=a:=zO;by_cases B:(h.ts.length:Int)<=a;have f:¬(a<(h.ts.length:Int)):=zO;rw[za zP]at c;subst c;simp[d,f,ya];exact j3 zS zS rfl;have f:a<(h.ts.length:Int):=zO;by_cases z:b<0;have l:¬0<=b:=zO;rw[za zP]at c;subst c;simp[d,f,l,ya];exact j3 zS zS rfl;have l:0<=b:=zO;obtain⟨i,rfl⟩:∃i:Nat,a=i:=⟨a.toNat,zO⟩;have g:i<h.ts.length:=zO;rw[ba,XC g]at c;obtain⟨t,r⟩:∃t,h.ts[i]=t:=⟨_,rfl⟩;rw[r]at c;have e:(h.ts.flatMap jf)[i*3+2]? = some (yl t.nl yS t.ops):=by rw[jO j7 h.ts g (by decide:2<3),r];rfl
 by_cases u:(t.ops.length:Int)<=b;have p:¬(b<(t.ops.length:Int)):=zO;rw[za zP]at c;subst c;simp[d,f,l,p,ya,g,j4 j7,e];exact j3 zS zS rfl;have p:b<(t.ops.length:Int):=zO;obtain⟨j,rfl⟩:∃j:Nat,b=j:=⟨b.toNat,zO⟩;have n:j<t.ops.length:=zO;rw[zb zP,ba,aa n]at c;obtain⟨o,q⟩:∃o,t.ops[j]=o:=⟨_,rfl⟩;rw[q]at c;subst c;have y:(t.ops.flatMap yS)[j*4]? = some (.bool o.w):=by have:=jO jD t.ops n (by decide:0<4);rw[bl,q]at this;rw[this];rfl
 simp[d,f,l,p,ya,g,j4 j7,e];simp[n,j4 jD,y];exact j3 zS zS rfl
end Go.Pv.T
