/- Part. -/
import Derived.Test.YtmanndcfeicokaaGreatDoorQT
set_option maxRecDepth 100000
set_option maxHeartbeats 8000000
set_option linter.all false
namespace Go.Pv.T
open Go Go.Pv
def ev17 {g:Hist'}(r:Small g) (q:jW g=true):Ev E 17 [.agg (ya g)] (.int .i64 (Qc (yu g) 1)):=by
 obtain⟨M,m,e⟩:=ev37 r;have o:=j2h r;have c:=j7v q;rw[jh2 1 (jn7 q)];refine jV rfl ?_;obtain⟨C,D⟩:∃C,choR g=C:=⟨_,rfl⟩;rw[D]at e o c ⊢;obtain⟨R,x⟩:∃R,Qc C 1=R:=⟨_,rfl⟩;conv in(occs:=*)F17=>all_goals cbv
 simp[ya,j0,x];refine jQ m zI rfl zI ?_;refine YE e λv u=>?_;simp;refine j7 [(4,5),(8,21)] C.length (λi s=>s.tm 5=.int .i64 i/\∃n,s.tm 4=.int .i64 n/\0<=n/\n<=1000000/\Qc (C.drop i) n=R) rfl rfl ⟨zS,1,zS,zO,zO,by simpa using x⟩ ?_;rintro i s L ⟨z,n,y,K,I,h⟩ f;have w:s.tm 3=.sl v false C.length (C.flatMap jac):=by rw[f.t 3 zS];simp
 have B:s.df=[]:=by rw[f.d];simp
 clear f;by_cases a:i<C.length;have l:=jc a zO;have J:=jpx C a;have b:J0 1 (.sl v false C.length (C.flatMap jac)) (.int .i64 (i:Int))=some (.eptr (C.flatMap jac) (i*1)):=by simp only[Jo,j3 Wn];rw[zb zP];rfl
 rw[bE]at b;have G:=c _ (av a);rw[bj a,Qc]at h;have F:=mul_lt K I G;have j:=j71 F.1;have p:=ji (n:=n*((C[i]).2.length:Int)) zO zO;have H:=min6 (n*((C[i]).2.length:Int));generalize (C[i]).2.length=k at *;simp[z,w,y,a,b,J,p,H,l];first|exact⟨a,j.1,j.2,h⟩|exact⟨j.1,j.2,h⟩
 have:i=C.length:=zO;subst this;rw[fD,Qc]at h;simp[z,w,y];exact j4 (by simp[B]) (by simp[h]) rfl
def ev41 {g:Hist'}(G:Small g):∃v,Ev E 41 [.agg (ya g)] v/\jqx (Wx g) v:=by
 obtain⟨vc,K,w⟩:=ev73 G;have o:=j8x G;have O:=jqp G;have H:=jn8 G;refine XI rfl zQ ?_;have e:∀{B:St}{x:Int},B.df=[]->B.tm 2=.sl none true 0 []->B.tm 3=.int .i64 x->Wx g=(x,[])->Q5 [.t 2,.t 3] (jqx (Wx g)) .ret B:=by intro B x hd h2 h3 hp;rw[hp];exact jmj (ns:=[2,3]) (vs:=[.sl none true 0 [],.int .i64 x]) (λr h=>h) hd (by simp[h2,h3]) zS zS ⟨jT rfl,jT rfl,trivial⟩
 obtain⟨P,hP⟩:∃P,jqx (Wx g)=P:=⟨_,rfl⟩;rw[hP]at e ⊢;obtain⟨C,J⟩:∃C,yu g=C:=⟨_,rfl⟩;rw[J]at w O H;cases y:jW g
 ·rw[y]at o;conv in(occs:=*)F41=>all_goals cbv
  simp[ya,j0];refine jQ o zI rfl zI ?_;simp;exact e (x:=4) rfl zS zS (by simp[Wx,y])
 rw[y]at o;conv in(occs:=*)F41=>all_goals cbv
 simp[ya,j0];refine jQ o zI rfl zI ?_;simp[j0];refine jQ K zI rfl zI ?_;refine YE w λZ b0=>?_;simp;refine j7 [(2,4),(6,6),(13,26)] C.length (λi s=>s.tm 13=.int .i64 i/\XC (C.take i)=true/\Grow s.tk 0 s.nx ye 1 (jb9 C i) (s.tm 4)) rfl rfl ⟨zS,by simp[XC],by simp[jb9];exact Grow.nil _ _ _ _ _⟩ ?_;rintro i s hi ⟨m,n,S⟩ f;have z:s.tm 11=.sl Z C.isEmpty C.length (C.flatMap jac):=by rw[f.t 11 zS];simp
 have q:s.tm 12=.int .i64 C.length:=by rw[f.t 12 zS];simp
 have U:s.df=[]:=by rw[f.d];simp
 clear f;by_cases j:i<C.length;have I:=jc j zO;have N:=jpx C j;have p:J0 1 (.sl Z C.isEmpty C.length (C.flatMap jac)) (.int .i64 (i:Int))=some (.eptr (C.flatMap jac) (i*1)):=by simp only[Jo,j3 Wn];rw[zb zP];rfl
 rw[bE]at p;have k:C.take (i+1)=C.take i++[C[i]]:=by rw[aw j]
 obtain⟨c,hc⟩:∃c,C[i]=c:=⟨_,rfl⟩;have F:c∈C:=hc▸av j;rw[hc]at N k;obtain⟨b,l⟩:=c;cases l with
 |nil=>
  simp[m,z,q,j,p,N];refine e (x:=3) (by simp[U]) zS zS ?_;have:XC C=false:=by rw[fe];intro h;have:=ap.1 h _ F;simp at this
  simp[Wx,y,J,this]
 |cons x l=>
  have L:((l.length:Int)+1==0)=false:=by simp;omega
  have D:J0 1 (.sl none b (l.length+1) (ye x++l.flatMap ye)) (.int .i64 0)=some (.eptr (ye x++l.flatMap ye) 0):=by simp only[Jo,au,j3 jA];rw[zb zP];rfl
  have Q:(ye x++l.flatMap ye)[0]? = some (.int .i64 x):=rfl;have b5:(jb9 C i).length=i:=by unfold jb9;rw[bp,ai];omega
  simp[m,z,q,j,p,N,L,D,Q];refine jU (cs:=ye x) (by simp[j2,ye]) rfl rfl ?_;simp;refine XU (f:=ye) (lo:=0) (hi:=s.nx) (l:=jb9 C i) (a:=x) (v:=s.tm 4) (S.mono (λu _ _ h=>by simp[jx,h]) zK) zS (by simp[jE,ye]) jA zQ rfl zO zO (λb6 a0=>?_);have T:jb9 C i++[x]=jb9 C (i+1):=by unfold jb9;rw[k,bw];rfl
  have e2:(jb9 C i).length+1=(jb9 C (i+1)).length:=by rw[<- T];simp
  have e3:jb9 C (i+1)≠[]:=by rw[<- T];simp
  have e4:XC (C.take (i+1))=true:=by rw[k];unfold XC at n ⊢;rw[eE,n];rfl
  rw[T,e2];obtain⟨M,X⟩:∃M,jb9 C (i+1)=M:=⟨_,rfl⟩;rw[X]at e3 ⊢;simp[m,I,e4,X];exact⟨j,.inr ⟨e3,_,rfl,by simp[jx],bY _,zO⟩⟩
 have:i=C.length:=zO;subst this;rw[bf]at n;have eh:jb9 C C.length=C.map hd1:=by unfold jb9;rw[bf]
 rw[eh]at S;obtain⟨t,ht⟩:=S.form;simp[m,q];have hf:Wx g=(0,C.map hd1):=by simp[Wx,y,J,n]
 rw[<- hP,hf];refine jmj (ns:=[2,3]) (vs:=[s.tm 4,.int .i64 0]) (λr h=>h) (by simp[U]) zS zS zS ⟨?_,jT rfl,trivial⟩;rw[ht];exact Xx rfl (XJ _ _ _ _ _)
def sv100 {Yf:YF}{ob:ZO}{tk:Nat->Bool}{ro base ub F w t B lo uo L u n i q:Nat}{D x:Option (Nat×Nat)}{b d:Bool}{J:List Int}{C:Cs'}{cs:List V}
 (ha:ob F=some ⟨w,.cells [.sl D b n (J.flatMap ye)]⟩) (O:ob t=some ⟨B,.cells [.sl x d n (C.flatMap jac)]⟩) (S:ob lo=some ⟨uo,.cells [.osl L u 0 n 1]⟩) (P:ob L=some ⟨u,.cells cs⟩) (o:cs.length=n)
 (T:J.length=n) (U:C.length=n) (hi:i<n) (M:J[i]? = some (q:Int)) (a:q<(C[i]).2.length) (v:(C[i]).2.length<=41) (j:ro<=u) :
 ∃r,EvS E Yf.y 100 [.int .i64 (i:Int),.ptr F w 0,.ptr t B 0,.ptr lo uo 0] ob tk ro base ub r/\r.1=.bool (decide (0<Wf (C[i]).2 q)) /\
  (∀k,r.2.1 k=if k=L then some ⟨u,.cells (j2 cs i [.int .i64 ((C[i]).2.getD (Wf (C[i]).2 q) 0)])⟩ else ob k)/\r.2.2.1=tk/\ub<=r.2.2.2:=by
 refine J7 rfl zQ ?_;show wpC E Yf S100.body _ (Jd S100.res _);have m:=jpx C (show i<C.length by omega);have H:(J.flatMap ye)[i]? = some (.int .i64 (q:Int)):=by have G:=ag.1 M;rw[JL J G.1,G.2]
 have g:J0 1 (.sl D b n (J.flatMap ye)) (.int .i64 (i:Int))=some (.eptr (J.flatMap ye) i):=by simp only[Jo,j3 jA];rw[zb zP];simp
 have c:J0 1 (.sl x d n (C.flatMap jac)) (.int .i64 (i:Int))=some (.eptr (C.flatMap jac) i):=by simp only[Jo,j3 Wn];rw[zb zP];simp
 have s:=j8u (l:=L) (u:=u) (n:=n) (kk:=.i64) (X:=(i:Int)) rfl hi;obtain⟨X,I⟩:∃X,C[i]=X:=⟨_,rfl⟩;obtain⟨nx,X⟩:=X;rw[I]at m a v ⊢;simp only at m a v ⊢;have Q:=jc (i:=q) (N:=41) zO zO;have z:Wf X q<X.length:=gF _ zO;have f:Y0 .rem (.int .i64 ((q:Int)+1)) (.int .i64 (X.length:Int))=some (.int .i64 (Wf X q:Nat)):=by
  have h0:¬(X.length:Int)=0:=zO;have e:((q:Int)+1).tmod (X.length:Int)=(Wf X q:Nat):=by rw[show(q:Int)+1=((q+1:Nat):Int) from by omega,<- Int.ofNat_tmod];rfl
  simp[Y0,XH,e];try (intro e;rw[e]at a;simp at a)
 have h:J0 1 (.sl none nx X.length (X.flatMap ye)) (.int .i64 ((Wf X q:Nat):Int))=some (.eptr (X.flatMap ye) (Wf X q)):=by simp only[Jo,j3 jA];rw[zb zP];simp
 have Z:=JL X z;have K:X.getD (Wf X q) 0=X[Wf X q]:=by simp[z]
 rw[K];generalize Wf X q=kq at *;have p:i+1<=n:=hi;conv in(occs:=*)S100=>all_goals cbv
 simp[j0,ha,O,S,P,g,c,m,H,Q,f,h,Z,s,j,o,p];refine JQ zS ⟨zS,λk=>?_,by simp[jn],by simp;try omega⟩;simp
def ji0 (g:Hist') (M:List Int):Option (List Int):=if (XB g M).isSome then XM (yu g) M else none
def j2r (r:Option (List Int)) (v:V):Prop:=jtg [.sl none (r.getD []).isEmpty (r.getD []).length ((r.getD []).flatMap ye),.bool r.isSome] v
def jtl (C:Cs') (M:List Int) (i:Nat):List Int:=M.take i++(C.drop i).map hd1
def jok {C:Cs'}{M:List Int}{i:Nat}(h:C.length=M.length) (hi:i<=C.length):(jtl C M i).length=C.length:=by unfold jtl;rw[au,ai,bp,aV];omega
def jy6 {C:Cs'}{M:List Int}{i:Nat}(h:C.length=M.length) (hi:i<C.length) (x:Int):j2 ((jtl C M (i+1)).flatMap ye) i [.int .i64 x]=(M.take i++x::(C.drop (i+1)).map hd1).flatMap ye:=by have a:=Qp (f:=ye) (sz:=1) jA x (jtl C M (i+1)) i (by rw[jok h zO];exact hi);rw[bE]at a;rw[show([.int .i64 x]:List V)=ye x from rfl,a];congr 1;unfold jtl;rw[aw (show i<M.length by omega),bm,List.set_append_right _ _ (by rw[ai];omega),ai];rw[show i-min i M.length=0 by omega];rfl
def j63 {c:Bool×List Int}(h:0<c.2.length):c.2.getD 0 0=hd1 c:=by
 unfold hd1;cases a:c.2 with
 |nil=>rw[a]at h;simp at h
 |cons x l=>rfl
def jut {C:Cs'}{M:List Int}{i q:Nat}(h:C.length=M.length) (hi:i<C.length) (c:yF (C[i]).2 (M[i]' zO) 0=q) (g:q<(C[i]).2.length) (j:XM (C.drop (i+1)) (M.drop (i+1))=none) :
 if 0<Wf (C[i]).2 q then XM C M=some (M.take i++(C[i]).2.getD (Wf (C[i]).2 q) 0::(C.drop (i+1)).map hd1)
 else (C[i]).2.getD (Wf (C[i]).2 q) 0=hd1 C[i]/\XM (C.drop i) (M.drop i)=none:=by
 have f:i<M.length:=zO;have e:XM (C.drop i) (M.drop i)=if (q:Int)+1<(C[i]).2.length then some ((C[i]).2.getD ((q:Int)+1).toNat 0::(C.drop (i+1)).map hd1) else none:=by rw[bj hi,bj f];simp only[XM,j,c]
 unfold Wf;by_cases a:q+1<(C[i]).2.length;rw[dT a,zb zO];rw[zb zO]at e;have d:=jhi C M i _ zO h e;rw[d,show((q:Int)+1).toNat=q+1 by omega];have b:q+1=(C[i]).2.length:=zO;rw[b,Nat.mod_self,za zO];rw[za zO]at e;exact⟨j63 zO,e⟩
def sv99z {Yf:YF}(b:Bool) {ob:ZO}{tk:Nat->Bool}{ro base ub:Nat}(f:ro<=ub):∃r,EvS E Yf.y 99 [yj b ye []] ob tk ro base ub r/\(Old ob ub r.2.1/\r.2.2.1=tk/\ub<=r.2.2.2/\r.1.cells=[r.1]/\r.1.leaf=true):=by
 cases b with
 |true=>obtain⟨r,d,a,c,e,g⟩:=sv99n (Yf:=Yf) (ob:=ob) (tk:=tk) (ro:=ro) (base:=base) (ub:=ub);exact⟨r,d,by rw[c];exact λ_ _=>rfl,e,g,by rw[a];rfl,by rw[a];rfl⟩
 |false=>obtain⟨r,d,⟨m,_,_,a,_⟩,c,e,g⟩:=sv99 (Yf:=Yf) [] zS (ob:=ob) (tk:=tk) (base:=base) f;exact⟨r,d,c,e,g,by rw[a];rfl,by rw[a];rfl⟩
def ev57 {g:Hist'}(hs:Small g) {b:Bool}(M:List Int) (hM:M.length<=1000000) (hb:b=true->M=[]):∃v,Ev E 57 [.agg (ya g),yj b ye M] v/\j2r (ji0 g M) v:=by
 obtain⟨vp,c3,p⟩:=ev98 hs (b:=b) M hM;have T:=jn8 hs;have j:∀{U:St},U.df=[]->U.tm 4=.sl none true 0 []->U.tm 5=.bool false->ji0 g M=none->Q5 [.t 4,.t 5] (j2r (ji0 g M)) .ret U:=by intro U hd h4 h5 hp;rw[hp];exact jmj (ns:=[4,5]) (vs:=[.sl none true 0 [],.bool false]) (λr h=>h) hd (by simp[h4,h5]) zS zS ⟨jT rfl,jT rfl,trivial⟩
 refine XI rfl zQ ?_;obtain⟨P,hP⟩:∃P,j2r (ji0 g M)=P:=⟨_,rfl⟩;rw[hP]at j ⊢;cases u:XB g M with
 |none=>
  rw[u]at p;conv in(occs:=*)F57=>all_goals cbv
  simp[ya,j0];refine jQ c3 zH rfl zH ?_;refine jo2 p λt1 t2 add=>?_;simp[j0,j2];exact j zS zS zS (by simp[ji0,u])
 |some J=>
  rw[u]at p;have e:=u;unfold XB at e;split at e;case isFalse=>cases e
  rename_i x;simp only[ab]at e;simp only[aj,zh]at x;obtain⟨hw,F,B⟩:=x;have G:ji0 g M=XM (yu g) M:=by simp[ji0,u]
  obtain⟨C,hC⟩:∃C,yu g=C:=⟨_,rfl⟩;unfold jjr at p;rw[hC]at T F B e G p;have b8:J.length=M.length:=by rw[<- e,jje C M F];exact F
  have H:=jnt C M;rw[e]at H B;conv in(occs:=*)F57=>all_goals cbv
  simp[ya,j0];refine jQ c3 zH rfl zH ?_;refine jo2 p λt1 t2 add=>?_;simp[j0,j2];by_cases S:M=[];subst S;have d2:C=[]:=cG.1 (by simpa using F);subst d2;refine jK (vs:=[yj b ye []]) zS rfl (sv99z b zS) ?_;rintro v Q c6 a ⟨l,N,I,c4,b7⟩;simp only at l N I c4 b7;simp[j0,c4,b7];refine jbc 1 ?_;have wm:IntKind.i64.wrap (-1) = -1:=by decide
  simp[wm];exact j zS zS zS (by rw[G];rfl);have c8:b=false:=by cases b with|false=>rfl|true=>exact zf (hb rfl) S
  subst c8;refine jK (vs:=[yj false ye M]) zS rfl (sv99 M zO zS) ?_;rintro v Q c6 a ⟨⟨m,b6,d3,hv,c2⟩,l,N,I⟩;simp only at d3 hv c2 l N I;subst hv;have oA:Q 1409=some ⟨704,.cells [.sl t2 false J.length (J.flatMap ye)]⟩:=by rw[l 1409 (by intro k hk;omega)];simp
  have oC:Q 1281=some ⟨640,.cells [.sl t1 C.isEmpty C.length (C.flatMap jac)]⟩:=by rw[l 1281 (by intro k hk;omega)];simp
  have d5:0<M.length:=dV.2 S;have wM:IntKind.i64.wrap ((M.length:Int)-1)=(M.length:Int)-1:=ji zO zO;simp[j0,wM];have et:jtl C M M.length=M:=by unfold jtl;rw[bf,bB zO];simp
  have c7:XM (C.drop M.length) (M.drop M.length)=none:=by rw[bB zO];rfl
  have n1:¬1409=2*a+1:=zO;have n2:¬704=a:=zO;have n3:¬1281=2*a+1:=zO;have n4:¬640=a:=zO;have n5:¬2*m+1=2*a+1:=zO;have n6:¬m=a:=zO;have n7:¬2*m=2*a:=zO;refine j7 [(4,5),(11,11),(27,34)] M.length (λk s=>s.tm 11=.int .i64 ((M.length:Int)-1-k)/\s.ob 1409=some ⟨704,.cells [.sl t2 false J.length (J.flatMap ye)]⟩/\s.ob 1281=some ⟨640,.cells [.sl t1 C.isEmpty C.length (C.flatMap jac)]⟩ /\
   s.ob (2*a+1)=some ⟨a,.cells [.osl (2*m+1) m 0 M.length 1]⟩/\s.ob (2*m+1)=some ⟨m,.cells ((jtl C M (M.length-k)).flatMap ye)⟩/\XM (C.drop (M.length-k)) (M.drop (M.length-k))=none) rfl rfl ⟨zS,by simp[oA,n1],by simp[oC,n3],zS,by simp[et,c2,n7],by simpa using c7⟩ ?_
  rintro k s hk ⟨y,pA,pC,pO,pL,hT⟩ f;have d1:s.tm 10=.fn (.func 100) [] [.ptr 1409 704 0,.ptr 1281 640 0,.ptr (2*a+1) a 0]:=by rw[f.t 10 zS];simp
  have f9:s.tm 9=.ptr (2*a+1) a 0:=by rw[f.t 9 zS];simp
  have fd:s.df=[]:=by rw[f.d];simp
  have fr:s.ro=0:=by rw[f.r];simp
  clear f;by_cases d0:k<M.length;obtain⟨i,hi⟩:∃i:Nat,M.length-(k+1)=i:=⟨_,rfl⟩;have d4:M.length-k=i+1:=zO;have X:i<M.length:=zO;have w:i<C.length:=zO;have c9:(M.length:Int)-1-k=(i:Int):=zO;rw[d4]at pL hT;rw[c9]at y;have L:=H i w X;have d8:0<=yF (C[i]).2 M[i] 0:=by simpa using ap.1 B _ (aH L)
  have c5:=jp9 M[i] (C[i]).2 0;obtain⟨q,hq⟩:∃q:Nat,yF (C[i]).2 M[i] 0=q:=⟨(yF (C[i]).2 M[i] 0).toNat,zO⟩;rw[hq]at L c5;have b5:q<(C[i]).2.length:=zO;have b9:=(T _ (av w)).2;have c:=jut F w hq b5 hT;have c1:=jy6 F w (((C[i]).2.getD (Wf (C[i]).2 q) 0));have a0:(0:Int)<=i:=zO;have O:((jtl C M (i+1)).flatMap ye).length=M.length:=by rw[j3 jA,jok F zO,bE,F]
  have wi:IntKind.i64.wrap ((i:Int)-1)=(i:Int)-1:=ji zO zO;simp[y,d1,a0];refine jwu (f:=100) (first:=[]) (captured:=[.ptr 1409 704 0,.ptr 1281 640 0,.ptr (2*a+1) a 0]) (vs:=[.int .i64 (i:Int),.ptr 1409 704 0,.ptr 1281 640 0,.ptr (2*a+1) a 0]) zS zS rfl
   (sv100 (i:=i) (q:=q) (J:=J) (C:=C) (n:=M.length) (cs:=(jtl C M (i+1)).flatMap ye) (by simpa[b8] using pA) (by simpa[F] using pC) (by simpa using pO) (by simpa using pL) O b8 F X L b5 b9 (by simp[fr])) ?_
  rintro v K d9 d7 ⟨hv,o,_,b0⟩;simp only at hv o b0;subst hv;have qA:K 1409=some ⟨704,.cells [.sl t2 false J.length (J.flatMap ye)]⟩:=by rw[o,za zO];simpa using pA
  have qC:K 1281=some ⟨640,.cells [.sl t1 C.isEmpty C.length (C.flatMap jac)]⟩:=by rw[o,za zO];simpa using pC
  have qO:K (2*a+1)=some ⟨a,.cells [.osl (2*m+1) m 0 M.length 1]⟩:=by rw[o,za zO];simpa using pO
  have qL:=o (2*m+1);rw[zb rfl,c1]at qL;clear o;by_cases hr:0<Wf (C[i]).2 q;rw[zb hr]at c;simp[hr,f9,j0,qO];rw[<- hP,G,c];generalize (C[i]).2.getD (Wf (C[i]).2 q) 0=z at *;have D:(M.take i++z::(C.drop (i+1)).map hd1).length=M.length:=by rw[au,ai,bg,bp,aV];omega
  have c0:(M.take i++z::(C.drop (i+1)).map hd1).isEmpty=false:=zS;generalize M.take i++z::(C.drop (i+1)).map hd1=Z at *;unfold j2r;simp only[cm,c0,D];refine jmj (ns:=[4,5]) (vs:=[.osl (2*m+1) m 0 M.length 1,.bool true]) (λr h=>h) (by simp[fd]) zS zS zS ⟨?_,jT rfl,trivial⟩;exact Xx rfl (jeq (by simpa using qL) (by rw[j3 jA,bE,D]) (by simp[fr]) (by simp[ye,V.pureLeaf]));rw[za hr]at c;have d6:Wf (C[i]).2 q=0:=zO;have ei:jtl C M i=M.take i++(C[i]).2.getD (Wf (C[i]).2 q) 0::(C.drop (i+1)).map hd1:=by unfold jtl;rw[bj w,bi,c.1]
  rw[<- ei]at qL;simp[hr,y,wi];rw[hi];exact⟨d0,zO,qA,qC,qO,qL,c.2⟩;have:k=M.length:=zO;subst this;have b6:(M.length:Int)-1-M.length = -1:=zO;rw[b6]at y;simp[y];refine j (by simp[fd]) zS zS ?_;rw[G];simpa using hT
def jxg (k:Int):∀(l:List Int) (n q:Nat),yF l k n=(n+q:Nat)->l[q]? = some k/\∀j,j<q->∀x,l[j]? = some x->¬x=k
 |[],n,q,h=>by simp only[yF]at h;omega
 |x::r,n,q,h=>by
  rw[yF]at h;split at h;rename_i a;have:q=0:=zO;subst this;simp only[zh]at a;exact⟨by simp[a],λj d=>by omega⟩;rename_i a;simp only[zh]at a;cases q with
  |zero=>have:=idxI_ge_n k r (n+1);omega
  |succ q=>
   have c:=jxg k r (n+1) q zO;refine⟨by simpa using c.1,λj d y b=>?_⟩;cases j with
   |zero=>simp only[aD,ab]at b;subst b;exact λe=>a e.symm
   |succ j=>exact c.2 j zO y (by simpa using b)
where
 idxI_ge_n (k:Int):∀(l:List Int) (n:Nat),yF l k n = -1\/(n:Int)<=yF l k n
  |[],n=>.inl rfl
  |x::r,n=>by
   rw[yF]
   split
   ·exact .inr (dR _)
   ·rcases idxI_ge_n k r (n+1) with h|h
    ·exact .inl h
    ·exact .inr zO
section
end
def lstF (l:List Int):List V:=jac (false,l)
@[simp] theorem lstF_len (l:List Int):(lstF l).length=1:=rfl
section
end
def yK (g:Hist') (lvl left:Int):List V:=[.int .i64 lvl,yj g.sn Jj g.ss,yj g.kn Jj g.ks,yj g.tn jt g.ts,.int .i64 left]
section
variable {g:Hist'}{lvl left:Int}{k u ub:Nat}{ob:ZO}
def evo97 (h:Small g) {b a:Nat}(f:ob b=some ⟨a,.cells [.ptr k u 0]⟩) (d:ob k=some ⟨u,.cells (yK g lvl left)⟩) (x:Int) (tk:Nat->Bool) (base:Nat):EvO E 97 [.int .i64 x,.ptr b a 0] ob tk base ub (.bool (!(j3w g x).isEmpty)):=by
 obtain⟨v,c,e⟩:=ev71 h x;refine jo rfl ?_;conv in(occs:=*)S97=>all_goals cbv
 simp[j0,f,d,yK];refine jQ c zI rfl zH ?_;refine YE e λt add=>?_;simp;refine j4 zS ?_ rfl;cases j3w g x<;>simp
def evo56 (a:Small g) (e:jW g=true) (c:ob k=some ⟨u,.cells (yK g lvl left)⟩) (f:Off ub k) (tk:Nat->Bool) (base:Nat):EvO E 56 [.ptr k u 0] ob tk base ub (.bool (jib g)):=by
 obtain⟨v,j,d⟩:=ev70 a;rw[jfy e]at d;have m:=Wt g;have l:=a.ts;have b:=f.ne;refine jo rfl ?_;conv in(occs:=*)S56=>all_goals cbv
 simp(disch:=try exact zD)[S56,j0,c,yK,b,V.cells,V.leaf];refine jQ j zI rfl zH ?_;refine YE d λt add=>?_;simp;refine jP (vs:=[.sl t (yl g).isEmpty (yl g).length ((yl g).flatMap ye),.fn (.func 97) [] [.ptr (2*ub+1) ub 0]]) zS rfl (by rw[bW,dt];exact .inr rfl) (evo96 (p:=λt=>!(j3w g t).isEmpty) rfl zO (λx n tk base i h=>?_) _ _) ?_;exact evo97 a (k:=k) (u:=u) (lvl:=lvl) (left:=left) zS (by simp(disch:=try exact zD)[c,b,yK]) x tk base;simp;refine j4 zS ?_ rfl;simp[jib]
end
def DecW (c:List Int×List Int) (is:Bool) (n:Int) (w:V) (v:V):Prop:=∃(t1 t2:Option (Nat×Nat)) (n1 n2:Bool),v=.tup [.agg [.sl t1 n1 c.1.length (c.1.flatMap ye),.sl t2 n2 c.2.length (c.2.flatMap ye)],.bool is,.int .i64 n,w]/\∀p∈t1.toList++t2.toList,p.1<64
def DecR (r:(List Int×List Int)×Bool×Int×Int) (v:V):Prop:=DecW r.1 r.2.1 r.2.2.1 (.int .i64 r.2.2.2) v
def Flat1 (w:V):Prop:=(∃e,w=.int .i64 e)\/∃b,w=.bool b
def Flat1.int (e:Int):Flat1 (.int .i64 e):=.inl ⟨e,rfl⟩
def Flat1.bool (b:Bool):Flat1 (.bool b):=.inr ⟨b,rfl⟩
def j9d (x y:V) (b:Bool) (n:Int) {w:V}(a:Flat1 w):List.flatMap V.toks [.agg [x,y],.bool b,.int .i64 n,w]=x.tok++y.tok:=by
 have:w.toks=[]:=by rcases a with⟨e,rfl⟩|⟨e,rfl⟩<;>rfl
 simp[V.toks,show ∀e,(V.int .i64 e).tok=[] from λ_=>rfl,show(V.bool b).tok=[] from rfl];exact this
def j49 {ub:Nat}{v:V}{c:List Int×List Int}{is:Bool}{n:Int}{w:V}{K:Delta->Prop}(s:Flat1 w) (L:DecW c is n w v)
 (h:∀l f a d add,K { v:=.tup [.agg [.sl l a c.1.length (c.1.flatMap ye),.sl f d c.2.length (c.2.flatMap ye)],.bool is,.int .i64 n,w],add:=add }):wpD (Xd ub v) K:=by
 obtain⟨l,f,a,d,rfl,D⟩:=L;obtain⟨x,q⟩:∃x,x=V.sl l a c.1.length (c.1.flatMap ye):=⟨_,rfl⟩;obtain⟨y,o⟩:∃y,y=V.sl f d c.2.length (c.2.flatMap ye):=⟨_,rfl⟩;have m:(yv (.tup [.agg [x,y],.bool is,.int .i64 n,w])).all (λi=>Nat.blt i 64)=true:=by
  show(List.flatMap V.toks [.agg [x,y],.bool is,.int .i64 n,w]).all _=true;rw[j9d _ _ _ _ s,ap];intro i z;have:∃p∈l.toList++f.toList,p.1=i:=by rw[aP,q,o,j9e,j9e]at z;rcases z with⟨p,j,h⟩|⟨p,j,h⟩;exact⟨p,by simp[j],h⟩;exact⟨p,by simp[j],h⟩
  obtain⟨p,j,rfl⟩:=this;simpa[cZ] using D p j
 rw[<- q,<- o,Xd,zb m,jJ];have e:∀(t:Option (Nat×Nat)) r n cs,∃B,Xh ub (.sl t r n cs)=.sl B r n cs:=λt r n cs=>by
  cases t with
  |none=>exact⟨none,rfl⟩
  |some p=>exact⟨_,rfl⟩
 obtain⟨a1,J⟩:=e l a c.1.length (c.1.flatMap ye);obtain⟨a2,H⟩:=e f d c.2.length (c.2.flatMap ye);have:=h a1 a2 a d ((yv (.tup [.agg [x,y],.bool is,.int .i64 n,w])).map (ub + ·));have F:∀b,Q8 ub (.bool b)=.bool b:=λ_=>rfl;have M:∀e,Q8 ub (.int .i64 e)=.int .i64 e:=λ_=>rfl;have I:Q8 ub w=w:=by rcases s with⟨e,rfl⟩|⟨e,rfl⟩<;>rfl
 have G:jad ub (.tup [.agg [x,y],.bool is,.int .i64 n,w])=.tup [.agg [.sl a1 a c.1.length (c.1.flatMap ye),.sl a2 d c.2.length (c.2.flatMap ye)],.bool is,.int .i64 n,w]:=by simp only[jad,bi,ci,F,M,I];simp only[Q8,bi,ci,q,o,J,H]
 rw[G];exact this
def jo3 {ub:Nat}{v:V}{r:(List Int×List Int)×Bool×Int×Int}{K:Delta->Prop}(c:DecR r v)
 (h:∀b a d e add,K { v:=.tup [.agg [.sl b d r.1.1.length (r.1.1.flatMap ye),.sl a e r.1.2.length (r.1.2.flatMap ye)],.bool r.2.1,.int .i64 r.2.2.1,.int .i64 r.2.2.2],add:=add }):wpD (Xd ub v) K:=j49 (.int _) c h
def jxv {P:V->Prop}{st:St}{p a b d l u:Nat}{x y:V}{c:List Int×List Int}{is:Bool}{n:Int}{w:V}{n1 o:Bool}(G:Flat1 w) (Q:∀v,DecW c is n w v->P v) (F:st.df=[]) (hp:st.tm p=.ptr l u 0) (L:st.ob l=some ⟨u,.cells [x,y]⟩) (S:st.tm a=.bool is) (H:st.tm b=.int .i64 n) (T:st.tm d=w)
 (O:jci st x n1 c.1.length (c.1.flatMap ye)) (N:jci st y o c.2.length (c.2.flatMap ye)):Q5 [.cell p (some 2),.t a,.t b,.t d] P .ret st:=by
 have J:j0 st.ob l u=some [x,y]:=by simp[j0,L]
 have m:[ARes.cell p (some 2),ARes.t a,ARes.t b,ARes.t d].mapM (jy st)=some [.agg [x,y],.bool is,.int .i64 n,w]:=by simp[jy,hp,J,S,H,T]
 obtain⟨s,z,j⟩:=O (yG (List.flatMap V.toks [.agg [x,y],.bool is,.int .i64 n,w])) 0;obtain⟨r,D,h⟩:=N (yG (List.flatMap V.toks [.agg [x,y],.bool is,.int .i64 n,w])) 1;refine⟨.tup [.agg [.sl s n1 c.1.length (c.1.flatMap ye),.sl r o c.2.length (c.2.flatMap ye)],.bool is,.int .i64 n,w],?_,Q _ ⟨s,r,n1,o,rfl,?_⟩⟩;simp only[jcj,W4 F,W0 F,zd,m,am,WE];generalize yG (List.flatMap V.toks [.agg [x,y],.bool is,.int .i64 n,w])=keep at *;have I:∀i,X7 st keep i (.bool is)=some (.bool is):=λ_=>rfl;have U:∀i e,X7 st keep i (.int .i64 e)=some (.int .i64 e):=λ_ _=>rfl;have M:∀i,X7 st keep i w=some w:=λi=>by rcases G with⟨e,rfl⟩|⟨e,rfl⟩<;>rfl
 have K:X7 st keep 0 (.agg [x,y])=some (.agg [.sl s n1 c.1.length (c.1.flatMap ye),.sl r o c.2.length (c.2.flatMap ye)]):=by simp only[X7,XY,z,D,bN,am,aO]
 simp only[JR,I,U,K,M,am,aO];have B:yG (List.flatMap V.toks [.agg [.sl s n1 c.1.length (c.1.flatMap ye),.sl r o c.2.length (c.2.flatMap ye)],.bool is,.int .i64 n,w])=true:=by rw[j9d _ _ _ _ G,jcn,jcn];rcases j with rfl|⟨_,rfl⟩<;>rcases h with rfl|⟨_,rfl⟩<;>rfl
 rw[zb B];intro q f;rw[aP]at f;rcases f with f|f;rcases j with rfl|⟨_,rfl⟩;simp at f;simp at f;subst f;simp;rcases h with rfl|⟨_,rfl⟩;simp at f;simp at f;subst f;simp
end Go.Pv.T
namespace Go.Pv.T
open Go Go.Pv
end Go.Pv.T
namespace Go.Pv.T
open Go Go.Pv
end Go.Pv.T
namespace Go.Pv.T
open Go Go.Pv
end Go.Pv.T
namespace Go.Pv.T
open Go Go.Pv
end Go.Pv.T
namespace Go.Pv.T
open Go Go.Pv
section
end
def OneV (x:List Int×Int×Int) (v:V):Prop:=∃t n,v=.tup [.sl t n x.1.length (x.1.flatMap ye),.int .i64 x.2.2]
section
variable {g:Hist'}{lvl left:Int}{M:List Int}{k u ub:Nat}{ob:ZO}
def jju {x:Int}(a:-9223372036854775808<=x) (b:x<9223372036854775808):IntKind.i64.wrap x=x:=ji zO zO
def sv58 {Yf:YF}{tk:Nat->Bool}{ro base:Nat}(D:Small g) (w:g.ts.length<=8) (P:(yh g).length<=100) (K:jW g=true) (F:WR g M=true) (h:ob k=some ⟨u,.cells (yK g lvl left)⟩) (l:ro<=u) (G:0<=left) (O:left<9223372036854775808) {I:Option (Nat×Nat)}{mn:Bool} :
 ∃r,EvS E Yf.y 58 [.ptr k u 0,.sl I mn M.length (M.flatMap ye)] ob tk ro base ub r/\OneV (QB g lvl M left) r.1/\r.2.1=upd ob k (some ⟨u,.cells (yK g lvl (left-(QB g lvl M left).2.1))⟩)/\ub<=r.2.2.2:=by
 have L:=Xm F;obtain⟨a1,a2,_⟩:=jd4 (lvl:=lvl) K F G (dR left);obtain⟨v,i,a⟩:=ev101 D w (mn:=mn) (M:=M) zO left;obtain⟨B,j,b⟩:=ev102 D w (mn:=mn) (M:=M) lvl zO;refine J7 rfl zQ ?_;show wpC E Yf S58.body _ (Jd S58.res _);by_cases d:lvl=3
 ·have c:QB g lvl M left=jam g M left:=by simp[QB,d]
  rw[c]at a1 a2 ⊢;have f:IntKind.i64.wrap (left-(jam g M left).2.1)=left-(jam g M left).2.1:=jju zO zO;conv in(occs:=*)S58=>all_goals cbv
  simp(disch:=try exact zD)[S58,j0,h,yK,d];obtain⟨s,q,a⟩:=a;refine jQ i zH rfl zH ?_;refine jo1 a rfl λws add o=>?_;obtain⟨x,y,z,rfl,H,N,J⟩:=map3 o;obtain⟨p,rfl⟩:=QH H;obtain rfl:=jco N;obtain rfl:=jco J;simp(disch:=try exact zD)[j0,h,yK,d,j2,V.cells,V.leaf,f];refine⟨l,jca zS ⟨⟨p,s,zS⟩,by funext key;simp[yf],by simp;omega⟩⟩
 ·have c:QB g lvl M left=if left=0 then ([],0,13) else ((jtm g lvl M).1,1,(jtm g lvl M).2):=by simp[QB,d]
  rw[c]at a1 a2 ⊢;have m:(lvl==3)=false:=by simpa using d
  by_cases n:left=0
  ·conv in(occs:=*)S58=>all_goals cbv
   simp(disch:=try exact zD)[S58,j0,h,yK,d,m,n];exact jca zS ⟨⟨none,true,zS⟩,by funext key;simp[yf];intro e;rw[e,h,yK,n],by simp;omega⟩
  ·have t:(left==0)=false:=by simpa using n
   have f:IntKind.i64.wrap (left-1)=left-1:=jju zO zO;obtain⟨s,q,b⟩:=b;conv in(occs:=*)S58=>all_goals cbv
   simp(disch:=try exact zD)[S58,j0,h,yK,d,m,n,t,j2,V.cells,V.leaf,f];refine⟨l,?_⟩;refine jQ j zH rfl zH ?_;refine juv b λp add=>?_;simp(disch:=try exact zD);exact jca zS ⟨⟨p,s,zS⟩,by funext key;simp[yf],by simp;omega⟩
end
def jbb {st:St}{p a b l u:Nat}{x y:V}{P:V×(ZO)×(Nat->Bool)×Nat->Prop}(c:st.df=[]) (hp:st.tm p=.ptr l u 0) (d:st.ob l=some ⟨u,.cells [x,y]⟩) (h:P (.tup [.agg [x,y],st.tm a,st.tm b],st.ob,st.tk,st.nx)):Jd [.cell p (some 2),.t a,.t b] P .ret st:=by
 have e:j0 st.ob l u=some [x,y]:=by simp[j0,d]
 exact⟨_,by simp[endS,c,jy,hp,e],h⟩
def js5 (g:Hist'):∀c∈yu g,c.2.Nodup:=by intro c a;unfold yu at a;obtain⟨p,_,rfl⟩:=aI.1 a;exact jvy g p.1 p.2
def j5u {g:Hist'}(i:Small g) (e:jW g=true) (c:XC (yu g)=true) {a r:List (List Int)}{M:List Int}(h:yE (yu g)=a++M::r):ji0 g M=r.head?:=by
 have d:=jbr i e M (by rw[h];simp);rw[<- j1o]at d;have b:=jgs c (js5 g);have j:a.length<(yE (yu g)).length:=by rw[h];simp
 have:=jot b j;rw[ji0,zb d];have f:(yE (yu g))[a.length]=M:=by simp[h]
 rw[f]at this;rw[this,h,bn zO];cases r<;>simp
def MapsAt (g:Hist') (lvl left0:Int) (n:Nat) (s7:V) (s5:V) (left:Int):Prop :=
 (s7=.bool true/\∃M r t nl pre,n=r.length+1/\yE (yu g)=pre++M::r/\s5=.sl t nl M.length (M.flatMap ye)/\(nl=true->M=[])/\Xl g lvl (yE (yu g)) left0=Xl g lvl (M::r) left) \/
 (s7=.bool false/\Xl g lvl (yE (yu g)) left0=(([],[]),false,left,0))
def AllV (x:(List Int×List Int)×Bool×Int×Int) (v:V):Prop:=∃t1 t2 n1 n2,v=.tup [.agg [.sl t1 n1 x.1.1.length (x.1.1.flatMap ye),.sl t2 n2 x.1.2.length (x.1.2.flatMap ye)],.bool x.2.1,.int .i64 x.2.2.2]
section
variable {g:Hist'}{lvl left:Int}{k u ub:Nat}{ob:ZO}
def sv31 {Yf:YF}{tk:Nat->Bool}{ro base:Nat}(hs:Small g) (h8:g.ts.length<=8) (hR:(yh g).length<=100) (hw:jW g=true) (K:ob k=some ⟨u,.cells (yK g lvl left)⟩) (c3:Off ub k) (b6:ro<=u) (G:ro<=ub) (h0:0<=left) (hl:left<9223372036854775808) :
 ∃r,EvS E Yf.y 31 [.ptr k u 0] ob tk ro base ub r/\AllV (Wy g lvl left) r.1/\r.2.1 k=some ⟨u,.cells (yK g lvl (Wy g lvl left).2.2.1)⟩/\(∀a,Off ub a->a≠k->r.2.1 a=ob a)/\ub<=r.2.2.2:=by
 obtain⟨d6,c6,T⟩:=ev41 hs;have hF:Wx g=if XC (yu g) then (0,(yu g).map hd1) else (3,[]):=by unfold Wx;rw[zb hw]
 have c5:=λ(tk:Nat->Bool) (base c0:Nat) (hu:ub<=c0) (c7:ZO) (h:c7 k=some ⟨u,.cells (yK g lvl left)⟩)=>evo56 (ub:=c0) hs hw h (c3.up hu) tk base;refine J7 rfl zQ ?_;show wpC E Yf S31.body _ (Jd S31.res _);have w:=c3.ne;have i:∀m,ub<=m->¬2*m+1=k:=λm h e=>w m h e.symm;unfold jqx at T;generalize hP:(λr:V×(ZO)×(Nat->Bool)×Nat=>AllV (Wy g lvl left) r.1/\r.2.1 k=some ⟨u,.cells (yK g lvl (Wy g lvl left).2.2.1)⟩/\(∀a,Off ub a->a≠k->r.2.1 a=ob a)/\ub<=r.2.2.2)=P;have v:∀r,P r ↔ (AllV (Wy g lvl left) r.1/\r.2.1 k=some ⟨u,.cells (yK g lvl (Wy g lvl left).2.2.1)⟩/\(∀a,Off ub a->a≠k->r.2.1 a=ob a)/\ub<=r.2.2.2):=λr=>by rw[<- hP]
 clear hP;conv in(occs:=*)S31=>all_goals cbv
 simp(disch:=try exact zD)[S31,j0,K,yK,w];refine jQ c6 zH rfl zH ?_;refine juv T λt1 d2=>?_;by_cases z:XC (yu g)=false;have L:Wy g lvl left=if left=0 then (([],[]),false,left,13) else (([],[]),false,left-1,0):=by unfold Wy;rw[zb (.inr z)]
 have Z:Wx g=(3,[]):=by rw[hF,z];rfl
 rw[Z];by_cases F:left=0;simp(disch:=try exact zD)[j0,K,yK,w,i,F];refine⟨G,jbb (l:=2*ub+1) (u:=ub) (x:=V.sl none true 0 []) (y:=V.sl none true 0 []) zS zS (by simp(disch:=try exact zD)[w,i]) ((v _).2 ⟨⟨none,none,true,true,by rw[L,zb F];simp⟩,by rw[L,zb F];simp(disch:=try exact zD)[K,w,i,yK],λa q j=>by have:=q.ne;simp(disch:=try exact zD)[this,j],by simp;omega⟩)⟩;have a0:(left==0)=false:=by simpa using F
 have b0:IntKind.i64.wrap (left-1)=left-1:=jju zO zO;simp(disch:=try exact zD)[j0,K,yK,w,i,F,a0,j2,V.cells,V.leaf,b0];refine⟨b6,G,jbb (l:=2*ub+1) (u:=ub) (x:=V.sl none true 0 []) (y:=V.sl none true 0 []) zS zS (by simp(disch:=try exact zD)[w,i]) ((v _).2 ⟨⟨none,none,true,true,by rw[L,za F];simp⟩,by rw[L,za F];simp(disch:=try exact zD)[K,w,i,yK],λa q j=>by have:=q.ne;simp(disch:=try exact zD)[this,j],by simp;omega⟩)⟩;have z:XC (yu g)=true:=by simpa using z
 have Z:Wx g=(0,(yu g).map hd1):=by rw[hF,z];rfl
 rw[Z];simp(disch:=try exact zD)[j0,K,yK,w,i];refine jP (vs:=[.ptr k u 0]) zS rfl rfl (c5 _ _ _ zO _ (by simp(disch:=try exact zD)[K,w,i,yK])) ?_;by_cases hb:jib g=true;have L:Wy g lvl left=if left=0 then (([],[]),false,left,13) else (([],[]),false,left-1,0):=by unfold Wy;rw[zb (.inl hb)]
 rw[hb];by_cases F:left=0;simp(disch:=try exact zD)[j0,K,yK,w,i,F];refine⟨G,jbb (l:=2*ub+1) (u:=ub) (x:=V.sl none true 0 []) (y:=V.sl none true 0 []) zS zS (by simp(disch:=try exact zD)[w,i]) ((v _).2 ⟨⟨none,none,true,true,by rw[L,zb F];simp⟩,by rw[L,zb F];simp(disch:=try exact zD)[K,w,i,yK],λa q j=>by have:=q.ne;simp(disch:=try exact zD)[this,j],by simp;omega⟩)⟩;have a0:(left==0)=false:=by simpa using F
 have b0:IntKind.i64.wrap (left-1)=left-1:=jju zO zO;simp(disch:=try exact zD)[j0,K,yK,w,i,F,a0,j2,V.cells,V.leaf,b0];refine⟨b6,G,jbb (l:=2*ub+1) (u:=ub) (x:=V.sl none true 0 []) (y:=V.sl none true 0 []) zS zS (by simp(disch:=try exact zD)[w,i]) ((v _).2 ⟨⟨none,none,true,true,by rw[L,za F];simp⟩,by rw[L,za F];simp(disch:=try exact zD)[K,w,i,yK],λa q j=>by have:=q.ne;simp(disch:=try exact zD)[this,j],by simp;omega⟩)⟩;have hb:jib g=false:=by simpa using hb
 have L:Wy g lvl left=Xl g lvl (yE (yu g)) left:=by unfold Wy;rw[za (by rw[hb,z];simp)]
 rw[hb];simp(disch:=try exact zD)[j0,K,yK,w,i];refine jf λS p=>?_;have g0:S.tm 0=.ptr k u 0:=by rw[p];simp
 have g2:S.tm 2=.ptr (2*ub+1) ub 0:=by rw[p];simp
 have g5:S.tm 5=.sl t1 ((yu g).map hd1).isEmpty ((yu g).map hd1).length (((yu g).map hd1).flatMap ye):=by rw[p];simp
 have g7:S.tm 7=.bool true:=by rw[p];simp
 have gd:S.df=[]:=by rw[p];simp
 have gr:S.ro=ro:=by rw[p];simp
 have gn:ub+64<=S.nx:=by rw[p];first|omega|(simp;done)|(simp;omega)
 have gk:S.ob k=some ⟨u,.cells (yK g lvl left)⟩:=by rw[p];simp(disch:=try exact zD)[K,w,i,yK]
 have gc:S.ob (2*ub+1)=some ⟨ub,.cells [.sl none true 0 [],.sl none true 0 []]⟩:=by rw[p];simp(disch:=try exact zD)[w,i]
 have go:∀a,Off ub a->a≠k->S.ob a=ob a:=λa q j=>by rw[p];have:=q.ne;simp(disch:=try exact zD)[this,j]
 clear p;obtain⟨r0,b5⟩:=jct z;obtain⟨J,hJ⟩:∃J:Nat->St->Prop,J=λn s=>∃c,s.ob k=some ⟨u,.cells (yK g lvl c)⟩/\s.ob (2*ub+1)=some ⟨ub,.cells [.sl none true 0 [],.sl none true 0 []]⟩/\ub+64<=s.nx/\(∀a,Off ub a->a≠k->s.ob a=ob a)/\0<=c/\c<=left/\MapsAt g lvl left n (s.tm 7) (s.tm 5) c:=⟨_,rfl⟩;refine YQ (n:=r0.length+1) [(3,5),(7,9),(38,64)] J rfl rfl ?_ ?_;rw[hJ];exact⟨left,gk,gc,gn,go,h0,dR _,.inl ⟨g7,(yu g).map hd1,r0,t1,_,[],rfl,b5,g5,λh=>fB.1 h,by rw[<- b5]⟩⟩;clear g5 g7 gk gc gn;intro n s b8 f;rw[hJ]at b8;obtain⟨c,sk,sc,sn,so,b7,d3,sM⟩:=b8;have s0:=(f.t 0 zS).trans g0;have s2:=(f.t 2 zS).trans g2;have sd:=f.d.trans gd;have sr:=f.r.trans gr;clear f;have I:¬k=2*ub+1:=w ub zK;have H:¬2*ub+1=k:=i ub zK;rcases sM with⟨s7,M,r,t,nl,c9,hn,Q,s5,d0,O⟩|⟨s7,O⟩
 have U:=jbr hs hw M (by rw[Q];simp);have d8:=Xm U;have d1:=j5u hs hw z Q;obtain⟨d5,c4,N⟩:=ev57 hs (b:=nl) M zO d0;rw[d1]at N;rw[Xl]at O;obtain⟨b1,b2,_⟩:=jd4 (lvl:=lvl) hw U b7 (dR c);simp(disch:=try exact zD)[s0,s5,s7];refine jK (vs:=[.ptr k u 0,.sl t nl M.length (M.flatMap ye)]) zS rfl (sv58 (left:=c) hs h8 hR hw U (by simpa using sk) (by first|omega|(simp[sr];omega)) b7 zO) ?_;rintro v1 d7 d4 c8 ⟨⟨t3,n3,r1⟩,r2,r3⟩;simp only at r1 r2 r3;subst r1 r2;have q1:s.nx<=c8:=by first|omega|(simp at r3;omega)
 generalize QB g lvl M c=X at *;obtain⟨o,x,e⟩:=X;simp only at O b1 b2;by_cases D:e=0;rw[zb D]at O;rw[L,O]at v;simp(disch:=try exact zD)[j0,D,s2,s5,sc,H,I,j2,V.cells,V.leaf,yK,yf];exact⟨by rw[sr];exact G,jbb (l:=2*ub+1) (u:=ub) (x:=.sl t nl M.length (M.flatMap ye)) (y:=.sl t3 n3 o.length (o.flatMap ye)) (by simpa using sd) (by simp[s2]) (by simp(disch:=try exact zD)[H,I,yf]) ((v _).2 ⟨⟨t,t3,nl,n3,zS⟩,by simp(disch:=try exact zD)[H,I,yf,yK],λa q j=>by have:=q.ne;simp(disch:=try exact zD)[this,j,yf,so a q j],by simp;omega⟩)⟩;have b9:(e==0)=false:=by simpa using D
 by_cases B:e=13;rw[za D,zb B]at O;rw[L,O]at v;simp(disch:=try exact zD)[j0,D,b9,B,s2,s5,sc,H,I,j2,V.cells,V.leaf,yK,yf];exact⟨by rw[sr];exact G,jbb (l:=2*ub+1) (u:=ub) (x:=.sl none true 0 []) (y:=.sl none true 0 []) (by simpa using sd) (by simp[s2]) (by simp(disch:=try exact zD)[H,I,yf]) ((v _).2 ⟨⟨none,none,true,true,zS⟩,by simp(disch:=try exact zD)[H,I,yf,yK],λa q j=>by have:=q.ne;simp(disch:=try exact zD)[this,j,yf,so a q j],by simp;omega⟩)⟩;have c2:(e==13)=false:=by simpa using B
 rw[za D,za B]at O;simp(disch:=try exact zD)[j0,D,b9,B,c2,s0,s2,s5,sc,H,I,j2,V.cells,V.leaf,yK,yf];refine jQ c4 zH rfl zH ?_;cases r with
 |nil=>refine j96 (a1:=true) (n1:=0) (c1:=[]) N λt4 add=>?_;simp(disch:=try exact zD);refine⟨0,zO,?_⟩;rw[hJ];exact⟨c-x,by simp(disch:=try exact zD)[H,I,yf,yK],by simp(disch:=try exact zD)[H,I,yf,sc],by simp;omega,λa q j=>by simp[j,yf,so a q j],zO,zO,.inr ⟨zS,by rw[O];rfl⟩⟩
 |cons M' r=>refine j96 (a1:=M'.isEmpty) (n1:=M'.length) (c1:=M'.flatMap ye) N λt4 add=>?_;simp(disch:=try exact zD);refine⟨r.length+1,by rw[hn];simp,?_⟩;rw[hJ];exact⟨c-x,by simp(disch:=try exact zD)[H,I,yf,yK],by simp(disch:=try exact zD)[H,I,yf,sc],by simp;omega,λa q j=>by simp[j,yf,so a q j],zO,zO,.inl ⟨zS,M',r,t4,M'.isEmpty,c9++[M],rfl,by rw[Q];simp,zS,λh=>fB.1 h,O⟩⟩
 rw[L,O]at v;simp(disch:=try exact zD)[s7,j0,s2,sc,H,I,j2,V.cells,V.leaf];exact⟨by rw[sr];exact G,jbb (l:=2*ub+1) (u:=ub) (x:=.sl none true 0 []) (y:=.sl none true 0 []) (by simpa using sd) (by simp[s2]) (by simp(disch:=try exact zD)[H,I,yf]) ((v _).2 ⟨⟨none,none,true,true,zS⟩,by simp(disch:=try exact zD)[H,I,yf,sk],λa q j=>by have:=q.ne;simp(disch:=try exact zD)[this,j,yf,so a q j],by simp;omega⟩)⟩
end
section
end
structure WC where
 g:Hist'
 M:List Int
 mn:Bool
 most:Int
 kW:Nat
 uW:Nat
 lo:Nat
def WC.Keep (c:WC) (ob ob':ZO) (ub:Nat):Prop:=∀key u cs,Off ub key->key≠c.kW->ob key=some ⟨u,.cells cs⟩->cs.all V.pureLeaf=true->ob' key=ob key
def WC.Keep.trans {c:WC}{ob d b:ZO}{ub f:Nat}(h:c.Keep ob d ub) (l:c.Keep d b f) (m:ub<=f):c.Keep ob b ub:=λa u cs j g k i=>by have e:=h a u cs j g k i;exact(l a u cs (j.up m) g (e.trans k) i).trans e
section
end
section
end
section
end
def j3z {g:Hist'}{lvl most:Int}(c:Small g) (a:jW g=true) (b:0<=most):0<=(Wy g lvl most).2.2.1/\(Wy g lvl most).2.2.1<=most:=by unfold Wy;split;split;simp only;omega;simp only;omega;exact jne a _ _ (jbr c a) b
section
variable {g:Hist'}
def ev12 (z:Small g) (y:g.ts.length<=8) (hR:(yh g).length<=100) (lvl most:Int) (D:most<9223372036854775808):∃v,Ev E 12 [.int .i64 lvl,.agg (ya g),.int .i64 most] v/\DecR (Je g lvl most) v:=by
 have G:=j8x z;generalize L:DecR (Je g lvl most)=P;have p:∀r,DecR (Je g lvl most) r->P r:=λr h=>by rw[<- L];exact h
 clear L;refine XI rfl zQ ?_;have a:∀{f:St}{e:Int},f.df=[]->(f.tm 6=.ptr 129 64 0/\f.ob 129=some ⟨64,.cells [.sl none true 0 [],.sl none true 0 []]⟩)->f.tm 7=.bool false->f.tm 8=.int .i64 0->f.tm 9=.int .i64 e->Je g lvl most=(([],[]),false,0,e)->Q5 [.cell 6 (some 2),.t 7,.t 8,.t 9] P .ret f:=by intro f e M ⟨h6,U⟩ Q y h9 w;exact jxv (c:=([],[])) (.int e) (λv h=>p v (by rw[w];exact h)) M h6 U Q y h9 (XJ _ none true 0 []) (XJ _ none true 0 [])
 conv in(occs:=*)F12=>all_goals cbv
 simp(disch:=try exact zD)[F12,j0,ya];refine jQ G zI rfl zI ?_;cases i:jW g;simp(disch:=try exact zD)[j0,j2];exact a (e:=4) zS ⟨zS,zS⟩ zS zS zS (by simp[Je,i]);by_cases o:lvl<1;simp(disch:=try exact zD)[j0,j2,o];exact a (e:=2) zS ⟨zS,zS⟩ zS zS zS (by simp[Je,i,o]);by_cases x:lvl > 3;simp(disch:=try exact zD)[j0,j2,o,x];exact a (e:=2) zS ⟨zS,zS⟩ zS zS zS (by simp[Je,i,x]);by_cases d:most<0;simp(disch:=try exact zD)[j0,j2,o,x,d];exact a (e:=2) zS ⟨zS,zS⟩ zS zS zS (by simp[Je,i,d]);simp(disch:=try exact zD)[j0,j2,o,x,d];obtain⟨a0,a1⟩:=j3z (lvl:=lvl) z i (show 0<=most by omega);have w:Je g lvl most=((Wy g lvl most).1,(Wy g lvl most).2.1,most-(Wy g lvl most).2.2.1,(Wy g lvl most).2.2.2):=by unfold Je;rw[za (by rw[i];decide),za zO]
 refine jK (vs:=[.ptr 3073 1536 0]) zS rfl (sv31 (lvl:=lvl) (left:=most) z y hR i (by simp;rfl) (λm d=>by omega) (bY _) (bY _) zO D) ?_;rintro v1 b0 O b ⟨⟨Z,N,n1,n2,I⟩,B,H,J⟩;simp only at I B H J;subst I;have K:=H 129 (λm d=>by omega) zQ;simp at J K;have s:IntKind.i64.wrap (most-(Wy g lvl most).2.2.1)=most-(Wy g lvl most).2.2.1:=jju zO zO;generalize Wy g lvl most=X at *;obtain⟨⟨S,T⟩,is,F,e⟩:=X;simp only at w B s;have q:∀m,b<=m->¬2*m+1=129:=λm d h=>by omega
 have n:∀m,b<=m->¬129=2*m+1:=λm d h=>by omega
 have k:∀m,b<=m->¬2*m+1=3073:=λm d h=>by omega
 have j:∀m,b<=m->¬3073=2*m+1:=λm d h=>by omega
 simp(disch:=try exact zD)[j0,B,K,yK,q,n,k,j,j2,V.cells,V.leaf,s];refine⟨by simp(disch:=try exact zD)[Jp,Q7,Qt,ja7,yx,yy,yO,uOf,Delta.wo,Delta.wt];rfl,?_⟩;exact jxv (c:=(S,T)) (.int e) (λv h=>p v (by rw[w];exact h)) (l:=129) (u:=64) zS zS (by simp(disch:=try exact zD)[q,n,k,j]) zS zS zS (XJ _ Z n1 _ _) (XJ _ N n2 _ _)
end
section
end
section
def ev14 {a1 a2 b1 b2:Bool}(c d:List Int) (z:c.length<=1000000000) (u:d.length<=1000000000):Ev E 14 [.agg [yj a1 ye c,yj a2 ye d],.agg [yj b1 ye c,yj b2 ye d]] (.bool true):=by
 refine jV rfl ?_;conv in(occs:=*)F14=>all_goals cbv
 simp[j0];refine j7 [(4,5),(23,40)] c.length (λi s=>s.tm 5=.int .i64 i/\s.ob 4=some ⟨0,.cells [yj a1 ye c,yj a2 ye d]⟩/\s.ob 6=some ⟨64,.cells [yj b1 ye c,yj b2 ye d]⟩) rfl rfl ⟨zS,zS,zS⟩ ?_;rintro i s x ⟨m,h,g⟩ f;have j:s.tm 2=.ptr 4 0 0:=by rw[f.t 2 zS];simp
 have k:s.tm 3=.ptr 6 64 0:=by rw[f.t 3 zS];simp
 have v:s.df=[]:=by rw[f.d];simp
 clear f;by_cases a:i<c.length;have e:=jc a z;have l:=JL c a;simp[m,j,k,h,g,j0,a,j6 jA,l,e];have b:i=c.length:=zO;subst b;simp[m,j,k,h,g,j0];clear m;refine j7 [(4,4),(6,6),(41,58)] d.length (λi s=>s.tm 6=.int .i64 i/\s.ob 4=some ⟨0,.cells [yj a1 ye c,yj a2 ye d]⟩/\s.ob 6=some ⟨64,.cells [yj b1 ye c,yj b2 ye d]⟩) rfl rfl ⟨zS,by simp[h],by simp[g]⟩ ?_;rintro i w x ⟨q,n,o⟩ f;have p:w.tm 2=.ptr 4 0 0:=by rw[f.t 2 zS];simp[j]
 have r:w.tm 3=.ptr 6 64 0:=by rw[f.t 3 zS];simp[k]
 have y:w.df=[]:=by rw[f.d];simp[v]
 clear f;by_cases a:i<d.length;have e:=jc a u;have l:=JL d a;simp[q,p,r,n,o,j0,a,j6 jA,l,e];have b:i=d.length:=zO;subst b;simp[q,p,r,n,o,j0];exact j4 (by simp[y]) zS rfl
def ev10 {g:Hist'}(c:Small g):Ev E 10 [.agg (ya g)] (.bool (!jW g||decide (Qc (yu g) 1<=200))):=by
 have a:=ev28 c;refine jV rfl ?_;conv in(occs:=*)F10=>all_goals cbv
 simp[j0,ya];refine jQ a zI rfl zI ?_;cases d:jW g;simp;exact j4 rfl zS rfl;have b:=ev17 c d;simp[j0];refine jQ b zI rfl zI ?_;simp;exact j4 rfl zS rfl
end
def j9b:List UInt8:=[98,101,103,105,110,32,115,10,114,101,97,100,32,115,32,120,32,49,10,111,107,32,115]
def H11:Hist':=⟨false,[[115]],false,[[120]],false,[⟨0,1,false,[⟨false,0,⟨1,1⟩⟩]⟩]⟩
def k11:(yJ E 100 noY).d 29 [.str j9b]=some (.tup [(.agg [(.sl (some (0,1)) false 1 [(.str [115])]),(.sl (some (1,1)) false 1 [(.str [120])]),(.sl (some (2,3)) false 1 [(.int .i64 0),(.int .i64 1),(.sl none false 1 [(.bool false),(.int .i64 0),(.int .i64 1),(.int .i64 1)])])]),(.int .i64 0),(.int .i64 0)]):=by kernel_rfl
end Go.Pv.T
