/- Part. -/
import Derived.Test.YtmanndcfeicokaaGreatDoorTAW
set_option maxRecDepth 100000
set_option maxHeartbeats 8000000
set_option linter.all false
namespace Go.Pv.T
open Go Go.Pv
def ev17 {g:Hist'}(u:Small g) (q:jX g=true):Ev E 17 [.agg (ya g)] (.int .i64 (Xq (yv g) 1)):=by
 obtain⟨O,m,e⟩:=ev37 u;have o:=js5 u;have c:=j0w q;rw[jjr 1 (jhg q)];refine jQ rfl ?_;obtain⟨C,F⟩:∃C,choR g=C:=⟨_,rfl⟩;rw[F]at e o c ⊢;obtain⟨R,y⟩:∃R,Xq C 1=R:=⟨_,rfl⟩;conv in(occs:=*)F17=>all_goals cbv
 simp[ya,j0,y];refine jL m zI rfl zI ?_;refine XB e λw v=>?_;simp;refine j9 [(4,5),(8,21)] C.length (λi s=>s.tm 5=.int .i64 i/\∃n,s.tm 4=.int .i64 n/\0<=n/\n<=1000000/\Xq (C.drop i) n=R) rfl rfl ⟨zS,1,zS,zO,zO,by simpa using y⟩ ?_;rintro i s N ⟨B,n,z,M,J,h⟩ f;have x:s.tm 3=.sl w false C.length (C.flatMap WS):=by rw[f.t 3 zS];simp
 have D:s.df=[]:=by rw[f.d];simp
 clear f;by_cases a:i<C.length;have l:=jb a zO;have L:=jja C a;have b:ju 1 (.sl w false C.length (C.flatMap WS)) (.int .i64 (i:Int))=some (.eptr (C.flatMap WS) (i*1)):=by simp only[JF,j4 Yn];rw[zb zP];rfl
 rw[bB]at b;have H:=c _ (au a);rw[aR a,Xq]at h;have G:=mul_lt M J H;have j:=cap6_lt G.1;have p:=jk (n:=n*((C[i]).2.length:Int)) zO zO;have I:=min6 (n*((C[i]).2.length:Int));generalize (C[i]).2.length=k at *;simp[B,x,z,a,b,L,p,I,l];first|exact⟨a,j.1,j.2,h⟩|exact⟨j.1,j.2,h⟩
 have:i=C.length:=zO;subst this;rw[dc,Xq]at h;simp[B,x,z];exact j5 (by simp[D]) (by simp[h]) rfl
def ev41 {g:Hist'}(F:Small g):∃v,Ev E 41 [.agg (ya g)] v/\jte (QX g) v:=by
 obtain⟨vc,J,w⟩:=ev73 F;have o:=ev30 F;have O:=js4 F;have G:=jqh F;refine X6 rfl zQ ?_;have e:∀{st:St}{x:Int},st.df=[]->st.tm 2=.sl none true 0 []->st.tm 3=.int .i64 x->QX g=(x,[])->Ws [.t 2,.t 3] (jte (QX g)) .ret st:=by intro st x hd h2 h3 hp;rw[hp];exact jor (ns:=[2,3]) (vs:=[.sl none true 0 [],.int .i64 x]) (λr h=>h) hd (by simp[h2,h3]) zS zS ⟨ja rfl,ja rfl,trivial⟩
 obtain⟨P,hP⟩:∃P,jte (QX g)=P:=⟨_,rfl⟩;rw[hP]at e ⊢;obtain⟨C,I⟩:∃C,yv g=C:=⟨_,rfl⟩;rw[I]at w O G;cases y:jX g
 ·rw[y]at o;conv in(occs:=*)F41=>all_goals cbv
  simp[ya,j0];refine jL o zI rfl zI ?_;simp;exact e (x:=4) rfl zS zS (by simp[QX,y])
 rw[y]at o;conv in(occs:=*)F41=>all_goals cbv
 simp[ya,j0];refine jL o zI rfl zI ?_;simp[j0];refine jL J zI rfl zI ?_;refine XB w λZ b0=>?_;simp;refine j9 [(2,4),(6,6),(13,26)] C.length (λi s=>s.tm 13=.int .i64 i/\jo (C.take i)=true/\Grow s.tk 0 s.nx yf 1 (jc1 C i) (s.tm 4)) rfl rfl ⟨zS,by simp[jo],by simp[jc1];exact Grow.nil _ _ _ _ _⟩ ?_;rintro i s hi ⟨m,n,S⟩ f;have z:s.tm 11=.sl Z C.isEmpty C.length (C.flatMap WS):=by rw[f.t 11 zS];simp
 have q:s.tm 12=.int .i64 C.length:=by rw[f.t 12 zS];simp
 have U:s.df=[]:=by rw[f.d];simp
 clear f;by_cases j:i<C.length;have H:=jb j zO;have N:=jja C j;have p:ju 1 (.sl Z C.isEmpty C.length (C.flatMap WS)) (.int .i64 (i:Int))=some (.eptr (C.flatMap WS) (i*1)):=by simp only[JF,j4 Yn];rw[zb zP];rfl
 rw[bB]at p;have k:C.take (i+1)=C.take i++[C[i]]:=by rw[ay j]
 obtain⟨c,hc⟩:∃c,C[i]=c:=⟨_,rfl⟩;have D:c∈C:=hc▸au j;rw[hc]at N k;obtain⟨b,l⟩:=c;cases l with
 |nil=>
  simp[m,z,q,j,p,N];refine e (x:=3) (by simp[U]) zS zS ?_;have:jo C=false:=by rw[eN];intro h;have:=av.1 h _ D;simp at this
  simp[QX,y,I,this]
 |cons x l=>
  have L:((l.length:Int)+1==0)=false:=by simp;omega
  have B:ju 1 (.sl none b (l.length+1) (yf x++l.flatMap yf)) (.int .i64 0)=some (.eptr (yf x++l.flatMap yf) 0):=by simp only[JF,aw,j4 j8];rw[zb zP];rfl
  have Q:(yf x++l.flatMap yf)[0]? = some (.int .i64 x):=rfl;have b5:(jc1 C i).length=i:=by unfold jc1;rw[bm,ai];omega
  simp[m,z,q,j,p,N,L,B,Q];refine jN (cs:=yf x) (by simp[j6,yf]) rfl rfl ?_;simp;refine Xn (f:=yf) (lo:=0) (hi:=s.nx) (l:=jc1 C i) (a:=x) (v:=s.tm 4) (S.mono (λu _ _ h=>by simp[jf,h]) zK) zS (by simp[jF,yf]) j8 zQ rfl zO zO (λb6 a0=>?_);have T:jc1 C i++[x]=jc1 C (i+1):=by unfold jc1;rw[k,bA];rfl
  have e2:(jc1 C i).length+1=(jc1 C (i+1)).length:=by rw[<- T];simp
  have e3:jc1 C (i+1)≠[]:=by rw[<- T];simp
  have e4:jo (C.take (i+1))=true:=by rw[k];unfold jo at n ⊢;rw[eX,n];rfl
  rw[T,e2];obtain⟨M,X⟩:∃M,jc1 C (i+1)=M:=⟨_,rfl⟩;rw[X]at e3 ⊢;simp[m,H,e4,X];exact⟨j,.inr ⟨e3,_,rfl,by simp[jf],ch _,zO⟩⟩
 have:i=C.length:=zO;subst this;rw[bk]at n;have eh:jc1 C C.length=C.map hd1:=by unfold jc1;rw[bk]
 rw[eh]at S;obtain⟨t,ht⟩:=S.form;simp[m,q];have hf:QX g=(0,C.map hd1):=by simp[QX,y,I,n]
 rw[<- hP,hf];refine jor (ns:=[2,3]) (vs:=[s.tm 4,.int .i64 0]) (λr h=>h) (by simp[U]) zS zS zS ⟨?_,ja rfl,trivial⟩;rw[ht];exact YJ rfl (Xc _ _ _ _ _)
def sv100 {Yf:YF}{ob:ZO}{tk:Nat->Bool}{ro base ub G x v D lo uo L u n i q:Nat}{F z:Option (Nat×Nat)}{b f:Bool}{J:List Int}{C:Cs'}{cs:List V}
 (ha:ob G=some ⟨x,.cells [.sl F b n (J.flatMap yf)]⟩) (Q:ob v=some ⟨D,.cells [.sl z f n (C.flatMap WS)]⟩) (U:ob lo=some ⟨uo,.cells [.osl L u 0 n 1]⟩) (S:ob L=some ⟨u,.cells cs⟩) (p:cs.length=n)
 (Z:J.length=n) (a0:C.length=n) (hi:i<n) (P:J[i]? = some (q:Int)) (a:q<(C[i]).2.length) (w:(C[i]).2.length<=41) (m:ro<=u) :
 ∃r,EvS E Yf.y 100 [.int .i64 (i:Int),.ptr G x 0,.ptr v D 0,.ptr lo uo 0] ob tk ro base ub r/\r.1=.bool (decide (0<QC (C[i]).2 q)) /\
  (∀k,r.2.1 k=if k=L then some ⟨u,.cells (j6 cs i [.int .i64 ((C[i]).2.getD (QC (C[i]).2 q) 0)])⟩ else ob k)/\r.2.2.1=tk/\ub<=r.2.2.2:=by
 refine JI rfl zQ ?_;show wpC E Yf S100.body _ (Jw S100.res _);have o:=jja C (show i<C.length by omega);have I:(J.flatMap yf)[i]? = some (.int .i64 (q:Int)):=by have H:=aj.1 P;rw[jt J H.1,H.2]
 have h:ju 1 (.sl F b n (J.flatMap yf)) (.int .i64 (i:Int))=some (.eptr (J.flatMap yf) i):=by simp only[JF,j4 j8];rw[zb zP];simp
 have c:ju 1 (.sl z f n (C.flatMap WS)) (.int .i64 (i:Int))=some (.eptr (C.flatMap WS) i):=by simp only[JF,j4 Yn];rw[zb zP];simp
 have t:=j6j (l:=L) (u:=u) (n:=n) (kk:=.i64) (X:=(i:Int)) rfl hi;obtain⟨X,M⟩:∃X,C[i]=X:=⟨_,rfl⟩;obtain⟨nx,X⟩:=X;rw[M]at o a w ⊢;simp only at o a w ⊢;have T:=jb (i:=q) (N:=41) zO zO;have B:QC X q<X.length:=ip _ zO;have g:YN .rem (.int .i64 ((q:Int)+1)) (.int .i64 (X.length:Int))=some (.int .i64 (QC X q:Nat)):=by
  have h0:¬(X.length:Int)=0:=zO;have e:((q:Int)+1).tmod (X.length:Int)=(QC X q:Nat):=by rw[show(q:Int)+1=((q+1:Nat):Int) from by omega,<- Int.ofNat_tmod];rfl
  simp[YN,Xb,e];try (intro e;rw[e]at a;simp at a)
 have j:ju 1 (.sl none nx X.length (X.flatMap yf)) (.int .i64 ((QC X q:Nat):Int))=some (.eptr (X.flatMap yf) (QC X q)):=by simp only[JF,j4 j8];rw[zb zP];simp
 have h3:=jt X B;have O:X.getD (QC X q) 0=X[QC X q]:=by simp[B]
 rw[O];generalize QC X q=kq at *;have s:i+1<=n:=hi;conv in(occs:=*)S100=>all_goals cbv
 simp[j0,ha,Q,U,S,h,c,o,I,T,g,j,h3,t,m,p,s];refine Jj zS ⟨zS,λk=>?_,by simp[jq],by simp;try omega⟩;simp
def jkt (g:Hist') (M:List Int):Option (List Int):=if (XT g M).isSome then Xf (yv g) M else none
def j5t (r:Option (List Int)) (v:V):Prop:=jvy [.sl none (r.getD []).isEmpty (r.getD []).length ((r.getD []).flatMap yf),.bool r.isSome] v
def jv4 (C:Cs') (M:List Int) (i:Nat):List Int:=M.take i++(C.drop i).map hd1
def jqu {C:Cs'}{M:List Int}{i:Nat}(h:C.length=M.length) (hi:i<=C.length):(jv4 C M i).length=C.length:=by unfold jv4;rw[aw,ai,bm,aY];omega
def j12 {C:Cs'}{M:List Int}{i:Nat}(h:C.length=M.length) (hi:i<C.length) (x:Int):j6 ((jv4 C M (i+1)).flatMap yf) i [.int .i64 x]=(M.take i++x::(C.drop (i+1)).map hd1).flatMap yf:=by have a:=jaw (f:=yf) (sz:=1) j8 x (jv4 C M (i+1)) i (by rw[jqu h zO];exact hi);rw[bB]at a;rw[show([.int .i64 x]:List V)=yf x from rfl,a];congr 1;unfold jv4;rw[ay (show i<M.length by omega),bj,List.set_append_right _ _ (by rw[ai];omega),ai];rw[show i-min i M.length=0 by omega];rfl
def j97 {c:Bool×List Int}(h:0<c.2.length):c.2.getD 0 0=hd1 c:=by
 unfold hd1;cases a:c.2 with
 |nil=>rw[a]at h;simp at h
 |cons x l=>rfl
def jxi {C:Cs'}{M:List Int}{i q:Nat}(h:C.length=M.length) (hi:i<C.length) (c:yG (C[i]).2 (M[i]' zO) 0=q) (j:q<(C[i]).2.length) (k:Xf (C.drop (i+1)) (M.drop (i+1))=none) :
 if 0<QC (C[i]).2 q then Xf C M=some (M.take i++(C[i]).2.getD (QC (C[i]).2 q) 0::(C.drop (i+1)).map hd1)
 else (C[i]).2.getD (QC (C[i]).2 q) 0=hd1 C[i]/\Xf (C.drop i) (M.drop i)=none:=by
 have g:i<M.length:=zO;have e:Xf (C.drop i) (M.drop i)=if (q:Int)+1<(C[i]).2.length then some ((C[i]).2.getD ((q:Int)+1).toNat 0::(C.drop (i+1)).map hd1) else none:=by rw[aR hi,aR g];simp only[Xf,k,c]
 unfold QC;by_cases a:q+1<(C[i]).2.length;rw[eu a,zb zO];rw[zb zO]at e;have f:=ji3 C M i _ zO h e;rw[f,show((q:Int)+1).toNat=q+1 by omega];have b:q+1=(C[i]).2.length:=zO;rw[b,Nat.mod_self,za zO];rw[za zO]at e;exact⟨j97 zO,e⟩
def sv99z {Yf:YF}(b:Bool) {ob:ZO}{tk:Nat->Bool}{ro base ub:Nat}(g:ro<=ub):∃r,EvS E Yf.y 99 [yl b yf []] ob tk ro base ub r/\(Old ob ub r.2.1/\r.2.2.1=tk/\ub<=r.2.2.2/\r.1.cells=[r.1]/\r.1.leaf=true):=by
 cases b with
 |true=>obtain⟨r,e,a,c,f,h⟩:=sv99n (Yf:=Yf) (ob:=ob) (tk:=tk) (ro:=ro) (base:=base) (ub:=ub);exact⟨r,e,by rw[c];exact λ_ _=>rfl,f,h,by rw[a];rfl,by rw[a];rfl⟩
 |false=>obtain⟨r,e,⟨m,_,_,a,_⟩,c,f,h⟩:=sv99 (Yf:=Yf) [] zS (ob:=ob) (tk:=tk) (base:=base) g;exact⟨r,e,c,f,h,by rw[a];rfl,by rw[a];rfl⟩
def ev57 {g:Hist'}(hs:Small g) {b:Bool}(M:List Int) (hM:M.length<=1000000) (hb:b=true->M=[]):∃v,Ev E 57 [.agg (ya g),yl b yf M] v/\j5t (jkt g M) v:=by
 obtain⟨vp,c3,p⟩:=ev98 hs (b:=b) M hM;have U:=jqh hs;have j:∀{st:St},st.df=[]->st.tm 4=.sl none true 0 []->st.tm 5=.bool false->jkt g M=none->Ws [.t 4,.t 5] (j5t (jkt g M)) .ret st:=by intro st hd h4 h5 hp;rw[hp];exact jor (ns:=[4,5]) (vs:=[.sl none true 0 [],.bool false]) (λr h=>h) hd (by simp[h4,h5]) zS zS ⟨ja rfl,ja rfl,trivial⟩
 refine X6 rfl zQ ?_;obtain⟨P,hP⟩:∃P,j5t (jkt g M)=P:=⟨_,rfl⟩;rw[hP]at j ⊢;cases u:XT g M with
 |none=>
  rw[u]at p;conv in(occs:=*)F57=>all_goals cbv
  simp[ya,j0];refine jL c3 zH rfl zH ?_;refine jrc p λt1 t2 add=>?_;simp[j0,j6];exact j zS zS zS (by simp[jkt,u])
 |some J=>
  rw[u]at p;have e:=u;unfold XT at e;split at e;case isFalse=>cases e
  rename_i x;simp only[ae]at e;simp only[ab,zh]at x;obtain⟨hw,F,B⟩:=x;have G:jkt g M=Xf (yv g) M:=by simp[jkt,u]
  obtain⟨C,hC⟩:∃C,yv g=C:=⟨_,rfl⟩;unfold jlo at p;rw[hC]at U F B e G p;have b8:J.length=M.length:=by rw[<- e,jk9 C M F];exact F
  have H:=jp5 C M;rw[e]at H B;conv in(occs:=*)F57=>all_goals cbv
  simp[ya,j0];refine jL c3 zH rfl zH ?_;refine jrc p λt1 t2 add=>?_;simp[j0,j6];by_cases T:M=[];subst T;have d2:C=[]:=cz.1 (by simpa using F);subst d2;refine jP (vs:=[yl b yf []]) zS rfl (sv99z b zS) ?_;rintro v S c6 a ⟨l,O,I,c4,b7⟩;simp only at l O I c4 b7;simp[j0,c4,b7];refine jb4 1 ?_;have wm:IntKind.i64.wrap (-1) = -1:=by decide
  simp[wm];exact j zS zS zS (by rw[G];rfl);have c8:b=false:=by cases b with|false=>rfl|true=>exact zf (hb rfl) T
  subst c8;refine jP (vs:=[yl false yf M]) zS rfl (sv99 M zO zS) ?_;rintro v S c6 a ⟨⟨m,b6,d3,hv,c2⟩,l,O,I⟩;simp only at d3 hv c2 l O I;subst hv;have oA:S 1409=some ⟨704,.cells [.sl t2 false J.length (J.flatMap yf)]⟩:=by rw[l 1409 (by intro k hk;omega)];simp
  have oC:S 1281=some ⟨640,.cells [.sl t1 C.isEmpty C.length (C.flatMap WS)]⟩:=by rw[l 1281 (by intro k hk;omega)];simp
  have d5:0<M.length:=dT.2 T;have wM:IntKind.i64.wrap ((M.length:Int)-1)=(M.length:Int)-1:=jk zO zO;simp[j0,wM];have et:jv4 C M M.length=M:=by unfold jv4;rw[bk,bM zO];simp
  have c7:Xf (C.drop M.length) (M.drop M.length)=none:=by rw[bM zO];rfl
  have n1:¬1409=2*a+1:=zO;have n2:¬704=a:=zO;have n3:¬1281=2*a+1:=zO;have n4:¬640=a:=zO;have n5:¬2*m+1=2*a+1:=zO;have n6:¬m=a:=zO;have n7:¬2*m=2*a:=zO;refine j9 [(4,5),(11,11),(27,34)] M.length (λk s=>s.tm 11=.int .i64 ((M.length:Int)-1-k)/\s.ob 1409=some ⟨704,.cells [.sl t2 false J.length (J.flatMap yf)]⟩/\s.ob 1281=some ⟨640,.cells [.sl t1 C.isEmpty C.length (C.flatMap WS)]⟩ /\
   s.ob (2*a+1)=some ⟨a,.cells [.osl (2*m+1) m 0 M.length 1]⟩/\s.ob (2*m+1)=some ⟨m,.cells ((jv4 C M (M.length-k)).flatMap yf)⟩/\Xf (C.drop (M.length-k)) (M.drop (M.length-k))=none) rfl rfl ⟨zS,by simp[oA,n1],by simp[oC,n3],zS,by simp[et,c2,n7],by simpa using c7⟩ ?_
  rintro k s hk ⟨y,pA,pC,pO,pL,hT⟩ f;have d1:s.tm 10=.fn (.func 100) [] [.ptr 1409 704 0,.ptr 1281 640 0,.ptr (2*a+1) a 0]:=by rw[f.t 10 zS];simp
  have f9:s.tm 9=.ptr (2*a+1) a 0:=by rw[f.t 9 zS];simp
  have fd:s.df=[]:=by rw[f.d];simp
  have fr:s.ro=0:=by rw[f.r];simp
  clear f;by_cases d0:k<M.length;obtain⟨i,hi⟩:∃i:Nat,M.length-(k+1)=i:=⟨_,rfl⟩;have d4:M.length-k=i+1:=zO;have X:i<M.length:=zO;have w:i<C.length:=zO;have c9:(M.length:Int)-1-k=(i:Int):=zO;rw[d4]at pL hT;rw[c9]at y;have N:=H i w X;have d8:0<=yG (C[i]).2 M[i] 0:=by simpa using av.1 B _ (aH N)
  have c5:=jsm M[i] (C[i]).2 0;obtain⟨q,hq⟩:∃q:Nat,yG (C[i]).2 M[i] 0=q:=⟨(yG (C[i]).2 M[i] 0).toNat,zO⟩;rw[hq]at N c5;have b5:q<(C[i]).2.length:=zO;have b9:=(U _ (au w)).2;have c:=jxi F w hq b5 hT;have c1:=j12 F w (((C[i]).2.getD (QC (C[i]).2 q) 0));have a0:(0:Int)<=i:=zO;have Q:((jv4 C M (i+1)).flatMap yf).length=M.length:=by rw[j4 j8,jqu F zO,bB,F]
  have wi:IntKind.i64.wrap ((i:Int)-1)=(i:Int)-1:=jk zO zO;simp[y,d1,a0];refine jzk (f:=100) (first:=[]) (captured:=[.ptr 1409 704 0,.ptr 1281 640 0,.ptr (2*a+1) a 0]) (vs:=[.int .i64 (i:Int),.ptr 1409 704 0,.ptr 1281 640 0,.ptr (2*a+1) a 0]) zS zS rfl
   (sv100 (i:=i) (q:=q) (J:=J) (C:=C) (n:=M.length) (cs:=(jv4 C M (i+1)).flatMap yf) (by simpa[b8] using pA) (by simpa[F] using pC) (by simpa using pO) (by simpa using pL) Q b8 F X N b5 b9 (by simp[fr])) ?_
  rintro v L d9 d7 ⟨hv,o,_,b0⟩;simp only at hv o b0;subst hv;have qA:L 1409=some ⟨704,.cells [.sl t2 false J.length (J.flatMap yf)]⟩:=by rw[o,za zO];simpa using pA
  have qC:L 1281=some ⟨640,.cells [.sl t1 C.isEmpty C.length (C.flatMap WS)]⟩:=by rw[o,za zO];simpa using pC
  have qO:L (2*a+1)=some ⟨a,.cells [.osl (2*m+1) m 0 M.length 1]⟩:=by rw[o,za zO];simpa using pO
  have qL:=o (2*m+1);rw[zb rfl,c1]at qL;clear o;by_cases hr:0<QC (C[i]).2 q;rw[zb hr]at c;simp[hr,f9,j0,qO];rw[<- hP,G,c];generalize (C[i]).2.getD (QC (C[i]).2 q) 0=z at *;have D:(M.take i++z::(C.drop (i+1)).map hd1).length=M.length:=by rw[aw,ai,bh,bm,aY];omega
  have c0:(M.take i++z::(C.drop (i+1)).map hd1).isEmpty=false:=zS;generalize M.take i++z::(C.drop (i+1)).map hd1=Z at *;unfold j5t;simp only[cy,c0,D];refine jor (ns:=[4,5]) (vs:=[.osl (2*m+1) m 0 M.length 1,.bool true]) (λr h=>h) (by simp[fd]) zS zS zS ⟨?_,ja rfl,trivial⟩;exact YJ rfl (jfu (by simpa using qL) (by rw[j4 j8,bB,D]) (by simp[fr]) (by simp[yf,V.pureLeaf]));rw[za hr]at c;have d6:QC (C[i]).2 q=0:=zO;have ei:jv4 C M i=M.take i++(C[i]).2.getD (QC (C[i]).2 q) 0::(C.drop (i+1)).map hd1:=by unfold jv4;rw[aR w,bc,c.1]
  rw[<- ei]at qL;simp[hr,y,wi];rw[hi];exact⟨d0,zO,qA,qC,qO,qL,c.2⟩;have:k=M.length:=zO;subst this;have b6:(M.length:Int)-1-M.length = -1:=zO;rw[b6]at y;simp[y];refine j (by simp[fd]) zS zS ?_;rw[G];simpa using hT
def jz8 (k:Int):∀(l:List Int) (n q:Nat),yG l k n=(n+q:Nat)->l[q]? = some k/\∀j,j<q->∀x,l[j]? = some x->¬x=k
 |[],n,q,h=>by simp only[yG]at h;omega
 |x::r,n,q,h=>by
  rw[yG]at h;split at h;rename_i a;have:q=0:=zO;subst this;simp only[zh]at a;exact⟨by simp[a],λj f=>by omega⟩;rename_i a;simp only[zh]at a;cases q with
  |zero=>have:=idxI_ge_n k r (n+1);omega
  |succ q=>
   have c:=jz8 k r (n+1) q zO;refine⟨by simpa using c.1,λj f y b=>?_⟩;cases j with
   |zero=>simp only[aD,ae]at b;subst b;exact λe=>a e.symm
   |succ j=>exact c.2 j zO y (by simpa using b)
where
 idxI_ge_n (k:Int):∀(l:List Int) (n:Nat),yG l k n = -1\/(n:Int)<=yG l k n
  |[],n=>.inl rfl
  |x::r,n=>by
   rw[yG]
   split
   ·exact .inr (dr _)
   ·rcases idxI_ge_n k r (n+1) with h|h
    ·exact .inl h
    ·exact .inr zO
def j8d (ub n:Nat) (cs:List V):Xt ub (.sl (some (0,1)) false n cs)=some { v:=.sl (some (ub,1)) false n cs,add:=[ub] }:=rfl
section
variable {E:Env}{st:St}{ub:Nat}{K:List FP->St->Prop}{d:Option Nat}{nm:Bool}{r:List AOpr}
def jjj {i:Type}{f:i->List V}{sz b u:Nat}{l:List i}{a:i}{s x:A}(p:ye E st.tm s=.sl (some (u,sz)) false l.length (l.flatMap f)) (n:st.tk u=true) (q:jF st.ob sz (ye E st.tm x)=some (f a)) (c:∀a,(f a).length=sz) (m:0<sz)
 (hp:(f a).all V.pureLeaf=true) (o:(l.length+1)*b<=140737488355328) (j:l.length+1<=140737488355328)
 (h:YW E r K (ye E st.tm) (.append false sz b s x) st d ub { v:=.sl (some (ub,sz)) false (l.length+1) ((l++[a]).flatMap f),del:=some u,add:=[ub] }):jG E (⟨d,.append false sz b s x,none,nm⟩::r) st ub K:=by
 have g:f a≠[]:=λe=>by have:=c a;rw[e]at this;simp at this;omega
 have k:(f a).length/sz=1:=by rw[c];exact gH m
 rw[jz rfl];simp only[yS,p,q,ap,za g,bE,ah,zc];rw[zb ⟨by rw[j4 c],m,hp,by rw[k];exact o,by rw[k];exact j⟩,zb (by simp[n]),jJ,k];simpa using h
end
def jlr (l:List Int):List V:=WS (false,l)
@[simp] theorem je5 (l:List Int):(jlr l).length=1:=rfl
def jy1 (L:List (List Int)) {i:Nat}(h:i<L.length):(L.flatMap jlr)[i]? = some (.sl none false (L[i]).length ((L[i]).flatMap yf)):=by have:=jZ je5 L h (by decide:0<1);rw[bB,bp]at this;rw[this];rfl
def Xr (c:Bool×List Int) (out:List (List Int)) (k j:Nat):List (List Int):=stepA c (out.take k)++(c.2.take j).map λx=>out.getD k []++[x]
def jwz (c:Bool×List Int) (a b:List (List Int)):stepA c (a++b)=stepA c a++stepA c b:=by unfold stepA;rw[cn]
def jjm {c:Bool×List Int}{out:List (List Int)}{k:Nat}(a:k<out.length) (j:Nat):Xr c out (k+1) 0=Xr c out k j++(c.2.drop j).map λx=>out.getD k []++[x]:=by unfold Xr;rw[ay a,jwz,eK,co,aP,bj,<- bA,du];congr 1;simp[stepA,a]
def jve {c:Bool×List Int}{out:List (List Int)}{k j:Nat}(a:j<c.2.length):Xr c out k (j+1)=Xr c out k j++[out.getD k []++[c.2[j]]]:=by unfold Xr;rw[ay a,bA,bj];rfl
def j0b (c:Bool×List Int) (out:List (List Int)):Xr c out out.length 0=stepA c out:=by unfold Xr;simp
def jvd (c:Bool×List Int) (out:List (List Int)):Xr c out 0 0=[]:=by unfold Xr stepA;simp
def jws {c:Type}{n:Nat}{a b:List c}(h:n<=a.length):(a++b).take n=a.take n:=by rw[dX h]
def jtv {c:Bool×List Int}{n i:Nat}{out:List (List Int)}(h:∀o∈out,o.length=i):∀o∈(stepA c out).take n,o.length=i+1:=by intro o e;have:=da e;unfold stepA at this;obtain⟨p,a,b⟩:=ci.1 this;obtain⟨x,_,rfl⟩:=aE.1 b;rw[aw,h p a];rfl
def jn9:∀(C:Cs') (n:Nat) (out:List (List Int)) (c:Bool×List Int),allF (C++[c]) n out=(stepA c (allF C n out)).take n
 |[],n,out,c=>rfl
 |d::C,n,out,c=>by simp only[de,allF];exact jn9 C n _ c
def jll:∀(C:Cs') (n:Nat) (out:List (List Int)),out.length<=n->(allF C n out).length<=n
 |[],n,out,h=>h
 |d::C,n,out,_=>jll C n _ (by rw[ai];omega)
def joa:∀(C:Cs') (n i:Nat) (out:List (List Int)),(∀o∈out,o.length=i)->∀o∈allF C n out,o.length=i+C.length
 |[],n,i,out,h=>h
 |d::C,n,i,out,h=>by intro o a;have:=joa C n (i+1) _ (jtv (c:=d) (n:=n) h) o a;rw[this,bh];omega
def ev18 {g:Hist'}(hs:Small g) (hw:jX g=true) (most:Nat) (h0:1<=most) (h1:most<=1000):∃v,Ev E 18 [.agg (ya g),.int .i64 most] v/\SlR v false (allF (choR g) most [[]]).length ((allF (choR g) most [[]]).flatMap jlr):=by
 obtain⟨vc,b0,H⟩:=ev37 hs;have c3:=js5 hs;have G:=j0w hw;obtain⟨C,hC⟩:∃C,choR g=C:=⟨_,rfl⟩;rw[hC]at H c3 G ⊢;refine X6 rfl zQ ?_;conv in(occs:=*)F18=>all_goals cbv
 simp[ya,j0];refine jL b0 zI rfl zI ?_;refine XB H λX c8=>?_;simp;refine jN (cs:=[]) rfl rfl rfl ?_;simp;refine jN (cs:=[.sl (some (320,1)) false 0 []]) (by simp[j6]) rfl rfl ?_;simp[V.strip1];refine j9 [(6,10),(15,60)] C.length (λi s=>s.tm 7=.int .i64 i/\∃t,s.tm 6=.sl t false (allF (C.take i) most [[]]).length ((allF (C.take i) most [[]]).flatMap jlr)) rfl rfl ⟨zS,by simp[allF,jlr,WS]⟩ ?_;rintro i s hi ⟨h7,U,h6⟩ f;have f1:s.tm 1=.int .i64 most:=by rw[f.t 1 zS];simp
 have f5:s.tm 5=.sl X false C.length (C.flatMap WS):=by rw[f.t 5 zS];simp
 have fd:s.df=[]:=by rw[f.d];simp
 clear f;have b9:=jll (C.take i) most [[]] (by simpa using h0);have T:=joa (C.take i) most 0 [[]] zS;obtain⟨out,m⟩:∃out,allF (C.take i) most [[]]=out:=⟨_,rfl⟩;rw[m]at h6 b9 T;by_cases p:i<C.length
 ·have b8:=jb p zO;have y:allF (C.take (i+1)) most [[]]=(stepA C[i] out).take most:=by rw[ay p,jn9,m]
  have Q:=G _ (au p);have z:=jja C p;obtain⟨c,hc⟩:∃c,C[i]=c:=⟨_,rfl⟩;rw[hc]at y Q z;have n:ju 1 (.sl X false C.length (C.flatMap WS)) (.int .i64 (i:Int))=some (.eptr (C.flatMap WS) i):=by simp only[JF,j4 Yn];rw[zb zP];simp
  simp[h7,f5,p];refine jN (cs:=[]) rfl rfl rfl ?_;simp;refine j9 [(8,10),(22,59)] out.length (λk B=>B.tm 9=.int .i64 k/\GrowT B.tk B.nx jlr 1 ((Xr c out k 0).take most) (B.tm 8)) rfl rfl ⟨zS,by simp[jvd];exact⟨s.nx+64+64+64+64,zS,by simp[jf],zS⟩⟩ ?_;rintro k B hk ⟨h9,hG⟩ f;have e1:B.tm 1=.int .i64 most:=by rw[f.t 1 zS];simp[f1]
  have e5:B.tm 5=.sl X false C.length (C.flatMap WS):=by rw[f.t 5 zS];simp[f5]
  have e6:B.tm 6=.sl U false out.length (out.flatMap jlr):=by rw[f.t 6 zS];simp[h6]
  have e7:B.tm 7=.int .i64 i:=by rw[f.t 7 zS];simp[h7]
  have ed:B.df=[]:=by rw[f.d];simp[fd]
  clear f;by_cases b:k<out.length
  ·have I:=jb b zO;have b7:=jy1 out b;have a0:out.getD k []=out[k]:=by simp[b]
   have J:ju 1 (.sl U false out.length (out.flatMap jlr)) (.int .i64 (k:Int))=some (.eptr (out.flatMap jlr) k):=by simp only[JF,j4 je5];rw[zb zP];simp
   have c5:(out[k]).length<=1000000:=by have:=T _ (au b);simp at this;omega
   simp[h9,e6,b];refine j9 [(8,8),(10,10),(28,59)] c.2.length (λj w=>w.tm 10=.int .i64 (j:Nat)/\GrowT w.tk w.nx jlr 1 ((Xr c out k j).take most) (w.tm 8)) rfl rfl ⟨zS,by simp;exact hG.mono (λ_ _ h=>h) zO⟩ ?_;rintro j w hj ⟨x,D⟩ f;have g1:w.tm 1=.int .i64 most:=by rw[f.t 1 zS];simp[e1]
   have g5:w.tm 5=.sl X false C.length (C.flatMap WS):=by rw[f.t 5 zS];simp[e5]
   have g6:w.tm 6=.sl U false out.length (out.flatMap jlr):=by rw[f.t 6 zS];simp[e6]
   have Z:w.tm 7=.int .i64 i:=by rw[f.t 7 zS];simp[e7]
   have g9:w.tm 9=.int .i64 k:=by rw[f.t 9 zS];simp[h9]
   have gd:w.df=[]:=by rw[f.d];simp[ed]
   clear f;obtain⟨u8,o,S,c6⟩:=id D;have c2:((Xr c out k j).take most).length=min most (Xr c out k j).length:=ai;by_cases q:j<c.2.length
   ·by_cases hm:(Xr c out k j).length<most
    ·have c4:(Xr c out k j).take most=Xr c out k j:=aJ zO;have F:(Xr c out k (j+1)).take most=Xr c out k j++[out[k]++[c.2[j]]]:=by rw[jve q,a0,aJ (by rw[aw];simp;omega)]
     have b6:=jb q zO;have c0:=jt c.2 q;have O:ju 1 (.sl none c.1 c.2.length (c.2.flatMap yf)) (.int .i64 (j:Int))=some (.eptr (c.2.flatMap yf) j):=by simp only[JF,j4 j8];rw[zb zP];simp
     rw[c4]at o D;have P:((Xr c out k j).length:Int)<most:=zO;simp[x,g1,g5,g6,Z,g9,n,z,q,o,P,J,b7];refine Jb (ev38t false (out[k]) zO) (by simp[yl]) rfl (by simp[yl]) ?_;rw[j8d];simp[g5,Z,x,n,z,O,c0];refine jau (cs:=yf c.2[j]) (by simp[j6,yf]) rfl rfl ?_;simp;refine jjj (f:=yf) (u:=w.nx+64+64+64+64+64+64+64+64+64+64+64+64+64+64+64+64+64+64) (l:=out[k]) (a:=c.2[j]) zS (by simp[jf]) (by simp[jF,yf]) j8 zQ rfl zO zO ?_;have c7:(out[k]).flatMap yf++yf c.2[j]=(out[k]++[c.2[j]]).flatMap yf:=zS;simp;refine jau (cs:=[.sl (some (w.nx+64+64+64+64+64+64+64+64+64+64+64+64+64+64+64+64+64+64+64+64+64+64+64+64+64+64+64,1)) false ((out[k]).length+1) ((out[k]).flatMap yf++yf c.2[j])]) (by simp[j6]) rfl (by simp[V.strip1,V.pureLeaf]) ?_;simp[V.strip1];refine jjj (f:=jlr) (u:=u8) (l:=Xr c out k j) (a:=out[k]++[c.2[j]]) zS (by simp[jf,S];try omega) (by simp[jF,jlr,WS]) je5 zQ (by simp[jlr,WS,V.pureLeaf]) zO zO ?_;have L:(Xr c out k j).length+1=(Xr c out k j++[out[k]++[c.2[j]]]).length:=zS;rw[<- F]at L ⊢;rw[L];obtain⟨N,hN⟩:∃N,(Xr c out k (j+1)).take most=N:=⟨_,rfl⟩;rw[hN];simp[x,b6];refine⟨?_,q,?_⟩;simp[Jc,W6,QR,Qe,yy,yz,yP,uOf,Delta.wo,Delta.wt];rw[eN];intro h;have:=bo h;omega;rw[hN];refine⟨_,rfl,?_,?_⟩;simp[jf];omega
    have P:¬((Xr c out k j).length:Int)<most:=zO;have M:min most (Xr c out k j).length=most:=zO;simp[x,g1,g5,Z,g9,n,z,q,o,M];have e:(Xr c out (k+1) 0).take most=(Xr c out k j).take most:=by rw[jjm b j];exact jws zO
    rw[e];refine⟨b,I,?_⟩;exact⟨u8,by rw[c2,M],S,zO⟩
   have b5:j=c.2.length:=zO;subst b5;simp[x,g5,Z,g9,n,z];have e:(Xr c out (k+1) 0).take most=(Xr c out k c.2.length).take most:=by rw[jjm b c.2.length,dc];simp
   rw[e];refine⟨b,I,?_⟩;exact D.mono (λ_ _ h=>h) zO
  have c1:k=out.length:=zO;subst c1;obtain⟨u8,o,_,_⟩:=hG;rw[j0b,<- y]at o;simp[h9,e6,e7,b8,o];exact p
 have:i=C.length:=zO;subst this;rw[bk]at m;rw[m];simp[h7,f5];exact slE (t:=U) (nl:=false) (k:=out.length) (cs:=out.flatMap jlr) (λr h=>h) (by simp[fd]) (by simp[h6])
section
variable {g:Hist'}
def jgl:∀{C D:Cs'},C.map (·.2)=D.map (·.2)->jo C=jo D
 |[],[],_=>rfl
 |c::C,d::D,h=>by simp only[bc,eD]at h;have:=jgl h.2;unfold jo at this ⊢;rw[bH,bH,h.1,this]
 |[],_::_,h=>by simp at h
 |_::_,[],h=>by simp at h
end
def yL (g:Hist') (lvl left:Int):List V:=[.int .i64 lvl,yl g.sn Jp g.ss,yl g.kn Jp g.ks,yl g.tn jl g.ts,.int .i64 left]
section
variable {g:Hist'}{lvl left:Int}{k u ub:Nat}{ob:ZO}
def evo97 (h:Small g) {b a:Nat}(f:ob b=some ⟨a,.cells [.ptr k u 0]⟩) (d:ob k=some ⟨u,.cells (yL g lvl left)⟩) (x:Int) (tk:Nat->Bool) (base:Nat):EvO E 97 [.int .i64 x,.ptr b a 0] ob tk base ub (.bool (!(badH g x).isEmpty)):=by
 obtain⟨v,c,e⟩:=ev71 h x;refine J1 rfl ?_;conv in(occs:=*)S97=>all_goals cbv
 simp[j0,f,d,yL];refine jL c zI rfl zH ?_;refine XB e λt add=>?_;simp;refine j5 zS ?_ rfl;cases badH g x<;>simp
def evo56 (a:Small g) (e:jX g=true) (c:ob k=some ⟨u,.cells (yL g lvl left)⟩) (f:Off ub k) (tk:Nat->Bool) (base:Nat):EvO E 56 [.ptr k u 0] ob tk base ub (.bool (jj2 g)):=by
 obtain⟨v,j,d⟩:=ev70 a;rw[jhe e]at d;have m:=YM g;have l:=a.ts;have b:=f.ne;refine J1 rfl ?_;conv in(occs:=*)S56=>all_goals cbv
 simp(disch:=try exact zD)[S56,j0,c,yL,b,V.cells,V.leaf];refine jL j zI rfl zH ?_;refine XB d λt add=>?_;simp;refine jW (vs:=[.sl t (ym g).isEmpty (ym g).length ((ym g).flatMap yf),.fn (.func 97) [] [.ptr (2*ub+1) ub 0]]) zS rfl (by rw[bH,cV];exact .inr rfl) (evo96 (p:=λt=>!(badH g t).isEmpty) rfl zO (λx n tk base i h=>?_) _ _) ?_;exact evo97 a (k:=k) (u:=u) (lvl:=lvl) (left:=left) zS (by simp(disch:=try exact zD)[c,b,yL]) x tk base;simp;refine j5 zS ?_ rfl;simp[jj2]
end
def DecW (c:List Int×List Int) (is:Bool) (n:Int) (w:V) (v:V):Prop:=∃(t1 t2:Option (Nat×Nat)) (n1 n2:Bool),v=.tup [.agg [.sl t1 n1 c.1.length (c.1.flatMap yf),.sl t2 n2 c.2.length (c.2.flatMap yf)],.bool is,.int .i64 n,w]/\∀p∈t1.toList++t2.toList,p.1<64
def DecR (r:(List Int×List Int)×Bool×Int×Int) (v:V):Prop:=DecW r.1 r.2.1 r.2.2.1 (.int .i64 r.2.2.2) v
def Flat1 (w:V):Prop:=(∃e,w=.int .i64 e)\/∃b,w=.bool b
def Flat1.int (e:Int):Flat1 (.int .i64 e):=.inl ⟨e,rfl⟩
def Flat1.bool (b:Bool):Flat1 (.bool b):=.inr ⟨b,rfl⟩
def toks4 (x y:V) (b:Bool) (n:Int) {w:V}(a:Flat1 w):List.flatMap V.toks [.agg [x,y],.bool b,.int .i64 n,w]=x.tok++y.tok:=by
 have:w.toks=[]:=by rcases a with⟨e,rfl⟩|⟨e,rfl⟩<;>rfl
 simp[V.toks,show ∀e,(V.int .i64 e).tok=[] from λ_=>rfl,show(V.bool b).tok=[] from rfl];exact this
def j8c {ub:Nat}{v:V}{c:List Int×List Int}{is:Bool}{n:Int}{w:V}{K:Delta->Prop}(s:Flat1 w) (L:DecW c is n w v)
 (h:∀l f a d add,K { v:=.tup [.agg [.sl l a c.1.length (c.1.flatMap yf),.sl f d c.2.length (c.2.flatMap yf)],.bool is,.int .i64 n,w],add:=add }):wpD (Xt ub v) K:=by
 obtain⟨l,f,a,d,rfl,D⟩:=L;obtain⟨x,q⟩:∃x,x=V.sl l a c.1.length (c.1.flatMap yf):=⟨_,rfl⟩;obtain⟨y,o⟩:∃y,y=V.sl f d c.2.length (c.2.flatMap yf):=⟨_,rfl⟩;have m:(yx (.tup [.agg [x,y],.bool is,.int .i64 n,w])).all (λi=>Nat.blt i 64)=true:=by
  show(List.flatMap V.toks [.agg [x,y],.bool is,.int .i64 n,w]).all _=true;rw[toks4 _ _ _ _ s,av];intro i z;have:∃p∈l.toList++f.toList,p.1=i:=by rw[aQ,q,o,tokm,tokm]at z;rcases z with⟨p,j,h⟩|⟨p,j,h⟩;exact⟨p,by simp[j],h⟩;exact⟨p,by simp[j],h⟩
  obtain⟨p,j,rfl⟩:=this;simpa[dk] using D p j
 rw[<- q,<- o,Xt,zb m,jJ];have e:∀(t:Option (Nat×Nat)) r n cs,∃B,Y4 ub (.sl t r n cs)=.sl B r n cs:=λt r n cs=>by
  cases t with
  |none=>exact⟨none,rfl⟩
  |some p=>exact⟨_,rfl⟩
 obtain⟨a1,J⟩:=e l a c.1.length (c.1.flatMap yf);obtain⟨a2,H⟩:=e f d c.2.length (c.2.flatMap yf);have:=h a1 a2 a d ((yx (.tup [.agg [x,y],.bool is,.int .i64 n,w])).map (ub + ·));have F:∀b,Qa ub (.bool b)=.bool b:=λ_=>rfl;have M:∀e,Qa ub (.int .i64 e)=.int .i64 e:=λ_=>rfl;have I:Qa ub w=w:=by rcases s with⟨e,rfl⟩|⟨e,rfl⟩<;>rfl
 have G:ja9 ub (.tup [.agg [x,y],.bool is,.int .i64 n,w])=.tup [.agg [.sl a1 a c.1.length (c.1.flatMap yf),.sl a2 d c.2.length (c.2.flatMap yf)],.bool is,.int .i64 n,w]:=by simp only[ja9,bc,co,F,M,I];simp only[Qa,bc,co,q,o,J,H]
 rw[G];exact this
def jxl {ub:Nat}{v:V}{r:(List Int×List Int)×Bool×Int×Int}{K:Delta->Prop}(c:DecR r v)
 (h:∀b a d e add,K { v:=.tup [.agg [.sl b d r.1.1.length (r.1.1.flatMap yf),.sl a e r.1.2.length (r.1.2.flatMap yf)],.bool r.2.1,.int .i64 r.2.2.1,.int .i64 r.2.2.2],add:=add }):wpD (Xt ub v) K:=j8c (.int _) c h
def j0p {P:V->Prop}{st:St}{p a b d l u:Nat}{x y:V}{c:List Int×List Int}{is:Bool}{n:Int}{w:V}{n1 o:Bool}(G:Flat1 w) (Q:∀v,DecW c is n w v->P v) (F:st.df=[]) (hp:st.tm p=.ptr l u 0) (L:st.ob l=some ⟨u,.cells [x,y]⟩) (S:st.tm a=.bool is) (H:st.tm b=.int .i64 n) (T:st.tm d=w)
 (O:jde st x n1 c.1.length (c.1.flatMap yf)) (N:jde st y o c.2.length (c.2.flatMap yf)):Ws [.cell p (some 2),.t a,.t b,.t d] P .ret st:=by
 have J:j0 st.ob l u=some [x,y]:=by simp[j0,L]
 have m:[ARes.cell p (some 2),ARes.t a,ARes.t b,ARes.t d].mapM (jv st)=some [.agg [x,y],.bool is,.int .i64 n,w]:=by simp[jv,hp,J,S,H,T]
 obtain⟨s,z,j⟩:=O (yH (List.flatMap V.toks [.agg [x,y],.bool is,.int .i64 n,w])) 0;obtain⟨r,D,h⟩:=N (yH (List.flatMap V.toks [.agg [x,y],.bool is,.int .i64 n,w])) 1;refine⟨.tup [.agg [.sl s n1 c.1.length (c.1.flatMap yf),.sl r o c.2.length (c.2.flatMap yf)],.bool is,.int .i64 n,w],?_,Q _ ⟨s,r,n1,o,rfl,?_⟩⟩;simp only[jc2,WB F,W0 F,zd,m,ap,WQ];generalize yH (List.flatMap V.toks [.agg [x,y],.bool is,.int .i64 n,w])=keep at *;have I:∀i,XD st keep i (.bool is)=some (.bool is):=λ_=>rfl;have U:∀i e,XD st keep i (.int .i64 e)=some (.int .i64 e):=λ_ _=>rfl;have M:∀i,XD st keep i w=some w:=λi=>by rcases G with⟨e,rfl⟩|⟨e,rfl⟩<;>rfl
 have K:XD st keep 0 (.agg [x,y])=some (.agg [.sl s n1 c.1.length (c.1.flatMap yf),.sl r o c.2.length (c.2.flatMap yf)]):=by simp only[XD,Xv,z,D,bK,ap,aU]
 simp only[Je,I,U,K,M,ap,aU];have B:yH (List.flatMap V.toks [.agg [.sl s n1 c.1.length (c.1.flatMap yf),.sl r o c.2.length (c.2.flatMap yf)],.bool is,.int .i64 n,w])=true:=by rw[toks4 _ _ _ _ G,jdi,jdi];rcases j with rfl|⟨_,rfl⟩<;>rcases h with rfl|⟨_,rfl⟩<;>rfl
 rw[zb B];intro q f;rw[aQ]at f;rcases f with f|f;rcases j with rfl|⟨_,rfl⟩;simp at f;simp at f;subst f;simp;rcases h with rfl|⟨_,rfl⟩;simp at f;simp at f;subst f;simp
end Go.Pv.T
namespace Go.Pv.T
open Go Go.Pv
end Go.Pv.T
namespace Go.Pv.T
open Go Go.Pv
end Go.Pv.T
namespace Go.Pv.T
open Go Go.Pv
end Go.Pv.T
namespace Go.Pv.T
open Go Go.Pv
end Go.Pv.T
namespace Go.Pv.T
open Go Go.Pv
section
end
def OneV (x:List Int×Int×Int) (v:V):Prop:=∃t n,v=.tup [.sl t n x.1.length (x.1.flatMap yf),.int .i64 x.2.2]
section
variable {g:Hist'}{lvl left:Int}{M:List Int}{k u ub:Nat}{ob:ZO}
def jv9 {x:Int}(a:-9223372036854775808<=x) (b:x<9223372036854775808):IntKind.i64.wrap x=x:=jk zO zO
def sv58 {Yf:YF}{tk:Nat->Bool}{ro base:Nat}(D:Small g) (w:g.ts.length<=8) (P:(yi g).length<=100) (K:jX g=true) (F:Xl g M=true) (h:ob k=some ⟨u,.cells (yL g lvl left)⟩) (l:ro<=u) (G:0<=left) (O:left<9223372036854775808) {I:Option (Nat×Nat)}{mn:Bool} :
 ∃r,EvS E Yf.y 58 [.ptr k u 0,.sl I mn M.length (M.flatMap yf)] ob tk ro base ub r/\OneV (Qt g lvl M left) r.1/\r.2.1=upd ob k (some ⟨u,.cells (yL g lvl (left-(Qt g lvl M left).2.1))⟩)/\ub<=r.2.2.2:=by
 have L:=XE F;obtain⟨a1,a2,_⟩:=je4 (lvl:=lvl) K F G (dr left);obtain⟨v,i,a⟩:=ev101 D w (mn:=mn) (M:=M) zO left;obtain⟨B,j,b⟩:=ev102 D w (mn:=mn) (M:=M) lvl zO;refine JI rfl zQ ?_;show wpC E Yf S58.body _ (Jw S58.res _);by_cases d:lvl=3
 ·have c:Qt g lvl M left=jbi g M left:=by simp[Qt,d]
  rw[c]at a1 a2 ⊢;have f:IntKind.i64.wrap (left-(jbi g M left).2.1)=left-(jbi g M left).2.1:=jv9 zO zO;conv in(occs:=*)S58=>all_goals cbv
  simp(disch:=try exact zD)[S58,j0,h,yL,d];obtain⟨s,q,a⟩:=a;refine jL i zH rfl zH ?_;refine jrb a rfl λws add o=>?_;obtain⟨x,y,z,rfl,H,N,J⟩:=map3 o;obtain⟨p,rfl⟩:=Qk H;obtain rfl:=jdj N;obtain rfl:=jdj J;simp(disch:=try exact zD)[j0,h,yL,d,j6,V.cells,V.leaf,f];refine⟨l,jc3 zS ⟨⟨p,s,zS⟩,by funext key;simp[yg],by simp;omega⟩⟩
 ·have c:Qt g lvl M left=if left=0 then ([],0,13) else ((jug g lvl M).1,1,(jug g lvl M).2):=by simp[Qt,d]
  rw[c]at a1 a2 ⊢;have m:(lvl==3)=false:=by simpa using d
  by_cases n:left=0
  ·conv in(occs:=*)S58=>all_goals cbv
   simp(disch:=try exact zD)[S58,j0,h,yL,d,m,n];exact jc3 zS ⟨⟨none,true,zS⟩,by funext key;simp[yg];intro e;rw[e,h,yL,n],by simp;omega⟩
  ·have t:(left==0)=false:=by simpa using n
   have f:IntKind.i64.wrap (left-1)=left-1:=jv9 zO zO;obtain⟨s,q,b⟩:=b;conv in(occs:=*)S58=>all_goals cbv
   simp(disch:=try exact zD)[S58,j0,h,yL,d,m,n,t,j6,V.cells,V.leaf,f];refine⟨l,?_⟩;refine jL j zH rfl zH ?_;refine jxk b λp add=>?_;simp(disch:=try exact zD);exact jc3 zS ⟨⟨p,s,zS⟩,by funext key;simp[yg],by simp;omega⟩
end
end Go.Pv.T
