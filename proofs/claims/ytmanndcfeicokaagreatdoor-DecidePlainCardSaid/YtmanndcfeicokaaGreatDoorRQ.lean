/- Part. -/
import Derived.Test.YtmanndcfeicokaaGreatDoorRP
set_option maxRecDepth 100000
set_option maxHeartbeats 8000000
set_option linter.all false
namespace Go.Pv.T
open Go Go.Pv
def ev17 {g:Hist'}(u:Small g) (q:jP g=true):Ev E 17 [.agg (yb g)] (.int .i64 (XV (yx g) 1)):=by
 obtain⟨O,m,e⟩:=ev37 u;have o:=jk3 u;have c:=jqe q;rw[jje 1 (jb0 q)];refine jT rfl ?_;obtain⟨C,F⟩:∃C,choR g=C:=⟨_,rfl⟩;rw[F]at e o c ⊢;obtain⟨R,y⟩:∃R,XV C 1=R:=⟨_,rfl⟩;conv in(occs:=*)F17=>all_goals cbv
 simp[yb,ya,y];refine jH m zI rfl zI ?_;refine Jw e λw v=>?_;simp;refine j5 [(4,5),(8,21)] C.length (λi s=>s.tm 5=.int .i64 i/\∃n,s.tm 4=.int .i64 n/\0<=n/\n<=1000000/\XV (C.drop i) n=R) rfl rfl ⟨zS,1,zS,zO,zO,by simpa using y⟩ ?_;rintro i s N ⟨B,n,z,M,J,h⟩ f;have x:s.tm 3=.sl w false C.length (C.flatMap Ye):=by rw[f.t 3 zS];simp
 have D:s.df=[]:=by rw[f.d];simp
 clear f;by_cases a:i<C.length;have l:=jR a zO;have L:=jem C a;have b:jv 1 (.sl w false C.length (C.flatMap Ye)) (.int .i64 (i:Int))=some (.eptr (C.flatMap Ye) (i*1)):=by simp only[J1,j1 Xx];rw[zb zP];rfl
 rw[bx]at b;have H:=c _ (au a);rw[aP a,XV]at h;have G:=mul_lt M J H;have j:=cap6_lt G.1;have p:=jg (n:=n*((C[i]).2.length:Int)) zO zO;have I:=min6 (n*((C[i]).2.length:Int));generalize (C[i]).2.length=k at *;simp[B,x,z,a,b,L,p,I,l];first|exact⟨a,j.1,j.2,h⟩|exact⟨j.1,j.2,h⟩
 have:i=C.length:=zO;subst this;rw[dk,XV]at h;simp[B,x,z];exact j3 (by simp[D]) (by simp[h]) rfl
def ev41 {g:Hist'}(F:Small g):∃v,Ev E 41 [.agg (yb g)] v/\jth (QY g) v:=by
 obtain⟨vc,J,w⟩:=ev73 F;have o:=ev30 F;have O:=js2 F;have G:=jqd F;refine JX rfl zQ ?_;have e:∀{st:St}{x:Int},st.df=[]->st.tm 2=.sl none true 0 []->st.tm 3=.int .i64 x->QY g=(x,[])->WQ [.t 2,.t 3] (jth (QY g)) .ret st:=by intro st x hd h2 h3 hp;rw[hp];exact jhy (ns:=[2,3]) (vs:=[.sl none true 0 [],.int .i64 x]) (λr h=>h) hd (by simp[h2,h3]) zS zS ⟨jM rfl,jM rfl,trivial⟩
 obtain⟨P,hP⟩:∃P,jth (QY g)=P:=⟨_,rfl⟩;rw[hP]at e ⊢;obtain⟨C,I⟩:∃C,yx g=C:=⟨_,rfl⟩;rw[I]at w O G;cases y:jP g
 ·rw[y]at o;conv in(occs:=*)F41=>all_goals cbv
  simp[yb,ya];refine jH o zI rfl zI ?_;simp;exact e (x:=4) rfl zS zS (by simp[QY,y])
 rw[y]at o;conv in(occs:=*)F41=>all_goals cbv
 simp[yb,ya];refine jH o zI rfl zI ?_;simp[ya];refine jH J zI rfl zI ?_;refine Jw w λZ b0=>?_;simp;refine j5 [(2,4),(6,6),(13,26)] C.length (λi s=>s.tm 13=.int .i64 i/\jh (C.take i)=true/\Grow s.tk 0 s.nx yf 1 (jc4 C i) (s.tm 4)) rfl rfl ⟨zS,by simp[jh],by simp[jc4];exact Grow.nil _ _ _ _ _⟩ ?_;rintro i s hi ⟨m,n,S⟩ f;have z:s.tm 11=.sl Z C.isEmpty C.length (C.flatMap Ye):=by rw[f.t 11 zS];simp
 have q:s.tm 12=.int .i64 C.length:=by rw[f.t 12 zS];simp
 have U:s.df=[]:=by rw[f.d];simp
 clear f;by_cases j:i<C.length;have H:=jR j zO;have N:=jem C j;have p:jv 1 (.sl Z C.isEmpty C.length (C.flatMap Ye)) (.int .i64 (i:Int))=some (.eptr (C.flatMap Ye) (i*1)):=by simp only[J1,j1 Xx];rw[zb zP];rfl
 rw[bx]at p;have k:C.take (i+1)=C.take i++[C[i]]:=by rw[av j]
 obtain⟨c,hc⟩:∃c,C[i]=c:=⟨_,rfl⟩;have D:c∈C:=hc▸au j;rw[hc]at N k;obtain⟨b,l⟩:=c;cases l with
 |nil=>
  simp[m,z,q,j,p,N];refine e (x:=3) (by simp[U]) zS zS ?_;have:jh C=false:=by rw[ep];intro h;have:=aw.1 h _ D;simp at this
  simp[QY,y,I,this]
 |cons x l=>
  have L:((l.length:Int)+1==0)=false:=by simp;omega
  have B:jv 1 (.sl none b (l.length+1) (yf x++l.flatMap yf)) (.int .i64 0)=some (.eptr (yf x++l.flatMap yf) 0):=by simp only[J1,ap,j1 j6];rw[zb zP];rfl
  have Q:(yf x++l.flatMap yf)[0]? = some (.int .i64 x):=rfl;have b5:(jc4 C i).length=i:=by unfold jc4;rw[bt,ai];omega
  simp[m,z,q,j,p,N,L,B,Q];refine jF (cs:=yf x) (by simp[j2,yf]) rfl rfl ?_;simp;refine Xo (f:=yf) (lo:=0) (hi:=s.nx) (l:=jc4 C i) (a:=x) (v:=s.tm 4) (S.mono (λu _ _ h=>by simp[jb,h]) zK) zS (by simp[yp,yf]) j6 zQ rfl zO zO (λb6 a0=>?_);have T:jc4 C i++[x]=jc4 C (i+1):=by unfold jc4;rw[k,bE];rfl
  have e2:(jc4 C i).length+1=(jc4 C (i+1)).length:=by rw[<- T];simp
  have e3:jc4 C (i+1)≠[]:=by rw[<- T];simp
  have e4:jh (C.take (i+1))=true:=by rw[k];unfold jh at n ⊢;rw[eZ,n];rfl
  rw[T,e2];obtain⟨M,X⟩:∃M,jc4 C (i+1)=M:=⟨_,rfl⟩;rw[X]at e3 ⊢;simp[m,H,e4,X];exact⟨j,.inr ⟨e3,_,rfl,by simp[jb],cw _,zO⟩⟩
 have:i=C.length:=zO;subst this;rw[bh]at n;have eh:jc4 C C.length=C.map hd1:=by unfold jc4;rw[bh]
 rw[eh]at S;obtain⟨t,ht⟩:=S.form;simp[m,q];have hf:QY g=(0,C.map hd1):=by simp[QY,y,I,n]
 rw[<- hP,hf];refine jhy (ns:=[2,3]) (vs:=[s.tm 4,.int .i64 0]) (λr h=>h) (by simp[U]) zS zS zS ⟨?_,jM rfl,trivial⟩;rw[ht];exact XP rfl (ja _ _ _ _ _)
def sv100 {Yf:YF}{ob:ZO}{tk:Nat->Bool}{ro base ub G x v D lo uo L u n i q:Nat}{F z:Option (Nat×Nat)}{b f:Bool}{J:List Int}{C:Cs'}{cs:List V}
 (ha:ob G=some ⟨x,.cells [.sl F b n (J.flatMap yf)]⟩) (Q:ob v=some ⟨D,.cells [.sl z f n (C.flatMap Ye)]⟩) (U:ob lo=some ⟨uo,.cells [.osl L u 0 n 1]⟩) (S:ob L=some ⟨u,.cells cs⟩) (p:cs.length=n)
 (Z:J.length=n) (a0:C.length=n) (hi:i<n) (P:J[i]? = some (q:Int)) (a:q<(C[i]).2.length) (w:(C[i]).2.length<=41) (m:ro<=u) :
 ∃r,EvS E Yf.y 100 [.int .i64 (i:Int),.ptr G x 0,.ptr v D 0,.ptr lo uo 0] ob tk ro base ub r/\r.1=.bool (decide (0<We (C[i]).2 q)) /\
  (∀k,r.2.1 k=if k=L then some ⟨u,.cells (j2 cs i [.int .i64 ((C[i]).2.getD (We (C[i]).2 q) 0)])⟩ else ob k)/\r.2.2.1=tk/\ub<=r.2.2.2:=by
 refine J6 rfl zQ ?_;show wpC E Yf S100.body _ (Jh S100.res _);have o:=jem C (show i<C.length by omega);have I:(J.flatMap yf)[i]? = some (.int .i64 (q:Int)):=by have H:=ak.1 P;rw[jn J H.1,H.2]
 have h:jv 1 (.sl F b n (J.flatMap yf)) (.int .i64 (i:Int))=some (.eptr (J.flatMap yf) i):=by simp only[J1,j1 j6];rw[zb zP];simp
 have c:jv 1 (.sl z f n (C.flatMap Ye)) (.int .i64 (i:Int))=some (.eptr (C.flatMap Ye) i):=by simp only[J1,j1 Xx];rw[zb zP];simp
 have t:=j4j (l:=L) (u:=u) (n:=n) (kk:=.i64) (X:=(i:Int)) rfl hi;obtain⟨X,M⟩:∃X,C[i]=X:=⟨_,rfl⟩;obtain⟨nx,X⟩:=X;rw[M]at o a w ⊢;simp only at o a w ⊢;have T:=jR (i:=q) (N:=41) zO zO;have B:We X q<X.length:=ik _ zO;have g:YL .rem (.int .i64 ((q:Int)+1)) (.int .i64 (X.length:Int))=some (.int .i64 (We X q:Nat)):=by
  have h0:¬(X.length:Int)=0:=zO;have e:((q:Int)+1).tmod (X.length:Int)=(We X q:Nat):=by rw[show(q:Int)+1=((q+1:Nat):Int) from by omega,<- Int.ofNat_tmod];rfl
  simp[YL,Xb,e];try (intro e;rw[e]at a;simp at a)
 have j:jv 1 (.sl none nx X.length (X.flatMap yf)) (.int .i64 ((We X q:Nat):Int))=some (.eptr (X.flatMap yf) (We X q)):=by simp only[J1,j1 j6];rw[zb zP];simp
 have h3:=jn X B;have O:X.getD (We X q) 0=X[We X q]:=by simp[B]
 rw[O];generalize We X q=kq at *;have s:i+1<=n:=hi;conv in(occs:=*)S100=>all_goals cbv
 simp[ya,ha,Q,U,S,h,c,o,I,T,g,j,h3,t,m,p,s];refine JN zS ⟨zS,λk=>?_,by simp[jk],by simp;try omega⟩;simp
def jdt (g:Hist') (M:List Int):Option (List Int):=if (XB g M).isSome then X7 (yx g) M else none
def jqp (r:Option (List Int)) (v:V):Prop:=TupS [.sl none (r.getD []).isEmpty (r.getD []).length ((r.getD []).flatMap yf),.bool r.isSome] v
def jle (C:Cs') (M:List Int) (i:Nat):List Int:=M.take i++(C.drop i).map hd1
def jjr {C:Cs'}{M:List Int}{i:Nat}(h:C.length=M.length) (hi:i<=C.length):(jle C M i).length=C.length:=by unfold jle;rw[ap,ai,bt,bc];omega
def jqv {C:Cs'}{M:List Int}{i:Nat}(h:C.length=M.length) (hi:i<C.length) (x:Int):j2 ((jle C M (i+1)).flatMap yf) i [.int .i64 x]=(M.take i++x::(C.drop (i+1)).map hd1).flatMap yf:=by have a:=jau (f:=yf) (sz:=1) j6 x (jle C M (i+1)) i (by rw[jjr h zO];exact hi);rw[bx]at a;rw[show([.int .i64 x]:List V)=yf x from rfl,a];congr 1;unfold jle;rw[av (show i<M.length by omega),aY,List.set_append_right _ _ (by rw[ai];omega),ai];rw[show i-min i M.length=0 by omega];rfl
def j9x {c:Bool×List Int}(h:0<c.2.length):c.2.getD 0 0=hd1 c:=by
 unfold hd1;cases a:c.2 with
 |nil=>rw[a]at h;simp at h
 |cons x l=>rfl
def jl3 {C:Cs'}{M:List Int}{i q:Nat}(h:C.length=M.length) (hi:i<C.length) (c:yH (C[i]).2 (M[i]' zO) 0=q) (j:q<(C[i]).2.length) (k:X7 (C.drop (i+1)) (M.drop (i+1))=none) :
 if 0<We (C[i]).2 q then X7 C M=some (M.take i++(C[i]).2.getD (We (C[i]).2 q) 0::(C.drop (i+1)).map hd1)
 else (C[i]).2.getD (We (C[i]).2 q) 0=hd1 C[i]/\X7 (C.drop i) (M.drop i)=none:=by
 have g:i<M.length:=zO;have e:X7 (C.drop i) (M.drop i)=if (q:Int)+1<(C[i]).2.length then some ((C[i]).2.getD ((q:Int)+1).toNat 0::(C.drop (i+1)).map hd1) else none:=by rw[aP hi,aP g];simp only[X7,k,c]
 unfold We;by_cases a:q+1<(C[i]).2.length;rw[dO a,zb zO];rw[zb zO]at e;have f:=jir C M i _ zO h e;rw[f,show((q:Int)+1).toNat=q+1 by omega];have b:q+1=(C[i]).2.length:=zO;rw[b,iu,za zO];rw[za zO]at e;exact⟨j9x zO,e⟩
def sv99z {Yf:YF}(b:Bool) {ob:ZO}{tk:Nat->Bool}{ro base ub:Nat}(g:ro<=ub):∃r,EvS E Yf.y 99 [yl b yf []] ob tk ro base ub r/\(Old ob ub r.2.1/\r.2.2.1=tk/\ub<=r.2.2.2/\r.1.cells=[r.1]/\r.1.leaf=true):=by
 cases b with
 |true=>obtain⟨r,e,a,c,f,h⟩:=sv99n (Yf:=Yf) (ob:=ob) (tk:=tk) (ro:=ro) (base:=base) (ub:=ub);exact⟨r,e,by rw[c];exact λ_ _=>rfl,f,h,by rw[a];rfl,by rw[a];rfl⟩
 |false=>obtain⟨r,e,⟨m,_,_,a,_⟩,c,f,h⟩:=sv99 (Yf:=Yf) [] zS (ob:=ob) (tk:=tk) (base:=base) g;exact⟨r,e,c,f,h,by rw[a];rfl,by rw[a];rfl⟩
def ev57 {g:Hist'}(hs:Small g) {b:Bool}(M:List Int) (hM:M.length<=1000000) (hb:b=true->M=[]):∃v,Ev E 57 [.agg (yb g),yl b yf M] v/\jqp (jdt g M) v:=by
 obtain⟨vp,c3,p⟩:=ev98 hs (b:=b) M hM;have U:=jqd hs;have j:∀{st:St},st.df=[]->st.tm 4=.sl none true 0 []->st.tm 5=.bool false->jdt g M=none->WQ [.t 4,.t 5] (jqp (jdt g M)) .ret st:=by intro st hd h4 h5 hp;rw[hp];exact jhy (ns:=[4,5]) (vs:=[.sl none true 0 [],.bool false]) (λr h=>h) hd (by simp[h4,h5]) zS zS ⟨jM rfl,jM rfl,trivial⟩
 refine JX rfl zQ ?_;obtain⟨P,hP⟩:∃P,jqp (jdt g M)=P:=⟨_,rfl⟩;rw[hP]at j ⊢;cases u:XB g M with
 |none=>
  rw[u]at p;conv in(occs:=*)F57=>all_goals cbv
  simp[yb,ya];refine jH c3 zH rfl zH ?_;refine jre p λt1 t2 add=>?_;simp[ya,j2];exact j zS zS zS (by simp[jdt,u])
 |some J=>
  rw[u]at p;have e:=u;unfold XB at e;split at e;case isFalse=>cases e
  rename_i x;simp only[ab]at e;simp only[aj,zh]at x;obtain⟨hw,F,B⟩:=x;have G:jdt g M=X7 (yx g) M:=by simp[jdt,u]
  obtain⟨C,hC⟩:∃C,yx g=C:=⟨_,rfl⟩;unfold jlb at p;rw[hC]at U F B e G p;have b8:J.length=M.length:=by rw[<- e,jku C M F];exact F
  have H:=jkv C M;rw[e]at H B;conv in(occs:=*)F57=>all_goals cbv
  simp[yb,ya];refine jH c3 zH rfl zH ?_;refine jre p λt1 t2 add=>?_;simp[ya,j2];by_cases T:M=[];subst T;have d2:C=[]:=cD.1 (by simpa using F);subst d2;refine jJ (vs:=[yl b yf []]) zS rfl (sv99z b zS) ?_;rintro v S c6 a ⟨l,O,I,c4,b7⟩;simp only at l O I c4 b7;simp[ya,c4,b7];refine jb5 1 ?_;have wm:IntKind.i64.wrap (-1) = -1:=by decide
  simp[wm];exact j zS zS zS (by rw[G];rfl);have c8:b=false:=by cases b with|false=>rfl|true=>exact zf (hb rfl) T
  subst c8;refine jJ (vs:=[yl false yf M]) zS rfl (sv99 M zO zS) ?_;rintro v S c6 a ⟨⟨m,b6,d3,hv,c2⟩,l,O,I⟩;simp only at d3 hv c2 l O I;subst hv;have oA:S 1409=some ⟨704,.cells [.sl t2 false J.length (J.flatMap yf)]⟩:=by rw[l 1409 (by intro k hk;omega)];simp
  have oC:S 1281=some ⟨640,.cells [.sl t1 C.isEmpty C.length (C.flatMap Ye)]⟩:=by rw[l 1281 (by intro k hk;omega)];simp
  have d5:0<M.length:=dY.2 T;have wM:IntKind.i64.wrap ((M.length:Int)-1)=(M.length:Int)-1:=jg zO zO;simp[ya,wM];have et:jle C M M.length=M:=by unfold jle;rw[bh,bB zO];simp
  have c7:X7 (C.drop M.length) (M.drop M.length)=none:=by rw[bB zO];rfl
  have n1:¬1409=2*a+1:=zO;have n2:¬704=a:=zO;have n3:¬1281=2*a+1:=zO;have n4:¬640=a:=zO;have n5:¬2*m+1=2*a+1:=zO;have n6:¬m=a:=zO;have n7:¬2*m=2*a:=zO;refine j5 [(4,5),(11,11),(27,34)] M.length (λk s=>s.tm 11=.int .i64 ((M.length:Int)-1-k)/\s.ob 1409=some ⟨704,.cells [.sl t2 false J.length (J.flatMap yf)]⟩/\s.ob 1281=some ⟨640,.cells [.sl t1 C.isEmpty C.length (C.flatMap Ye)]⟩ /\
   s.ob (2*a+1)=some ⟨a,.cells [.osl (2*m+1) m 0 M.length 1]⟩/\s.ob (2*m+1)=some ⟨m,.cells ((jle C M (M.length-k)).flatMap yf)⟩/\X7 (C.drop (M.length-k)) (M.drop (M.length-k))=none) rfl rfl ⟨zS,by simp[oA,n1],by simp[oC,n3],zS,by simp[et,c2,n7],by simpa using c7⟩ ?_
  rintro k s hk ⟨y,pA,pC,pO,pL,hT⟩ f;have d1:s.tm 10=.fn (.func 100) [] [.ptr 1409 704 0,.ptr 1281 640 0,.ptr (2*a+1) a 0]:=by rw[f.t 10 zS];simp
  have f9:s.tm 9=.ptr (2*a+1) a 0:=by rw[f.t 9 zS];simp
  have fd:s.df=[]:=by rw[f.d];simp
  have fr:s.ro=0:=by rw[f.r];simp
  clear f;by_cases d0:k<M.length;obtain⟨i,hi⟩:∃i:Nat,M.length-(k+1)=i:=⟨_,rfl⟩;have d4:M.length-k=i+1:=zO;have X:i<M.length:=zO;have w:i<C.length:=zO;have c9:(M.length:Int)-1-k=(i:Int):=zO;rw[d4]at pL hT;rw[c9]at y;have N:=H i w X;have d8:0<=yH (C[i]).2 M[i] 0:=by simpa using aw.1 B _ (aJ N)
  have c5:=jkx M[i] (C[i]).2 0;obtain⟨q,hq⟩:∃q:Nat,yH (C[i]).2 M[i] 0=q:=⟨(yH (C[i]).2 M[i] 0).toNat,zO⟩;rw[hq]at N c5;have b5:q<(C[i]).2.length:=zO;have b9:=(U _ (au w)).2;have c:=jl3 F w hq b5 hT;have c1:=jqv F w (((C[i]).2.getD (We (C[i]).2 q) 0));have a0:(0:Int)<=i:=zO;have Q:((jle C M (i+1)).flatMap yf).length=M.length:=by rw[j1 j6,jjr F zO,bx,F]
  have wi:IntKind.i64.wrap ((i:Int)-1)=(i:Int)-1:=jg zO zO;simp[y,d1,a0];refine jzd (f:=100) (first:=[]) (captured:=[.ptr 1409 704 0,.ptr 1281 640 0,.ptr (2*a+1) a 0]) (vs:=[.int .i64 (i:Int),.ptr 1409 704 0,.ptr 1281 640 0,.ptr (2*a+1) a 0]) zS zS rfl
   (sv100 (i:=i) (q:=q) (J:=J) (C:=C) (n:=M.length) (cs:=(jle C M (i+1)).flatMap yf) (by simpa[b8] using pA) (by simpa[F] using pC) (by simpa using pO) (by simpa using pL) Q b8 F X N b5 b9 (by simp[fr])) ?_
  rintro v L d9 d7 ⟨hv,o,_,b0⟩;simp only at hv o b0;subst hv;have qA:L 1409=some ⟨704,.cells [.sl t2 false J.length (J.flatMap yf)]⟩:=by rw[o,za zO];simpa using pA
  have qC:L 1281=some ⟨640,.cells [.sl t1 C.isEmpty C.length (C.flatMap Ye)]⟩:=by rw[o,za zO];simpa using pC
  have qO:L (2*a+1)=some ⟨a,.cells [.osl (2*m+1) m 0 M.length 1]⟩:=by rw[o,za zO];simpa using pO
  have qL:=o (2*m+1);rw[zb rfl,c1]at qL;clear o;by_cases hr:0<We (C[i]).2 q;rw[zb hr]at c;simp[hr,f9,ya,qO];rw[<- hP,G,c];generalize (C[i]).2.getD (We (C[i]).2 q) 0=z at *;have D:(M.take i++z::(C.drop (i+1)).map hd1).length=M.length:=by rw[ap,ai,bg,bt,bc];omega
  have c0:(M.take i++z::(C.drop (i+1)).map hd1).isEmpty=false:=zS;generalize M.take i++z::(C.drop (i+1)).map hd1=Z at *;unfold jqp;simp only[cz,c0,D];refine jhy (ns:=[4,5]) (vs:=[.osl (2*m+1) m 0 M.length 1,.bool true]) (λr h=>h) (by simp[fd]) zS zS zS ⟨?_,jM rfl,trivial⟩;exact XP rfl (jce (by simpa using qL) (by rw[j1 j6,bx,D]) (by simp[fr]) (by simp[yf,V.pureLeaf]));rw[za hr]at c;have d6:We (C[i]).2 q=0:=zO;have ei:jle C M i=M.take i++(C[i]).2.getD (We (C[i]).2 q) 0::(C.drop (i+1)).map hd1:=by unfold jle;rw[aP w,aZ,c.1]
  rw[<- ei]at qL;simp[hr,y,wi];rw[hi];exact⟨d0,zO,qA,qC,qO,qL,c.2⟩;have:k=M.length:=zO;subst this;have b6:(M.length:Int)-1-M.length = -1:=zO;rw[b6]at y;simp[y];refine j (by simp[fd]) zS zS ?_;rw[G];simpa using hT
def jne (k:Int):∀(l:List Int) (n q:Nat),yH l k n=(n+q:Nat)->l[q]? = some k/\∀j,j<q->∀x,l[j]? = some x->¬x=k
 |[],n,q,h=>by simp only[yH]at h;omega
 |x::r,n,q,h=>by
  rw[yH]at h;split at h;rename_i a;have:q=0:=zO;subst this;simp only[zh]at a;exact⟨by simp[a],λj f=>by omega⟩;rename_i a;simp only[zh]at a;cases q with
  |zero=>have:=idxI_ge_n k r (n+1);omega
  |succ q=>
   have c:=jne k r (n+1) q zO;refine⟨by simpa using c.1,λj f y b=>?_⟩;cases j with
   |zero=>simp only[aE,ab]at b;subst b;exact λe=>a e.symm
   |succ j=>exact c.2 j zO y (by simpa using b)
where
 idxI_ge_n (k:Int):∀(l:List Int) (n:Nat),yH l k n = -1\/(n:Int)<=yH l k n
  |[],n=>.inl rfl
  |x::r,n=>by
   rw[yH]
   split
   ·exact .inr (dI _)
   ·rcases idxI_ge_n k r (n+1) with h|h
    ·exact .inl h
    ·exact .inr zO
def jsm:∀{C D:Cs'}(M:List Int),C.map (·.2)=D.map (·.2)->idxJ C M=idxJ D M
 |[],[],_,_=>rfl
 |c::C,d::D,[],_=>rfl
 |c::C,d::D,m::M,h=>by simp only[aZ,dT]at h;simp only[idxJ,h.1,jsm M h.2]
 |[],_::_,_,h=>by simp at h
 |_::_,[],_,h=>by simp at h
def jp4:∀{C D:Cs'},C.map (·.2)=D.map (·.2)->C.map hd1=D.map hd1
 |[],[],_=>rfl
 |c::C,d::D,h=>by simp only[aZ,dT]at h;rw[aZ,aZ,jp4 h.2];simp only[hd1,h.1]
 |[],_::_,h=>by simp at h
 |_::_,[],h=>by simp at h
def jms:∀{C D:Cs'}(M:List Int),C.map (·.2)=D.map (·.2)->X7 C M=X7 D M
 |[],[],_,_=>rfl
 |c::C,d::D,[],_=>rfl
 |c::C,d::D,m::M,h=>by simp only[aZ,dT]at h;simp only[X7,h.1,jms M h.2,jp4 h.2]
 |[],_::_,_,h=>by simp at h
 |_::_,[],_,h=>by simp at h
def ev62 {g:Hist'}(hs:Small g) {b:Bool}(M:List Int) (hM:M.length<=1000000) (hp:(XB g M).isSome=true):∃v,Ev E 62 [.agg (yb g),yl b yf M] v/\jqp (jdt g M) v:=by
 obtain⟨vc,d0,b8⟩:=ev37 hs;have T:jdt g M=X7 (yx g) M:=by simp[jdt,hp]
 unfold XB at hp;split at hp;case isFalse=>cases hp
 rename_i F;clear hp;simp only[aj,zh]at F;obtain⟨hw,hl,w⟩:=F;have b0:=jb0 hw;have b7:=jqe hw;rw[jms M b0]at T;rw[jsm M b0]at w;rw[j0o hw]at hl;obtain⟨C,hC⟩:∃C,choR g=C:=⟨_,rfl⟩;rw[hC]at b8 T w hl b7;clear hC b0;have U:=jkv C M;obtain⟨J,hJ⟩:∃J,idxJ C M=J:=⟨_,rfl⟩;rw[hJ]at w U;refine JX rfl zQ ?_;obtain⟨P,hP⟩:∃P,jqp (jdt g M)=P:=⟨_,rfl⟩;rw[hP];have wM:IntKind.i64.wrap ((M.length:Int)-1)=(M.length:Int)-1:=jg zO zO;conv in(occs:=*)F62=>all_goals cbv
 simp[yb,ya];refine jH d0 zI rfl zI ?_;refine Jw b8 λtc d9=>?_;simp;refine jJ (vs:=[yl b yf M]) zS rfl (sv38 b M zO zS) ?_;rintro v e3 e0 e1 ⟨⟨m,c5,d7,hv,c7⟩,c4,d6,d1⟩;simp only at d7 hv c7 c4 d6 d1;subst hv;simp[wM];have et:jle C M M.length=M:=by unfold jle;rw[bh,bB zO];simp
 have d4:X7 (C.drop M.length) (M.drop M.length)=none:=by rw[bB zO];rfl
 refine j5 [(4,5),(8,9),(17,63)] M.length (λk s=>s.tm 8=.int .i64 ((M.length:Int)-1-k)/\s.ob (2*m+1)=some ⟨m,.cells ((jle C M (M.length-k)).flatMap yf)⟩/\X7 (C.drop (M.length-k)) (M.drop (M.length-k))=none) rfl rfl ⟨zS,by simp[et,c7],by simpa using d4⟩ ?_;rintro k s hk ⟨h8,pL,hT⟩ f;have f1:s.tm 1=yl b yf M:=by rw[f.t 1 zS];simp
 have f6:s.tm 6=.sl tc false C.length (C.flatMap Ye):=by rw[f.t 6 zS];simp
 have f7:s.tm 7=.osl (2*m+1) m 0 M.length 1:=by rw[f.t 7 zS];simp
 have fd:s.df=[]:=by rw[f.d];simp
 have fr:s.ro=0:=by rw[f.r];simp
 clear f;by_cases d5:k<M.length;obtain⟨i,hi⟩:∃i:Nat,M.length-(k+1)=i:=⟨_,rfl⟩;have d8:M.length-k=i+1:=zO;have p:i<M.length:=zO;have y:i<C.length:=zO;have e8:(M.length:Int)-1-k=(i:Int):=zO;rw[d8]at pL hT;rw[e8]at h8;have d2:=U i y p;have e2:0<=yH (C[i]).2 M[i] 0:=by simpa using aw.1 w _ (aJ d2)
 have c9:=jkx M[i] (C[i]).2 0;obtain⟨q,hq⟩:∃q:Nat,yH (C[i]).2 M[i] 0=q:=⟨(yH (C[i]).2 M[i] 0).toNat,zO⟩;rw[hq]at c9;have S:q<(C[i]).2.length:=zO;have a0:=b7 _ (au y);have a:=jl3 hl y hq S hT;obtain⟨B,Q⟩:=jne M[i] (C[i]).2 0 q (by rw[hq];omega);have c:=jqv hl y (((C[i]).2.getD (We (C[i]).2 q) 0));have c1:(0:Int)<=i:=zO;have H:((jle C M (i+1)).flatMap yf).length=M.length:=by rw[j1 j6,jjr hl zO,bx,hl]
 have wi:IntKind.i64.wrap ((i:Int)-1)=(i:Int)-1:=jg zO zO;have ei:jle C M i=M.take i++hd1 C[i]::(C.drop (i+1)).map hd1:=by unfold jle;rw[aP y,aZ]
 have h1:=jem C y;have h2:=jn M p;have G:jv 1 (.sl tc false C.length (C.flatMap Ye)) (.int .i64 (i:Int))=some (.eptr (C.flatMap Ye) i):=by simp only[J1,j1 Xx];rw[zb zP];simp
 have c2:=j4j (l:=2*m+1) (u:=m) (n:=M.length) (kk:=.i64) (X:=(i:Int)) rfl p;obtain⟨Mi,d3⟩:∃x,M[i]=x:=⟨_,rfl⟩;rw[d3]at h2 B Q;obtain⟨X,hX⟩:∃X,C[i]=X:=⟨_,rfl⟩;obtain⟨nx,X⟩:=X;rw[hX]at h1 S a0 a B Q c ei;simp only at h1 S a0 a B Q c;have D:∀j:Nat,j<X.length->jv 1 (.sl none nx X.length (X.flatMap yf)) (.int .i64 (j:Int))=some (.eptr (X.flatMap yf) j):=by intro j hj;simp only[J1,j1 j6];rw[zb zP];simp
 simp[h8,c1];refine j5 [(9,9),(21,34)] q (λj O=>O.tm 9=.int .i64 (j:Nat)/\O.ob=s.ob) rfl rfl ⟨zS,zS⟩ ?_;rintro j O hj ⟨h9,c3⟩ f;have g1:O.tm 1=yl b yf M:=by rw[f.t 1 zS];simp[f1]
 have g6:O.tm 6=.sl tc false C.length (C.flatMap Ye):=by rw[f.t 6 zS];simp[f6]
 have g7:O.tm 7=.osl (2*m+1) m 0 M.length 1:=by rw[f.t 7 zS];simp[f7]
 have g8:O.tm 8=.int .i64 (i:Int):=by rw[f.t 8 zS];simp[h8]
 have gd:O.df=[]:=by rw[f.d];simp[fd]
 have gr:O.ro=0:=by rw[f.r];simp[fr]
 clear f;rw[<- c3]at pL;have wj:=jR (i:=j) (N:=42) zO zO;have h3:=jn X (show j<X.length by omega);by_cases b9:j<q;have L:(X[j] != Mi)=true:=by have:=Q j b9 X[j] (aa zO);simpa using this
 simp[h9,g1,g6,g8,G,h1,D j zO,h3,j4 j6,p,h2,L,wj];exact⟨b9,c3⟩;have:j=q:=zO;subst this;have L:(X[j] != Mi)=false:=by have e:=aa S;rw[e]at B;simp only[ab]at B;simp[B]
 have c8:i+1<=M.length:=p;unfold We at a c;by_cases hr:j+1<X.length;rw[dO hr,zb zO]at a;rw[dO hr]at c;have h4:=jn X hr;have hg:X.getD (j+1) 0=X[j+1]:=by simp[hr]
 rw[hg]at a c;have b5:(j:Int)+1<X.length:=zO;have o:=D (j+1) hr;simp only[Int.natCast_add,Int.cast_ofNat_Int]at o;simp[h9,g1,g6,g7,g8,G,h1,D j zO,h3,j4 j6,p,h2,L,wj,b5,o,h4,c2,ya,pL,gr,H,c8];rw[<- hP,T,a];generalize X[j+1]=z at *;have I:(M.take i++z::(C.drop (i+1)).map hd1).length=M.length:=by rw[ap,ai,bg,bt,bc];omega
 have c6:(M.take i++z::(C.drop (i+1)).map hd1).isEmpty=false:=zS;generalize M.take i++z::(C.drop (i+1)).map hd1=Z at *;unfold jqp;simp only[cz,c6,I];refine jhy (ns:=[4,5]) (vs:=[.osl (2*m+1) m 0 M.length 1,.bool true]) (λr h=>h) (by simp[gd]) zS zS zS ⟨?_,jM rfl,trivial⟩;exact XP rfl (jce (by simp[c]) (by rw[j1 j6,bx,I]) (by simp[gr]) (by simp[yf,V.pureLeaf]));have c0:j+1=X.length:=zO;rw[c0,iu,za zO]at a;rw[c0,iu]at c;have b6:0<X.length:=zO;have h4:=jn X b6;have hg:X.getD 0 0=X[0]:=by simp[b6]
 rw[hg]at a c;have b5:¬(j:Int)+1<X.length:=zO;have o:=D 0 b6;simp only[Int.cast_ofNat_Int]at o;simp[h9,g1,g6,g7,g8,G,h1,D j zO,h3,j4 j6,p,h2,L,wj,b5,o,h4,c2,ya,pL,gr,H,c8,wi,c];rw[hi,ei,<- a.1];exact⟨d5,zO,zS,a.2⟩;have:k=M.length:=zO;subst this;have c5:(M.length:Int)-1-M.length = -1:=zO;rw[c5]at h8;simp[h8];rw[<- hP,T,show X7 C M=none by simpa using hT];exact jhy (ns:=[4,5]) (vs:=[.sl none true 0 [],.bool false]) (λr h=>h) (by simp[fd]) zS zS zS ⟨jM rfl,jM rfl,trivial⟩
def j71 (ub n:Nat) (cs:List V):Xq ub (.sl (some (0,1)) false n cs)=some { v:=.sl (some (ub,1)) false n cs,add:=[ub] }:=rfl
section
variable {E:Env}{st:St}{ub:Nat}{K:List FP->St->Prop}{d:Option Nat}{nm:Bool}{r:List AOpr}
def ji5 {i:Type}{f:i->List V}{sz b u:Nat}{l:List i}{a:i}{s x:A}(p:ye E st.tm s=.sl (some (u,sz)) false l.length (l.flatMap f)) (n:st.tk u=true) (q:yp st.ob sz (ye E st.tm x)=some (f a)) (c:∀a,(f a).length=sz) (m:0<sz)
 (hp:(f a).all V.pureLeaf=true) (o:(l.length+1)*b<=140737488355328) (j:l.length+1<=140737488355328)
 (h:YW E r K (ye E st.tm) (.append false sz b s x) st d ub { v:=.sl (some (ub,sz)) false (l.length+1) ((l++[a]).flatMap f),del:=some u,add:=[ub] }):jE E (⟨d,.append false sz b s x,none,nm⟩::r) st ub K:=by
 have g:f a≠[]:=λe=>by have:=c a;rw[e]at this;simp at this;omega
 have k:(f a).length/sz=1:=by rw[c];exact gD m
 rw[jw rfl];simp only[yU,p,q,ah,za g,bH,ag,zc];rw[zb ⟨by rw[j1 c],m,hp,by rw[k];exact o,by rw[k];exact j⟩,zb (by simp[n]),jG,k];simpa using h
end
def joe (l:List Int):List V:=Ye (false,l)
@[simp] theorem jkj (l:List Int):(joe l).length=1:=rfl
def j8r (L:List (List Int)) {i:Nat}(h:i<L.length):(L.flatMap joe)[i]? = some (.sl none false (L[i]).length ((L[i]).flatMap yf)):=by have:=jO jkj L h (by decide:0<1);rw[bx,bl]at this;rw[this];rfl
def Xs (c:Bool×List Int) (out:List (List Int)) (k j:Nat):List (List Int):=stepA c (out.take k)++(c.2.take j).map λx=>out.getD k []++[x]
def jwr (c:Bool×List Int) (a b:List (List Int)):stepA c (a++b)=stepA c a++stepA c b:=by unfold stepA;rw[bJ]
def ji8 {c:Bool×List Int}{out:List (List Int)}{k:Nat}(a:k<out.length) (j:Nat):Xs c out (k+1) 0=Xs c out k j++(c.2.drop j).map λx=>out.getD k []++[x]:=by unfold Xs;rw[av a,jwr,dP,cm,aL,aY,<- bE,dR];congr 1;simp[stepA,a]
def jvd {c:Bool×List Int}{out:List (List Int)}{k j:Nat}(a:j<c.2.length):Xs c out k (j+1)=Xs c out k j++[out.getD k []++[c.2[j]]]:=by unfold Xs;rw[av a,bE,aY];rfl
def jz1 (c:Bool×List Int) (out:List (List Int)):Xs c out out.length 0=stepA c out:=by unfold Xs;simp
def jvc (c:Bool×List Int) (out:List (List Int)):Xs c out 0 0=[]:=by unfold Xs stepA;simp
def jwm {c:Type}{n:Nat}{a b:List c}(h:n<=a.length):(a++b).take n=a.take n:=by rw[eV h]
def jtw {c:Bool×List Int}{n i:Nat}{out:List (List Int)}(h:∀o∈out,o.length=i):∀o∈(stepA c out).take n,o.length=i+1:=by intro o e;have:=dH e;unfold stepA at this;obtain⟨p,a,b⟩:=cq.1 this;obtain⟨x,_,rfl⟩:=aI.1 b;rw[ap,h p a];rfl
def jn7:∀(C:Cs') (n:Nat) (out:List (List Int)) (c:Bool×List Int),allF (C++[c]) n out=(stepA c (allF C n out)).take n
 |[],n,out,c=>rfl
 |d::C,n,out,c=>by simp only[cZ,allF];exact jn7 C n _ c
def jtc:∀(C:Cs') (n:Nat) (out:List (List Int)),out.length<=n->(allF C n out).length<=n
 |[],n,out,h=>h
 |d::C,n,out,_=>jtc C n _ (by rw[ai];omega)
def jn8:∀(C:Cs') (n i:Nat) (out:List (List Int)),(∀o∈out,o.length=i)->∀o∈allF C n out,o.length=i+C.length
 |[],n,i,out,h=>h
 |d::C,n,i,out,h=>by intro o a;have:=jn8 C n (i+1) _ (jtw (c:=d) (n:=n) h) o a;rw[this,bg];omega
def ev18 {g:Hist'}(hs:Small g) (hw:jP g=true) (most:Nat) (h0:1<=most) (h1:most<=1000):∃v,Ev E 18 [.agg (yb g),.int .i64 most] v/\SlR v false (allF (choR g) most [[]]).length ((allF (choR g) most [[]]).flatMap joe):=by
 obtain⟨vc,b0,H⟩:=ev37 hs;have c3:=jk3 hs;have G:=jqe hw;obtain⟨C,hC⟩:∃C,choR g=C:=⟨_,rfl⟩;rw[hC]at H c3 G ⊢;refine JX rfl zQ ?_;conv in(occs:=*)F18=>all_goals cbv
 simp[yb,ya];refine jH b0 zI rfl zI ?_;refine Jw H λX c8=>?_;simp;refine jF (cs:=[]) rfl rfl rfl ?_;simp;refine jF (cs:=[.sl (some (320,1)) false 0 []]) (by simp[j2]) rfl rfl ?_;simp[V.strip1];refine j5 [(6,10),(15,60)] C.length (λi s=>s.tm 7=.int .i64 i/\∃t,s.tm 6=.sl t false (allF (C.take i) most [[]]).length ((allF (C.take i) most [[]]).flatMap joe)) rfl rfl ⟨zS,by simp[allF,joe,Ye]⟩ ?_;rintro i s hi ⟨h7,U,h6⟩ f;have f1:s.tm 1=.int .i64 most:=by rw[f.t 1 zS];simp
 have f5:s.tm 5=.sl X false C.length (C.flatMap Ye):=by rw[f.t 5 zS];simp
 have fd:s.df=[]:=by rw[f.d];simp
 clear f;have b9:=jtc (C.take i) most [[]] (by simpa using h0);have T:=jn8 (C.take i) most 0 [[]] zS;obtain⟨out,m⟩:∃out,allF (C.take i) most [[]]=out:=⟨_,rfl⟩;rw[m]at h6 b9 T;by_cases p:i<C.length
 ·have b8:=jR p zO;have y:allF (C.take (i+1)) most [[]]=(stepA C[i] out).take most:=by rw[av p,jn7,m]
  have Q:=G _ (au p);have z:=jem C p;obtain⟨c,hc⟩:∃c,C[i]=c:=⟨_,rfl⟩;rw[hc]at y Q z;have n:jv 1 (.sl X false C.length (C.flatMap Ye)) (.int .i64 (i:Int))=some (.eptr (C.flatMap Ye) i):=by simp only[J1,j1 Xx];rw[zb zP];simp
  simp[h7,f5,p];refine jF (cs:=[]) rfl rfl rfl ?_;simp;refine j5 [(8,10),(22,59)] out.length (λk B=>B.tm 9=.int .i64 k/\GrowT B.tk B.nx joe 1 ((Xs c out k 0).take most) (B.tm 8)) rfl rfl ⟨zS,by simp[jvc];exact⟨s.nx+64+64+64+64,zS,by simp[jb],zS⟩⟩ ?_;rintro k B hk ⟨h9,hG⟩ f;have e1:B.tm 1=.int .i64 most:=by rw[f.t 1 zS];simp[f1]
  have e5:B.tm 5=.sl X false C.length (C.flatMap Ye):=by rw[f.t 5 zS];simp[f5]
  have e6:B.tm 6=.sl U false out.length (out.flatMap joe):=by rw[f.t 6 zS];simp[h6]
  have e7:B.tm 7=.int .i64 i:=by rw[f.t 7 zS];simp[h7]
  have ed:B.df=[]:=by rw[f.d];simp[fd]
  clear f;by_cases b:k<out.length
  ·have I:=jR b zO;have b7:=j8r out b;have a0:out.getD k []=out[k]:=by simp[b]
   have J:jv 1 (.sl U false out.length (out.flatMap joe)) (.int .i64 (k:Int))=some (.eptr (out.flatMap joe) k):=by simp only[J1,j1 jkj];rw[zb zP];simp
   have c5:(out[k]).length<=1000000:=by have:=T _ (au b);simp at this;omega
   simp[h9,e6,b];refine j5 [(8,8),(10,10),(28,59)] c.2.length (λj w=>w.tm 10=.int .i64 (j:Nat)/\GrowT w.tk w.nx joe 1 ((Xs c out k j).take most) (w.tm 8)) rfl rfl ⟨zS,by simp;exact hG.mono (λ_ _ h=>h) zO⟩ ?_;rintro j w hj ⟨x,D⟩ f;have g1:w.tm 1=.int .i64 most:=by rw[f.t 1 zS];simp[e1]
   have g5:w.tm 5=.sl X false C.length (C.flatMap Ye):=by rw[f.t 5 zS];simp[e5]
   have g6:w.tm 6=.sl U false out.length (out.flatMap joe):=by rw[f.t 6 zS];simp[e6]
   have Z:w.tm 7=.int .i64 i:=by rw[f.t 7 zS];simp[e7]
   have g9:w.tm 9=.int .i64 k:=by rw[f.t 9 zS];simp[h9]
   have gd:w.df=[]:=by rw[f.d];simp[ed]
   clear f;obtain⟨u8,o,S,c6⟩:=id D;have c2:((Xs c out k j).take most).length=min most (Xs c out k j).length:=ai;by_cases q:j<c.2.length
   ·by_cases hm:(Xs c out k j).length<most
    ·have c4:(Xs c out k j).take most=Xs c out k j:=aH zO;have F:(Xs c out k (j+1)).take most=Xs c out k j++[out[k]++[c.2[j]]]:=by rw[jvd q,a0,aH (by rw[ap];simp;omega)]
     have b6:=jR q zO;have c0:=jn c.2 q;have O:jv 1 (.sl none c.1 c.2.length (c.2.flatMap yf)) (.int .i64 (j:Int))=some (.eptr (c.2.flatMap yf) j):=by simp only[J1,j1 j6];rw[zb zP];simp
     rw[c4]at o D;have P:((Xs c out k j).length:Int)<most:=zO;simp[x,g1,g5,g6,Z,g9,n,z,q,o,P,J,b7];refine X5 (ev38t false (out[k]) zO) (by simp[yl]) rfl (by simp[yl]) ?_;rw[j71];simp[g5,Z,x,n,z,O,c0];refine jdz (cs:=yf c.2[j]) (by simp[j2,yf]) rfl rfl ?_;simp;refine ji5 (f:=yf) (u:=w.nx+64+64+64+64+64+64+64+64+64+64+64+64+64+64+64+64+64+64) (l:=out[k]) (a:=c.2[j]) zS (by simp[jb]) (by simp[yp,yf]) j6 zQ rfl zO zO ?_;have c7:(out[k]).flatMap yf++yf c.2[j]=(out[k]++[c.2[j]]).flatMap yf:=zS;simp;refine jdz (cs:=[.sl (some (w.nx+64+64+64+64+64+64+64+64+64+64+64+64+64+64+64+64+64+64+64+64+64+64+64+64+64+64+64,1)) false ((out[k]).length+1) ((out[k]).flatMap yf++yf c.2[j])]) (by simp[j2]) rfl (by simp[V.strip1,V.pureLeaf]) ?_;simp[V.strip1];refine ji5 (f:=joe) (u:=u8) (l:=Xs c out k j) (a:=out[k]++[c.2[j]]) zS (by simp[jb,S];try omega) (by simp[yp,joe,Ye]) jkj zQ (by simp[joe,Ye,V.pureLeaf]) zO zO ?_;have L:(Xs c out k j).length+1=(Xs c out k j++[out[k]++[c.2[j]]]).length:=zS;rw[<- F]at L ⊢;rw[L];obtain⟨N,hN⟩:∃N,(Xs c out k (j+1)).take most=N:=⟨_,rfl⟩;rw[hN];simp[x,b6];refine⟨?_,q,?_⟩;simp[JR,YY,Wn,QS,yz,yB,yR,uOf,Delta.wo,Delta.wt];rw[ep];intro h;have:=br h;omega;rw[hN];refine⟨_,rfl,?_,?_⟩;simp[jb];omega
    have P:¬((Xs c out k j).length:Int)<most:=zO;have M:min most (Xs c out k j).length=most:=zO;simp[x,g1,g5,Z,g9,n,z,q,o,M];have e:(Xs c out (k+1) 0).take most=(Xs c out k j).take most:=by rw[ji8 b j];exact jwm zO
    rw[e];refine⟨b,I,?_⟩;exact⟨u8,by rw[c2,M],S,zO⟩
   have b5:j=c.2.length:=zO;subst b5;simp[x,g5,Z,g9,n,z];have e:(Xs c out (k+1) 0).take most=(Xs c out k c.2.length).take most:=by rw[ji8 b c.2.length,dk];simp
   rw[e];refine⟨b,I,?_⟩;exact D.mono (λ_ _ h=>h) zO
  have c1:k=out.length:=zO;subst c1;obtain⟨u8,o,_,_⟩:=hG;rw[jz1,<- y]at o;simp[h9,e6,e7,b8,o];exact p
 have:i=C.length:=zO;subst this;rw[bh]at m;rw[m];simp[h7,f5];exact slE (t:=U) (nl:=false) (k:=out.length) (cs:=out.flatMap joe) (λr h=>h) (by simp[fd]) (by simp[h6])
section
variable {g:Hist'}
def ev32 (e:Small g) (lvl most:Int):Ev E 32 [.int .i64 lvl,.agg (yb g),.int .i64 most] (.int .i64 (if jP g=false then 4 else if lvl<1\/3<lvl\/most<0 then 2 else 0)):=by
 have b:=ev28 e;refine jT rfl ?_;conv in(occs:=*)F32=>all_goals cbv
 simp[ya,yb];refine jH b zI rfl zI ?_;cases f:jP g;simp;exact j3 rfl zS rfl;by_cases a:lvl<1;simp[a];exact j3 rfl zS rfl;by_cases c:3<lvl;simp[a,c];exact j3 rfl zS rfl;by_cases d:most<0;simp[a,c,d];exact j3 rfl zS rfl;simp[a,c,d];exact j3 rfl zS rfl
def jbt:∀{C D:Cs'},C.map (·.2)=D.map (·.2)->jh C=jh D
 |[],[],_=>rfl
 |c::C,d::D,h=>by simp only[aZ,dT]at h;have:=jbt h.2;unfold jh at this ⊢;rw[bN,bN,h.1,this]
 |[],_::_,h=>by simp at h
 |_::_,[],h=>by simp at h
def ev59 (B:Small g) (hw:jP g=true):Ev E 59 [.agg (yb g)] (.bool (Wa g || !jh (choR g))):=by
 have Q:=B.ts;have v:=ev16 g Q;rw[show yu Jq g.ts g.ts.length=ym g from rfl]at v;obtain⟨vc,G,I⟩:=ev37 B;have b6:=Xe g;have b5:=jk3 B;refine jT rfl ?_;conv in(occs:=*)F59=>all_goals cbv
 simp[yb,ya];refine jH v zI rfl zI ?_;refine Jw (nl:=false) (n:=(ym g).length) (cs:=(ym g).flatMap yf) ⟨_,rfl,zS⟩ λM b0=>?_;simp;refine jQ λy m=>?_;have N:∃k u,y.tm 1=.ptr k u 0/\y.ob k=some ⟨u,.cells (yb g)⟩:=by rw[m];exact⟨_,_,by simp;exact⟨rfl,rfl⟩,zI⟩
 obtain⟨kH,uH,N,p1⟩:=N;have g3:y.tm 3=.sl M false (ym g).length ((ym g).flatMap yf):=by rw[m];simp
 have g4:y.tm 4=.int .i64 0:=by rw[m];simp
 have gd:y.df=[]:=by rw[m];simp
 clear m;have ix:∀{k:Nat},k<(ym g).length->jv 1 (.sl M false (ym g).length ((ym g).flatMap yf)) (.int .i64 (k:Int))=some (.eptr ((ym g).flatMap yf) k):=fun {k} h=>by have:=JD j6 M false (ym g) .i64 h;rwa [bx]at this
 refine j5 [(2,2),(4,4),(9,22)] (ym g).length (λi s=>s.tm 4=.int .i64 i/\s.ob kH=some ⟨uH,.cells (yb g)⟩/\∀j (c:j<(ym g).length),j<i->(badH g (ym g)[j]).isEmpty=true) rfl rfl ⟨by simpa using g4,p1,λj c h=>by omega⟩ ?_;rintro i s hi ⟨F,H,b⟩ f;have Z:=(f.t 1 zS).trans N;have s3:=(f.t 3 zS).trans g3;have U:=f.d.trans gd;clear f;by_cases a:i<(ym g).length;have o:=jR a zO;obtain⟨vb,S,J⟩:=ev65 B ((ym g)[i]);have z:=jn (ym g) a;simp[Z,s3,F,H,ya,yb,a,ix a,z];refine X5 S zI rfl zI ?_;refine Jw J λtb a0=>?_;cases l:(badH g ((ym g)[i])).isEmpty;have q:0<(badH g ((ym g)[i])).length:=dY.2 (λe=>by rw[e]at l;cases l);have K:Wa g=true:=ce.2 ⟨_,au a,by rw[l];rfl⟩;simp[q];exact j3 (by simpa using U) (by simp[K]) rfl;have q:¬0<(badH g ((ym g)[i])).length:=by rw[dC]at l;rw[l];simp
 simp[q,o,F];refine⟨a,by rw[H];rfl,λj c h=>?_⟩;rcases bj.1 h with h|rfl;exact dC.1 (b j c h);exact dC.1 l;have:i=(ym g).length:=zO;subst this;have K:Wa g=false:=by unfold Wa;rw[eO];intro x O;obtain⟨j,c,rfl⟩:=bA O;rw[b j c c];simp
 rw[K,bS];simp[s3,F,Z,ya,H,yb];clear b;refine jH G zI rfl zI ?_;refine Jw I λt5 X=>?_;generalize choR g=C at *;simp;refine j5 [(2,2),(6,6),(25,36)] C.length (λi s=>s.tm 6=.int .i64 i/\∀j (c:j<C.length),j<i->(C[j]).2.isEmpty=false) rfl rfl ⟨zS,λj c h=>by omega⟩ ?_;rintro i w hi ⟨L,b⟩ f;have T:w.tm 5=.sl t5 false C.length (C.flatMap Ye):=by rw[f.t 5 zS];simp
 have wd:w.df=[]:=by rw[f.d];simpa using U
 clear f;by_cases a:i<C.length;have o:=jR a zO;have z:=jem C a;have p:jv 1 (.sl t5 false C.length (C.flatMap Ye)) (.int .i64 (i:Int))=some (.eptr (C.flatMap Ye) (i*1)):=by simp only[J1,j1 Xx];rw[zb zP];rfl
 rw[bx]at p;cases D:(C[i]).2.isEmpty;have r:(((C[i]).2.length:Int)==0)=false:=by rw[len0];exact D
 simp[T,L,a,p,z,r,o];intro j c h;rcases bj.1 h with h|rfl;simpa using b j c h;simpa using D;have r:(((C[i]).2.length:Int)==0)=true:=by rw[len0];exact D
 have P:jh C=false:=by rw[ep];intro h;have:=aw.1 h _ (au a);rw[D]at this;cases this
 simp[T,L,a,p,z,r,o];exact j3 (by simpa using wd) (by simp[P]) rfl;have:i=C.length:=zO;subst this;have P:jh C=true:=by unfold jh;rw[aw];intro x O;obtain⟨j,c,rfl⟩:=bA O;rw[b j c c];rfl
 simp[T,L];exact j3 (by simpa using wd) (by simp[P]) rfl
end
def yN (g:Hist') (lvl left:Int):List V:=[.int .i64 lvl,yl g.sn X2 g.ss,yl g.kn X2 g.ks,yl g.tn jf g.ts,.int .i64 left]
section
variable {g:Hist'}{lvl left:Int}{k u ub:Nat}{ob:ZO}
def evo97 (h:Small g) {b a:Nat}(f:ob b=some ⟨a,.cells [.ptr k u 0]⟩) (d:ob k=some ⟨u,.cells (yN g lvl left)⟩) (x:Int) (tk:Nat->Bool) (base:Nat):EvO E 97 [.int .i64 x,.ptr b a 0] ob tk base ub (.bool (!(badH g x).isEmpty)):=by
 obtain⟨v,c,e⟩:=ev71 h x;refine jr rfl ?_;conv in(occs:=*)S97=>all_goals cbv
 simp[ya,f,d,yN];refine jH c zI rfl zH ?_;refine Jw e λt add=>?_;simp;refine j3 zS ?_ rfl;cases badH g x<;>simp
def evo56 (a:Small g) (e:jP g=true) (c:ob k=some ⟨u,.cells (yN g lvl left)⟩) (f:Off ub k) (tk:Nat->Bool) (base:Nat):EvO E 56 [.ptr k u 0] ob tk base ub (.bool (Wa g)):=by
 obtain⟨v,j,d⟩:=ev70 a;rw[jha e]at d;have m:=Xe g;have l:=a.ts;have b:=f.ne;refine jr rfl ?_;conv in(occs:=*)S56=>all_goals cbv
 simp(disch:=try exact zD)[S56,ya,c,yN,b,V.cells,V.leaf];refine jH j zI rfl zH ?_;refine Jw d λt add=>?_;simp;refine jN (vs:=[.sl t (ym g).isEmpty (ym g).length ((ym g).flatMap yf),.fn (.func 97) [] [.ptr (2*ub+1) ub 0]]) zS rfl (by rw[bN,dS];exact .inr rfl) (evo96 (p:=λt=>!(badH g t).isEmpty) rfl zO (λx n tk base i h=>?_) _ _) ?_;exact evo97 a (k:=k) (u:=u) (lvl:=lvl) (left:=left) zS (by simp(disch:=try exact zD)[c,b,yN]) x tk base;simp;refine j3 zS ?_ rfl;simp[Wa]
end
def DecW (c:List Int×List Int) (is:Bool) (n:Int) (w:V) (v:V):Prop:=∃(t1 t2:Option (Nat×Nat)) (n1 n2:Bool),v=.tup [.agg [.sl t1 n1 c.1.length (c.1.flatMap yf),.sl t2 n2 c.2.length (c.2.flatMap yf)],.bool is,.int .i64 n,w]/\∀p∈t1.toList++t2.toList,p.1<64
def DecR (r:(List Int×List Int)×Bool×Int×Int) (v:V):Prop:=DecW r.1 r.2.1 r.2.2.1 (.int .i64 r.2.2.2) v
def Flat1 (w:V):Prop:=(∃e,w=.int .i64 e)\/∃b,w=.bool b
def Flat1.int (e:Int):Flat1 (.int .i64 e):=.inl ⟨e,rfl⟩
def Flat1.bool (b:Bool):Flat1 (.bool b):=.inr ⟨b,rfl⟩
def toks4 (x y:V) (b:Bool) (n:Int) {w:V}(a:Flat1 w):List.flatMap V.toks [.agg [x,y],.bool b,.int .i64 n,w]=x.tok++y.tok:=by
 have:w.toks=[]:=by rcases a with⟨e,rfl⟩|⟨e,rfl⟩<;>rfl
 simp[V.toks,show ∀e,(V.int .i64 e).tok=[] from λ_=>rfl,show(V.bool b).tok=[] from rfl];exact this
def jw8 {ub:Nat}{v:V}{c:List Int×List Int}{is:Bool}{n:Int}{w:V}{K:Delta->Prop}(s:Flat1 w) (L:DecW c is n w v)
 (h:∀l f a d add,K { v:=.tup [.agg [.sl l a c.1.length (c.1.flatMap yf),.sl f d c.2.length (c.2.flatMap yf)],.bool is,.int .i64 n,w],add:=add }):wpD (Xq ub v) K:=by
 obtain⟨l,f,a,d,rfl,D⟩:=L;obtain⟨x,q⟩:∃x,x=V.sl l a c.1.length (c.1.flatMap yf):=⟨_,rfl⟩;obtain⟨y,o⟩:∃y,y=V.sl f d c.2.length (c.2.flatMap yf):=⟨_,rfl⟩;have m:(yy (.tup [.agg [x,y],.bool is,.int .i64 n,w])).all (λi=>Nat.blt i 64)=true:=by
  show(List.flatMap V.toks [.agg [x,y],.bool is,.int .i64 n,w]).all _=true;rw[toks4 _ _ _ _ s,aw];intro i z;have:∃p∈l.toList++f.toList,p.1=i:=by rw[aQ,q,o,tokm,tokm]at z;rcases z with⟨p,j,h⟩|⟨p,j,h⟩;exact⟨p,by simp[j],h⟩;exact⟨p,by simp[j],h⟩
  obtain⟨p,j,rfl⟩:=this;simpa[dr] using D p j
 rw[<- q,<- o,Xq,zb m,jG];have e:∀(t:Option (Nat×Nat)) r n cs,∃B,Xz ub (.sl t r n cs)=.sl B r n cs:=λt r n cs=>by
  cases t with
  |none=>exact⟨none,rfl⟩
  |some p=>exact⟨_,rfl⟩
 obtain⟨a1,J⟩:=e l a c.1.length (c.1.flatMap yf);obtain⟨a2,H⟩:=e f d c.2.length (c.2.flatMap yf);have:=h a1 a2 a d ((yy (.tup [.agg [x,y],.bool is,.int .i64 n,w])).map (ub + ·));have F:∀b,QR ub (.bool b)=.bool b:=λ_=>rfl;have M:∀e,QR ub (.int .i64 e)=.int .i64 e:=λ_=>rfl;have I:QR ub w=w:=by rcases s with⟨e,rfl⟩|⟨e,rfl⟩<;>rfl
 have G:Qw ub (.tup [.agg [x,y],.bool is,.int .i64 n,w])=.tup [.agg [.sl a1 a c.1.length (c.1.flatMap yf),.sl a2 d c.2.length (c.2.flatMap yf)],.bool is,.int .i64 n,w]:=by simp only[Qw,aZ,cm,F,M,I];simp only[QR,aZ,cm,q,o,J,H]
 rw[G];exact this
def jrf {ub:Nat}{v:V}{r:(List Int×List Int)×Bool×Int×Int}{K:Delta->Prop}(c:DecR r v)
 (h:∀b a d e add,K { v:=.tup [.agg [.sl b d r.1.1.length (r.1.1.flatMap yf),.sl a e r.1.2.length (r.1.2.flatMap yf)],.bool r.2.1,.int .i64 r.2.2.1,.int .i64 r.2.2.2],add:=add }):wpD (Xq ub v) K:=jw8 (.int _) c h
def Yl {P:V->Prop}{st:St}{p a b d l u:Nat}{x y:V}{c:List Int×List Int}{is:Bool}{n:Int}{w:V}{n1 o:Bool}(G:Flat1 w) (Q:∀v,DecW c is n w v->P v) (F:st.df=[]) (hp:st.tm p=.ptr l u 0) (L:st.ob l=some ⟨u,.cells [x,y]⟩) (S:st.tm a=.bool is) (H:st.tm b=.int .i64 n) (T:st.tm d=w)
 (O:jdd st x n1 c.1.length (c.1.flatMap yf)) (N:jdd st y o c.2.length (c.2.flatMap yf)):WQ [.cell p (some 2),.t a,.t b,.t d] P .ret st:=by
 have J:ya st.ob l u=some [x,y]:=by simp[ya,L]
 have m:[ARes.cell p (some 2),ARes.t a,ARes.t b,ARes.t d].mapM (ju st)=some [.agg [x,y],.bool is,.int .i64 n,w]:=by simp[ju,hp,J,S,H,T]
 obtain⟨s,z,j⟩:=O (yJ (List.flatMap V.toks [.agg [x,y],.bool is,.int .i64 n,w])) 0;obtain⟨r,D,h⟩:=N (yJ (List.flatMap V.toks [.agg [x,y],.bool is,.int .i64 n,w])) 1;refine⟨.tup [.agg [.sl s n1 c.1.length (c.1.flatMap yf),.sl r o c.2.length (c.2.flatMap yf)],.bool is,.int .i64 n,w],?_,Q _ ⟨s,r,n1,o,rfl,?_⟩⟩;simp only[jb4,Yk F,Yg F,zd,m,ah,W6];generalize yJ (List.flatMap V.toks [.agg [x,y],.bool is,.int .i64 n,w])=keep at *;have I:∀i,XF st keep i (.bool is)=some (.bool is):=λ_=>rfl;have U:∀i e,XF st keep i (.int .i64 e)=some (.int .i64 e):=λ_ _=>rfl;have M:∀i,XF st keep i w=some w:=λi=>by rcases G with⟨e,rfl⟩|⟨e,rfl⟩<;>rfl
 have K:XF st keep 0 (.agg [x,y])=some (.agg [.sl s n1 c.1.length (c.1.flatMap yf),.sl r o c.2.length (c.2.flatMap yf)]):=by simp only[XF,Xv,z,D,bL,ah,aU]
 simp only[Jd,I,U,K,M,ah,aU];have B:yJ (List.flatMap V.toks [.agg [.sl s n1 c.1.length (c.1.flatMap yf),.sl r o c.2.length (c.2.flatMap yf)],.bool is,.int .i64 n,w])=true:=by rw[toks4 _ _ _ _ G,jdi,jdi];rcases j with rfl|⟨_,rfl⟩<;>rcases h with rfl|⟨_,rfl⟩<;>rfl
 rw[zb B];intro q f;rw[aQ]at f;rcases f with f|f;rcases j with rfl|⟨_,rfl⟩;simp at f;simp at f;subst f;simp;rcases h with rfl|⟨_,rfl⟩;simp at f;simp at f;subst f;simp
def okE (dn:Nat->Bool) (a:Nat) (z:P2):Bool:=!(z.2==(a:Int) && !dn z.1.toNat)
def jz3 {n:Nat}{L:List P2}(i:InG n L) (D:List Nat) (a:Nat):WD n (λ(x b:Nat)=>L.contains ((x:Int),(b:Int))) D a=(!D.contains a&&L.all (okE D.contains a)):=by
 unfold WD;congr 1;rw[bz,aw,aw];constructor;intro h z f;obtain⟨x,b,rfl,d,j⟩:=i z f;have c:(!L.contains ((x:Int),(a:Int))||D.contains x)=true:=h x (bf.2 d);simp only[okE,ba];by_cases e:b=a;subst e;have:L.contains ((x:Int),(b:Int))=true:=by simpa using f
 rw[this]at c;simpa using c;have:((b:Int)==(a:Int))=false:=by rw[zk];omega
 simp[this];intro h x d;show(!L.contains ((x:Int),(a:Int))||D.contains x)=true;by_cases e:L.contains ((x:Int),(a:Int))=true;have:=h ((x:Int),(a:Int)) (by simpa using e);simp only[okE,ba]at this;simp at this;simp[this];have g:L.contains ((x:Int),(a:Int))=false:=by simpa using e
 rw[g];rfl
def evo157 {n a key u:Nat}{L:List P2}{t:Option (Nat×Nat)}{nl:Bool}{dn:Nat->Bool}{ob:ZO}(S:InG n L) (Z:L.length<=1000000) (Q:a<n) (J:ob key=some ⟨u,.cells (yM n dn)⟩) (tk:Nat->Bool) (base ub:Nat) :
 EvO E 157 [.int .i64 (a:Int),.osl key u 0 n 1,.sl t nl L.length (L.flatMap yT)] ob tk base ub (.bool (!dn a&&L.all (okE dn a))):=by
 have K:=jlf (l:=key) (u:=u) (kk:=.i64) Q;have G:=Qr (s:=dn) Q;refine jr rfl ?_;conv in(occs:=*)S157=>all_goals cbv
 simp[K,ya,J,G];cases X:dn a;simp;refine j5 [(6,7),(12,35)] L.length (λi s=>s.tm 7=.int .i64 i/\s.ob=ob/\∀j (o:j<L.length),j<i->okE dn a L[j]=true) rfl rfl ⟨zS,zS,λ_ _ h=>by omega⟩ ?_;rintro i s hi ⟨w,D,F⟩ f;have H:s.tm 0=.int .i64 (a:Int):=by rw[f.t 0 zS];simp
 have O:s.tm 1=.osl key u 0 n 1:=by rw[f.t 1 zS];simp
 have y:s.tm 2=.sl t nl L.length (L.flatMap yT):=by rw[f.t 2 zS];simp
 have M:s.df=[]:=by rw[f.d];simp
 clear f;by_cases c:i<L.length;have q:=jR c zO;obtain⟨x,b,I,P,U⟩:=S L[i] (au c);have k:=JD XD t nl L .i64 c;have N:(L.flatMap yT)[i*2]? = some (.int .i64 (x:Int)):=by have:=jO XD L c (by decide:0<2);rw[bl]at this;rw[this,I];rfl
 have B:(L.flatMap yT)[i*2+1]? = some (.int .i64 (b:Int)):=by rw[jO XD L c (by decide:1<2),I];rfl
 have r:=jlf (l:=key) (u:=u) (kk:=.i64) P;have p:=Qr (s:=dn) P;have e:okE dn a L[i] = !(((b:Int)==(a:Int)) && !dn x):=by rw[I];rfl
 cases v:((b:Int)==(a:Int));rw[v]at e;simp[w,y,H,c,k,B,v,q];refine⟨D,λj o m=>?_⟩;rcases bj.1 m with h|rfl;exact F j o h;rw[e];rfl;rw[v]at e;cases g:dn x;rw[g]at e;simp[w,y,O,H,c,k,B,N,v,r,ya,D,J,p,g];refine j3 (by simp[M]) ?_ rfl;have:L.all (okE dn a)=false:=by rw[eP];exact⟨L[i],au c,by rw[e];decide⟩
 simp[this];rw[g]at e;simp[w,y,O,H,c,k,B,N,v,r,ya,D,J,p,g,q];refine λj o m=>?_;rcases bj.1 m with h|rfl
 exact F j o h;rw[e];rfl;have:i=L.length:=zO;subst this;have:L.all (okE dn a)=true:=by rw[aw];intro z T;obtain⟨j,o,rfl⟩:=di.1 T;exact F j o o
 rw[this];simp[w,y];exact j3 (by simp[M]) zS rfl;simp;exact j3 rfl zS rfl
def TopD (r:Option (List Nat)) (v:V):Prop:=match r with
 |none=>TupS [.sl none true 0 [],.bool false] v
 |some D=>TupS [.sl none false D.length ((yt D).flatMap yf),.bool true] v
def j8p (n:Nat):yM n ([]:List Nat).contains=(List.replicate n false).map V.bool:=by apply eC;simp[yM];intro i a b;simp[yM]
def j3b {n a:Nat}(D:List Nat) (h:a<n):(yM n D.contains).set a (.bool true)=yM n (D++[a]).contains:=by apply eC;simp[yM];intro j d c;rw[gU];by_cases b:a=j;subst b;simp[yM];have:¬j=a:=λe=>b e.symm;simp[yM,b,this]
def ev104 {n:Nat}{L:List P2}{nl:Bool}(h1:0<n) (h9:n<=100) (hL:InG n L) (hl:L.length<=1000000):∃v,Ev E 104 [.int .i64 (n:Int),.sl none nl L.length (L.flatMap yT)] v/\TopD (jbl n L) v:=by
 obtain⟨p,hp⟩:∃p:Nat->Nat->Bool,p=λ(a b:Nat)=>L.contains ((a:Int),(b:Int)):=⟨_,rfl⟩;have a0:∀D a,WD n p D a=(!D.contains a&&L.all (okE D.contains a)):=λD a=>by rw[hp];exact jz3 hL D a
 have U:jbl n L=QZ n p n []:=by rw[hp];rfl
 rw[U];refine JX rfl zQ ?_;conv in(occs:=*)F104=>all_goals cbv
 simp;refine jsf (n:=n) zS zS zO zO zO rfl zQ ?_;rw[jaj,<- j8p];simp;refine jF (cs:=[]) rfl rfl rfl ?_;simp;refine jQ λo c=>?_;obtain⟨u,g6,gA⟩:∃u,o.tm 6=.osl 20 u 0 n 1/\o.ob 20=some ⟨u,.cells (yM n ([]:List Nat).contains)⟩:=⟨_,by rw[c];simp;rfl,by rw[c];simp⟩;obtain⟨w,g7,gw⟩:∃w,o.tm 7=.sl (some (w,1)) false 0 ((yt []).flatMap yf)/\o.tk w=true:=⟨_,by rw[c];simp[yt];rfl,by rw[c];simp[jb]⟩;have g0:o.tm 0=.int .i64 n:=by rw[c];simp
 have g1:o.tm 1=.sl none nl L.length (L.flatMap yT):=by rw[c];simp
 have gd:o.df=[]:=by rw[c];simp
 have gr:o.ro=0:=by rw[c];simp
 have gf:o.fb=0:=by rw[c];simp
 clear c;obtain⟨J,S⟩:∃J:Nat->St->Prop,J=λi s=>∃(D:List Nat) (w:Nat),D.length=i/\s.ob 20=some ⟨u,.cells (yM n D.contains)⟩/\s.tm 7=.sl (some (w,1)) false i ((yt D).flatMap yf)/\s.tk w=true/\QZ n p (n-i) D=QZ n p n []:=⟨_,rfl⟩;refine j5 [(4,5),(7,8),(12,37)] n J rfl rfl (by rw[S];exact⟨[],w,rfl,gA,g7,gw,rfl⟩) ?_;clear g7 gw gA;intro i s hi H f;rw[S]at H;obtain⟨D,w,B,sA,s7,sw,M⟩:=H;have s0:=(f.t 0 zS).trans g0;have s1:=(f.t 1 zS).trans g1;have s6:=(f.t 6 zS).trans g6;have sd:=f.d.trans gd;have sr:=f.r.trans gr;clear f;by_cases Z:i<n;have e:QZ n p (n-i) D=match (List.range n).find? (WD n p D) with
  |none=>none
  |some a=>QZ n p (n-(i+1)) (D++[a]):=by rw[show n-i=(n-(i+1))+1 by omega];rfl
 simp[s7,s0,Z];refine jQ λq m=>?_;have q0:q.tm 0=.int .i64 n:=by rw[m];simp[s0]
 have q1:q.tm 1=.sl none nl L.length (L.flatMap yT):=by rw[m];simp[s1]
 have q6:q.tm 6=.osl 20 u 0 n 1:=by rw[m];simp[s6]
 have q7:q.tm 7=.sl (some (w,1)) false i ((yt D).flatMap yf):=by rw[m];simp[s7]
 have q8:q.tm 8=.int .i64 0:=by rw[m];simp
 have qA:q.ob 20=some ⟨u,.cells (yM n D.contains)⟩:=by rw[m];simpa using sA
 have qw:q.tk w=true:=by rw[m];simpa using sw
 have qd:q.df=[]:=by rw[m];simp[sd]
 have qr:q.ro=0:=by rw[m];simp[sr]
 clear m;obtain⟨Q,z⟩:∃Q:Nat->St->Prop,Q=λa s=>s.tm 8=.int .i64 a/\s.ob 20=some ⟨u,.cells (yM n D.contains)⟩/\s.tk w=true/\∀j,j<a->WD n p D j=false:=⟨_,rfl⟩;refine j5 [(8,8),(16,27)] n Q rfl rfl (by rw[z];exact⟨by simpa using q8,qA,qw,λj h=>by omega⟩) ?_;clear q8 qA qw;intro a y ha G f;rw[z]at G;obtain⟨K,X,yw,O⟩:=G;have T:=(f.t 0 zS).trans q0;have y1:=(f.t 1 zS).trans q1;have y6:=(f.t 6 zS).trans q6;have y7:=(f.t 7 zS).trans q7;have yd:=f.d.trans qd;have yr:=f.r.trans qr;clear f;by_cases g:a<n;have P:=jR g zO;simp[K,T,g,y6,y1];refine jN (vs:=[.int .i64 (a:Int),.osl 20 u 0 n 1,.sl none nl L.length (L.flatMap yT)]) zS rfl (by simp[V.strip,V.strip1,V.pureTop,V.pureLeaf]) (evo157 (dn:=D.contains) hL hl g (by simpa using X) _ _ _) ?_;rw[<- a0 D a];cases F:WD n p D a;simp[K,P];rw[z];refine⟨zO,zS,by simpa using X,by simpa using yw,λj hj=>?_⟩;rcases bj.1 hj with h|rfl
 exact O j h;exact F;have N:((a:Int)==(n:Int))=false:=by rw[zk];omega
 have b0:=jlf (l:=20) (u:=u) (kk:=.i64) g;have k:(List.range n).find? (WD n p D)=some a:=jja g F O;rw[k]at e;have I:=j3b D g;simp[K,T,N,y6,b0,ya,X,yr,Xh,g];refine⟨zO,?_⟩;refine jF (cs:=[.int .i64 (a:Int)]) (by simp[j2]) rfl rfl ?_;simp;refine Jm (u:=w) (nl:=false) (n:=i) (cs:=(yt D).flatMap yf) (ys:=[.int .i64 (a:Int)]) (by simp[y7]) (by simp[jb,yw]) (by simp[yp]) zS (by rw[j1 j6,JA,B]) zQ rfl zP zP ?_;simp;rw[S];refine⟨zO,D++[a],_,by simp[B],by simp[j2];rw[<- I,cN,zb (by rw[Xh];exact g)],by simp[yt,yf];rfl,by simp[jb],by rw[<- M,e]⟩;have:a=n:=zO;subst this;have k:(List.range a).find? (WD a p D)=none:=by rw[List.find?_eq_none];intro x hx;rw[O x (bf.1 hx)];simp
 rw[k]at e;simp[K,T];rw[<- M,e];exact jhy (ns:=[4,5]) (vs:=[.sl none true 0 [],.bool false]) (ls:=[.sl none true 0 [],.bool false]) (λr h=>h) (by simp[yd]) zS zS zS ⟨jM rfl,jM rfl,trivial⟩;have:i=n:=zO;subst this;rw[fU]at M;simp[s7,s0];rw[<- M];show WQ _ (TopD (some D)) _ _;exact jhy (ns:=[4,5]) (vs:=[.sl (some (w,1)) false D.length ((yt D).flatMap yf),.bool true]) (ls:=[.sl none false D.length ((yt D).flatMap yf),.bool true]) (λr h=>h) (by simp[sd]) (by simp[B]) zS zS ⟨XP rfl (ja _ _ false _ _),jM rfl,trivial⟩
end Go.Pv.T
namespace Go.Pv.T
open Go Go.Pv
end Go.Pv.T
namespace Go.Pv.T
open Go Go.Pv
def jk0 {N:Nat}{p q:Nat->Nat->Bool}(h:∀a b,a<N->b<N->p a b=q a b):jp N p=jp N q :=
 jf8 (jd6 N p) (jd6 N q) λz=>by rw[edgesOf_mem,edgesOf_mem];constructor;rintro⟨a,b,c,d,f,e⟩;exact⟨a,b,c,d,by rw[<- h a b c d];exact f,e⟩;rintro⟨a,b,c,d,f,e⟩;exact⟨a,b,c,d,by rw[h a b c d];exact f,e⟩
def j7z {g:Hist'}{lvl:Int}{M:List Int}(c:WM g M=true) {l:List P2}(h:jlc g lvl M l):jp (g.ts.length+1) (λa b=>l.contains ((a:Int),(b:Int)))=jp (g.ts.length+1) (jdo g lvl M):=by refine jk0 λa b d f=>?_;rw[bz,cB,<- (XO l).mem_iff,<- compP_mem,Qj c h,edgesOf_mem];constructor;rintro⟨x,y,_,_,h,e⟩;have j:(a:Int)=x:=zg Prod.fst e;have i:(b:Int)=y:=zg Prod.snd e;rw[show a=x by omega,show b=y by omega];exact h;exact λh=>⟨a,b,d,f,h,rfl⟩
def OrdD (g:Hist') (r:Option (List Nat)) (v:V):Prop:=match r with
 |none=>TupS [.sl none false 0 [],.bool false] v
 |some D=>TupS [.sl none false ((yt D).filter λx=>(ym g).contains x).length (((yt D).filter λx=>(ym g).contains x).flatMap yf),.bool true] v
def jcv (g:Hist') (X:List Int) (j:Nat):List Int:=(X.take j).filter λx=>(ym g).contains x
def juz {g:Hist'}{X:List Int}{j:Nat}(h:j<X.length):jcv g X (j+1)=jcv g X j++if (ym g).contains X[j] then [X[j]] else []:=by unfold jcv;rw[av h,bP];congr 1;rw[ct,dy]
def j3m (g:Hist') (X:List Int) (j:Nat):(jcv g X j).length<=j:=by unfold jcv;exact bI (ch _ _) zP
section
variable {g:Hist'}{M:List Int}
def ev61 (hs:Small g) (h8:g.ts.length<=8) (hR:(yi g).length<=1000) {mn:Bool}(lvl:Int) (b6:lvl≠3) (hm:WM g M=true) :
 ∃v,Ev E 61 [.int .i64 lvl,.agg (yb g),yl mn yf M] v/\OrdD g (jbl (g.ts.length+1) (jp (g.ts.length+1) (jdo g lvl M))) v:=by
 obtain⟨c3,b7,l,hl,q⟩:=ev105 hs h8 hR (mn:=mn) lvl b6 hm;rw[j7z hm hl]at q;have B:=ev16 g zO;rw[show yu Jq g.ts g.ts.length=ym g from rfl]at B;generalize hB:jp (g.ts.length+1) (jdo g lvl M)=L at *;have U:InG (g.ts.length+1) L:=by rw[<- hB];exact jsy _ _
 have T:L.length<=1000000:=by have h1:=jnq (g.ts.length+1) (jdo g lvl M);have:(g.ts.length+1)*(g.ts.length+1)<=9*9:=ii zO zO;rw[hB]at h1;omega
 obtain⟨G,I,e⟩:=ev104 (n:=g.ts.length+1) (L:=L) (nl:=false) zO zO U T;have hw:=jg (n:=((g.ts.length:Int)+1)) zO zO;have a0:=λx=>ev63 (a:=false) (ym g) (by have:=Xe g;omega) x;obtain⟨X,b,o,b5,hP,c2⟩:∃(X:List Int) (b o:Bool),TupS [.sl none o X.length (X.flatMap yf),.bool b] G/\(∀v,TupS [.sl none false (X.filter λx=>(ym g).contains x).length ((X.filter λx=>(ym g).contains x).flatMap yf),.bool b] v->OrdD g (jbl (g.ts.length+1) L) v)/\X.length<=1000:=by
  cases Z:jbl (g.ts.length+1) L with
  |none=>rw[Z]at e;exact⟨[],false,true,e,λv h=>h,zS⟩
  |some D=>rw[Z]at e;have:=jfn _ _ D Z;refine⟨yt D,true,false,?_,λv h=>h,?_⟩;rw[JA];exact e;rw[JA,this];simp;omega
 generalize jbl (g.ts.length+1) L=r at *;clear e;refine JX rfl zQ ?_;conv in(occs:=*)F61=>all_goals cbv
 simp[ya,yb,hw];refine X5 b7 zH rfl zH ?_;refine Jw q λc4 b0=>?_;simp;refine X5 I (by simp[V.strip,V.strip1]) rfl zS ?_;refine jj3 b5 λt1 c0=>?_;simp[ya];refine jH B zI rfl zI ?_;rw[jj4];simp;refine jF (cs:=[]) rfl rfl rfl ?_;simp;refine jQ λz j=>?_;obtain⟨tc,b9⟩:∃tc,z.tm 10=.sl tc false (ym g).length ((ym g).flatMap yf):=⟨_,by rw[j];simp;rfl⟩;obtain⟨w,H,gw⟩:∃w,z.tm 11=.sl (some (w,1)) false (jcv g X 0).length ((jcv g X 0).flatMap yf)/\z.tk w=true:=⟨_,by rw[j];simp[jcv];rfl,by rw[j];simp[jb]⟩;have g8:z.tm 8=.sl t1 o X.length (X.flatMap yf):=by rw[j];simp
 have g9:z.tm 9=.bool b:=by rw[j];simp
 have N:z.tm 12=.int .i64 0:=by rw[j];simp
 have gd:z.df=[]:=by rw[j];simp
 clear j;obtain⟨J,Q⟩:∃J:Nat->St->Prop,J=λi s=>s.tm 12=.int .i64 i/\∃w:Nat,s.tm 11=.sl (some (w,1)) false (jcv g X i).length ((jcv g X i).flatMap yf)/\s.tk w=true:=⟨_,rfl⟩;refine j5 [(11,12),(28,46)] X.length J rfl rfl (by rw[Q];exact⟨by simpa using N,w,H,gw⟩) ?_;clear H N gw;intro i s hi F f;rw[Q]at F;obtain⟨m,w,p,sw⟩:=F;have S:=(f.t 8 zS).trans g8;have s9:=(f.t 9 zS).trans g9;have b8:=(f.t 10 zS).trans b9;have sd:=f.d.trans gd;clear f;have c1:=j3m g X i;by_cases k:i<X.length;have K:=jR k zO;have y:=JD j6 t1 o X .i64 k;have P:=jn X k;have c:=juz (g:=g) k;rw[bx]at y;simp[m,S,b8,k,y,P];refine jH (a0 X[i]) (by simp[yl,V.strip,V.strip1]) rfl (by simp[yl]) ?_;cases hc:(ym g).contains X[i];rw[hc]at c;simp only[ag,zc,aL]at c;simp[m,K];rw[Q];exact⟨zO,zS,w,by rw[c];simpa using p,by simpa using sw⟩;rw[hc]at c;simp only[zd]at c;simp[m,S,y,P];refine jF (cs:=[.int .i64 X[i]]) (by simp[j2]) rfl rfl ?_;simp;refine Jm (u:=w) (nl:=false) (n:=(jcv g X i).length) (cs:=(jcv g X i).flatMap yf) (ys:=[.int .i64 X[i]]) (by simp[p]) (by simp[jb,sw]) (by simp[yp]) zS (by rw[j1 j6]) zQ rfl zP zP ?_;simp[m,K];rw[Q];refine⟨zO,zS,_,by rw[c];simp[yf];rfl,by simp[jb]⟩;have:i=X.length:=zO;subst this;have O:jcv g X X.length=X.filter λx=>(ym g).contains x:=by unfold jcv;rw[bh]
 rw[O]at p;simp[m,S];generalize (X.filter λx=>(ym g).contains x)=R at *;exact jhy (ns:=[6,7]) (vs:=[.sl (some (w,1)) false R.length (R.flatMap yf),.bool b]) (ls:=[.sl none false R.length (R.flatMap yf),.bool b]) (λv h=>hP v h) (by simp[sd]) (by simp[p,s9]) zS zS ⟨XP rfl (ja _ _ false _ _),jM rfl,trivial⟩
end
def OneV (x:List Int×Int×Int) (v:V):Prop:=∃t n,v=.tup [.sl t n x.1.length (x.1.flatMap yf),.int .i64 x.2.2]
section
variable {g:Hist'}{lvl left:Int}{M:List Int}{k u ub:Nat}{ob:ZO}
def jlg {x:Int}(a:-9223372036854775808<=x) (b:x<9223372036854775808):IntKind.i64.wrap x=x:=jg zO zO
def sv58 {Yf:YF}{tk:Nat->Bool}{ro base:Nat}(D:Small g) (w:g.ts.length<=8) (P:(yi g).length<=100) (K:jP g=true) (F:WM g M=true) (h:ob k=some ⟨u,.cells (yN g lvl left)⟩) (l:ro<=u) (G:0<=left) (O:left<9223372036854775808) {I:Option (Nat×Nat)}{mn:Bool} :
 ∃r,EvS E Yf.y 58 [.ptr k u 0,.sl I mn M.length (M.flatMap yf)] ob tk ro base ub r/\OneV (Wh g lvl M left) r.1/\r.2.1=upd ob k (some ⟨u,.cells (yN g lvl (left-(Wh g lvl M left).2.1))⟩)/\ub<=r.2.2.2:=by
 have L:=Xi F;obtain⟨a1,a2,_⟩:=jao (lvl:=lvl) K F G (dI left);obtain⟨v,i,a⟩:=ev101 D w (mn:=mn) (M:=M) zO left;obtain⟨B,j,b⟩:=ev102 D w (mn:=mn) (M:=M) lvl zO;refine J6 rfl zQ ?_;show wpC E Yf S58.body _ (Jh S58.res _);by_cases d:lvl=3
 ·have c:Wh g lvl M left=Yp g M left:=by simp[Wh,d]
  rw[c]at a1 a2 ⊢;have f:IntKind.i64.wrap (left-(Yp g M left).2.1)=left-(Yp g M left).2.1:=jlg zO zO;conv in(occs:=*)S58=>all_goals cbv
  simp(disch:=try exact zD)[S58,ya,h,yN,d];obtain⟨s,q,a⟩:=a;refine jH i zH rfl zH ?_;refine jl4 a rfl λws add o=>?_;obtain⟨x,y,z,rfl,H,N,J⟩:=map3 o;obtain⟨p,rfl⟩:=Wq H;obtain rfl:=Wr N;obtain rfl:=Wr J;simp(disch:=try exact zD)[ya,h,yN,d,j2,V.cells,V.leaf,f];refine⟨l,Yb zS ⟨⟨p,s,zS⟩,by funext key;simp[yg],by simp;omega⟩⟩
 ·have c:Wh g lvl M left=if left=0 then ([],0,13) else ((jru g lvl M).1,1,(jru g lvl M).2):=by simp[Wh,d]
  rw[c]at a1 a2 ⊢;have m:(lvl==3)=false:=by simpa using d
  by_cases n:left=0
  ·conv in(occs:=*)S58=>all_goals cbv
   simp(disch:=try exact zD)[S58,ya,h,yN,d,m,n];exact Yb zS ⟨⟨none,true,zS⟩,by funext key;simp[yg];intro e;rw[e,h,yN,n],by simp;omega⟩
  ·have t:(left==0)=false:=by simpa using n
   have f:IntKind.i64.wrap (left-1)=left-1:=jlg zO zO;obtain⟨s,q,b⟩:=b;conv in(occs:=*)S58=>all_goals cbv
   simp(disch:=try exact zD)[S58,ya,h,yN,d,m,n,t,j2,V.cells,V.leaf,f];refine⟨l,?_⟩;refine jH j zH rfl zH ?_;refine jw6 b λp add=>?_;simp(disch:=try exact zD);exact Yb zS ⟨⟨p,s,zS⟩,by funext key;simp[yg],by simp;omega⟩
end
end Go.Pv.T
