/- Part. -/
import Derived.Test.YtmanndcfeicokaaGreatDoorPO
set_option maxRecDepth 100000
set_option maxHeartbeats 8000000
set_option linter.all false
namespace Go.Pv.T
open Go Go.Pv
section
variable {nx:Nat->Nat->Bool}{C:List Nat}{most most':Int}
def Qs {rec:Nat->List Nat->List Nat->R3}(h:∀w d v,v.length<=(rec w d v).2.2.length) (w:Nat) (done:List Nat):∀(r vis:List Nat),vis.length<=(loopM rec nx w done r vis).2.2.length
 |[],vis=>dH _
 |t::r,vis=>by
  rw[loopM];split
  ·exact Qs h w done r vis
  ·have a:=h (w|||1<<<t) (done++[t]) vis;rcases c:rec (w|||1<<<t) (done++[t]) vis with⟨o,b,v⟩;rw[c]at a;cases o with
   |some l=>exact a
   |none=>cases b with
    |true=>exact a
    |false=>exact bI a (Qs h w done r v)
def jo7:∀(n w:Nat) (done vis:List Nat),vis.length<=(onM nx C most n w done vis).2.2.length
 |0,w,done,vis=>by rw[onM];split<;>simp
 |n+1,w,done,vis=>by
  rw[onM];split;exact dH _
  ·exact bI zS (Qs (λw d v=>jo7 n w d v) w done C (vis++[w]))
structure More (most:Int) (a b:R3):Prop where
 le:(a.2.2.length:Int)<=most
 sp:a.2.1=true->(a.2.2.length:Int)=most/\a.1=none/\(b.2.1=true\/most<b.2.2.length)
 same:a.2.1=false->b=a
def jgp {n:Nat}(f:∀w d v,(v.length:Int)<=most->More most (onM nx C most n w d v) (onM nx C most' n w d v)) (w:Nat) (done:List Nat) :
 ∀(r vis:List Nat),(vis.length:Int)<=most->More most (loopM (onM nx C most n) nx w done r vis) (loopM (onM nx C most' n) nx w done r vis)
 |[],vis,h=>⟨h,λe=>(by cases e),λ_=>rfl⟩
 |t::r,vis,h=>by
  rw[loopM,loopM];split
  ·exact jgp f w done r vis h
  ·have a:=f (w|||1<<<t) (done++[t]) vis h;rcases q:onM nx C most n (w|||1<<<t) (done++[t]) vis with⟨o,p,v⟩;rcases b:onM nx C most' n (w|||1<<<t) (done++[t]) vis with⟨s,i,j⟩;rw[q,b]at a;cases p with
   |false=>
    have e:=a.same rfl;cases e;cases o with
    |some l=>exact⟨a.le,λe=>(by cases e),λ_=>rfl⟩
    |none=>exact jgp f w done r v a.le
   |true=>
    obtain⟨k,m,c⟩:=a.sp rfl;simp only at k m c;subst m;refine⟨a.le,λ_=>⟨k,rfl,?_⟩,λe=>(by cases e)⟩;cases s with
    |some x=>exact c
    |none=>cases i with
     |true=>exact .inl rfl
     |false=>
      have u:=Qs (nx:=nx) (λw d v=>jo7 (nx:=nx) (C:=C) (most:=most') n w d v) w done r j;rcases c with h|h;cases h
      ·exact .inr (show most<((loopM _ nx w done r j).2.2.length:Int) by omega)
def jo6 (b:most<=most'):∀(n w:Nat) (done vis:List Nat),(vis.length:Int)<=most->More most (onM nx C most n w done vis) (onM nx C most' n w done vis)
 |0,w,done,vis,h=>by rw[onM,onM];by_cases e:(vis.length:Int)=most;rw[zb e];refine⟨h,λ_=>⟨e,rfl,?_⟩,λe=>(by cases e)⟩;by_cases a:(vis.length:Int)=most';rw[zb a];exact .inl rfl;rw[za a];exact .inr zP;rw[za e,za zO];exact⟨by simp;omega,λe=>(by cases e),λ_=>rfl⟩
 |n+1,w,done,vis,h=>by
  rw[onM,onM];by_cases e:(vis.length:Int)=most
  ·rw[zb e];refine⟨h,λ_=>⟨e,rfl,?_⟩,λe=>(by cases e)⟩;by_cases a:(vis.length:Int)=most';rw[zb a];exact .inl rfl
   ·rw[za a];have c:=Qs (nx:=nx) (λw d v=>jo7 (nx:=nx) (C:=C) (most:=most') n w d v) w done C (vis++[w]);simp only[ap,eu]at c;exact .inr (show most<((loopM _ nx w done C (vis++[w])).2.2.length:Int) by omega)
  ·rw[za e,za zO];exact jgp (λw d v h=>jo6 b n w d v h) w done C (vis++[w]) zP
end
def jbr (g:Hist') (lvl:Int) (M:List Int) (left:Int):List Int×Int×Int :=
 if lvl=3 then Y5 g M left else if left=0 then ([],0,13) else ((jo4 g lvl M).1,1,(jo4 g lvl M).2)
def Wf (g:Hist') (lvl:Int):List (List Int)->Int->(List Int×List Int)×Bool×Int×Int
 |[],left=>(([],[]),false,left,0)
 |M::r,left=>if (jbr g lvl M left).2.2=0 then ((M,(jbr g lvl M left).1),true,left-(jbr g lvl M left).2.1,0)
  else if (jbr g lvl M left).2.2=13 then (([],[]),false,left-(jbr g lvl M left).2.1,13) else Wf g lvl r (left-(jbr g lvl M left).2.1)
def Q5 (g:Hist'):Bool:=(ym g).any λt=>!(badH g t).isEmpty
def Yc (g:Hist') (lvl left:Int):(List Int×List Int)×Bool×Int×Int :=
 if Q5 g=true\/jx (yx g)=false then (if left=0 then (([],[]),false,left,13) else (([],[]),false,left-1,0)) else Wf g lvl (yG (yx g)) left
def XI (g:Hist') (lvl most:Int):(List Int×List Int)×Bool×Int×Int :=
 if jX g=false then (([],[]),false,0,4) else if lvl<1\/3<lvl\/most<0 then (([],[]),false,0,2) else
  ((Yc g lvl most).1,(Yc g lvl most).2.1,most-(Yc g lvl most).2.2.1,(Yc g lvl most).2.2.2)
section
variable {g:Hist'}{lvl left left':Int}{M:List Int}
def jja (a:jX g=true) (b:W7 g M=true) (c:0<=left):Y5 g M left=if (JD g M left).2.1 then (([]:List Int),((JD g M left).2.2.length:Int),(13:Int)) else match (JD g M left).1 with
 |none=>(([]:List Int),((JD g M left).2.2.length:Int),(3:Int))
 |some l=>(yt l,((JD g M left).2.2.length:Int),(0:Int)):=by
 unfold Y5
 simp only[a,b,bV,bR,ag,zc,ze]
 rw[za zO]
 cases (JD g M left).2.1<;>cases (JD g M left).1<;>rfl
def jfb (i:jX g=true) (m:W7 g M=true) (j:0<=left) (n:left<=left') :
 0<=(jbr g lvl M left).2.1/\(jbr g lvl M left).2.1<=left/\0<=(jbr g lvl M left').2.1/\(jbr g lvl M left').2.1<=left' /\
 ((jbr g lvl M left).2.2≠13->jbr g lvl M left'=jbr g lvl M left) /\
 ((jbr g lvl M left).2.2=13->(jbr g lvl M left).2.1=left/\((jbr g lvl M left').2.2=13\/left<(jbr g lvl M left').2.1)):=by
 unfold jbr;by_cases k:lvl=3;simp only[k,zd];have d:=jo6 (nx:=nxM g M) (C:=yC g) n (yC g).length 0 [] [] (by simpa using j);have b:=jo6 (nx:=nxM g M) (C:=yC g) (dW left') (yC g).length 0 [] [] zP;rw[show onM (nxM g M) (yC g) left (yC g).length 0 [] []=JD g M left from rfl,show onM (nxM g M) (yC g) left' (yC g).length 0 [] []=JD g M left' from rfl]at d;rw[show onM (nxM g M) (yC g) left' (yC g).length 0 [] []=JD g M left' from rfl]at b;rw[jja i m j,jja i m zO];have a1:=d.le;have a2:=b.le;have b1:(if (JD g M left).2.1=true then ([],((JD g M left).2.2.length:Int),(13:Int)) else match (JD g M left).1 with
  |none=>(([]:List Int),((JD g M left).2.2.length:Int),(3:Int))
  |some l=>(yt l,((JD g M left).2.2.length:Int),0)).2.1=(JD g M left).2.2.length:=by
  split
  ·rfl
  ·split<;>rfl
 have b2:(if (JD g M left').2.1=true then ([],((JD g M left').2.2.length:Int),(13:Int)) else match (JD g M left').1 with
  |none=>(([]:List Int),((JD g M left').2.2.length:Int),(3:Int))
  |some l=>(yt l,((JD g M left').2.2.length:Int),0)).2.1=(JD g M left').2.2.length:=by
  split
  ·rfl
  ·split<;>rfl
 refine⟨by rw[b1];omega,by rw[b1];exact a1,by rw[b2];omega,by rw[b2];exact a2,λh=>?_,λh=>?_⟩;cases a:(JD g M left).2.1 with
 |true=>rw[a]at h;exact zf rfl h
 |false=>rw[d.same a,a]
 cases a:(JD g M left).2.1 with
 |false=>rw[a]at h;simp only[ag,zc]at h;split at h<;>cases h
 |true=>obtain⟨o,_,c⟩:=d.sp a;rw[a]at b1;refine⟨by rw[b1];exact o,?_⟩;rcases c with c|c;left;rw[zb c];right;rw[b2];exact c
 simp only[k,zc];by_cases e:left=0;subst e;simp only[zd];by_cases f:left'=0;simp[f];simp only[f,zc];exact⟨dW _,dW _,zO,zO,λh=>zf rfl h,λ_=>⟨zS,.inr zO⟩⟩;have f:left'≠0:=zO;simp only[e,f,zc];refine⟨zO,zO,zO,zO,λ_=>by simp,λh=>?_⟩;exfalso;unfold jo4 at h;split at h;split at h<;>cases h;rename_i p;simp only at h;unfold jnp at h;rw[i]at h;simp only[bV,ag,zc]at h;split at h<;>cases h
def jyv (a:jX g=true):∀(L:List (List Int)) (left:Int),(∀M∈L,W7 g M=true)->0<=left->0<=(Wf g lvl L left).2.2.1/\(Wf g lvl L left).2.2.1<=left
 |[],left,_,h0=>⟨h0,dW _⟩
 |M::r,left,hm,h0=>by obtain⟨a1,a2,_⟩:=jfb (lvl:=lvl) a (hm M (aO ..)) h0 (dW left);rw[Wf];split;simp only;omega;split;simp only;omega;have:=jyv a r (left-(jbr g lvl M left).2.1) (λM h=>hm M (aX _ h)) zO;omega
def jcl (d:Small g) (b:jX g=true):∀M∈yG (yx g),W7 g M=true:=by intro M h;rw[<- jzy];unfold XA;obtain⟨a,c⟩:=jro h;rw[b,a,c];simp
end
def ev17 {g:Hist'}(u:Small g) (q:jX g=true):Ev E 17 [.agg (yb g)] (.int .i64 (jac (yx g) 1)):=by
 obtain⟨O,m,e⟩:=ev37 u;have o:=jk5 u;have c:=jqb q;rw[jjg 1 (jb0 q)];refine jS rfl ?_;obtain⟨C,F⟩:∃C,choR g=C:=⟨_,rfl⟩;rw[F]at e o c ⊢;obtain⟨R,y⟩:∃R,jac C 1=R:=⟨_,rfl⟩;conv in(occs:=*)F17=>all_goals cbv
 simp[yb,ya,y];refine jH m zI rfl zI ?_;refine Jv e λw v=>?_;simp;refine j5 [(4,5),(8,21)] C.length (λi s=>s.tm 5=.int .i64 i/\∃n,s.tm 4=.int .i64 n/\0<=n/\n<=1000000/\jac (C.drop i) n=R) rfl rfl ⟨zS,1,zS,zO,zO,by simpa using y⟩ ?_;rintro i s N ⟨B,n,z,M,J,h⟩ f;have x:s.tm 3=.sl w false C.length (C.flatMap Yd):=by rw[f.t 3 zS];simp
 have D:s.df=[]:=by rw[f.d];simp
 clear f;by_cases a:i<C.length;have l:=jP a zO;have L:=jeo C a;have b:jt 1 (.sl w false C.length (C.flatMap Yd)) (.int .i64 (i:Int))=some (.eptr (C.flatMap Yd) (i*1)):=by simp only[J1,j1 Xw];rw[zb zP];rfl
 rw[bz]at b;have H:=c _ (au a);rw[aP a,jac]at h;have G:=mul_lt M J H;have j:=cap6_lt G.1;have p:=jg (n:=n*((C[i]).2.length:Int)) zO zO;have I:=min6 (n*((C[i]).2.length:Int));generalize (C[i]).2.length=k at *;simp[B,x,z,a,b,L,p,I,l];first|exact⟨a,j.1,j.2,h⟩|exact⟨j.1,j.2,h⟩
 have:i=C.length:=zO;subst this;rw[dl,jac]at h;simp[B,x,z];exact j3 (by simp[D]) (by simp[h]) rfl
def ev41 {g:Hist'}(F:Small g):∃v,Ev E 41 [.agg (yb g)] v/\jtf (QV g) v:=by
 obtain⟨vc,J,w⟩:=ev73 F;have o:=ev30 F;have O:=js2 F;have G:=jqa F;refine JW rfl zQ ?_;have e:∀{st:St}{x:Int},st.df=[]->st.tm 2=.sl none true 0 []->st.tm 3=.int .i64 x->QV g=(x,[])->WO [.t 2,.t 3] (jtf (QV g)) .ret st:=by intro st x hd h2 h3 hp;rw[hp];exact jhx (ns:=[2,3]) (vs:=[.sl none true 0 [],.int .i64 x]) (λr h=>h) hd (by simp[h2,h3]) zS zS ⟨jM rfl,jM rfl,trivial⟩
 obtain⟨P,hP⟩:∃P,jtf (QV g)=P:=⟨_,rfl⟩;rw[hP]at e ⊢;obtain⟨C,I⟩:∃C,yx g=C:=⟨_,rfl⟩;rw[I]at w O G;cases y:jX g
 ·rw[y]at o;conv in(occs:=*)F41=>all_goals cbv
  simp[yb,ya];refine jH o zI rfl zI ?_;simp;exact e (x:=4) rfl zS zS (by simp[QV,y])
 rw[y]at o;conv in(occs:=*)F41=>all_goals cbv
 simp[yb,ya];refine jH o zI rfl zI ?_;simp[ya];refine jH J zI rfl zI ?_;refine Jv w λZ b0=>?_;simp;refine j5 [(2,4),(6,6),(13,26)] C.length (λi s=>s.tm 13=.int .i64 i/\jx (C.take i)=true/\Grow s.tk 0 s.nx yf 1 (jc6 C i) (s.tm 4)) rfl rfl ⟨zS,by simp[jx],by simp[jc6];exact Grow.nil _ _ _ _ _⟩ ?_;rintro i s hi ⟨m,n,S⟩ f;have z:s.tm 11=.sl Z C.isEmpty C.length (C.flatMap Yd):=by rw[f.t 11 zS];simp
 have q:s.tm 12=.int .i64 C.length:=by rw[f.t 12 zS];simp
 have U:s.df=[]:=by rw[f.d];simp
 clear f;by_cases j:i<C.length;have H:=jP j zO;have N:=jeo C j;have p:jt 1 (.sl Z C.isEmpty C.length (C.flatMap Yd)) (.int .i64 (i:Int))=some (.eptr (C.flatMap Yd) (i*1)):=by simp only[J1,j1 Xw];rw[zb zP];rfl
 rw[bz]at p;have k:C.take (i+1)=C.take i++[C[i]]:=by rw[av j]
 obtain⟨c,hc⟩:∃c,C[i]=c:=⟨_,rfl⟩;have D:c∈C:=hc▸au j;rw[hc]at N k;obtain⟨b,l⟩:=c;cases l with
 |nil=>
  simp[m,z,q,j,p,N];refine e (x:=3) (by simp[U]) zS zS ?_;have:jx C=false:=by rw[ey];intro h;have:=aw.1 h _ D;simp at this
  simp[QV,y,I,this]
 |cons x l=>
  have L:((l.length:Int)+1==0)=false:=by simp;omega
  have B:jt 1 (.sl none b (l.length+1) (yf x++l.flatMap yf)) (.int .i64 0)=some (.eptr (yf x++l.flatMap yf) 0):=by simp only[J1,ap,j1 j6];rw[zb zP];rfl
  have Q:(yf x++l.flatMap yf)[0]? = some (.int .i64 x):=rfl;have b5:(jc6 C i).length=i:=by unfold jc6;rw[bu,ai];omega
  simp[m,z,q,j,p,N,L,B,Q];refine jF (cs:=yf x) (by simp[j2,yf]) rfl rfl ?_;simp;refine Xl (f:=yf) (lo:=0) (hi:=s.nx) (l:=jc6 C i) (a:=x) (v:=s.tm 4) (S.mono (λu _ _ h=>by simp[jb,h]) zK) zS (by simp[yp,yf]) j6 zQ rfl zO zO (λb6 a0=>?_);have T:jc6 C i++[x]=jc6 C (i+1):=by unfold jc6;rw[k,bE];rfl
  have e2:(jc6 C i).length+1=(jc6 C (i+1)).length:=by rw[<- T];simp
  have e3:jc6 C (i+1)≠[]:=by rw[<- T];simp
  have e4:jx (C.take (i+1))=true:=by rw[k];unfold jx at n ⊢;rw[eZ,n];rfl
  rw[T,e2];obtain⟨M,X⟩:∃M,jc6 C (i+1)=M:=⟨_,rfl⟩;rw[X]at e3 ⊢;simp[m,H,e4,X];exact⟨j,.inr ⟨e3,_,rfl,by simp[jb],cw _,zO⟩⟩
 have:i=C.length:=zO;subst this;rw[bg]at n;have eh:jc6 C C.length=C.map hd1:=by unfold jc6;rw[bg]
 rw[eh]at S;obtain⟨t,ht⟩:=S.form;simp[m,q];have hf:QV g=(0,C.map hd1):=by simp[QV,y,I,n]
 rw[<- hP,hf];refine jhx (ns:=[2,3]) (vs:=[s.tm 4,.int .i64 0]) (λr h=>h) (by simp[U]) zS zS zS ⟨?_,jM rfl,trivial⟩;rw[ht];exact XP rfl (ja _ _ _ _ _)
def sv100 {Yf:YF}{ob:ZO}{tk:Nat->Bool}{ro base ub G x v D lo uo L u n i q:Nat}{F z:Option (Nat×Nat)}{b f:Bool}{J:List Int}{C:Cs'}{cs:List V}
 (ha:ob G=some ⟨x,.cells [.sl F b n (J.flatMap yf)]⟩) (Q:ob v=some ⟨D,.cells [.sl z f n (C.flatMap Yd)]⟩) (U:ob lo=some ⟨uo,.cells [.osl L u 0 n 1]⟩) (S:ob L=some ⟨u,.cells cs⟩) (p:cs.length=n)
 (Z:J.length=n) (a0:C.length=n) (hi:i<n) (P:J[i]? = some (q:Int)) (a:q<(C[i]).2.length) (w:(C[i]).2.length<=41) (m:ro<=u) :
 ∃r,EvS E Yf.y 100 [.int .i64 (i:Int),.ptr G x 0,.ptr v D 0,.ptr lo uo 0] ob tk ro base ub r/\r.1=.bool (decide (0<Wb (C[i]).2 q)) /\
  (∀k,r.2.1 k=if k=L then some ⟨u,.cells (j2 cs i [.int .i64 ((C[i]).2.getD (Wb (C[i]).2 q) 0)])⟩ else ob k)/\r.2.2.1=tk/\ub<=r.2.2.2:=by
 refine J6 rfl zQ ?_;show wpC E Yf S100.body _ (Jg S100.res _);have o:=jeo C (show i<C.length by omega);have I:(J.flatMap yf)[i]? = some (.int .i64 (q:Int)):=by have H:=ak.1 P;rw[jj J H.1,H.2]
 have h:jt 1 (.sl F b n (J.flatMap yf)) (.int .i64 (i:Int))=some (.eptr (J.flatMap yf) i):=by simp only[J1,j1 j6];rw[zb zP];simp
 have c:jt 1 (.sl z f n (C.flatMap Yd)) (.int .i64 (i:Int))=some (.eptr (C.flatMap Yd) i):=by simp only[J1,j1 Xw];rw[zb zP];simp
 have t:=j4k (l:=L) (u:=u) (n:=n) (kk:=.i64) (X:=(i:Int)) rfl hi;obtain⟨X,M⟩:∃X,C[i]=X:=⟨_,rfl⟩;obtain⟨nx,X⟩:=X;rw[M]at o a w ⊢;simp only at o a w ⊢;have T:=jP (i:=q) (N:=41) zO zO;have B:Wb X q<X.length:=ij _ zO;have g:YL .rem (.int .i64 ((q:Int)+1)) (.int .i64 (X.length:Int))=some (.int .i64 (Wb X q:Nat)):=by
  have h0:¬(X.length:Int)=0:=zO;have e:((q:Int)+1).tmod (X.length:Int)=(Wb X q:Nat):=by rw[show(q:Int)+1=((q+1:Nat):Int) from by omega,<- Int.ofNat_tmod];rfl
  simp[YL,Xa,e];try (intro e;rw[e]at a;simp at a)
 have j:jt 1 (.sl none nx X.length (X.flatMap yf)) (.int .i64 ((Wb X q:Nat):Int))=some (.eptr (X.flatMap yf) (Wb X q)):=by simp only[J1,j1 j6];rw[zb zP];simp
 have h3:=jj X B;have O:X.getD (Wb X q) 0=X[Wb X q]:=by simp[B]
 rw[O];generalize Wb X q=kq at *;have s:i+1<=n:=hi;conv in(occs:=*)S100=>all_goals cbv
 simp[ya,ha,Q,U,S,h,c,o,I,T,g,j,h3,t,m,p,s];refine JL zS ⟨zS,λk=>?_,by simp[jk],by simp;try omega⟩;simp
def jdw (g:Hist') (M:List Int):Option (List Int):=if (XA g M).isSome then X6 (yx g) M else none
def jqm (r:Option (List Int)) (v:V):Prop:=TupS [.sl none (r.getD []).isEmpty (r.getD []).length ((r.getD []).flatMap yf),.bool r.isSome] v
def jlf (C:Cs') (M:List Int) (i:Nat):List Int:=M.take i++(C.drop i).map hd1
def jjs {C:Cs'}{M:List Int}{i:Nat}(h:C.length=M.length) (hi:i<=C.length):(jlf C M i).length=C.length:=by unfold jlf;rw[ap,ai,bu,bc];omega
def jqs {C:Cs'}{M:List Int}{i:Nat}(h:C.length=M.length) (hi:i<C.length) (x:Int):j2 ((jlf C M (i+1)).flatMap yf) i [.int .i64 x]=(M.take i++x::(C.drop (i+1)).map hd1).flatMap yf:=by have a:=jar (f:=yf) (sz:=1) j6 x (jlf C M (i+1)) i (by rw[jjs h zO];exact hi);rw[bz]at a;rw[show([.int .i64 x]:List V)=yf x from rfl,a];congr 1;unfold jlf;rw[av (show i<M.length by omega),aY,List.set_append_right _ _ (by rw[ai];omega),ai];rw[show i-min i M.length=0 by omega];rfl
def j9z {c:Bool×List Int}(h:0<c.2.length):c.2.getD 0 0=hd1 c:=by
 unfold hd1;cases a:c.2 with
 |nil=>rw[a]at h;simp at h
 |cons x l=>rfl
def jl4 {C:Cs'}{M:List Int}{i q:Nat}(h:C.length=M.length) (hi:i<C.length) (c:yH (C[i]).2 (M[i]' zO) 0=q) (j:q<(C[i]).2.length) (k:X6 (C.drop (i+1)) (M.drop (i+1))=none) :
 if 0<Wb (C[i]).2 q then X6 C M=some (M.take i++(C[i]).2.getD (Wb (C[i]).2 q) 0::(C.drop (i+1)).map hd1)
 else (C[i]).2.getD (Wb (C[i]).2 q) 0=hd1 C[i]/\X6 (C.drop i) (M.drop i)=none:=by
 have g:i<M.length:=zO;have e:X6 (C.drop i) (M.drop i)=if (q:Int)+1<(C[i]).2.length then some ((C[i]).2.getD ((q:Int)+1).toNat 0::(C.drop (i+1)).map hd1) else none:=by rw[aP hi,aP g];simp only[X6,k,c]
 unfold Wb;by_cases a:q+1<(C[i]).2.length;rw[dO a,zb zO];rw[zb zO]at e;have f:=jis C M i _ zO h e;rw[f,show((q:Int)+1).toNat=q+1 by omega];have b:q+1=(C[i]).2.length:=zO;rw[b,ir,za zO];rw[za zO]at e;exact⟨j9z zO,e⟩
def sv99z {Yf:YF}(b:Bool) {ob:ZO}{tk:Nat->Bool}{ro base ub:Nat}(g:ro<=ub):∃r,EvS E Yf.y 99 [yl b yf []] ob tk ro base ub r/\(Old ob ub r.2.1/\r.2.2.1=tk/\ub<=r.2.2.2/\r.1.cells=[r.1]/\r.1.leaf=true):=by
 cases b with
 |true=>obtain⟨r,e,a,c,f,h⟩:=sv99n (Yf:=Yf) (ob:=ob) (tk:=tk) (ro:=ro) (base:=base) (ub:=ub);exact⟨r,e,by rw[c];exact λ_ _=>rfl,f,h,by rw[a];rfl,by rw[a];rfl⟩
 |false=>obtain⟨r,e,⟨m,_,_,a,_⟩,c,f,h⟩:=sv99 (Yf:=Yf) [] zS (ob:=ob) (tk:=tk) (base:=base) g;exact⟨r,e,c,f,h,by rw[a];rfl,by rw[a];rfl⟩
def ev57 {g:Hist'}(hs:Small g) {b:Bool}(M:List Int) (hM:M.length<=1000000) (hb:b=true->M=[]):∃v,Ev E 57 [.agg (yb g),yl b yf M] v/\jqm (jdw g M) v:=by
 obtain⟨vp,c3,p⟩:=ev98 hs (b:=b) M hM;have U:=jqa hs;have j:∀{st:St},st.df=[]->st.tm 4=.sl none true 0 []->st.tm 5=.bool false->jdw g M=none->WO [.t 4,.t 5] (jqm (jdw g M)) .ret st:=by intro st hd h4 h5 hp;rw[hp];exact jhx (ns:=[4,5]) (vs:=[.sl none true 0 [],.bool false]) (λr h=>h) hd (by simp[h4,h5]) zS zS ⟨jM rfl,jM rfl,trivial⟩
 refine JW rfl zQ ?_;obtain⟨P,hP⟩:∃P,jqm (jdw g M)=P:=⟨_,rfl⟩;rw[hP]at j ⊢;cases u:XA g M with
 |none=>
  rw[u]at p;conv in(occs:=*)F57=>all_goals cbv
  simp[yb,ya];refine jH c3 zH rfl zH ?_;refine jrb p λt1 t2 add=>?_;simp[ya,j2];exact j zS zS zS (by simp[jdw,u])
 |some J=>
  rw[u]at p;have e:=u;unfold XA at e;split at e;case isFalse=>cases e
  rename_i x;simp only[ab]at e;simp only[aj,zh]at x;obtain⟨hw,F,B⟩:=x;have G:jdw g M=X6 (yx g) M:=by simp[jdw,u]
  obtain⟨C,hC⟩:∃C,yx g=C:=⟨_,rfl⟩;unfold jlc at p;rw[hC]at U F B e G p;have b8:J.length=M.length:=by rw[<- e,jkv C M F];exact F
  have H:=jkw C M;rw[e]at H B;conv in(occs:=*)F57=>all_goals cbv
  simp[yb,ya];refine jH c3 zH rfl zH ?_;refine jrb p λt1 t2 add=>?_;simp[ya,j2];by_cases T:M=[];subst T;have d2:C=[]:=cB.1 (by simpa using F);subst d2;refine jJ (vs:=[yl b yf []]) zS rfl (sv99z b zS) ?_;rintro v S c6 a ⟨l,O,I,c4,b7⟩;simp only at l O I c4 b7;simp[ya,c4,b7];refine jb5 1 ?_;have wm:IntKind.i64.wrap (-1) = -1:=by decide
  simp[wm];exact j zS zS zS (by rw[G];rfl);have c8:b=false:=by cases b with|false=>rfl|true=>exact zf (hb rfl) T
  subst c8;refine jJ (vs:=[yl false yf M]) zS rfl (sv99 M zO zS) ?_;rintro v S c6 a ⟨⟨m,b6,d3,hv,c2⟩,l,O,I⟩;simp only at d3 hv c2 l O I;subst hv;have oA:S 1409=some ⟨704,.cells [.sl t2 false J.length (J.flatMap yf)]⟩:=by rw[l 1409 (by intro k hk;omega)];simp
  have oC:S 1281=some ⟨640,.cells [.sl t1 C.isEmpty C.length (C.flatMap Yd)]⟩:=by rw[l 1281 (by intro k hk;omega)];simp
  have d5:0<M.length:=dZ.2 T;have wM:IntKind.i64.wrap ((M.length:Int)-1)=(M.length:Int)-1:=jg zO zO;simp[ya,wM];have et:jlf C M M.length=M:=by unfold jlf;rw[bg,bC zO];simp
  have c7:X6 (C.drop M.length) (M.drop M.length)=none:=by rw[bC zO];rfl
  have n1:¬1409=2*a+1:=zO;have n2:¬704=a:=zO;have n3:¬1281=2*a+1:=zO;have n4:¬640=a:=zO;have n5:¬2*m+1=2*a+1:=zO;have n6:¬m=a:=zO;have n7:¬2*m=2*a:=zO;refine j5 [(4,5),(11,11),(27,34)] M.length (λk s=>s.tm 11=.int .i64 ((M.length:Int)-1-k)/\s.ob 1409=some ⟨704,.cells [.sl t2 false J.length (J.flatMap yf)]⟩/\s.ob 1281=some ⟨640,.cells [.sl t1 C.isEmpty C.length (C.flatMap Yd)]⟩ /\
   s.ob (2*a+1)=some ⟨a,.cells [.osl (2*m+1) m 0 M.length 1]⟩/\s.ob (2*m+1)=some ⟨m,.cells ((jlf C M (M.length-k)).flatMap yf)⟩/\X6 (C.drop (M.length-k)) (M.drop (M.length-k))=none) rfl rfl ⟨zS,by simp[oA,n1],by simp[oC,n3],zS,by simp[et,c2,n7],by simpa using c7⟩ ?_
  rintro k s hk ⟨y,pA,pC,pO,pL,hT⟩ f;have d1:s.tm 10=.fn (.func 100) [] [.ptr 1409 704 0,.ptr 1281 640 0,.ptr (2*a+1) a 0]:=by rw[f.t 10 zS];simp
  have f9:s.tm 9=.ptr (2*a+1) a 0:=by rw[f.t 9 zS];simp
  have fd:s.df=[]:=by rw[f.d];simp
  have fr:s.ro=0:=by rw[f.r];simp
  clear f;by_cases d0:k<M.length;obtain⟨i,hi⟩:∃i:Nat,M.length-(k+1)=i:=⟨_,rfl⟩;have d4:M.length-k=i+1:=zO;have X:i<M.length:=zO;have w:i<C.length:=zO;have c9:(M.length:Int)-1-k=(i:Int):=zO;rw[d4]at pL hT;rw[c9]at y;have N:=H i w X;have d8:0<=yH (C[i]).2 M[i] 0:=by simpa using aw.1 B _ (aJ N)
  have c5:=jky M[i] (C[i]).2 0;obtain⟨q,hq⟩:∃q:Nat,yH (C[i]).2 M[i] 0=q:=⟨(yH (C[i]).2 M[i] 0).toNat,zO⟩;rw[hq]at N c5;have b5:q<(C[i]).2.length:=zO;have b9:=(U _ (au w)).2;have c:=jl4 F w hq b5 hT;have c1:=jqs F w (((C[i]).2.getD (Wb (C[i]).2 q) 0));have a0:(0:Int)<=i:=zO;have Q:((jlf C M (i+1)).flatMap yf).length=M.length:=by rw[j1 j6,jjs F zO,bz,F]
  have wi:IntKind.i64.wrap ((i:Int)-1)=(i:Int)-1:=jg zO zO;simp[y,d1,a0];refine jzh (f:=100) (first:=[]) (captured:=[.ptr 1409 704 0,.ptr 1281 640 0,.ptr (2*a+1) a 0]) (vs:=[.int .i64 (i:Int),.ptr 1409 704 0,.ptr 1281 640 0,.ptr (2*a+1) a 0]) zS zS rfl
   (sv100 (i:=i) (q:=q) (J:=J) (C:=C) (n:=M.length) (cs:=(jlf C M (i+1)).flatMap yf) (by simpa[b8] using pA) (by simpa[F] using pC) (by simpa using pO) (by simpa using pL) Q b8 F X N b5 b9 (by simp[fr])) ?_
  rintro v L d9 d7 ⟨hv,o,_,b0⟩;simp only at hv o b0;subst hv;have qA:L 1409=some ⟨704,.cells [.sl t2 false J.length (J.flatMap yf)]⟩:=by rw[o,za zO];simpa using pA
  have qC:L 1281=some ⟨640,.cells [.sl t1 C.isEmpty C.length (C.flatMap Yd)]⟩:=by rw[o,za zO];simpa using pC
  have qO:L (2*a+1)=some ⟨a,.cells [.osl (2*m+1) m 0 M.length 1]⟩:=by rw[o,za zO];simpa using pO
  have qL:=o (2*m+1);rw[zb rfl,c1]at qL;clear o;by_cases hr:0<Wb (C[i]).2 q;rw[zb hr]at c;simp[hr,f9,ya,qO];rw[<- hP,G,c];generalize (C[i]).2.getD (Wb (C[i]).2 q) 0=z at *;have D:(M.take i++z::(C.drop (i+1)).map hd1).length=M.length:=by rw[ap,ai,bj,bu,bc];omega
  have c0:(M.take i++z::(C.drop (i+1)).map hd1).isEmpty=false:=zS;generalize M.take i++z::(C.drop (i+1)).map hd1=Z at *;unfold jqm;simp only[cz,c0,D];refine jhx (ns:=[4,5]) (vs:=[.osl (2*m+1) m 0 M.length 1,.bool true]) (λr h=>h) (by simp[fd]) zS zS zS ⟨?_,jM rfl,trivial⟩;exact XP rfl (jcf (by simpa using qL) (by rw[j1 j6,bz,D]) (by simp[fr]) (by simp[yf,V.pureLeaf]));rw[za hr]at c;have d6:Wb (C[i]).2 q=0:=zO;have ei:jlf C M i=M.take i++(C[i]).2.getD (Wb (C[i]).2 q) 0::(C.drop (i+1)).map hd1:=by unfold jlf;rw[aP w,aZ,c.1]
  rw[<- ei]at qL;simp[hr,y,wi];rw[hi];exact⟨d0,zO,qA,qC,qO,qL,c.2⟩;have:k=M.length:=zO;subst this;have b6:(M.length:Int)-1-M.length = -1:=zO;rw[b6]at y;simp[y];refine j (by simp[fd]) zS zS ?_;rw[G];simpa using hT
def jne (k:Int):∀(l:List Int) (n q:Nat),yH l k n=(n+q:Nat)->l[q]? = some k/\∀j,j<q->∀x,l[j]? = some x->¬x=k
 |[],n,q,h=>by simp only[yH]at h;omega
 |x::r,n,q,h=>by
  rw[yH]at h;split at h;rename_i a;have:q=0:=zO;subst this;simp only[zh]at a;exact⟨by simp[a],λj f=>by omega⟩;rename_i a;simp only[zh]at a;cases q with
  |zero=>have:=idxI_ge_n k r (n+1);omega
  |succ q=>
   have c:=jne k r (n+1) q zO;refine⟨by simpa using c.1,λj f y b=>?_⟩;cases j with
   |zero=>simp only[aE,ab]at b;subst b;exact λe=>a e.symm
   |succ j=>exact c.2 j zO y (by simpa using b)
where
 idxI_ge_n (k:Int):∀(l:List Int) (n:Nat),yH l k n = -1\/(n:Int)<=yH l k n
  |[],n=>.inl rfl
  |x::r,n=>by
   rw[yH]
   split
   ·exact .inr (dW _)
   ·rcases idxI_ge_n k r (n+1) with h|h
    ·exact .inl h
    ·exact .inr zO
def jsk:∀{C D:Cs'}(M:List Int),C.map (·.2)=D.map (·.2)->idxJ C M=idxJ D M
 |[],[],_,_=>rfl
 |c::C,d::D,[],_=>rfl
 |c::C,d::D,m::M,h=>by simp only[aZ,dT]at h;simp only[idxJ,h.1,jsk M h.2]
 |[],_::_,_,h=>by simp at h
 |_::_,[],_,h=>by simp at h
def jp0:∀{C D:Cs'},C.map (·.2)=D.map (·.2)->C.map hd1=D.map hd1
 |[],[],_=>rfl
 |c::C,d::D,h=>by simp only[aZ,dT]at h;rw[aZ,aZ,jp0 h.2];simp only[hd1,h.1]
 |[],_::_,h=>by simp at h
 |_::_,[],h=>by simp at h
def jmt:∀{C D:Cs'}(M:List Int),C.map (·.2)=D.map (·.2)->X6 C M=X6 D M
 |[],[],_,_=>rfl
 |c::C,d::D,[],_=>rfl
 |c::C,d::D,m::M,h=>by simp only[aZ,dT]at h;simp only[X6,h.1,jmt M h.2,jp0 h.2]
 |[],_::_,_,h=>by simp at h
 |_::_,[],_,h=>by simp at h
def ev62 {g:Hist'}(hs:Small g) {b:Bool}(M:List Int) (hM:M.length<=1000000) (hp:(XA g M).isSome=true):∃v,Ev E 62 [.agg (yb g),yl b yf M] v/\jqm (jdw g M) v:=by
 obtain⟨vc,d0,b8⟩:=ev37 hs;have T:jdw g M=X6 (yx g) M:=by simp[jdw,hp]
 unfold XA at hp;split at hp;case isFalse=>cases hp
 rename_i F;clear hp;simp only[aj,zh]at F;obtain⟨hw,hl,w⟩:=F;have b0:=jb0 hw;have b7:=jqb hw;rw[jmt M b0]at T;rw[jsk M b0]at w;rw[j0r hw]at hl;obtain⟨C,hC⟩:∃C,choR g=C:=⟨_,rfl⟩;rw[hC]at b8 T w hl b7;clear hC b0;have U:=jkw C M;obtain⟨J,hJ⟩:∃J,idxJ C M=J:=⟨_,rfl⟩;rw[hJ]at w U;refine JW rfl zQ ?_;obtain⟨P,hP⟩:∃P,jqm (jdw g M)=P:=⟨_,rfl⟩;rw[hP];have wM:IntKind.i64.wrap ((M.length:Int)-1)=(M.length:Int)-1:=jg zO zO;conv in(occs:=*)F62=>all_goals cbv
 simp[yb,ya];refine jH d0 zI rfl zI ?_;refine Jv b8 λtc d9=>?_;simp;refine jJ (vs:=[yl b yf M]) zS rfl (sv38 b M zO zS) ?_;rintro v e3 e0 e1 ⟨⟨m,c5,d7,hv,c7⟩,c4,d6,d1⟩;simp only at d7 hv c7 c4 d6 d1;subst hv;simp[wM];have et:jlf C M M.length=M:=by unfold jlf;rw[bg,bC zO];simp
 have d4:X6 (C.drop M.length) (M.drop M.length)=none:=by rw[bC zO];rfl
 refine j5 [(4,5),(8,9),(17,63)] M.length (λk s=>s.tm 8=.int .i64 ((M.length:Int)-1-k)/\s.ob (2*m+1)=some ⟨m,.cells ((jlf C M (M.length-k)).flatMap yf)⟩/\X6 (C.drop (M.length-k)) (M.drop (M.length-k))=none) rfl rfl ⟨zS,by simp[et,c7],by simpa using d4⟩ ?_;rintro k s hk ⟨h8,pL,hT⟩ f;have f1:s.tm 1=yl b yf M:=by rw[f.t 1 zS];simp
 have f6:s.tm 6=.sl tc false C.length (C.flatMap Yd):=by rw[f.t 6 zS];simp
 have f7:s.tm 7=.osl (2*m+1) m 0 M.length 1:=by rw[f.t 7 zS];simp
 have fd:s.df=[]:=by rw[f.d];simp
 have fr:s.ro=0:=by rw[f.r];simp
 clear f;by_cases d5:k<M.length;obtain⟨i,hi⟩:∃i:Nat,M.length-(k+1)=i:=⟨_,rfl⟩;have d8:M.length-k=i+1:=zO;have p:i<M.length:=zO;have y:i<C.length:=zO;have e8:(M.length:Int)-1-k=(i:Int):=zO;rw[d8]at pL hT;rw[e8]at h8;have d2:=U i y p;have e2:0<=yH (C[i]).2 M[i] 0:=by simpa using aw.1 w _ (aJ d2)
 have c9:=jky M[i] (C[i]).2 0;obtain⟨q,hq⟩:∃q:Nat,yH (C[i]).2 M[i] 0=q:=⟨(yH (C[i]).2 M[i] 0).toNat,zO⟩;rw[hq]at c9;have S:q<(C[i]).2.length:=zO;have a0:=b7 _ (au y);have a:=jl4 hl y hq S hT;obtain⟨B,Q⟩:=jne M[i] (C[i]).2 0 q (by rw[hq];omega);have c:=jqs hl y (((C[i]).2.getD (Wb (C[i]).2 q) 0));have c1:(0:Int)<=i:=zO;have H:((jlf C M (i+1)).flatMap yf).length=M.length:=by rw[j1 j6,jjs hl zO,bz,hl]
 have wi:IntKind.i64.wrap ((i:Int)-1)=(i:Int)-1:=jg zO zO;have ei:jlf C M i=M.take i++hd1 C[i]::(C.drop (i+1)).map hd1:=by unfold jlf;rw[aP y,aZ]
 have h1:=jeo C y;have h2:=jj M p;have G:jt 1 (.sl tc false C.length (C.flatMap Yd)) (.int .i64 (i:Int))=some (.eptr (C.flatMap Yd) i):=by simp only[J1,j1 Xw];rw[zb zP];simp
 have c2:=j4k (l:=2*m+1) (u:=m) (n:=M.length) (kk:=.i64) (X:=(i:Int)) rfl p;obtain⟨Mi,d3⟩:∃x,M[i]=x:=⟨_,rfl⟩;rw[d3]at h2 B Q;obtain⟨X,hX⟩:∃X,C[i]=X:=⟨_,rfl⟩;obtain⟨nx,X⟩:=X;rw[hX]at h1 S a0 a B Q c ei;simp only at h1 S a0 a B Q c;have D:∀j:Nat,j<X.length->jt 1 (.sl none nx X.length (X.flatMap yf)) (.int .i64 (j:Int))=some (.eptr (X.flatMap yf) j):=by intro j hj;simp only[J1,j1 j6];rw[zb zP];simp
 simp[h8,c1];refine j5 [(9,9),(21,34)] q (λj O=>O.tm 9=.int .i64 (j:Nat)/\O.ob=s.ob) rfl rfl ⟨zS,zS⟩ ?_;rintro j O hj ⟨h9,c3⟩ f;have g1:O.tm 1=yl b yf M:=by rw[f.t 1 zS];simp[f1]
 have g6:O.tm 6=.sl tc false C.length (C.flatMap Yd):=by rw[f.t 6 zS];simp[f6]
 have g7:O.tm 7=.osl (2*m+1) m 0 M.length 1:=by rw[f.t 7 zS];simp[f7]
 have g8:O.tm 8=.int .i64 (i:Int):=by rw[f.t 8 zS];simp[h8]
 have gd:O.df=[]:=by rw[f.d];simp[fd]
 have gr:O.ro=0:=by rw[f.r];simp[fr]
 clear f;rw[<- c3]at pL;have wj:=jP (i:=j) (N:=42) zO zO;have h3:=jj X (show j<X.length by omega);by_cases b9:j<q;have L:(X[j] != Mi)=true:=by have:=Q j b9 X[j] (aa zO);simpa using this
 simp[h9,g1,g6,g8,G,h1,D j zO,h3,j4 j6,p,h2,L,wj];exact⟨b9,c3⟩;have:j=q:=zO;subst this;have L:(X[j] != Mi)=false:=by have e:=aa S;rw[e]at B;simp only[ab]at B;simp[B]
 have c8:i+1<=M.length:=p;unfold Wb at a c;by_cases hr:j+1<X.length;rw[dO hr,zb zO]at a;rw[dO hr]at c;have h4:=jj X hr;have hg:X.getD (j+1) 0=X[j+1]:=by simp[hr]
 rw[hg]at a c;have b5:(j:Int)+1<X.length:=zO;have o:=D (j+1) hr;simp only[Int.natCast_add,Int.cast_ofNat_Int]at o;simp[h9,g1,g6,g7,g8,G,h1,D j zO,h3,j4 j6,p,h2,L,wj,b5,o,h4,c2,ya,pL,gr,H,c8];rw[<- hP,T,a];generalize X[j+1]=z at *;have I:(M.take i++z::(C.drop (i+1)).map hd1).length=M.length:=by rw[ap,ai,bj,bu,bc];omega
 have c6:(M.take i++z::(C.drop (i+1)).map hd1).isEmpty=false:=zS;generalize M.take i++z::(C.drop (i+1)).map hd1=Z at *;unfold jqm;simp only[cz,c6,I];refine jhx (ns:=[4,5]) (vs:=[.osl (2*m+1) m 0 M.length 1,.bool true]) (λr h=>h) (by simp[gd]) zS zS zS ⟨?_,jM rfl,trivial⟩;exact XP rfl (jcf (by simp[c]) (by rw[j1 j6,bz,I]) (by simp[gr]) (by simp[yf,V.pureLeaf]));have c0:j+1=X.length:=zO;rw[c0,ir,za zO]at a;rw[c0,ir]at c;have b6:0<X.length:=zO;have h4:=jj X b6;have hg:X.getD 0 0=X[0]:=by simp[b6]
 rw[hg]at a c;have b5:¬(j:Int)+1<X.length:=zO;have o:=D 0 b6;simp only[Int.cast_ofNat_Int]at o;simp[h9,g1,g6,g7,g8,G,h1,D j zO,h3,j4 j6,p,h2,L,wj,b5,o,h4,c2,ya,pL,gr,H,c8,wi,c];rw[hi,ei,<- a.1];exact⟨d5,zO,zS,a.2⟩;have:k=M.length:=zO;subst this;have c5:(M.length:Int)-1-M.length = -1:=zO;rw[c5]at h8;simp[h8];rw[<- hP,T,show X6 C M=none by simpa using hT];exact jhx (ns:=[4,5]) (vs:=[.sl none true 0 [],.bool false]) (λr h=>h) (by simp[fd]) zS zS zS ⟨jM rfl,jM rfl,trivial⟩
def j73 (ub n:Nat) (cs:List V):Xp ub (.sl (some (0,1)) false n cs)=some { v:=.sl (some (ub,1)) false n cs,add:=[ub] }:=rfl
section
variable {E:Env}{st:St}{ub:Nat}{K:List FP->St->Prop}{d:Option Nat}{nm:Bool}{r:List AOpr}
def ji6 {i:Type}{f:i->List V}{sz b u:Nat}{l:List i}{a:i}{s x:A}(p:ye E st.tm s=.sl (some (u,sz)) false l.length (l.flatMap f)) (n:st.tk u=true) (q:yp st.ob sz (ye E st.tm x)=some (f a)) (c:∀a,(f a).length=sz) (m:0<sz)
 (hp:(f a).all V.pureLeaf=true) (o:(l.length+1)*b<=140737488355328) (j:l.length+1<=140737488355328)
 (h:YU E r K (ye E st.tm) (.append false sz b s x) st d ub { v:=.sl (some (ub,sz)) false (l.length+1) ((l++[a]).flatMap f),del:=some u,add:=[ub] }):jE E (⟨d,.append false sz b s x,none,nm⟩::r) st ub K:=by
 have g:f a≠[]:=λe=>by have:=c a;rw[e]at this;simp at this;omega
 have k:(f a).length/sz=1:=by rw[c];exact gE m
 rw[jv rfl];simp only[yU,p,q,ah,za g,bH,ag,zc];rw[zb ⟨by rw[j1 c],m,hp,by rw[k];exact o,by rw[k];exact j⟩,zb (by simp[n]),jG,k];simpa using h
end
def joc (l:List Int):List V:=Yd (false,l)
@[simp] theorem jkk (l:List Int):(joc l).length=1:=rfl
def j8t (L:List (List Int)) {i:Nat}(h:i<L.length):(L.flatMap joc)[i]? = some (.sl none false (L[i]).length ((L[i]).flatMap yf)):=by have:=jO jkk L h (by decide:0<1);rw[bz,bl]at this;rw[this];rfl
def Xo (c:Bool×List Int) (out:List (List Int)) (k j:Nat):List (List Int):=stepA c (out.take k)++(c.2.take j).map λx=>out.getD k []++[x]
def jwt (c:Bool×List Int) (a b:List (List Int)):stepA c (a++b)=stepA c a++stepA c b:=by unfold stepA;rw[bK]
def ji9 {c:Bool×List Int}{out:List (List Int)}{k:Nat}(a:k<out.length) (j:Nat):Xo c out (k+1) 0=Xo c out k j++(c.2.drop j).map λx=>out.getD k []++[x]:=by unfold Xo;rw[av a,jwt,dP,cn,aL,aY,<- bE,dR];congr 1;simp[stepA,a]
def jvd {c:Bool×List Int}{out:List (List Int)}{k j:Nat}(a:j<c.2.length):Xo c out k (j+1)=Xo c out k j++[out.getD k []++[c.2[j]]]:=by unfold Xo;rw[av a,bE,aY];rfl
def jz6 (c:Bool×List Int) (out:List (List Int)):Xo c out out.length 0=stepA c out:=by unfold Xo;simp
def jvc (c:Bool×List Int) (out:List (List Int)):Xo c out 0 0=[]:=by unfold Xo stepA;simp
def jwo {c:Type}{n:Nat}{a b:List c}(h:n<=a.length):(a++b).take n=a.take n:=by rw[eV h]
def jtu {c:Bool×List Int}{n i:Nat}{out:List (List Int)}(h:∀o∈out,o.length=i):∀o∈(stepA c out).take n,o.length=i+1:=by intro o e;have:=dI e;unfold stepA at this;obtain⟨p,a,b⟩:=cq.1 this;obtain⟨x,_,rfl⟩:=aI.1 b;rw[ap,h p a];rfl
def jn5:∀(C:Cs') (n:Nat) (out:List (List Int)) (c:Bool×List Int),allF (C++[c]) n out=(stepA c (allF C n out)).take n
 |[],n,out,c=>rfl
 |d::C,n,out,c=>by simp only[cY,allF];exact jn5 C n _ c
def jta:∀(C:Cs') (n:Nat) (out:List (List Int)),out.length<=n->(allF C n out).length<=n
 |[],n,out,h=>h
 |d::C,n,out,_=>jta C n _ (by rw[ai];omega)
def jn6:∀(C:Cs') (n i:Nat) (out:List (List Int)),(∀o∈out,o.length=i)->∀o∈allF C n out,o.length=i+C.length
 |[],n,i,out,h=>h
 |d::C,n,i,out,h=>by intro o a;have:=jn6 C n (i+1) _ (jtu (c:=d) (n:=n) h) o a;rw[this,bj];omega
def ev18 {g:Hist'}(hs:Small g) (hw:jX g=true) (most:Nat) (h0:1<=most) (h1:most<=1000):∃v,Ev E 18 [.agg (yb g),.int .i64 most] v/\SlR v false (allF (choR g) most [[]]).length ((allF (choR g) most [[]]).flatMap joc):=by
 obtain⟨vc,b0,H⟩:=ev37 hs;have c3:=jk5 hs;have G:=jqb hw;obtain⟨C,hC⟩:∃C,choR g=C:=⟨_,rfl⟩;rw[hC]at H c3 G ⊢;refine JW rfl zQ ?_;conv in(occs:=*)F18=>all_goals cbv
 simp[yb,ya];refine jH b0 zI rfl zI ?_;refine Jv H λX c8=>?_;simp;refine jF (cs:=[]) rfl rfl rfl ?_;simp;refine jF (cs:=[.sl (some (320,1)) false 0 []]) (by simp[j2]) rfl rfl ?_;simp[V.strip1];refine j5 [(6,10),(15,60)] C.length (λi s=>s.tm 7=.int .i64 i/\∃t,s.tm 6=.sl t false (allF (C.take i) most [[]]).length ((allF (C.take i) most [[]]).flatMap joc)) rfl rfl ⟨zS,by simp[allF,joc,Yd]⟩ ?_;rintro i s hi ⟨h7,U,h6⟩ f;have f1:s.tm 1=.int .i64 most:=by rw[f.t 1 zS];simp
 have f5:s.tm 5=.sl X false C.length (C.flatMap Yd):=by rw[f.t 5 zS];simp
 have fd:s.df=[]:=by rw[f.d];simp
 clear f;have b9:=jta (C.take i) most [[]] (by simpa using h0);have T:=jn6 (C.take i) most 0 [[]] zS;obtain⟨out,m⟩:∃out,allF (C.take i) most [[]]=out:=⟨_,rfl⟩;rw[m]at h6 b9 T;by_cases p:i<C.length
 ·have b8:=jP p zO;have y:allF (C.take (i+1)) most [[]]=(stepA C[i] out).take most:=by rw[av p,jn5,m]
  have Q:=G _ (au p);have z:=jeo C p;obtain⟨c,hc⟩:∃c,C[i]=c:=⟨_,rfl⟩;rw[hc]at y Q z;have n:jt 1 (.sl X false C.length (C.flatMap Yd)) (.int .i64 (i:Int))=some (.eptr (C.flatMap Yd) i):=by simp only[J1,j1 Xw];rw[zb zP];simp
  simp[h7,f5,p];refine jF (cs:=[]) rfl rfl rfl ?_;simp;refine j5 [(8,10),(22,59)] out.length (λk B=>B.tm 9=.int .i64 k/\GrowT B.tk B.nx joc 1 ((Xo c out k 0).take most) (B.tm 8)) rfl rfl ⟨zS,by simp[jvc];exact⟨s.nx+64+64+64+64,zS,by simp[jb],zS⟩⟩ ?_;rintro k B hk ⟨h9,hG⟩ f;have e1:B.tm 1=.int .i64 most:=by rw[f.t 1 zS];simp[f1]
  have e5:B.tm 5=.sl X false C.length (C.flatMap Yd):=by rw[f.t 5 zS];simp[f5]
  have e6:B.tm 6=.sl U false out.length (out.flatMap joc):=by rw[f.t 6 zS];simp[h6]
  have e7:B.tm 7=.int .i64 i:=by rw[f.t 7 zS];simp[h7]
  have ed:B.df=[]:=by rw[f.d];simp[fd]
  clear f;by_cases b:k<out.length
  ·have I:=jP b zO;have b7:=j8t out b;have a0:out.getD k []=out[k]:=by simp[b]
   have J:jt 1 (.sl U false out.length (out.flatMap joc)) (.int .i64 (k:Int))=some (.eptr (out.flatMap joc) k):=by simp only[J1,j1 jkk];rw[zb zP];simp
   have c5:(out[k]).length<=1000000:=by have:=T _ (au b);simp at this;omega
   simp[h9,e6,b];refine j5 [(8,8),(10,10),(28,59)] c.2.length (λj w=>w.tm 10=.int .i64 (j:Nat)/\GrowT w.tk w.nx joc 1 ((Xo c out k j).take most) (w.tm 8)) rfl rfl ⟨zS,by simp;exact hG.mono (λ_ _ h=>h) zO⟩ ?_;rintro j w hj ⟨x,D⟩ f;have g1:w.tm 1=.int .i64 most:=by rw[f.t 1 zS];simp[e1]
   have g5:w.tm 5=.sl X false C.length (C.flatMap Yd):=by rw[f.t 5 zS];simp[e5]
   have g6:w.tm 6=.sl U false out.length (out.flatMap joc):=by rw[f.t 6 zS];simp[e6]
   have Z:w.tm 7=.int .i64 i:=by rw[f.t 7 zS];simp[e7]
   have g9:w.tm 9=.int .i64 k:=by rw[f.t 9 zS];simp[h9]
   have gd:w.df=[]:=by rw[f.d];simp[ed]
   clear f;obtain⟨u8,o,S,c6⟩:=id D;have c2:((Xo c out k j).take most).length=min most (Xo c out k j).length:=ai;by_cases q:j<c.2.length
   ·by_cases hm:(Xo c out k j).length<most
    ·have c4:(Xo c out k j).take most=Xo c out k j:=aH zO;have F:(Xo c out k (j+1)).take most=Xo c out k j++[out[k]++[c.2[j]]]:=by rw[jvd q,a0,aH (by rw[ap];simp;omega)]
     have b6:=jP q zO;have c0:=jj c.2 q;have O:jt 1 (.sl none c.1 c.2.length (c.2.flatMap yf)) (.int .i64 (j:Int))=some (.eptr (c.2.flatMap yf) j):=by simp only[J1,j1 j6];rw[zb zP];simp
     rw[c4]at o D;have P:((Xo c out k j).length:Int)<most:=zO;simp[x,g1,g5,g6,Z,g9,n,z,q,o,P,J,b7];refine X4 (ev38t false (out[k]) zO) (by simp[yl]) rfl (by simp[yl]) ?_;rw[j73];simp[g5,Z,x,n,z,O,c0];refine jd3 (cs:=yf c.2[j]) (by simp[j2,yf]) rfl rfl ?_;simp;refine ji6 (f:=yf) (u:=w.nx+64+64+64+64+64+64+64+64+64+64+64+64+64+64+64+64+64+64) (l:=out[k]) (a:=c.2[j]) zS (by simp[jb]) (by simp[yp,yf]) j6 zQ rfl zO zO ?_;have c7:(out[k]).flatMap yf++yf c.2[j]=(out[k]++[c.2[j]]).flatMap yf:=zS;simp;refine jd3 (cs:=[.sl (some (w.nx+64+64+64+64+64+64+64+64+64+64+64+64+64+64+64+64+64+64+64+64+64+64+64+64+64+64+64,1)) false ((out[k]).length+1) ((out[k]).flatMap yf++yf c.2[j])]) (by simp[j2]) rfl (by simp[V.strip1,V.pureLeaf]) ?_;simp[V.strip1];refine ji6 (f:=joc) (u:=u8) (l:=Xo c out k j) (a:=out[k]++[c.2[j]]) zS (by simp[jb,S];try omega) (by simp[yp,joc,Yd]) jkk zQ (by simp[joc,Yd,V.pureLeaf]) zO zO ?_;have L:(Xo c out k j).length+1=(Xo c out k j++[out[k]++[c.2[j]]]).length:=zS;rw[<- F]at L ⊢;rw[L];obtain⟨N,hN⟩:∃N,(Xo c out k (j+1)).take most=N:=⟨_,rfl⟩;rw[hN];simp[x,b6];refine⟨?_,q,?_⟩;simp[JQ,YW,Wk,QP,yz,yB,yR,uOf,Delta.wo,Delta.wt];rw[ey];intro h;have:=bt h;omega;rw[hN];refine⟨_,rfl,?_,?_⟩;simp[jb];omega
    have P:¬((Xo c out k j).length:Int)<most:=zO;have M:min most (Xo c out k j).length=most:=zO;simp[x,g1,g5,Z,g9,n,z,q,o,M];have e:(Xo c out (k+1) 0).take most=(Xo c out k j).take most:=by rw[ji9 b j];exact jwo zO
    rw[e];refine⟨b,I,?_⟩;exact⟨u8,by rw[c2,M],S,zO⟩
   have b5:j=c.2.length:=zO;subst b5;simp[x,g5,Z,g9,n,z];have e:(Xo c out (k+1) 0).take most=(Xo c out k c.2.length).take most:=by rw[ji9 b c.2.length,dl];simp
   rw[e];refine⟨b,I,?_⟩;exact D.mono (λ_ _ h=>h) zO
  have c1:k=out.length:=zO;subst c1;obtain⟨u8,o,_,_⟩:=hG;rw[jz6,<- y]at o;simp[h9,e6,e7,b8,o];exact p
 have:i=C.length:=zO;subst this;rw[bg]at m;rw[m];simp[h7,f5];exact slE (t:=U) (nl:=false) (k:=out.length) (cs:=out.flatMap joc) (λr h=>h) (by simp[fd]) (by simp[h6])
section
variable {g:Hist'}
def ev32 (e:Small g) (lvl most:Int):Ev E 32 [.int .i64 lvl,.agg (yb g),.int .i64 most] (.int .i64 (if jX g=false then 4 else if lvl<1\/3<lvl\/most<0 then 2 else 0)):=by
 have b:=ev28 e;refine jS rfl ?_;conv in(occs:=*)F32=>all_goals cbv
 simp[ya,yb];refine jH b zI rfl zI ?_;cases f:jX g;simp;exact j3 rfl zS rfl;by_cases a:lvl<1;simp[a];exact j3 rfl zS rfl;by_cases c:3<lvl;simp[a,c];exact j3 rfl zS rfl;by_cases d:most<0;simp[a,c,d];exact j3 rfl zS rfl;simp[a,c,d];exact j3 rfl zS rfl
def jbt:∀{C D:Cs'},C.map (·.2)=D.map (·.2)->jx C=jx D
 |[],[],_=>rfl
 |c::C,d::D,h=>by simp only[aZ,dT]at h;have:=jbt h.2;unfold jx at this ⊢;rw[bU,bU,h.1,this]
 |[],_::_,h=>by simp at h
 |_::_,[],h=>by simp at h
def ev59 (B:Small g) (hw:jX g=true):Ev E 59 [.agg (yb g)] (.bool (Q5 g || !jx (choR g))):=by
 have Q:=B.ts;have v:=ev16 g Q;rw[show yu Jp g.ts g.ts.length=ym g from rfl]at v;obtain⟨vc,G,I⟩:=ev37 B;have b6:=Xd g;have b5:=jk5 B;refine jS rfl ?_;conv in(occs:=*)F59=>all_goals cbv
 simp[yb,ya];refine jH v zI rfl zI ?_;refine Jv (nl:=false) (n:=(ym g).length) (cs:=(ym g).flatMap yf) ⟨_,rfl,zS⟩ λM b0=>?_;simp;refine jQ λy m=>?_;have N:∃k u,y.tm 1=.ptr k u 0/\y.ob k=some ⟨u,.cells (yb g)⟩:=by rw[m];exact⟨_,_,by simp;exact⟨rfl,rfl⟩,zI⟩
 obtain⟨kH,uH,N,p1⟩:=N;have g3:y.tm 3=.sl M false (ym g).length ((ym g).flatMap yf):=by rw[m];simp
 have g4:y.tm 4=.int .i64 0:=by rw[m];simp
 have gd:y.df=[]:=by rw[m];simp
 clear m;have ix:∀{k:Nat},k<(ym g).length->jt 1 (.sl M false (ym g).length ((ym g).flatMap yf)) (.int .i64 (k:Int))=some (.eptr ((ym g).flatMap yf) k):=fun {k} h=>by have:=JC j6 M false (ym g) .i64 h;rwa [bz]at this
 refine j5 [(2,2),(4,4),(9,22)] (ym g).length (λi s=>s.tm 4=.int .i64 i/\s.ob kH=some ⟨uH,.cells (yb g)⟩/\∀j (c:j<(ym g).length),j<i->(badH g (ym g)[j]).isEmpty=true) rfl rfl ⟨by simpa using g4,p1,λj c h=>by omega⟩ ?_;rintro i s hi ⟨F,H,b⟩ f;have Z:=(f.t 1 zS).trans N;have s3:=(f.t 3 zS).trans g3;have U:=f.d.trans gd;clear f;by_cases a:i<(ym g).length;have o:=jP a zO;obtain⟨vb,S,J⟩:=ev65 B ((ym g)[i]);have z:=jj (ym g) a;simp[Z,s3,F,H,ya,yb,a,ix a,z];refine X4 S zI rfl zI ?_;refine Jv J λtb a0=>?_;cases l:(badH g ((ym g)[i])).isEmpty;have q:0<(badH g ((ym g)[i])).length:=dZ.2 (λe=>by rw[e]at l;cases l);have K:Q5 g=true:=bZ.2 ⟨_,au a,by rw[l];rfl⟩;simp[q];exact j3 (by simpa using U) (by simp[K]) rfl;have q:¬0<(badH g ((ym g)[i])).length:=by rw[dD]at l;rw[l];simp
 simp[q,o,F];refine⟨a,by rw[H];rfl,λj c h=>?_⟩;rcases bi.1 h with h|rfl;exact dD.1 (b j c h);exact dD.1 l;have:i=(ym g).length:=zO;subst this;have K:Q5 g=false:=by unfold Q5;rw[eO];intro x O;obtain⟨j,c,rfl⟩:=bq O;rw[b j c c];simp
 rw[K,bR];simp[s3,F,Z,ya,H,yb];clear b;refine jH G zI rfl zI ?_;refine Jv I λt5 X=>?_;generalize choR g=C at *;simp;refine j5 [(2,2),(6,6),(25,36)] C.length (λi s=>s.tm 6=.int .i64 i/\∀j (c:j<C.length),j<i->(C[j]).2.isEmpty=false) rfl rfl ⟨zS,λj c h=>by omega⟩ ?_;rintro i w hi ⟨L,b⟩ f;have T:w.tm 5=.sl t5 false C.length (C.flatMap Yd):=by rw[f.t 5 zS];simp
 have wd:w.df=[]:=by rw[f.d];simpa using U
 clear f;by_cases a:i<C.length;have o:=jP a zO;have z:=jeo C a;have p:jt 1 (.sl t5 false C.length (C.flatMap Yd)) (.int .i64 (i:Int))=some (.eptr (C.flatMap Yd) (i*1)):=by simp only[J1,j1 Xw];rw[zb zP];rfl
 rw[bz]at p;cases D:(C[i]).2.isEmpty;have r:(((C[i]).2.length:Int)==0)=false:=by rw[len0];exact D
 simp[T,L,a,p,z,r,o];intro j c h;rcases bi.1 h with h|rfl;simpa using b j c h;simpa using D;have r:(((C[i]).2.length:Int)==0)=true:=by rw[len0];exact D
 have P:jx C=false:=by rw[ey];intro h;have:=aw.1 h _ (au a);rw[D]at this;cases this
 simp[T,L,a,p,z,r,o];exact j3 (by simpa using wd) (by simp[P]) rfl;have:i=C.length:=zO;subst this;have P:jx C=true:=by unfold jx;rw[aw];intro x O;obtain⟨j,c,rfl⟩:=bq O;rw[b j c c];rfl
 simp[T,L];exact j3 (by simpa using wd) (by simp[P]) rfl
end
def yN (g:Hist') (lvl left:Int):List V:=[.int .i64 lvl,yl g.sn X1 g.ss,yl g.kn X1 g.ks,yl g.tn jf g.ts,.int .i64 left]
section
variable {g:Hist'}{lvl left:Int}{k u ub:Nat}{ob:ZO}
def evo97 (h:Small g) {b a:Nat}(f:ob b=some ⟨a,.cells [.ptr k u 0]⟩) (d:ob k=some ⟨u,.cells (yN g lvl left)⟩) (x:Int) (tk:Nat->Bool) (base:Nat):EvO E 97 [.int .i64 x,.ptr b a 0] ob tk base ub (.bool (!(badH g x).isEmpty)):=by
 obtain⟨v,c,e⟩:=ev71 h x;refine jq rfl ?_;conv in(occs:=*)S97=>all_goals cbv
 simp[ya,f,d,yN];refine jH c zI rfl zH ?_;refine Jv e λt add=>?_;simp;refine j3 zS ?_ rfl;cases badH g x<;>simp
def evo56 (a:Small g) (e:jX g=true) (c:ob k=some ⟨u,.cells (yN g lvl left)⟩) (f:Off ub k) (tk:Nat->Bool) (base:Nat):EvO E 56 [.ptr k u 0] ob tk base ub (.bool (Q5 g)):=by
 obtain⟨v,j,d⟩:=ev70 a;rw[jg9 e]at d;have m:=Xd g;have l:=a.ts;have b:=f.ne;refine jq rfl ?_;conv in(occs:=*)S56=>all_goals cbv
 simp(disch:=try exact zD)[S56,ya,c,yN,b,V.cells,V.leaf];refine jH j zI rfl zH ?_;refine Jv d λt add=>?_;simp;refine jN (vs:=[.sl t (ym g).isEmpty (ym g).length ((ym g).flatMap yf),.fn (.func 97) [] [.ptr (2*ub+1) ub 0]]) zS rfl (by rw[bU,dS];exact .inr rfl) (evo96 (p:=λt=>!(badH g t).isEmpty) rfl zO (λx n tk base i h=>?_) _ _) ?_;exact evo97 a (k:=k) (u:=u) (lvl:=lvl) (left:=left) zS (by simp(disch:=try exact zD)[c,b,yN]) x tk base;simp;refine j3 zS ?_ rfl;simp[Q5]
end
def DecW (c:List Int×List Int) (is:Bool) (n:Int) (w:V) (v:V):Prop:=∃(t1 t2:Option (Nat×Nat)) (n1 n2:Bool),v=.tup [.agg [.sl t1 n1 c.1.length (c.1.flatMap yf),.sl t2 n2 c.2.length (c.2.flatMap yf)],.bool is,.int .i64 n,w]/\∀p∈t1.toList++t2.toList,p.1<64
def DecR (r:(List Int×List Int)×Bool×Int×Int) (v:V):Prop:=DecW r.1 r.2.1 r.2.2.1 (.int .i64 r.2.2.2) v
def Flat1 (w:V):Prop:=(∃e,w=.int .i64 e)\/∃b,w=.bool b
def Flat1.int (e:Int):Flat1 (.int .i64 e):=.inl ⟨e,rfl⟩
def Flat1.bool (b:Bool):Flat1 (.bool b):=.inr ⟨b,rfl⟩
def toks4 (x y:V) (b:Bool) (n:Int) {w:V}(a:Flat1 w):List.flatMap V.toks [.agg [x,y],.bool b,.int .i64 n,w]=x.tok++y.tok:=by
 have:w.toks=[]:=by rcases a with⟨e,rfl⟩|⟨e,rfl⟩<;>rfl
 simp[V.toks,show ∀e,(V.int .i64 e).tok=[] from λ_=>rfl,show(V.bool b).tok=[] from rfl];exact this
def jxa {ub:Nat}{v:V}{c:List Int×List Int}{is:Bool}{n:Int}{w:V}{K:Delta->Prop}(s:Flat1 w) (L:DecW c is n w v)
 (h:∀l f a d add,K { v:=.tup [.agg [.sl l a c.1.length (c.1.flatMap yf),.sl f d c.2.length (c.2.flatMap yf)],.bool is,.int .i64 n,w],add:=add }):wpD (Xp ub v) K:=by
 obtain⟨l,f,a,d,rfl,D⟩:=L;obtain⟨x,q⟩:∃x,x=V.sl l a c.1.length (c.1.flatMap yf):=⟨_,rfl⟩;obtain⟨y,o⟩:∃y,y=V.sl f d c.2.length (c.2.flatMap yf):=⟨_,rfl⟩;have m:(yy (.tup [.agg [x,y],.bool is,.int .i64 n,w])).all (λi=>Nat.blt i 64)=true:=by
  show(List.flatMap V.toks [.agg [x,y],.bool is,.int .i64 n,w]).all _=true;rw[toks4 _ _ _ _ s,aw];intro i z;have:∃p∈l.toList++f.toList,p.1=i:=by rw[aQ,q,o,tokm,tokm]at z;rcases z with⟨p,j,h⟩|⟨p,j,h⟩;exact⟨p,by simp[j],h⟩;exact⟨p,by simp[j],h⟩
  obtain⟨p,j,rfl⟩:=this;simpa[dt] using D p j
 rw[<- q,<- o,Xp,zb m,jG];have e:∀(t:Option (Nat×Nat)) r n cs,∃B,Y4 ub (.sl t r n cs)=.sl B r n cs:=λt r n cs=>by
  cases t with
  |none=>exact⟨none,rfl⟩
  |some p=>exact⟨_,rfl⟩
 obtain⟨a1,J⟩:=e l a c.1.length (c.1.flatMap yf);obtain⟨a2,H⟩:=e f d c.2.length (c.2.flatMap yf);have:=h a1 a2 a d ((yy (.tup [.agg [x,y],.bool is,.int .i64 n,w])).map (ub + ·));have F:∀b,QZ ub (.bool b)=.bool b:=λ_=>rfl;have M:∀e,QZ ub (.int .i64 e)=.int .i64 e:=λ_=>rfl;have I:QZ ub w=w:=by rcases s with⟨e,rfl⟩|⟨e,rfl⟩<;>rfl
 have G:ja4 ub (.tup [.agg [x,y],.bool is,.int .i64 n,w])=.tup [.agg [.sl a1 a c.1.length (c.1.flatMap yf),.sl a2 d c.2.length (c.2.flatMap yf)],.bool is,.int .i64 n,w]:=by simp only[ja4,aZ,cn,F,M,I];simp only[QZ,aZ,cn,q,o,J,H]
 rw[G];exact this
def jrc {ub:Nat}{v:V}{r:(List Int×List Int)×Bool×Int×Int}{K:Delta->Prop}(c:DecR r v)
 (h:∀b a d e add,K { v:=.tup [.agg [.sl b d r.1.1.length (r.1.1.flatMap yf),.sl a e r.1.2.length (r.1.2.flatMap yf)],.bool r.2.1,.int .i64 r.2.2.1,.int .i64 r.2.2.2],add:=add }):wpD (Xp ub v) K:=jxa (.int _) c h
def Yk {P:V->Prop}{st:St}{p a b d l u:Nat}{x y:V}{c:List Int×List Int}{is:Bool}{n:Int}{w:V}{n1 o:Bool}(G:Flat1 w) (Q:∀v,DecW c is n w v->P v) (F:st.df=[]) (hp:st.tm p=.ptr l u 0) (L:st.ob l=some ⟨u,.cells [x,y]⟩) (S:st.tm a=.bool is) (H:st.tm b=.int .i64 n) (T:st.tm d=w)
 (O:jdg st x n1 c.1.length (c.1.flatMap yf)) (N:jdg st y o c.2.length (c.2.flatMap yf)):WO [.cell p (some 2),.t a,.t b,.t d] P .ret st:=by
 have J:ya st.ob l u=some [x,y]:=by simp[ya,L]
 have m:[ARes.cell p (some 2),ARes.t a,ARes.t b,ARes.t d].mapM (ju st)=some [.agg [x,y],.bool is,.int .i64 n,w]:=by simp[ju,hp,J,S,H,T]
 obtain⟨s,z,j⟩:=O (yJ (List.flatMap V.toks [.agg [x,y],.bool is,.int .i64 n,w])) 0;obtain⟨r,D,h⟩:=N (yJ (List.flatMap V.toks [.agg [x,y],.bool is,.int .i64 n,w])) 1;refine⟨.tup [.agg [.sl s n1 c.1.length (c.1.flatMap yf),.sl r o c.2.length (c.2.flatMap yf)],.bool is,.int .i64 n,w],?_,Q _ ⟨s,r,n1,o,rfl,?_⟩⟩;simp only[jb4,Yj F,Ye F,zd,m,ah,W4];generalize yJ (List.flatMap V.toks [.agg [x,y],.bool is,.int .i64 n,w])=keep at *;have I:∀i,XE st keep i (.bool is)=some (.bool is):=λ_=>rfl;have U:∀i e,XE st keep i (.int .i64 e)=some (.int .i64 e):=λ_ _=>rfl;have M:∀i,XE st keep i w=some w:=λi=>by rcases G with⟨e,rfl⟩|⟨e,rfl⟩<;>rfl
 have K:XE st keep 0 (.agg [x,y])=some (.agg [.sl s n1 c.1.length (c.1.flatMap yf),.sl r o c.2.length (c.2.flatMap yf)]):=by simp only[XE,Xt,z,D,bJ,ah,aU]
 simp only[Jc,I,U,K,M,ah,aU];have B:yJ (List.flatMap V.toks [.agg [.sl s n1 c.1.length (c.1.flatMap yf),.sl r o c.2.length (c.2.flatMap yf)],.bool is,.int .i64 n,w])=true:=by rw[toks4 _ _ _ _ G,jdl,jdl];rcases j with rfl|⟨_,rfl⟩<;>rcases h with rfl|⟨_,rfl⟩<;>rfl
 rw[zb B];intro q f;rw[aQ]at f;rcases f with f|f;rcases j with rfl|⟨_,rfl⟩;simp at f;simp at f;subst f;simp;rcases h with rfl|⟨_,rfl⟩;simp at f;simp at f;subst f;simp
def okE (dn:Nat->Bool) (a:Nat) (z:P2):Bool:=!(z.2==(a:Int) && !dn z.1.toNat)
def jz7 {n:Nat}{L:List P2}(i:InG n L) (D:List Nat) (a:Nat):WB n (λ(x b:Nat)=>L.contains ((x:Int),(b:Int))) D a=(!D.contains a&&L.all (okE D.contains a)):=by
 unfold WB;congr 1;rw[bA,aw,aw];constructor;intro h z f;obtain⟨x,b,rfl,d,j⟩:=i z f;have c:(!L.contains ((x:Int),(a:Int))||D.contains x)=true:=h x (bf.2 d);simp only[okE,ba];by_cases e:b=a;subst e;have:L.contains ((x:Int),(b:Int))=true:=by simpa using f
 rw[this]at c;simpa using c;have:((b:Int)==(a:Int))=false:=by rw[zk];omega
 simp[this];intro h x d;show(!L.contains ((x:Int),(a:Int))||D.contains x)=true;by_cases e:L.contains ((x:Int),(a:Int))=true;have:=h ((x:Int),(a:Int)) (by simpa using e);simp only[okE,ba]at this;simp at this;simp[this];have g:L.contains ((x:Int),(a:Int))=false:=by simpa using e
 rw[g];rfl
def evo157 {n a key u:Nat}{L:List P2}{t:Option (Nat×Nat)}{nl:Bool}{dn:Nat->Bool}{ob:ZO}(S:InG n L) (Z:L.length<=1000000) (Q:a<n) (J:ob key=some ⟨u,.cells (yM n dn)⟩) (tk:Nat->Bool) (base ub:Nat) :
 EvO E 157 [.int .i64 (a:Int),.osl key u 0 n 1,.sl t nl L.length (L.flatMap yT)] ob tk base ub (.bool (!dn a&&L.all (okE dn a))):=by
 have K:=jlg (l:=key) (u:=u) (kk:=.i64) Q;have G:=Qq (s:=dn) Q;refine jq rfl ?_;conv in(occs:=*)S157=>all_goals cbv
 simp[K,ya,J,G];cases X:dn a;simp;refine j5 [(6,7),(12,35)] L.length (λi s=>s.tm 7=.int .i64 i/\s.ob=ob/\∀j (o:j<L.length),j<i->okE dn a L[j]=true) rfl rfl ⟨zS,zS,λ_ _ h=>by omega⟩ ?_;rintro i s hi ⟨w,D,F⟩ f;have H:s.tm 0=.int .i64 (a:Int):=by rw[f.t 0 zS];simp
 have O:s.tm 1=.osl key u 0 n 1:=by rw[f.t 1 zS];simp
 have y:s.tm 2=.sl t nl L.length (L.flatMap yT):=by rw[f.t 2 zS];simp
 have M:s.df=[]:=by rw[f.d];simp
 clear f;by_cases c:i<L.length;have q:=jP c zO;obtain⟨x,b,I,P,U⟩:=S L[i] (au c);have k:=JC XC t nl L .i64 c;have N:(L.flatMap yT)[i*2]? = some (.int .i64 (x:Int)):=by have:=jO XC L c (by decide:0<2);rw[bl]at this;rw[this,I];rfl
 have B:(L.flatMap yT)[i*2+1]? = some (.int .i64 (b:Int)):=by rw[jO XC L c (by decide:1<2),I];rfl
 have r:=jlg (l:=key) (u:=u) (kk:=.i64) P;have p:=Qq (s:=dn) P;have e:okE dn a L[i] = !(((b:Int)==(a:Int)) && !dn x):=by rw[I];rfl
 cases v:((b:Int)==(a:Int));rw[v]at e;simp[w,y,H,c,k,B,v,q];refine⟨D,λj o m=>?_⟩;rcases bi.1 m with h|rfl;exact F j o h;rw[e];rfl;rw[v]at e;cases g:dn x;rw[g]at e;simp[w,y,O,H,c,k,B,N,v,r,ya,D,J,p,g];refine j3 (by simp[M]) ?_ rfl;have:L.all (okE dn a)=false:=by rw[eP];exact⟨L[i],au c,by rw[e];decide⟩
 simp[this];rw[g]at e;simp[w,y,O,H,c,k,B,N,v,r,ya,D,J,p,g,q];refine λj o m=>?_;rcases bi.1 m with h|rfl
 exact F j o h;rw[e];rfl;have:i=L.length:=zO;subst this;have:L.all (okE dn a)=true:=by rw[aw];intro z T;obtain⟨j,o,rfl⟩:=dj.1 T;exact F j o o
 rw[this];simp[w,y];exact j3 (by simp[M]) zS rfl;simp;exact j3 rfl zS rfl
def TopD (r:Option (List Nat)) (v:V):Prop:=match r with
 |none=>TupS [.sl none true 0 [],.bool false] v
 |some D=>TupS [.sl none false D.length ((yt D).flatMap yf),.bool true] v
def j8r (n:Nat):yM n ([]:List Nat).contains=(List.replicate n false).map V.bool:=by apply eE;simp[yM];intro i a b;simp[yM]
def j3e {n a:Nat}(D:List Nat) (h:a<n):(yM n D.contains).set a (.bool true)=yM n (D++[a]).contains:=by apply eE;simp[yM];intro j d c;rw[gU];by_cases b:a=j;subst b;simp[yM];have:¬j=a:=λe=>b e.symm;simp[yM,b,this]
def ev104 {n:Nat}{L:List P2}{nl:Bool}(h1:0<n) (h9:n<=100) (hL:InG n L) (hl:L.length<=1000000):∃v,Ev E 104 [.int .i64 (n:Int),.sl none nl L.length (L.flatMap yT)] v/\TopD (jbj n L) v:=by
 obtain⟨p,hp⟩:∃p:Nat->Nat->Bool,p=λ(a b:Nat)=>L.contains ((a:Int),(b:Int)):=⟨_,rfl⟩;have a0:∀D a,WB n p D a=(!D.contains a&&L.all (okE D.contains a)):=λD a=>by rw[hp];exact jz7 hL D a
 have U:jbj n L=QW n p n []:=by rw[hp];rfl
 rw[U];refine JW rfl zQ ?_;conv in(occs:=*)F104=>all_goals cbv
 simp;refine jsd (n:=n) zS zS zO zO zO rfl zQ ?_;rw[jai,<- j8r];simp;refine jF (cs:=[]) rfl rfl rfl ?_;simp;refine jQ λo c=>?_;obtain⟨u,g6,gA⟩:∃u,o.tm 6=.osl 20 u 0 n 1/\o.ob 20=some ⟨u,.cells (yM n ([]:List Nat).contains)⟩:=⟨_,by rw[c];simp;rfl,by rw[c];simp⟩;obtain⟨w,g7,gw⟩:∃w,o.tm 7=.sl (some (w,1)) false 0 ((yt []).flatMap yf)/\o.tk w=true:=⟨_,by rw[c];simp[yt];rfl,by rw[c];simp[jb]⟩;have g0:o.tm 0=.int .i64 n:=by rw[c];simp
 have g1:o.tm 1=.sl none nl L.length (L.flatMap yT):=by rw[c];simp
 have gd:o.df=[]:=by rw[c];simp
 have gr:o.ro=0:=by rw[c];simp
 have gf:o.fb=0:=by rw[c];simp
 clear c;obtain⟨J,S⟩:∃J:Nat->St->Prop,J=λi s=>∃(D:List Nat) (w:Nat),D.length=i/\s.ob 20=some ⟨u,.cells (yM n D.contains)⟩/\s.tm 7=.sl (some (w,1)) false i ((yt D).flatMap yf)/\s.tk w=true/\QW n p (n-i) D=QW n p n []:=⟨_,rfl⟩;refine j5 [(4,5),(7,8),(12,37)] n J rfl rfl (by rw[S];exact⟨[],w,rfl,gA,g7,gw,rfl⟩) ?_;clear g7 gw gA;intro i s hi H f;rw[S]at H;obtain⟨D,w,B,sA,s7,sw,M⟩:=H;have s0:=(f.t 0 zS).trans g0;have s1:=(f.t 1 zS).trans g1;have s6:=(f.t 6 zS).trans g6;have sd:=f.d.trans gd;have sr:=f.r.trans gr;clear f;by_cases Z:i<n;have e:QW n p (n-i) D=match (List.range n).find? (WB n p D) with
  |none=>none
  |some a=>QW n p (n-(i+1)) (D++[a]):=by rw[show n-i=(n-(i+1))+1 by omega];rfl
 simp[s7,s0,Z];refine jQ λq m=>?_;have q0:q.tm 0=.int .i64 n:=by rw[m];simp[s0]
 have q1:q.tm 1=.sl none nl L.length (L.flatMap yT):=by rw[m];simp[s1]
 have q6:q.tm 6=.osl 20 u 0 n 1:=by rw[m];simp[s6]
 have q7:q.tm 7=.sl (some (w,1)) false i ((yt D).flatMap yf):=by rw[m];simp[s7]
 have q8:q.tm 8=.int .i64 0:=by rw[m];simp
 have qA:q.ob 20=some ⟨u,.cells (yM n D.contains)⟩:=by rw[m];simpa using sA
 have qw:q.tk w=true:=by rw[m];simpa using sw
 have qd:q.df=[]:=by rw[m];simp[sd]
 have qr:q.ro=0:=by rw[m];simp[sr]
 clear m;obtain⟨Q,z⟩:∃Q:Nat->St->Prop,Q=λa s=>s.tm 8=.int .i64 a/\s.ob 20=some ⟨u,.cells (yM n D.contains)⟩/\s.tk w=true/\∀j,j<a->WB n p D j=false:=⟨_,rfl⟩;refine j5 [(8,8),(16,27)] n Q rfl rfl (by rw[z];exact⟨by simpa using q8,qA,qw,λj h=>by omega⟩) ?_;clear q8 qA qw;intro a y ha G f;rw[z]at G;obtain⟨K,X,yw,O⟩:=G;have T:=(f.t 0 zS).trans q0;have y1:=(f.t 1 zS).trans q1;have y6:=(f.t 6 zS).trans q6;have y7:=(f.t 7 zS).trans q7;have yd:=f.d.trans qd;have yr:=f.r.trans qr;clear f;by_cases g:a<n;have P:=jP g zO;simp[K,T,g,y6,y1];refine jN (vs:=[.int .i64 (a:Int),.osl 20 u 0 n 1,.sl none nl L.length (L.flatMap yT)]) zS rfl (by simp[V.strip,V.strip1,V.pureTop,V.pureLeaf]) (evo157 (dn:=D.contains) hL hl g (by simpa using X) _ _ _) ?_;rw[<- a0 D a];cases F:WB n p D a;simp[K,P];rw[z];refine⟨zO,zS,by simpa using X,by simpa using yw,λj hj=>?_⟩;rcases bi.1 hj with h|rfl
 exact O j h;exact F;have N:((a:Int)==(n:Int))=false:=by rw[zk];omega
 have b0:=jlg (l:=20) (u:=u) (kk:=.i64) g;have k:(List.range n).find? (WB n p D)=some a:=jjc g F O;rw[k]at e;have I:=j3e D g;simp[K,T,N,y6,b0,ya,X,yr,Xf,g];refine⟨zO,?_⟩;refine jF (cs:=[.int .i64 (a:Int)]) (by simp[j2]) rfl rfl ?_;simp;refine Jl (u:=w) (nl:=false) (n:=i) (cs:=(yt D).flatMap yf) (ys:=[.int .i64 (a:Int)]) (by simp[y7]) (by simp[jb,yw]) (by simp[yp]) zS (by rw[j1 j6,J0,B]) zQ rfl zP zP ?_;simp;rw[S];refine⟨zO,D++[a],_,by simp[B],by simp[j2];rw[<- I,cN,zb (by rw[Xf];exact g)],by simp[yt,yf];rfl,by simp[jb],by rw[<- M,e]⟩;have:a=n:=zO;subst this;have k:(List.range a).find? (WB a p D)=none:=by rw[List.find?_eq_none];intro x hx;rw[O x (bf.1 hx)];simp
 rw[k]at e;simp[K,T];rw[<- M,e];exact jhx (ns:=[4,5]) (vs:=[.sl none true 0 [],.bool false]) (ls:=[.sl none true 0 [],.bool false]) (λr h=>h) (by simp[yd]) zS zS zS ⟨jM rfl,jM rfl,trivial⟩;have:i=n:=zO;subst this;rw[fV]at M;simp[s7,s0];rw[<- M];show WO _ (TopD (some D)) _ _;exact jhx (ns:=[4,5]) (vs:=[.sl (some (w,1)) false D.length ((yt D).flatMap yf),.bool true]) (ls:=[.sl none false D.length ((yt D).flatMap yf),.bool true]) (λr h=>h) (by simp[sd]) (by simp[B]) zS zS ⟨XP rfl (ja _ _ false _ _),jM rfl,trivial⟩
end Go.Pv.T
namespace Go.Pv.T
open Go Go.Pv
end Go.Pv.T
namespace Go.Pv.T
open Go Go.Pv
def jk1 {N:Nat}{p q:Nat->Nat->Bool}(h:∀a b,a<N->b<N->p a b=q a b):jo N p=jo N q :=
 jga (jd9 N p) (jd9 N q) λz=>by rw[edgesOf_mem,edgesOf_mem];constructor;rintro⟨a,b,c,d,f,e⟩;exact⟨a,b,c,d,by rw[<- h a b c d];exact f,e⟩;rintro⟨a,b,c,d,f,e⟩;exact⟨a,b,c,d,by rw[h a b c d];exact f,e⟩
def j71 {g:Hist'}{lvl:Int}{M:List Int}(c:W7 g M=true) {l:List P2}(h:jld g lvl M l):jo (g.ts.length+1) (λa b=>l.contains ((a:Int),(b:Int)))=jo (g.ts.length+1) (jdr g lvl M):=by refine jk1 λa b d f=>?_;rw[bA,cC,<- (XO l).mem_iff,<- compP_mem,Qh c h,edgesOf_mem];constructor;rintro⟨x,y,_,_,h,e⟩;have j:(a:Int)=x:=zg Prod.fst e;have i:(b:Int)=y:=zg Prod.snd e;rw[show a=x by omega,show b=y by omega];exact h;exact λh=>⟨a,b,d,f,h,rfl⟩
def OrdD (g:Hist') (r:Option (List Nat)) (v:V):Prop:=match r with
 |none=>TupS [.sl none false 0 [],.bool false] v
 |some D=>TupS [.sl none false ((yt D).filter λx=>(ym g).contains x).length (((yt D).filter λx=>(ym g).contains x).flatMap yf),.bool true] v
def jcx (g:Hist') (X:List Int) (j:Nat):List Int:=(X.take j).filter λx=>(ym g).contains x
def jux {g:Hist'}{X:List Int}{j:Nat}(h:j<X.length):jcx g X (j+1)=jcx g X j++if (ym g).contains X[j] then [X[j]] else []:=by unfold jcx;rw[av h,bN];congr 1;rw[ct,dA]
def j3n (g:Hist') (X:List Int) (j:Nat):(jcx g X j).length<=j:=by unfold jcx;exact bI (bO _ _) zP
section
variable {g:Hist'}{M:List Int}
def ev61 (hs:Small g) (h8:g.ts.length<=8) (hR:(yi g).length<=1000) {mn:Bool}(lvl:Int) (b6:lvl≠3) (hm:W7 g M=true) :
 ∃v,Ev E 61 [.int .i64 lvl,.agg (yb g),yl mn yf M] v/\OrdD g (jbj (g.ts.length+1) (jo (g.ts.length+1) (jdr g lvl M))) v:=by
 obtain⟨c3,b7,l,hl,q⟩:=ev105 hs h8 hR (mn:=mn) lvl b6 hm;rw[j71 hm hl]at q;have B:=ev16 g zO;rw[show yu Jp g.ts g.ts.length=ym g from rfl]at B;generalize hB:jo (g.ts.length+1) (jdr g lvl M)=L at *;have U:InG (g.ts.length+1) L:=by rw[<- hB];exact jsw _ _
 have T:L.length<=1000000:=by have h1:=jnq (g.ts.length+1) (jdr g lvl M);have:(g.ts.length+1)*(g.ts.length+1)<=9*9:=ig zO zO;rw[hB]at h1;omega
 obtain⟨G,I,e⟩:=ev104 (n:=g.ts.length+1) (L:=L) (nl:=false) zO zO U T;have hw:=jg (n:=((g.ts.length:Int)+1)) zO zO;have a0:=λx=>ev63 (a:=false) (ym g) (by have:=Xd g;omega) x;obtain⟨X,b,o,b5,hP,c2⟩:∃(X:List Int) (b o:Bool),TupS [.sl none o X.length (X.flatMap yf),.bool b] G/\(∀v,TupS [.sl none false (X.filter λx=>(ym g).contains x).length ((X.filter λx=>(ym g).contains x).flatMap yf),.bool b] v->OrdD g (jbj (g.ts.length+1) L) v)/\X.length<=1000:=by
  cases Z:jbj (g.ts.length+1) L with
  |none=>rw[Z]at e;exact⟨[],false,true,e,λv h=>h,zS⟩
  |some D=>rw[Z]at e;have:=jb9 _ _ D Z;refine⟨yt D,true,false,?_,λv h=>h,?_⟩;rw[J0];exact e;rw[J0,this];simp;omega
 generalize jbj (g.ts.length+1) L=r at *;clear e;refine JW rfl zQ ?_;conv in(occs:=*)F61=>all_goals cbv
 simp[ya,yb,hw];refine X4 b7 zH rfl zH ?_;refine Jv q λc4 b0=>?_;simp;refine X4 I (by simp[V.strip,V.strip1]) rfl zS ?_;refine jj4 b5 λt1 c0=>?_;simp[ya];refine jH B zI rfl zI ?_;rw[jj5];simp;refine jF (cs:=[]) rfl rfl rfl ?_;simp;refine jQ λz j=>?_;obtain⟨tc,b9⟩:∃tc,z.tm 10=.sl tc false (ym g).length ((ym g).flatMap yf):=⟨_,by rw[j];simp;rfl⟩;obtain⟨w,H,gw⟩:∃w,z.tm 11=.sl (some (w,1)) false (jcx g X 0).length ((jcx g X 0).flatMap yf)/\z.tk w=true:=⟨_,by rw[j];simp[jcx];rfl,by rw[j];simp[jb]⟩;have g8:z.tm 8=.sl t1 o X.length (X.flatMap yf):=by rw[j];simp
 have g9:z.tm 9=.bool b:=by rw[j];simp
 have N:z.tm 12=.int .i64 0:=by rw[j];simp
 have gd:z.df=[]:=by rw[j];simp
 clear j;obtain⟨J,Q⟩:∃J:Nat->St->Prop,J=λi s=>s.tm 12=.int .i64 i/\∃w:Nat,s.tm 11=.sl (some (w,1)) false (jcx g X i).length ((jcx g X i).flatMap yf)/\s.tk w=true:=⟨_,rfl⟩;refine j5 [(11,12),(28,46)] X.length J rfl rfl (by rw[Q];exact⟨by simpa using N,w,H,gw⟩) ?_;clear H N gw;intro i s hi F f;rw[Q]at F;obtain⟨m,w,p,sw⟩:=F;have S:=(f.t 8 zS).trans g8;have s9:=(f.t 9 zS).trans g9;have b8:=(f.t 10 zS).trans b9;have sd:=f.d.trans gd;clear f;have c1:=j3n g X i;by_cases k:i<X.length;have K:=jP k zO;have y:=JC j6 t1 o X .i64 k;have P:=jj X k;have c:=jux (g:=g) k;rw[bz]at y;simp[m,S,b8,k,y,P];refine jH (a0 X[i]) (by simp[yl,V.strip,V.strip1]) rfl (by simp[yl]) ?_;cases hc:(ym g).contains X[i];rw[hc]at c;simp only[ag,zc,aL]at c;simp[m,K];rw[Q];exact⟨zO,zS,w,by rw[c];simpa using p,by simpa using sw⟩;rw[hc]at c;simp only[zd]at c;simp[m,S,y,P];refine jF (cs:=[.int .i64 X[i]]) (by simp[j2]) rfl rfl ?_;simp;refine Jl (u:=w) (nl:=false) (n:=(jcx g X i).length) (cs:=(jcx g X i).flatMap yf) (ys:=[.int .i64 X[i]]) (by simp[p]) (by simp[jb,sw]) (by simp[yp]) zS (by rw[j1 j6]) zQ rfl zP zP ?_;simp[m,K];rw[Q];refine⟨zO,zS,_,by rw[c];simp[yf];rfl,by simp[jb]⟩;have:i=X.length:=zO;subst this;have O:jcx g X X.length=X.filter λx=>(ym g).contains x:=by unfold jcx;rw[bg]
 rw[O]at p;simp[m,S];generalize (X.filter λx=>(ym g).contains x)=R at *;exact jhx (ns:=[6,7]) (vs:=[.sl (some (w,1)) false R.length (R.flatMap yf),.bool b]) (ls:=[.sl none false R.length (R.flatMap yf),.bool b]) (λv h=>hP v h) (by simp[sd]) (by simp[p,s9]) zS zS ⟨XP rfl (ja _ _ false _ _),jM rfl,trivial⟩
end
def OneV (x:List Int×Int×Int) (v:V):Prop:=∃t n,v=.tup [.sl t n x.1.length (x.1.flatMap yf),.int .i64 x.2.2]
section
variable {g:Hist'}{lvl left:Int}{M:List Int}{k u ub:Nat}{ob:ZO}
def jlh {x:Int}(a:-9223372036854775808<=x) (b:x<9223372036854775808):IntKind.i64.wrap x=x:=jg zO zO
def sv58 {Yf:YF}{tk:Nat->Bool}{ro base:Nat}(D:Small g) (w:g.ts.length<=8) (P:(yi g).length<=100) (K:jX g=true) (F:W7 g M=true) (h:ob k=some ⟨u,.cells (yN g lvl left)⟩) (l:ro<=u) (G:0<=left) (O:left<9223372036854775808) {I:Option (Nat×Nat)}{mn:Bool} :
 ∃r,EvS E Yf.y 58 [.ptr k u 0,.sl I mn M.length (M.flatMap yf)] ob tk ro base ub r/\OneV (jbr g lvl M left) r.1/\r.2.1=upd ob k (some ⟨u,.cells (yN g lvl (left-(jbr g lvl M left).2.1))⟩)/\ub<=r.2.2.2:=by
 have L:=XV F;obtain⟨a1,a2,_⟩:=jfb (lvl:=lvl) K F G (dW left);obtain⟨v,i,a⟩:=ev101 D w (mn:=mn) (M:=M) zO left;obtain⟨B,j,b⟩:=ev102 D w (mn:=mn) (M:=M) lvl zO;refine J6 rfl zQ ?_;show wpC E Yf S58.body _ (Jg S58.res _);by_cases d:lvl=3
 ·have c:jbr g lvl M left=Y5 g M left:=by simp[jbr,d]
  rw[c]at a1 a2 ⊢;have f:IntKind.i64.wrap (left-(Y5 g M left).2.1)=left-(Y5 g M left).2.1:=jlh zO zO;conv in(occs:=*)S58=>all_goals cbv
  simp(disch:=try exact zD)[S58,ya,h,yN,d];obtain⟨s,q,a⟩:=a;refine jH i zH rfl zH ?_;refine jl5 a rfl λws add o=>?_;obtain⟨x,y,z,rfl,H,N,J⟩:=map3 o;obtain⟨p,rfl⟩:=Wn H;obtain rfl:=Wo N;obtain rfl:=Wo J;simp(disch:=try exact zD)[ya,h,yN,d,j2,V.cells,V.leaf,f];refine⟨l,YZ zS ⟨⟨p,s,zS⟩,by funext key;simp[yg],by simp;omega⟩⟩
 ·have c:jbr g lvl M left=if left=0 then ([],0,13) else ((jo4 g lvl M).1,1,(jo4 g lvl M).2):=by simp[jbr,d]
  rw[c]at a1 a2 ⊢;have m:(lvl==3)=false:=by simpa using d
  by_cases n:left=0
  ·conv in(occs:=*)S58=>all_goals cbv
   simp(disch:=try exact zD)[S58,ya,h,yN,d,m,n];exact YZ zS ⟨⟨none,true,zS⟩,by funext key;simp[yg];intro e;rw[e,h,yN,n],by simp;omega⟩
  ·have t:(left==0)=false:=by simpa using n
   have f:IntKind.i64.wrap (left-1)=left-1:=jlh zO zO;obtain⟨s,q,b⟩:=b;conv in(occs:=*)S58=>all_goals cbv
   simp(disch:=try exact zD)[S58,ya,h,yN,d,m,n,t,j2,V.cells,V.leaf,f];refine⟨l,?_⟩;refine jH j zH rfl zH ?_;refine jw8 b λp add=>?_;simp(disch:=try exact zD);exact YZ zS ⟨⟨p,s,zS⟩,by funext key;simp[yg],by simp;omega⟩
end
end Go.Pv.T
