/- Part. -/
import Derived.Test.YtmanndcfeicokaaGreatDoorQI
set_option maxRecDepth 100000
set_option maxHeartbeats 8000000
set_option linter.all false
namespace Go.Pv.T
open Go Go.Pv
def jum (o:Op') (a:Int) (i:Nat) (t:Txn'):Bool:=(!((i:Int)==a)&&(t.f != 2))&&((JD o.key t.ops t.ops.length).2&&Q9 o (JD o.key t.ops t.ops.length).1)
def Y3 (ts:List Txn') (a:Int) (o:Op'):Nat->List Int
 |0=>JA o
 |i+1=>Y3 ts a o i++(match ts[i]? with|some t=>if jum o a i t then [(i:Int)] else []|none=>[])
def jg3 {ts:List Txn'}{a:Int}{o:Op'}{i:Nat}(h:i<ts.length):Y3 ts a o (i+1)=Y3 ts a o i++(if jum o a i ts[i] then [(i:Int)] else []):=by simp[Y3,aa h]
def jkf (ts:List Txn') (a:Int) (o:Op'):∀i,(Y3 ts a o i).length<=i+1
 |0=>by unfold Y3 JA;split<;>simp
 |i+1=>by have:=jkf ts a o i;simp only[Y3,au];split;split<;>simp<;>omega;simp;omega
def jsc {g:Hist'}(a:Yp g=true) (key:Int) {i:Nat}(h:i<g.ts.length):XZ g key i=(JD key g.ts[i].ops g.ts[i].ops.length).1:=by unfold XZ Q4 Xk;rw[a,zb zP];simp only[bh];rw[X1 h]
def jo8 {g:Hist'}(c:Yp g=true) (a:Int) (o:Op'):∀i,i<=g.ts.length->Y3 g.ts a o i=JA o++(yq (wrB o.key) g.ts i).filter λi=>!(i==a)&&Q9 o (XZ g o.key i)
 |0,_=>by simp[Y3,yq]
 |i+1,h=>by rw[jg3 zO,Jw zO,cg,jo8 c a o i zO,bm];congr 2;have b:=jbp o.key (g.ts[i]).ops (g.ts[i]).ops.length zK;rw[bf]at b;have d:=jsc c o.key (show i<g.ts.length by omega);unfold jum wrB;rw[b];cases k:(g.ts[i].ops.any (wkB o.key))<;>cases j:(g.ts[i].f != 2)<;>cases e:((i:Int)==a)<;>simp[cC,e,d]
def juy {g:Hist'}(b:Yp g=true) (a:Int) (o:Op'):Y3 g.ts a o g.ts.length=ofL g a o:=jo8 b a o _ zK
def jbv {g:Hist'}{a b:Int}{o:Op'}(h:opAt g a b=some o):∃i j:Nat,a=i/\b=j/\∃(hi:i<g.ts.length) (d:j<(g.ts[i]).ops.length),(g.ts[i]).ops[j]=o:=by unfold opAt at h;by_cases c:(Yp g&&(decide (0<=a)&&(decide (a<g.ts.length)&&(decide (0<=b)&&decide (b<((g.ts.getD a.toNat ⟨0,0,true,[]⟩).ops.length:Nat))))))=true;rw[zb c]at h;simp only[aj,ze]at c;obtain⟨_,k,f,l,e⟩:=c;obtain⟨i,rfl⟩:∃i:Nat,a=i:=⟨a.toNat,zO⟩;obtain⟨j,rfl⟩:∃j:Nat,b=j:=⟨b.toNat,zO⟩;have hi:i<g.ts.length:=zO;rw[bh,X1 hi]at h e;have d:j<(g.ts[i]).ops.length:=zO;rw[bh,aa d]at h;exact⟨i,j,rfl,rfl,hi,d,bV h⟩;rw[za c]at h;cases h
def ev69' {g:Hist'}(hs:Small g) (a b:Int):∃v,Ev E 69 [.agg (ya g),.agg (jD (a,b))] v/\SlR v false (ofH g a b).length ((ofH g a b).flatMap ye):=by
 have B:=ev109 hs a b;refine XI rfl zQ ?_;unfold ofH;cases z:opAt g a b with
 |none=>
  rw[z]at B;conv in(occs:=*)F69=>all_goals cbv
  simp[ya,jD];refine jU (cs:=[]) rfl rfl rfl ?_;simp[j0];refine jQ B (by simp[ya,jD]) rfl (by simp[ya,jD]) ?_;simp;exact slE (t:=some (192,1)) (nl:=false) (k:=0) (cs:=[]) (λr h=>h) zS zS
 |some o=>
  rw[z]at B;simp only[Option.any_some]at B;have P:Yp g=true:=by unfold opAt at z;cases hm:Yp g;rw[hm]at z;cases z;rfl
  have c0:=jv9 P;conv in(occs:=*)F69=>all_goals cbv
  simp[ya,jD];refine jU (cs:=[]) rfl rfl rfl ?_;simp[j0];refine jQ B (by simp[ya,jD]) rfl (by simp[ya,jD]) ?_;cases X:o.w
  ·obtain⟨i,j,rfl,rfl,hi,hj,ho⟩:=jbv z;have b8:(g.ts.flatMap jt)[i*3+2]? = some (yj (g.ts[i]).nl yP (g.ts[i]).ops):=by rw[jk j9 g.ts hi (by decide:2<3)];rfl
   have b0:=λob=>jh jH ob (g.ts[i]).ops hj;rw[ho]at b0;simp[j0,hi,hj,j6 j9,j6 jH,b8,b0];refine⟨by simp[yP],by simp[Jp,Q7,Qt,ja7,yx,yy,yO,Delta.wo,Delta.wt,yP];try decide,?_⟩;simp[yP];generalize hK:jyl E YO _ (Q5 _ _)=K;have O:∀(s:St) (U:Nat) (v:V),s.tm 2=.ptr 4 0 0->s.tm 3=.ptr 6 64 0->s.tm 6=.ptr 12 U 0->s.ob 4=some ⟨0,.cells (ya g)⟩->s.ob 6=some ⟨64,.cells [.int .i64 i,.int .i64 j]⟩->s.ob 12=some ⟨U,.cells (yP o)⟩ ->
    s.tm 5=v->GrowT s.tk s.nx ye 1 (JA o) v->s.df=[]->s.ro=0->s.fb=0->K .nrm s:=by
    intro s U v D h3 h6 o4 L M Z hv hd hr hb
    rw[<- hK]
    clear hK B z
    simp
    generalize (i:Int)=a at *
    refine j7 [(5,5),(7,9),(34,90)] g.ts.length (λn s=>s.tm 7=.int .i64 n/\s.ob 4=some ⟨0,.cells (ya g)⟩/\s.ob 6=some ⟨64,.cells [.int .i64 a,.int .i64 j]⟩/\s.ob 12=some ⟨U,.cells (yP o)⟩/\GrowT s.tk s.nx ye 1 (Y3 g.ts a o n) (s.tm 5)) rfl rfl ⟨zS,by simp[o4],by simp[L],by simp[M],by rw[Y3];simp[Z];exact hv.mono (λ_ _ h=>h) zO⟩ ?_
    rintro n F hn ⟨I,o4,L,M,S⟩ f
    have T:F.tm 2=.ptr 4 0 0:=by rw[f.t 2 zS];simp[D]
    have f3:F.tm 3=.ptr 6 64 0:=by rw[f.t 3 zS];simp[h3]
    have f6:F.tm 6=.ptr 12 U 0:=by rw[f.t 6 zS];simp[h6]
    have fd:F.df=[]:=by rw[f.d];simp[hd]
    have fb:F.fb=0:=by rw[f.b];simp[hb]
    have fr:F.ro=0:=by rw[f.r];simp[hr]
    clear f
    by_cases c:n<g.ts.length
    ·have X:=jc c zO;have J:=jg3 (a:=a) (o:=o) c;obtain⟨t,ht⟩:∃t,g.ts[n]=t:=⟨_,rfl⟩;rw[ht]at J;have b9:=hs.os t (ht▸av c);have c1:=jkf g.ts a o n;have H:(g.ts.flatMap jt)[n*3+1]? = some (.int .i64 t.f):=by rw[jk j9 g.ts c (by decide:1<3),ht];rfl
     have b7:(g.ts.flatMap jt)[n*3+2]? = some (yj t.nl yP t.ops):=by rw[jk j9 g.ts c (by decide:2<3),ht];rfl
     have b5:=ev107 t zO o.key;simp[I,T,f6,o4,M,j0,ya,yP,c,j6 j9,jh j9,ht,b7];refine YI b5 (by simp[jt]) rfl (by simp[jt]) ?_;rw[Jn (by simp[V.plain,J9])];have m:jum o a n t=((!((n:Int)==a)&&(t.f != 2))&&((JD o.key t.ops t.ops.length).2&&Q9 o (JD o.key t.ops t.ops.length).1)):=rfl;generalize (JD o.key t.ops t.ops.length).1=rv at *;generalize (JD o.key t.ops t.ops.length).2=rb at *;have p:F.ob 4=some ⟨0,.cells [yj g.sn Jj g.ss,yj g.kn Jj g.ks,yj g.tn jt g.ts]⟩:=o4;have e:F.ob 12=some ⟨U,.cells [.bool o.w,.int .i64 o.key,.int .i64 o.v.kind,.int .i64 o.v.n]⟩:=M;have skip:jum o a n t=false->Y3 g.ts a o (n+1)=Y3 g.ts a o n:=λh=>by rw[J,h];simp
     simp[J9,j0,fb,fr,j2,f3,L,I];refine⟨by simp[Jp,Q7,Qt,ja7,yx,yy,yO,Delta.wo,Delta.wt];try decide,?_⟩;cases h1:((n:Int) != a);have y:((n:Int)==a)=true:=by simpa[bne] using h1
     have x:=skip (by rw[m,y];rfl);simp[p,L,e,I,X,c];rw[x];exact S.mono (λu _ h=>by simpa[jn] using h) zO;have y:((n:Int)==a)=false:=by simpa[bne] using h1
     cases D:(t.f != 2);have x:=skip (by rw[m,y,D];rfl);simp[D,T,p,L,e,I,X,j0,c,j6 j9,H];rw[x];exact S.mono (λu _ h=>by simpa[jn] using h) zO;cases rb;have x:=skip (by rw[m,y,D];rfl);simp[D,T,p,L,e,I,X,j0,c,j6 j9,H];rw[x];exact S.mono (λu _ h=>by simpa[jn] using h) zO;cases h4:(o.v.kind==2);cases Z:(rv.kind==o.v.kind&&rv.n==o.v.n);have x:=skip (by rw[m,y,D];unfold Q9;rw[h4,Z];rfl);simp[D,h4,Z,T,f6,p,L,e,I,X,j0,c,j6 j9,H];rw[x];exact S.mono (λu _ h=>by simpa[jn] using h) zO;have Q:Q9 o rv=true:=by unfold Q9;rw[h4,Z];rfl
     have q:Y3 g.ts a o (n+1)=Y3 g.ts a o n++[(n:Int)]:=by rw[J,m];simp[y,D,Q]
     simp[D,h4,Z,T,f6,p,e,I,j0,c,j6 j9,H];refine jU (cs:=[.int .i64 n]) (by simp[j2]) rfl rfl ?_;simp;refine WI (f:=ye) (hi:=F.nx) (l:=Y3 g.ts a o n) (a:=(n:Int)) (v:=F.tm 5) (S.mono (λu _ h=>by simp[jx,h]) zK) zS (by simp[jE,ye]) jA zQ rfl zO zO (λa0 N=>?_);have G:(Y3 g.ts a o n).length+1=(Y3 g.ts a o (n+1)).length:=by rw[q];simp
     rw[<- q,G];simp[I,X,p,L,e];exact⟨c,_,rfl,by simp[jx],zO⟩;have Q:Q9 o rv=true:=by unfold Q9;rw[h4];rfl
     have q:Y3 g.ts a o (n+1)=Y3 g.ts a o n++[(n:Int)]:=by rw[J,m];simp[y,D,Q]
     simp[D,h4,T,f6,p,e,I,j0,c,j6 j9,H];refine jU (cs:=[.int .i64 n]) (by simp[j2]) rfl rfl ?_;simp;refine WI (f:=ye) (hi:=F.nx) (l:=Y3 g.ts a o n) (a:=(n:Int)) (v:=F.tm 5) (S.mono (λu _ h=>by simp[jx,h]) zK) zS (by simp[jE,ye]) jA zQ rfl zO zO (λa0 N=>?_);have G:(Y3 g.ts a o n).length+1=(Y3 g.ts a o (n+1)).length:=by rw[q];simp
     rw[<- q,G];simp[I,X,p,L,e];exact⟨c,_,rfl,by simp[jx],zO⟩
    ·have:n=g.ts.length:=zO;subst this;obtain⟨u,hv,_,_⟩:=S;simp[I,T,o4,j0,ya];rw[<- juy P];exact slE (t:=some (u,1)) (nl:=false) (k:=(Y3 g.ts a o g.ts.length).length) (cs:=(Y3 g.ts a o g.ts.length).flatMap ye) (λr h=>h) (by simp[fd]) (by simp[hv])
   by_cases hk:o.v.kind=1;simp[hk];refine O _ 1280 _ zS zS zS zI zS (by simp[yP,hk]) (by simp;rfl) ?_ zS zS zS;exact⟨192,by simp[JA,hk],by simp[jx],zS⟩;have b6:(o.v.kind != 1)=true:=by simp[hk]
   simp[b6];refine jU (cs:=[.int .i64 (-1)]) (by simp[j2]) rfl rfl ?_;simp;refine WI (f:=ye) (hi:=576) (l:=[]) (a:=-1) (v:=.sl (some (192,1)) false 0 []) ⟨192,rfl,by simp[jx],zO⟩ zS (by simp[jE,ye]) jA zQ rfl zS zS (λa0 N=>?_);simp;refine O _ 1280 _ zS zS zS zI zS (by simp[yP]) (by simp;rfl) ?_ zS zS zS;exact⟨1792,by simp[JA,hk],by simp[jx],zS⟩
  simp;exact slE (t:=some (192,1)) (nl:=false) (k:=0) (cs:=[]) (λr h=>h) zS zS
def YE {ub:Nat}{v:V}{nl:Bool}{n:Nat}{cs:List V}{K:Delta->Prop}(a:SlR v nl n cs) (h:∀t add,K { v:=.sl t nl n cs,add:=add }):wpD (Xd ub v) K:=by obtain⟨t,add,b⟩:=jip (ub:=ub) a;rw[b,jJ];exact h t add
def len0 {a:Type}(l:List a):((l.length:Int)==0)=l.isEmpty:=by cases l<;>simp<;>omega
def len0b {b a:Type}(l:List b) (m:List a):((l.length:Int)+m.length==0)=(l.isEmpty&&m.isEmpty):=by cases l<;>cases m<;>simp<;>omega
def jW (g:Hist'):Bool:=Yp g&&((Xg g).isEmpty&&(jc0 g).isEmpty)
def j8x {g:Hist'}(i:Small g):Ev E 30 [.agg (ya g)] (.bool (jW g)):=by
 have a:=j8w i;refine jV rfl ?_;unfold jW;cases b:Yp g
 ·conv in(occs:=*)F30=>all_goals cbv
  simp[ya,j0];refine jQ a zI rfl zI ?_;have c:(errH g==0)=false:=by simp[jcx b]
  simp[c];exact j4 zS zS rfl
 ·rw[Wm b]at a;obtain⟨n,j,l,h⟩:=ev54 i b;obtain⟨m,f,k,e⟩:=ev55 i b;conv in(occs:=*)F30=>all_goals cbv
  simp[ya,j0];refine jQ a zI rfl zI ?_;simp[j0];refine jQ j zI rfl zI ?_;refine YE h λt add=>?_;have d:=len0 (Xg g);cases c:(Xg g).isEmpty;rw[c]at d;simp[d];exact j4 zS zS rfl;rw[c]at d;simp[d,j0];refine jQ f zI rfl zI ?_;refine YE e λt add=>?_;simp;exact j4 zS (by simp[len0]) rfl
def ev28 {g:Hist'}(b:Small g):Ev E 28 [.agg (ya g)] (.bool (jW g)):=by
 have a:=ev48 b;refine jV rfl ?_;unfold jW;cases f:Yp g
 ·conv in(occs:=*)F28=>all_goals cbv
  simp[ya,j0];refine YI a zI rfl zI ?_;have k:(errH g==0)=false:=by simp[jcx f]
  simp[k];exact j4 zS zS rfl
 ·rw[Wm f]at a;have e:=ev49 g (by have:=b.ts;omega);obtain⟨n,d,h,c⟩:=ev50 b;have B:=bnd_of b;have m:=B.i;have o:=B.l;have j:IntKind.i64.wrap (((Xg g).length:Int)+(jc0 g).length)=((Xg g).length:Int)+(jc0 g).length:=ji zO zO;conv in(occs:=*)F28=>all_goals cbv
  simp[ya,j0];refine YI a zI rfl zI ?_;simp[j0];refine YI e zI rfl zI ?_;rw[jzt];simp[j0];refine YI d zI rfl zI ?_;refine YE c λt add=>?_;simp[j];exact j4 zS (by simp[len0b]) rfl
def ev25 {a b:Bool}(l m:List Int) (B:l.length<=1000000000) (F:m.length<=1000000000):Ev E 25 [yj a ye l,yj b ye m] (.bool (l==m)):=by
 refine jV rfl ?_;have q:∀(l:List Int) (i:Nat) (h:i<l.length),(l.flatMap ye)[i]? = some (.int .i64 l[i]):=λl i h=>by have:=jk jA l h (by decide:0<1);rw[bE,br]at this;rw[this];rfl
 by_cases k:l.length=m.length
 ·conv in(occs:=*)F25=>all_goals cbv
  simp[k];refine j7 [(4,5),(11,40)] l.length (λi s=>s.tm 5=.int .i64 i/\l.take i=m.take i) rfl rfl ⟨zS,zS⟩ ?_;rintro i s D ⟨p,o⟩ f;have n:s.tm 0=yj a ye l:=by rw[f.t 0 zS];simp
  have v:s.tm 1=yj b ye m:=by rw[f.t 1 zS];simp
  have r:s.df=[]:=by rw[f.d];simp
  clear f;by_cases j:i<l.length;have x:=jc j zO;have c:i<m.length:=zO;have w:=q l i j;have u:=q m i c;cases g:(l[i] != m[i]);have z:l[i]=m[i]:=by simpa using g
  simp[p,n,v,j,c,j6 jA,w,u,g,x];rw[aw j,aw c,o,z];have y:l[i]≠m[i]:=by simpa using g
  simp[p,n,v,j,c,j6 jA,w,u,g];refine j4 (by simp[r]) ?_ rfl;have:(l==m)=false:=by rw[zk];intro e;subst e;exact y rfl
  simp[this];have:i=l.length:=zO;subst this;simp[p,n];refine j4 (by simp[r]) ?_ rfl;have:l=m:=by rw[bf,k,bf]at o;exact o
  simp[this]
 ·have g:((l.length:Int) != m.length)=true:=by simp;omega
  conv in(occs:=*)F25=>all_goals cbv
  simp[g];refine j4 zS ?_ rfl;have:(l==m)=false:=by rw[zk];intro e;subst e;exact k rfl
  simp[this]
def yF:List Int->Int->Nat->Int
 |[],_,_=>-1
 |x::r,k,n=>if k==x then n else yF r k (n+1)
def jjf (k:Int):∀(l:List Int) (n:Nat),decide (yF l k n<0) = !l.contains k
 |[],n=>rfl
 |x::r,n=>by rw[yF,dY];cases h:(k==x);simpa using jjf k r (n+1);simp
def ev148 {a:Bool}(l:List Int) (q:l.length<=1000000000) (k:Int):Ev E 148 [yj a ye l,.int .i64 k] (.int .i64 (yF l k 0)):=by
 refine jV rfl ?_;conv in(occs:=*)F148=>all_goals cbv
 simp;refine j7 [(4,5),(8,30)] l.length (λi s=>s.tm 8=.int .i64 i/\yF (l.drop i) k i=yF l k 0) rfl rfl ⟨zS,zS⟩ ?_;rintro i s r ⟨h,c⟩ f;have o:s.tm 0=yj a ye l:=by rw[f.t 0 zS];simp
 have m:s.tm 1=.int .i64 k:=by rw[f.t 1 zS];simp
 have g:s.tm 7=.int .i64 l.length:=by rw[f.t 7 zS];simp
 have j:s.df=[]:=by rw[f.d];simp
 clear f;by_cases b:i<l.length;have p:=jc b zO;have n:=JL l b;rw[bj b,yF]at c;cases e:(k==l[i]);rw[e]at c;simp[h,o,m,g,b,j6 jA,n,e,p];simpa using c;rw[e]at c;simp[h,o,m,g,b,j6 jA,n,e];exact j4 (by simp[j]) (by rw[<- c];simp) rfl;have:i=l.length:=zO;subst this;rw[fD,yF]at c;simp[h,g];exact j4 (by simp[j]) (by rw[<- c];simp) rfl
def Qj (l:List (Int×Int)) (ob:ZO) {i:Nat}(h:i<l.length):WG ob (some 2) (.eptr (l.flatMap jD) (i*2))=some (.agg [.int .i64 (l[i]).1,.int .i64 (l[i]).2]):=jh jq ob l h
def Y8 (t:Txn'):Bool:=t.f==1
def comH (g:Hist'):List Int:=if jW g then yq Y8 g.ts g.ts.length else []
def ev70 {g:Hist'}(D:Small g):∃v,Ev E 70 [.agg (ya g)] v/\SlR v (comH g).isEmpty (comH g).length ((comH g).flatMap ye):=by
 have j:=j8x D;have J:=D.ts;refine XI rfl zQ ?_;unfold comH;cases q:jW g
 ·rw[q]at j;conv in(occs:=*)F70=>all_goals cbv
  simp[ya,j0];refine jQ j zI rfl zI ?_;simp;exact slE (t:=none) (nl:=true) (k:=0) (cs:=[]) (λr h=>h) zS zS
 rw[q]at j;conv in(occs:=*)F70=>all_goals cbv
 simp[ya,j0];refine jQ j zI rfl zI ?_;simp[j0];refine j7 [(3,5),(12,24)] g.ts.length (λi s=>s.tm 12=.int .i64 i/\Grow s.tk 0 s.nx ye 1 (yq Y8 g.ts i) (s.tm 3)) rfl rfl ⟨zS,by simp[yq];exact Grow.nil _ _ _ _ _⟩ ?_;rintro i s hi ⟨m,B⟩ f;have x:s.tm 10=yj g.tn jt g.ts:=by rw[f.t 10 zS];simp
 have n:s.tm 11=.int .i64 g.ts.length:=by rw[f.t 11 zS];simp
 have H:s.df=[]:=by rw[f.d];simp
 have F:s.fb=0:=by rw[f.b];simp
 have fr:s.ro=0:=by rw[f.r];simp
 clear f;by_cases e:i<g.ts.length;have q:=jc e zO;have c:=Jw (p:=Y8) e;obtain⟨t,w⟩:∃t,g.ts[i]=t:=⟨_,rfl⟩;rw[w]at c;have I:=JX Y8 g.ts i;cases hi:Y8 t;have o:(t.f==1)=false:=hi;rw[hi]at c;simp only[ak,zc,aU]at c;simp[m,x,n,e,j6 j9,jh j9,w,jt,j0,F,fr,j2,o,q];rw[c];exact B.mono (λu _ _ h=>by simpa[jn] using h) zO;have o:(t.f==1)=true:=hi;rw[hi]at c;simp only[zd]at c;simp[m,x,n,e,j6 j9,jh j9,w,jt,j0,F,fr,j2,o];refine jU (cs:=[.int .i64 i]) (by simp[j2]) rfl rfl ?_;simp;refine XU (f:=ye) (lo:=0) (hi:=s.nx) (l:=yq Y8 g.ts i) (a:=(i:Int)) (v:=s.tm 3) (B.mono (λu _ _ h=>by simp[jx,h]) zK) zS (by simp[jE,ye]) jA zQ rfl zO zO (λK G=>?_);have z:yq Y8 g.ts (i+1)≠[]:=by rw[c];simp
 have y:(yq Y8 g.ts i).length+1=(yq Y8 g.ts (i+1)).length:=by rw[c];simp
 rw[<- c,y];simp[m,q];exact⟨e,.inr ⟨z,_,rfl,by simp[jx],bY _,zO⟩⟩;have:i=g.ts.length:=zO;subst this;obtain⟨t,w⟩:=B.form;simp[m,n];exact slE (t:=t) (nl:=(yq Y8 g.ts g.ts.length).isEmpty) (k:=(yq Y8 g.ts g.ts.length).length) (cs:=(yq Y8 g.ts g.ts.length).flatMap ye) (λr h=>h) (by simp[H]) (by simp[w])
def ev107n (t:Txn') (L:t.ops.length<=1000000) (k:Int) {n:Nat}(N:n<=t.ops.length):Ev E 107 [.agg (jt t),.int .i64 n,.int .i64 k] (.tup [.agg (J9 (JD k t.ops n).1),.bool (JD k t.ops n).2]):=by
 refine jV rfl ?_;conv in(occs:=*)F107=>all_goals cbv
 simp[jt,j0,j2];refine j7 [(9,10),(12,45)] n (λi s=>s.tm 10=.int .i64 i/\s.ob 6=some ⟨0,.cells (jt t)⟩/\s.ob 12=some ⟨64,.cells [.int .i64 0,.int .i64 0]⟩/\s.ob 16=some ⟨256,.cells (J9 (JD k t.ops i).1)⟩/\s.tm 9=.bool (JD k t.ops i).2) rfl rfl
  ⟨zS,by simp[jt],zS,by simp[JD,J9],by simp[JD]⟩ ?_
 rintro i s M ⟨j,y,g,h,D⟩ f;have u:s.tm 1=.int .i64 n:=by rw[f.t 1 zS];simp
 have G:s.tm 2=.int .i64 k:=by rw[f.t 2 zS];simp
 have F:s.tm 3=.ptr 6 0 0:=by rw[f.t 3 zS];simp
 have I:s.tm 6=.ptr 12 64 0:=by rw[f.t 6 zS];simp
 have H:s.tm 8=.ptr 16 256 0:=by rw[f.t 8 zS];simp
 have J:s.df=[]:=by rw[f.d];simp
 have fr:s.ro=0:=by rw[f.r];simp
 clear f;by_cases p:i<n;have a:i<t.ops.length:=zO;have z:=jc a zO;have c:=Qi (k:=k) a;obtain⟨o,x⟩:∃o,t.ops[i]=o:=⟨_,rfl⟩;rw[x]at c;have B:(t.ops.flatMap yP)[i*4]? = some (.bool o.w):=by have:=jk jH t.ops a (by decide:0<4);rw[br,x]at this;rw[this];rfl
 have a1:(t.ops.flatMap yP)[i*4+1]? = some (.int .i64 o.key):=by rw[jk jH t.ops a (by decide:1<4),x];rfl
 have a2:∀ob,WG ob (some 2) (.eptr (t.ops.flatMap yP) (i*4+2))=some (.agg (J9 o.v)):=λob=>by
  have K:i*4+4<=t.ops.length*4:=zO;rw[jc3,WB,zb (by rw[j3 jH];omega)];have:=Xs jH t.ops i a;rw[x]at this;have e:((t.ops.flatMap yP).drop (i*4+2)).take 2=((((t.ops.flatMap yP).drop (i*4)).take 4).drop 2):=by rw[gH,dE]
  rw[e,this];rfl
 cases b:o.w;have q:wkB k o=false:=by unfold wkB;rw[b];rfl
 rw[q]at c;simp only[ak,zc]at c;simp[j,u,F,y,j0,jt,p,a,j6 jH,B,b,z,g,h,D];exact⟨by rw[c],by rw[c]⟩;cases m:(o.key==k);have q:wkB k o=false:=by unfold wkB;rw[b,m];rfl
 rw[q]at c;simp only[ak,zc]at c;simp[j,u,G,F,y,j0,jt,p,a,j6 jH,B,a1,b,m,z,g,h,D];exact⟨by rw[c],by rw[c]⟩;have q:wkB k o=true:=by unfold wkB;rw[b,m];rfl
 rw[q]at c;simp only[zd]at c;simp[j,u,G,F,H,y,j0,jt,p,a,j6 jH,B,a1,a2,b,m,z,g,h,J9,fr,j2];rw[c];simp;have:i=n:=zO;subst this;simp[j,u,H,h,j0,D,I,g,J9,fr,j2];exact JS (by simp[J]) (l:=[.agg (J9 (JD k t.ops i).1),.bool (JD k t.ops i).2]) (by simp[jy,j0,I,J9]) rfl rfl
def ev161 {g:Hist'}(p:Small g) (a b:Int):Ev E 161 [.agg (ya g),.agg (jD (a,b))] (.bool (opAt g a b).isSome):=by
 have m:=ev48 p;have s:=p.ts;refine jV rfl ?_;obtain⟨R,c⟩:∃R,opAt g a b=R:=⟨_,rfl⟩;rw[c];unfold opAt at c;conv in(occs:=*)F161=>all_goals cbv
 simp[ya,j0,jD];refine YI m zI rfl zI ?_;cases k:Yp g;rw[jcx k];rw[k]at c;subst c;simp;exact j4 zS zS rfl;rw[k]at c;rw[Wm k];by_cases r:a<0;have d:¬0<=a:=zO;rw[za zP]at c;subst c;simp[d,j0];exact j4 zS zS rfl;have d:0<=a:=zO;by_cases w:(g.ts.length:Int)<=a;have f:¬(a<(g.ts.length:Int)):=zO;rw[za zP]at c;subst c;simp[d,f,j0];exact j4 zS zS rfl;have f:a<(g.ts.length:Int):=zO;by_cases v:b<0;have l:¬0<=b:=zO;rw[za zP]at c;subst c;simp[d,f,l,j0];exact j4 zS zS rfl;have l:0<=b:=zO;obtain⟨i,rfl⟩:∃i:Nat,a=i:=⟨a.toNat,zO⟩;have h:i<g.ts.length:=zO;rw[bh,X1 h]at c;obtain⟨t,o⟩:∃t,g.ts[i]=t:=⟨_,rfl⟩;rw[o]at c;have e:(g.ts.flatMap jt)[i*3+2]? = some (yj t.nl yP t.ops):=by rw[jk j9 g.ts h (by decide:2<3),o];rfl
 by_cases q:(t.ops.length:Int)<=b;have n:¬(b<(t.ops.length:Int)):=zO;rw[za zP]at c;subst c;simp[d,f,l,n,j0,h,j6 j9,e];exact j4 zS zS rfl;have n:b<(t.ops.length:Int):=zO;obtain⟨j,rfl⟩:∃j:Nat,b=j:=⟨b.toNat,zO⟩;have u:j<t.ops.length:=zO;rw[zb zP,bh,aa u]at c;subst c;simp[d,f,l,n,j0,h,j6 j9,e];exact j4 zS zS rfl
def jrv (g:Hist') (a b:Int):Val'×Bool:=match opAt g a b with
 |some o=>JD o.key (g.ts.getD a.toNat ⟨0,0,true,[]⟩).ops b.toNat
 |none=>(⟨0,0⟩,false)
def jbt (g:Hist') (a b:Int):Bool:=match opAt g a b with
 |some o=>!o.w && !(jrv g a b).2
 |none=>false
def ev162 {g:Hist'}(m:Small g) (a b:Int):Ev E 162 [.agg (ya g),.agg (jD (a,b))] (.tup [.agg (J9 (jrv g a b).1),.bool (jrv g a b).2]):=by
 have c:=ev161 m a b;refine jV rfl ?_;unfold jrv;cases d:opAt g a b with
 |none=>
  rw[d]at c;conv in(occs:=*)F162=>all_goals cbv
  simp[ya,jD,j0];refine jQ c (by simp[ya,jD]) rfl (by simp[ya,jD]) ?_;simp[j0,j2];exact JS zS (l:=[.agg (J9 ⟨0,0⟩),.bool false]) (by simp[jy,j0,J9]) rfl rfl
 |some o=>
  rw[d]at c;obtain⟨i,j,rfl,rfl,e,p,q⟩:=jbv d;have r:=m.os _ (av e);have h:=ev107n g.ts[i] zO o.key (n:=j) zO;simp only[bh];rw[X1 e];have f:(g.ts.flatMap jt)[i*3+2]? = some (yj (g.ts[i]).nl yP (g.ts[i]).ops):=by rw[jk j9 g.ts e (by decide:2<3)];rfl
  have k:((g.ts[i]).ops.flatMap yP)[j*4+1]? = some (.int .i64 o.key):=by rw[jk jH (g.ts[i]).ops p (by decide:1<4),q];rfl
  conv in(occs:=*)F162=>all_goals cbv
  simp[ya,jD,j0];refine jQ c (by simp[ya,jD]) rfl (by simp[ya,jD]) ?_;simp[j0,e,p,j6 j9,j6 jH,jh j9,f,k];refine YI h (by simp[jt]) rfl (by simp[jt]) ?_;rw[Jn (by simp[V.plain,J9])];generalize (JD o.key g.ts[i].ops j).1=rv at *;generalize (JD o.key g.ts[i].ops j).2=rb at *;simp[J9,j0,j2];exact JS zS (l:=[.agg [.int .i64 rv.kind,.int .i64 rv.n],.bool rb]) (by simp[jy,j0]) rfl rfl
def ev106 {g:Hist'}(n:Small g) (a b:Int):Ev E 106 [.agg (ya g),.agg (jD (a,b))] (.bool (jbt g a b)):=by
 have c:=ev161 n a b;have f:=ev162 n a b;refine jV rfl ?_;unfold jbt;cases d:opAt g a b with
 |none=>
  rw[d]at c;conv in(occs:=*)F106=>all_goals cbv
  simp[ya,jD,j0];refine YI c (by simp[ya,jD]) rfl (by simp[ya,jD]) ?_;simp;exact j4 zS zS rfl
 |some o=>
  rw[d]at c;obtain⟨i,j,rfl,rfl,k,l,p⟩:=jbv d;have e:(g.ts.flatMap jt)[i*3+2]? = some (yj (g.ts[i]).nl yP (g.ts[i]).ops):=by rw[jk j9 g.ts k (by decide:2<3)];rfl
  have h:((g.ts[i]).ops.flatMap yP)[j*4]? = some (.bool o.w):=by have:=jk jH (g.ts[i]).ops l (by decide:0<4);rw[br,p]at this;rw[this];rfl
  conv in(occs:=*)F106=>all_goals cbv
  simp[ya,jD,j0];refine YI c (by simp[ya,jD]) rfl (by simp[ya,jD]) ?_;generalize jrv g (i:Int) (j:Int)=ow at *;cases m:o.w;simp[j0,k,l,j6 j9,j6 jH,e,h,m];refine jQ f (by simp[ya,jD]) rfl (by simp[ya,jD]) ?_;rw[Jn (by simp[V.plain,J9])];simp[J9,j0,j2];exact j4 zS zS rfl;simp[j0,k,l,j6 j9,j6 jH,e,h,m];exact j4 zS zS rfl
def ev112 {g:Hist'}(G:Small g) (a b:Int):Ev E 112 [.agg (ya g),.agg (jD (a,b))] (.bool (jbt g a b)):=by
 have e:=j7i G a;refine jV rfl ?_;unfold jbt;cases c:opAt g a b with
 |none=>
  conv in(occs:=*)F112=>all_goals cbv
  simp[ya,jD,j0];refine jQ e zI rfl zI ?_;rw[JI rfl,jJ];have p:b<0\/((Xk g a).2.length:Int)<=b:=by unfold opAt at c;unfold Xk;by_cases d:(Yp g&&(decide (0<=a)&&decide (a<g.ts.length)))=true;rw[zb d];simp only[aj,ze]at d;by_cases l:b<0;exact .inl l;by_cases F:b<((g.ts.getD a.toNat ⟨0,0,true,[]⟩).ops.length:Int);rw[zb (by simp only[aj,ze];exact⟨d.1,d.2.1,d.2.2,zO,F⟩)]at c;rw[List.getElem?_eq_none_iff]at c;exact zf c zO;exact .inr (Int.not_lt.1 F);rw[za d];by_cases l:b<0;exact .inl l;exact .inr zP
  generalize Xk g a=oo at *;by_cases d:b<0;simp[j0,d];exact j4 zS zS rfl;have l:(oo.2.length:Int)<=b:=by rcases p with h|h;exact zf h d;exact h
  simp[j0,d,l];exact j4 zS zS rfl
 |some o=>
  have s:Yp g=true:=by unfold opAt at c;cases J:Yp g;rw[J]at c;cases c;rfl
  unfold jrv;rw[c];obtain⟨i,j,rfl,rfl,y,q,D⟩:=jbv c;simp only[bh];rw[X1 y];have v:Xk g (i:Int)=((g.ts[i]).nl,(g.ts[i]).ops):=by unfold Xk;rw[s,zb zP];simp only[bh];rw[X1 y]
  rw[v]at e;have K:=G.os _ (av y);have r:((g.ts[i]).ops.flatMap yP)[j*4]? = some (.bool o.w):=by have:=jk jH (g.ts[i]).ops q (by decide:0<4);rw[br,D]at this;rw[this];rfl
  have x:((g.ts[i]).ops.flatMap yP)[j*4+1]? = some (.int .i64 o.key):=by rw[jk jH (g.ts[i]).ops q (by decide:1<4),D];rfl
  have I:decide ((j:Int)<0)=false:=zS;have M:decide (((g.ts[i]).ops.length:Int)<=j)=false:=by simp;omega
  have L:((g.ts[i]).ops.length<=j)=False:=by simp;omega
  have H:(((g.ts[i]).ops.length:Int)<=j)=False:=by simp;omega
  have f:j<=(g.ts[i]).ops.length:=zO;have z:YY 4 none (some (.int .i64 (j:Int))) (yj (g.ts[i]).nl yP (g.ts[i]).ops)=some (yj (g.ts[i]).nl yP ((g.ts[i]).ops.take j)):=by
   have d:=jmn (kk:=.i64) (t:=none) (nl:=(g.ts[i]).nl) (sz:=4) (cs:=(g.ts[i]).ops.flatMap yP) (n:=(g.ts[i]).ops.length) (k:=j) f (j3 jH _);refine Eq.trans d ?_;have l:((g.ts[i]).ops.flatMap yP).take (j*4)=((g.ts[i]).ops.take j).flatMap yP:=by
    conv=>lhs;rw[<- dL j (g.ts[i]).ops,ch]
    rw[dJ];rw[j3 jH,ai,cq f]
   rw[l,yj,ai,cq f]
  have u:=j7h (g.ts[i]).nl ((g.ts[i]).ops.take j) (by rw[ai];omega) o.key;have m:(Q4 ((g.ts[i]).ops.take j) o.key).2=(JD o.key (g.ts[i]).ops j).2:=by unfold Q4;rw[jbp _ _ _ zK,jbp _ _ _ f,bf]
  conv in(occs:=*)F112=>all_goals cbv
  simp[ya,jD,j0];refine jQ e zI rfl zI ?_;rw[JI rfl,jJ];cases B:o.w
  ·simp[j0,I,H,q,j6 jH,r,B];simp[z,x,q,j6 jH,j0];refine YI u zS rfl zS ?_;rw[Jn (by simp[V.plain,J9])];rw[<- m];generalize Q4 ((g.ts[i]).ops.take j) o.key=lw at *;simp[J9,j0,j2];refine⟨by simp[Jp,Q7,Qt,ja7,yx,yy,yO,Delta.wo,Delta.wt];try decide,?_⟩;exact j4 zS zS rfl
  simp[j0,I,H,q,j6 jH,r,B];exact j4 zS zS rfl
def ju (g:Hist') (i:Nat):Nat->List (Int×Int)
 |0=>[]
 |k+1=>ju g i k++(if jbt g i k then [((i:Int),(k:Int))] else [])
def Jv (g:Hist'):Nat->List (Int×Int)
 |0=>[]
 |i+1=>Jv g i++(match g.ts[i]? with|some t=>if Y8 t then ju g i t.ops.length else []|none=>[])
def yh (g:Hist'):List (Int×Int):=Jv g g.ts.length
def YV (g:Hist') (i:Nat):∀k,(ju g i k).length<=k
 |0=>dy _
 |k+1=>by have:=YV g i k;simp only[ju,au];split<;>simp<;>omega
def Qh {g:Hist'}(a:Small g):∀i,(Jv g i).length<=i*1000
 |0=>bY _
 |i+1=>by have:=Qh a i;simp only[Jv,au];rw[show(i+1)*1000=i*1000+1000 by omega];split;rename_i t b;have c:=YV g i t.ops.length;have d:=a.os t (aH b);split;omega;simp only[cn];omega;simp only[cn];omega
def je2 {g:Hist'}{i:Nat}(h:i<g.ts.length):Jv g (i+1)=Jv g i++(if Y8 g.ts[i] then ju g i (g.ts[i]).ops.length else []):=by simp only[Jv,aa h]
def ev64 {g:Hist'}(D:Small g):∃v,Ev E 64 [.agg (ya g)] v/\SlR v false (yh g).length ((yh g).flatMap jD):=by
 have a0:=D.ts;refine XI rfl zQ ?_;conv in(occs:=*)F64=>all_goals cbv
 simp[ya];refine jU (cs:=[]) rfl rfl rfl ?_;simp;refine j7 [(3,6),(8,44)] g.ts.length (λi s=>s.tm 4=.int .i64 i/\s.ob 2=some ⟨0,.cells (ya g)⟩/\GrowT s.tk s.nx jD 2 (Jv g i) (s.tm 3)) rfl rfl ⟨zS,zI,by rw[Jv];exact⟨128,zS,by simp[jx],zS⟩⟩ ?_;rintro i s hi ⟨I,J,U⟩ f;have H:s.tm 1=.ptr 2 0 0:=by rw[f.t 1 zS];simp
 have N:s.df=[]:=by rw[f.d];simp
 have Z:s.fb=0:=by rw[f.b];simp
 have fr:s.ro=0:=by rw[f.r];simp
 clear f;by_cases c:i<g.ts.length;have X:=jc c zO;simp[I,H,J,j0,ya,c];refine j7 [(3,3),(5,6),(15,44)] (g.ts[i]).ops.length (λk m=>m.tm 5=.int .i64 k/\m.ob 2=some ⟨0,.cells (ya g)⟩/\GrowT m.tk m.nx jD 2 (Jv g i++(if Y8 g.ts[i] then ju g i k else [])) (m.tm 3)) rfl rfl ⟨zS,by simp[J],by simp[ju];exact U.mono (λ_ _ h=>h) zO⟩ ?_;rintro k m hk ⟨y,n,j⟩ f;have K:m.tm 1=.ptr 2 0 0:=by rw[f.t 1 zS];simp[H]
 have M:m.tm 4=.int .i64 i:=by rw[f.t 4 zS];simp[I]
 have ed:m.df=[]:=by rw[f.d];simp[N]
 have Q:m.fb=0:=by rw[f.b];simp[Z]
 have O:m.ro=0:=by rw[f.r];simp[fr]
 clear f;have G:=ev106 D (i:Int) (k:Int);have b5:=D.os _ (av c);have B:(g.ts.flatMap jt)[i*3+1]? = some (.int .i64 (g.ts[i]).f):=by rw[jk j9 g.ts c (by decide:1<3)];rfl
 have w:(g.ts.flatMap jt)[i*3+2]? = some (yj (g.ts[i]).nl yP (g.ts[i]).ops):=by rw[jk j9 g.ts c (by decide:2<3)];rfl
 by_cases o:k<(g.ts[i]).ops.length;have p:=jc o zO;have x:(Jv g i++(if Y8 g.ts[i] then ju g i k else [])).length<=1001000:=by have h1:=Qh D i;have h2:=YV g i k;have:i*1000<=1000*1000:=aW _ zO;rw[au];split;omega;simp only[cn];omega
 cases F:Y8 g.ts[i];have q:((g.ts[i]).f==1)=false:=F;rw[F]at j;simp[y,K,M,n,j0,ya,c,j6 j9,w,B,o,j2,Q,O,q,p];simpa using j.mono (λu _ h=>by simpa[jn] using h) zO;have q:((g.ts[i]).f==1)=true:=F;rw[F]at j x;simp only[zd]at j x;simp[y,K,M,n,j0,ya,c,j6 j9,w,B,o,j2,Q,O,q];refine jQ G (by simp[ya,jD]) rfl (by simp[ya,jD]) ?_;cases T:jbt g i k;simp[y,p,n,ya];have e:ju g i (k+1)=ju g i k:=by rw[ju,T];simp
 rw[e];exact⟨o,j.mono (λu _ h=>by simpa[jn] using h) zO⟩;simp[j0];have e:Jv g i++ju g i (k+1)=(Jv g i++ju g i k)++[((i:Int),(k:Int))]:=by rw[ju,T,bm];simp
 refine jU (cs:=jD (i,k)) (by simp[j2,jD]) rfl rfl ?_;simp;refine WI (f:=jD) (hi:=m.nx) (l:=Jv g i++ju g i k) (a:=((i:Int),(k:Int))) (v:=m.tm 3) (j.mono (λu _ h=>by simp[jx,h]) zK) zS (by simp[jE,jD]) jq zQ rfl zO zO (λb0 P=>?_);have z:(Jv g i++ju g i k).length+1=(Jv g i++ju g i (k+1)).length:=by rw[e,au (bs:=[_])];rfl
 rw[<- e,z];obtain⟨L,S⟩:∃L,Jv g i++ju g i (k+1)=L:=⟨_,rfl⟩;rw[S];simp[y,p,n,ya,S];exact⟨o,_,rfl,by simp[jx],zO⟩;have:k=(g.ts[i]).ops.length:=zO;subst this;simp[y,K,M,n,j0,ya,c,j6 j9,w,X];rw[je2 c];exact j.mono (λ_ _ h=>h) zO;have:i=g.ts.length:=zO;subst this;obtain⟨u,hv,_,_⟩:=U;simp[I,H,J,j0,ya];exact slE (t:=some (u,2)) (nl:=false) (k:=(yh g).length) (cs:=(yh g).flatMap jD) (λr h=>h) (by simp[N]) (by simp[hv,yh])
def rdOf (g:Hist') (x:Int):List (Int×Int):=ju g x.toNat (g.ts.getD x.toNat ⟨0,0,true,[]⟩).ops.length
def jmt {g:Hist'}{i:Nat}(h:i<g.ts.length):rdOf g i=ju g i (g.ts[i]).ops.length:=by unfold rdOf;rw[bh,X1 h]
def je4 {g:Hist'}:∀n,n<=g.ts.length->(yq Y8 g.ts n).flatMap (rdOf g)=Jv g n
 |0,_=>rfl
 |n+1,h=>by rw[Jw zO,je2 zO,ch,je4 n zO];cases Y8 g.ts[n];rfl;simp[jmt (show n<g.ts.length by omega)]
def jax (g:Hist'):List (Int×Int):=if jW g then yh g else []
def jrp (g:Hist'):(comH g).flatMap (rdOf g)=jax g:=by unfold comH jax;split;exact je4 _ zK;rfl
def j7q {g:Hist'}:∀x∈comH g,0<=x/\x<g.ts.length:=by unfold comH;split;exact(QR (p:=Y8) (ts:=g.ts) _ zK).1;simp
def j2g (g:Hist'):(comH g).length<=g.ts.length:=by unfold comH;split;exact JX _ _ _;simp
def jek {g:Hist'}(a:Small g):∀(l:List Int),(∀x∈l,0<=x/\x<g.ts.length)->(l.flatMap (rdOf g)).length<=l.length*1000
 |[],_=>bY _
 |x::l,h=>by obtain⟨f,d⟩:=h x (aJ ..);obtain⟨i,rfl⟩:∃i:Nat,x=i:=⟨x.toNat,zO⟩;have b:i<g.ts.length:=zO;have:=jek a l λy c=>h y (aQ _ c);have j:=YV g i (g.ts[i]).ops.length;have e:=a.os _ (av b);rw[ba,au,jmt b,bg,cX];omega
def ev72 {g:Hist'}(J:Small g):∃v,Ev E 72 [.agg (ya g)] v/\SlR v (jax g).isEmpty (jax g).length ((jax g).flatMap jD):=by
 have c0:=J.ts;obtain⟨vc,T,U⟩:=ev70 J;have c1:=j2g g;have q:=j7q (g:=g);rw[<- jrp];generalize comH g=C at *;obtain⟨L,hL⟩:∃L,C.flatMap (rdOf g)=L:=⟨_,rfl⟩;rw[hL];refine XI rfl zQ ?_;conv in(occs:=*)F72=>all_goals cbv
 simp[ya,j0];refine jQ T zI rfl zI ?_;refine YE U λtc b5=>?_;simp;refine j7 [(3,7),(11,36)] C.length (λi s=>s.tm 11=.int .i64 i/\s.ob 2=some ⟨0,.cells (ya g)⟩/\Grow s.tk 0 s.nx jD 2 ((C.take i).flatMap (rdOf g)) (s.tm 3)) rfl rfl ⟨zS,zI,by simp;exact Grow.nil _ _ _ _ _⟩ ?_;rintro i s hi ⟨z,o2,O⟩ f;have f1:s.tm 1=.ptr 2 0 0:=by rw[f.t 1 zS];simp
 have f9:s.tm 9=.sl tc C.isEmpty C.length (C.flatMap ye):=by rw[f.t 9 zS];simp
 have N:s.tm 10=.int .i64 C.length:=by rw[f.t 10 zS];simp
 have fd:s.df=[]:=by rw[f.d];simp
 have fb:s.fb=0:=by rw[f.b];simp
 have fr:s.ro=0:=by rw[f.r];simp
 clear f;by_cases m:i<C.length;have hw:=jc m zO;obtain⟨x,G⟩:∃x,C[i]=x:=⟨_,rfl⟩;obtain⟨x1,x2⟩:=q x (G▸av m);obtain⟨j,rfl⟩:∃j:Nat,x=j:=⟨x.toNat,zO⟩;have Q:j<g.ts.length:=zO;have I:=JL C m;rw[G]at I;have S:(g.ts.flatMap jt)[j*3+2]? = some (yj (g.ts[j]).nl yP (g.ts[j]).ops):=by rw[jk j9 g.ts Q (by decide:2<3)];rfl
 have B:J0 1 (.sl tc C.isEmpty C.length (C.flatMap ye)) (.int .i64 (i:Int))=some (.eptr (C.flatMap ye) (i*1)):=by simp only[Jo,j3 jA];rw[zb zP];rfl
 rw[bE]at B;simp[z,f1,f9,N,o2,j0,ya,m,B,I,Q,j6 j9,S];obtain⟨P,X⟩:∃P,(C.take i).flatMap (rdOf g)=P:=⟨_,rfl⟩;have b6:P.length<=1000000:=by have h1:=jek J (C.take i) (λx G=>q x (dz G));rw[X,ai]at h1;have:min i C.length*1000<=1000*1000:=aW _ zO;omega
 have w:(C.take (i+1)).flatMap (rdOf g)=P++ju g j (g.ts[j]).ops.length:=by rw[aw m,ch,X,G];simp[jmt Q]
 rw[X]at O;refine j7 [(3,3),(6,7),(22,35)] (g.ts[j]).ops.length (λk e=>e.tm 22=.int .i64 k/\e.ob 2=some ⟨0,.cells (ya g)⟩/\Grow e.tk 0 e.nx jD 2 (P++ju g j k) (e.tm 3)) rfl rfl ⟨zS,by simp[o2],by simp[ju];exact O.mono (λ_ _ _ h=>h) zO⟩ ?_;rintro k e hk ⟨p,o,y⟩ f;have e1:e.tm 1=.ptr 2 0 0:=by rw[f.t 1 zS];simp[f1]
 have e5:e.tm 5=.int .i64 j:=by rw[f.t 5 zS];simp
 have Z:e.tm 11=.int .i64 i:=by rw[f.t 11 zS];simp[z]
 have K:e.tm 21=.int .i64 (g.ts[j]).ops.length:=by rw[f.t 21 zS];simp
 have ed:e.df=[]:=by rw[f.d];simp[fd]
 have eb:e.fb=0:=by rw[f.b];simp[fb]
 have er:e.ro=0:=by rw[f.r];simp[fr]
 clear f;have a0:=ev112 J (j:Int) (k:Int);have b9:=J.os _ (av Q);have b8:=YV g j k;by_cases n:k<(g.ts[j]).ops.length;have H:=jc n zO;simp[p,e1,e5,K,o,j0,ya,n,j2,eb,er];refine jQ a0 (by simp[ya,jD]) rfl (by simp[ya,jD]) ?_;cases ho:jbt g j k;have c:ju g j (k+1)=ju g j k:=by rw[ju,ho];simp
 simp[p,H,o,ya];rw[c];exact⟨n,y.mono (λu _ _ h=>by simpa[jn] using h) zO⟩;have c:P++ju g j (k+1)=(P++ju g j k)++[((j:Int),(k:Int))]:=by rw[ju,ho,bm];simp
 simp[j0];refine jU (cs:=jD (j,k)) (by simp[j2,jD]) rfl rfl ?_;simp;refine XU (f:=jD) (lo:=0) (hi:=e.nx) (l:=P++ju g j k) (a:=((j:Int),(k:Int))) (v:=e.tm 3) (y.mono (λu _ _ h=>by simp[jx,h]) zK) zS (by simp[jE,jD]) jq zQ rfl (by rw[au];omega) (by rw[au];omega) (λb7 b0=>?_);have F:(P++ju g j k).length+1=(P++ju g j (k+1)).length:=by rw[c,au (bs:=[_])];rfl
 have D:P++ju g j (k+1)≠[]:=by rw[c];simp
 rw[<- c,F];obtain⟨M,hM⟩:∃M,P++ju g j (k+1)=M:=⟨_,rfl⟩;rw[hM]at D ⊢;simp[p,H,o,ya,hM];exact⟨n,.inr ⟨D,_,rfl,by simp[jx],bY _,zO⟩⟩;have:k=(g.ts[j]).ops.length:=zO;subst this;simp[p,Z,K,o,ya,hw];rw[w];exact⟨m,y.mono (λ_ _ _ h=>h) zO⟩;have:i=C.length:=zO;subst this;rw[bf,hL]at O;obtain⟨t,ht⟩:=O.form;simp[z,N];exact slE (t:=t) (nl:=L.isEmpty) (k:=L.length) (cs:=L.flatMap jD) (λr h=>h) (by simp[fd]) (by simp[ht])
section
variable {E:Env}{st:St}{ub:Nat}{K:List FP->St->Prop}{d:Option Nat}{nm:Bool}{r:List AOpr}
def jsm {i:Type}{f:i->List V}{sz b hi:Nat}{l:List i}{a:i}{v:V}{s x:A}(p:GrowT st.tk hi f sz l v) (o:yc E st.tm s=v) (q:jE st.ob sz (yc E st.tm x)=some (f a)) (c:∀a,(f a).length=sz) (m:0<sz)
 (hp:(f a).all V.pureLeaf=true) (n:(l.length+1)*b<=140737488355328) (j:l.length+1<=140737488355328)
 (h:∀del:Option Nat,(∀u,del=some u->u<hi)->W1 E r K (yc E st.tm) (.append false sz b s x) st d ub { v:=.sl (some (ub,sz)) false (l.length+1) ((l++[a]).flatMap f),del:=del,add:=[ub] }):jC E (⟨d,.append false sz b s x,none,nm⟩::r) st ub K:=by
 have g:f a≠[]:=λe=>by have:=c a;rw[e]at this;simp at this;omega
 have k:(f a).length/sz=1:=by rw[c];exact gY m
 rw[JC rfl];obtain⟨u,rfl,t,w⟩:=p;simp only[yR,o,q,am,za g,bZ,ak,zc];rw[zb ⟨by rw[j3 c],m,hp,by rw[k];exact n,by rw[k];exact j⟩,zb (by simp[t]),jJ,k];have:=h (some u) (λy e=>by cases e;exact w);simpa using this
end
def jac (x:Bool×List Int):List V:=[.sl none x.1 x.2.length (x.2.flatMap ye)]
@[simp] theorem Wn (x:Bool×List Int):(jac x).length=1:=rfl
def badO (ops:List Op') (k:Nat) (o:Op'):Bool:=!o.w&&((o.v.kind != 2)&&((JD o.key ops k).2 && !(((JD o.key ops k).1.kind==o.v.kind)&&((JD o.key ops k).1.n==o.v.n))))
def QA (ops:List Op'):Nat->List Int
 |0=>[]
 |k+1=>QA ops k++(match ops[k]? with|some o=>if badO ops k o then [(k:Int)] else []|none=>[])
def jta {ops:List Op'}{k:Nat}(h:k<ops.length):QA ops (k+1)=QA ops k++if badO ops k ops[k] then [(k:Int)] else []:=by simp[QA,aa h]
def jl0 (ops:List Op'):∀k,(QA ops k).length<=k
 |0=>by simp[QA]
 |k+1=>by have:=jl0 ops k;simp only[QA,au];split;split<;>simp<;>omega;simp;omega
def j3w (g:Hist') (i:Int):List Int:=QA (Xk g i).2 (Xk g i).2.length
def jg6 (key:Int) (ops:List Op') (k:Nat):∀j,j<=k->JD key (ops.take k) j=JD key ops j
 |0,_=>rfl
 |j+1,h=>by simp only[JD,jg6 key ops k j zO,aY (show j<k by omega)]
def jsd (key:Int) (ops:List Op') {k:Nat}(h:k<=ops.length):Q4 (ops.take k) key=JD key ops k:=by unfold Q4;rw[ai,cq h,jg6 key ops k k zK]
def jt6 {nl:Bool}{ops:List Op'}{k:Nat}(h:k<=ops.length):YY 4 none (some (.int .i64 (k:Int))) (yj nl yP ops)=some (yj nl yP (ops.take k)):=by
 have a:=jmn (kk:=.i64) (t:=none) (nl:=nl) (sz:=4) (cs:=ops.flatMap yP) (n:=ops.length) (k:=k) h (j3 jH _);refine Eq.trans a ?_;have b:(ops.flatMap yP).take (k*4)=(ops.take k).flatMap yP:=by
  conv=>lhs;rw[<- dL k ops,ch]
  rw[dJ];rw[j3 jH,ai,cq h]
 rw[b,yj,ai,cq h]
def ev71 {g:Hist'}(U:Small g) (i:Int):∃v,Ev E 71 [.agg (ya g),.int .i64 i] v/\SlR v (j3w g i).isEmpty (j3w g i).length ((j3w g i).flatMap ye):=by
 have B:=j7i U i;have N:=jkp U i;unfold j3w;refine XI rfl zQ ?_;generalize Xk g i=oo at *;obtain⟨nl,ops⟩:=oo;simp only at B N ⊢;conv in(occs:=*)F71=>all_goals cbv
 simp[ya,j0];refine jQ B zI rfl zI ?_;rw[JI rfl,jJ];simp;refine j7 [(5,5),(7,10),(16,49)] ops.length (λk s=>s.tm 16=.int .i64 k/\Grow s.tk 0 s.nx ye 1 (QA ops k) (s.tm 5)) rfl rfl ⟨zS,by simp[QA];exact Grow.nil _ _ _ _ _⟩ ?_;rintro k s hk ⟨m,G⟩ f;have f6:s.tm 6=yj nl yP ops:=by rw[f.t 6 zS];simp
 have F:s.tm 14=yj nl yP ops:=by rw[f.t 14 zS];simp
 have z:s.tm 15=.int .i64 ops.length:=by rw[f.t 15 zS];simp
 have X:s.df=[]:=by rw[f.d];simp
 have L:s.fb=0:=by rw[f.b];simp
 have fr:s.ro=0:=by rw[f.r];simp
 clear f;by_cases e:k<ops.length
 ·have p:=jc e zO;have c:=jta e;have Z:=jl0 ops k;obtain⟨o,T⟩:∃o,ops[k]=o:=⟨_,rfl⟩;have j:WG s.ob (some 4) (.eptr (ops.flatMap yP) (k*4))=some (.agg (yP o)):=by rw[jh jH s.ob ops e,T]
  have O:=jt6 (nl:=nl) (ops:=ops) (k:=k) zO;have D:=j7h nl (ops.take k) (by rw[ai];omega) o.key;rw[jsd _ _ zO]at D;rw[T]at c;unfold badO at c;cases J:o.w
  ·rw[J]at c;cases x:(o.v.kind==2)
   ·have q:(o.v.kind != 2)=true:=by simp only[bne,x,cu]
    rw[q]at c;simp only[cu,cp]at c;simp[m,f6,F,z,e,j6 jH,j,j0,yP,j2,L,fr,J,x,O];refine YI D zS rfl zS ?_;rw[Jn (by simp[V.plain,J9])];generalize JD o.key ops k=K at *;obtain⟨K,rb⟩:=K;simp only at c;simp[J9,j0,j2,L,fr];refine⟨by simp[Jp,Q7,Qt,ja7,yx,yy,yO,Delta.wo,Delta.wt];try decide,?_⟩;cases rb;simp[m,p];simp only[bZ,ak,zc,aU]at c;rw[c];exact⟨e,G.mono (λu _ P h=>by simpa[jn] using h) zO⟩;cases y:((K.kind==o.v.kind)&&(K.n==o.v.n));rw[y]at c;simp only[cp,cu,zd]at c;simp[j0,y];refine jU (cs:=ye k) (by simp[j2,ye]) rfl rfl ?_;simp;refine XU (f:=ye) (lo:=0) (hi:=s.nx) (l:=QA ops k) (a:=(k:Int)) (v:=s.tm 5) (G.mono (λu _ _ h=>by simp[jx,h]) zK) zS (by simp[jE,ye]) jA zQ rfl zO zO (λa0 S=>?_);have I:(QA ops k).length+1=(QA ops (k+1)).length:=by rw[c];simp
    have H:QA ops (k+1)≠[]:=by rw[c];simp
    rw[<- c,I];obtain⟨M,Q⟩:∃M,QA ops (k+1)=M:=⟨_,rfl⟩;rw[Q]at H ⊢;simp[m,p,Q];exact⟨e,.inr ⟨H,_,rfl,by simp[jx],bY _,zO⟩⟩;rw[y]at c;simp only[cp,cl,ak,zc,aU]at c;simp[j0,y,m,p];rw[c];exact⟨e,G.mono (λu _ P h=>by simpa[jn] using h) zO⟩
   have q:(o.v.kind != 2)=false:=by simp only[bne,x,cl]
   rw[q]at c;simp only[bZ,dF,ak,zc,aU]at c;simp[m,F,z,e,j6 jH,j,j0,yP,j2,L,fr,J,x,p];rw[c];exact G.mono (λu _ P h=>by simpa[jn] using h) zO
  rw[J]at c;simp only[cl,bZ,ak,zc,aU]at c;simp[m,F,z,e,j6 jH,j,j0,yP,j2,L,fr,J,p];rw[c];exact G.mono (λu _ P h=>by simpa[jn] using h) zO
 have:k=ops.length:=zO;subst this;obtain⟨t,ht⟩:=G.form;simp[m,z];exact slE (t:=t) (nl:=(QA ops ops.length).isEmpty) (k:=(QA ops ops.length).length) (cs:=(QA ops ops.length).flatMap ye) (λr h=>h) (by simp[X]) (by simp[ht])
end Go.Pv.T
namespace Go.Pv.T
open Go Go.Pv
end Go.Pv.T
namespace Go.Pv.T
open Go Go.Pv
end Go.Pv.T
namespace Go.Pv.T
open Go Go.Pv
end Go.Pv.T
namespace Go.Pv.T
open Go Go.Pv
def jwt {Yf:YF}{f:FuncId}{q:A}{xs:List A}{st:St}{ub:Nat}{K:St->Nat->Prop}{d:Option Nat}{nm:Bool}{first captured vs:List V}{P:V×(ZO)×(Nat->Bool)×Nat->Prop}
 (i:yc E st.tm q=.fn (.func f) first captured) (k:first++xs.map (yc E st.tm)++captured=vs) (g:E.sh nm f=true)
 (l:∃r,EvS E Yf.y f vs st.ob st.tk st.ro ((st.fb+d.getD 0+1)*1024) ub r/\P r) (h:∀v c a b,P (v,c,a,b)->K (jrm st d v c a) b):j5 E Yf ⟨d,.callV q xs,none,nm⟩ st ub K:=by
 have e:j8 E nm (yc E st.tm) (.callV q xs)=some (f,vs):=by simp only[j8,i,g,k,cl,bZ,ak,zc]
 simp only[j5,yH,jb,i,e];obtain⟨r,j,m⟩:=l;exact .inl ⟨g,EvS.list ⟨r,j,h r.1 r.2.1 r.2.2.1 r.2.2.2 m⟩⟩
def OwnI (ob:ZO) (v:V) (l:List Int):Prop:=(v=.sl none true 0 []/\l=[])\/∃L u cs,v=.osl L u 0 l.length 1/\ob L=some ⟨u,.cells cs⟩/\l.length<=cs.length/\cs.take l.length=l.flatMap ye
def OwnI.at {l:List Int}{cs:List V}(b:cs.take l.length=l.flatMap ye) {i:Nat}(h:i<l.length):cs[i]? = some (.int .i64 l[i]):=by have a:=JL l h;rw[<- b,aY h]at a;exact a
end Go.Pv.T
