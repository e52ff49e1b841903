/- Part. -/
import Derived.Test.YtmanndcfeicokaaGreatDoorPG
set_option maxRecDepth 100000
set_option maxHeartbeats 8000000
set_option linter.all false
namespace Go.Pv.T
open Go Go.Pv
def jw1 (o:Op') (a:Int) (i:Nat) (t:Txn'):Bool:=(!((i:Int)==a)&&(t.f != 2))&&((JH o.key t.ops t.ops.length).2&&Qa o (JH o.key t.ops t.ops.length).1)
def YO (ts:List Txn') (a:Int) (o:Op'):Nat->List Int
 |0=>JO o
 |i+1=>YO ts a o i++(match ts[i]? with|some t=>if jw1 o a i t then [(i:Int)] else []|none=>[])
def jid {ts:List Txn'}{a:Int}{o:Op'}{i:Nat}(h:i<ts.length):YO ts a o (i+1)=YO ts a o i++(if jw1 o a i ts[i] then [(i:Int)] else []):=by simp[YO,aa h]
def jl7 (ts:List Txn') (a:Int) (o:Op'):∀i,(YO ts a o i).length<=i+1
 |0=>by unfold YO JO;split<;>simp
 |i+1=>by have:=jl7 ts a o i;simp only[YO,ap];split;split<;>simp<;>omega;simp;omega
def juu {g:Hist'}(a:Yr g=true) (key:Int) {i:Nat}(h:i<g.ts.length):Xx g key i=(JH key g.ts[i].ops g.ts[i].ops.length).1:=by unfold Xx Ys Jr;rw[a,zb zP];simp only[ba];rw[XB h]
def jrh {g:Hist'}(c:Yr g=true) (a:Int) (o:Op'):∀i,i<=g.ts.length->YO g.ts a o i=JO o++(yu (wrB o.key) g.ts i).filter λi=>!(i==a)&&Qa o (Xx g o.key i)
 |0,_=>by simp[YO,yu]
 |i+1,h=>by rw[jid zO,Jm zO,bN,jrh c a o i zO,aY];congr 2;have b:=Qk o.key (g.ts[i]).ops (g.ts[i]).ops.length zK;rw[bg]at b;have d:=juu c o.key (show i<g.ts.length by omega);unfold jw1 wrB;rw[b];cases k:(g.ts[i].ops.any (wkB o.key))<;>cases j:(g.ts[i].f != 2)<;>cases e:((i:Int)==a)<;>simp[ct,e,d]
def jxd {g:Hist'}(b:Yr g=true) (a:Int) (o:Op'):YO g.ts a o g.ts.length=ofL g a o:=jrh b a o _ zK
def jcp {g:Hist'}{a b:Int}{o:Op'}(h:opAt g a b=some o):∃i j:Nat,a=i/\b=j/\∃(hi:i<g.ts.length) (d:j<(g.ts[i]).ops.length),(g.ts[i]).ops[j]=o:=by unfold opAt at h;by_cases c:(Yr g&&(decide (0<=a)&&(decide (a<g.ts.length)&&(decide (0<=b)&&decide (b<((g.ts.getD a.toNat ⟨0,0,true,[]⟩).ops.length:Nat))))))=true;rw[zb c]at h;simp only[aj,ze]at c;obtain⟨_,k,f,l,e⟩:=c;obtain⟨i,rfl⟩:∃i:Nat,a=i:=⟨a.toNat,zO⟩;obtain⟨j,rfl⟩:∃j:Nat,b=j:=⟨b.toNat,zO⟩;have hi:i<g.ts.length:=zO;rw[ba,XB hi]at h e;have d:j<(g.ts[i]).ops.length:=zO;rw[ba,aa d]at h;exact⟨i,j,rfl,rfl,hi,d,cu h⟩;rw[za c]at h;cases h
def ev69' {g:Hist'}(hs:Small g) (a b:Int):∃v,Ev E 69 [.agg (yb g),.agg (jC (a,b))] v/\SlR v false (ofH g a b).length ((ofH g a b).flatMap yf):=by
 have B:=ev109 hs a b;refine JW rfl zQ ?_;unfold ofH;cases z:opAt g a b with
 |none=>
  rw[z]at B;conv in(occs:=*)F69=>all_goals cbv
  simp[yb,jC];refine jF (cs:=[]) rfl rfl rfl ?_;simp[ya];refine jH B (by simp[yb,jC]) rfl (by simp[yb,jC]) ?_;simp;exact slE (t:=some (192,1)) (nl:=false) (k:=0) (cs:=[]) (λr h=>h) zS zS
 |some o=>
  rw[z]at B;simp only[Option.any_some]at B;have P:Yr g=true:=by unfold opAt at z;cases hm:Yr g;rw[hm]at z;cases z;rfl
  have c0:=jyt P;conv in(occs:=*)F69=>all_goals cbv
  simp[yb,jC];refine jF (cs:=[]) rfl rfl rfl ?_;simp[ya];refine jH B (by simp[yb,jC]) rfl (by simp[yb,jC]) ?_;cases X:o.w
  ·obtain⟨i,j,rfl,rfl,hi,hj,ho⟩:=jcp z;have b8:(g.ts.flatMap jf)[i*3+2]? = some (yl (g.ts[i]).nl yS (g.ts[i]).ops):=by rw[jO j7 g.ts hi (by decide:2<3)];rfl
   have b0:=λob=>jd jD ob (g.ts[i]).ops hj;rw[ho]at b0;simp[ya,hi,hj,j4 j7,j4 jD,b8,b0];refine⟨by simp[yS],by simp[JQ,YW,Wk,QP,yz,yB,yR,Delta.wo,Delta.wt,yS];try decide,?_⟩;simp[yS];generalize hK:jv1 E YS _ (WO _ _)=K;have O:∀(s:St) (U:Nat) (v:V),s.tm 2=.ptr 4 0 0->s.tm 3=.ptr 6 64 0->s.tm 6=.ptr 12 U 0->s.ob 4=some ⟨0,.cells (yb g)⟩->s.ob 6=some ⟨64,.cells [.int .i64 i,.int .i64 j]⟩->s.ob 12=some ⟨U,.cells (yS o)⟩ ->
    s.tm 5=v->GrowT s.tk s.nx yf 1 (JO o) v->s.df=[]->s.ro=0->s.fb=0->K .nrm s:=by
    intro s U v D h3 h6 o4 L M Z hv hd hr hb
    rw[<- hK]
    clear hK B z
    simp
    generalize (i:Int)=a at *
    refine j5 [(5,5),(7,9),(34,90)] g.ts.length (λn s=>s.tm 7=.int .i64 n/\s.ob 4=some ⟨0,.cells (yb g)⟩/\s.ob 6=some ⟨64,.cells [.int .i64 a,.int .i64 j]⟩/\s.ob 12=some ⟨U,.cells (yS o)⟩/\GrowT s.tk s.nx yf 1 (YO g.ts a o n) (s.tm 5)) rfl rfl ⟨zS,by simp[o4],by simp[L],by simp[M],by rw[YO];simp[Z];exact hv.mono (λ_ _ h=>h) zO⟩ ?_
    rintro n F hn ⟨I,o4,L,M,S⟩ f
    have T:F.tm 2=.ptr 4 0 0:=by rw[f.t 2 zS];simp[D]
    have f3:F.tm 3=.ptr 6 64 0:=by rw[f.t 3 zS];simp[h3]
    have f6:F.tm 6=.ptr 12 U 0:=by rw[f.t 6 zS];simp[h6]
    have fd:F.df=[]:=by rw[f.d];simp[hd]
    have fb:F.fb=0:=by rw[f.b];simp[hb]
    have fr:F.ro=0:=by rw[f.r];simp[hr]
    clear f
    by_cases c:n<g.ts.length
    ·have X:=jP c zO;have J:=jid (a:=a) (o:=o) c;obtain⟨t,ht⟩:∃t,g.ts[n]=t:=⟨_,rfl⟩;rw[ht]at J;have b9:=hs.os t (ht▸au c);have c1:=jl7 g.ts a o n;have H:(g.ts.flatMap jf)[n*3+1]? = some (.int .i64 t.f):=by rw[jO j7 g.ts c (by decide:1<3),ht];rfl
     have b7:(g.ts.flatMap jf)[n*3+2]? = some (yl t.nl yS t.ops):=by rw[jO j7 g.ts c (by decide:2<3),ht];rfl
     have b5:=ev107 t zO o.key;simp[I,T,f6,o4,M,ya,yb,yS,c,j4 j7,jd j7,ht,b7];refine X4 b5 (by simp[jf]) rfl (by simp[jf]) ?_;rw[Jb (by simp[V.plain,J7])];have m:jw1 o a n t=((!((n:Int)==a)&&(t.f != 2))&&((JH o.key t.ops t.ops.length).2&&Qa o (JH o.key t.ops t.ops.length).1)):=rfl;generalize (JH o.key t.ops t.ops.length).1=rv at *;generalize (JH o.key t.ops t.ops.length).2=rb at *;have p:F.ob 4=some ⟨0,.cells [yl g.sn X1 g.ss,yl g.kn X1 g.ks,yl g.tn jf g.ts]⟩:=o4;have e:F.ob 12=some ⟨U,.cells [.bool o.w,.int .i64 o.key,.int .i64 o.v.kind,.int .i64 o.v.n]⟩:=M;have skip:jw1 o a n t=false->YO g.ts a o (n+1)=YO g.ts a o n:=λh=>by rw[J,h];simp
     simp[J7,ya,fb,fr,j2,f3,L,I];refine⟨by simp[JQ,YW,Wk,QP,yz,yB,yR,Delta.wo,Delta.wt];try decide,?_⟩;cases h1:((n:Int) != a);have y:((n:Int)==a)=true:=by simpa[bne] using h1
     have x:=skip (by rw[m,y];rfl);simp[p,L,e,I,X,c];rw[x];exact S.mono (λu _ h=>by simpa[jk] using h) zO;have y:((n:Int)==a)=false:=by simpa[bne] using h1
     cases D:(t.f != 2);have x:=skip (by rw[m,y,D];rfl);simp[D,T,p,L,e,I,X,ya,c,j4 j7,H];rw[x];exact S.mono (λu _ h=>by simpa[jk] using h) zO;cases rb;have x:=skip (by rw[m,y,D];rfl);simp[D,T,p,L,e,I,X,ya,c,j4 j7,H];rw[x];exact S.mono (λu _ h=>by simpa[jk] using h) zO;cases h4:(o.v.kind==2);cases Z:(rv.kind==o.v.kind&&rv.n==o.v.n);have x:=skip (by rw[m,y,D];unfold Qa;rw[h4,Z];rfl);simp[D,h4,Z,T,f6,p,L,e,I,X,ya,c,j4 j7,H];rw[x];exact S.mono (λu _ h=>by simpa[jk] using h) zO;have Q:Qa o rv=true:=by unfold Qa;rw[h4,Z];rfl
     have q:YO g.ts a o (n+1)=YO g.ts a o n++[(n:Int)]:=by rw[J,m];simp[y,D,Q]
     simp[D,h4,Z,T,f6,p,e,I,ya,c,j4 j7,H];refine jF (cs:=[.int .i64 n]) (by simp[j2]) rfl rfl ?_;simp;refine Y9 (f:=yf) (hi:=F.nx) (l:=YO g.ts a o n) (a:=(n:Int)) (v:=F.tm 5) (S.mono (λu _ h=>by simp[jb,h]) zK) zS (by simp[yp,yf]) j6 zQ rfl zO zO (λa0 N=>?_);have G:(YO g.ts a o n).length+1=(YO g.ts a o (n+1)).length:=by rw[q];simp
     rw[<- q,G];simp[I,X,p,L,e];exact⟨c,_,rfl,by simp[jb],zO⟩;have Q:Qa o rv=true:=by unfold Qa;rw[h4];rfl
     have q:YO g.ts a o (n+1)=YO g.ts a o n++[(n:Int)]:=by rw[J,m];simp[y,D,Q]
     simp[D,h4,T,f6,p,e,I,ya,c,j4 j7,H];refine jF (cs:=[.int .i64 n]) (by simp[j2]) rfl rfl ?_;simp;refine Y9 (f:=yf) (hi:=F.nx) (l:=YO g.ts a o n) (a:=(n:Int)) (v:=F.tm 5) (S.mono (λu _ h=>by simp[jb,h]) zK) zS (by simp[yp,yf]) j6 zQ rfl zO zO (λa0 N=>?_);have G:(YO g.ts a o n).length+1=(YO g.ts a o (n+1)).length:=by rw[q];simp
     rw[<- q,G];simp[I,X,p,L,e];exact⟨c,_,rfl,by simp[jb],zO⟩
    ·have:n=g.ts.length:=zO;subst this;obtain⟨u,hv,_,_⟩:=S;simp[I,T,o4,ya,yb];rw[<- jxd P];exact slE (t:=some (u,1)) (nl:=false) (k:=(YO g.ts a o g.ts.length).length) (cs:=(YO g.ts a o g.ts.length).flatMap yf) (λr h=>h) (by simp[fd]) (by simp[hv])
   by_cases hk:o.v.kind=1;simp[hk];refine O _ 1280 _ zS zS zS zI zS (by simp[yS,hk]) (by simp;rfl) ?_ zS zS zS;exact⟨192,by simp[JO,hk],by simp[jb],zS⟩;have b6:(o.v.kind != 1)=true:=by simp[hk]
   simp[b6];refine jF (cs:=[.int .i64 (-1)]) (by simp[j2]) rfl rfl ?_;simp;refine Y9 (f:=yf) (hi:=576) (l:=[]) (a:=-1) (v:=.sl (some (192,1)) false 0 []) ⟨192,rfl,by simp[jb],zO⟩ zS (by simp[yp,yf]) j6 zQ rfl zS zS (λa0 N=>?_);simp;refine O _ 1280 _ zS zS zS zI zS (by simp[yS]) (by simp;rfl) ?_ zS zS zS;exact⟨1792,by simp[JO,hk],by simp[jb],zS⟩
  simp;exact slE (t:=some (192,1)) (nl:=false) (k:=0) (cs:=[]) (λr h=>h) zS zS
def Jv {ub:Nat}{v:V}{nl:Bool}{n:Nat}{cs:List V}{K:Delta->Prop}(a:SlR v nl n cs) (h:∀t add,K { v:=.sl t nl n cs,add:=add }):wpD (Xp ub v) K:=by obtain⟨t,add,b⟩:=jj6 (ub:=ub) a;rw[b,jG];exact h t add
def len0 {a:Type}(l:List a):((l.length:Int)==0)=l.isEmpty:=by cases l<;>simp<;>omega
def len0b {b a:Type}(l:List b) (m:List a):((l.length:Int)+m.length==0)=(l.isEmpty&&m.isEmpty):=by cases l<;>cases m<;>simp<;>omega
def jX (g:Hist'):Bool:=Yr g&&((Y3 g).isEmpty&&(jdz g).isEmpty)
def ev30 {g:Hist'}(i:Small g):Ev E 30 [.agg (yb g)] (.bool (jX g)):=by
 have a:=ev53 i;refine jS rfl ?_;unfold jX;cases b:Yr g
 ·conv in(occs:=*)F30=>all_goals cbv
  simp[yb,ya];refine jH a zI rfl zI ?_;have c:(errH g==0)=false:=by simp[Qr b]
  simp[c];exact j3 zS zS rfl
 ·rw[W6 b]at a;obtain⟨n,j,l,h⟩:=ev54 i b;obtain⟨m,f,k,e⟩:=ev55 i b;conv in(occs:=*)F30=>all_goals cbv
  simp[yb,ya];refine jH a zI rfl zI ?_;simp[ya];refine jH j zI rfl zI ?_;refine Jv h λt add=>?_;have d:=len0 (Y3 g);cases c:(Y3 g).isEmpty;rw[c]at d;simp[d];exact j3 zS zS rfl;rw[c]at d;simp[d,ya];refine jH f zI rfl zI ?_;refine Jv e λt add=>?_;simp;exact j3 zS (by simp[len0]) rfl
def ev28 {g:Hist'}(b:Small g):Ev E 28 [.agg (yb g)] (.bool (jX g)):=by
 have a:=ev48 b;refine jS rfl ?_;unfold jX;cases f:Yr g
 ·conv in(occs:=*)F28=>all_goals cbv
  simp[yb,ya];refine X4 a zI rfl zI ?_;have k:(errH g==0)=false:=by simp[Qr f]
  simp[k];exact j3 zS zS rfl
 ·rw[W6 f]at a;have e:=ev49 g (by have:=b.ts;omega);obtain⟨n,d,h,c⟩:=ev50 b;have B:=bnd_of b;have m:=B.i;have o:=B.l;have j:IntKind.i64.wrap (((Y3 g).length:Int)+(jdz g).length)=((Y3 g).length:Int)+(jdz g).length:=jg zO zO;conv in(occs:=*)F28=>all_goals cbv
  simp[yb,ya];refine X4 a zI rfl zI ?_;simp[ya];refine X4 e zI rfl zI ?_;rw[jj5];simp[ya];refine X4 d zI rfl zI ?_;refine Jv c λt add=>?_;simp[j];exact j3 zS (by simp[len0b]) rfl
def ev25 {a b:Bool}(l m:List Int) (B:l.length<=1000000000) (F:m.length<=1000000000):Ev E 25 [yl a yf l,yl b yf m] (.bool (l==m)):=by
 refine jS rfl ?_;have q:∀(l:List Int) (i:Nat) (h:i<l.length),(l.flatMap yf)[i]? = some (.int .i64 l[i]):=λl i h=>by have:=jO j6 l h (by decide:0<1);rw[bz,bl]at this;rw[this];rfl
 by_cases k:l.length=m.length
 ·conv in(occs:=*)F25=>all_goals cbv
  simp[k];refine j5 [(4,5),(11,40)] l.length (λi s=>s.tm 5=.int .i64 i/\l.take i=m.take i) rfl rfl ⟨zS,zS⟩ ?_;rintro i s D ⟨p,o⟩ f;have n:s.tm 0=yl a yf l:=by rw[f.t 0 zS];simp
  have v:s.tm 1=yl b yf m:=by rw[f.t 1 zS];simp
  have r:s.df=[]:=by rw[f.d];simp
  clear f;by_cases j:i<l.length;have x:=jP j zO;have c:i<m.length:=zO;have w:=q l i j;have u:=q m i c;cases g:(l[i] != m[i]);have z:l[i]=m[i]:=by simpa using g
  simp[p,n,v,j,c,j4 j6,w,u,g,x];rw[av j,av c,o,z];have y:l[i]≠m[i]:=by simpa using g
  simp[p,n,v,j,c,j4 j6,w,u,g];refine j3 (by simp[r]) ?_ rfl;have:(l==m)=false:=by rw[zk];intro e;subst e;exact y rfl
  simp[this];have:i=l.length:=zO;subst this;simp[p,n];refine j3 (by simp[r]) ?_ rfl;have:l=m:=by rw[bg,k,bg]at o;exact o
  simp[this]
 ·have g:((l.length:Int) != m.length)=true:=by simp;omega
  conv in(occs:=*)F25=>all_goals cbv
  simp[g];refine j3 zS ?_ rfl;have:(l==m)=false:=by rw[zk];intro e;subst e;exact k rfl
  simp[this]
def ev63 {a:Bool}(l:List Int) (v:l.length<=1000000000) (k:Int):Ev E 63 [yl a yf l,.int .i64 k] (.bool (l.contains k)):=by
 refine jS rfl ?_;obtain⟨c,r⟩:∃c,l.contains k=c:=⟨_,rfl⟩;rw[r];conv in(occs:=*)F63=>all_goals cbv
 simp;refine j5 [(4,30)] l.length (λi s=>s.tm 5=.int .i64 i/\(l.drop i).contains k=c) rfl rfl ⟨zS,zU r⟩ ?_;rintro i s w ⟨n,g⟩ f;have m:s.tm 0=yl a yf l:=by rw[f.t 0 zS];simp
 have p:s.tm 1=.int .i64 k:=by rw[f.t 1 zS];simp
 have o:s.df=[]:=by rw[f.d];simp
 clear f;by_cases b:i<l.length;have u:=jP b zO;have q:=jj l b;rw[aP b,dE]at g;cases j:(l[i]==k);have h:(k==l[i])=false:=by rw[zk]at j ⊢;exact λe=>j e.symm
 rw[h,bR]at g;simp[n,m,p,b,j4 j6,q,j,u];simpa using g;have h:(k==l[i])=true:=by rw[zh]at j ⊢;exact j.symm
 rw[h,fo]at g;simp[n,m,p,b,j4 j6,q,j];exact j3 (by simp[o]) (by rw[<- g];simp) rfl;have:i=l.length:=zO;subst this;rw[dl]at g;simp[n,m];exact j3 (by simp[o]) (by rw[<- g];simp) rfl
def yH:List Int->Int->Nat->Int
 |[],_,_=>-1
 |x::r,k,n=>if k==x then n else yH r k (n+1)
def jkx (k:Int):∀(l:List Int) (n:Nat),decide (yH l k n<0) = !l.contains k
 |[],n=>rfl
 |x::r,n=>by rw[yH,dE];cases h:(k==x);simpa using jkx k r (n+1);simp
def ev148 {a:Bool}(l:List Int) (q:l.length<=1000000000) (k:Int):Ev E 148 [yl a yf l,.int .i64 k] (.int .i64 (yH l k 0)):=by
 refine jS rfl ?_;conv in(occs:=*)F148=>all_goals cbv
 simp;refine j5 [(4,5),(8,30)] l.length (λi s=>s.tm 8=.int .i64 i/\yH (l.drop i) k i=yH l k 0) rfl rfl ⟨zS,zS⟩ ?_;rintro i s r ⟨h,c⟩ f;have o:s.tm 0=yl a yf l:=by rw[f.t 0 zS];simp
 have m:s.tm 1=.int .i64 k:=by rw[f.t 1 zS];simp
 have g:s.tm 7=.int .i64 l.length:=by rw[f.t 7 zS];simp
 have j:s.df=[]:=by rw[f.d];simp
 clear f;by_cases b:i<l.length;have p:=jP b zO;have n:=jj l b;rw[aP b,yH]at c;cases e:(k==l[i]);rw[e]at c;simp[h,o,m,g,b,j4 j6,n,e,p];simpa using c;rw[e]at c;simp[h,o,m,g,b,j4 j6,n,e];exact j3 (by simp[j]) (by rw[<- c];simp) rfl;have:i=l.length:=zO;subst this;rw[dl,yH]at c;simp[h,g];exact j3 (by simp[j]) (by rw[<- c];simp) rfl
def Yq (l:List (Int×Int)) (ob:ZO) {i:Nat}(h:i<l.length):W8 ob (some 2) (.eptr (l.flatMap jC) (i*2))=some (.agg [.int .i64 (l[i]).1,.int .i64 (l[i]).2]):=jd jR ob l h
def Jp (t:Txn'):Bool:=t.f==1
def comH (g:Hist'):List Int:=if jX g then yu Jp g.ts g.ts.length else []
def ev70 {g:Hist'}(D:Small g):∃v,Ev E 70 [.agg (yb g)] v/\SlR v (comH g).isEmpty (comH g).length ((comH g).flatMap yf):=by
 have j:=ev30 D;have J:=D.ts;refine JW rfl zQ ?_;unfold comH;cases q:jX g
 ·rw[q]at j;conv in(occs:=*)F70=>all_goals cbv
  simp[yb,ya];refine jH j zI rfl zI ?_;simp;exact slE (t:=none) (nl:=true) (k:=0) (cs:=[]) (λr h=>h) zS zS
 rw[q]at j;conv in(occs:=*)F70=>all_goals cbv
 simp[yb,ya];refine jH j zI rfl zI ?_;simp[ya];refine j5 [(3,5),(12,24)] g.ts.length (λi s=>s.tm 12=.int .i64 i/\Grow s.tk 0 s.nx yf 1 (yu Jp g.ts i) (s.tm 3)) rfl rfl ⟨zS,by simp[yu];exact Grow.nil _ _ _ _ _⟩ ?_;rintro i s hi ⟨m,B⟩ f;have x:s.tm 10=yl g.tn jf g.ts:=by rw[f.t 10 zS];simp
 have n:s.tm 11=.int .i64 g.ts.length:=by rw[f.t 11 zS];simp
 have H:s.df=[]:=by rw[f.d];simp
 have F:s.fb=0:=by rw[f.b];simp
 have fr:s.ro=0:=by rw[f.r];simp
 clear f;by_cases e:i<g.ts.length;have q:=jP e zO;have c:=Jm (p:=Jp) e;obtain⟨t,w⟩:∃t,g.ts[i]=t:=⟨_,rfl⟩;rw[w]at c;have I:=Jj Jp g.ts i;cases hi:Jp t;have o:(t.f==1)=false:=hi;rw[hi]at c;simp only[ag,zc,aL]at c;simp[m,x,n,e,j4 j7,jd j7,w,jf,ya,F,fr,j2,o,q];rw[c];exact B.mono (λu _ _ h=>by simpa[jk] using h) zO;have o:(t.f==1)=true:=hi;rw[hi]at c;simp only[zd]at c;simp[m,x,n,e,j4 j7,jd j7,w,jf,ya,F,fr,j2,o];refine jF (cs:=[.int .i64 i]) (by simp[j2]) rfl rfl ?_;simp;refine Xl (f:=yf) (lo:=0) (hi:=s.nx) (l:=yu Jp g.ts i) (a:=(i:Int)) (v:=s.tm 3) (B.mono (λu _ _ h=>by simp[jb,h]) zK) zS (by simp[yp,yf]) j6 zQ rfl zO zO (λK G=>?_);have z:yu Jp g.ts (i+1)≠[]:=by rw[c];simp
 have y:(yu Jp g.ts i).length+1=(yu Jp g.ts (i+1)).length:=by rw[c];simp
 rw[<- c,y];simp[m,q];exact⟨e,.inr ⟨z,_,rfl,by simp[jb],cw _,zO⟩⟩;have:i=g.ts.length:=zO;subst this;obtain⟨t,w⟩:=B.form;simp[m,n];exact slE (t:=t) (nl:=(yu Jp g.ts g.ts.length).isEmpty) (k:=(yu Jp g.ts g.ts.length).length) (cs:=(yu Jp g.ts g.ts.length).flatMap yf) (λr h=>h) (by simp[H]) (by simp[w])
def j6n (t:Txn') (L:t.ops.length<=1000000) (k:Int) {n:Nat}(N:n<=t.ops.length):Ev E 107 [.agg (jf t),.int .i64 n,.int .i64 k] (.tup [.agg (J7 (JH k t.ops n).1),.bool (JH k t.ops n).2]):=by
 refine jS rfl ?_;conv in(occs:=*)F107=>all_goals cbv
 simp[jf,ya,j2];refine j5 [(9,10),(12,45)] n (λi s=>s.tm 10=.int .i64 i/\s.ob 6=some ⟨0,.cells (jf t)⟩/\s.ob 12=some ⟨64,.cells [.int .i64 0,.int .i64 0]⟩/\s.ob 16=some ⟨256,.cells (J7 (JH k t.ops i).1)⟩/\s.tm 9=.bool (JH k t.ops i).2) rfl rfl
  ⟨zS,by simp[jf],zS,by simp[JH,J7],by simp[JH]⟩ ?_
 rintro i s M ⟨j,y,g,h,D⟩ f;have u:s.tm 1=.int .i64 n:=by rw[f.t 1 zS];simp
 have G:s.tm 2=.int .i64 k:=by rw[f.t 2 zS];simp
 have F:s.tm 3=.ptr 6 0 0:=by rw[f.t 3 zS];simp
 have I:s.tm 6=.ptr 12 64 0:=by rw[f.t 6 zS];simp
 have H:s.tm 8=.ptr 16 256 0:=by rw[f.t 8 zS];simp
 have J:s.df=[]:=by rw[f.d];simp
 have fr:s.ro=0:=by rw[f.r];simp
 clear f;by_cases p:i<n;have a:i<t.ops.length:=zO;have z:=jP a zO;have c:=jak (k:=k) a;obtain⟨o,x⟩:∃o,t.ops[i]=o:=⟨_,rfl⟩;rw[x]at c;have B:(t.ops.flatMap yS)[i*4]? = some (.bool o.w):=by have:=jO jD t.ops a (by decide:0<4);rw[bl,x]at this;rw[this];rfl
 have a1:(t.ops.flatMap yS)[i*4+1]? = some (.int .i64 o.key):=by rw[jO jD t.ops a (by decide:1<4),x];rfl
 have a2:∀ob,W8 ob (some 2) (.eptr (t.ops.flatMap yS) (i*4+2))=some (.agg (J7 o.v)):=λob=>by
  have K:i*4+4<=t.ops.length*4:=zO;rw[jd2,Wr,zb (by rw[j1 jD];omega)];have:=XS jD t.ops i a;rw[x]at this;have e:((t.ops.flatMap yS).drop (i*4+2)).take 2=((((t.ops.flatMap yS).drop (i*4)).take 4).drop 2):=by rw[gm,dQ]
  rw[e,this];rfl
 cases b:o.w;have q:wkB k o=false:=by unfold wkB;rw[b];rfl
 rw[q]at c;simp only[ag,zc]at c;simp[j,u,F,y,ya,jf,p,a,j4 jD,B,b,z,g,h,D];exact⟨by rw[c],by rw[c]⟩;cases m:(o.key==k);have q:wkB k o=false:=by unfold wkB;rw[b,m];rfl
 rw[q]at c;simp only[ag,zc]at c;simp[j,u,G,F,y,ya,jf,p,a,j4 jD,B,a1,b,m,z,g,h,D];exact⟨by rw[c],by rw[c]⟩;have q:wkB k o=true:=by unfold wkB;rw[b,m];rfl
 rw[q]at c;simp only[zd]at c;simp[j,u,G,F,H,y,ya,jf,p,a,j4 jD,B,a1,a2,b,m,z,g,h,J7,fr,j2];rw[c];simp;have:i=n:=zO;subst this;simp[j,u,H,h,ya,D,I,g,J7,fr,j2];exact JP (by simp[J]) (l:=[.agg (J7 (JH k t.ops i).1),.bool (JH k t.ops i).2]) (by simp[ju,ya,I,J7]) rfl rfl
def ev161 {g:Hist'}(p:Small g) (a b:Int):Ev E 161 [.agg (yb g),.agg (jC (a,b))] (.bool (opAt g a b).isSome):=by
 have m:=ev48 p;have s:=p.ts;refine jS rfl ?_;obtain⟨R,c⟩:∃R,opAt g a b=R:=⟨_,rfl⟩;rw[c];unfold opAt at c;conv in(occs:=*)F161=>all_goals cbv
 simp[yb,ya,jC];refine X4 m zI rfl zI ?_;cases k:Yr g;rw[Qr k];rw[k]at c;subst c;simp;exact j3 zS zS rfl;rw[k]at c;rw[W6 k];by_cases r:a<0;have d:¬0<=a:=zO;rw[za zP]at c;subst c;simp[d,ya];exact j3 zS zS rfl;have d:0<=a:=zO;by_cases w:(g.ts.length:Int)<=a;have f:¬(a<(g.ts.length:Int)):=zO;rw[za zP]at c;subst c;simp[d,f,ya];exact j3 zS zS rfl;have f:a<(g.ts.length:Int):=zO;by_cases v:b<0;have l:¬0<=b:=zO;rw[za zP]at c;subst c;simp[d,f,l,ya];exact j3 zS zS rfl;have l:0<=b:=zO;obtain⟨i,rfl⟩:∃i:Nat,a=i:=⟨a.toNat,zO⟩;have h:i<g.ts.length:=zO;rw[ba,XB h]at c;obtain⟨t,o⟩:∃t,g.ts[i]=t:=⟨_,rfl⟩;rw[o]at c;have e:(g.ts.flatMap jf)[i*3+2]? = some (yl t.nl yS t.ops):=by rw[jO j7 g.ts h (by decide:2<3),o];rfl
 by_cases q:(t.ops.length:Int)<=b;have n:¬(b<(t.ops.length:Int)):=zO;rw[za zP]at c;subst c;simp[d,f,l,n,ya,h,j4 j7,e];exact j3 zS zS rfl;have n:b<(t.ops.length:Int):=zO;obtain⟨j,rfl⟩:∃j:Nat,b=j:=⟨b.toNat,zO⟩;have u:j<t.ops.length:=zO;rw[zb zP,ba,aa u]at c;subst c;simp[d,f,l,n,ya,h,j4 j7,e];exact j3 zS zS rfl
def jud (g:Hist') (a b:Int):Val'×Bool:=match opAt g a b with
 |some o=>JH o.key (g.ts.getD a.toNat ⟨0,0,true,[]⟩).ops b.toNat
 |none=>(⟨0,0⟩,false)
def jcn (g:Hist') (a b:Int):Bool:=match opAt g a b with
 |some o=>!o.w && !(jud g a b).2
 |none=>false
def ev162 {g:Hist'}(m:Small g) (a b:Int):Ev E 162 [.agg (yb g),.agg (jC (a,b))] (.tup [.agg (J7 (jud g a b).1),.bool (jud g a b).2]):=by
 have c:=ev161 m a b;refine jS rfl ?_;unfold jud;cases d:opAt g a b with
 |none=>
  rw[d]at c;conv in(occs:=*)F162=>all_goals cbv
  simp[yb,jC,ya];refine jH c (by simp[yb,jC]) rfl (by simp[yb,jC]) ?_;simp[ya,j2];exact JP zS (l:=[.agg (J7 ⟨0,0⟩),.bool false]) (by simp[ju,ya,J7]) rfl rfl
 |some o=>
  rw[d]at c;obtain⟨i,j,rfl,rfl,e,p,q⟩:=jcp d;have r:=m.os _ (au e);have h:=j6n g.ts[i] zO o.key (n:=j) zO;simp only[ba];rw[XB e];have f:(g.ts.flatMap jf)[i*3+2]? = some (yl (g.ts[i]).nl yS (g.ts[i]).ops):=by rw[jO j7 g.ts e (by decide:2<3)];rfl
  have k:((g.ts[i]).ops.flatMap yS)[j*4+1]? = some (.int .i64 o.key):=by rw[jO jD (g.ts[i]).ops p (by decide:1<4),q];rfl
  conv in(occs:=*)F162=>all_goals cbv
  simp[yb,jC,ya];refine jH c (by simp[yb,jC]) rfl (by simp[yb,jC]) ?_;simp[ya,e,p,j4 j7,j4 jD,jd j7,f,k];refine X4 h (by simp[jf]) rfl (by simp[jf]) ?_;rw[Jb (by simp[V.plain,J7])];generalize (JH o.key g.ts[i].ops j).1=rv at *;generalize (JH o.key g.ts[i].ops j).2=rb at *;simp[J7,ya,j2];exact JP zS (l:=[.agg [.int .i64 rv.kind,.int .i64 rv.n],.bool rb]) (by simp[ju,ya]) rfl rfl
def ev106 {g:Hist'}(n:Small g) (a b:Int):Ev E 106 [.agg (yb g),.agg (jC (a,b))] (.bool (jcn g a b)):=by
 have c:=ev161 n a b;have f:=ev162 n a b;refine jS rfl ?_;unfold jcn;cases d:opAt g a b with
 |none=>
  rw[d]at c;conv in(occs:=*)F106=>all_goals cbv
  simp[yb,jC,ya];refine X4 c (by simp[yb,jC]) rfl (by simp[yb,jC]) ?_;simp;exact j3 zS zS rfl
 |some o=>
  rw[d]at c;obtain⟨i,j,rfl,rfl,k,l,p⟩:=jcp d;have e:(g.ts.flatMap jf)[i*3+2]? = some (yl (g.ts[i]).nl yS (g.ts[i]).ops):=by rw[jO j7 g.ts k (by decide:2<3)];rfl
  have h:((g.ts[i]).ops.flatMap yS)[j*4]? = some (.bool o.w):=by have:=jO jD (g.ts[i]).ops l (by decide:0<4);rw[bl,p]at this;rw[this];rfl
  conv in(occs:=*)F106=>all_goals cbv
  simp[yb,jC,ya];refine X4 c (by simp[yb,jC]) rfl (by simp[yb,jC]) ?_;generalize jud g (i:Int) (j:Int)=ow at *;cases m:o.w;simp[ya,k,l,j4 j7,j4 jD,e,h,m];refine jH f (by simp[yb,jC]) rfl (by simp[yb,jC]) ?_;rw[Jb (by simp[V.plain,J7])];simp[J7,ya,j2];exact j3 zS zS rfl;simp[ya,k,l,j4 j7,j4 jD,e,h,m];exact j3 zS zS rfl
def ev112 {g:Hist'}(G:Small g) (a b:Int):Ev E 112 [.agg (yb g),.agg (jC (a,b))] (.bool (jcn g a b)):=by
 have e:=ev110 G a;refine jS rfl ?_;unfold jcn;cases c:opAt g a b with
 |none=>
  conv in(occs:=*)F112=>all_goals cbv
  simp[yb,jC,ya];refine jH e zI rfl zI ?_;rw[JY rfl,jG];have p:b<0\/((Jr g a).2.length:Int)<=b:=by unfold opAt at c;unfold Jr;by_cases d:(Yr g&&(decide (0<=a)&&decide (a<g.ts.length)))=true;rw[zb d];simp only[aj,ze]at d;by_cases l:b<0;exact .inl l;by_cases F:b<((g.ts.getD a.toNat ⟨0,0,true,[]⟩).ops.length:Int);rw[zb (by simp only[aj,ze];exact⟨d.1,d.2.1,d.2.2,zO,F⟩)]at c;rw[List.getElem?_eq_none_iff]at c;exact zf c zO;exact .inr (Int.not_lt.1 F);rw[za d];by_cases l:b<0;exact .inl l;exact .inr zP
  generalize Jr g a=oo at *;by_cases d:b<0;simp[ya,d];exact j3 zS zS rfl;have l:(oo.2.length:Int)<=b:=by rcases p with h|h;exact zf h d;exact h
  simp[ya,d,l];exact j3 zS zS rfl
 |some o=>
  have s:Yr g=true:=by unfold opAt at c;cases J:Yr g;rw[J]at c;cases c;rfl
  unfold jud;rw[c];obtain⟨i,j,rfl,rfl,y,q,D⟩:=jcp c;simp only[ba];rw[XB y];have v:Jr g (i:Int)=((g.ts[i]).nl,(g.ts[i]).ops):=by unfold Jr;rw[s,zb zP];simp only[ba];rw[XB y]
  rw[v]at e;have K:=G.os _ (au y);have r:((g.ts[i]).ops.flatMap yS)[j*4]? = some (.bool o.w):=by have:=jO jD (g.ts[i]).ops q (by decide:0<4);rw[bl,D]at this;rw[this];rfl
  have x:((g.ts[i]).ops.flatMap yS)[j*4+1]? = some (.int .i64 o.key):=by rw[jO jD (g.ts[i]).ops q (by decide:1<4),D];rfl
  have I:decide ((j:Int)<0)=false:=zS;have M:decide (((g.ts[i]).ops.length:Int)<=j)=false:=by simp;omega
  have L:((g.ts[i]).ops.length<=j)=False:=by simp;omega
  have H:(((g.ts[i]).ops.length:Int)<=j)=False:=by simp;omega
  have f:j<=(g.ts[i]).ops.length:=zO;have z:Yz 4 none (some (.int .i64 (j:Int))) (yl (g.ts[i]).nl yS (g.ts[i]).ops)=some (yl (g.ts[i]).nl yS ((g.ts[i]).ops.take j)):=by
   have d:=joo (kk:=.i64) (t:=none) (nl:=(g.ts[i]).nl) (sz:=4) (cs:=(g.ts[i]).ops.flatMap yS) (n:=(g.ts[i]).ops.length) (k:=j) f (j1 jD _);refine Eq.trans d ?_;have l:((g.ts[i]).ops.flatMap yS).take (j*4)=((g.ts[i]).ops.take j).flatMap yS:=by
    conv=>lhs;rw[<- dR j (g.ts[i]).ops,bK]
    rw[ek];rw[j1 jD,ai,cE f]
   rw[l,yl,ai,cE f]
  have u:=ev111 (g.ts[i]).nl ((g.ts[i]).ops.take j) (by rw[ai];omega) o.key;have m:(Ys ((g.ts[i]).ops.take j) o.key).2=(JH o.key (g.ts[i]).ops j).2:=by unfold Ys;rw[Qk _ _ _ zK,Qk _ _ _ f,bg]
  conv in(occs:=*)F112=>all_goals cbv
  simp[yb,jC,ya];refine jH e zI rfl zI ?_;rw[JY rfl,jG];cases B:o.w
  ·simp[ya,I,H,q,j4 jD,r,B];simp[z,x,q,j4 jD,ya];refine X4 u zS rfl zS ?_;rw[Jb (by simp[V.plain,J7])];rw[<- m];generalize Ys ((g.ts[i]).ops.take j) o.key=lw at *;simp[J7,ya,j2];refine⟨by simp[JQ,YW,Wk,QP,yz,yB,yR,Delta.wo,Delta.wt];try decide,?_⟩;exact j3 zS zS rfl
  simp[ya,I,H,q,j4 jD,r,B];exact j3 zS zS rfl
def JA (g:Hist') (i:Nat):Nat->List (Int×Int)
 |0=>[]
 |k+1=>JA g i k++(if jcn g i k then [((i:Int),(k:Int))] else [])
def XG (g:Hist'):Nat->List (Int×Int)
 |0=>[]
 |i+1=>XG g i++(match g.ts[i]? with|some t=>if Jp t then JA g i t.ops.length else []|none=>[])
def yi (g:Hist'):List (Int×Int):=XG g g.ts.length
def Yv (g:Hist') (i:Nat):∀k,(JA g i k).length<=k
 |0=>dH _
 |k+1=>by have:=Yv g i k;simp only[JA,ap];split<;>simp<;>omega
def jaj {g:Hist'}(a:Small g):∀i,(XG g i).length<=i*1000
 |0=>cw _
 |i+1=>by have:=jaj a i;simp only[XG,ap];rw[show(i+1)*1000=i*1000+1000 by omega];split;rename_i t b;have c:=Yv g i t.ops.length;have d:=a.os t (aJ b);split;omega;simp only[cD];omega;simp only[cD];omega
def jf7 {g:Hist'}{i:Nat}(h:i<g.ts.length):XG g (i+1)=XG g i++(if Jp g.ts[i] then JA g i (g.ts[i]).ops.length else []):=by simp only[XG,aa h]
def ev64 {g:Hist'}(D:Small g):∃v,Ev E 64 [.agg (yb g)] v/\SlR v false (yi g).length ((yi g).flatMap jC):=by
 have a0:=D.ts;refine JW rfl zQ ?_;conv in(occs:=*)F64=>all_goals cbv
 simp[yb];refine jF (cs:=[]) rfl rfl rfl ?_;simp;refine j5 [(3,6),(8,44)] g.ts.length (λi s=>s.tm 4=.int .i64 i/\s.ob 2=some ⟨0,.cells (yb g)⟩/\GrowT s.tk s.nx jC 2 (XG g i) (s.tm 3)) rfl rfl ⟨zS,zI,by rw[XG];exact⟨128,zS,by simp[jb],zS⟩⟩ ?_;rintro i s hi ⟨I,J,U⟩ f;have H:s.tm 1=.ptr 2 0 0:=by rw[f.t 1 zS];simp
 have N:s.df=[]:=by rw[f.d];simp
 have Z:s.fb=0:=by rw[f.b];simp
 have fr:s.ro=0:=by rw[f.r];simp
 clear f;by_cases c:i<g.ts.length;have X:=jP c zO;simp[I,H,J,ya,yb,c];refine j5 [(3,3),(5,6),(15,44)] (g.ts[i]).ops.length (λk m=>m.tm 5=.int .i64 k/\m.ob 2=some ⟨0,.cells (yb g)⟩/\GrowT m.tk m.nx jC 2 (XG g i++(if Jp g.ts[i] then JA g i k else [])) (m.tm 3)) rfl rfl ⟨zS,by simp[J],by simp[JA];exact U.mono (λ_ _ h=>h) zO⟩ ?_;rintro k m hk ⟨y,n,j⟩ f;have K:m.tm 1=.ptr 2 0 0:=by rw[f.t 1 zS];simp[H]
 have M:m.tm 4=.int .i64 i:=by rw[f.t 4 zS];simp[I]
 have ed:m.df=[]:=by rw[f.d];simp[N]
 have Q:m.fb=0:=by rw[f.b];simp[Z]
 have O:m.ro=0:=by rw[f.r];simp[fr]
 clear f;have G:=ev106 D (i:Int) (k:Int);have b5:=D.os _ (au c);have B:(g.ts.flatMap jf)[i*3+1]? = some (.int .i64 (g.ts[i]).f):=by rw[jO j7 g.ts c (by decide:1<3)];rfl
 have w:(g.ts.flatMap jf)[i*3+2]? = some (yl (g.ts[i]).nl yS (g.ts[i]).ops):=by rw[jO j7 g.ts c (by decide:2<3)];rfl
 by_cases o:k<(g.ts[i]).ops.length;have p:=jP o zO;have x:(XG g i++(if Jp g.ts[i] then JA g i k else [])).length<=1001000:=by have h1:=jaj D i;have h2:=Yv g i k;have:i*1000<=1000*1000:=bh _ zO;rw[ap];split;omega;simp only[cD];omega
 cases F:Jp g.ts[i];have q:((g.ts[i]).f==1)=false:=F;rw[F]at j;simp[y,K,M,n,ya,yb,c,j4 j7,w,B,o,j2,Q,O,q,p];simpa using j.mono (λu _ h=>by simpa[jk] using h) zO;have q:((g.ts[i]).f==1)=true:=F;rw[F]at j x;simp only[zd]at j x;simp[y,K,M,n,ya,yb,c,j4 j7,w,B,o,j2,Q,O,q];refine jH G (by simp[yb,jC]) rfl (by simp[yb,jC]) ?_;cases T:jcn g i k;simp[y,p,n,yb];have e:JA g i (k+1)=JA g i k:=by rw[JA,T];simp
 rw[e];exact⟨o,j.mono (λu _ h=>by simpa[jk] using h) zO⟩;simp[ya];have e:XG g i++JA g i (k+1)=(XG g i++JA g i k)++[((i:Int),(k:Int))]:=by rw[JA,T,aY];simp
 refine jF (cs:=jC (i,k)) (by simp[j2,jC]) rfl rfl ?_;simp;refine Y9 (f:=jC) (hi:=m.nx) (l:=XG g i++JA g i k) (a:=((i:Int),(k:Int))) (v:=m.tm 3) (j.mono (λu _ h=>by simp[jb,h]) zK) zS (by simp[yp,jC]) jR zQ rfl zO zO (λb0 P=>?_);have z:(XG g i++JA g i k).length+1=(XG g i++JA g i (k+1)).length:=by rw[e,ap (bs:=[_])];rfl
 rw[<- e,z];obtain⟨L,S⟩:∃L,XG g i++JA g i (k+1)=L:=⟨_,rfl⟩;rw[S];simp[y,p,n,yb,S];exact⟨o,_,rfl,by simp[jb],zO⟩;have:k=(g.ts[i]).ops.length:=zO;subst this;simp[y,K,M,n,ya,yb,c,j4 j7,w,X];rw[jf7 c];exact j.mono (λ_ _ h=>h) zO;have:i=g.ts.length:=zO;subst this;obtain⟨u,hv,_,_⟩:=U;simp[I,H,J,ya,yb];exact slE (t:=some (u,2)) (nl:=false) (k:=(yi g).length) (cs:=(yi g).flatMap jC) (λr h=>h) (by simp[N]) (by simp[hv,yi])
def rdOf (g:Hist') (x:Int):List (Int×Int):=JA g x.toNat (g.ts.getD x.toNat ⟨0,0,true,[]⟩).ops.length
def jov {g:Hist'}{i:Nat}(h:i<g.ts.length):rdOf g i=JA g i (g.ts[i]).ops.length:=by unfold rdOf;rw[ba,XB h]
def jf9 {g:Hist'}:∀n,n<=g.ts.length->(yu Jp g.ts n).flatMap (rdOf g)=XG g n
 |0,_=>rfl
 |n+1,h=>by rw[Jm zO,jf7 zO,bK,jf9 n zO];cases Jp g.ts[n];rfl;simp[jov (show n<g.ts.length by omega)]
def jbo (g:Hist'):List (Int×Int):=if jX g then yi g else []
def jt7 (g:Hist'):(comH g).flatMap (rdOf g)=jbo g:=by unfold comH jbo;split;exact jf9 _ zK;rfl
def comH_lt {g:Hist'}:∀x∈comH g,0<=x/\x<g.ts.length:=by unfold comH;split;exact(Qp (p:=Jp) (ts:=g.ts) _ zK).1;simp
def j5c (g:Hist'):(comH g).length<=g.ts.length:=by unfold comH;split;exact Jj _ _ _;simp
def jfq {g:Hist'}(a:Small g):∀(l:List Int),(∀x∈l,0<=x/\x<g.ts.length)->(l.flatMap (rdOf g)).length<=l.length*1000
 |[],_=>cw _
 |x::l,h=>by obtain⟨f,d⟩:=h x (aO ..);obtain⟨i,rfl⟩:∃i:Nat,x=i:=⟨x.toNat,zO⟩;have b:i<g.ts.length:=zO;have:=jfq a l λy c=>h y (aX _ c);have j:=Yv g i (g.ts[i]).ops.length;have e:=a.os _ (au b);rw[bk,ap,jov b,bj,dh];omega
def ev72 {g:Hist'}(J:Small g):∃v,Ev E 72 [.agg (yb g)] v/\SlR v (jbo g).isEmpty (jbo g).length ((jbo g).flatMap jC):=by
 have c0:=J.ts;obtain⟨vc,T,U⟩:=ev70 J;have c1:=j5c g;have q:=comH_lt (g:=g);rw[<- jt7];generalize comH g=C at *;obtain⟨L,hL⟩:∃L,C.flatMap (rdOf g)=L:=⟨_,rfl⟩;rw[hL];refine JW rfl zQ ?_;conv in(occs:=*)F72=>all_goals cbv
 simp[yb,ya];refine jH T zI rfl zI ?_;refine Jv U λtc b5=>?_;simp;refine j5 [(3,7),(11,36)] C.length (λi s=>s.tm 11=.int .i64 i/\s.ob 2=some ⟨0,.cells (yb g)⟩/\Grow s.tk 0 s.nx jC 2 ((C.take i).flatMap (rdOf g)) (s.tm 3)) rfl rfl ⟨zS,zI,by simp;exact Grow.nil _ _ _ _ _⟩ ?_;rintro i s hi ⟨z,o2,O⟩ f;have f1:s.tm 1=.ptr 2 0 0:=by rw[f.t 1 zS];simp
 have f9:s.tm 9=.sl tc C.isEmpty C.length (C.flatMap yf):=by rw[f.t 9 zS];simp
 have N:s.tm 10=.int .i64 C.length:=by rw[f.t 10 zS];simp
 have fd:s.df=[]:=by rw[f.d];simp
 have fb:s.fb=0:=by rw[f.b];simp
 have fr:s.ro=0:=by rw[f.r];simp
 clear f;by_cases m:i<C.length;have hw:=jP m zO;obtain⟨x,G⟩:∃x,C[i]=x:=⟨_,rfl⟩;obtain⟨x1,x2⟩:=q x (G▸au m);obtain⟨j,rfl⟩:∃j:Nat,x=j:=⟨x.toNat,zO⟩;have Q:j<g.ts.length:=zO;have I:=jj C m;rw[G]at I;have S:(g.ts.flatMap jf)[j*3+2]? = some (yl (g.ts[j]).nl yS (g.ts[j]).ops):=by rw[jO j7 g.ts Q (by decide:2<3)];rfl
 have B:jt 1 (.sl tc C.isEmpty C.length (C.flatMap yf)) (.int .i64 (i:Int))=some (.eptr (C.flatMap yf) (i*1)):=by simp only[J1,j1 j6];rw[zb zP];rfl
 rw[bz]at B;simp[z,f1,f9,N,o2,ya,yb,m,B,I,Q,j4 j7,S];obtain⟨P,X⟩:∃P,(C.take i).flatMap (rdOf g)=P:=⟨_,rfl⟩;have b6:P.length<=1000000:=by have h1:=jfq J (C.take i) (λx G=>q x (dI G));rw[X,ai]at h1;have:min i C.length*1000<=1000*1000:=bh _ zO;omega
 have w:(C.take (i+1)).flatMap (rdOf g)=P++JA g j (g.ts[j]).ops.length:=by rw[av m,bK,X,G];simp[jov Q]
 rw[X]at O;refine j5 [(3,3),(6,7),(22,35)] (g.ts[j]).ops.length (λk e=>e.tm 22=.int .i64 k/\e.ob 2=some ⟨0,.cells (yb g)⟩/\Grow e.tk 0 e.nx jC 2 (P++JA g j k) (e.tm 3)) rfl rfl ⟨zS,by simp[o2],by simp[JA];exact O.mono (λ_ _ _ h=>h) zO⟩ ?_;rintro k e hk ⟨p,o,y⟩ f;have e1:e.tm 1=.ptr 2 0 0:=by rw[f.t 1 zS];simp[f1]
 have e5:e.tm 5=.int .i64 j:=by rw[f.t 5 zS];simp
 have Z:e.tm 11=.int .i64 i:=by rw[f.t 11 zS];simp[z]
 have K:e.tm 21=.int .i64 (g.ts[j]).ops.length:=by rw[f.t 21 zS];simp
 have ed:e.df=[]:=by rw[f.d];simp[fd]
 have eb:e.fb=0:=by rw[f.b];simp[fb]
 have er:e.ro=0:=by rw[f.r];simp[fr]
 clear f;have a0:=ev112 J (j:Int) (k:Int);have b9:=J.os _ (au Q);have b8:=Yv g j k;by_cases n:k<(g.ts[j]).ops.length;have H:=jP n zO;simp[p,e1,e5,K,o,ya,yb,n,j2,eb,er];refine jH a0 (by simp[yb,jC]) rfl (by simp[yb,jC]) ?_;cases ho:jcn g j k;have c:JA g j (k+1)=JA g j k:=by rw[JA,ho];simp
 simp[p,H,o,yb];rw[c];exact⟨n,y.mono (λu _ _ h=>by simpa[jk] using h) zO⟩;have c:P++JA g j (k+1)=(P++JA g j k)++[((j:Int),(k:Int))]:=by rw[JA,ho,aY];simp
 simp[ya];refine jF (cs:=jC (j,k)) (by simp[j2,jC]) rfl rfl ?_;simp;refine Xl (f:=jC) (lo:=0) (hi:=e.nx) (l:=P++JA g j k) (a:=((j:Int),(k:Int))) (v:=e.tm 3) (y.mono (λu _ _ h=>by simp[jb,h]) zK) zS (by simp[yp,jC]) jR zQ rfl (by rw[ap];omega) (by rw[ap];omega) (λb7 b0=>?_);have F:(P++JA g j k).length+1=(P++JA g j (k+1)).length:=by rw[c,ap (bs:=[_])];rfl
 have D:P++JA g j (k+1)≠[]:=by rw[c];simp
 rw[<- c,F];obtain⟨M,hM⟩:∃M,P++JA g j (k+1)=M:=⟨_,rfl⟩;rw[hM]at D ⊢;simp[p,H,o,yb,hM];exact⟨n,.inr ⟨D,_,rfl,by simp[jb],cw _,zO⟩⟩;have:k=(g.ts[j]).ops.length:=zO;subst this;simp[p,Z,K,o,yb,hw];rw[w];exact⟨m,y.mono (λ_ _ _ h=>h) zO⟩;have:i=C.length:=zO;subst this;rw[bg,hL]at O;obtain⟨t,ht⟩:=O.form;simp[z,N];exact slE (t:=t) (nl:=L.isEmpty) (k:=L.length) (cs:=L.flatMap jC) (λr h=>h) (by simp[fd]) (by simp[ht])
section
variable {E:Env}{st:St}{ub:Nat}{K:List FP->St->Prop}{d:Option Nat}{nm:Bool}{r:List AOpr}
def ju4 {i:Type}{f:i->List V}{sz b hi:Nat}{l:List i}{a:i}{v:V}{s x:A}(p:GrowT st.tk hi f sz l v) (o:ye E st.tm s=v) (q:yp st.ob sz (ye E st.tm x)=some (f a)) (c:∀a,(f a).length=sz) (m:0<sz)
 (hp:(f a).all V.pureLeaf=true) (n:(l.length+1)*b<=140737488355328) (j:l.length+1<=140737488355328)
 (h:∀del:Option Nat,(∀u,del=some u->u<hi)->YU E r K (ye E st.tm) (.append false sz b s x) st d ub { v:=.sl (some (ub,sz)) false (l.length+1) ((l++[a]).flatMap f),del:=del,add:=[ub] }):jE E (⟨d,.append false sz b s x,none,nm⟩::r) st ub K:=by
 have g:f a≠[]:=λe=>by have:=c a;rw[e]at this;simp at this;omega
 have k:(f a).length/sz=1:=by rw[c];exact gE m
 rw[jv rfl];obtain⟨u,rfl,t,w⟩:=p;simp only[yU,o,q,ah,za g,bH,ag,zc];rw[zb ⟨by rw[j1 c],m,hp,by rw[k];exact n,by rw[k];exact j⟩,zb (by simp[t]),jG,k];have:=h (some u) (λy e=>by cases e;exact w);simpa using this
end
def Yd (x:Bool×List Int):List V:=[.sl none x.1 x.2.length (x.2.flatMap yf)]
@[simp] theorem Xw (x:Bool×List Int):(Yd x).length=1:=rfl
def badO (ops:List Op') (k:Nat) (o:Op'):Bool:=!o.w&&((o.v.kind != 2)&&((JH o.key ops k).2 && !(((JH o.key ops k).1.kind==o.v.kind)&&((JH o.key ops k).1.n==o.v.n))))
def YG (ops:List Op'):Nat->List Int
 |0=>[]
 |k+1=>YG ops k++(match ops[k]? with|some o=>if badO ops k o then [(k:Int)] else []|none=>[])
def jjo {ops:List Op'}{k:Nat}(h:k<ops.length):YG ops (k+1)=YG ops k++if badO ops k ops[k] then [(k:Int)] else []:=by simp[YG,aa h]
def jhi (ops:List Op'):∀k,(YG ops k).length<=k
 |0=>by simp[YG]
 |k+1=>by have:=jhi ops k;simp only[YG,ap];split;split<;>simp<;>omega;simp;omega
def badH (g:Hist') (i:Int):List Int:=YG (Jr g i).2 (Jr g i).2.length
def jig (key:Int) (ops:List Op') (k:Nat):∀j,j<=k->JH key (ops.take k) j=JH key ops j
 |0,_=>rfl
 |j+1,h=>by simp only[JH,jig key ops k j zO,bn (show j<k by omega)]
def juv (key:Int) (ops:List Op') {k:Nat}(h:k<=ops.length):Ys (ops.take k) key=JH key ops k:=by unfold Ys;rw[ai,cE h,jig key ops k k zK]
def jwn {nl:Bool}{ops:List Op'}{k:Nat}(h:k<=ops.length):Yz 4 none (some (.int .i64 (k:Int))) (yl nl yS ops)=some (yl nl yS (ops.take k)):=by
 have a:=joo (kk:=.i64) (t:=none) (nl:=nl) (sz:=4) (cs:=ops.flatMap yS) (n:=ops.length) (k:=k) h (j1 jD _);refine Eq.trans a ?_;have b:(ops.flatMap yS).take (k*4)=(ops.take k).flatMap yS:=by
  conv=>lhs;rw[<- dR k ops,bK]
  rw[ek];rw[j1 jD,ai,cE h]
 rw[b,yl,ai,cE h]
def ev71 {g:Hist'}(U:Small g) (i:Int):∃v,Ev E 71 [.agg (yb g),.int .i64 i] v/\SlR v (badH g i).isEmpty (badH g i).length ((badH g i).flatMap yf):=by
 have B:=ev110 U i;have N:=jmg U i;unfold badH;refine JW rfl zQ ?_;generalize Jr g i=oo at *;obtain⟨nl,ops⟩:=oo;simp only at B N ⊢;conv in(occs:=*)F71=>all_goals cbv
 simp[yb,ya];refine jH B zI rfl zI ?_;rw[JY rfl,jG];simp;refine j5 [(5,5),(7,10),(16,49)] ops.length (λk s=>s.tm 16=.int .i64 k/\Grow s.tk 0 s.nx yf 1 (YG ops k) (s.tm 5)) rfl rfl ⟨zS,by simp[YG];exact Grow.nil _ _ _ _ _⟩ ?_;rintro k s hk ⟨m,G⟩ f;have f6:s.tm 6=yl nl yS ops:=by rw[f.t 6 zS];simp
 have F:s.tm 14=yl nl yS ops:=by rw[f.t 14 zS];simp
 have z:s.tm 15=.int .i64 ops.length:=by rw[f.t 15 zS];simp
 have X:s.df=[]:=by rw[f.d];simp
 have L:s.fb=0:=by rw[f.b];simp
 have fr:s.ro=0:=by rw[f.r];simp
 clear f;by_cases e:k<ops.length
 ·have p:=jP e zO;have c:=jjo e;have Z:=jhi ops k;obtain⟨o,T⟩:∃o,ops[k]=o:=⟨_,rfl⟩;have j:W8 s.ob (some 4) (.eptr (ops.flatMap yS) (k*4))=some (.agg (yS o)):=by rw[jd jD s.ob ops e,T]
  have O:=jwn (nl:=nl) (ops:=ops) (k:=k) zO;have D:=ev111 nl (ops.take k) (by rw[ai];omega) o.key;rw[juv _ _ zO]at D;rw[T]at c;unfold badO at c;cases J:o.w
  ·rw[J]at c;cases x:(o.v.kind==2)
   ·have q:(o.v.kind != 2)=true:=by simp only[bne,x,cp]
    rw[q]at c;simp only[cp,bM]at c;simp[m,f6,F,z,e,j4 jD,j,ya,yS,j2,L,fr,J,x,O];refine X4 D zS rfl zS ?_;rw[Jb (by simp[V.plain,J7])];generalize JH o.key ops k=K at *;obtain⟨K,rb⟩:=K;simp only at c;simp[J7,ya,j2,L,fr];refine⟨by simp[JQ,YW,Wk,QP,yz,yB,yR,Delta.wo,Delta.wt];try decide,?_⟩;cases rb;simp[m,p];simp only[bH,ag,zc,aL]at c;rw[c];exact⟨e,G.mono (λu _ P h=>by simpa[jk] using h) zO⟩;cases y:((K.kind==o.v.kind)&&(K.n==o.v.n));rw[y]at c;simp only[bM,cp,zd]at c;simp[ya,y];refine jF (cs:=yf k) (by simp[j2,yf]) rfl rfl ?_;simp;refine Xl (f:=yf) (lo:=0) (hi:=s.nx) (l:=YG ops k) (a:=(k:Int)) (v:=s.tm 5) (G.mono (λu _ _ h=>by simp[jb,h]) zK) zS (by simp[yp,yf]) j6 zQ rfl zO zO (λa0 S=>?_);have I:(YG ops k).length+1=(YG ops (k+1)).length:=by rw[c];simp
    have H:YG ops (k+1)≠[]:=by rw[c];simp
    rw[<- c,I];obtain⟨M,Q⟩:∃M,YG ops (k+1)=M:=⟨_,rfl⟩;rw[Q]at H ⊢;simp[m,p,Q];exact⟨e,.inr ⟨H,_,rfl,by simp[jb],cw _,zO⟩⟩;rw[y]at c;simp only[bM,bV,ag,zc,aL]at c;simp[ya,y,m,p];rw[c];exact⟨e,G.mono (λu _ P h=>by simpa[jk] using h) zO⟩
   have q:(o.v.kind != 2)=false:=by simp only[bne,x,bV]
   rw[q]at c;simp only[bH,dw,ag,zc,aL]at c;simp[m,F,z,e,j4 jD,j,ya,yS,j2,L,fr,J,x,p];rw[c];exact G.mono (λu _ P h=>by simpa[jk] using h) zO
  rw[J]at c;simp only[bV,bH,ag,zc,aL]at c;simp[m,F,z,e,j4 jD,j,ya,yS,j2,L,fr,J,p];rw[c];exact G.mono (λu _ P h=>by simpa[jk] using h) zO
 have:k=ops.length:=zO;subst this;obtain⟨t,ht⟩:=G.form;simp[m,z];exact slE (t:=t) (nl:=(YG ops ops.length).isEmpty) (k:=(YG ops ops.length).length) (cs:=(YG ops ops.length).flatMap yf) (λr h=>h) (by simp[X]) (by simp[ht])
def ev65 {g:Hist'}(hs:Small g) (a:Int):∃v,Ev E 65 [.agg (yb g),.int .i64 a] v/\SlR v false (badH g a).length ((badH g a).flatMap yf):=by
 have b5:=ev48 hs;have b9:=hs.ts;refine JW rfl zQ ?_;obtain⟨B,q⟩:∃B,badH g a=B:=⟨_,rfl⟩;rw[q];unfold badH Jr at q;have x:∀{X:St},X.df=[]->B=[]->(∃t,X.tm 4=.sl t false 0 [])->WO [.t 4] (λv=>SlR v false B.length (B.flatMap yf)) .ret X:=by rintro X hd rfl ⟨t,U⟩;exact slE (t:=t) (nl:=false) (k:=0) (cs:=[]) (λr h=>h) hd U
 conv in(occs:=*)F65=>all_goals cbv
 simp[yb];refine jF (cs:=[]) rfl rfl rfl ?_;simp[ya];refine jH b5 zI rfl zI ?_;cases Z:Yr g;rw[Qr Z];rw[Z]at q;simp;exact x zS (by simpa[YG] using q.symm) ⟨some (128,1),zS⟩;rw[Z]at q;rw[W6 Z];by_cases k1:a<0;rw[za zP]at q;simp[k1];exact x zS (by simpa[YG] using q.symm) ⟨some (128,1),zS⟩;by_cases k2:(g.ts.length:Int)<=a;rw[za zP]at q;simp[k1,k2,ya];exact x zS (by simpa[YG] using q.symm) ⟨some (128,1),zS⟩;obtain⟨i,rfl⟩:∃i:Nat,a=i:=⟨a.toNat,zO⟩;have hi:i<g.ts.length:=zO;rw[zb zP]at q;simp only[ba]at q;rw[XB hi]at q;have T:=hs.os _ (au hi);have z:=jd j7 (λ_=>none) g.ts hi;obtain⟨t,U⟩:∃t,g.ts[i]=t:=⟨_,rfl⟩;have z:∀ob,W8 ob (some 3) (.eptr (g.ts.flatMap jf) (i*3))=some (.agg (jf t)):=λob=>by rw[jd j7 ob g.ts hi,U]
 rw[U]at q T;clear x;obtain⟨s0,f0,nl,e⟩:=t;simp only at q T;have b0:¬((i:Int)<0):=zO;have a0:¬((g.ts.length:Int)<=i):=zO;have b7:¬(g.ts.length<=i):=zO;simp[b0,a0,ya,hi,j4 j7,z,jf,j2];refine j5 [(5,5),(7,9),(31,83)] e.length (λk s=>s.tm 7=.int .i64 k/\s.ob 12=some ⟨1472,.cells (jf ⟨s0,f0,nl,e⟩)⟩/\GrowT s.tk s.nx yf 1 (YG e k) (s.tm 5)) rfl rfl ⟨zS,by simp[jf],by simp[YG];exact⟨128,zS,by simp[jb],zS⟩⟩ ?_;rintro k s hk ⟨G,p,L⟩ f;have I:s.tm 6=.ptr 12 1472 0:=by rw[f.t 6 zS];simp
 have fd:s.df=[]:=by rw[f.d];simp
 have fb:s.fb=0:=by rw[f.b];simp
 have fr:s.ro=0:=by rw[f.r];simp
 clear f;by_cases j:k<e.length
 ·have y:=jP j zO;have c:=jjo j;have b8:=jhi e k;obtain⟨o,Q⟩:∃o,e[k]=o:=⟨_,rfl⟩;rw[Q]at c;unfold badO at c;have J:(e.flatMap yS)[k*4]? = some (.bool o.w):=by have:=jO jD e j (by decide:0<4);rw[bl,Q]at this;rw[this];rfl
  have q1:(e.flatMap yS)[k*4+1]? = some (.int .i64 o.key):=by rw[jO jD e j (by decide:1<4),Q];rfl
  have q2:(e.flatMap yS)[k*4+2]? = some (.int .i64 o.v.kind):=by rw[jO jD e j (by decide:2<4),Q];rfl
  have a2:∀ob,W8 ob (some 2) (.eptr (e.flatMap yS) (k*4+2))=some (.agg (J7 o.v)):=λob=>by
   have:=XS jD e k j;have h4:=j1 jD e;simp only[W8,Y0];rw[zb zO];congr 2;rw[Q]at this;have h2:((e.flatMap yS).drop (k*4+2)).take 2=((((e.flatMap yS).drop (k*4)).take 4).drop 2).take 2:=by rw[gm,dQ,eC];rfl
   rw[h2,this];rfl
  have O:=j6n ⟨s0,f0,nl,e⟩ zP o.key (n:=k) zP;simp only at O;simp[G,I,p,ya,jf,j,j4 jD,q1];refine X4 O (by simp[jf]) rfl (by simp[jf]) ?_;rw[Jb (by simp[V.plain,J7])];generalize JH o.key e k=H at *;obtain⟨H,rb⟩:=H;simp only at c;simp[J7,ya,j2,fb,fr];refine⟨by simp[JQ,YW,Wk,QP,yz,yB,yR,Delta.wo,Delta.wt,I];try decide,?_⟩;cases hw:o.w;rw[hw]at c J;cases rb;simp only[bH,dw,ag,zc,aL]at c;simp[G,I,y,p,ya,jf,j,j4 jD,J];rw[c];refine L.mono (λu S h=>?_) zO;first|exact h|simpa[jk] using h
  cases N:(o.v.kind==2);have m:(o.v.kind != 2)=true:=by simp only[bne,N,cp]
  rw[m]at c;simp only[cp,bM]at c;have K:=a2;simp only[J7]at K;cases F:((H.kind==o.v.kind)&&(H.n==o.v.n));rw[F]at c;have D:((o.v.kind==H.kind)&&(o.v.n==H.n))=false:=by rw[<- F,gu,gu (a:=o.v.n)]
  simp only[cp,zd]at c;simp[G,I,p,ya,jf,j,j4 jD,J,q2,m,K,D];refine jF (cs:=yf k) (by simp[j2,yf]) rfl rfl ?_;simp;refine Y9 (f:=yf) (hi:=s.nx) (l:=YG e k) (a:=(k:Int)) (v:=s.tm 5) (L.mono (λu _ h=>by simp[jb,h]) zK) zS (by simp[yp,yf]) j6 zQ rfl zO zO (λc0 b6=>?_);have P:(YG e k).length+1=(YG e (k+1)).length:=by rw[c];simp
  rw[<- c,P];obtain⟨M,hM⟩:∃M,YG e (k+1)=M:=⟨_,rfl⟩;rw[hM];simp[G,y,p,jf,hM];exact⟨j,_,rfl,by simp[jb],zO⟩;rw[F]at c;have D:((o.v.kind==H.kind)&&(o.v.n==H.n))=true:=by rw[<- F,gu,gu (a:=o.v.n)]
  simp only[bV,ag,zc,aL]at c;simp[G,I,y,p,ya,jf,j,j4 jD,J,q2,m,K,D];rw[c];refine L.mono (λu S h=>?_) zO;first|exact h|simpa[jk] using h
  have m:(o.v.kind != 2)=false:=by simp only[bne,N,bV]
  rw[m]at c;simp only[bH,dw,ag,zc,aL]at c;simp[G,I,y,p,ya,jf,j,j4 jD,J,q2,m];rw[c];refine L.mono (λu S h=>?_) zO;first|exact h|simpa[jk] using h
  rw[hw]at c J;simp only[bV,bH,ag,zc,aL]at c;simp[G,I,y,p,ya,jf,j,j4 jD,J];rw[c];refine L.mono (λu S h=>?_) zO;first|exact h|simpa[jk] using h
 have:k=e.length:=zO;subst this;rw[q]at L;obtain⟨u,S,_,_⟩:=L;simp[G,I,p,ya,jf];exact slE (t:=some (u,1)) (nl:=false) (k:=B.length) (cs:=B.flatMap yf) (λr h=>h) (by simp[fd]) (by simp[S])
end Go.Pv.T
namespace Go.Pv.T
open Go Go.Pv
end Go.Pv.T
namespace Go.Pv.T
open Go Go.Pv
end Go.Pv.T
namespace Go.Pv.T
open Go Go.Pv
def jzg {Yf:YF}{f:FuncId}{q:A}{xs:List A}{st:St}{ub:Nat}{K:St->Nat->Prop}{d:Option Nat}{nm:Bool}{first captured vs:List V}{P:V×(ZO)×(Nat->Bool)×Nat->Prop}
 (i:ye E st.tm q=.fn (.func f) first captured) (k:first++xs.map (ye E st.tm)++captured=vs) (g:E.sh nm f=true)
 (l:∃r,EvS E Yf.y f vs st.ob st.tk st.ro ((st.fb+d.getD 0+1)*1024) ub r/\P r) (h:∀v c a b,P (v,c,a,b)->K (jt5 st d v c a) b):j8 E Yf ⟨d,.callV q xs,none,nm⟩ st ub K:=by
 have e:jA E nm (ye E st.tm) (.callV q xs)=some (f,vs):=by simp only[jA,i,g,k,bV,bH,ag,zc]
 simp only[j8,yK,jl,i,e];obtain⟨r,j,m⟩:=l;exact .inl ⟨g,EvS.list ⟨r,j,h r.1 r.2.1 r.2.2.1 r.2.2.2 m⟩⟩
def OwnI (ob:ZO) (v:V) (l:List Int):Prop:=(v=.sl none true 0 []/\l=[])\/∃L u cs,v=.osl L u 0 l.length 1/\ob L=some ⟨u,.cells cs⟩/\l.length<=cs.length/\cs.take l.length=l.flatMap yf
def OwnI.at {l:List Int}{cs:List V}(b:cs.take l.length=l.flatMap yf) {i:Nat}(h:i<l.length):cs[i]? = some (.int .i64 l[i]):=by have a:=jj l h;rw[<- b,bn h]at a;exact a
def jse {E:Env}{Yf:YF}{st:St}{ub:Nat}{K:St->Nat->Prop}{d:Option Nat}{nm:Bool}{sz l u off n:Nat}{zero cs:List V}{x:A}(e:ye E st.tm x=.osl l u off n sz) (c:st.ob l=some ⟨u,.cells cs⟩) (b:st.ro<=u) (g:zero.length=sz) (f:off+n*sz<=cs.length)
 (h:QN K st d ub { v:=jw,obs:=[(l,⟨u,.cells (j2 cs off (ja3 n zero))⟩)] }):j8 E Yf ⟨d,.clear sz zero x,none,nm⟩ st ub K:=by
 have a:ya st.ob l u=some cs:=by simp[ya,c]
 rw[jT _ rfl rfl];simp only[yU,e];rw[zb ⟨bS▸b,trivial,g⟩,a,ah,zb f,jG];exact h
def jty {L u n i:Nat}(h:i<=n):Yz 1 (some (.int .i64 (i:Int))) none (.osl L u 0 n 1)=some (.osl L u i (n-i) 1):=by have a:(i:Int)<=n:=zO;simp[Yz,Jz];omega
def j15 {L u n i:Nat}(h:i<=n):Yz 1 none (some (.int .i64 (i:Int))) (.osl L u 0 n 1)=some (.osl L u 0 i 1):=by have a:(i:Int)<=n:=zO;simp[Yz,Jz,a]
def jd7 {p:Int->Bool}{l:List Int}(h:l.findIdx? p=none):l.filter (λx=>!p x)=l:=by rw[fh];intro x a;have:=fG.1 h x a;simp[this]
def jhz:∀(l:List Int) (n:Nat),(l.flatMap yf).take n=(l.take n).flatMap yf
 |[],n=>by simp
 |a::l,0=>by simp
 |a::l,n+1=>by have:=jhz l n;simp only[bk,yf,ge,eG,this]
def DelP (L u:Nat) (l:List Int) (ob:ZO) (tk:Nat->Bool) (ub:Nat) (r:V×(ZO)×(Nat->Bool)×Nat):Prop :=
 OwnI r.2.1 r.1 l/\(∀key,key≠L->r.2.1 key=ob key)/\r.2.2.1=tk/\ub<=r.2.2.2/\(r.1=.sl none true 0 []\/∃n,r.1=.osl L u 0 n 1)
def jcw (p:Int->Bool) (l:List Int) (j:Nat):List Int:=(l.take j).filter λx=>!p x
def ji3 {p:Int->Bool}{l:List Int}{j:Nat}(h:j<l.length):jcw p l (j+1)=jcw p l j++if p l[j] then [] else [l[j]]:=by unfold jcw;rw[av h,bN];cases a:p l[j]<;>simp[a]
def j3m (p:Int->Bool) (l:List Int) (j:Nat):(jcw p l j).length<=j:=by unfold jcw;have:=bO (λx=>!p x) (l.take j);rw[ai]at this;omega
end Go.Pv.T
namespace Go.Pv.T
open Go Go.Pv
end Go.Pv.T
namespace Go.Pv.T
open Go Go.Pv
def jl8 {g:Hist'}(a:Small g):(jbo g).length<=1000000:=by unfold jbo;have:=jaj a g.ts.length;have b:=a.ts;have:g.ts.length*1000<=1000*1000:=bh _ b;split;unfold yi;omega;simp
def yx (g:Hist'):List (Bool×List Int):=(jbo g).map λp=>((ofH g p.1 p.2).isEmpty,ofH g p.1 p.2)
def jwz (T:List Int):SlR (jkt T) T.isEmpty T.length (T.flatMap yf):=by
 unfold jkt;cases T with
 |nil=>exact⟨none,rfl,zS⟩
 |cons a l=>exact⟨some (0,1),rfl,zS⟩
def ev73 {g:Hist'}(B:Small g):∃v,Ev E 73 [.agg (yb g)] v/\SlR v (yx g).isEmpty (yx g).length ((yx g).flatMap Yd):=by
 obtain⟨vr,G,n⟩:=ev72 B;have y:=jl8 B;obtain⟨L,O⟩:∃L,jbo g=L:=⟨_,rfl⟩;obtain⟨C,H⟩:∃C,yx g=C:=⟨_,rfl⟩;have j:C=L.map λp=>((ofH g p.1 p.2).isEmpty,ofH g p.1 p.2):=by rw[<- H,<- O];rfl
 have z:C.length=L.length:=by rw[j];simp
 rw[H];rw[O]at n y;refine JW rfl zQ ?_;conv in(occs:=*)F73=>all_goals cbv
 simp[yb,ya];refine jH G zI rfl zI ?_;refine Jv n λK Q=>?_;simp;refine j5 [(3,5),(9,20)] L.length (λi s=>s.tm 9=.int .i64 i/\s.ob 2=some ⟨0,.cells (yb g)⟩/\Grow s.tk 0 s.nx Yd 1 (C.take i) (s.tm 3)) rfl rfl ⟨zS,zI,by simp;exact Grow.nil _ _ _ _ _⟩ ?_;rintro i s hi ⟨F,P,D⟩ f;have f1:s.tm 1=.ptr 2 0 0:=by rw[f.t 1 zS];simp
 have Z:s.tm 7=.sl K L.isEmpty L.length (L.flatMap jC):=by rw[f.t 7 zS];simp
 have I:s.tm 8=.int .i64 L.length:=by rw[f.t 8 zS];simp
 have S:s.df=[]:=by rw[f.d];simp
 have fb:s.fb=0:=by rw[f.b];simp
 have fr:s.ro=0:=by rw[f.r];simp
 clear f;by_cases e:i<L.length;have hw:=jP e zO;have x:jt 2 (.sl K L.isEmpty L.length (L.flatMap jC)) (.int .i64 (i:Int))=some (.eptr (L.flatMap jC) (i*2)):=by simp only[J1,j1 jR];rw[zb zP];rfl
 have hp:=λob=>Yq L ob e;have q:C[i]? = some ((ofH g (L[i]).1 (L[i]).2).isEmpty,ofH g (L[i]).1 (L[i]).2):=by rw[j,aV,aa e];rfl
 have w:=ev113 B (L[i]).1 (L[i]).2;generalize (L[i]).1=a at *;generalize (L[i]).2=b at *;obtain⟨T,hT⟩:∃T,ofH g a b=T:=⟨_,rfl⟩;rw[hT]at w q;simp[F,f1,Z,I,P,ya,yb,e,x,hp,j2,fb,fr];refine jH w (by simp[yb,jC]) rfl (by simp[yb,jC]) ?_;refine Jv (jwz T) λt add=>?_;simp;have c:C.take (i+1)=C.take i++[(T.isEmpty,T)]:=by rw[gF,q];rfl
 have a0:i<C.length:=zO;have X:(C.take i).length=i:=by rw[ai];omega
 refine jF (cs:=[.sl t T.isEmpty T.length (T.flatMap yf)]) (by simp[j2]) rfl (by simp[V.strip1,V.pureLeaf]) ?_;simp[V.strip1];refine Xl (f:=Yd) (lo:=0) (hi:=s.nx) (l:=C.take i) (a:=(T.isEmpty,T)) (v:=s.tm 3) (D.mono (λu _ _ h=>by simp[jb,h]) zK) zS (by simp[yp,Yd]) Xw zQ (by simp[Yd,V.pureLeaf]) zO zO (λb0 N=>?_);have m:C.take (i+1)≠[]:=by rw[c];simp
 have o:(C.take i).length+1=(C.take (i+1)).length:=by rw[c,ap];rfl
 rw[<- c,o];obtain⟨M,J⟩:∃M,C.take (i+1)=M:=⟨_,rfl⟩;rw[J]at m ⊢;simp[F,hw,P,yb,J];exact⟨e,.inr ⟨m,_,rfl,by simp[jb],cw _,zO⟩⟩;have:i=L.length:=zO;subst this;rw[<- z,bg]at D;obtain⟨t,U⟩:=D.form;simp[F,I];exact slE (t:=t) (nl:=C.isEmpty) (k:=C.length) (cs:=C.flatMap Yd) (λr h=>h) (by simp[S]) (by simp[U])
def choR (g:Hist'):List (Bool×List Int):=(yi g).map λp=>(false,ofH g p.1 p.2)
def Xr {g:Hist'}(a:Small g):(yi g).length<=1000000:=by have:=jaj a g.ts.length;have b:=a.ts;have:g.ts.length*1000<=1000*1000:=bh _ b;unfold yi;omega
def ev37 {g:Hist'}(D:Small g):∃v,Ev E 37 [.agg (yb g)] v/\SlR v false (choR g).length ((choR g).flatMap Yd):=by
 obtain⟨vr,G,m⟩:=ev64 D;have x:=Xr D;obtain⟨L,N⟩:∃L,yi g=L:=⟨_,rfl⟩;obtain⟨C,H⟩:∃C,choR g=C:=⟨_,rfl⟩;have j:C=L.map λp=>(false,ofH g p.1 p.2):=by rw[<- H,<- N];rfl
 have B:C.length=L.length:=by rw[j];simp
 rw[H];rw[N]at m x;refine JW rfl zQ ?_;conv in(occs:=*)F37=>all_goals cbv
 simp[yb,ya];refine jH G zI rfl zI ?_;refine Jv m λJ P=>?_;simp;refine jF (cs:=[]) rfl rfl rfl ?_;simp;refine j5 [(4,5),(9,24)] L.length (λi s=>s.tm 5=.int .i64 i/\s.ob 2=some ⟨0,.cells (yb g)⟩/\GrowT s.tk s.nx Yd 1 (C.take i) (s.tm 4)) rfl rfl ⟨zS,zI,⟨256,zS,by simp[jb],zS⟩⟩ ?_;rintro i s hi ⟨y,O,F⟩ f;have X:s.tm 1=.ptr 2 0 0:=by rw[f.t 1 zS];simp
 have Q:s.tm 3=.sl J false L.length (L.flatMap jC):=by rw[f.t 3 zS];simp
 have S:s.df=[]:=by rw[f.d];simp
 clear f;by_cases c:i<L.length;have hw:=jP c zO;have w:jt 2 (.sl J false L.length (L.flatMap jC)) (.int .i64 (i:Int))=some (.eptr (L.flatMap jC) (i*2)):=by simp only[J1,j1 jR];rw[zb zP];rfl
 have hp:=λob=>Yq L ob c;have q:C[i]? = some (false,ofH g (L[i]).1 (L[i]).2):=by rw[j,aV,aa c];rfl
 obtain⟨vo,z,o⟩:=ev69' D (L[i]).1 (L[i]).2;generalize (L[i]).1=a at *;generalize (L[i]).2=b at *;obtain⟨T,Z⟩:∃T,ofH g a b=T:=⟨_,rfl⟩;rw[Z]at o q;have e:C.take (i+1)=C.take i++[(false,T)]:=by rw[gF,q];rfl
 have a0:i<C.length:=zO;have U:(C.take i).length=i:=by rw[ai];omega
 simp[y,X,Q,O,ya,yb,c,w,hp];refine X4 z (by simp[yb,jC]) rfl (by simp[yb,jC]) ?_;refine Jv o λt add=>?_;simp;refine jd3 (cs:=[.sl t false T.length (T.flatMap yf)]) (by simp[j2]) rfl (by simp[V.strip1,V.pureLeaf]) ?_;simp[V.strip1];refine ju4 (f:=Yd) (hi:=s.nx) (l:=C.take i) (a:=(false,T)) (v:=s.tm 4) (F.mono (λu _ h=>by simp[jb,h]) zK) zS (by simp[yp,Yd]) Xw zQ (by simp[Yd,V.pureLeaf]) zO zO (λb0 K=>?_);have n:(C.take i).length+1=(C.take (i+1)).length:=by rw[e,ap];rfl
 rw[<- e,n];obtain⟨M,I⟩:∃M,C.take (i+1)=M:=⟨_,rfl⟩;rw[I];simp[y,hw,O,yb,I];exact⟨c,_,rfl,by simp[jb],zO⟩;have:i=L.length:=zO;subst this;rw[<- B,bg]at F;obtain⟨u,hv,_,_⟩:=F;simp[y,Q];exact slE (t:=some (u,1)) (nl:=false) (k:=C.length) (cs:=C.flatMap Yd) (λr h=>h) (by simp[S]) (by simp[hv])
def jdf:List (Bool×List Int)->List Int->Bool
 |[],_=>true
 |_::_,[]=>false
 |c::cs,m::ms=>c.2.contains m&&jdf cs ms
def W7 (g:Hist') (M:List Int):Bool:=jX g&&(M.length==(choR g).length&&jdf (choR g) M)
def jeo (C:List (Bool×List Int)) {i:Nat}(h:i<C.length):(C.flatMap Yd)[i]? = some (.sl none (C[i]).1 (C[i]).2.length ((C[i]).2.flatMap yf)):=by have:=jO Xw C h (by decide:0<1);rw[bz,bl]at this;rw[this];rfl
def jpc {g:Hist'}(c:Yr g=true) (a b:Int):(ofH g a b).length<=41:=by unfold ofH;split;split;simp;exact j8m (jyt c) a _;simp
def ev34 {g:Hist'}(w:Small g) {b:Bool}(M:List Int) (_:M.length<=1000000000):Ev E 34 [.agg (yb g),yl b yf M] (.bool (W7 g M)):=by
 have h:=ev28 w;refine jS rfl ?_;unfold W7;cases l:jX g
 ·rw[l]at h;conv in(occs:=*)F34=>all_goals cbv
  simp[yb,ya];refine jH h zI rfl zI ?_;simp;exact j3 zS zS rfl
 rw[l]at h;obtain⟨T,q,r⟩:=ev37 w;have v:=Xr w;have P:(choR g).length<=1000000:=by unfold choR;rw[bu];exact v
 have y:∀x∈choR g,x.2.length<=41:=by
  intro x H;unfold choR at H;obtain⟨p,_,rfl⟩:=aI.1 H;have Q:Yr g=true:=by unfold jX at l;simp only[aj]at l;exact l.1
  exact jpc Q _ _
 generalize choR g=C at *;conv in(occs:=*)F34=>all_goals cbv
 simp[yb,ya];refine jH h zI rfl zI ?_;simp[ya];refine jH q zI rfl zI ?_;refine Jv r λD G=>?_;by_cases O:M.length=C.length;obtain⟨R,I⟩:∃R,jdf C M=R:=⟨_,rfl⟩;rw[I];simp[O];refine j5 [(4,4),(6,6),(17,32)] C.length (λi s=>s.tm 6=.int .i64 i/\jdf (C.drop i) (M.drop i)=R) rfl rfl ⟨zS,zU I⟩ ?_;rintro i s S ⟨z,j⟩ f;have L:s.tm 1=yl b yf M:=by rw[f.t 1 zS];simp
 have F:s.tm 5=.sl D false C.length (C.flatMap Yd):=by rw[f.t 5 zS];simp
 have B:s.df=[]:=by rw[f.d];simp
 clear f;by_cases c:i<C.length;have n:=jP c zO;have e:i<M.length:=zO;have N:=jeo C c;have K:=jj M e;have k:jt 1 (.sl D false C.length (C.flatMap Yd)) (.int .i64 (i:Int))=some (.eptr (C.flatMap Yd) (i*1)):=by simp only[J1,j1 Xw];rw[zb zP];rfl
 rw[bz]at k;rw[aP c,aP e,jdf]at j;have u:=ev63 (a:=(C[i]).1) (C[i]).2 (by have:=y _ (au c);omega) M[i];simp[z,L,F,c,e,k,j4 j6,N,K];refine X4 u (by simp[yl]) rfl (by simp[yl]) ?_;cases J:(C[i]).2.contains M[i];rw[J,bH]at j;simp;exact j3 (by simp[B]) (by simp[<- j]) rfl;rw[J,bM]at j;simp[z,n];exact⟨c,j⟩;have:i=C.length:=zO;subst this;rw[dl,jdf]at j;simp[z,F];exact j3 (by simp[B]) (by simp[<- j]) rfl;have o:((M.length:Int) != C.length)=true:=by simp;omega
 have m:(M.length==C.length)=false:=by simp;omega
 simp[o];exact j3 zS (by simp[m]) rfl
def kD_own {st:St}{ub:Nat}{K:List FP->St->Prop}{d:Option Nat}{nm:Bool}{r:List AOpr}{f:FuncId}{xs:List A}{vs a:List V}{v:V}{δ:Delta}(j:xs.map (ye E st.tm)=vs) (i:E.sh nm f=true) (b:E.tw f=true)
 (k:vs.mapM (Wy st.ob)=some a) (c:Ev E f a v) (g:ja0 (jI d nm st.fb ub) ub v=some δ)
 (h:jE E r (st.app d δ) (ub+64) (kFp { wo:=δ.wo,all:=true,seen:=λl=>(st.ob l).isSome,nw:=true } K)):jE E (⟨d,.call f xs,none,nm⟩::r) st ub K:=by
 have e:jA E nm (ye E st.tm) (.call f xs)=some (f,vs):=by simp only[jA,i,j,bV,bH,ag,zc]
 simp only[jE,yK,e];exact .inr (.inl ⟨i,b,a,v,k,c,δ,by rw[name_eq'];exact g,h⟩)
where
 name_eq':∀{d:Option Nat}{op:AOp}{nm:Bool}{fb ub:Nat},AOpr.name ⟨d,op,none,nm⟩ fb ub=jI d nm fb ub:=by
  intro d op nm fb ub;cases nm<;>rfl
end Go.Pv.T
namespace Go.Pv.T
open Go Go.Pv
end Go.Pv.T
namespace Go.Pv.T
open Go Go.Pv
end Go.Pv.T
namespace Go.Pv.T
open Go Go.Pv
end Go.Pv.T
namespace Go.Pv.T
open Go Go.Pv
def jb3 {f:FuncId}{af:AF}{args:List V}{ob:ZO}{tk:Nat->Bool}{base ub:Nat}{P:V->Prop}(b:E.fs f=some af) (g:af.body.one=true) (h:wpC E YS af.body (XD args ob (λ_=>false) ub base ub) (WO af.res P)) (i:E.fz f=false:=by rfl):∃r,EvO E f args ob tk base ub r/\P r:=by obtain⟨n,x,d,r,c,e⟩:=jmh g h λ_=>rfl;refine⟨r,⟨n+1,?_⟩,e⟩;simp only[yL,b,ah,i,ag,zc];rw[show jh E (yL E n) noY n af.body (XD args ob (λ_=>false) ub base ub)=some [x] from d];exact jke (cX _ _) (λy a=>by rw[ae]at a;subst a;exact c)
def TupS (l:List V) (v:V):Prop:=∃vs,v=.tup vs/\vs.map V.strip1=l/\∀p∈vs.flatMap V.toks,p<64
def noAgg:V->Bool
 | .agg _=>false
 |_=>true
def jl5 {ub:Nat}{v:V}{l:List V}{K:Delta->Prop}(j:TupS l v) (f:l.all noAgg=true) (h:∀ws add,ws.map V.strip1=l->K { v:=.tup ws,add:=add }):wpD (Xp ub v) K:=by
 obtain⟨a,rfl,b,g⟩:=j;have e:Xp ub (.tup a)=some { v:=.tup (a.map (QZ ub)),add:=(a.flatMap V.toks).map (ub + ·) }:=by rw[Xp,zb (by simpa only[yy,aw,dt] using g)];rfl
 rw[e,jG];refine h _ _ ?_;rw[<- b,cM];refine dx λw c=>?_;have i:noAgg w.strip1=true:=aw.1 f _ (by rw[<- b];exact aI.2 ⟨w,c,rfl⟩);cases w with
 |agg=>cases i
 |sl t k n cs=>cases t<;>rfl
 |_=>rfl
def Wn {w:V}{nl:Bool}{n:Nat}{cs:List V}(h:w.strip1=.sl none nl n cs):∃t,w=.sl t nl n cs:=by cases w<;>simp[V.strip1]at h;obtain⟨rfl,rfl,rfl⟩:=h;exact⟨_,rfl⟩
def jft {w:V}{b:Bool}(h:w.strip1=.bool b):w=.bool b:=by cases w<;>simp[V.strip1]at h;subst h;rfl
def Wo {w:V}{k:IntKind}{b:Int}(h:w.strip1=.int k b):w=.int k b:=by cases w<;>simp[V.strip1]at h;obtain⟨rfl,rfl⟩:=h;rfl
def map2 {e c:Type}{f:e->c}{ws:List e}{a b:c}(h:ws.map f=[a,b]):∃x y,ws=[x,y]/\f x=a/\f y=b:=by
 match ws with
 |[x,y]=>simp only[aZ,cn,dT,and_true]at h;exact⟨x,y,rfl,h.1,h.2⟩
 |[]=>simp at h
 |[_]=>simp at h
 |_::_::_::_=>simp at h
def map3 {g e:Type}{f:g->e}{ws:List g}{a b c:e}(h:ws.map f=[a,b,c]):∃x y z,ws=[x,y,z]/\f x=a/\f y=b/\f z=c:=by
 match ws with
 |[x,y,z]=>simp only[aZ,cn,dT,and_true]at h;exact⟨x,y,z,rfl,h.1,h.2.1,h.2.2⟩
 |[]=>simp at h
 |[_]=>simp at h
 |[_,_]=>simp at h
 |_::_::_::_::_=>simp at h
def jrb {ub:Nat}{v:V}{a1 a2 b:Bool}{n1 f:Nat}{c1 e:List V}{K:Delta->Prop}(k:TupS [.sl none a1 n1 c1,.sl none a2 f e,.bool b] v)
 (h:∀c a add,K { v:=.tup [.sl c a1 n1 c1,.sl a a2 f e,.bool b],add:=add }):wpD (Xp ub v) K:=by
 refine jl5 k rfl λws add g=>?_;obtain⟨x,y,z,rfl,l,i,j⟩:=map3 g;obtain⟨c,rfl⟩:=Wn l;obtain⟨a,rfl⟩:=Wn i;obtain rfl:=jft j;exact h c a add
def jj4 {ub:Nat}{v:V}{a1 b:Bool}{n1:Nat}{c1:List V}{K:Delta->Prop}(f:TupS [.sl none a1 n1 c1,.bool b] v)
 (h:∀a add,K { v:=.tup [.sl a a1 n1 c1,.bool b],add:=add }):wpD (Xp ub v) K:=by
 refine jl5 f rfl λws add c=>?_;obtain⟨x,z,rfl,g,e⟩:=map2 c;obtain⟨a,rfl⟩:=Wn g;obtain rfl:=jft e;exact h a add
def jw8 {ub:Nat}{v:V}{a1:Bool}{k:IntKind}{b:Int}{n1:Nat}{c1:List V}{K:Delta->Prop}(f:TupS [.sl none a1 n1 c1,.int k b] v)
 (h:∀a add,K { v:=.tup [.sl a a1 n1 c1,.int k b],add:=add }):wpD (Xp ub v) K:=by
 refine jl5 f rfl λws add c=>?_;obtain⟨x,z,rfl,g,e⟩:=map2 c;obtain⟨a,rfl⟩:=Wn g;obtain rfl:=Wo e;exact h a add
def j5m (st:St) (v w:V):Prop:=∀keep i,∃a,XE st keep i v=some a/\a.strip1=w/\(a.toks=[]\/a.toks=[i])
def jtd (st:St):List V->List V->Prop
 |[],[]=>True
 |v::vs,w::ws=>j5m st v w/\jtd st vs ws
 |_,_=>False
def jM {st:St}{v:V}(h:v.pureLeaf=true):j5m st v v:=by
 intro keep i;refine⟨v,?_,YI h,.inl ?_⟩;cases v with
 |agg=>cases h
 |fn=>cases h
 |_=>exact YR (st:=st) (keep:=keep) (i:=i) h
 cases v with
 |agg=>cases h
 |_=>exact jqu h
def XP {st:St}{v:V}{nl:Bool}{n:Nat}{cs:List V}(c:v.leaf=true) (h:jdg st v nl n cs):j5m st v (.sl none nl n cs):=by
 intro keep i;obtain⟨a,b,e⟩:=h keep i;refine⟨.sl a nl n cs,?_,rfl,?_⟩;rw[<- b];cases v with
 |agg=>cases c
 |fn=>simp only[js,JX]at b;split at b<;>cases b
 |_=>rfl
 rcases e with rfl|⟨z,rfl⟩;exact .inl rfl;exact .inr rfl
def Ws {st:St}{keep:Bool}:∀{vs ls:List V}{i:Nat},jtd st vs ls->∃b,Jc st keep i vs=some b/\b.map V.strip1=ls/\(∀p∈b.flatMap V.toks,i<=p/\p<i+16*vs.length)/\yJ (b.flatMap V.toks)=true
 |[],[],i,_=>⟨[],rfl,rfl,zS,rfl⟩
 |v::vs,w::ws,i,h=>by obtain⟨a,n,k,e⟩:=h.1 keep i;obtain⟨b,j,l,f,g⟩:=Ws (keep:=keep) (i:=i+16) h.2;refine⟨a::b,by simp only[Jc,n,ah,j,aU],by rw[aZ,k,l],λp c=>?_,?_⟩;rw[bk,aQ]at c;simp only[bj];rcases c with c|c;rcases e with e|e<;>rw[e]at c<;>simp at c;omega;have:=f p c;omega;rw[bk];rcases e with e|e<;>rw[e];exact g;simp only[ge,yJ,aj,g,and_true,ci];rw[ey];intro o;obtain⟨p,c,m⟩:=bZ.1 o;have:=bt m;have:=f p c;omega
 |[],_::_,_,h=>h.elim
 |_::_,[],_,h=>h.elim
def jrf (st:St):∀a:List Nat,(a.map ARes.t).mapM (ju st)=some (a.map st.tm)
 |[]=>rfl
 |n::a=>by rw[aZ,bQ,jrf st a];rfl
def jhx {ns:List Nat}{st:St}{vs ls:List V}{P:V->Prop}(n:∀r,TupS ls r->P r) (f:st.df=[]) (h:ns.map st.tm=vs) (u:2<=vs.length) (x:vs.length<=4) (g:jtd st vs ls):WO (ns.map .t) P .ret st:=by
 obtain⟨c,k,j,o,s⟩:=Ws (keep:=yJ (vs.flatMap V.toks)) (i:=0) g;have e:2<=c.length:=by
  have m:=zg List.length j;have:∀{vs ls:List V},jtd st vs ls->vs.length=ls.length:=by
   intro vs;induction vs with
   |nil=>intro ls h;cases ls with|nil=>rfl|cons=>exact h.elim
   |cons v vs q=>intro ls h;cases ls with|nil=>exact h.elim|cons w ws=>rw[bj,bj,q h.2]
  have:=this g;simp only[bu]at m;omega
 refine⟨.tup c,?_,n _ ⟨c,rfl,j,λp l=>by have:=o p l;omega⟩⟩;simp only[jb4,Yj f,Ye f,zd,jrf,h,ah,W4,k,s];match c,e with
 |a::b::r,_=>rfl
section
variable {E:Env}{Yf:YF}{st:St}{ub:Nat}{K:St->Nat->Prop}{d:Option Nat}{nm:Bool}
def jkq {sz a n:Nat}{zero:List V}{x y:A}(b:ye E st.tm x=.int .i64 (n:Int)) (f:ye E st.tm y=.int .i64 (n:Int)) (e:n*a<=140737488355328) (i:n<=140737488355328) (g:zero.length=sz) (c:0<sz)
 (h:QN K st d ub { v:=.osl (jI d nm st.fb ub) ub 0 n sz,obs:=[(jI d nm st.fb ub,⟨ub,.cells (ja3 n zero)⟩)] }):j8 E Yf ⟨d,.mkSl true sz a zero x y,none,nm⟩ st ub K:=by
 rw[jT _ rfl rfl];simp only[yU,b,f];rw[zb (by refine⟨zO,zO,?_,zO,g,c⟩;rw[<- ga];exact gN.2 e),za zS,Jn,jG];simp only[ba,Jd];exact h
end
def Upto (n i:Nat) (J:List Int) (cs:List V):Prop:=cs.length=n/\(∀j,j<i->cs[j]? = (J.flatMap yf)[j]?)/\cs.all V.pureLeaf=true
def Upto.set {n i:Nat}{J:List Int}{cs:List V}(h:Upto n i J cs) (hi:i<n) {x:Int}(m:J[i]? = some x):Upto n (i+1) J (j2 cs i [.int .i64 x]):=by
 obtain⟨g,f,k⟩:=h;have l:j2 cs i [.int .i64 x]=cs.set i (.int .i64 x):=by unfold j2;rw[cN,zb zO,aY];rfl
 rw[l];refine⟨by rw[dL];exact g,λj o=>?_,?_⟩;by_cases a:j=i;subst a;have c:=(ak.1 m);rw[dM zO,jj J c.1,c.2];rw[cU (λe=>a e.symm)];exact f j zO;refine aw.2 λy b=>?_;rcases List.mem_or_eq_of_mem_set b with b|rfl
 exact aw.1 k y b;rfl
def Upto.whole {n:Nat}{J:List Int}{cs:List V}(h:Upto n n J cs) (b:J.length=n):cs=J.flatMap yf:=by apply de;intro j;by_cases a:j<n;exact h.2.1 j a;rw[cG (by rw[h.1];omega),cG (by rw[j1 j6];omega)]
def Upto.zero (n:Nat) (J:List Int):Upto n 0 J (ja3 n [.int .i64 0]):=by refine⟨by simp[ja3],λj b=>by omega,?_⟩;refine aw.2 λy a=>?_;simp only[ja3,aI]at a;obtain⟨i,_,rfl⟩:=a;simp[V.pureLeaf,Nat.mod_one]
def jc0 {st:St}{ub:Nat}{K:List FP->St->Prop}{d:Option Nat}{nm:Bool}{r:List AOpr}{f:FuncId}{xs:List A}{vs:List V}{v:V}{δ:Delta}(i:xs.map (ye E st.tm)=vs) (g:E.sh nm f=false) (hp:(vs.all λv=>v.strip.pureTop)=false)
 (a:EvO E f vs st.ob st.tk ((st.fb+d.getD 0+1)*1024) (ub+64*(r.length+1)) v) (e:Xp ub v=some δ)
 (h:jE E r (st.app d δ) (ub+64) (kFp { wt:=δ.wt,all:=true,seen:=λl=>(st.ob l).isSome } K)):jE E (⟨d,.call f xs,none,nm⟩::r) st ub K:=by
 have b:(xs.all λx=>(ye E st.tm x).strip.pureTop)=false:=by rw[<- i,dN]at hp;exact hp
 have c:jA E nm (ye E st.tm) (.call f xs)=some (f,vs):=by simp only[jA,g,i,b,cp,dw,ag,zc]
 simp only[jE,yK,c];exact .inl ⟨g,v,a,δ,e,h⟩
def j9m {st:St}{ub:Nat}{K:List FP->St->Prop}{d:Option Nat}{nm:Bool}{r:List AOpr}{f:FuncId}{xs:List A}{vs:List V}{l:List Int}(e:xs.map (ye E st.tm)=vs) (c:E.sh nm f=false) (hp:(vs.all λv=>v.strip.pureTop)=false)
 (i:∃v,EvO E f vs st.ob st.tk ((st.fb+d.getD 0+1)*1024) (ub+64*(r.length+1)) v/\j1c l v)
 (h:∀t a add,jE E r (st.app d { v:=.sl t a l.length (l.flatMap yf),add:=add }) (ub+64) (kFp { wt:=add,all:=true,seen:=λl=>(st.ob l).isSome } K)):jE E (⟨d,.call f xs,none,nm⟩::r) st ub K:=by
 obtain⟨v,g,a,j⟩:=i;obtain⟨t,add,b⟩:=jj6 (ub:=ub) j;exact jc0 e c hp g b (h t a add)
def blC (b:Bool):List V:=[.bool b]
@[simp] theorem jqd (b:Bool):(blC b).length=1:=rfl
def bl_at (l:List Bool) {i:Nat}(h:i<l.length):(l.flatMap blC)[i]? = some (.bool l[i]):=by have:=jO jqd l h (by decide:0<1);simpa[blC] using this
end Go.Pv.T
namespace Go.Pv.T
open Go Go.Pv Go.Sort
@[simp] theorem cellV_lf (v:Val'):(jec v).leaf=true:=by unfold jec;split;rfl;split<;>rfl
def lessV (a b:Val'):Bool:=if a.kind=b.kind then (a.kind==1&&decide (a.n<b.n)) else decide (a.kind<b.kind)
def cmpV (a b:Val'):Int:=if jto a&&jto b&&lessV a b then -1 else if jto b&&jto a&&lessV b a then 1 else 0
abbrev VV:Type:={ v:Val' // jto v=true }
instance:Inhabited VV:=⟨⟨⟨0,0⟩,rfl⟩⟩
def vvC (v:VV):List V:=J7 v.1
@[simp] theorem j67 (v:VV):(vvC v).length=2:=rfl
@[simp] theorem vvC_leaf (v:VV):∀x∈vvC v,x.leaf=true:=by intro x a;simp only[vvC,J7,bB,di,or_false]at a;rcases a with rfl|rfl<;>rfl
@[simp] theorem vvC_leafs (v:VV):(vvC v).all V.leaf=true:=rfl
@[simp] theorem vvC_strip1 (v:VV):(vvC v).map V.strip1=vvC v:=rfl
@[simp] theorem vvC_pure (v:VV):(vvC v).all V.pureLeaf=true:=rfl
def ltVV (a b:VV):Bool:=decide (cmpV a.1 b.1<0)
@[simp] theorem ltVV_fold (a b:VV):decide (cmpV a.1 b.1<0)=ltVV a b:=rfl
@[simp] theorem arrV_len (d:Array VV):(arr vvC d).length=d.size*2:=j00 (sz:=2) j67 d
end Go.Pv.T
namespace Go.Pv.T.Vs
open Go Go.Pv Go.Pv.T Go.Sort
end Go.Pv.T.Vs
namespace Go.Pv.T.Vs
open Go Go.Pv Go.Pv.T Go.Sort
end Go.Pv.T.Vs
namespace Go.Pv.T.Vs
open Go Go.Pv Go.Pv.T Go.Sort
end Go.Pv.T.Vs
namespace Go.Pv.T.Vs
open Go Go.Pv Go.Pv.T Go.Sort
end Go.Pv.T.Vs
