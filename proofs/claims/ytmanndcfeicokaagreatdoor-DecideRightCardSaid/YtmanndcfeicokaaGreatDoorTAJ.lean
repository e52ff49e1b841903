/- Part. -/
import Derived.Test.YtmanndcfeicokaaGreatDoorTAI
set_option maxRecDepth 100000
set_option maxHeartbeats 8000000
set_option linter.all false
namespace Go.Pv.T
open Go Go.Pv
def jxa (o:Op') (a:Int) (i:Nat) (t:Txn'):Bool:=(!((i:Int)==a)&&(t.f != 2))&&((JD o.key t.ops t.ops.length).2&&Qb o (JD o.key t.ops t.ops.length).1)
def YQ (ts:List Txn') (a:Int) (o:Op'):Nat->List Int
 |0=>JK o
 |i+1=>YQ ts a o i++(match ts[i]? with|some t=>if jxa o a i t then [(i:Int)] else []|none=>[])
def jio {ts:List Txn'}{a:Int}{o:Op'}{i:Nat}(h:i<ts.length):YQ ts a o (i+1)=YQ ts a o i++(if jxa o a i ts[i] then [(i:Int)] else []):=by simp[YQ,aa h]
def jme (ts:List Txn') (a:Int) (o:Op'):∀i,(YQ ts a o i).length<=i+1
 |0=>by unfold YQ JK;split<;>simp
 |i+1=>by have:=jme ts a o i;simp only[YQ,aw];split;split<;>simp<;>omega;simp;omega
def juw {g:Hist'}(a:Yr g=true) (key:Int) {i:Nat}(h:i<g.ts.length):Xw g key i=(JD key g.ts[i].ops g.ts[i].ops.length).1:=by unfold Xw W4 Jv;rw[a,zb zP];simp only[aX];rw[JN h]
def jri {g:Hist'}(c:Yr g=true) (a:Int) (o:Op'):∀i,i<=g.ts.length->YQ g.ts a o i=JK o++(yt (wrB o.key) g.ts i).filter λi=>!(i==a)&&Qb o (Xw g o.key i)
 |0,_=>by simp[YQ,yt]
 |i+1,h=>by rw[jio zO,Jk zO,cl,jri c a o i zO,bj];congr 2;have b:=jch o.key (g.ts[i]).ops (g.ts[i]).ops.length zK;rw[bk]at b;have d:=juw c o.key (show i<g.ts.length by omega);unfold jxa wrB;rw[b];cases k:(g.ts[i].ops.any (wkB o.key))<;>cases j:(g.ts[i].f != 2)<;>cases e:((i:Int)==a)<;>simp[cE,e,d]
def jxo {g:Hist'}(b:Yr g=true) (a:Int) (o:Op'):YQ g.ts a o g.ts.length=ofL g a o:=jri b a o _ zK
def jcn {g:Hist'}{a b:Int}{o:Op'}(h:opAt g a b=some o):∃i j:Nat,a=i/\b=j/\∃(hi:i<g.ts.length) (d:j<(g.ts[i]).ops.length),(g.ts[i]).ops[j]=o:=by unfold opAt at h;by_cases c:(Yr g&&(decide (0<=a)&&(decide (a<g.ts.length)&&(decide (0<=b)&&decide (b<((g.ts.getD a.toNat ⟨0,0,true,[]⟩).ops.length:Nat))))))=true;rw[zb c]at h;simp only[ab,ze]at c;obtain⟨_,k,f,l,e⟩:=c;obtain⟨i,rfl⟩:∃i:Nat,a=i:=⟨a.toNat,zO⟩;obtain⟨j,rfl⟩:∃j:Nat,b=j:=⟨b.toNat,zO⟩;have hi:i<g.ts.length:=zO;rw[aX,JN hi]at h e;have d:j<(g.ts[i]).ops.length:=zO;rw[aX,aa d]at h;exact⟨i,j,rfl,rfl,hi,d,cm h⟩;rw[za c]at h;cases h
def ev69' {g:Hist'}(hs:Small g) (a b:Int):∃v,Ev E 69 [.agg (ya g),.agg (jE (a,b))] v/\SlR v false (ofH g a b).length ((ofH g a b).flatMap yf):=by
 have B:=ev109 hs a b;refine X6 rfl zQ ?_;unfold ofH;cases z:opAt g a b with
 |none=>
  rw[z]at B;conv in(occs:=*)F69=>all_goals cbv
  simp[ya,jE];refine jN (cs:=[]) rfl rfl rfl ?_;simp[j0];refine jL B (by simp[ya,jE]) rfl (by simp[ya,jE]) ?_;simp;exact slE (t:=some (192,1)) (nl:=false) (k:=0) (cs:=[]) (λr h=>h) zS zS
 |some o=>
  rw[z]at B;simp only[Option.any_some]at B;have P:Yr g=true:=by unfold opAt at z;cases hm:Yr g;rw[hm]at z;cases z;rfl
  have c0:=jyy P;conv in(occs:=*)F69=>all_goals cbv
  simp[ya,jE];refine jN (cs:=[]) rfl rfl rfl ?_;simp[j0];refine jL B (by simp[ya,jE]) rfl (by simp[ya,jE]) ?_;cases X:o.w
  ·obtain⟨i,j,rfl,rfl,hi,hj,ho⟩:=jcn z;have b8:(g.ts.flatMap jl)[i*3+2]? = some (yl (g.ts[i]).nl yQ (g.ts[i]).ops):=by rw[jZ jA g.ts hi (by decide:2<3)];rfl
   have b0:=λob=>jd jH ob (g.ts[i]).ops hj;rw[ho]at b0;simp[j0,hi,hj,j7 jA,j7 jH,b8,b0];refine⟨by simp[yQ],by simp[Jc,W6,QR,Qe,yy,yz,yP,Delta.wo,Delta.wt,yQ];try decide,?_⟩;simp[yQ];generalize hK:juz E YU _ (Ws _ _)=K;have O:∀(s:St) (U:Nat) (v:V),s.tm 2=.ptr 4 0 0->s.tm 3=.ptr 6 64 0->s.tm 6=.ptr 12 U 0->s.ob 4=some ⟨0,.cells (ya g)⟩->s.ob 6=some ⟨64,.cells [.int .i64 i,.int .i64 j]⟩->s.ob 12=some ⟨U,.cells (yQ o)⟩ ->
    s.tm 5=v->GrowT s.tk s.nx yf 1 (JK o) v->s.df=[]->s.ro=0->s.fb=0->K .nrm s:=by
    intro s U v D h3 h6 o4 L M Z hv hd hr hb
    rw[<- hK]
    clear hK B z
    simp
    generalize (i:Int)=a at *
    refine j9 [(5,5),(7,9),(34,90)] g.ts.length (λn s=>s.tm 7=.int .i64 n/\s.ob 4=some ⟨0,.cells (ya g)⟩/\s.ob 6=some ⟨64,.cells [.int .i64 a,.int .i64 j]⟩/\s.ob 12=some ⟨U,.cells (yQ o)⟩/\GrowT s.tk s.nx yf 1 (YQ g.ts a o n) (s.tm 5)) rfl rfl ⟨zS,by simp[o4],by simp[L],by simp[M],by rw[YQ];simp[Z];exact hv.mono (λ_ _ h=>h) zO⟩ ?_
    rintro n F hn ⟨I,o4,L,M,S⟩ f
    have T:F.tm 2=.ptr 4 0 0:=by rw[f.t 2 zS];simp[D]
    have f3:F.tm 3=.ptr 6 64 0:=by rw[f.t 3 zS];simp[h3]
    have f6:F.tm 6=.ptr 12 U 0:=by rw[f.t 6 zS];simp[h6]
    have fd:F.df=[]:=by rw[f.d];simp[hd]
    have fb:F.fb=0:=by rw[f.b];simp[hb]
    have fr:F.ro=0:=by rw[f.r];simp[hr]
    clear f
    by_cases c:n<g.ts.length
    ·have X:=jb c zO;have J:=jio (a:=a) (o:=o) c;obtain⟨t,ht⟩:∃t,g.ts[n]=t:=⟨_,rfl⟩;rw[ht]at J;have b9:=hs.os t (ht▸au c);have c1:=jme g.ts a o n;have H:(g.ts.flatMap jl)[n*3+1]? = some (.int .i64 t.f):=by rw[jZ jA g.ts c (by decide:1<3),ht];rfl
     have b7:(g.ts.flatMap jl)[n*3+2]? = some (yl t.nl yQ t.ops):=by rw[jZ jA g.ts c (by decide:2<3),ht];rfl
     have b5:=ev107 t zO o.key;simp[I,T,f6,o4,M,j0,ya,yQ,c,j7 jA,jd jA,ht,b7];refine Jb b5 (by simp[jl]) rfl (by simp[jl]) ?_;rw[JW (by simp[V.plain,J4])];have m:jxa o a n t=((!((n:Int)==a)&&(t.f != 2))&&((JD o.key t.ops t.ops.length).2&&Qb o (JD o.key t.ops t.ops.length).1)):=rfl;generalize (JD o.key t.ops t.ops.length).1=rv at *;generalize (JD o.key t.ops t.ops.length).2=rb at *;have p:F.ob 4=some ⟨0,.cells [yl g.sn Jp g.ss,yl g.kn Jp g.ks,yl g.tn jl g.ts]⟩:=o4;have e:F.ob 12=some ⟨U,.cells [.bool o.w,.int .i64 o.key,.int .i64 o.v.kind,.int .i64 o.v.n]⟩:=M;have skip:jxa o a n t=false->YQ g.ts a o (n+1)=YQ g.ts a o n:=λh=>by rw[J,h];simp
     simp[J4,j0,fb,fr,j6,f3,L,I];refine⟨by simp[Jc,W6,QR,Qe,yy,yz,yP,Delta.wo,Delta.wt];try decide,?_⟩;cases h1:((n:Int) != a);have y:((n:Int)==a)=true:=by simpa[bne] using h1
     have x:=skip (by rw[m,y];rfl);simp[p,L,e,I,X,c];rw[x];exact S.mono (λu _ h=>by simpa[jq] using h) zO;have y:((n:Int)==a)=false:=by simpa[bne] using h1
     cases D:(t.f != 2);have x:=skip (by rw[m,y,D];rfl);simp[D,T,p,L,e,I,X,j0,c,j7 jA,H];rw[x];exact S.mono (λu _ h=>by simpa[jq] using h) zO;cases rb;have x:=skip (by rw[m,y,D];rfl);simp[D,T,p,L,e,I,X,j0,c,j7 jA,H];rw[x];exact S.mono (λu _ h=>by simpa[jq] using h) zO;cases h4:(o.v.kind==2);cases Z:(rv.kind==o.v.kind&&rv.n==o.v.n);have x:=skip (by rw[m,y,D];unfold Qb;rw[h4,Z];rfl);simp[D,h4,Z,T,f6,p,L,e,I,X,j0,c,j7 jA,H];rw[x];exact S.mono (λu _ h=>by simpa[jq] using h) zO;have Q:Qb o rv=true:=by unfold Qb;rw[h4,Z];rfl
     have q:YQ g.ts a o (n+1)=YQ g.ts a o n++[(n:Int)]:=by rw[J,m];simp[y,D,Q]
     simp[D,h4,Z,T,f6,p,e,I,j0,c,j7 jA,H];refine jN (cs:=[.int .i64 n]) (by simp[j6]) rfl rfl ?_;simp;refine YA (f:=yf) (hi:=F.nx) (l:=YQ g.ts a o n) (a:=(n:Int)) (v:=F.tm 5) (S.mono (λu _ h=>by simp[jf,h]) zK) zS (by simp[jF,yf]) j8 zQ rfl zO zO (λa0 N=>?_);have G:(YQ g.ts a o n).length+1=(YQ g.ts a o (n+1)).length:=by rw[q];simp
     rw[<- q,G];simp[I,X,p,L,e];exact⟨c,_,rfl,by simp[jf],zO⟩;have Q:Qb o rv=true:=by unfold Qb;rw[h4];rfl
     have q:YQ g.ts a o (n+1)=YQ g.ts a o n++[(n:Int)]:=by rw[J,m];simp[y,D,Q]
     simp[D,h4,T,f6,p,e,I,j0,c,j7 jA,H];refine jN (cs:=[.int .i64 n]) (by simp[j6]) rfl rfl ?_;simp;refine YA (f:=yf) (hi:=F.nx) (l:=YQ g.ts a o n) (a:=(n:Int)) (v:=F.tm 5) (S.mono (λu _ h=>by simp[jf,h]) zK) zS (by simp[jF,yf]) j8 zQ rfl zO zO (λa0 N=>?_);have G:(YQ g.ts a o n).length+1=(YQ g.ts a o (n+1)).length:=by rw[q];simp
     rw[<- q,G];simp[I,X,p,L,e];exact⟨c,_,rfl,by simp[jf],zO⟩
    ·have:n=g.ts.length:=zO;subst this;obtain⟨u,hv,_,_⟩:=S;simp[I,T,o4,j0,ya];rw[<- jxo P];exact slE (t:=some (u,1)) (nl:=false) (k:=(YQ g.ts a o g.ts.length).length) (cs:=(YQ g.ts a o g.ts.length).flatMap yf) (λr h=>h) (by simp[fd]) (by simp[hv])
   by_cases hk:o.v.kind=1;simp[hk];refine O _ 1280 _ zS zS zS zI zS (by simp[yQ,hk]) (by simp;rfl) ?_ zS zS zS;exact⟨192,by simp[JK,hk],by simp[jf],zS⟩;have b6:(o.v.kind != 1)=true:=by simp[hk]
   simp[b6];refine jN (cs:=[.int .i64 (-1)]) (by simp[j6]) rfl rfl ?_;simp;refine YA (f:=yf) (hi:=576) (l:=[]) (a:=-1) (v:=.sl (some (192,1)) false 0 []) ⟨192,rfl,by simp[jf],zO⟩ zS (by simp[jF,yf]) j8 zQ rfl zS zS (λa0 N=>?_);simp;refine O _ 1280 _ zS zS zS zI zS (by simp[yQ]) (by simp;rfl) ?_ zS zS zS;exact⟨1792,by simp[JK,hk],by simp[jf],zS⟩
  simp;exact slE (t:=some (192,1)) (nl:=false) (k:=0) (cs:=[]) (λr h=>h) zS zS
def XB {ub:Nat}{v:V}{nl:Bool}{n:Nat}{cs:List V}{K:Delta->Prop}(a:SlR v nl n cs) (h:∀t add,K { v:=.sl t nl n cs,add:=add }):wpD (Xt ub v) K:=by obtain⟨t,add,b⟩:=jkh (ub:=ub) a;rw[b,jJ];exact h t add
def len0 {a:Type}(l:List a):((l.length:Int)==0)=l.isEmpty:=by cases l<;>simp<;>omega
def len0b {b a:Type}(l:List b) (m:List a):((l.length:Int)+m.length==0)=(l.isEmpty&&m.isEmpty):=by cases l<;>cases m<;>simp<;>omega
def jX (g:Hist'):Bool:=Yr g&&((Y3 g).isEmpty&&(jdu g).isEmpty)
def ev30 {g:Hist'}(i:Small g):Ev E 30 [.agg (ya g)] (.bool (jX g)):=by
 have a:=ev53 i;refine jQ rfl ?_;unfold jX;cases b:Yr g
 ·conv in(occs:=*)F30=>all_goals cbv
  simp[ya,j0];refine jL a zI rfl zI ?_;have c:(errH g==0)=false:=by simp[Qw b]
  simp[c];exact j5 zS zS rfl
 ·rw[W2 b]at a;obtain⟨n,j,l,h⟩:=ev54 i b;obtain⟨m,f,k,e⟩:=ev55 i b;conv in(occs:=*)F30=>all_goals cbv
  simp[ya,j0];refine jL a zI rfl zI ?_;simp[j0];refine jL j zI rfl zI ?_;refine XB h λt add=>?_;have d:=len0 (Y3 g);cases c:(Y3 g).isEmpty;rw[c]at d;simp[d];exact j5 zS zS rfl;rw[c]at d;simp[d,j0];refine jL f zI rfl zI ?_;refine XB e λt add=>?_;simp;exact j5 zS (by simp[len0]) rfl
def ev28 {g:Hist'}(b:Small g):Ev E 28 [.agg (ya g)] (.bool (jX g)):=by
 have a:=ev48 b;refine jQ rfl ?_;unfold jX;cases f:Yr g
 ·conv in(occs:=*)F28=>all_goals cbv
  simp[ya,j0];refine Jb a zI rfl zI ?_;have k:(errH g==0)=false:=by simp[Qw f]
  simp[k];exact j5 zS zS rfl
 ·rw[W2 f]at a;have e:=ev49 g (by have:=b.ts;omega);obtain⟨n,d,h,c⟩:=ev50 b;have B:=bnd_of b;have m:=B.i;have o:=B.l;have j:IntKind.i64.wrap (((Y3 g).length:Int)+(jdu g).length)=((Y3 g).length:Int)+(jdu g).length:=jk zO zO;conv in(occs:=*)F28=>all_goals cbv
  simp[ya,j0];refine Jb a zI rfl zI ?_;simp[j0];refine Jb e zI rfl zI ?_;rw[jrd];simp[j0];refine Jb d zI rfl zI ?_;refine XB c λt add=>?_;simp[j];exact j5 zS (by simp[len0b]) rfl
def ev25 {a b:Bool}(l m:List Int) (B:l.length<=1000000000) (F:m.length<=1000000000):Ev E 25 [yl a yf l,yl b yf m] (.bool (l==m)):=by
 refine jQ rfl ?_;have q:∀(l:List Int) (i:Nat) (h:i<l.length),(l.flatMap yf)[i]? = some (.int .i64 l[i]):=λl i h=>by have:=jZ j8 l h (by decide:0<1);rw[bB,bp]at this;rw[this];rfl
 by_cases k:l.length=m.length
 ·conv in(occs:=*)F25=>all_goals cbv
  simp[k];refine j9 [(4,5),(11,40)] l.length (λi s=>s.tm 5=.int .i64 i/\l.take i=m.take i) rfl rfl ⟨zS,zS⟩ ?_;rintro i s D ⟨p,o⟩ f;have n:s.tm 0=yl a yf l:=by rw[f.t 0 zS];simp
  have v:s.tm 1=yl b yf m:=by rw[f.t 1 zS];simp
  have r:s.df=[]:=by rw[f.d];simp
  clear f;by_cases j:i<l.length;have x:=jb j zO;have c:i<m.length:=zO;have w:=q l i j;have u:=q m i c;cases g:(l[i] != m[i]);have z:l[i]=m[i]:=by simpa using g
  simp[p,n,v,j,c,j7 j8,w,u,g,x];rw[ay j,ay c,o,z];have y:l[i]≠m[i]:=by simpa using g
  simp[p,n,v,j,c,j7 j8,w,u,g];refine j5 (by simp[r]) ?_ rfl;have:(l==m)=false:=by rw[zk];intro e;subst e;exact y rfl
  simp[this];have:i=l.length:=zO;subst this;simp[p,n];refine j5 (by simp[r]) ?_ rfl;have:l=m:=by rw[bk,k,bk]at o;exact o
  simp[this]
 ·have g:((l.length:Int) != m.length)=true:=by simp;omega
  conv in(occs:=*)F25=>all_goals cbv
  simp[g];refine j5 zS ?_ rfl;have:(l==m)=false:=by rw[zk];intro e;subst e;exact k rfl
  simp[this]
def ev63 {a:Bool}(l:List Int) (v:l.length<=1000000000) (k:Int):Ev E 63 [yl a yf l,.int .i64 k] (.bool (l.contains k)):=by
 refine jQ rfl ?_;obtain⟨c,r⟩:∃c,l.contains k=c:=⟨_,rfl⟩;rw[r];conv in(occs:=*)F63=>all_goals cbv
 simp;refine j9 [(4,30)] l.length (λi s=>s.tm 5=.int .i64 i/\(l.drop i).contains k=c) rfl rfl ⟨zS,zU r⟩ ?_;rintro i s w ⟨n,g⟩ f;have m:s.tm 0=yl a yf l:=by rw[f.t 0 zS];simp
 have p:s.tm 1=.int .i64 k:=by rw[f.t 1 zS];simp
 have o:s.df=[]:=by rw[f.d];simp
 clear f;by_cases b:i<l.length;have u:=jb b zO;have q:=jt l b;rw[aR b,ec]at g;cases j:(l[i]==k);have h:(k==l[i])=false:=by rw[zk]at j ⊢;exact λe=>j e.symm
 rw[h,bQ]at g;simp[n,m,p,b,j7 j8,q,j,u];simpa using g;have h:(k==l[i])=true:=by rw[zh]at j ⊢;exact j.symm
 rw[h,gW]at g;simp[n,m,p,b,j7 j8,q,j];exact j5 (by simp[o]) (by rw[<- g];simp) rfl;have:i=l.length:=zO;subst this;rw[dc]at g;simp[n,m];exact j5 (by simp[o]) (by rw[<- g];simp) rfl
def yG:List Int->Int->Nat->Int
 |[],_,_=>-1
 |x::r,k,n=>if k==x then n else yG r k (n+1)
def je8 (k:Int):∀(l:List Int) (n:Nat),decide (yG l k n<0) = !l.contains k
 |[],n=>rfl
 |x::r,n=>by rw[yG,ec];cases h:(k==x);simpa using je8 k r (n+1);simp
def ev148 {a:Bool}(l:List Int) (q:l.length<=1000000000) (k:Int):Ev E 148 [yl a yf l,.int .i64 k] (.int .i64 (yG l k 0)):=by
 refine jQ rfl ?_;conv in(occs:=*)F148=>all_goals cbv
 simp;refine j9 [(4,5),(8,30)] l.length (λi s=>s.tm 8=.int .i64 i/\yG (l.drop i) k i=yG l k 0) rfl rfl ⟨zS,zS⟩ ?_;rintro i s r ⟨h,c⟩ f;have o:s.tm 0=yl a yf l:=by rw[f.t 0 zS];simp
 have m:s.tm 1=.int .i64 k:=by rw[f.t 1 zS];simp
 have g:s.tm 7=.int .i64 l.length:=by rw[f.t 7 zS];simp
 have j:s.df=[]:=by rw[f.d];simp
 clear f;by_cases b:i<l.length;have p:=jb b zO;have n:=jt l b;rw[aR b,yG]at c;cases e:(k==l[i]);rw[e]at c;simp[h,o,m,g,b,j7 j8,n,e,p];simpa using c;rw[e]at c;simp[h,o,m,g,b,j7 j8,n,e];exact j5 (by simp[j]) (by rw[<- c];simp) rfl;have:i=l.length:=zO;subst this;rw[dc,yG]at c;simp[h,g];exact j5 (by simp[j]) (by rw[<- c];simp) rfl
def WP (l:List (Int×Int)) (ob:ZO) {i:Nat}(h:i<l.length):W3 ob (some 2) (.eptr (l.flatMap jE) (i*2))=some (.agg [.int .i64 (l[i]).1,.int .i64 (l[i]).2]):=jd jU ob l h
def X4 (t:Txn'):Bool:=t.f==1
def comH (g:Hist'):List Int:=if jX g then yt X4 g.ts g.ts.length else []
def ev70 {g:Hist'}(D:Small g):∃v,Ev E 70 [.agg (ya g)] v/\SlR v (comH g).isEmpty (comH g).length ((comH g).flatMap yf):=by
 have j:=ev30 D;have J:=D.ts;refine X6 rfl zQ ?_;unfold comH;cases q:jX g
 ·rw[q]at j;conv in(occs:=*)F70=>all_goals cbv
  simp[ya,j0];refine jL j zI rfl zI ?_;simp;exact slE (t:=none) (nl:=true) (k:=0) (cs:=[]) (λr h=>h) zS zS
 rw[q]at j;conv in(occs:=*)F70=>all_goals cbv
 simp[ya,j0];refine jL j zI rfl zI ?_;simp[j0];refine j9 [(3,5),(12,24)] g.ts.length (λi s=>s.tm 12=.int .i64 i/\Grow s.tk 0 s.nx yf 1 (yt X4 g.ts i) (s.tm 3)) rfl rfl ⟨zS,by simp[yt];exact Grow.nil _ _ _ _ _⟩ ?_;rintro i s hi ⟨m,B⟩ f;have x:s.tm 10=yl g.tn jl g.ts:=by rw[f.t 10 zS];simp
 have n:s.tm 11=.int .i64 g.ts.length:=by rw[f.t 11 zS];simp
 have H:s.df=[]:=by rw[f.d];simp
 have F:s.fb=0:=by rw[f.b];simp
 have fr:s.ro=0:=by rw[f.r];simp
 clear f;by_cases e:i<g.ts.length;have q:=jb e zO;have c:=Jk (p:=X4) e;obtain⟨t,w⟩:∃t,g.ts[i]=t:=⟨_,rfl⟩;rw[w]at c;have I:=Jh X4 g.ts i;cases hi:X4 t;have o:(t.f==1)=false:=hi;rw[hi]at c;simp only[ah,zc,aP]at c;simp[m,x,n,e,j7 jA,jd jA,w,jl,j0,F,fr,j6,o,q];rw[c];exact B.mono (λu _ _ h=>by simpa[jq] using h) zO;have o:(t.f==1)=true:=hi;rw[hi]at c;simp only[zd]at c;simp[m,x,n,e,j7 jA,jd jA,w,jl,j0,F,fr,j6,o];refine jN (cs:=[.int .i64 i]) (by simp[j6]) rfl rfl ?_;simp;refine Xn (f:=yf) (lo:=0) (hi:=s.nx) (l:=yt X4 g.ts i) (a:=(i:Int)) (v:=s.tm 3) (B.mono (λu _ _ h=>by simp[jf,h]) zK) zS (by simp[jF,yf]) j8 zQ rfl zO zO (λK G=>?_);have z:yt X4 g.ts (i+1)≠[]:=by rw[c];simp
 have y:(yt X4 g.ts i).length+1=(yt X4 g.ts (i+1)).length:=by rw[c];simp
 rw[<- c,y];simp[m,q];exact⟨e,.inr ⟨z,_,rfl,by simp[jf],ch _,zO⟩⟩;have:i=g.ts.length:=zO;subst this;obtain⟨t,w⟩:=B.form;simp[m,n];exact slE (t:=t) (nl:=(yt X4 g.ts g.ts.length).isEmpty) (k:=(yt X4 g.ts g.ts.length).length) (cs:=(yt X4 g.ts g.ts.length).flatMap yf) (λr h=>h) (by simp[H]) (by simp[w])
def j6u (t:Txn') (L:t.ops.length<=1000000) (k:Int) {n:Nat}(N:n<=t.ops.length):Ev E 107 [.agg (jl t),.int .i64 n,.int .i64 k] (.tup [.agg (J4 (JD k t.ops n).1),.bool (JD k t.ops n).2]):=by
 refine jQ rfl ?_;conv in(occs:=*)F107=>all_goals cbv
 simp[jl,j0,j6];refine j9 [(9,10),(12,45)] n (λi s=>s.tm 10=.int .i64 i/\s.ob 6=some ⟨0,.cells (jl t)⟩/\s.ob 12=some ⟨64,.cells [.int .i64 0,.int .i64 0]⟩/\s.ob 16=some ⟨256,.cells (J4 (JD k t.ops i).1)⟩/\s.tm 9=.bool (JD k t.ops i).2) rfl rfl
  ⟨zS,by simp[jl],zS,by simp[JD,J4],by simp[JD]⟩ ?_
 rintro i s M ⟨j,y,g,h,D⟩ f;have u:s.tm 1=.int .i64 n:=by rw[f.t 1 zS];simp
 have G:s.tm 2=.int .i64 k:=by rw[f.t 2 zS];simp
 have F:s.tm 3=.ptr 6 0 0:=by rw[f.t 3 zS];simp
 have I:s.tm 6=.ptr 12 64 0:=by rw[f.t 6 zS];simp
 have H:s.tm 8=.ptr 16 256 0:=by rw[f.t 8 zS];simp
 have J:s.df=[]:=by rw[f.d];simp
 have fr:s.ro=0:=by rw[f.r];simp
 clear f;by_cases p:i<n;have a:i<t.ops.length:=zO;have z:=jb a zO;have c:=jan (k:=k) a;obtain⟨o,x⟩:∃o,t.ops[i]=o:=⟨_,rfl⟩;rw[x]at c;have B:(t.ops.flatMap yQ)[i*4]? = some (.bool o.w):=by have:=jZ jH t.ops a (by decide:0<4);rw[bp,x]at this;rw[this];rfl
 have a1:(t.ops.flatMap yQ)[i*4+1]? = some (.int .i64 o.key):=by rw[jZ jH t.ops a (by decide:1<4),x];rfl
 have a2:∀ob,W3 ob (some 2) (.eptr (t.ops.flatMap yQ) (i*4+2))=some (.agg (J4 o.v)):=λob=>by
  have K:i*4+4<=t.ops.length*4:=zO;rw[jdx,Wo,zb (by rw[j4 jH];omega)];have:=Xp jH t.ops i a;rw[x]at this;have e:((t.ops.flatMap yQ).drop (i*4+2)).take 2=((((t.ops.flatMap yQ).drop (i*4)).take 4).drop 2):=by rw[gp,dI]
  rw[e,this];rfl
 cases b:o.w;have q:wkB k o=false:=by unfold wkB;rw[b];rfl
 rw[q]at c;simp only[ah,zc]at c;simp[j,u,F,y,j0,jl,p,a,j7 jH,B,b,z,g,h,D];exact⟨by rw[c],by rw[c]⟩;cases m:(o.key==k);have q:wkB k o=false:=by unfold wkB;rw[b,m];rfl
 rw[q]at c;simp only[ah,zc]at c;simp[j,u,G,F,y,j0,jl,p,a,j7 jH,B,a1,b,m,z,g,h,D];exact⟨by rw[c],by rw[c]⟩;have q:wkB k o=true:=by unfold wkB;rw[b,m];rfl
 rw[q]at c;simp only[zd]at c;simp[j,u,G,F,H,y,j0,jl,p,a,j7 jH,B,a1,a2,b,m,z,g,h,J4,fr,j6];rw[c];simp;have:i=n:=zO;subst this;simp[j,u,H,h,j0,D,I,g,J4,fr,j6];exact JM (by simp[J]) (l:=[.agg (J4 (JD k t.ops i).1),.bool (JD k t.ops i).2]) (by simp[jv,j0,I,J4]) rfl rfl
def ev161 {g:Hist'}(p:Small g) (a b:Int):Ev E 161 [.agg (ya g),.agg (jE (a,b))] (.bool (opAt g a b).isSome):=by
 have m:=ev48 p;have s:=p.ts;refine jQ rfl ?_;obtain⟨R,c⟩:∃R,opAt g a b=R:=⟨_,rfl⟩;rw[c];unfold opAt at c;conv in(occs:=*)F161=>all_goals cbv
 simp[ya,j0,jE];refine Jb m zI rfl zI ?_;cases k:Yr g;rw[Qw k];rw[k]at c;subst c;simp;exact j5 zS zS rfl;rw[k]at c;rw[W2 k];by_cases r:a<0;have d:¬0<=a:=zO;rw[za zP]at c;subst c;simp[d,j0];exact j5 zS zS rfl;have d:0<=a:=zO;by_cases w:(g.ts.length:Int)<=a;have f:¬(a<(g.ts.length:Int)):=zO;rw[za zP]at c;subst c;simp[d,f,j0];exact j5 zS zS rfl;have f:a<(g.ts.length:Int):=zO;by_cases v:b<0;have l:¬0<=b:=zO;rw[za zP]at c;subst c;simp[d,f,l,j0];exact j5 zS zS rfl;have l:0<=b:=zO;obtain⟨i,rfl⟩:∃i:Nat,a=i:=⟨a.toNat,zO⟩;have h:i<g.ts.length:=zO;rw[aX,JN h]at c;obtain⟨t,o⟩:∃t,g.ts[i]=t:=⟨_,rfl⟩;rw[o]at c;have e:(g.ts.flatMap jl)[i*3+2]? = some (yl t.nl yQ t.ops):=by rw[jZ jA g.ts h (by decide:2<3),o];rfl
 by_cases q:(t.ops.length:Int)<=b;have n:¬(b<(t.ops.length:Int)):=zO;rw[za zP]at c;subst c;simp[d,f,l,n,j0,h,j7 jA,e];exact j5 zS zS rfl;have n:b<(t.ops.length:Int):=zO;obtain⟨j,rfl⟩:∃j:Nat,b=j:=⟨b.toNat,zO⟩;have u:j<t.ops.length:=zO;rw[zb zP,aX,aa u]at c;subst c;simp[d,f,l,n,j0,h,j7 jA,e];exact j5 zS zS rfl
def jud (g:Hist') (a b:Int):Val'×Bool:=match opAt g a b with
 |some o=>JD o.key (g.ts.getD a.toNat ⟨0,0,true,[]⟩).ops b.toNat
 |none=>(⟨0,0⟩,false)
def jck (g:Hist') (a b:Int):Bool:=match opAt g a b with
 |some o=>!o.w && !(jud g a b).2
 |none=>false
def ev162 {g:Hist'}(m:Small g) (a b:Int):Ev E 162 [.agg (ya g),.agg (jE (a,b))] (.tup [.agg (J4 (jud g a b).1),.bool (jud g a b).2]):=by
 have c:=ev161 m a b;refine jQ rfl ?_;unfold jud;cases d:opAt g a b with
 |none=>
  rw[d]at c;conv in(occs:=*)F162=>all_goals cbv
  simp[ya,jE,j0];refine jL c (by simp[ya,jE]) rfl (by simp[ya,jE]) ?_;simp[j0,j6];exact JM zS (l:=[.agg (J4 ⟨0,0⟩),.bool false]) (by simp[jv,j0,J4]) rfl rfl
 |some o=>
  rw[d]at c;obtain⟨i,j,rfl,rfl,e,p,q⟩:=jcn d;have r:=m.os _ (au e);have h:=j6u g.ts[i] zO o.key (n:=j) zO;simp only[aX];rw[JN e];have f:(g.ts.flatMap jl)[i*3+2]? = some (yl (g.ts[i]).nl yQ (g.ts[i]).ops):=by rw[jZ jA g.ts e (by decide:2<3)];rfl
  have k:((g.ts[i]).ops.flatMap yQ)[j*4+1]? = some (.int .i64 o.key):=by rw[jZ jH (g.ts[i]).ops p (by decide:1<4),q];rfl
  conv in(occs:=*)F162=>all_goals cbv
  simp[ya,jE,j0];refine jL c (by simp[ya,jE]) rfl (by simp[ya,jE]) ?_;simp[j0,e,p,j7 jA,j7 jH,jd jA,f,k];refine Jb h (by simp[jl]) rfl (by simp[jl]) ?_;rw[JW (by simp[V.plain,J4])];generalize (JD o.key g.ts[i].ops j).1=rv at *;generalize (JD o.key g.ts[i].ops j).2=rb at *;simp[J4,j0,j6];exact JM zS (l:=[.agg [.int .i64 rv.kind,.int .i64 rv.n],.bool rb]) (by simp[jv,j0]) rfl rfl
def ev106 {g:Hist'}(n:Small g) (a b:Int):Ev E 106 [.agg (ya g),.agg (jE (a,b))] (.bool (jck g a b)):=by
 have c:=ev161 n a b;have f:=ev162 n a b;refine jQ rfl ?_;unfold jck;cases d:opAt g a b with
 |none=>
  rw[d]at c;conv in(occs:=*)F106=>all_goals cbv
  simp[ya,jE,j0];refine Jb c (by simp[ya,jE]) rfl (by simp[ya,jE]) ?_;simp;exact j5 zS zS rfl
 |some o=>
  rw[d]at c;obtain⟨i,j,rfl,rfl,k,l,p⟩:=jcn d;have e:(g.ts.flatMap jl)[i*3+2]? = some (yl (g.ts[i]).nl yQ (g.ts[i]).ops):=by rw[jZ jA g.ts k (by decide:2<3)];rfl
  have h:((g.ts[i]).ops.flatMap yQ)[j*4]? = some (.bool o.w):=by have:=jZ jH (g.ts[i]).ops l (by decide:0<4);rw[bp,p]at this;rw[this];rfl
  conv in(occs:=*)F106=>all_goals cbv
  simp[ya,jE,j0];refine Jb c (by simp[ya,jE]) rfl (by simp[ya,jE]) ?_;generalize jud g (i:Int) (j:Int)=ow at *;cases m:o.w;simp[j0,k,l,j7 jA,j7 jH,e,h,m];refine jL f (by simp[ya,jE]) rfl (by simp[ya,jE]) ?_;rw[JW (by simp[V.plain,J4])];simp[J4,j0,j6];exact j5 zS zS rfl;simp[j0,k,l,j7 jA,j7 jH,e,h,m];exact j5 zS zS rfl
def ev112 {g:Hist'}(G:Small g) (a b:Int):Ev E 112 [.agg (ya g),.agg (jE (a,b))] (.bool (jck g a b)):=by
 have e:=ev110 G a;refine jQ rfl ?_;unfold jck;cases c:opAt g a b with
 |none=>
  conv in(occs:=*)F112=>all_goals cbv
  simp[ya,jE,j0];refine jL e zI rfl zI ?_;rw[JT rfl,jJ];have p:b<0\/((Jv g a).2.length:Int)<=b:=by unfold opAt at c;unfold Jv;by_cases d:(Yr g&&(decide (0<=a)&&decide (a<g.ts.length)))=true;rw[zb d];simp only[ab,ze]at d;by_cases l:b<0;exact .inl l;by_cases F:b<((g.ts.getD a.toNat ⟨0,0,true,[]⟩).ops.length:Int);rw[zb (by simp only[ab,ze];exact⟨d.1,d.2.1,d.2.2,zO,F⟩)]at c;rw[List.getElem?_eq_none_iff]at c;exact zf c zO;exact .inr (Int.not_lt.1 F);rw[za d];by_cases l:b<0;exact .inl l;exact .inr zP
  generalize Jv g a=oo at *;by_cases d:b<0;simp[j0,d];exact j5 zS zS rfl;have l:(oo.2.length:Int)<=b:=by rcases p with h|h;exact zf h d;exact h
  simp[j0,d,l];exact j5 zS zS rfl
 |some o=>
  have s:Yr g=true:=by unfold opAt at c;cases J:Yr g;rw[J]at c;cases c;rfl
  unfold jud;rw[c];obtain⟨i,j,rfl,rfl,y,q,D⟩:=jcn c;simp only[aX];rw[JN y];have v:Jv g (i:Int)=((g.ts[i]).nl,(g.ts[i]).ops):=by unfold Jv;rw[s,zb zP];simp only[aX];rw[JN y]
  rw[v]at e;have K:=G.os _ (au y);have r:((g.ts[i]).ops.flatMap yQ)[j*4]? = some (.bool o.w):=by have:=jZ jH (g.ts[i]).ops q (by decide:0<4);rw[bp,D]at this;rw[this];rfl
  have x:((g.ts[i]).ops.flatMap yQ)[j*4+1]? = some (.int .i64 o.key):=by rw[jZ jH (g.ts[i]).ops q (by decide:1<4),D];rfl
  have I:decide ((j:Int)<0)=false:=zS;have M:decide (((g.ts[i]).ops.length:Int)<=j)=false:=by simp;omega
  have L:((g.ts[i]).ops.length<=j)=False:=by simp;omega
  have H:(((g.ts[i]).ops.length:Int)<=j)=False:=by simp;omega
  have f:j<=(g.ts[i]).ops.length:=zO;have z:Y5 4 none (some (.int .i64 (j:Int))) (yl (g.ts[i]).nl yQ (g.ts[i]).ops)=some (yl (g.ts[i]).nl yQ ((g.ts[i]).ops.take j)):=by
   have d:=joz (kk:=.i64) (t:=none) (nl:=(g.ts[i]).nl) (sz:=4) (cs:=(g.ts[i]).ops.flatMap yQ) (n:=(g.ts[i]).ops.length) (k:=j) f (j4 jH _);refine Eq.trans d ?_;have l:((g.ts[i]).ops.flatMap yQ).take (j*4)=((g.ts[i]).ops.take j).flatMap yQ:=by
    conv=>lhs;rw[<- du j (g.ts[i]).ops,cn]
    rw[dD];rw[j4 jH,ai,cC f]
   rw[l,yl,ai,cC f]
  have u:=ev111 (g.ts[i]).nl ((g.ts[i]).ops.take j) (by rw[ai];omega) o.key;have m:(W4 ((g.ts[i]).ops.take j) o.key).2=(JD o.key (g.ts[i]).ops j).2:=by unfold W4;rw[jch _ _ _ zK,jch _ _ _ f,bk]
  conv in(occs:=*)F112=>all_goals cbv
  simp[ya,jE,j0];refine jL e zI rfl zI ?_;rw[JT rfl,jJ];cases B:o.w
  ·simp[j0,I,H,q,j7 jH,r,B];simp[z,x,q,j7 jH,j0];refine Jb u zS rfl zS ?_;rw[JW (by simp[V.plain,J4])];rw[<- m];generalize W4 ((g.ts[i]).ops.take j) o.key=lw at *;simp[J4,j0,j6];refine⟨by simp[Jc,W6,QR,Qe,yy,yz,yP,Delta.wo,Delta.wt];try decide,?_⟩;exact j5 zS zS rfl
  simp[j0,I,H,q,j7 jH,r,B];exact j5 zS zS rfl
def J9 (g:Hist') (i:Nat):Nat->List (Int×Int)
 |0=>[]
 |k+1=>J9 g i k++(if jck g i k then [((i:Int),(k:Int))] else [])
def XC (g:Hist'):Nat->List (Int×Int)
 |0=>[]
 |i+1=>XC g i++(match g.ts[i]? with|some t=>if X4 t then J9 g i t.ops.length else []|none=>[])
def yi (g:Hist'):List (Int×Int):=XC g g.ts.length
def Yq (g:Hist') (i:Nat):∀k,(J9 g i k).length<=k
 |0=>dx _
 |k+1=>by have:=Yq g i k;simp only[J9,aw];split<;>simp<;>omega
def jam {g:Hist'}(a:Small g):∀i,(XC g i).length<=i*1000
 |0=>ch _
 |i+1=>by have:=jam a i;simp only[XC,aw];rw[show(i+1)*1000=i*1000+1000 by omega];split;rename_i t b;have c:=Yq g i t.ops.length;have d:=a.os t (aH b);split;omega;simp only[ct];omega;simp only[ct];omega
def jf6 {g:Hist'}{i:Nat}(h:i<g.ts.length):XC g (i+1)=XC g i++(if X4 g.ts[i] then J9 g i (g.ts[i]).ops.length else []):=by simp only[XC,aa h]
def ev64 {g:Hist'}(D:Small g):∃v,Ev E 64 [.agg (ya g)] v/\SlR v false (yi g).length ((yi g).flatMap jE):=by
 have a0:=D.ts;refine X6 rfl zQ ?_;conv in(occs:=*)F64=>all_goals cbv
 simp[ya];refine jN (cs:=[]) rfl rfl rfl ?_;simp;refine j9 [(3,6),(8,44)] g.ts.length (λi s=>s.tm 4=.int .i64 i/\s.ob 2=some ⟨0,.cells (ya g)⟩/\GrowT s.tk s.nx jE 2 (XC g i) (s.tm 3)) rfl rfl ⟨zS,zI,by rw[XC];exact⟨128,zS,by simp[jf],zS⟩⟩ ?_;rintro i s hi ⟨I,J,U⟩ f;have H:s.tm 1=.ptr 2 0 0:=by rw[f.t 1 zS];simp
 have N:s.df=[]:=by rw[f.d];simp
 have Z:s.fb=0:=by rw[f.b];simp
 have fr:s.ro=0:=by rw[f.r];simp
 clear f;by_cases c:i<g.ts.length;have X:=jb c zO;simp[I,H,J,j0,ya,c];refine j9 [(3,3),(5,6),(15,44)] (g.ts[i]).ops.length (λk m=>m.tm 5=.int .i64 k/\m.ob 2=some ⟨0,.cells (ya g)⟩/\GrowT m.tk m.nx jE 2 (XC g i++(if X4 g.ts[i] then J9 g i k else [])) (m.tm 3)) rfl rfl ⟨zS,by simp[J],by simp[J9];exact U.mono (λ_ _ h=>h) zO⟩ ?_;rintro k m hk ⟨y,n,j⟩ f;have K:m.tm 1=.ptr 2 0 0:=by rw[f.t 1 zS];simp[H]
 have M:m.tm 4=.int .i64 i:=by rw[f.t 4 zS];simp[I]
 have ed:m.df=[]:=by rw[f.d];simp[N]
 have Q:m.fb=0:=by rw[f.b];simp[Z]
 have O:m.ro=0:=by rw[f.r];simp[fr]
 clear f;have G:=ev106 D (i:Int) (k:Int);have b5:=D.os _ (au c);have B:(g.ts.flatMap jl)[i*3+1]? = some (.int .i64 (g.ts[i]).f):=by rw[jZ jA g.ts c (by decide:1<3)];rfl
 have w:(g.ts.flatMap jl)[i*3+2]? = some (yl (g.ts[i]).nl yQ (g.ts[i]).ops):=by rw[jZ jA g.ts c (by decide:2<3)];rfl
 by_cases o:k<(g.ts[i]).ops.length;have p:=jb o zO;have x:(XC g i++(if X4 g.ts[i] then J9 g i k else [])).length<=1001000:=by have h1:=jam D i;have h2:=Yq g i k;have:i*1000<=1000*1000:=bf _ zO;rw[aw];split;omega;simp only[ct];omega
 cases F:X4 g.ts[i];have q:((g.ts[i]).f==1)=false:=F;rw[F]at j;simp[y,K,M,n,j0,ya,c,j7 jA,w,B,o,j6,Q,O,q,p];simpa using j.mono (λu _ h=>by simpa[jq] using h) zO;have q:((g.ts[i]).f==1)=true:=F;rw[F]at j x;simp only[zd]at j x;simp[y,K,M,n,j0,ya,c,j7 jA,w,B,o,j6,Q,O,q];refine jL G (by simp[ya,jE]) rfl (by simp[ya,jE]) ?_;cases T:jck g i k;simp[y,p,n,ya];have e:J9 g i (k+1)=J9 g i k:=by rw[J9,T];simp
 rw[e];exact⟨o,j.mono (λu _ h=>by simpa[jq] using h) zO⟩;simp[j0];have e:XC g i++J9 g i (k+1)=(XC g i++J9 g i k)++[((i:Int),(k:Int))]:=by rw[J9,T,bj];simp
 refine jN (cs:=jE (i,k)) (by simp[j6,jE]) rfl rfl ?_;simp;refine YA (f:=jE) (hi:=m.nx) (l:=XC g i++J9 g i k) (a:=((i:Int),(k:Int))) (v:=m.tm 3) (j.mono (λu _ h=>by simp[jf,h]) zK) zS (by simp[jF,jE]) jU zQ rfl zO zO (λb0 P=>?_);have z:(XC g i++J9 g i k).length+1=(XC g i++J9 g i (k+1)).length:=by rw[e,aw (bs:=[_])];rfl
 rw[<- e,z];obtain⟨L,S⟩:∃L,XC g i++J9 g i (k+1)=L:=⟨_,rfl⟩;rw[S];simp[y,p,n,ya,S];exact⟨o,_,rfl,by simp[jf],zO⟩;have:k=(g.ts[i]).ops.length:=zO;subst this;simp[y,K,M,n,j0,ya,c,j7 jA,w,X];rw[jf6 c];exact j.mono (λ_ _ h=>h) zO;have:i=g.ts.length:=zO;subst this;obtain⟨u,hv,_,_⟩:=U;simp[I,H,J,j0,ya];exact slE (t:=some (u,2)) (nl:=false) (k:=(yi g).length) (cs:=(yi g).flatMap jE) (λr h=>h) (by simp[N]) (by simp[hv,yi])
def rdOf (g:Hist') (x:Int):List (Int×Int):=J9 g x.toNat (g.ts.getD x.toNat ⟨0,0,true,[]⟩).ops.length
def jo4 {g:Hist'}{i:Nat}(h:i<g.ts.length):rdOf g i=J9 g i (g.ts[i]).ops.length:=by unfold rdOf;rw[aX,JN h]
def jf8 {g:Hist'}:∀n,n<=g.ts.length->(yt X4 g.ts n).flatMap (rdOf g)=XC g n
 |0,_=>rfl
 |n+1,h=>by rw[Jk zO,jf6 zO,cn,jf8 n zO];cases X4 g.ts[n];rfl;simp[jo4 (show n<g.ts.length by omega)]
def jbt (g:Hist'):List (Int×Int):=if jX g then yi g else []
def jt8 (g:Hist'):(comH g).flatMap (rdOf g)=jbt g:=by unfold comH jbt;split;exact jf8 _ zK;rfl
def comH_lt {g:Hist'}:∀x∈comH g,0<=x/\x<g.ts.length:=by unfold comH;split;exact(Qv (p:=X4) (ts:=g.ts) _ zK).1;simp
def j5h (g:Hist'):(comH g).length<=g.ts.length:=by unfold comH;split;exact Jh _ _ _;simp
def jfn {g:Hist'}(a:Small g):∀(l:List Int),(∀x∈l,0<=x/\x<g.ts.length)->(l.flatMap (rdOf g)).length<=l.length*1000
 |[],_=>ch _
 |x::l,h=>by obtain⟨f,d⟩:=h x (aK ..);obtain⟨i,rfl⟩:∃i:Nat,x=i:=⟨x.toNat,zO⟩;have b:i<g.ts.length:=zO;have:=jfn a l λy c=>h y (aS _ c);have j:=Yq g i (g.ts[i]).ops.length;have e:=a.os _ (au b);rw[aZ,aw,jo4 b,bh,cJ];omega
def ev72 {g:Hist'}(J:Small g):∃v,Ev E 72 [.agg (ya g)] v/\SlR v (jbt g).isEmpty (jbt g).length ((jbt g).flatMap jE):=by
 have c0:=J.ts;obtain⟨vc,T,U⟩:=ev70 J;have c1:=j5h g;have q:=comH_lt (g:=g);rw[<- jt8];generalize comH g=C at *;obtain⟨L,hL⟩:∃L,C.flatMap (rdOf g)=L:=⟨_,rfl⟩;rw[hL];refine X6 rfl zQ ?_;conv in(occs:=*)F72=>all_goals cbv
 simp[ya,j0];refine jL T zI rfl zI ?_;refine XB U λtc b5=>?_;simp;refine j9 [(3,7),(11,36)] C.length (λi s=>s.tm 11=.int .i64 i/\s.ob 2=some ⟨0,.cells (ya g)⟩/\Grow s.tk 0 s.nx jE 2 ((C.take i).flatMap (rdOf g)) (s.tm 3)) rfl rfl ⟨zS,zI,by simp;exact Grow.nil _ _ _ _ _⟩ ?_;rintro i s hi ⟨z,o2,O⟩ f;have f1:s.tm 1=.ptr 2 0 0:=by rw[f.t 1 zS];simp
 have f9:s.tm 9=.sl tc C.isEmpty C.length (C.flatMap yf):=by rw[f.t 9 zS];simp
 have N:s.tm 10=.int .i64 C.length:=by rw[f.t 10 zS];simp
 have fd:s.df=[]:=by rw[f.d];simp
 have fb:s.fb=0:=by rw[f.b];simp
 have fr:s.ro=0:=by rw[f.r];simp
 clear f;by_cases m:i<C.length;have hw:=jb m zO;obtain⟨x,G⟩:∃x,C[i]=x:=⟨_,rfl⟩;obtain⟨x1,x2⟩:=q x (G▸au m);obtain⟨j,rfl⟩:∃j:Nat,x=j:=⟨x.toNat,zO⟩;have Q:j<g.ts.length:=zO;have I:=jt C m;rw[G]at I;have S:(g.ts.flatMap jl)[j*3+2]? = some (yl (g.ts[j]).nl yQ (g.ts[j]).ops):=by rw[jZ jA g.ts Q (by decide:2<3)];rfl
 have B:ju 1 (.sl tc C.isEmpty C.length (C.flatMap yf)) (.int .i64 (i:Int))=some (.eptr (C.flatMap yf) (i*1)):=by simp only[JF,j4 j8];rw[zb zP];rfl
 rw[bB]at B;simp[z,f1,f9,N,o2,j0,ya,m,B,I,Q,j7 jA,S];obtain⟨P,X⟩:∃P,(C.take i).flatMap (rdOf g)=P:=⟨_,rfl⟩;have b6:P.length<=1000000:=by have h1:=jfn J (C.take i) (λx G=>q x (da G));rw[X,ai]at h1;have:min i C.length*1000<=1000*1000:=bf _ zO;omega
 have w:(C.take (i+1)).flatMap (rdOf g)=P++J9 g j (g.ts[j]).ops.length:=by rw[ay m,cn,X,G];simp[jo4 Q]
 rw[X]at O;refine j9 [(3,3),(6,7),(22,35)] (g.ts[j]).ops.length (λk e=>e.tm 22=.int .i64 k/\e.ob 2=some ⟨0,.cells (ya g)⟩/\Grow e.tk 0 e.nx jE 2 (P++J9 g j k) (e.tm 3)) rfl rfl ⟨zS,by simp[o2],by simp[J9];exact O.mono (λ_ _ _ h=>h) zO⟩ ?_;rintro k e hk ⟨p,o,y⟩ f;have e1:e.tm 1=.ptr 2 0 0:=by rw[f.t 1 zS];simp[f1]
 have e5:e.tm 5=.int .i64 j:=by rw[f.t 5 zS];simp
 have Z:e.tm 11=.int .i64 i:=by rw[f.t 11 zS];simp[z]
 have K:e.tm 21=.int .i64 (g.ts[j]).ops.length:=by rw[f.t 21 zS];simp
 have ed:e.df=[]:=by rw[f.d];simp[fd]
 have eb:e.fb=0:=by rw[f.b];simp[fb]
 have er:e.ro=0:=by rw[f.r];simp[fr]
 clear f;have a0:=ev112 J (j:Int) (k:Int);have b9:=J.os _ (au Q);have b8:=Yq g j k;by_cases n:k<(g.ts[j]).ops.length;have H:=jb n zO;simp[p,e1,e5,K,o,j0,ya,n,j6,eb,er];refine jL a0 (by simp[ya,jE]) rfl (by simp[ya,jE]) ?_;cases ho:jck g j k;have c:J9 g j (k+1)=J9 g j k:=by rw[J9,ho];simp
 simp[p,H,o,ya];rw[c];exact⟨n,y.mono (λu _ _ h=>by simpa[jq] using h) zO⟩;have c:P++J9 g j (k+1)=(P++J9 g j k)++[((j:Int),(k:Int))]:=by rw[J9,ho,bj];simp
 simp[j0];refine jN (cs:=jE (j,k)) (by simp[j6,jE]) rfl rfl ?_;simp;refine Xn (f:=jE) (lo:=0) (hi:=e.nx) (l:=P++J9 g j k) (a:=((j:Int),(k:Int))) (v:=e.tm 3) (y.mono (λu _ _ h=>by simp[jf,h]) zK) zS (by simp[jF,jE]) jU zQ rfl (by rw[aw];omega) (by rw[aw];omega) (λb7 b0=>?_);have F:(P++J9 g j k).length+1=(P++J9 g j (k+1)).length:=by rw[c,aw (bs:=[_])];rfl
 have D:P++J9 g j (k+1)≠[]:=by rw[c];simp
 rw[<- c,F];obtain⟨M,hM⟩:∃M,P++J9 g j (k+1)=M:=⟨_,rfl⟩;rw[hM]at D ⊢;simp[p,H,o,ya,hM];exact⟨n,.inr ⟨D,_,rfl,by simp[jf],ch _,zO⟩⟩;have:k=(g.ts[j]).ops.length:=zO;subst this;simp[p,Z,K,o,ya,hw];rw[w];exact⟨m,y.mono (λ_ _ _ h=>h) zO⟩;have:i=C.length:=zO;subst this;rw[bk,hL]at O;obtain⟨t,ht⟩:=O.form;simp[z,N];exact slE (t:=t) (nl:=L.isEmpty) (k:=L.length) (cs:=L.flatMap jE) (λr h=>h) (by simp[fd]) (by simp[ht])
section
variable {E:Env}{st:St}{ub:Nat}{K:List FP->St->Prop}{d:Option Nat}{nm:Bool}{r:List AOpr}
def ju6 {i:Type}{f:i->List V}{sz b hi:Nat}{l:List i}{a:i}{v:V}{s x:A}(p:GrowT st.tk hi f sz l v) (o:ye E st.tm s=v) (q:jF st.ob sz (ye E st.tm x)=some (f a)) (c:∀a,(f a).length=sz) (m:0<sz)
 (hp:(f a).all V.pureLeaf=true) (n:(l.length+1)*b<=140737488355328) (j:l.length+1<=140737488355328)
 (h:∀del:Option Nat,(∀u,del=some u->u<hi)->YW E r K (ye E st.tm) (.append false sz b s x) st d ub { v:=.sl (some (ub,sz)) false (l.length+1) ((l++[a]).flatMap f),del:=del,add:=[ub] }):jG E (⟨d,.append false sz b s x,none,nm⟩::r) st ub K:=by
 have g:f a≠[]:=λe=>by have:=c a;rw[e]at this;simp at this;omega
 have k:(f a).length/sz=1:=by rw[c];exact gH m
 rw[jz rfl];obtain⟨u,rfl,t,w⟩:=p;simp only[yS,o,q,ap,za g,bE,ah,zc];rw[zb ⟨by rw[j4 c],m,hp,by rw[k];exact n,by rw[k];exact j⟩,zb (by simp[t]),jJ,k];have:=h (some u) (λy e=>by cases e;exact w);simpa using this
end
def WS (x:Bool×List Int):List V:=[.sl none x.1 x.2.length (x.2.flatMap yf)]
@[simp] theorem Yn (x:Bool×List Int):(WS x).length=1:=rfl
def badO (ops:List Op') (k:Nat) (o:Op'):Bool:=!o.w&&((o.v.kind != 2)&&((JD o.key ops k).2 && !(((JD o.key ops k).1.kind==o.v.kind)&&((JD o.key ops k).1.n==o.v.n))))
def YH (ops:List Op'):Nat->List Int
 |0=>[]
 |k+1=>YH ops k++(match ops[k]? with|some o=>if badO ops k o then [(k:Int)] else []|none=>[])
def jj1 {ops:List Op'}{k:Nat}(h:k<ops.length):YH ops (k+1)=YH ops k++if badO ops k ops[k] then [(k:Int)] else []:=by simp[YH,aa h]
def jhn (ops:List Op'):∀k,(YH ops k).length<=k
 |0=>by simp[YH]
 |k+1=>by have:=jhn ops k;simp only[YH,aw];split;split<;>simp<;>omega;simp;omega
def badH (g:Hist') (i:Int):List Int:=YH (Jv g i).2 (Jv g i).2.length
def jiq (key:Int) (ops:List Op') (k:Nat):∀j,j<=k->JD key (ops.take k) j=JD key ops j
 |0,_=>rfl
 |j+1,h=>by simp only[JD,jiq key ops k j zO,bi (show j<k by omega)]
def jux (key:Int) (ops:List Op') {k:Nat}(h:k<=ops.length):W4 (ops.take k) key=JD key ops k:=by unfold W4;rw[ai,cC h,jiq key ops k k zK]
def jwr {nl:Bool}{ops:List Op'}{k:Nat}(h:k<=ops.length):Y5 4 none (some (.int .i64 (k:Int))) (yl nl yQ ops)=some (yl nl yQ (ops.take k)):=by
 have a:=joz (kk:=.i64) (t:=none) (nl:=nl) (sz:=4) (cs:=ops.flatMap yQ) (n:=ops.length) (k:=k) h (j4 jH _);refine Eq.trans a ?_;have b:(ops.flatMap yQ).take (k*4)=(ops.take k).flatMap yQ:=by
  conv=>lhs;rw[<- du k ops,cn]
  rw[dD];rw[j4 jH,ai,cC h]
 rw[b,yl,ai,cC h]
def ev71 {g:Hist'}(U:Small g) (i:Int):∃v,Ev E 71 [.agg (ya g),.int .i64 i] v/\SlR v (badH g i).isEmpty (badH g i).length ((badH g i).flatMap yf):=by
 have B:=ev110 U i;have N:=jmp U i;unfold badH;refine X6 rfl zQ ?_;generalize Jv g i=oo at *;obtain⟨nl,ops⟩:=oo;simp only at B N ⊢;conv in(occs:=*)F71=>all_goals cbv
 simp[ya,j0];refine jL B zI rfl zI ?_;rw[JT rfl,jJ];simp;refine j9 [(5,5),(7,10),(16,49)] ops.length (λk s=>s.tm 16=.int .i64 k/\Grow s.tk 0 s.nx yf 1 (YH ops k) (s.tm 5)) rfl rfl ⟨zS,by simp[YH];exact Grow.nil _ _ _ _ _⟩ ?_;rintro k s hk ⟨m,G⟩ f;have f6:s.tm 6=yl nl yQ ops:=by rw[f.t 6 zS];simp
 have F:s.tm 14=yl nl yQ ops:=by rw[f.t 14 zS];simp
 have z:s.tm 15=.int .i64 ops.length:=by rw[f.t 15 zS];simp
 have X:s.df=[]:=by rw[f.d];simp
 have L:s.fb=0:=by rw[f.b];simp
 have fr:s.ro=0:=by rw[f.r];simp
 clear f;by_cases e:k<ops.length
 ·have p:=jb e zO;have c:=jj1 e;have Z:=jhn ops k;obtain⟨o,T⟩:∃o,ops[k]=o:=⟨_,rfl⟩;have j:W3 s.ob (some 4) (.eptr (ops.flatMap yQ) (k*4))=some (.agg (yQ o)):=by rw[jd jH s.ob ops e,T]
  have O:=jwr (nl:=nl) (ops:=ops) (k:=k) zO;have D:=ev111 nl (ops.take k) (by rw[ai];omega) o.key;rw[jux _ _ zO]at D;rw[T]at c;unfold badO at c;cases J:o.w
  ·rw[J]at c;cases x:(o.v.kind==2)
   ·have q:(o.v.kind != 2)=true:=by simp only[bne,x,cp]
    rw[q]at c;simp only[cp,bF]at c;simp[m,f6,F,z,e,j7 jH,j,j0,yQ,j6,L,fr,J,x,O];refine Jb D zS rfl zS ?_;rw[JW (by simp[V.plain,J4])];generalize JD o.key ops k=K at *;obtain⟨K,rb⟩:=K;simp only at c;simp[J4,j0,j6,L,fr];refine⟨by simp[Jc,W6,QR,Qe,yy,yz,yP,Delta.wo,Delta.wt];try decide,?_⟩;cases rb;simp[m,p];simp only[bE,ah,zc,aP]at c;rw[c];exact⟨e,G.mono (λu _ P h=>by simpa[jq] using h) zO⟩;cases y:((K.kind==o.v.kind)&&(K.n==o.v.n));rw[y]at c;simp only[bF,cp,zd]at c;simp[j0,y];refine jN (cs:=yf k) (by simp[j6,yf]) rfl rfl ?_;simp;refine Xn (f:=yf) (lo:=0) (hi:=s.nx) (l:=YH ops k) (a:=(k:Int)) (v:=s.tm 5) (G.mono (λu _ _ h=>by simp[jf,h]) zK) zS (by simp[jF,yf]) j8 zQ rfl zO zO (λa0 S=>?_);have I:(YH ops k).length+1=(YH ops (k+1)).length:=by rw[c];simp
    have H:YH ops (k+1)≠[]:=by rw[c];simp
    rw[<- c,I];obtain⟨M,Q⟩:∃M,YH ops (k+1)=M:=⟨_,rfl⟩;rw[Q]at H ⊢;simp[m,p,Q];exact⟨e,.inr ⟨H,_,rfl,by simp[jf],ch _,zO⟩⟩;rw[y]at c;simp only[bF,bN,ah,zc,aP]at c;simp[j0,y,m,p];rw[c];exact⟨e,G.mono (λu _ P h=>by simpa[jq] using h) zO⟩
   have q:(o.v.kind != 2)=false:=by simp only[bne,x,bN]
   rw[q]at c;simp only[bE,dz,ah,zc,aP]at c;simp[m,F,z,e,j7 jH,j,j0,yQ,j6,L,fr,J,x,p];rw[c];exact G.mono (λu _ P h=>by simpa[jq] using h) zO
  rw[J]at c;simp only[bN,bE,ah,zc,aP]at c;simp[m,F,z,e,j7 jH,j,j0,yQ,j6,L,fr,J,p];rw[c];exact G.mono (λu _ P h=>by simpa[jq] using h) zO
 have:k=ops.length:=zO;subst this;obtain⟨t,ht⟩:=G.form;simp[m,z];exact slE (t:=t) (nl:=(YH ops ops.length).isEmpty) (k:=(YH ops ops.length).length) (cs:=(YH ops ops.length).flatMap yf) (λr h=>h) (by simp[X]) (by simp[ht])
end Go.Pv.T
