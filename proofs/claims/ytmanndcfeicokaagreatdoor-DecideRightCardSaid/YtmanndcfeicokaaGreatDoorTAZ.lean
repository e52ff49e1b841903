/- Part. -/
import Derived.Test.YtmanndcfeicokaaGreatDoorTAY
import Derived.Shelf.Sort.Plain
import Derived.Shelf.Slices.In.SortNone
import Derived.Test.YtmanndcfeicokaaGreatDoorRows
import Derived.Shelf.SlSortCmp.NoneTotal
import Derived.WalkKit
import Derived.Test.YtmanndcfeicokaaGreatDoorTie
import Derived.ProofKit
import Derived.LaidMore
import Derived.OpenShut
import Derived.Stop.Joined
import Derived.SizedLaws
import Derived.Carry
set_option maxRecDepth 100000
set_option maxHeartbeats 8000000
set_option linter.all false
namespace Go.Pv.T
open Go Go.Pv
def j5i (g:Hist') (lvl:Int) (M O:List Int):Int:=if !jX g then 4 else if lvl<1\/3<lvl then 2 else if Xl g M&&(JC g O&&JX g lvl M O) then 0 else 14
section
variable {g:Hist'}{lvl:Int}
def ev15 (a:Small g) (lvl:Int) {mn on:Bool}{M O:List Int}(n:M.length<=1000000) (l:O.length<=1000000):Ev E 15 [.int .i64 lvl,.agg (ya g),.agg [yl mn yf M,yl on yf O]] (.int .i64 (j5i g lvl M O)):=by
 have e:=ev28 a;have d:=ev34 a (b:=mn) M zO;have f:=ev35 a (nl:=on) O l;refine jQ rfl ?_;conv in(occs:=*)F15=>all_goals cbv
 simp[j0,ya];refine jL e zI rfl zI ?_;unfold j5i;cases m:jX g;simp;exact j5 rfl zS rfl;simp;by_cases h:lvl<1;simp[h];exact j5 rfl zS rfl;by_cases i:3<lvl;simp[h,i];exact j5 rfl zS rfl;simp[h,i,j0,yl];refine jL d zH rfl zH ?_;cases j:Xl g M;simp;exact j5 rfl zS rfl;simp[j0];refine jL f zH rfl zH ?_;cases k:JC g O;simp;exact j5 rfl zS rfl;have c:=ev36 a (nl:=mn) (on:=on) lvl j k;simp[j0];refine jL c zH rfl zH ?_;cases JX g lvl M O;simp;exact j5 rfl zS rfl;simp;exact j5 rfl zS rfl
def jx8 (i:jX g=true) (c:∀t∈ym g,badH g t=[]) (q:1<=lvl) (s:lvl<=3) {M:List Int}(a:Xl g M=true) {left:Int}(o:0<=left) :
 ((Qt g lvl M left).2.2=0->JC g (Qt g lvl M left).1=true/\JX g lvl M (Qt g lvl M left).1=true) /\
 ((Qt g lvl M left).2.2≠0->(Qt g lvl M left).2.2≠13->∀O,JC g O=true->JX g lvl M O=false):=by
 unfold Qt;by_cases h:lvl=3;subst h;simp only[zd];rw[jd2 i a o];cases f:(jy g M left).2.1 with
 |true=>simp
 |false=>
  cases d:(jy g M left).1 with
  |some l=>simp only[ah,zc];exact⟨λ_=>⟨jd1 a d,jqb a c d⟩,λh=>zf rfl h⟩
  |none=>simp only[ah,zc];refine⟨λh=>(by cases h),λ_ _ O e=>?_⟩;cases b:JX g 3 M O;rfl;obtain⟨L,k,_⟩:=jqa a c f e b;rw[d]at k;cases k
 simp only[h,zc];have p:=j48 i a q (show lvl<=2 by omega);by_cases n:left=0;simp[n];simp only[n,zc];unfold jug;rw[zb p];cases j:jdh (g.ts.length+1) (J0 (g.ts.length+1) (Qd g lvl M)) with
 |some D=>simp only;obtain⟨m,r⟩:=jtr a j;exact⟨λ_=>⟨m,by rw[<- jmb a m c h];exact r⟩,λh=>zf rfl h⟩
 |none=>simp only;refine⟨λh=>(by cases h),λ_ _ O e=>?_⟩;cases b:JX g lvl M O;rfl;rw[<- jmb a e c h]at b;exact zf j (juf b)
def ji9 (d:jX g=true) (j:∀t∈ym g,badH g t=[]) (k:1<=lvl) (i:lvl<=3):∀(L:List (List Int)) (left:Int),(∀M∈L,Xl g M=true)->0<=left->(Y0 g lvl L left).2.2.2=0 ->
 ((Y0 g lvl L left).2.1=true->Xl g (Y0 g lvl L left).1.1=true/\JC g (Y0 g lvl L left).1.2=true/\JX g lvl (Y0 g lvl L left).1.1 (Y0 g lvl L left).1.2=true) /\
 ((Y0 g lvl L left).2.1=false->(Y0 g lvl L left).1=([],[])/\∀M∈L,∀O,JC g O=true->JX g lvl M O=false)
 |[],left,_,_,_=>⟨λh=>(by cases h),λ_=>⟨rfl,λM h=>(by cases h)⟩⟩
 |M::r,left,hm,h0,hc=>by have e:=hm M (aK ..);obtain⟨a1,a2,_⟩:=je4 (lvl:=lvl) d e h0 (dr left);obtain⟨b1,b2⟩:=jx8 d j k i e h0;rw[Y0]at hc ⊢;by_cases c:(Qt g lvl M left).2.2=0;rw[zb c];exact⟨λ_=>⟨e,b1 c⟩,λh=>(by cases h)⟩;rw[za c]at hc ⊢;by_cases b:(Qt g lvl M left).2.2=13;rw[zb b]at hc;cases hc;rw[za b]at hc ⊢;obtain⟨m,f⟩:=ji9 d j k i r _ (λM h=>hm M (aS _ h)) zO hc;refine⟨m,λh=>⟨(f h).1,λl a=>?_⟩⟩;rcases bt.1 a with rfl|a;exact b2 c b;exact(f h).2 l a
def jpq (m:Small g) {most:Int}(a:(Jn g lvl most).2.2.2=0):jX g=true/\1<=lvl/\lvl<=3 /\
 ((Jn g lvl most).2.1=true->Xl g (Jn g lvl most).1.1=true/\JC g (Jn g lvl most).1.2=true/\JX g lvl (Jn g lvl most).1.1 (Jn g lvl most).1.2=true) /\
 ((Jn g lvl most).2.1=false->(Jn g lvl most).1=([],[])/\∀M∈yF (yv g),∀O,JC g O=true->JX g lvl M O=false):=by
 unfold Jn at a ⊢;by_cases b:jX g=false;rw[zb b]at a;cases a;rw[za b]at a ⊢;have b:jX g=true:=by cases h:jX g;exact zf h b;rfl
 by_cases k:lvl<1\/3<lvl\/most<0;rw[zb k]at a;cases a;rw[za k]at a ⊢;refine⟨b,zO,zO,?_⟩;simp only at a ⊢;unfold jbc at a ⊢;by_cases f:jj2 g=true\/jo (yv g)=false;rw[zb f];have d:∀M∈yF (yv g),∀O,JC g O=true->JX g lvl M O=false:=by
  intro M l O _;rcases f with h|h;obtain⟨t,j,i⟩:=bD.1 h;exact j04 j λe=>by rw[e]at i;cases i
  exfalso;have:∀{C:Cs'},jo C=false->yF C=[]:=by
   intro C;induction C with
   |nil=>intro h;cases h
   |cons c cs n=>
    intro h;unfold jo at h;rw[bH,cV]at h;unfold yF;rcases h with h|h;have:c.2=[]:=by simpa using h
    rw[this];rfl;rw[n h];simp
  rw[this h]at l;cases l
 split;exact⟨λh=>(by cases h),λ_=>⟨rfl,d⟩⟩;exact⟨λh=>(by cases h),λ_=>⟨rfl,d⟩⟩;rw[za f]at a ⊢;have i:∀t∈ym g,badH g t=[]:=λt j=>by cases h:(badH g t).isEmpty;exact zf (.inl (bD.2 ⟨t,j,by rw[h];rfl⟩)) f;exact dV.1 h
 exact ji9 b i zO zO _ _ (jao m b) zO a
def jj3:∀{C:Cs'}(n:Nat) (out:List (List Int)),jo C=false->allF C n out=[]
 |[],_,_,h=>by cases h
 |c::cs,n,out,h=>by
  unfold jo at h;rw[bH,cV]at h;rw[allF];rcases h with h|h;have:c.2=[]:=by simpa using h
  have:stepA c out=[]:=by unfold stepA;rw[this];simp
  rw[this,List.take_nil];exact jta cs n;exact jj3 n _ h
def j3o {most:Int}(h:(Jn g lvl most).2.2.2≠0):(Jn g lvl most).2.1=false:=by unfold Jn at h ⊢;split;rfl;rename_i b;rw[za b]at h;split;rfl;rename_i a;rw[za a]at h;rcases j5o g lvl most with q|q;exact zf q h;exact q.2.2
end
def jmk:∀{C D:Cs'},C.map (·.2)=D.map (·.2)->yF C=yF D
 |[],[],_=>rfl
 |c::C,d::D,h=>by simp only[bc,eD]at h;simp only[yF,h.1,jmk h.2]
 |[],_::_,h=>by simp at h
 |_::_,[],h=>by simp at h
def ev4 (h:Hist') (lvl:Int):Ev E 4 [.int .i64 lvl,.agg (ya h)] (.bool true):=by
 obtain⟨r,ev,hr⟩:=ev9 h;have j:=small8 h;have h8:=j0g h;have hR:=jxq h;generalize yC h=g at *;have a0:=j.ts;have Z:=ev10 j;have K:=ev16 g a0;rw[show yt X4 g.ts g.ts.length=ym g from rfl]at K;obtain⟨c2,b5,D⟩:=ev12 j h8 hR lvl 1099511627776 zQ;have x:=dec_len j h8 lvl 1099511627776;have F:=jpq (lvl:=lvl) (most:=1099511627776) j;have H:=j3o (g:=g) (lvl:=lvl) (most:=1099511627776);generalize Jn g lvl 1099511627776=X at *;obtain⟨⟨c,d⟩,is,n,e⟩:=X;simp only at x F H;refine jQ rfl ?_;conv in(occs:=*)F4=>all_goals cbv
 simp[ya,j0];refine jL ev11 zS rfl zS ?_;simp[j0];refine jL ev zH rfl zH ?_;refine j8b hr λa1 b1 c1 b9=>?_;simp[j0,j6,V.cells,V.leaf];refine jL Z zH rfl zH ?_;cases c3:(!jX g||decide (Xq (yv g) 1<=200));simp;exact j5 rfl zS rfl;simp[j0];refine jL b5 zH rfl zH ?_;refine jxl D λt1 t2 n1 n2 add=>?_;by_cases h0:e=0;subst h0;obtain⟨o,h1,h3,ry,rn⟩:=F rfl;cases is with
 |true=>obtain⟨S,Q,q3⟩:=ry rfl;have w:=ev15 j lvl (mn:=n1) (on:=n2) (M:=c) (O:=d) (by have:=XE S;have:=XZ j;omega) (by have:=jgh Q;have:=YM g;omega);rw[show j5i g lvl c d=0 by unfold j5i;rw[o,S,Q,q3];simp;omega]at w;simp[j0,j6,V.cells,V.leaf];refine jL w zH rfl zH ?_;simp;exact j5 rfl zS rfl
 |false=>
  obtain⟨S,Q⟩:=rn rfl;cases S;simp[j0,j6,V.cells,V.leaf];refine jL K zH rfl zH ?_;refine XB (nl:=false) (n:=(ym g).length) (cs:=(ym g).flatMap yf) ⟨_,rfl,zS⟩ λtc c0=>?_;have G:IntKind.i64.wrap 0=0:=by decide
  by_cases P:(4:Int)<((ym g).length:Int);simp[j0,P,G];exact j5 rfl zS rfl;have b6:=ev17 j o;simp[j0,P];refine jL b6 zH rfl zH ?_;by_cases L:20<Xq (yv g) 1;simp[j0,P,L,G];exact j5 rfl zS rfl;obtain⟨c5,T,J⟩:=ev18 j o 20 zQ zQ;have l:∀M∈allF (choR g) 20 [[]],Xl g M=true/\∀O,JC g O=true->JX g lvl M O=false:=by
   intro M k;cases m:jo (choR g);rw[jj3 20 _ m]at k;cases k;have I:jo (yv g)=true:=by rw[jgl (jhg o)];exact m
   have hl:=jha (n:=1) I zQ zQ zO;have hp:yF (choR g)=yF (yv g):=(jmk (jhg o)).symm;rw[j1b m (by rw[hp];omega),hp]at k;exact⟨jao j o M k,Q M k⟩
  simp[j0,P,L];refine jL T zH rfl zH ?_;refine XB J λN b0=>?_;have c4:(allF (choR g) 20 [[]]).length<=20:=jll _ _ _ zS;generalize allF (choR g) 20 [[]]=A at *;have v:=λM (k:M∈A)=>ev19 j (l M k).1 (mn:=false) lvl (ym g).length [] (ym g) true false rfl zO zP (dW _);have y:∀M∈A,Yy (JX g lvl M) [] (ym g).length [] (ym g)=true:=λM k=>jiz (C:=ym g) (λO hO hh=>by
   rw[(l M k).2 O ((jcm o).2 hO)]at hh;cases hh) _ _ _ rfl (dW _)
  simp;refine jg λp a=>?_;have g0:p.tm 0=.int .i64 lvl:=by rw[a];simp
  have g3:p.tm 3=.ptr 6 0 0:=by rw[a];simp
  have g9:p.tm 9=.sl tc false (ym g).length ((ym g).flatMap yf):=by rw[a];simp
  have b7:p.tm 10=.sl N false A.length (A.flatMap jlr):=by rw[a];simp
  have U:p.tm 11=.int .i64 0:=by rw[a];simp
  have gd:p.df=[]:=by rw[a];simp
  have gb:p.ob 6=some ⟨0,.cells [.sl a1 g.sn g.ss.length (g.ss.flatMap Jp),.sl b1 g.kn g.ks.length (g.ks.flatMap Jp),.sl c1 g.tn g.ts.length (g.ts.flatMap jl)]⟩:=by rw[a];simp
  clear a;refine j9 [(4,4),(11,11),(57,71)] A.length (λi s=>s.tm 11=.int .i64 i/\s.ob 6=some ⟨0,.cells [.sl a1 g.sn g.ss.length (g.ss.flatMap Jp),.sl b1 g.kn g.ks.length (g.ks.flatMap Jp),.sl c1 g.tn g.ts.length (g.ts.flatMap jl)]⟩) rfl rfl ⟨by simpa using U,gb⟩ ?_;rintro i s hi ⟨q,sb⟩ f;have s0:=(f.t 0 zS).trans g0;have s3:=(f.t 3 zS).trans g3;have s9:=(f.t 9 zS).trans g9;have B:=(f.t 10 zS).trans b7;have sd:=f.d.trans gd;clear f;by_cases b:i<A.length;have b8:=jb b zO;have z:=v A[i] (au b);rw[y A[i] (au b)]at z;have h1:=jy1 A b;have u:ju 1 (.sl N false A.length (A.flatMap jlr)) (.int .i64 (i:Int))=some (.eptr (A.flatMap jlr) (i*1)):=by simp only[JF,j4 je5];rw[zb zP];rfl
  rw[bB]at u;simp[s0,s3,s9,B,q,sb,j0,b,u,h1];refine Jb z zH rfl zH ?_;simp[q,b8,b,sb];have:i=A.length:=zO;subst this;simp[B,q];exact j5 (by simp[sd]) zS rfl
 have hb:(e != 0)=true:=by simpa using h0
 have:=H h0;subst this;simp[j0,j6,V.cells,V.leaf,hb];exact j5 rfl zS rfl
end Go.Pv.T
namespace Go.Pv.T
open Go Go.Pv Go.Proofs Go.Shelf
def renS:Ren where
 f:=λx=>match x with
  | 189=>167
  | 125=>174
  | 257=>219
  | 128=>231
  | 129=>232
  | 294=>264
  | 295=>265
  | 296=>266
  | 297=>267
  | 298=>268
  | 299=>269
  | 216=>270
  | 300=>271
  | 301=>272
  | 328=>294
  | 329=>275
  | 330=>276
  | 331=>295
  | 332=>296
  | 215=>297
  | 343=>315
  | n=>n
 t:=λx=>match x with
  | 28=>29
  | 3=>3
  | 46=>245
  | 0=>0
  | 51=>294
  | 53=>252
  | 4=>4
  | 183=>288
  | 182=>287
  | 131=>143
  | 5=>5
  | 9=>9
  | 218=>331
  | 222=>335
  | 228=>353
  | 229=>306
  | n=>n
 g:=λx=>x
def laysS:Lays.n189 Tryz.prog renS where
 mixed:=by kernel_rfl
 f125:=Tryz.func174.trans (zg some (by kernel_rfl))
 f128:=Tryz.func231.trans (zg some (by kernel_rfl))
 f129:=Tryz.func232.trans (zg some (by kernel_rfl))
 f189:=Tryz.func167.trans (zg some (by kernel_rfl))
 f215:=Tryz.func297.trans (zg some (by kernel_rfl))
 f216:=Tryz.func270.trans (zg some (by kernel_rfl))
 f257:=Tryz.func219.trans (zg some (by kernel_rfl))
 f294:=Tryz.func264.trans (zg some (by kernel_rfl))
 f295:=Tryz.func265.trans (zg some (by kernel_rfl))
 f296:=Tryz.func266.trans (zg some (by kernel_rfl))
 f297:=Tryz.func267.trans (zg some (by kernel_rfl))
 f298:=Tryz.func268.trans (zg some (by kernel_rfl))
 f299:=Tryz.func269.trans (zg some (by kernel_rfl))
 f300:=Tryz.func271.trans (zg some (by kernel_rfl))
 f301:=Tryz.func272.trans (zg some (by kernel_rfl))
 f328:=Tryz.func294.trans (zg some (by kernel_rfl))
 f329:=Tryz.func275.trans (zg some (by kernel_rfl))
 f330:=Tryz.func276.trans (zg some (by kernel_rfl))
 f331:=Tryz.func295.trans (zg some (by kernel_rfl))
 f332:=Tryz.func296.trans (zg some (by kernel_rfl))
 f343:=Tryz.func315.trans (zg some (by kernel_rfl))
 t0:=Tryz.underlying0
 a0:=Tryz.isAgg0
 z0:=Tryz.sizeOf0
 v0:=Tryz.zeroValue0
 t3:=Tryz.underlying3
 a3:=Tryz.isAgg3
 z3:=Tryz.sizeOf3
 v3:=Tryz.zeroValue3
 t4:=Tryz.underlying4
 a4:=Tryz.isAgg4
 z4:=Tryz.sizeOf4
 v4:=Tryz.zeroValue4
 t5:=Tryz.underlying5
 a5:=Tryz.isAgg5
 z5:=Tryz.sizeOf5
 v5:=Tryz.zeroValue5
 t9:=Tryz.underlying9
 a9:=Tryz.isAgg9
 z9:=Tryz.sizeOf9
 v9:=Tryz.zeroValue9
 t28:=Tryz.underlying29
 a28:=Tryz.isAgg29
 z28:=Tryz.sizeOf29
 v28:=Tryz.zeroValue29
 t46:=Tryz.underlying245
 a46:=Tryz.isAgg245
 z46:=Tryz.sizeOf245
 v46:=Tryz.zeroValue245
 t51:=Tryz.underlying294
 a51:=Tryz.isAgg294
 z51:=Tryz.sizeOf294
 v51:=Tryz.zeroValue294
 t53:=Tryz.underlying252
 a53:=Tryz.isAgg252
 z53:=Tryz.sizeOf252
 v53:=Tryz.zeroValue252
 t131:=Tryz.underlying143
 a131:=Tryz.isAgg143
 z131:=Tryz.sizeOf143
 v131:=Tryz.zeroValue143
 t182:=Tryz.underlying287
 a182:=Tryz.isAgg287
 z182:=Tryz.sizeOf287
 v182:=Tryz.zeroValue287
 t183:=Tryz.underlying288
 a183:=Tryz.isAgg288
 z183:=Tryz.sizeOf288
 v183:=Tryz.zeroValue288
 t218:=Tryz.underlying331
 a218:=Tryz.isAgg331
 z218:=Tryz.sizeOf331
 v218:=Tryz.zeroValue331
 t222:=Tryz.underlying335
 a222:=Tryz.isAgg335
 z222:=Tryz.sizeOf335
 v222:=Tryz.zeroValue335
 t228:=Tryz.underlying353
 a228:=Tryz.isAgg353
 z228:=Tryz.sizeOf353
 v228:=Tryz.zeroValue353
 t229:=Tryz.underlying306
 a229:=Tryz.isAgg306
 z229:=Tryz.sizeOf306
 v229:=Tryz.zeroValue306
def jw2:jlm Tryz.prog 167 none:=by
 refine⟨⟨Tryz.f167,_,Tryz.func167,rfl,by kernel_rfl⟩,λp cap w=>?_,λblk off cap n zs w hlen _ h1 h2 h3=>?_⟩
 ·exact Any.slices_Sort_int_none laysS p cap w
 ·obtain rfl:zs.length=n:=by simpa[jhx] using hlen
  have:=Any.slices_Sort_int laysS blk off cap zs w h1 h2 h3
  rwa [jow]at this
end Go.Pv.T
namespace Go.Pv.T
open Go Go.Pv Go.Proofs Go.Shelf Go.Sort Go.Lib
def renF:Ren where
 f:=λx=>match x with
  | 6=>119
  | 14=>173
  | 15=>174
  | 20=>223
  | 21=>224
  | 22=>225
  | 23=>226
  | 24=>227
  | 25=>228
  | 26=>229
  | 27=>230
  | 28=>231
  | 29=>232
  | 46=>274
  | 47=>275
  | 48=>276
  | 49=>277
  | 50=>278
  | 57=>299
  | n=>n
 t:=λx=>match x with
  | 0=>0
  | 3=>3
  | 4=>4
  | 5=>5
  | 9=>9
  | 22=>116
  | 25=>179
  | 39=>245
  | 45=>287
  | 46=>288
  | 50=>143
  | 53=>294
  | 55=>252
  | 66=>331
  | 70=>335
  | 76=>353
  | 77=>306
  | 24=>178
  | n=>n
 g:=λx=>x
def laysF:SlLaysF0.n6 Tryz.prog renF where
 mixed:=by kernel_rfl
 f6:=⟨Tryz.f119.name,by kernel_rfl,Tryz.func119.trans (zg some (by kernel_rfl))⟩
 f14:=⟨Tryz.f173.name,by kernel_rfl,Tryz.func173.trans (zg some (by kernel_rfl))⟩
 f15:=Tryz.func174.trans (zg some (by kernel_rfl))
 f20:=⟨Tryz.f223.name,by kernel_rfl,Tryz.func223.trans (zg some (by kernel_rfl))⟩
 f21:=⟨Tryz.f224.name,by kernel_rfl,Tryz.func224.trans (zg some (by kernel_rfl))⟩
 f22:=⟨Tryz.f225.name,by kernel_rfl,Tryz.func225.trans (zg some (by kernel_rfl))⟩
 f23:=⟨Tryz.f226.name,by kernel_rfl,Tryz.func226.trans (zg some (by kernel_rfl))⟩
 f24:=⟨Tryz.f227.name,by kernel_rfl,Tryz.func227.trans (zg some (by kernel_rfl))⟩
 f25:=⟨Tryz.f228.name,by kernel_rfl,Tryz.func228.trans (zg some (by kernel_rfl))⟩
 f26:=⟨Tryz.f229.name,by kernel_rfl,Tryz.func229.trans (zg some (by kernel_rfl))⟩
 f27:=⟨Tryz.f230.name,by kernel_rfl,Tryz.func230.trans (zg some (by kernel_rfl))⟩
 f28:=Tryz.func231.trans (zg some (by kernel_rfl))
 f29:=Tryz.func232.trans (zg some (by kernel_rfl))
 f46:=⟨Tryz.f274.name,by kernel_rfl,Tryz.func274.trans (zg some (by kernel_rfl))⟩
 f47:=Tryz.func275.trans (zg some (by kernel_rfl))
 f48:=Tryz.func276.trans (zg some (by kernel_rfl))
 f49:=⟨Tryz.f277.name,by kernel_rfl,Tryz.func277.trans (zg some (by kernel_rfl))⟩
 f50:=⟨Tryz.f278.name,by kernel_rfl,Tryz.func278.trans (zg some (by kernel_rfl))⟩
 f57:=⟨Tryz.f299.name,by kernel_rfl,Tryz.func299.trans (zg some (by kernel_rfl))⟩
 t0:=Tryz.underlying0
 a0:=Tryz.isAgg0
 z0:=Tryz.sizeOf0
 v0:=Tryz.zeroValue0
 t3:=Tryz.underlying3
 a3:=Tryz.isAgg3
 z3:=Tryz.sizeOf3
 v3:=Tryz.zeroValue3
 t4:=Tryz.underlying4
 a4:=Tryz.isAgg4
 z4:=Tryz.sizeOf4
 v4:=Tryz.zeroValue4
 t5:=Tryz.underlying5
 a5:=Tryz.isAgg5
 z5:=Tryz.sizeOf5
 v5:=Tryz.zeroValue5
 t9:=Tryz.underlying9
 a9:=Tryz.isAgg9
 z9:=Tryz.sizeOf9
 v9:=Tryz.zeroValue9
 t22:=Tryz.underlying116
 a22:=Tryz.isAgg116
 z22:=Tryz.sizeOf116
 v22:=Tryz.zeroValue116
 t25:=Tryz.underlying179
 a25:=Tryz.isAgg179
 z25:=Tryz.sizeOf179
 v25:=Tryz.zeroValue179
 t39:=Tryz.underlying245
 a39:=Tryz.isAgg245
 z39:=Tryz.sizeOf245
 v39:=Tryz.zeroValue245
 t45:=Tryz.underlying287
 a45:=Tryz.isAgg287
 z45:=Tryz.sizeOf287
 v45:=Tryz.zeroValue287
 t46:=Tryz.underlying288
 a46:=Tryz.isAgg288
 z46:=Tryz.sizeOf288
 v46:=Tryz.zeroValue288
 t50:=Tryz.underlying143
 a50:=Tryz.isAgg143
 z50:=Tryz.sizeOf143
 v50:=Tryz.zeroValue143
 t53:=Tryz.underlying294
 a53:=Tryz.isAgg294
 z53:=Tryz.sizeOf294
 v53:=Tryz.zeroValue294
 t55:=Tryz.underlying252
 a55:=Tryz.isAgg252
 z55:=Tryz.sizeOf252
 v55:=Tryz.zeroValue252
 t66:=Tryz.underlying331
 a66:=Tryz.isAgg331
 z66:=Tryz.sizeOf331
 v66:=Tryz.zeroValue331
 t70:=Tryz.underlying335
 a70:=Tryz.isAgg335
 z70:=Tryz.sizeOf335
 v70:=Tryz.zeroValue335
 t76:=Tryz.underlying353
 a76:=Tryz.isAgg353
 z76:=Tryz.sizeOf353
 v76:=Tryz.zeroValue353
 t77:=Tryz.underlying306
 a77:=Tryz.isAgg306
 z77:=Tryz.sizeOf306
 v77:=Tryz.zeroValue306
abbrev SP:Type:={ p:P2 // Yj p.1=true/\Yj p.2=true }
instance:Inhabited SP:=⟨⟨(0,0),zQ⟩⟩
def encP (x:SP):List Value:=[.int .i64 x.1.1,.int .i64 x.1.2]
def cfP (x y:SP):Int:=if x.1.1=y.1.1 then x.1.2 - y.1.2 else x.1.1 - y.1.1
def jey {z:Int}(h:Yj z=true):-1000000000000<=z/\z<=1000000000000:=by simpa[Yj] using h
def cf_call (x y:SP) (W:World):Calls Tryz.prog 120 #[.agg #[.int .i64 x.1.1,.int .i64 x.1.2],.agg #[.int .i64 y.1.1,.int .i64 y.1.2]] W λe w'=>e=.returned (.int .i64 (cfP x y))/\∃q os',w'=grow (W.drewN q) os':=by
 obtain⟨⟨a,b⟩,h1,h2⟩:=x
 obtain⟨⟨c,d⟩,h3,h4⟩:=y
 have:=jey h1
 have:=jey h2
 have:=jey h3
 have:=jey h4
 have w1:IntKind.i64.wrap (a - c)=a - c:=jk zO zO
 have w2:IntKind.i64.wrap (b - d)=b - d:=jk zO zO
 unfold cfP
 simp only
 by_cases h:a=c
 ·rw[zb h]
  have hb:(a != c)=false:=by simpa using h
  go_enter Tryz.func120,Tryz.ntmps120
  go_wp2
  go_ret
  exact⟨rfl,0,_,by rw[alloc_eq_grow,alloc_eq_grow,grow_grow];rfl⟩
 ·rw[za h]
  have hb:(a != c)=true:=by simpa using h
  go_enter Tryz.func120,Tryz.ntmps120
  go_wp2
  go_ret
  exact⟨rfl,0,_,by rw[alloc_eq_grow,alloc_eq_grow,grow_grow];rfl⟩
def jsa (x y:SP):ltOf cfP x y=true ↔ pLt x.1 y.1:=by
 unfold ltOf cfP pLt
 rw[ze]
 split <;> omega
def jcr (x y:SP):ltOf cfP x y=false ↔ ¬ pLt x.1 y.1:=by rw[<- jsa];simp
def swoP:SWO (ltOf cfP) where
 irrefl x:=(jcr x x).2 (Xj _)
 trans x y z h1 h2:=(jsa x z).2 (YS ((jsa x y).1 h1) ((jsa y z).1 h2))
 ntrans x y z h1 h2:=by
  rw[jcr]at *
  intro h
  rcases Qs x.1 y.1 with h3|h3|h3
  ·exact h1 h3
  ·rw[h3]at h
   exact h2 h
  ·exact h2 (YS h3 h)
def totP (x y:SP) (h1:ltOf cfP x y=false) (h2:ltOf cfP y x=false):x=y:=by
 rw[jcr]at h1 h2
 rcases Qs x.1 y.1 with h|h|h
 ·exact zf h h1
 ·exact Subtype.ext h
 ·exact zf h h2
def jpa {x y:P2}(h:Qr x y=true) (h':Qr y x=true):x=y:=by
 rw[pairLe_iff]at h h'
 rcases h with h|h
 ·rcases h' with h'|h'
  ·exact zf (YS h h') (Xj _)
  ·exact h'.symm
 ·exact h
def jl3:∀ {l m:List P2},l.Perm m->l.Pairwise (λa b=>Qr a b=true)->m.Pairwise (λa b=>Qr a b=true)->l=m
 | [],m,h,_,_=>(List.nil_perm.1 h).symm
 | x::r,m,h,hs,hm=>by
  cases m with
  | nil=>exact zf h.length_eq zS
  | cons y q=>
   rw[bW]at hs hm
   have hx:x∈y::q:=h.mem_iff.1 zS
   have hy:y∈x::r:=h.mem_iff.2 zS
   have e:x=y:=by
    rcases bt.1 hx with h1|h1
    ·exact h1
    ·rcases bt.1 hy with h2|h2
     ·exact h2.symm
     ·exact jpa (hs.1 y h2) (hm.1 x h1)
   subst e
   rw[jl3 ((List.perm_cons x).1 h) hs.2 hm.2]
def juu (l:List SP):(l.mergeSort λx y=>!(ltOf cfP) y x).map (·.1)=ja7 (l.map (·.1)):=by
 refine jl3 (((List.mergeSort_perm l _).map _).trans (XN _).symm) ?_ (jka _)
 rw[eL]
 refine(iw (λa b c h1 h2=>?_) (λa b=>?_) l).imp fun {a b} h=>?_
 ·simp only[bG]at *
  exact swoP.ntrans c b a h2 h1
 ·simp only[bq,bG,jcr]
  rcases Qs a.1 b.1 with h|h|h
  ·exact .inl λh'=>Xj _ (YS h h')
  ·rw[h];exact .inl (Xj _)
  ·exact .inr λh'=>Xj _ (YS h h')
 ·simp only[bG,jcr]at h
  rw[pairLe_iff]
  rcases Qs a.1 b.1 with h1|h1|h1
  ·exact .inl h1
  ·exact .inr h1
  ·exact zf h1 h
def jjn:∀ {n:Nat}{zs:List Int},zs.length=n*2->Wg (pairsI zs)=zs/\(pairsI zs).length=n
 | 0,zs,h=>by
  have:zs=[]:=cz.1 zO
  subst this
  exact⟨rfl,rfl⟩
 | n+1,[],h=>by simp at h
 | n+1,[_],h=>by simp at h;omega
 | n+1,a::b::r,h=>by
  obtain⟨h1,h2⟩:=jjn (n:=n) (zs:=r) (by simp at h;omega)
  exact⟨by simp only[pairsI,Wg,h1],by simp only[pairsI,bh,h2]⟩
def jft:∀ {zs:List Int},zs.all Yj=true->∀z∈pairsI zs,Yj z.1=true/\Yj z.2=true
 | [],_,z,hz=>by simp[pairsI]at hz
 | [_],_,z,hz=>by simp[pairsI]at hz
 | a::b::r,h,z,hz=>by
  simp only[bH,ab]at h
  rcases bt.1 hz with rfl|hz
  ·exact⟨h.1,h.2.1⟩
  ·exact jft h.2.2 z hz
def j0h:∀L:List P2,(Wg L).length=L.length*2
 | []=>rfl
 | _::L=>by simp only[Wg,bh,j0h L];omega
def j6m:∀ (L:List SP) (t:Nat),t<L.length*2->(encP L[t / 2]!)[t % 2]! = .int .i64 (Wg (L.map (·.1)))[t]!
 | [],t,h=>by simp at h
 | x::L,0,_=>rfl
 | x::L,1,_=>rfl
 | x::L,t+2,h=>by
  have ih:=j6m L t (by simp at h;omega)
  have e1:(t+2) / 2=t / 2+1:=zO
  have e2:(t+2) % 2=t % 2:=zO
  rw[e1,e2]
  simpa[Wg] using ih
def jg5 (L:List SP):flatK encP 2 L.toArray=((Wg (L.map (·.1))).map (Value.int .i64)).toArray:=by
 apply ii
 ·simp[j0h]
 ·intro t h1 h2
  have ht:t<L.length*2:=by simpa using h1
  have:=j6m L t ht
  have h3:=get_flatK encP 2 L.toArray t (by simpa using ht)
  rw[getElem!_pos _ t h1]at h3
  rw[h3]
  have e:L.toArray[t / 2]! = L[t / 2]!:=zS
  rw[e,this,getElem!_pos _ t (by rw[j0h];simpa using ht)]
  simp
def jmi (off:Nat) (L:List Int) (c:Array Value):putCells id off (L.map (Value.int .i64)).toArray c=putCells (Value.int .i64) off L.toArray c:=by
 unfold putCells
 congr 1
 funext k x
 simp only[cR,bm]
 split
 ·rename_i h
  rw[getElem!_pos _ _ (by simp;omega),getElem!_pos _ _ (by simp;omega)]
  simp
 ·rfl
def jq7:jlm Tryz.prog 119 (some 120):=by
 refine⟨⟨Tryz.f119,_,Tryz.func119,rfl,by kernel_rfl⟩,λp cap w=>?_,λblk off cap n zs w hlen hmay hH hblk hn=>?_⟩
 ·exact AnyF.slices_SortFunc_none laysF p cap _ w
 ·obtain⟨h1,h2⟩:=jjn (n:=n) (zs:=zs) hlen
  have hsm:=jft hmay
  obtain⟨L,hL⟩:∃L:List SP,L.map (·.1)=pairsI zs:=⟨(pairsI zs).pmap (λp h=>⟨p,h⟩) hsm,by rw[List.map_pmap];simp⟩
  have hLl:L.length=n:=by rw[<- h2,<- hL,bm]
  have eg:∀args w,(callFunc 120 args).run Tryz.prog w=.ok (.enter 120 args) w:=enters_of Tryz.func120 (by kernel_rfl) rfl
  have hz:zs=Wg (L.map (·.1)):=by rw[hL,h1]
  have hHK:HoldsK encP 2 w blk off L.toArray:=by
   unfold HoldsK
   rw[jg5,<- hz]
   intro j hj
   have hj':j<zs.length:=by simpa using hj
   have:=hH j (by simpa using hj')
   rw[getElem!_pos _ _ (by simpa using hj')]at this ⊢
   simpa using this
  have key:=AnyQ.slices_SortFunc_total laysF 2 Tryz.isAgg178 Tryz.sizeOf178 encP (λ_=>rfl) (λx v hv=>by simp[encP]at hv;rcases hv with rfl|rfl <;> rfl) cfP swoP 120 #[] blk off cap L.toArray w eg
   (λ_ _ _ _ x y=>cf_call x y _) hHK hblk (by simpa[hLl] using hn) totP
  rw[show L.toArray.size=n by simpa using hLl]at key
  refine key.mono ?_
  rintro e w' ⟨rfl,m,os,rfl⟩
  refine⟨rfl,m,os,?_⟩
  unfold sortWorldK putRowK
  rw[jg5,juu,show L.toArray.toList.map (·.1)=pairsI zs from hL]
  unfold putRow
  congr 1
  congr 1
  funext c
  exact jmi off _ c
end Go.Pv.T
namespace Go.Pv.T
open Go Go.Pv Go.Proofs
def j8z (p:Option Addr) (cap:Nat) (w:World):Calls Tryz.prog 151 #[.slice p 0 cap] w λe a=>e=.returned (.pointer (some ⟨w.heap.size,0,none⟩))/\∃t,a=w.alloc (.cells #[.int .u64 0,.int .u64 0,.int .u64 0,.int .u64 0,.int .u64 0,.int .u64 0,.int .u64 0,.int .u64 0] t):=by
 go_enter Tryz.func151,Tryz.ntmps151
 go_wp2
 refine wp_loop_rounds 1 ?_
 rw[rounds_succ]
 go_wp2
 go_ret
 exact⟨rfl,_,rfl⟩
def mkLaw:MkLaw Tryz.prog 151 setZ:=by
 refine⟨⟨_,_,Tryz.func151,rfl,by kernel_rfl⟩,λp b w=>(j8z p b w).mono ?_⟩
 rintro e d ⟨rfl,t,rfl⟩
 refine⟨rfl,_,t,rfl,rfl,λj x v c a=>?_⟩
 match j with
 | 0|1|2|3|4|5|6|7=>
  simp[setZ]at c a
  subst c a
  exact⟨rfl,λI=>.int _ _⟩
 | j+8=>simp[setZ]at a
end Go.Pv.T
namespace Go.Pv.T
open Go Go.Pv Go.Proofs Tryz
abbrev Jzz:=jO Tryz.prog false
def j3 {P:Program} {r:Bool} {f:FuncId} {fn:Func} {af:AF} (h1:P.funcs[f]? = some fn) (m:Bool:=false) (h2:compF P m r fn=some af:=by kernel_rfl) (h3:(fn.name == "runtime.NumGoroutine")=false:=by kernel_rfl) (h4:af.body.dstOk fn.ntmps=true:=by kernel_rfl):jO P r f af:=by
 unfold compF at h2
 cases hb:fn.body with
 |none=>rw[hb]at h2;cases h2
 |some c=>
  rw[hb,ap]at h2
  cases hc:comp P m r c with
  |none=>rw[hc]at h2;cases h2
  |some b=>
   rw[hc,ap]at h2
   cases hr:fn.results.toList.mapM (Yh P) with
   |none=>rw[hr]at h2;cases h2
   |some res=>
    rw[hr]at h2
    cases h2
    exact⟨m,fn,c,h1,hb,hc,hr,h3,h4⟩
def fc_2Ok {f:FuncId}{af:AF}(h:fc_2 f=some af):Jzz f af:=by
 unfold fc_2 at h
 split at h<;>try cases h
 ·exact j3 func195
 ·exact j3 func196
 ·exact j3 func197
 ·exact j3 func198
 ·exact j3 func199
 ·exact j3 func200
 ·exact j3 func201
 ·exact j3 func202
 ·exact j3 func206
 ·exact j3 func207
 ·exact j3 func208
 ·exact j3 func211
 ·exact j3 func218
 ·exact j3 func222
 ·exact j3 func232
 ·exact j3 func233
 ·exact j3 func234
 ·exact j3 func235
 ·exact j3 func236
 ·exact j3 func237
 ·exact j3 func243
 ·exact j3 func245
 ·exact j3 func246
 ·exact j3 func247
 ·exact j3 func248
 ·exact j3 func249
 ·exact j3 func250
 ·exact j3 func251
 ·exact j3 func253
 ·exact j3 func255
 ·exact j3 func279
 ·exact j3 func280
 ·exact j3 func281
 ·exact j3 func286
 ·exact j3 func287
 ·exact j3 func288
 ·exact j3 func290
 ·exact j3 func291
 ·exact j3 func301
 ·exact j3 func305
 ·exact j3 func314
 ·exact j3 func321
def fc_1Ok {f:FuncId}{af:AF}(h:fc_1 f=some af):Jzz f af:=by
 unfold fc_1 at h
 split at h<;>try cases h
 ·exact j3 func94
 ·exact j3 func95
 ·exact j3 func98 true
 ·exact j3 func101 true
 ·exact j3 func102 true
 ·exact j3 func106
 ·exact j3 func107
 ·exact j3 func108
 ·exact j3 func109
 ·exact j3 func110
 ·exact j3 func111
 ·exact j3 func112
 ·exact j3 func113 true
 ·exact j3 func114
 ·exact j3 func123
 ·exact j3 func124
 ·exact j3 func128
 ·exact j3 func129
 ·exact j3 func130
 ·exact j3 func131
 ·exact j3 func132
 ·exact j3 func133
 ·exact j3 func134
 ·exact j3 func135
 ·exact j3 func136
 ·exact j3 func137
 ·exact j3 func138
 ·exact j3 func141
 ·exact j3 func142
 ·exact j3 func144
 ·exact j3 func146
 ·exact j3 func147
 ·exact j3 func148
 ·exact j3 func161
 ·exact j3 func162
 ·exact j3 func163
 ·exact j3 func165
 ·exact j3 func169
 ·exact j3 func174
 ·exact j3 func178
 ·exact j3 func179
 ·exact j3 func180
 ·exact j3 func181
 ·exact j3 func182
 ·exact j3 func188
 ·exact j3 func189
 ·exact j3 func190
 ·exact j3 func191
 ·exact j3 func192
 ·exact j3 func194
 ·exact fc_2Ok h
def fcOk {f:FuncId}{af:AF}(h:fc f=some af):Jzz f af:=by
 unfold fc at h
 split at h<;>try cases h
 ·exact j3 func4
 ·exact j3 func9 true
 ·exact j3 func10
 ·exact j3 func11
 ·exact j3 func12 true
 ·exact j3 func15
 ·exact j3 func16
 ·exact j3 func17
 ·exact j3 func18
 ·exact j3 func19
 ·exact j3 func25
 ·exact j3 func28
 ·exact j3 func29
 ·exact j3 func30
 ·exact j3 func34
 ·exact j3 func35
 ·exact j3 func36
 ·exact j3 func37
 ·exact j3 func38
 ·exact j3 func41
 ·exact j3 func48 true
 ·exact j3 func49
 ·exact j3 func50
 ·exact j3 func51
 ·exact j3 func52 true
 ·exact j3 func53
 ·exact j3 func54
 ·exact j3 func55
 ·exact j3 func57 true
 ·exact j3 func63
 ·exact j3 func64
 ·exact j3 func65
 ·exact j3 func66
 ·exact j3 func67
 ·exact j3 func68
 ·exact j3 func69
 ·exact j3 func70
 ·exact j3 func71
 ·exact j3 func72
 ·exact j3 func73
 ·exact j3 func74 true
 ·exact j3 func75 true
 ·exact j3 func79
 ·exact j3 func81
 ·exact j3 func82
 ·exact j3 func85
 ·exact j3 func87
 ·exact j3 func90
 ·exact j3 func92
 ·exact j3 func93
 ·exact fc_1Ok h
def fs_1Ok {f:FuncId}{af:AF}(h:fs_1 f=some af):jO Tryz.prog true f af:=by
 unfold fs_1 at h
 split at h<;>try cases h
 ·exact j3 func204 true
 ·exact j3 func205 true
 ·exact j3 func209 true
 ·exact j3 func210 true
 ·exact j3 func211 true
 ·exact j3 func212 true
 ·exact j3 func213 true
 ·exact j3 func217 true
 ·exact j3 func220 true
 ·exact j3 func221 true
 ·exact j3 func222 true
 ·exact j3 func233 true
 ·exact j3 func234 true
 ·exact j3 func235 true
 ·exact j3 func237 true
 ·exact j3 func252 true
 ·exact j3 func254 true
 ·exact j3 func255 true
 ·exact j3 func256 true
 ·exact j3 func257 true
 ·exact j3 func258 true
 ·exact j3 func259 true
 ·exact j3 func261 true
 ·exact j3 func262 true
 ·exact j3 func263 true
 ·exact j3 func273 true
 ·exact j3 func289 true
 ·exact j3 func291 true
 ·exact j3 func292 true
 ·exact j3 func293 true
 ·exact j3 func298 true
 ·exact j3 func306 true
def fsOk {f:FuncId}{af:AF}(h:fs f=some af):jO Tryz.prog true f af:=by
 unfold fs at h
 split at h<;>try cases h
 ·exact j3 func27 true
 ·exact j3 func31 true
 ·exact j3 func56 true
 ·exact j3 func58 true
 ·exact j3 func80 true
 ·exact j3 func83 true
 ·exact j3 func84 true
 ·exact j3 func86 true
 ·exact j3 func88 true
 ·exact j3 func89 true
 ·exact j3 func91 true
 ·exact j3 func96 true
 ·exact j3 func97 true
 ·exact j3 func99 true
 ·exact j3 func100 true
 ·exact j3 func115 true
 ·exact j3 func116 true
 ·exact j3 func117 true
 ·exact j3 func118 true
 ·exact j3 func121 true
 ·exact j3 func122 true
 ·exact j3 func123 true
 ·exact j3 func124 true
 ·exact j3 func139 true
 ·exact j3 func140 true
 ·exact j3 func143 true
 ·exact j3 func145 true
 ·exact j3 func147 true
 ·exact j3 func148 true
 ·exact j3 func149 true
 ·exact j3 func150 true
 ·exact j3 func151 true
 ·exact j3 func152 true
 ·exact j3 func153 true
 ·exact j3 func154 true
 ·exact j3 func164 true
 ·exact j3 func166 true
 ·exact j3 func168 true
 ·exact j3 func170 true
 ·exact j3 func171 true
 ·exact j3 func172 true
 ·exact j3 func175 true
 ·exact j3 func176 true
 ·exact j3 func177 true
 ·exact j3 func178 true
 ·exact j3 func179 true
 ·exact j3 func180 true
 ·exact j3 func181 true
 ·exact j3 func182 true
 ·exact j3 func203 true
 ·exact fs_1Ok h
def envOk:EnvOk Tryz.prog E:=⟨λ_ _ h=>fcOk h,λ_ _ h=>fsOk h,(λf m h=>by
 simp only[E]at h
 split at h
 ·cases h;exact jw2
 ·cases h;exact jq7
 ·cases h),(λf cs h=>by
 simp only[E]at h
 split at h
 ·cases h;exact mkLaw
 ·cases h)⟩
end Go.Pv.T
namespace Go.Pv.T
open Go Go.Pv Go.Proofs Go.ChangeShapes Go.WideShapes Go.ChangeAt Go.RowKit Go.Proofs.YtmanndcfeicokaaGreatDoor
def own:ownKnob Tryz.prog.godebug=none:=by kernel_rfl
def jy8:laidOutB Tryz.prog=true:=by kernel_rfl
def mixed:Tryz.prog.follows .mixedOrders=true:=by kernel_rfl
def juy:List (String × DataW Unit):=[("math/bits.deBruijn64tab",Rows.laid_math_bits_deBruijn64tab),("unicode/utf8.acceptRanges",Rows.laid_unicode_utf8_acceptRanges),("deemster/event.words",Rows.laid_deemster_event_words),("unicode/utf8.first",Rows.laid_unicode_utf8_first)]
def jy5:V->Value
 | .int k n=>.int k n
 | .str s=>.string ⟨s.toArray⟩
 | _=>.nilFunc
def putCells (h:Array Obj) (g:Nat) (cs:Array Value):Array Obj:=h.modify g fun
 | .cells _ t frozen=>.cells cs t frozen
 | o=>o
def jqp:Array Value:=#[.int .u8 128,.int .u8 191,.int .u8 160,.int .u8 191,.int .u8 128,.int .u8 159,.int .u8 144,.int .u8 191,.int .u8 128,.int .u8 143,.int .u8 0,.int .u8 0,.int .u8 0,.int .u8 0,.int .u8 0,.int .u8 0,.int .u8 0,.int .u8 0,.int .u8 0,.int .u8 0,.int .u8 0,.int .u8 0,.int .u8 0,.int .u8 0,.int .u8 0,.int .u8 0,.int .u8 0,.int .u8 0,.int .u8 0,.int .u8 0,.int .u8 0,.int .u8 0]
noncomputable def laidWorld (os:Os):World :=
 let w0:=World.holding Tryz.prog os ⟨#[],#[],[]⟩
 { w0 with heap:=putCells (putCells (putCells (putCells w0.heap 4 (bruij.map jy5).toArray) 0 (words.map jy5).toArray) 2 (utf8first.map jy5).toArray) 3 jqp }
def j5c (os:Os) (args:Array Value):laidMetH Tryz.prog juy ((laidWorld os).forCall (λ_ _=>0) ⟨#[],args,[]⟩).memory:=by
 rw[MakeChecks.laidMetH_plain _ _ _ (by kernel_rfl)]
 exact laidMet_of_run' 8 (by kernel_rfl) (by kernel_rfl)
def gWords:Tryz.prog.globalNamed "deemster/event.words" = some 0:=by kernel_rfl
def gFirst:Tryz.prog.globalNamed "unicode/utf8.first" = some 2:=by kernel_rfl
def gBruij:Tryz.prog.globalNamed "math/bits.deBruijn64tab" = some 4:=by kernel_rfl
def tBruij:(Tryz.prog.globals[4]?).map (·.type)=some 355:=by kernel_rfl
def tWords:(Tryz.prog.globals[0]?).map (·.type)=some 262:=by kernel_rfl
def tFirst:(Tryz.prog.globals[2]?).map (·.type)=some 311:=by kernel_rfl
def WE (W:World):IMap:=λb o=>W.cell? ⟨b,o,none⟩
def j0x (W:World):jog (WE W) W:=λ_ _ _ h=>h
def jok:DataW Unit->V
 | .lit (.int k n)=>.int k n
 | .lit (.string s)=>.str s
 | _=>.undef
def jql {W:World}{t e:TypeId}{n fuel:Nat}{cs:List Value}{ds:List (DataW Unit)}{p:List MemPlace}(ht:Tryz.prog.underlying t=some (.array n e)) (hc:Tryz.prog.cellsOf e=1)
 (he:Tryz.prog.underlying e=some .string\/∃k,Tryz.prog.underlying e=some (.int k)) (h:DataW.trod (λ_=>()) Tryz.prog W 0 (λ_=>true) false fuel t cs=some (.agg ds,p)) (I:IMap) :
 ∀ (j:Nat) (d:DataW Unit),ds[j]? = some d->∃x,cs[j]? = some x/\RepP I x (jok d):=by
 obtain⟨xs,m,rfl,hx,hlen,hn,hel⟩:=DataW.trod_array ht h
 intro j d hd
 simp only[bZ,DataW.agg.injEq]at hx
 rw[hx.1,aV]at hd
 cases hy:xs[j]? with
 | none=>simp[hy]at hd
 | some y=>
  rw[hy]at hd
  simp only[aU,ae]at hd
  have hj:j<n:=by rw[<- hn];exact(aj.1 hy).1
  have:=hel j hj
  rw[hc,bB,hy]at this
  have one:∀c,(cs.drop j).take 1=[c]->cs[j]? = some c:=by
   intro c hcc
   have:=zg List.head? hcc
   simpa[List.head?_take,List.head?_drop] using this
  rcases he with he|⟨k,he⟩
  ·obtain⟨s,e1,e2,_⟩:=DataW.trod_string he this
   refine⟨_,one _ e1,?_⟩
   rw[<- hd,e2]
   exact RepP.str s
  ·obtain⟨s,e1,e2,_⟩:=DataW.trod_int he this
   refine⟨_,one _ e1,?_⟩
   rw[<- hd,e2]
   exact RepP.int k s
def jsq {W:World}{nm:String}{g:Nat}{cs:Array Value}{ds:List (DataW Unit)}(hg:Tryz.prog.globalNamed nm=some g) (hv:W.var? Tryz.prog nm=some cs) (hp:(ds.map jok).all V.pureLeaf=true)
 (h:∀ (j:Nat) (d:DataW Unit),ds[j]? = some d->∃x,cs.toList[j]? = some x/\RepP (WE W) x (jok d)):RepP (WE W) (.pointer (some ⟨g,0,none⟩)) (.eptr (ds.map jok) 0):=by
 have hc:=World.var?_cell hg hv
 refine RepP.eptr g 0 0 (ds.map jok) (λj=>(cs[j]?).getD .nilFunc) (λj hj=>?_) (λj v hj=>?_) (λj v hj=>?_)
 ·rw[bm]at hj
  obtain⟨x,hx,_⟩:=h j ds[j] (aa hj)
  have hx':cs[j]? = some x:=by simpa using hx
  show W.cell? ⟨g,0+j,none⟩=_
  rw[bK,hc j,hx']
  rfl
 ·exact av.1 hp v (aH hj)
 ·rw[aV]at hj
  cases hd:ds[j]? with
  | none=>rw[hd]at hj;cases hj
  | some d=>
   rw[hd]at hj
   cases hj
   obtain⟨x,hx,hr⟩:=h j d hd
   have hx':cs[j]? = some x:=by simpa using hx
   rw[hx']
   exact hr
def aggOf:DataW Unit->List (DataW Unit)
 | .agg l=>l
 | _=>[]
def j10:(aggOf Rows.laid_deemster_event_words).map jok=words:=by kernel_rfl
def j5k:(aggOf Rows.laid_math_bits_deBruijn64tab).map jok=bruij:=by kernel_rfl
def j03:Rows.laid_math_bits_deBruijn64tab=.agg (aggOf Rows.laid_math_bits_deBruijn64tab):=by kernel_rfl
def jvr:((aggOf Rows.laid_math_bits_deBruijn64tab).map jok).all V.pureLeaf=true:=by kernel_rfl
def j4x:(aggOf Rows.laid_unicode_utf8_first).map jok=utf8first:=by kernel_rfl
def j0d:Rows.laid_unicode_utf8_first=.agg (aggOf Rows.laid_unicode_utf8_first):=by kernel_rfl
def jtm:((aggOf Rows.laid_deemster_event_words).map jok).all V.pureLeaf=true:=by kernel_rfl
def jvf:((aggOf Rows.laid_unicode_utf8_first).map jok).all V.pureLeaf=true:=by kernel_rfl
def jn5 {H:Type}{enc:TypeId × Value->H}{W W':World}(hb:Below W.heap.size W W'):∀ {ts:List TypeId}{vs:List Value}{ds:List (DataW H)}{ps:List MemPlace},
 (∀t∈ts,Tryz.prog.readableRec t=true/\t<Tryz.prog.types.size)->(∀x∈ps,x.block<W.heap.size) ->
 DataW.TrodAll enc Tryz.prog W 0 (λ_=>true) true ts vs ds ps->DataW.TrodAll enc Tryz.prog W' 0 (λb=>decide (b<W.heap.size)) true ts vs ds ps
 | [],[],[],_,_,_,h=>h
 | t::ts,v::vs,d::ds,_,ht,hlt,⟨p,q,h1,h2,e⟩=>by
  subst e
  exact⟨p,q,Below.trod jy8 (ht t (aK ..)).1 (ht t (aK ..)).2 h1 hb (λx hx=>hlt x (cG _ hx)),
   jn5 hb (λt' h'=>ht t' (aS _ h')) (λx hx=>hlt x (bU _ hx)) h2,rfl⟩
 | [],_::_,_,_,_,_,h=>h.elim
 | [],[],_::_,_,_,_,h=>h.elim
 | _::_,[],_,_,_,_,h=>h.elim
 | _::_,_::_,[],_,_,_,h=>h.elim
def jxv {H:Type}{enc:TypeId × Value->H}{fn:Func}{s:ChangeSpec}{W W':World}{args:Array Value}{ds gs:List (DataW H)}{before:List MemPlace}(hW:DataW.Whole enc Tryz.prog fn.params.toList s.vars false W args.toList ds gs before)
 (hv:s.vars=[]) (hr:fn.resultTypes = #[4]) (hs:(s.fn H ds).results=[.lit (.bool true)]) (ha:(s.fn H ds).args=ds) (hvs:(s.fn H ds).vars=[])
 (ht:∀t∈fn.params.toList,Tryz.prog.readableRec t=true/\t<Tryz.prog.types.size) (hg:W.grownBy W' none):s.post enc Tryz.prog fn false true false false W args (.bool true) W':=by
 have hb:Below W.heap.size W W':=(Below.refl _ W).grown hg zK (λ_ h=>by cases h)
 have hW':=hW
 obtain⟨p,q,hA,hV,rfl,_,_⟩:=hW
 rw[hv]at hV
 obtain⟨rfl,rfl⟩:=trodVars_none hV
 have hlt:∀x∈p,x.block<W.heap.size:=λx hx=>by simpa using hW'.lt x (cG _ hx)
 refine⟨ds,[],_,[],p,[],hW',?_,?_,?_,hb.frame _,λh=>by cases h⟩
 ·rw[aP,hs,hr]
  exact trodAll_mk1 (shut_bool Tryz.underlying4 _)
 ·rw[aP,ha]
  exact jn5 hb ht hlt hA
 ·rw[aP,hvs,hv]
  rfl
end Go.Pv.T
