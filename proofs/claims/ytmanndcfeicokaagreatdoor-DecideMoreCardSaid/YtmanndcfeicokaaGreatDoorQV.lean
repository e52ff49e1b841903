/- Part. -/
import Derived.Test.YtmanndcfeicokaaGreatDoorQU
import Derived.Shelf.Sort.Plain
import Derived.Shelf.Slices.In.SortNone
import Derived.Test.YtmanndcfeicokaaGreatDoorRows
import Derived.Shelf.SlSortCmp.NoneTotal
import Derived.WalkKit
import Derived.Test.YtmanndcfeicokaaGreatDoorTie
import Derived.ProofKit
import Derived.LaidMore
import Derived.OpenShut
import Derived.Stop.Joined
import Derived.SizedLaws
import Derived.Carry
set_option maxRecDepth 100000
set_option maxHeartbeats 8000000
set_option linter.all false
namespace Go.Pv.T
open Go Go.Pv
def j4r:Small H11:=⟨zQ,zQ,zQ,zQ,zQ,zQ⟩
def j4q:Small H20:=⟨zQ,zQ,zQ,zQ,zQ,zQ⟩
def dec11:Je H11 1 9=(([],[]),false,1,0):=by kernel_rfl
def dec20:Je H20 3 9=(([-1],[0]),true,2,0):=by kernel_rfl
def ev11:Ev E 11 [] (.bool true):=by
 obtain⟨r,i,e⟩:=ev12 j4r zQ (by decide +kernel) 1 9 zQ;obtain⟨n,j,d⟩:=ev12 j4q zQ (by decide +kernel) 3 9 zQ;rw[dec11]at e;rw[dec20]at d;have c:=λa=>ev25 (a:=a) (b:=false) [0] [0] zQ zQ;have f:Ev E 29 [.str j9b] _:=⟨100,k11⟩;have g:Ev E 29 [.str j9a] _:=⟨100,k20⟩;refine jV rfl ?_;conv in(occs:=*)F11=>all_goals cbv
 simp;refine jQ f rfl rfl rfl ?_;simp[Xd,yv,V.toks,V.tok,jad,Q8,Xh,Nat.blt,j0,j2];refine jQ i (by simp[yj,ye,ya,H11,Jj,jt,yP,V.strip,V.strip1]) rfl (by simp[yj,ye,ya]) ?_;refine jo3 e λm k q s add=>?_;simp[j0,j2,V.cells,V.leaf];refine jQ g rfl rfl rfl ?_;simp[Xd,yv,V.toks,V.tok,jad,Q8,Xh,Nat.blt,j0,j2];refine jQ j (by simp[yj,ye,ya,H20,Jj,jt,yP,V.strip,V.strip1]) rfl (by simp[yj,ye,ya]) ?_;refine jo3 d λl o p h add=>?_;simp[j0,j2,V.cells,V.leaf];refine jU (cs:=[.int .i64 0]) (by simp[j2]) rfl rfl ?_;simp[j2];refine jQ (c h) (by simp[yj,ye]) rfl (by simp[yj,ye]) ?_;simp;exact j4 rfl zS rfl
def j1u (g:Hist') (M:List Int) (most:Int):(jam g M most).1.length<=g.ts.length:=by
 unfold jam;split;simp;split;simp;rename_i c b;have a:WR g M=true:=by cases a:WR g M;simp[a]at b;rfl
 split;simp;cases h:(J1 g M most).1 with
 |none=>simp
 |some l=>have:=(jhe (jsu a h)).length_eq;have:=Wt g;simp only;omega
def j10 (h:Hist'):∀t∈(yB h).ts,t.ops.length<=6:=by intro t a;unfold yB at a;split at a;cases a;obtain⟨x,_,rfl⟩:=aI.1 a;simp only[jjt,ai];omega
def jg4 {g:Hist'}(h:∀t∈g.ts,t.ops.length<=6):∀i,(Jv g i).length<=i*6
 |0=>bY _
 |i+1=>by have:=jg4 h i;simp only[Jv,au];split;rename_i t a;have b:=YV g i t.ops.length;have c:=h t (aH a);split;omega;simp only[cn];omega;simp only[cn];omega
def ju0 (h:Hist'):(yh (yB h)).length<=100:=by have b:=jg4 (j10 h) (yB h).ts.length;have a:=jxm h;unfold yh;have:(yB h).ts.length*6<=8*6:=aW _ a;omega
def j7p {g:Hist'}(b:Small g) (k:g.ts.length<=8) (lvl most:Int):(Je g lvl most).1.1.length<=1000000000/\(Je g lvl most).1.2.length<=1000000000:=by
 have f:∀(L:List (List Int)) (left:Int),(∀M∈L,M.length<=1000000000)->(Xl g lvl L left).1.1.length<=1000000000/\(Xl g lvl L left).1.2.length<=1000000000:=by
  intro L;induction L with
  |nil=>intro left _;simp[Xl]
  |cons M r j=>intro left h;rw[Xl];split;refine⟨h M (aJ ..),?_⟩;simp only;unfold QB;split;have:=j1u g M left;omega;split;simp;unfold jtm;split;split;simp;rename_i D e;have c:=jej _ _ D e;simp only;refine bH (bR _ _) ?_;rw[JV,c];simp;omega;simp;split;simp;exact j _ λM i=>h M (aQ _ i)
 unfold Je;split;simp;split;simp;rename_i a _;have a:jW g=true:=by cases h:jW g;exact zf h a;rfl
 simp only;unfold Wy;split;split<;>simp;refine f _ _ λM d=>?_;have c:=Xm (jbr b a M d);have l:=QM b;omega
def jsb {g:Hist'}(j:Small g) (lvl:Int) {m n:Int}(l:0<=m) (q:0<=n) :
 ((Je g lvl m).2.2.2=0->Je g lvl (m+n)=Je g lvl m/\(Je g lvl m).2.2.1<=m) /\
 ((Je g lvl m).2.2.2=13->(Je g lvl m).2.2.1=m/\((Je g lvl (m+n)).2.2.2=13\/m<(Je g lvl (m+n)).2.2.1)):=by
 unfold Je;by_cases a:jW g=false;rw[zb a,zb a];exact⟨λh=>(by cases h),λh=>(by cases h)⟩;rw[za a,za a];have a:jW g=true:=by cases h:jW g;exact zf h a;rfl
 by_cases i:lvl<1\/3<lvl\/m<0;rw[zb i,zb zO];exact⟨λh=>(by cases h),λh=>(by cases h)⟩;rw[za i,za zO];simp only;have b:((Wy g lvl m).2.2.2=0->Wy g lvl (m+n)=((Wy g lvl m).1,(Wy g lvl m).2.1,(Wy g lvl m).2.2.1+n,0)) /\
  ((Wy g lvl m).2.2.2=0\/(Wy g lvl m).2.2.2=13/\(Wy g lvl m).2.2.1=0/\((Wy g lvl (m+n)).2.2.2=13\/(Wy g lvl (m+n)).2.2.1<n)):=by
  unfold Wy
  by_cases e:jib g=true\/XC (yu g)=false
  ·simp only[zb e];by_cases f:m=0;rw[zb f];refine⟨λh=>(by cases h),.inr ⟨rfl,f,?_⟩⟩;by_cases c:m+n=0;rw[zb c];exact .inl rfl;rw[za c];right;simp only;omega;rw[za f,za zO];refine⟨λ_=>?_,.inl rfl⟩;simp only[bC,true_and,and_true];omega
  ·rw[za e,za e];have:=jk8 (lvl:=lvl) a _ m (m+n) (jbr j a) l zO;rw[show m+n-m=n by omega]at this;exact this
 have p:=j3z (lvl:=lvl) j a l;refine⟨λh=>?_,λh=>?_⟩;rw[b.1 h,h];refine⟨?_,zO⟩;simp only[bC,true_and,and_true];omega;rcases b.2 with k|⟨_,o,d⟩;rw[k]at h;cases h;refine⟨by rw[o];omega,?_⟩;rcases d with d|d;exact .inl d;right;omega
def ev5 (h:Hist') (lvl:Int) (m n:Nat) (Z:m<256) (hn:n<256):Ev E 5 [.int .i64 lvl,.agg (ya h),.int .u8 (m:Int),.int .u8 (n:Int)] (.bool true):=by
 obtain⟨r,Q,T⟩:=ev9 h;have i:=j9v h;have w:=jxm h;have I:=ju0 h;generalize yB h=g at *;have v:=ev10 i;have b:IntKind.i64.wrap (m:Int)=m:=jju zO zO;have w2:IntKind.i64.wrap (n:Int)=n:=jju zO zO;have L:IntKind.i64.wrap ((m:Int)+n)=m+n:=jju zO zO;obtain⟨M,z,k⟩:=ev12 i w I lvl m zO;obtain⟨K,u,l⟩:=ev12 i w I lvl (m+n) zO;obtain⟨H,J⟩:=j7p i w lvl m;obtain⟨B,G⟩:=jsb i lvl (m:=m) (n:=n) zO zO;generalize Je g lvl m=X at *;generalize Je g lvl (m+n)=Y at *;obtain⟨⟨c,d⟩,is,x,e⟩:=X;obtain⟨⟨c',d'⟩,a0,S,F⟩:=Y;simp only at H J B G;refine jV rfl ?_;conv in(occs:=*)F5=>all_goals cbv
 simp[ya,j0];refine jQ ev11 zS rfl zS ?_;simp[j0];refine jQ Q zH rfl zH ?_;refine j48 T λa1 b1 c1 D=>?_;simp[j0,j2,V.cells,V.leaf];refine jQ v zH rfl zH ?_;cases Z:(!jW g||decide (Qc (yu g) 1<=200));simp;exact j4 rfl zS rfl;simp[j0,b];refine jQ z zH rfl zH ?_;refine jo3 k λt1 t2 n1 n2 add=>?_;simp[j0,j2,V.cells,V.leaf,b,w2,L];refine jQ u zH rfl zH ?_;refine jo3 l λt3 t4 O P add=>?_;by_cases o:e=0;obtain⟨f,y⟩:=B o;cases f;subst o;have U:x<=(m:Int):=y;simp[j0,j2,V.cells,V.leaf];refine jQ (ev14 (a1:=n1) (a2:=n2) (b1:=O) (b2:=P) c d H J) (by simp[yj]) rfl (by simp[yj]) ?_;simp[b,U];exact j4 rfl zS rfl;have N:(e==0)=false:=by simpa using o
 by_cases a:e=13;subst a;obtain⟨f,y⟩:=G rfl;have f:x=(m:Int):=f;subst f;by_cases p:F=13;simp[j0,j2,V.cells,V.leaf,p,b];exact j4 rfl zS rfl;have s:(F==13)=false:=by simpa using p
 have t:(m:Int)<S:=by rcases y with q|q;exact zf q p;exact q
 simp[j0,j2,V.cells,V.leaf,p,s,b,t];exact j4 rfl zS rfl;have j:(e != 13)=true:=by simpa using a
 simp[j0,j2,V.cells,V.leaf,N,o,j,a];exact j4 rfl zS rfl
end Go.Pv.T
namespace Go.Pv.T
open Go Go.Pv Go.Proofs Go.Shelf
def renS:Ren where
 f:=λx=>match x with
  | 189=>167
  | 125=>174
  | 257=>219
  | 128=>231
  | 129=>232
  | 294=>264
  | 295=>265
  | 296=>266
  | 297=>267
  | 298=>268
  | 299=>269
  | 216=>270
  | 300=>271
  | 301=>272
  | 328=>294
  | 329=>275
  | 330=>276
  | 331=>295
  | 332=>296
  | 215=>297
  | 343=>315
  | n=>n
 t:=λx=>match x with
  | 28=>29
  | 3=>3
  | 46=>245
  | 0=>0
  | 51=>294
  | 53=>252
  | 4=>4
  | 183=>288
  | 182=>287
  | 131=>143
  | 5=>5
  | 9=>9
  | 218=>331
  | 222=>335
  | 228=>353
  | 229=>306
  | n=>n
 g:=λx=>x
def laysS:Lays.n189 Tryz.prog renS where
 mixed:=by kernel_rfl
 f125:=Tryz.func174.trans (zg some (by kernel_rfl))
 f128:=Tryz.func231.trans (zg some (by kernel_rfl))
 f129:=Tryz.func232.trans (zg some (by kernel_rfl))
 f189:=Tryz.func167.trans (zg some (by kernel_rfl))
 f215:=Tryz.func297.trans (zg some (by kernel_rfl))
 f216:=Tryz.func270.trans (zg some (by kernel_rfl))
 f257:=Tryz.func219.trans (zg some (by kernel_rfl))
 f294:=Tryz.func264.trans (zg some (by kernel_rfl))
 f295:=Tryz.func265.trans (zg some (by kernel_rfl))
 f296:=Tryz.func266.trans (zg some (by kernel_rfl))
 f297:=Tryz.func267.trans (zg some (by kernel_rfl))
 f298:=Tryz.func268.trans (zg some (by kernel_rfl))
 f299:=Tryz.func269.trans (zg some (by kernel_rfl))
 f300:=Tryz.func271.trans (zg some (by kernel_rfl))
 f301:=Tryz.func272.trans (zg some (by kernel_rfl))
 f328:=Tryz.func294.trans (zg some (by kernel_rfl))
 f329:=Tryz.func275.trans (zg some (by kernel_rfl))
 f330:=Tryz.func276.trans (zg some (by kernel_rfl))
 f331:=Tryz.func295.trans (zg some (by kernel_rfl))
 f332:=Tryz.func296.trans (zg some (by kernel_rfl))
 f343:=Tryz.func315.trans (zg some (by kernel_rfl))
 t0:=Tryz.underlying0
 a0:=Tryz.isAgg0
 z0:=Tryz.sizeOf0
 v0:=Tryz.zeroValue0
 t3:=Tryz.underlying3
 a3:=Tryz.isAgg3
 z3:=Tryz.sizeOf3
 v3:=Tryz.zeroValue3
 t4:=Tryz.underlying4
 a4:=Tryz.isAgg4
 z4:=Tryz.sizeOf4
 v4:=Tryz.zeroValue4
 t5:=Tryz.underlying5
 a5:=Tryz.isAgg5
 z5:=Tryz.sizeOf5
 v5:=Tryz.zeroValue5
 t9:=Tryz.underlying9
 a9:=Tryz.isAgg9
 z9:=Tryz.sizeOf9
 v9:=Tryz.zeroValue9
 t28:=Tryz.underlying29
 a28:=Tryz.isAgg29
 z28:=Tryz.sizeOf29
 v28:=Tryz.zeroValue29
 t46:=Tryz.underlying245
 a46:=Tryz.isAgg245
 z46:=Tryz.sizeOf245
 v46:=Tryz.zeroValue245
 t51:=Tryz.underlying294
 a51:=Tryz.isAgg294
 z51:=Tryz.sizeOf294
 v51:=Tryz.zeroValue294
 t53:=Tryz.underlying252
 a53:=Tryz.isAgg252
 z53:=Tryz.sizeOf252
 v53:=Tryz.zeroValue252
 t131:=Tryz.underlying143
 a131:=Tryz.isAgg143
 z131:=Tryz.sizeOf143
 v131:=Tryz.zeroValue143
 t182:=Tryz.underlying287
 a182:=Tryz.isAgg287
 z182:=Tryz.sizeOf287
 v182:=Tryz.zeroValue287
 t183:=Tryz.underlying288
 a183:=Tryz.isAgg288
 z183:=Tryz.sizeOf288
 v183:=Tryz.zeroValue288
 t218:=Tryz.underlying331
 a218:=Tryz.isAgg331
 z218:=Tryz.sizeOf331
 v218:=Tryz.zeroValue331
 t222:=Tryz.underlying335
 a222:=Tryz.isAgg335
 z222:=Tryz.sizeOf335
 v222:=Tryz.zeroValue335
 t228:=Tryz.underlying353
 a228:=Tryz.isAgg353
 z228:=Tryz.sizeOf353
 v228:=Tryz.zeroValue353
 t229:=Tryz.underlying306
 a229:=Tryz.isAgg306
 z229:=Tryz.sizeOf306
 v229:=Tryz.zeroValue306
def jud:jjp Tryz.prog 167 none:=by
 refine⟨⟨Tryz.f167,_,Tryz.func167,rfl,by kernel_rfl⟩,λp cap w=>?_,λblk off cap n zs w hlen _ h1 h2 h3=>?_⟩
 ·exact Any.slices_Sort_int_none laysS p cap w
 ·obtain rfl:zs.length=n:=by simpa[jge] using hlen
  have:=Any.slices_Sort_int laysS blk off cap zs w h1 h2 h3
  rwa [jml]at this
end Go.Pv.T
namespace Go.Pv.T
open Go Go.Pv Go.Proofs Go.Shelf Go.Sort Go.Lib
def renF:Ren where
 f:=λx=>match x with
  | 6=>119
  | 14=>173
  | 15=>174
  | 20=>223
  | 21=>224
  | 22=>225
  | 23=>226
  | 24=>227
  | 25=>228
  | 26=>229
  | 27=>230
  | 28=>231
  | 29=>232
  | 46=>274
  | 47=>275
  | 48=>276
  | 49=>277
  | 50=>278
  | 57=>299
  | n=>n
 t:=λx=>match x with
  | 0=>0
  | 3=>3
  | 4=>4
  | 5=>5
  | 9=>9
  | 22=>116
  | 25=>179
  | 39=>245
  | 45=>287
  | 46=>288
  | 50=>143
  | 53=>294
  | 55=>252
  | 66=>331
  | 70=>335
  | 76=>353
  | 77=>306
  | 24=>178
  | n=>n
 g:=λx=>x
def laysF:SlLaysF0.n6 Tryz.prog renF where
 mixed:=by kernel_rfl
 f6:=⟨Tryz.f119.name,by kernel_rfl,Tryz.func119.trans (zg some (by kernel_rfl))⟩
 f14:=⟨Tryz.f173.name,by kernel_rfl,Tryz.func173.trans (zg some (by kernel_rfl))⟩
 f15:=Tryz.func174.trans (zg some (by kernel_rfl))
 f20:=⟨Tryz.f223.name,by kernel_rfl,Tryz.func223.trans (zg some (by kernel_rfl))⟩
 f21:=⟨Tryz.f224.name,by kernel_rfl,Tryz.func224.trans (zg some (by kernel_rfl))⟩
 f22:=⟨Tryz.f225.name,by kernel_rfl,Tryz.func225.trans (zg some (by kernel_rfl))⟩
 f23:=⟨Tryz.f226.name,by kernel_rfl,Tryz.func226.trans (zg some (by kernel_rfl))⟩
 f24:=⟨Tryz.f227.name,by kernel_rfl,Tryz.func227.trans (zg some (by kernel_rfl))⟩
 f25:=⟨Tryz.f228.name,by kernel_rfl,Tryz.func228.trans (zg some (by kernel_rfl))⟩
 f26:=⟨Tryz.f229.name,by kernel_rfl,Tryz.func229.trans (zg some (by kernel_rfl))⟩
 f27:=⟨Tryz.f230.name,by kernel_rfl,Tryz.func230.trans (zg some (by kernel_rfl))⟩
 f28:=Tryz.func231.trans (zg some (by kernel_rfl))
 f29:=Tryz.func232.trans (zg some (by kernel_rfl))
 f46:=⟨Tryz.f274.name,by kernel_rfl,Tryz.func274.trans (zg some (by kernel_rfl))⟩
 f47:=Tryz.func275.trans (zg some (by kernel_rfl))
 f48:=Tryz.func276.trans (zg some (by kernel_rfl))
 f49:=⟨Tryz.f277.name,by kernel_rfl,Tryz.func277.trans (zg some (by kernel_rfl))⟩
 f50:=⟨Tryz.f278.name,by kernel_rfl,Tryz.func278.trans (zg some (by kernel_rfl))⟩
 f57:=⟨Tryz.f299.name,by kernel_rfl,Tryz.func299.trans (zg some (by kernel_rfl))⟩
 t0:=Tryz.underlying0
 a0:=Tryz.isAgg0
 z0:=Tryz.sizeOf0
 v0:=Tryz.zeroValue0
 t3:=Tryz.underlying3
 a3:=Tryz.isAgg3
 z3:=Tryz.sizeOf3
 v3:=Tryz.zeroValue3
 t4:=Tryz.underlying4
 a4:=Tryz.isAgg4
 z4:=Tryz.sizeOf4
 v4:=Tryz.zeroValue4
 t5:=Tryz.underlying5
 a5:=Tryz.isAgg5
 z5:=Tryz.sizeOf5
 v5:=Tryz.zeroValue5
 t9:=Tryz.underlying9
 a9:=Tryz.isAgg9
 z9:=Tryz.sizeOf9
 v9:=Tryz.zeroValue9
 t22:=Tryz.underlying116
 a22:=Tryz.isAgg116
 z22:=Tryz.sizeOf116
 v22:=Tryz.zeroValue116
 t25:=Tryz.underlying179
 a25:=Tryz.isAgg179
 z25:=Tryz.sizeOf179
 v25:=Tryz.zeroValue179
 t39:=Tryz.underlying245
 a39:=Tryz.isAgg245
 z39:=Tryz.sizeOf245
 v39:=Tryz.zeroValue245
 t45:=Tryz.underlying287
 a45:=Tryz.isAgg287
 z45:=Tryz.sizeOf287
 v45:=Tryz.zeroValue287
 t46:=Tryz.underlying288
 a46:=Tryz.isAgg288
 z46:=Tryz.sizeOf288
 v46:=Tryz.zeroValue288
 t50:=Tryz.underlying143
 a50:=Tryz.isAgg143
 z50:=Tryz.sizeOf143
 v50:=Tryz.zeroValue143
 t53:=Tryz.underlying294
 a53:=Tryz.isAgg294
 z53:=Tryz.sizeOf294
 v53:=Tryz.zeroValue294
 t55:=Tryz.underlying252
 a55:=Tryz.isAgg252
 z55:=Tryz.sizeOf252
 v55:=Tryz.zeroValue252
 t66:=Tryz.underlying331
 a66:=Tryz.isAgg331
 z66:=Tryz.sizeOf331
 v66:=Tryz.zeroValue331
 t70:=Tryz.underlying335
 a70:=Tryz.isAgg335
 z70:=Tryz.sizeOf335
 v70:=Tryz.zeroValue335
 t76:=Tryz.underlying353
 a76:=Tryz.isAgg353
 z76:=Tryz.sizeOf353
 v76:=Tryz.zeroValue353
 t77:=Tryz.underlying306
 a77:=Tryz.isAgg306
 z77:=Tryz.sizeOf306
 v77:=Tryz.zeroValue306
abbrev SP:Type:={ p:P2 // YN p.1=true/\YN p.2=true }
instance:Inhabited SP:=⟨⟨(0,0),zQ⟩⟩
def j8y (x:SP):List Value:=[.int .i64 x.1.1,.int .i64 x.1.2]
def cfP (x y:SP):Int:=if x.1.1=y.1.1 then x.1.2 - y.1.2 else x.1.1 - y.1.1
def jdz {z:Int}(h:YN z=true):-1000000000000<=z/\z<=1000000000000:=by simpa[YN] using h
def j7w (x y:SP) (W:World):Calls Tryz.prog 120 #[.agg #[.int .i64 x.1.1,.int .i64 x.1.2],.agg #[.int .i64 y.1.1,.int .i64 y.1.2]] W λe w'=>e=.returned (.int .i64 (cfP x y))/\∃q os',w'=grow (W.drewN q) os':=by
 obtain⟨⟨a,b⟩,h1,h2⟩:=x
 obtain⟨⟨c,d⟩,h3,h4⟩:=y
 have:=jdz h1
 have:=jdz h2
 have:=jdz h3
 have:=jdz h4
 have w1:IntKind.i64.wrap (a - c)=a - c:=ji zO zO
 have w2:IntKind.i64.wrap (b - d)=b - d:=ji zO zO
 unfold cfP
 simp only
 by_cases h:a=c
 ·rw[zb h]
  have hb:(a != c)=false:=by simpa using h
  go_enter Tryz.func120,Tryz.ntmps120
  go_wp2
  go_ret
  exact⟨rfl,0,_,by rw[alloc_eq_grow,alloc_eq_grow,grow_grow];rfl⟩
 ·rw[za h]
  have hb:(a != c)=true:=by simpa using h
  go_enter Tryz.func120,Tryz.ntmps120
  go_wp2
  go_ret
  exact⟨rfl,0,_,by rw[alloc_eq_grow,alloc_eq_grow,grow_grow];rfl⟩
def jpw (x y:SP):ltOf cfP x y=true ↔ pLt x.1 y.1:=by
 unfold ltOf cfP pLt
 rw[ze]
 split <;> omega
def jbz (x y:SP):ltOf cfP x y=false ↔ ¬ pLt x.1 y.1:=by rw[<- jpw];simp
def swoP:SWO (ltOf cfP) where
 irrefl x:=(jbz x x).2 (XR _)
 trans x y z h1 h2:=(jpw x z).2 (Y5 ((jpw x y).1 h1) ((jpw y z).1 h2))
 ntrans x y z h1 h2:=by
  rw[jbz]at *
  intro h
  rcases QO x.1 y.1 with h3|h3|h3
  ·exact h1 h3
  ·rw[h3]at h
   exact h2 h
  ·exact h2 (Y5 h3 h)
def totP (x y:SP) (h1:ltOf cfP x y=false) (h2:ltOf cfP y x=false):x=y:=by
 rw[jbz]at h1 h2
 rcases QO x.1 y.1 with h|h|h
 ·exact zf h h1
 ·exact Subtype.ext h
 ·exact zf h h2
def jmz {x y:P2}(h:QN x y=true) (h':QN y x=true):x=y:=by
 rw[pairLe_iff]at h h'
 rcases h with h|h
 ·rcases h' with h'|h'
  ·exact zf (Y5 h h') (XR _)
  ·exact h'.symm
 ·exact h
def jj6:∀ {l m:List P2},l.Perm m->l.Pairwise (λa b=>QN a b=true)->m.Pairwise (λa b=>QN a b=true)->l=m
 | [],m,h,_,_=>(List.nil_perm.1 h).symm
 | x::r,m,h,hs,hm=>by
  cases m with
  | nil=>exact zf h.length_eq zS
  | cons y q=>
   rw[bO]at hs hm
   have hx:x∈y::q:=h.mem_iff.1 zS
   have hy:y∈x::r:=h.mem_iff.2 zS
   have e:x=y:=by
    rcases bq.1 hx with h1|h1
    ·exact h1
    ·rcases bq.1 hy with h2|h2
     ·exact h2.symm
     ·exact jmz (hs.1 y h2) (hm.1 x h1)
   subst e
   rw[jj6 ((List.perm_cons x).1 h) hs.2 hm.2]
def jsa (l:List SP):(l.mergeSort λx y=>!(ltOf cfP) y x).map (·.1)=jaa (l.map (·.1)):=by
 refine jj6 (((List.mergeSort_perm l _).map _).trans (XP _).symm) ?_ (jii _)
 rw[eY]
 refine(gV (λa b c h1 h2=>?_) (λa b=>?_) l).imp fun {a b} h=>?_
 ·simp only[bS]at *
  exact swoP.ntrans c b a h2 h1
 ·simp only[bD,bS,jbz]
  rcases QO a.1 b.1 with h|h|h
  ·exact .inl λh'=>XR _ (Y5 h h')
  ·rw[h];exact .inl (XR _)
  ·exact .inr λh'=>XR _ (Y5 h h')
 ·simp only[bS,jbz]at h
  rw[pairLe_iff]
  rcases QO a.1 b.1 with h1|h1|h1
  ·exact .inl h1
  ·exact .inr h1
  ·exact zf h1 h
def jhy:∀ {n:Nat}{zs:List Int},zs.length=n*2->W3 (pairsI zs)=zs/\(pairsI zs).length=n
 | 0,zs,h=>by
  have:zs=[]:=cG.1 zO
  subst this
  exact⟨rfl,rfl⟩
 | n+1,[],h=>by simp at h
 | n+1,[_],h=>by simp at h;omega
 | n+1,a::b::r,h=>by
  obtain⟨h1,h2⟩:=jhy (n:=n) (zs:=r) (by simp at h;omega)
  exact⟨by simp only[pairsI,W3,h1],by simp only[pairsI,bg,h2]⟩
def jep:∀ {zs:List Int},zs.all YN=true->∀z∈pairsI zs,YN z.1=true/\YN z.2=true
 | [],_,z,hz=>by simp[pairsI]at hz
 | [_],_,z,hz=>by simp[pairsI]at hz
 | a::b::r,h,z,hz=>by
  simp only[bW,aj]at h
  rcases bq.1 hz with rfl|hz
  ·exact⟨h.1,h.2.1⟩
  ·exact jep h.2.2 z hz
def jxn:∀L:List P2,(W3 L).length=L.length*2
 | []=>rfl
 | _::L=>by simp only[W3,bg,jxn L];omega
def j3j:∀ (L:List SP) (t:Nat),t<L.length*2->(j8y L[t / 2]!)[t % 2]! = .int .i64 (W3 (L.map (·.1)))[t]!
 | [],t,h=>by simp at h
 | x::L,0,_=>rfl
 | x::L,1,_=>rfl
 | x::L,t+2,h=>by
  have ih:=j3j L t (by simp at h;omega)
  have e1:(t+2) / 2=t / 2+1:=zO
  have e2:(t+2) % 2=t % 2:=zO
  rw[e1,e2]
  simpa[W3] using ih
def jfu (L:List SP):flatK j8y 2 L.toArray=((W3 (L.map (·.1))).map (Value.int .i64)).toArray:=by
 apply gt
 ·simp[jxn]
 ·intro t h1 h2
  have ht:t<L.length*2:=by simpa using h1
  have:=j3j L t ht
  have h3:=get_flatK j8y 2 L.toArray t (by simpa using ht)
  rw[getElem!_pos _ t h1]at h3
  rw[h3]
  have e:L.toArray[t / 2]! = L[t / 2]!:=zS
  rw[e,this,getElem!_pos _ t (by rw[jxn];simpa using ht)]
  simp
def jkj (off:Nat) (L:List Int) (c:Array Value):putCells id off (L.map (Value.int .i64)).toArray c=putCells (Value.int .i64) off L.toArray c:=by
 unfold putCells
 congr 1
 funext k x
 simp only[cM,bp]
 split
 ·rename_i h
  rw[getElem!_pos _ _ (by simp;omega),getElem!_pos _ _ (by simp;omega)]
  simp
 ·rfl
def jox:jjp Tryz.prog 119 (some 120):=by
 refine⟨⟨Tryz.f119,_,Tryz.func119,rfl,by kernel_rfl⟩,λp cap w=>?_,λblk off cap n zs w hlen hmay hH hblk hn=>?_⟩
 ·exact AnyF.slices_SortFunc_none laysF p cap _ w
 ·obtain⟨h1,h2⟩:=jhy (n:=n) (zs:=zs) hlen
  have hsm:=jep hmay
  obtain⟨L,hL⟩:∃L:List SP,L.map (·.1)=pairsI zs:=⟨(pairsI zs).pmap (λp h=>⟨p,h⟩) hsm,by rw[List.map_pmap];simp⟩
  have hLl:L.length=n:=by rw[<- h2,<- hL,bp]
  have eg:∀args w,(callFunc 120 args).run Tryz.prog w=.ok (.enter 120 args) w:=enters_of Tryz.func120 (by kernel_rfl) rfl
  have hz:zs=W3 (L.map (·.1)):=by rw[hL,h1]
  have hHK:HoldsK j8y 2 w blk off L.toArray:=by
   unfold HoldsK
   rw[jfu,<- hz]
   intro j hj
   have hj':j<zs.length:=by simpa using hj
   have:=hH j (by simpa using hj')
   rw[getElem!_pos _ _ (by simpa using hj')]at this ⊢
   simpa using this
  have key:=AnyQ.slices_SortFunc_total laysF 2 Tryz.isAgg178 Tryz.sizeOf178 j8y (λ_=>rfl) (λx v hv=>by simp[j8y]at hv;rcases hv with rfl|rfl <;> rfl) cfP swoP 120 #[] blk off cap L.toArray w eg
   (λ_ _ _ _ x y=>j7w x y _) hHK hblk (by simpa[hLl] using hn) totP
  rw[show L.toArray.size=n by simpa using hLl]at key
  refine key.mono ?_
  rintro e w' ⟨rfl,m,os,rfl⟩
  refine⟨rfl,m,os,?_⟩
  unfold sortWorldK putRowK
  rw[jfu,jsa,show L.toArray.toList.map (·.1)=pairsI zs from hL]
  unfold putRow
  congr 1
  congr 1
  funext c
  exact jkj off _ c
end Go.Pv.T
namespace Go.Pv.T
open Go Go.Pv Go.Proofs
def j5v (p:Option Addr) (cap:Nat) (w:World):Calls Tryz.prog 151 #[.slice p 0 cap] w λe a=>e=.returned (.pointer (some ⟨w.heap.size,0,none⟩))/\∃t,a=w.alloc (.cells #[.int .u64 0,.int .u64 0,.int .u64 0,.int .u64 0,.int .u64 0,.int .u64 0,.int .u64 0,.int .u64 0] t):=by
 go_enter Tryz.func151,Tryz.ntmps151
 go_wp2
 refine wp_loop_rounds 1 ?_
 rw[rounds_succ]
 go_wp2
 go_ret
 exact⟨rfl,_,rfl⟩
def mkLaw:j8g Tryz.prog 151 j91:=by
 refine⟨⟨_,_,Tryz.func151,rfl,by kernel_rfl⟩,λp b w=>(j5v p b w).mono ?_⟩
 rintro e d ⟨rfl,t,rfl⟩
 refine⟨rfl,_,t,rfl,rfl,λj x v c a=>?_⟩
 match j with
 | 0|1|2|3|4|5|6|7=>
  simp[j91]at c a
  subst c a
  exact⟨rfl,λI=>.int _ _⟩
 | j+8=>simp[j91]at a
end Go.Pv.T
namespace Go.Pv.T
open Go Go.Pv Go.Proofs Tryz
abbrev Jzz:=jL Tryz.prog false
def j1 {P:Program} {r:Bool} {f:FuncId} {fn:Func} {af:AF} (h1:P.funcs[f]? = some fn) (m:Bool:=false) (h2:compF P m r fn=some af:=by kernel_rfl) (h3:(fn.name == "runtime.NumGoroutine")=false:=by kernel_rfl) (h4:af.body.dstOk fn.ntmps=true:=by kernel_rfl):jL P r f af:=by
 unfold compF at h2
 cases hb:fn.body with
 |none=>rw[hb]at h2;cases h2
 |some c=>
  rw[hb,am]at h2
  cases hc:comp P m r c with
  |none=>rw[hc]at h2;cases h2
  |some b=>
   rw[hc,am]at h2
   cases hr:fn.results.toList.mapM (YL P) with
   |none=>rw[hr]at h2;cases h2
   |some res=>
    rw[hr]at h2
    cases h2
    exact⟨m,fn,c,h1,hb,hc,hr,h3,h4⟩
def fc_2Ok {f:FuncId}{af:AF}(h:fc_2 f=some af):Jzz f af:=by
 unfold fc_2 at h
 split at h<;>try cases h
 ·exact j1 func232
 ·exact j1 func233
 ·exact j1 func234
 ·exact j1 func235
 ·exact j1 func236
 ·exact j1 func237
 ·exact j1 func243
 ·exact j1 func245
 ·exact j1 func246
 ·exact j1 func247
 ·exact j1 func248
 ·exact j1 func249
 ·exact j1 func250
 ·exact j1 func251
 ·exact j1 func253
 ·exact j1 func255
 ·exact j1 func279
 ·exact j1 func280
 ·exact j1 func281
 ·exact j1 func286
 ·exact j1 func287
 ·exact j1 func288
 ·exact j1 func290
 ·exact j1 func291
 ·exact j1 func301
 ·exact j1 func305
 ·exact j1 func314
 ·exact j1 func321
def fc_1Ok {f:FuncId}{af:AF}(h:fc_1 f=some af):Jzz f af:=by
 unfold fc_1 at h
 split at h<;>try cases h
 ·exact j1 func114
 ·exact j1 func123
 ·exact j1 func124
 ·exact j1 func128
 ·exact j1 func129
 ·exact j1 func130
 ·exact j1 func131
 ·exact j1 func132
 ·exact j1 func133
 ·exact j1 func134
 ·exact j1 func135
 ·exact j1 func136
 ·exact j1 func137
 ·exact j1 func138
 ·exact j1 func141
 ·exact j1 func142
 ·exact j1 func144
 ·exact j1 func146
 ·exact j1 func147
 ·exact j1 func148
 ·exact j1 func161
 ·exact j1 func162
 ·exact j1 func165
 ·exact j1 func169
 ·exact j1 func174
 ·exact j1 func178
 ·exact j1 func179
 ·exact j1 func180
 ·exact j1 func181
 ·exact j1 func182
 ·exact j1 func188
 ·exact j1 func189
 ·exact j1 func190
 ·exact j1 func191
 ·exact j1 func192
 ·exact j1 func194
 ·exact j1 func195
 ·exact j1 func196
 ·exact j1 func197
 ·exact j1 func198
 ·exact j1 func199
 ·exact j1 func200
 ·exact j1 func201
 ·exact j1 func202
 ·exact j1 func206
 ·exact j1 func207
 ·exact j1 func208
 ·exact j1 func211
 ·exact j1 func218
 ·exact j1 func222
 ·exact fc_2Ok h
def fcOk {f:FuncId}{af:AF}(h:fc f=some af):Jzz f af:=by
 unfold fc at h
 split at h<;>try cases h
 ·exact j1 func5
 ·exact j1 func9 true
 ·exact j1 func10
 ·exact j1 func11
 ·exact j1 func12 true
 ·exact j1 func14
 ·exact j1 func17
 ·exact j1 func25
 ·exact j1 func28
 ·exact j1 func29
 ·exact j1 func30
 ·exact j1 func37
 ·exact j1 func41
 ·exact j1 func48 true
 ·exact j1 func49
 ·exact j1 func50
 ·exact j1 func51
 ·exact j1 func52 true
 ·exact j1 func53
 ·exact j1 func54
 ·exact j1 func55
 ·exact j1 func57 true
 ·exact j1 func64
 ·exact j1 func69
 ·exact j1 func70
 ·exact j1 func71
 ·exact j1 func72
 ·exact j1 func73
 ·exact j1 func74 true
 ·exact j1 func75 true
 ·exact j1 func79
 ·exact j1 func81
 ·exact j1 func82
 ·exact j1 func85
 ·exact j1 func87
 ·exact j1 func90
 ·exact j1 func92
 ·exact j1 func93
 ·exact j1 func94
 ·exact j1 func95
 ·exact j1 func98 true
 ·exact j1 func101 true
 ·exact j1 func102 true
 ·exact j1 func106
 ·exact j1 func107
 ·exact j1 func109
 ·exact j1 func110
 ·exact j1 func111
 ·exact j1 func112
 ·exact j1 func113 true
 ·exact fc_1Ok h
def fs_1Ok {f:FuncId}{af:AF}(h:fs_1 f=some af):jL Tryz.prog true f af:=by
 unfold fs_1 at h
 split at h<;>try cases h
 ·exact j1 func204 true
 ·exact j1 func205 true
 ·exact j1 func209 true
 ·exact j1 func210 true
 ·exact j1 func211 true
 ·exact j1 func212 true
 ·exact j1 func213 true
 ·exact j1 func217 true
 ·exact j1 func220 true
 ·exact j1 func221 true
 ·exact j1 func222 true
 ·exact j1 func233 true
 ·exact j1 func234 true
 ·exact j1 func235 true
 ·exact j1 func237 true
 ·exact j1 func252 true
 ·exact j1 func254 true
 ·exact j1 func255 true
 ·exact j1 func256 true
 ·exact j1 func257 true
 ·exact j1 func258 true
 ·exact j1 func259 true
 ·exact j1 func261 true
 ·exact j1 func262 true
 ·exact j1 func263 true
 ·exact j1 func273 true
 ·exact j1 func289 true
 ·exact j1 func291 true
 ·exact j1 func292 true
 ·exact j1 func293 true
 ·exact j1 func298 true
 ·exact j1 func306 true
def fsOk {f:FuncId}{af:AF}(h:fs f=some af):jL Tryz.prog true f af:=by
 unfold fs at h
 split at h<;>try cases h
 ·exact j1 func27 true
 ·exact j1 func31 true
 ·exact j1 func56 true
 ·exact j1 func58 true
 ·exact j1 func80 true
 ·exact j1 func83 true
 ·exact j1 func84 true
 ·exact j1 func86 true
 ·exact j1 func88 true
 ·exact j1 func89 true
 ·exact j1 func91 true
 ·exact j1 func96 true
 ·exact j1 func97 true
 ·exact j1 func99 true
 ·exact j1 func100 true
 ·exact j1 func115 true
 ·exact j1 func116 true
 ·exact j1 func117 true
 ·exact j1 func118 true
 ·exact j1 func121 true
 ·exact j1 func122 true
 ·exact j1 func123 true
 ·exact j1 func124 true
 ·exact j1 func139 true
 ·exact j1 func140 true
 ·exact j1 func143 true
 ·exact j1 func145 true
 ·exact j1 func147 true
 ·exact j1 func148 true
 ·exact j1 func149 true
 ·exact j1 func150 true
 ·exact j1 func151 true
 ·exact j1 func152 true
 ·exact j1 func153 true
 ·exact j1 func154 true
 ·exact j1 func164 true
 ·exact j1 func166 true
 ·exact j1 func168 true
 ·exact j1 func170 true
 ·exact j1 func171 true
 ·exact j1 func172 true
 ·exact j1 func175 true
 ·exact j1 func176 true
 ·exact j1 func177 true
 ·exact j1 func178 true
 ·exact j1 func179 true
 ·exact j1 func180 true
 ·exact j1 func181 true
 ·exact j1 func182 true
 ·exact j1 func203 true
 ·exact fs_1Ok h
def envOk:EnvOk Tryz.prog E:=⟨λ_ _ h=>fcOk h,λ_ _ h=>fsOk h,(λf m h=>by
 simp only[E]at h
 split at h
 ·cases h;exact jud
 ·cases h;exact jox
 ·cases h),(λf cs h=>by
 simp only[E]at h
 split at h
 ·cases h;exact mkLaw
 ·cases h)⟩
end Go.Pv.T
namespace Go.Pv.T
open Go Go.Pv Go.Proofs Go.ChangeShapes Go.WideShapes Go.ChangeAt Go.RowKit Go.Proofs.YtmanndcfeicokaaGreatDoor
def own:ownKnob Tryz.prog.godebug=none:=by kernel_rfl
def jwi:laidOutB Tryz.prog=true:=by kernel_rfl
def mixed:Tryz.prog.follows .mixedOrders=true:=by kernel_rfl
def jse:List (String × DataW Unit):=[("math/bits.deBruijn64tab",Rows.laid_math_bits_deBruijn64tab),("unicode/utf8.acceptRanges",Rows.laid_unicode_utf8_acceptRanges),("deemster/event.words",Rows.laid_deemster_event_words),("unicode/utf8.first",Rows.laid_unicode_utf8_first)]
def jwg:V->Value
 | .int k n=>.int k n
 | .str s=>.string ⟨s.toArray⟩
 | _=>.nilFunc
def putCells (h:Array Obj) (g:Nat) (cs:Array Value):Array Obj:=h.modify g fun
 | .cells _ t frozen=>.cells cs t frozen
 | o=>o
def jof:Array Value:=#[.int .u8 128,.int .u8 191,.int .u8 160,.int .u8 191,.int .u8 128,.int .u8 159,.int .u8 144,.int .u8 191,.int .u8 128,.int .u8 143,.int .u8 0,.int .u8 0,.int .u8 0,.int .u8 0,.int .u8 0,.int .u8 0,.int .u8 0,.int .u8 0,.int .u8 0,.int .u8 0,.int .u8 0,.int .u8 0,.int .u8 0,.int .u8 0,.int .u8 0,.int .u8 0,.int .u8 0,.int .u8 0,.int .u8 0,.int .u8 0,.int .u8 0,.int .u8 0]
noncomputable def laidWorld (os:Os):World :=
 let w0:=World.holding Tryz.prog os ⟨#[],#[],[]⟩
 { w0 with heap:=putCells (putCells (putCells (putCells w0.heap 4 (bruij.map jwg).toArray) 0 (words.map jwg).toArray) 2 (utf8first.map jwg).toArray) 3 jof }
def j2b (os:Os) (args:Array Value):laidMetH Tryz.prog jse ((laidWorld os).forCall (λ_ _=>0) ⟨#[],args,[]⟩).memory:=by
 rw[MakeChecks.laidMetH_plain _ _ _ (by kernel_rfl)]
 exact laidMet_of_run' 8 (by kernel_rfl) (by kernel_rfl)
def gWords:Tryz.prog.globalNamed "deemster/event.words" = some 0:=by kernel_rfl
def gFirst:Tryz.prog.globalNamed "unicode/utf8.first" = some 2:=by kernel_rfl
def gBruij:Tryz.prog.globalNamed "math/bits.deBruijn64tab" = some 4:=by kernel_rfl
def tBruij:(Tryz.prog.globals[4]?).map (·.type)=some 355:=by kernel_rfl
def tWords:(Tryz.prog.globals[0]?).map (·.type)=some 262:=by kernel_rfl
def tFirst:(Tryz.prog.globals[2]?).map (·.type)=some 311:=by kernel_rfl
def YP (W:World):IMap:=λb o=>W.cell? ⟨b,o,none⟩
def jx3 (W:World):jl9 (YP W) W:=λ_ _ _ h=>h
def jmd:DataW Unit->V
 | .lit (.int k n)=>.int k n
 | .lit (.string s)=>.str s
 | _=>.undef
def job {W:World}{t e:TypeId}{n fuel:Nat}{cs:List Value}{ds:List (DataW Unit)}{p:List MemPlace}(ht:Tryz.prog.underlying t=some (.array n e)) (hc:Tryz.prog.cellsOf e=1)
 (he:Tryz.prog.underlying e=some .string\/∃k,Tryz.prog.underlying e=some (.int k)) (h:DataW.trod (λ_=>()) Tryz.prog W 0 (λ_=>true) false fuel t cs=some (.agg ds,p)) (I:IMap) :
 ∀ (j:Nat) (d:DataW Unit),ds[j]? = some d->∃x,cs[j]? = some x/\RepP I x (jmd d):=by
 obtain⟨xs,m,rfl,hx,hlen,hn,hel⟩:=DataW.trod_array ht h
 intro j d hd
 simp only[bC,DataW.agg.injEq]at hx
 rw[hx.1,aR]at hd
 cases hy:xs[j]? with
 | none=>simp[hy]at hd
 | some y=>
  rw[hy]at hd
  simp only[aO,ab]at hd
  have hj:j<n:=by rw[<- hn];exact(ag.1 hy).1
  have:=hel j hj
  rw[hc,bE,hy]at this
  have one:∀c,(cs.drop j).take 1=[c]->cs[j]? = some c:=by
   intro c hcc
   have:=zg List.head? hcc
   simpa[List.head?_take,List.head?_drop] using this
  rcases he with he|⟨k,he⟩
  ·obtain⟨s,e1,e2,_⟩:=DataW.trod_string he this
   refine⟨_,one _ e1,?_⟩
   rw[<- hd,e2]
   exact RepP.str s
  ·obtain⟨s,e1,e2,_⟩:=DataW.trod_int he this
   refine⟨_,one _ e1,?_⟩
   rw[<- hd,e2]
   exact RepP.int k s
def jqb {W:World}{nm:String}{g:Nat}{cs:Array Value}{ds:List (DataW Unit)}(hg:Tryz.prog.globalNamed nm=some g) (hv:W.var? Tryz.prog nm=some cs) (hp:(ds.map jmd).all V.pureLeaf=true)
 (h:∀ (j:Nat) (d:DataW Unit),ds[j]? = some d->∃x,cs.toList[j]? = some x/\RepP (YP W) x (jmd d)):RepP (YP W) (.pointer (some ⟨g,0,none⟩)) (.eptr (ds.map jmd) 0):=by
 have hc:=World.var?_cell hg hv
 refine RepP.eptr g 0 0 (ds.map jmd) (λj=>(cs[j]?).getD .nilFunc) (λj hj=>?_) (λj v hj=>?_) (λj v hj=>?_)
 ·rw[bp]at hj
  obtain⟨x,hx,_⟩:=h j ds[j] (aa hj)
  have hx':cs[j]? = some x:=by simpa using hx
  show W.cell? ⟨g,0+j,none⟩=_
  rw[bN,hc j,hx']
  rfl
 ·exact ap.1 hp v (aH hj)
 ·rw[aR]at hj
  cases hd:ds[j]? with
  | none=>rw[hd]at hj;cases hj
  | some d=>
   rw[hd]at hj
   cases hj
   obtain⟨x,hx,hr⟩:=h j d hd
   have hx':cs[j]? = some x:=by simpa using hx
   rw[hx']
   exact hr
def aggOf:DataW Unit->List (DataW Unit)
 | .agg l=>l
 | _=>[]
def jy4:(aggOf Rows.laid_deemster_event_words).map jmd=words:=by kernel_rfl
def j2j:(aggOf Rows.laid_math_bits_deBruijn64tab).map jmd=bruij:=by kernel_rfl
def jx9:Rows.laid_math_bits_deBruijn64tab=.agg (aggOf Rows.laid_math_bits_deBruijn64tab):=by kernel_rfl
def js7:((aggOf Rows.laid_math_bits_deBruijn64tab).map jmd).all V.pureLeaf=true:=by kernel_rfl
def j1y:(aggOf Rows.laid_unicode_utf8_first).map jmd=utf8first:=by kernel_rfl
def jxj:Rows.laid_unicode_utf8_first=.agg (aggOf Rows.laid_unicode_utf8_first):=by kernel_rfl
def jq5:((aggOf Rows.laid_deemster_event_words).map jmd).all V.pureLeaf=true:=by kernel_rfl
def jsv:((aggOf Rows.laid_unicode_utf8_first).map jmd).all V.pureLeaf=true:=by kernel_rfl
def jl3 {H:Type}{enc:TypeId × Value->H}{W W':World}(hb:Below W.heap.size W W'):∀ {ts:List TypeId}{vs:List Value}{ds:List (DataW H)}{ps:List MemPlace},
 (∀t∈ts,Tryz.prog.readableRec t=true/\t<Tryz.prog.types.size)->(∀x∈ps,x.block<W.heap.size) ->
 DataW.TrodAll enc Tryz.prog W 0 (λ_=>true) true ts vs ds ps->DataW.TrodAll enc Tryz.prog W' 0 (λb=>decide (b<W.heap.size)) true ts vs ds ps
 | [],[],[],_,_,_,h=>h
 | t::ts,v::vs,d::ds,_,ht,hlt,⟨p,q,h1,h2,e⟩=>by
  subst e
  exact⟨p,q,Below.trod jwi (ht t (aJ ..)).1 (ht t (aJ ..)).2 h1 hb (λx hx=>hlt x (cy _ hx)),
   jl3 hb (λt' h'=>ht t' (aQ _ h')) (λx hx=>hlt x (bQ _ hx)) h2,rfl⟩
 | [],_::_,_,_,_,_,h=>h.elim
 | [],[],_::_,_,_,_,h=>h.elim
 | _::_,[],_,_,_,_,h=>h.elim
 | _::_,_::_,[],_,_,_,h=>h.elim
def ju5 {H:Type}{enc:TypeId × Value->H}{fn:Func}{s:ChangeSpec}{W W':World}{args:Array Value}{ds gs:List (DataW H)}{before:List MemPlace}(hW:DataW.Whole enc Tryz.prog fn.params.toList s.vars false W args.toList ds gs before)
 (hv:s.vars=[]) (hr:fn.resultTypes = #[4]) (hs:(s.fn H ds).results=[.lit (.bool true)]) (ha:(s.fn H ds).args=ds) (hvs:(s.fn H ds).vars=[])
 (ht:∀t∈fn.params.toList,Tryz.prog.readableRec t=true/\t<Tryz.prog.types.size) (hg:W.grownBy W' none):s.post enc Tryz.prog fn false true false false W args (.bool true) W':=by
 have hb:Below W.heap.size W W':=(Below.refl _ W).grown hg zK (λ_ h=>by cases h)
 have hW':=hW
 obtain⟨p,q,hA,hV,rfl,_,_⟩:=hW
 rw[hv]at hV
 obtain⟨rfl,rfl⟩:=trodVars_none hV
 have hlt:∀x∈p,x.block<W.heap.size:=λx hx=>by simpa using hW'.lt x (cy _ hx)
 refine⟨ds,[],_,[],p,[],hW',?_,?_,?_,hb.frame _,λh=>by cases h⟩
 ·rw[aU,hs,hr]
  exact trodAll_mk1 (shut_bool Tryz.underlying4 _)
 ·rw[aU,ha]
  exact jl3 hb ht hlt hA
 ·rw[aU,hvs,hv]
  rfl
end Go.Pv.T
