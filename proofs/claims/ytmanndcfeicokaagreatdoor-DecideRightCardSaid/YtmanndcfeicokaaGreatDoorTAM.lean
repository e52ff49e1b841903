/- Part. -/
import Derived.Test.YtmanndcfeicokaaGreatDoorTAL
set_option maxRecDepth 100000
set_option maxHeartbeats 8000000
set_option linter.all false
namespace Go.Pv.T
open Go Go.Pv
def bl_flat (bs:List Bool):bs.map V.bool=bs.flatMap blC:=by induction bs<;>simp_all [blC]
def bl_end {st:St}{q l u n:Nat}{bs:List Bool}{P:V->Prop}(o:∀r,SlR r false n (bs.flatMap blC)->P r) (k:st.df=[]) (w:st.tm q=.osl l u 0 n 1) (d:st.ob l=some ⟨u,.cells (bs.flatMap blC)⟩) (m:bs.length=n) (_:0<n) (y:st.ro=0):Ws [.t q] P .ret st:=by
 have e:(bs.flatMap blC).length=n:=by rw[j4 jqj,bB,m]
 have a:j0 st.ob l u=some (bs.flatMap blC):=by simp[j0,d]
 have j:(bs.flatMap blC).mapM (Ja st 5)=some (bs.flatMap blC):=by
  clear a d e m o;induction bs with
  |nil=>rfl
  |cons b bs x=>rw[aZ];show(V.bool b::bs.flatMap blC).mapM (Ja st 5)=_;rw[bP,x];rfl
 have s:Ja st 6 (.osl l u 0 n 1)=some (.sl none false n (bs.flatMap blC)):=by show((j0 st.ob l u).bind λcs=>if Nat.ble st.ro u=true/\0+n*1<=cs.length then (((cs.drop 0).take (n*1)).mapM (Ja st 5)).map λf=>V.sl none false n f else none)=_;rw[a,ap,zb ⟨bY▸zO,zO⟩,dy,bB,aJ zO,j];rfl
 have d:∃t:Option (Nat×Nat),jw st true 0 (.osl l u 0 n 1)=some (.sl t false n (bs.flatMap blC))/\∀p∈t.toList,p.1<64:=by simp only[jw,s,ap,a,aU];refine⟨_,rfl,λp c=>?_⟩;split at c;simp at c;subst c;decide;simp at c
 obtain⟨t,i,h⟩:=d;have g:[ARes.t q].mapM (jv st)=some [.osl l u 0 n 1]:=by simp[jv,w]
 refine⟨.sl t false n (bs.flatMap blC),?_,o _ ⟨t,rfl,h⟩⟩;simp only[jc2,WB k,W0 k,zd,g,ap,WQ];have v:yH ([V.osl l u 0 n 1].flatMap V.toks)=true:=rfl;rw[v];simp only[Je,XD,i,ap,aU];cases t<;>rfl
def ev108 {g:Hist'}(hs:Small g) {nl:Bool}{M:List Int}(hM:M.length=(yi g).length) {t:Nat}(ht:t<g.ts.length) :
 ∃v,Ev E 108 [.agg (ya g),yl false jE (yi g),yl nl yf M,.int .i64 (t:Int)] v/\SlR v false g.ts.length (((List.range g.ts.length).map (farB g M t)).flatMap blC):=by
 have d5:=hs.ts;have d1:0<g.ts.length:=zO;refine X6 rfl zQ ?_;conv in(occs:=*)F108=>all_goals cbv
 simp[ya,j0];refine j3x (n:=g.ts.length) zS zS zO zO zO rfl zQ ?_;simp[jin];refine jg λO q=>?_;have g1:O.tm 1=yl false jE (yi g):=by rw[q];simp
 have g2:O.tm 2=yl nl yf M:=by rw[q];simp
 have g3:O.tm 3=.int .i64 (t:Int):=by rw[q];simp
 have g4:O.tm 4=.ptr 8 0 0:=by rw[q];simp
 have g9:O.tm 9=.osl 32 320 0 g.ts.length 1:=by rw[q];simp
 have d2:O.tm 10=.bool true:=by rw[q];simp
 have p8:O.ob 8=some ⟨0,.cells (ya g)⟩:=by rw[q];simp[ya]
 have d0:O.ob 32=some ⟨320,.cells ((List.replicate g.ts.length false).map V.bool)⟩:=by rw[q];simp
 have gd:O.df=[]:=by rw[q];simp
 have gr:O.ro=0:=by rw[q];simp
 have gb:O.fb=0:=by rw[q];simp
 clear q;obtain⟨J,hJ⟩:∃J:Nat->St->Prop,J=λk s=>∃bs m,FarS g M t bs/\(m=false->∀a b,a<g.ts.length->b<g.ts.length->jg6 g M t bs a b=false)/\bs.count false+(if m then 1 else 0)<=k /\
  s.tm 1=yl false jE (yi g)/\s.tm 2=yl nl yf M/\s.tm 3=.int .i64 (t:Int)/\s.tm 4=.ptr 8 0 0/\s.tm 9=.osl 32 320 0 g.ts.length 1/\s.tm 10=.bool m/\s.ob 8=some ⟨0,.cells (ya g)⟩/\s.ob 32=some ⟨320,.cells (bs.map V.bool)⟩/\s.df=[]/\s.ro=0/\s.fb=0:=⟨_,rfl⟩
 refine Yk (n:=g.ts.length+1) J (by
  rw[hJ];exact⟨List.replicate g.ts.length false,true,⟨zS,λa h=>by simp[am,iy]at h;split at h<;>cases h⟩,(λh=>by cases h),zS,g1,g2,g3,g4,g9,d2,p8,d0,gd,gr,gb⟩) ?_
 intro k s c6;rw[hJ]at c6;obtain⟨P,m,hF,d3,hk,s1,s2,s3,s4,s9,c2,o8,b5,sd,sr,sb⟩:=c6;cases m;simp[c2];have c7:=far_all hF ht (d3 rfl);rw[c7,bl_flat]at b5;refine bl_end (l:=32) (u:=320) (n:=g.ts.length) (bs:=(List.range g.ts.length).map (farB g M t)) (λr h=>h) (by simp[sd]) (by simp[s9]) (zU b5) zS d1 (by simp[sr]);simp only[zd]at hk;simp[c2];obtain⟨I,hI⟩:∃I:Nat->St->Prop,I=λi s=>s.tm 11=.int .i64 i/\∃bs m,FarR g M t P i 0 bs m/\s.tm 10=.bool m/\s.ob 8=some ⟨0,.cells (ya g)⟩/\s.ob 32=some ⟨320,.cells (bs.map V.bool)⟩:=⟨_,rfl⟩;refine j9 [(10,12),(18,58)] g.ts.length I rfl rfl (by
  rw[hI];exact⟨zS,P,false,⟨hF,λ_=>⟨rfl,λa b h _=>by omega⟩,λh=>by cases h⟩,zS,zU o8,zU b5⟩) ?_
 intro i w hi c0 f;rw[hI]at c0;obtain⟨a0,c1,m1,hR,c5,v8,b9⟩:=c0;have f1:w.tm 1=yl false jE (yi g):=by rw[f.t 1 zS];simp[s1]
 have f2:w.tm 2=yl nl yf M:=by rw[f.t 2 zS];simp[s2]
 have f3:w.tm 3=.int .i64 (t:Int):=by rw[f.t 3 zS];simp[s3]
 have f4:w.tm 4=.ptr 8 0 0:=by rw[f.t 4 zS];simp[s4]
 have f9:w.tm 9=.osl 32 320 0 g.ts.length 1:=by rw[f.t 9 zS];simp[s9]
 have fd:w.df=[]:=by rw[f.d];simp[sd]
 have fr:w.ro=0:=by rw[f.r];simp[sr]
 have fb:w.fb=0:=by rw[f.b];simp[sb]
 clear f;by_cases L:i<g.ts.length;simp[a0,f4,v8,j0,ya,L];obtain⟨I2,b0⟩:∃I2:Nat->St->Prop,I2=λj s=>s.tm 12=.int .i64 j/\∃bs m,FarR g M t P i j bs m/\s.tm 10=.bool m/\s.ob 8=some ⟨0,.cells (ya g)⟩/\s.ob 32=some ⟨320,.cells (bs.map V.bool)⟩:=⟨_,rfl⟩;refine j9 [(10,10),(12,12),(25,58)] g.ts.length I2 rfl rfl (by
  rw[b0];exact⟨zS,c1,m1,hR,zU c5,zU v8,zU b9⟩) ?_
 intro j x hj c3 f;rw[b0]at c3;obtain⟨z,bs,m,b8,S,H,o⟩:=c3;have x1:x.tm 1=yl false jE (yi g):=by rw[f.t 1 zS];simp[f1]
 have x2:x.tm 2=yl nl yf M:=by rw[f.t 2 zS];simp[f2]
 have x3:x.tm 3=.int .i64 (t:Int):=by rw[f.t 3 zS];simp[f3]
 have x4:x.tm 4=.ptr 8 0 0:=by rw[f.t 4 zS];simp[f4]
 have x9:x.tm 9=.osl 32 320 0 g.ts.length 1:=by rw[f.t 9 zS];simp[f9]
 have D:x.tm 11=.int .i64 (i:Int):=by rw[f.t 11 zS];simp[a0]
 have xd:x.df=[]:=by rw[f.d];simp[fd]
 have xr:x.ro=0:=by rw[f.r];simp[fr]
 have xb:x.fb=0:=by rw[f.b];simp[fb]
 clear f;by_cases e:j<g.ts.length;have hw:=jb e zO;have B:=b8.next ht L e;have d4:bs.length=g.ts.length:=b8.1.1;have G:=j6j (l:=32) (u:=320) (n:=g.ts.length) (kk:=.i64) (X:=(i:Int)) rfl L;have b6:=j6j (l:=32) (u:=320) (n:=g.ts.length) (kk:=.i64) (X:=(j:Int)) rfl e;have K:=js7 bs (i:=i) zO;have b7:=js7 bs (i:=j) zO;have c9:bs.getD i false=bs[i]:=by simp[am,show i<bs.length by omega]
 have c8:bs.getD j false=bs[j]:=by simp[am,show j<bs.length by omega]
 have F:=ev163 hs (nl:=nl) hM L e;have N:((j:Int)==(t:Int))=(j==t):=by rw[bz];simp;omega
 unfold jg6 at B;rw[c9,c8]at B;have c4:=jtw bs i true zO;have p:∀(x':St) (T:List Bool) (m':Bool),FarR g M t P i (j+1) T m'->x'.tm 12=.int .i64 ((j+1:Nat):Int)->x'.tm 10=.bool m'->x'.ob 8=some ⟨0,.cells (ya g)⟩->x'.ob 32=some ⟨320,.cells (T.map V.bool)⟩->I2 (j+1) x':=λx' T m' a1 a2 a3 a4 a5=>by rw[b0];exact⟨a2,T,m',a1,a3,a4,a5⟩
 cases Z:bs[i];have Q:∀c:Bool,ja5 g M i j=c->((j==t)||bs[j])=true->FarR g M t P i (j+1) (if c then bs.set i true else bs) (m||c):=λc hc hq=>by rw[Z,hc,hq]at B;simpa using B
 cases U:(j==t);cases cj:bs[j];rw[Z,U,cj]at B;simp at B;simp[z,x4,x3,x9,D,H,o,j0,ya,e,G,b6,K,b7,Z,cj,N,U,hw];exact p _ bs m B zS (by simp[S]) (by simp[H,ya]) (by simp[o]);rw[U,cj]at Q;cases cs:ja5 g M i j;have y:=Q false cs rfl;rw[cs]at F;simp at y;simp[z,x4,x3,x9,D,x1,x2,H,o,j0,ya,e,G,b6,K,b7,Z,cj,N,U];refine jL F zI rfl zI ?_;simp[hw,z,e];exact p _ bs m y zS (by simp[S]) (by simp[H,ya]) (by simp[o]);have y:=Q true cs rfl;rw[cs]at F;simp at y;simp[z,x4,x3,x9,D,x1,x2,H,o,j0,ya,e,G,b6,K,b7,Z,cj,N,U];refine jL F zI rfl zI ?_;simp[hw,z,e,x9,D,G,o,j0,c4,xr];exact⟨zO,p _ (bs.set i true) true y zS zS (by simp[H,ya]) (by simp[dv])⟩;cases cs:ja5 g M i j;have y:=Q false cs (by rw[U];rfl);rw[cs]at F;simp at y;simp[z,x4,x3,x9,D,x1,x2,H,o,j0,ya,e,G,K,Z,N,U];refine jL F zI rfl zI ?_;simp[hw,z,e];exact p _ bs m y zS (by simp[S]) (by simp[H,ya]) (by simp[o]);have y:=Q true cs (by rw[U];rfl);rw[cs]at F;simp at y;simp[z,x4,x3,x9,D,x1,x2,H,o,j0,ya,e,G,K,Z,N,U];refine jL F zI rfl zI ?_;simp[hw,z,e,x9,D,G,o,j0,c4,xr];exact⟨zO,p _ (bs.set i true) true y zS zS (by simp[H,ya]) (by simp[dv])⟩;rw[Z]at B;simp at B;simp[z,x4,x9,D,H,o,j0,ya,e,G,K,Z,hw];exact p _ bs m B zS (by simp[S]) (by simp[H,ya]) (by simp[o]);have:j=g.ts.length:=zO;subst this;have hw:=jb L zO;simp[z,x4,H,j0,ya,D,hw,L];rw[hI];exact⟨zS,bs,m,b8.row,zU S,by simpa[ya] using H,zU o⟩;have:i=g.ts.length:=zO;subst this;simp[a0,f4,v8,j0,ya];refine⟨k-1,zO,?_⟩;rw[hJ];refine⟨c1,m1,hR.1,λhm a b ha hb=>?_,?_,zU f1,zU f2,zU f3,zU f4,zU f9,zU c5,by simpa[ya] using v8,zU b9,by simp[fd],by simp[fr],by simp[fb]⟩;rw[(hR.2.1 hm).1];exact(hR.2.1 hm).2 a b (.inl ha) hb;cases m1;rw[(hR.2.1 rfl).1];simp;omega;have:=hR.2.2 rfl;simp;omega
def ev67 {g:Hist'}(hs:Small g) {nl on:Bool}{M O:List Int}(hM:M.length=(yi g).length) (hO:O.length<=1000000) (lvl:Int) {q:Nat}(hq:q<(yi g).length) {t:Nat}(ht:t<g.ts.length) (j:((yi g)[q]).1=t) :
 ∃v,Ev E 67 [.int .i64 lvl,.agg (ya g),yl nl yf M,yl on yf O,.int .i64 (q:Int)] v/\SlR v false (WZ g lvl M O (yi g)[q]).length ((WZ g lvl M O (yi g)[q]).flatMap yf):=by
 have f5:=hs.ts;have f2:=XZ hs;obtain⟨vr,d3,d9⟩:=ev64 hs;obtain⟨vp,d7,b7⟩:=ev108 hs (nl:=nl) hM ht;refine X6 rfl zQ ?_;obtain⟨p,hp⟩:∃p,(yi g)[q]=p:=⟨_,rfl⟩;have b9:=jxx (yi g) hq;have f4:=jd jU (λ_=>none) (yi g) hq;rw[hp]at j b9 ⊢;obtain⟨F,hF⟩:∃F,(λi=>Qn g lvl M O p i)=F:=⟨_,rfl⟩;have m:∀i,Qn g lvl M O p i=F i:=λi=>congrFun hF i;have hL:WZ g lvl M O p=Ye F g.ts.length:=by unfold WZ;rw[<- hF]
 rw[hL];have e8:lvl=1->∀i:Nat,F i=rcB (yi g) M p i:=λh i=>by rw[<- m];simp[Qn,h]
 have e7:lvl=2->∀i,F i=farB g M t i:=λh i=>by rw[<- m];simp[Qn,h,j]
 have c9:lvl=3->∀i:Nat,F i=(J8 g i&&decide (atO O i<atO O t)):=λh i=>by rw[<- m];simp[Qn,h,j]
 have e0:lvl≠1->lvl≠2->lvl≠3->∀i,F i=false:=λh1 h2 h3 i=>by rw[<- m];simp[Qn,h1,h2,h3]
 clear m hF;obtain⟨B,hB⟩:∃B,(List.range g.ts.length).map (farB g M t)=B:=⟨_,rfl⟩;rw[hB]at b7;have d6:B.length=g.ts.length:=by rw[<- hB];simp
 have e6:∀i (h:i<B.length),B[i]=farB g M t i:=λi h=>by simp[<- hB]
 clear hL;generalize yi g=R at *;conv in(occs:=*)F67=>all_goals cbv
 simp[ya,j0];refine jL d3 zI rfl zI ?_;refine XB d9 λtr f1=>?_;simp;refine jN (cs:=[]) rfl rfl rfl ?_;have b6:=λob=>WP R ob hq;simp only[hp]at b6;simp[j0,hq,JS jU,b6,j6];simp only[j]at b6 b9;simp[j];refine jL d7 zH rfl zI ?_;rw[<- d6]at b7;refine XB b7 λtp f0=>?_;simp;refine jg λH e=>?_;have g0:H.tm 0=.int .i64 lvl:=by rw[e];simp
 have g2:H.tm 2=yl nl yf M:=by rw[e];simp
 have g3:H.tm 3=yl on yf O:=by rw[e];simp
 have g6:H.tm 6=.ptr 12 0 0:=by rw[e];simp
 have d0:H.tm 11=.sl tr false R.length (R.flatMap jE):=by rw[e];simp
 have e4:H.tm 13=.ptr 26 704 0:=by rw[e];simp
 have d5:H.tm 14=.sl tp false B.length (B.flatMap blC):=by rw[e];simp
 have d1:H.tm 15=.int .i64 0:=by rw[e];simp
 have d8:H.ob 12=some ⟨0,.cells (ya g)⟩:=by rw[e];simp[ya]
 have d2:H.ob 26=some ⟨704,.cells [.int .i64 (t:Int),.int .i64 p.2]⟩:=by rw[e];simp
 have gG:GrowT H.tk H.nx yf 1 (Ye F 0) (H.tm 12):=by rw[e];exact⟨_,by simp[Ye];rfl,by simp[jf],zS⟩
 have gd:H.df=[]:=by rw[e];simp
 have gr:H.ro=0:=by rw[e];simp
 have gb:H.fb=0:=by rw[e];simp
 clear e;obtain⟨I,hI⟩:∃I:Nat->St->Prop,I=λi s=>s.tm 15=.int .i64 i/\s.ob 12=some ⟨0,.cells (ya g)⟩/\s.ob 26=some ⟨704,.cells [.int .i64 (t:Int),.int .i64 p.2]⟩/\GrowT s.tk s.nx yf 1 (Ye F i) (s.tm 12):=⟨_,rfl⟩;refine j9 [(12,12),(15,17),(31,105)] g.ts.length I rfl rfl (by
  rw[hI];exact⟨zU d1,d8,d2,gG⟩) ?_
 intro i s hi c4 f;rw[hI]at c4;obtain⟨w,L,b5,hG⟩:=c4;have s0:s.tm 0=.int .i64 lvl:=by rw[f.t 0 zS];simp[g0]
 have s2:s.tm 2=yl nl yf M:=by rw[f.t 2 zS];simp[g2]
 have s3:s.tm 3=yl on yf O:=by rw[f.t 3 zS];simp[g3]
 have s6:s.tm 6=.ptr 12 0 0:=by rw[f.t 6 zS];simp[g6]
 have d4:s.tm 11=.sl tr false R.length (R.flatMap jE):=by rw[f.t 11 zS];simp[d0]
 have c8:s.tm 13=.ptr 26 704 0:=by rw[f.t 13 zS];simp[e4]
 have e5:s.tm 14=.sl tp false B.length (B.flatMap blC):=by rw[f.t 14 zS];simp[d5]
 have sd:s.df=[]:=by rw[f.d];simp[gd]
 have sr:s.ro=0:=by rw[f.r];simp[gr]
 have sb:s.fb=0:=by rw[f.b];simp[gb]
 clear f;by_cases D:i<g.ts.length;have hw:=jb D zO;have f3:=jg7 F i;simp[w,s6,L,j0,ya,D,s0];generalize c6:juz E YU _ _=KK;have z:∀x:St,x.tm 16=.bool (F i)->x.tm 15=.int .i64 i->x.ob=s.ob->x.tk=s.tk->s.nx<=x.nx->x.tm 12=s.tm 12->KK .nrm x:=by
  intro x o J S xk xn b0;rw[<- c6];clear c6;have n:Ye F (i+1)=Ye F i++(if F i then [(i:Int)] else []):=rfl;cases hf:F i;rw[hf]at o n;simp only[ah,zc,aP]at n;simp[o,J,hw,D];rw[hI];refine⟨zS,by simp[S,L],by simp[S,b5],?_⟩;rw[n];simpa[b0,xk] using hG.mono (nx':=x.nx+64+64+64+64) (λ_ _ h=>h) zO;rw[hf]at o n;simp only[zd]at n;simp[o,J];refine jN (cs:=yf i) (by simp[j6,yf]) rfl rfl ?_;simp[yf];refine YA (hi:=s.nx) (f:=yf) (l:=Ye F i) (a:=(i:Int)) (v:=s.tm 12) (hG.mono (λu _ h=>by simp[jf,xk,h]) zK) (by simp[b0]) (by simp[jF,yf]) j8 zQ (by simp[yf,V.pureLeaf]) zO zO (λf6 e9=>?_);rw[<- n];have c0:(Ye F i).length+1=(Ye F (i+1)).length:=by rw[n];simp
  rw[c0];obtain⟨Q,hQ⟩:∃Q,Ye F (i+1)=Q:=⟨_,rfl⟩;rw[hQ];simp[J,hw,D];rw[hI];refine⟨zS,by simp[S,L],by simp[S,b5],?_⟩;rw[hQ];exact⟨_,by simp;rfl,by simp[jf],zS⟩
 by_cases e1:lvl=1;simp[e1];have hc:=e8 e1 i;unfold rcB at hc;refine j9 [(16,17),(41,75)] R.length (λk x=>x.tm 17=.int .i64 k/\(∃X,x.tm 16=.bool X/\(X||((R.drop k).zip (M.drop k)).any λy=>y.1.1==p.1&&(decide (y.1.2<p.2)&&y.2==(i:Int)))=F i)/\x.ob=s.ob/\x.tk=s.tk/\s.nx<=x.nx) rfl rfl ⟨zS,⟨false,zS,zU hc.symm⟩,zS,zS,by simp;omega⟩ ?_;rintro k x hk ⟨K,⟨X,o,c⟩,S,xk,xn⟩ f;have J:x.tm 15=.int .i64 i:=by rw[f.t 15 zS];simp[w]
 have x2:x.tm 2=yl nl yf M:=by rw[f.t 2 zS];simp[s2]
 have N:x.tm 11=.sl tr false R.length (R.flatMap jE):=by rw[f.t 11 zS];simp[d4]
 have Z:x.tm 13=.ptr 26 704 0:=by rw[f.t 13 zS];simp[c8]
 have b0:x.tm 12=s.tm 12:=by rw[f.t 12 zS];simp
 clear f;have U:x.ob 26=some ⟨704,.cells [.int .i64 (t:Int),.int .i64 p.2]⟩:=by rw[S];exact b5
 by_cases G:k<R.length;have T:=jb G zO;have a0:k<M.length:=zO;have h1:=jt M a0;have h2:=jxx R G;rw[aR G,aR a0,gD,bJ,<- Bool.or_assoc]at c;rw[j]at c;cases X;cases P:((R[k]).1==(t:Int));rw[P]at c;simp[K,o,N,Z,U,j0,G,JS jU,h2,P,T];exact⟨by simpa[j] using c,S,xk,zO⟩;by_cases c2:(R[k]).2<p.2;cases c3:(M[k]==(i:Int));rw[P,c3,zi c2]at c;simp[K,o,N,Z,U,x2,J,j0,G,a0,JS jU,j7 j8,h1,h2,P,c2,c3,T];exact⟨by simpa[j] using c,S,xk,zO⟩;rw[P,c3,zi c2]at c;simp[K,o,N,Z,U,x2,J,j0,G,a0,JS jU,j7 j8,h1,h2,P,c2,c3,T];exact⟨by simpa[j] using c,S,xk,zO⟩;rw[P,decide_eq_false c2]at c;simp[K,o,N,Z,U,j0,G,JS jU,h2,P,c2,T];exact⟨by simpa[j] using c,S,xk,zO⟩;simp[K,o,N,G,T];exact⟨by simpa[j] using c,S,xk,zO⟩;have:k=R.length:=zO;subst this;rw[dc]at c;simp at c;simp[K,N];exact z _ (by simp[o,c]) (by simp[J]) (by simp[S]) (by simp[xk]) zP (by simp[b0]);have b1:(lvl==1)=false:=by simpa using e1
 by_cases e2:lvl=2;have c5:=bl_at B (i:=i) zO;rw[e6 i zO,<- e7 e2 i]at c5;have b8:=JS jqj tp false B .i64 (i:=i) zO;rw[bB]at b8;simp[e2,e5,w,b8,c5];exact z _ zS (by simp[w]) zS zS zP zS;have b2:(lvl==2)=false:=by simpa using e2
 by_cases e3:lvl=3;have c7:(g.ts.flatMap jl)[i*3+1]? = some (.int .i64 (g.ts[i]).f):=by rw[jZ jA g.ts D (by decide:1<3)];rfl
 have m:=c9 e3 i;rw[jld D]at m;have ea:=ev66 (a:=on) O zO (i:Int);have eb:=ev66 (a:=on) O zO (t:Int);cases P:((g.ts[i]).f==1);rw[P,bE]at m;simp[e3,s6,L,j0,ya,w,D,j7 jA,c7,P];exact z _ (by simp[m]) (by simp[w]) zS zS zP zS;rw[P,bF]at m;simp[e3,s6,L,j0,ya,w,D,j7 jA,c7,P,s3];refine Jb ea zS rfl zS ?_;simp[c8,b5,j0,s3];refine Jb eb zS rfl zS ?_;simp;exact z _ (by simp[m]) (by simp[w]) zS zS zP zS;have b3:(lvl==3)=false:=by simpa using e3
 simp[b1,b2,b3];exact z _ (by simp[e0 e1 e2 e3]) (by simp[w]) zS zS zP zS;have:i=g.ts.length:=zO;subst this;obtain⟨u,hu,_,_⟩:=hG;simp[w,s6,L,j0,ya];exact slE (t:=some (u,1)) (nl:=false) (k:=(Ye F g.ts.length).length) (cs:=(Ye F g.ts.length).flatMap yf) (λr h=>h) (by simp[sd]) (by simp[hu])
def YM (g:Hist'):(ym g).length<=g.ts.length:=Jh X4 g.ts g.ts.length
def ev35 {g:Hist'}(H:Small g) {nl:Bool}(O:List Int) (P:O.length<=1000000):Ev E 35 [.agg (ya g),yl nl yf O] (.bool (JC g O)):=by
 have w:=H.ts;have e:=ev28 H;have l:=ev16 g w;have N:=YM g;refine jQ rfl ?_;unfold JC;have q:yt X4 g.ts g.ts.length=ym g:=rfl;rw[q]at l;generalize ym g=C at *;obtain⟨f,z⟩:∃f:Nat->Bool,(λi=>C.contains (O.getD i 0) && !(O.take i).contains (O.getD i 0))=f:=⟨_,rfl⟩;have b:∀i (h:i<O.length),f i=(C.contains O[i] && !(O.take i).contains O[i]):=λi h=>by rw[<- z];simp only[JN h]
 rw[z];clear z;cases B:jX g
 ·rw[B]at e;conv in(occs:=*)F35=>all_goals cbv
  simp[ya,j0];refine jL e zI rfl zI ?_;simp;exact j5 zS zS rfl
 rw[B]at e;conv in(occs:=*)F35=>all_goals cbv
 simp[ya,j0];refine jL e zI rfl zI ?_;simp[j0];refine jL l zI rfl zI ?_;refine XB (nl:=false) (n:=C.length) (cs:=C.flatMap yf) ⟨_,rfl,zS⟩ λJ I=>?_;simp;by_cases u:C.length=O.length;simp[u];refine j9 [(4,4),(6,6),(17,39)] O.length (λi s=>s.tm 6=.int .i64 i/\∀k,k<i->f k=true) rfl rfl ⟨zS,λk F=>by omega⟩ ?_;rintro i s Q ⟨o,j⟩ fr;have v:s.tm 1=yl nl yf O:=by rw[fr.t 1 zS];simp
 have L:s.tm 5=.sl J false C.length (C.flatMap yf):=by rw[fr.t 5 zS];simp[u]
 have p:s.df=[]:=by rw[fr.d];simp
 clear fr;by_cases c:i<O.length;have x:=jb c zO;have G:=jt O c;have K:=ev63 (a:=false) C zO O[i];have M:=ev63 (a:=nl) (O.take i) zP O[i];have b:=b i c;simp[o,v,L,c,j7 j8,G];refine Jb K (by simp[yl]) rfl zS ?_;cases D:C.contains O[i];rw[D,bE]at b;simp;exact j5 (by simp[p]) (by simp[XL c b]) rfl;rw[D,bF]at b;have y:Y5 1 none (some (.int .i64 (i:Int))) (yl nl yf O)=some (yl nl yf (O.take i)):=joy j8 none nl O zO;simp[o,v,c,j7 j8,G,y];refine Jb M zS rfl zS ?_;cases m:(O.take i).contains O[i];rw[m]at b;simp[x,o,c];intro k F;rcases bg.1 F with h|h;exact j k h;subst h;exact b;rw[m]at b;simp;exact j5 (by simp[p]) (by simp[XL c b]) rfl;have:i=O.length:=zO;subst this;simp[o,v];exact j5 (by simp[p]) (by simp[andTo_iff.2 j]) rfl;have r:((C.length:Int) != O.length)=true:=by simp;omega
 simp[r];exact j5 zS (by simp[u]) rfl
def jki {g:Hist'}(b:Yr g=true) {q:Nat}(c:q<(yi g).length):∃(i k:Nat) (hi:i<g.ts.length) (a:k<(g.ts[i]).ops.length),(yi g)[q]=((i:Int),(k:Int))/\We g (yi g)[q]=((g.ts[i]).ops[k]).key/\J8 g i=true:=by
 obtain⟨i,k,t,e,d,f,a,_⟩:=jf7 (au c);obtain⟨hi,rfl⟩:=aj.1 d;refine⟨i,k,hi,a,e,?_,by simpa[J8,hi] using f⟩;rw[e];have:opAt g (i:Int) (k:Int)=some (g.ts[i]).ops[k]:=by unfold opAt;simp[b,hi,a,am]
 unfold We;simp only[this]
def Wk {g:Hist'}(h:jX g=true):Yr g=true:=by unfold jX at h;simp only[ab]at h;exact h.1
def ev36 {g:Hist'}(hs:Small g) {nl on:Bool}(lvl:Int) {M O:List Int}(e5:Xl g M=true) (ho:JC g O=true):Ev E 36 [.int .i64 lvl,.agg (ya g),yl nl yf M,yl on yf O] (.bool (JX g lvl M O)):=by
 have e4:=hs.ts;have i4:=XZ hs;have g4:=XE e5;have i3:=jgh ho;have i5:=YM g;have d8:=Wk (Xa e5);have e7:=ev16 g e4;obtain⟨vr,f6,f8⟩:=ev64 hs;have g7:yt X4 g.ts g.ts.length=ym g:=rfl;rw[g7]at e7;refine jQ rfl ?_;unfold JX;obtain⟨f1,d1⟩:∃f,sesB g O=f:=⟨_,rfl⟩;obtain⟨f2,d7⟩:∃f,jei g lvl M O=f:=⟨_,rfl⟩;rw[d1,d7];simp only[F36,cfa,cf,Proofs.Tryz.f36,jh5,ap];conv in (occs := *) cbvRg _ _ _ _=>all_goals cbv
 simp only[ap,aU];conv in (occs := *) Option.getD _ _=>all_goals cbv
 simp[ya,j0];refine Jb e7 zI rfl zI ?_;refine XB (nl:=false) (n:=(ym g).length) (cs:=(ym g).flatMap yf) ⟨_,rfl,zS⟩ λtc i1=>?_;simp[j0];refine Jb f6 zI rfl zI ?_;refine XB f8 λtr h9=>?_;simp;refine jg λX D=>?_;have g0:X.tm 0=.int .i64 lvl:=by rw[D];simp
 have g2:X.tm 2=yl nl yf M:=by rw[D];simp
 have g3:X.tm 3=yl on yf O:=by rw[D];simp
 have g5:X.tm 5=.ptr 10 0 0:=by rw[D];simp
 have g9:X.tm 9=.sl tc false (ym g).length ((ym g).flatMap yf):=by rw[D];simp
 have g6:X.tm 10=.sl tr false (yi g).length ((yi g).flatMap jE):=by rw[D];simp
 have e9:X.tm 11=.int .i64 0:=by rw[D];simp
 have f0:X.ob 10=some ⟨0,.cells (ya g)⟩:=by rw[D];simp[ya]
 have gd:X.df=[]:=by rw[D];simp
 have gr:X.ro=0:=by rw[D];simp
 have gb:X.fb=0:=by rw[D];simp
 clear D;refine j9 [(8,8),(11,12),(23,75)] (ym g).length (λi s=>s.tm 11=.int .i64 i/\s.ob 10=some ⟨0,.cells (ya g)⟩/\∀k,k<i->f1 k=true) rfl rfl ⟨zU e9,f0,λk hk=>by omega⟩ ?_;rintro i s hi ⟨c6,c7,F⟩ fr;have s0:s.tm 0=.int .i64 lvl:=by rw[fr.t 0 zS];simp[g0]
 have s2:s.tm 2=yl nl yf M:=by rw[fr.t 2 zS];simp[g2]
 have s3:s.tm 3=yl on yf O:=by rw[fr.t 3 zS];simp[g3]
 have s5:s.tm 5=.ptr 10 0 0:=by rw[fr.t 5 zS];simp[g5]
 have s9:s.tm 9=.sl tc false (ym g).length ((ym g).flatMap yf):=by rw[fr.t 9 zS];simp[g9]
 have f4:s.tm 10=.sl tr false (yi g).length ((yi g).flatMap jE):=by rw[fr.t 10 zS];simp[g6]
 have sd:s.df=[]:=by rw[fr.d];simp[gd]
 have sr:s.ro=0:=by rw[fr.r];simp[gr]
 have sb:s.fb=0:=by rw[fr.b];simp[gb]
 clear fr;have ix:∀{k:Nat},k<(ym g).length->ju 1 (.sl tc false (ym g).length ((ym g).flatMap yf)) (.int .i64 (k:Int))=some (.eptr ((ym g).flatMap yf) k):=fun {k} h=>by have:=JS j8 tc false (ym g) .i64 h;rwa [bB]at this
 by_cases c:i<(ym g).length;have hw:=jb c zO;obtain⟨vb,f7,h4⟩:=ev65 hs ((ym g)[i]);have h1:=jt (ym g) c;have B:f1 i=((badH g ((ym g)[i])).isEmpty&&Qc (jdd g O i) i):=by rw[<- d1,sesB,JN c]
 simp[c6,s9,s5,c7,j0,ya,c,ix c,h1];refine Jb f7 zI rfl zI ?_;refine XB h4 λtb h8=>?_;cases L:(badH g ((ym g)[i])).isEmpty;rw[L,bE]at B;have c8:0<(badH g ((ym g)[i])).length:=dT.2 (λe=>by rw[e]at L;cases L);simp[c8];exact j5 (by simp[sd]) (by simp[XL c B]) rfl;rw[L,bF]at B;have c8:¬0<(badH g ((ym g)[i])).length:=by rw[dV]at L;rw[L];simp
 simp[c8];refine j9 [(8,8),(12,12),(37,75)] i (λk x=>x.tm 12=.int .i64 k/\x.ob 10=some ⟨0,.cells (ya g)⟩/\∀j,j<k->jdd g O i j=true) rfl rfl ⟨zS,by simpa[ya] using c7,λk hk=>by omega⟩ ?_;rintro k x hk ⟨b0,I,c5⟩ fr;have x3:x.tm 3=yl on yf O:=by rw[fr.t 3 zS];simp[s3]
 have x5:x.tm 5=.ptr 10 0 0:=by rw[fr.t 5 zS];simp[s5]
 have x9:x.tm 9=.sl tc false (ym g).length ((ym g).flatMap yf):=by rw[fr.t 9 zS];simp[s9]
 have b6:x.tm 11=.int .i64 i:=by rw[fr.t 11 zS];simp[c6]
 have xd:x.df=[]:=by rw[fr.d];simp[sd]
 clear fr;by_cases P:k<i;have Z:k<(ym g).length:=zO;have d4:=jb P zO;have Q:=jt (ym g) Z;obtain⟨a,ea,d2⟩:=comL_mem.1 (au Z);obtain⟨b,eb,h0⟩:=comL_mem.1 (au c);have o:jdd g O i k=(!(yD g a==yD g b)||decide (atO O a<atO O b)):=by unfold jdd;rw[JN Z,JN c,ea,eb];rfl
 have ha:=JZ d2;have hb:=JZ h0;rw[je1 ha,je1 hb]at o;have sa:(g.ts.flatMap jl)[a*3]? = some (.int .i64 (g.ts[a]).s):=by have:=jZ jA g.ts ha (by decide:0<3);rw[bp]at this;rw[this];rfl
 have e8:(g.ts.flatMap jl)[b*3]? = some (.int .i64 (g.ts[b]).s):=by have:=jZ jA g.ts hb (by decide:0<3);rw[bp]at this;rw[this];rfl
 have e1:=ev66 (a:=on) O zO (a:Int);have e2:=ev66 (a:=on) O zO (b:Int);rw[ea]at Q;rw[eb]at h1;cases b8:((g.ts[a]).s==(g.ts[b]).s);rw[b8]at o;simp at o;simp[b0,b6,x5,x9,I,j0,ya,P,ix Z,ix c,h1,Q,ha,hb,j7 jA,sa,e8,b8,d4];intro j hj;rcases bg.1 hj with h|h;exact c5 j h;subst h;exact o;rw[b8]at o;simp only[bN,bQ]at o;simp[b0,b6,x5,x9,x3,I,j0,ya,P,ix Z,ix c,h1,Q,ha,hb,j7 jA,sa,e8,b8];refine Jb e1 zS rfl zS ?_;simp[b6,x9,x3,ix c,h1];refine Jb e2 zS rfl zS ?_;by_cases G:atO O a<atO O b;rw[zi G]at o;simp[show ¬atO O (b:Int)<=atO O (a:Int) by omega,b0,d4,P];refine⟨by simpa[ya] using I,λj hj=>?_⟩;rcases bg.1 hj with h|h;exact c5 j h;subst h;exact o;rw[decide_eq_false G]at o;simp[show atO O (b:Int)<=atO O (a:Int) by omega];exact j5 (by simp[xd]) (by simp[XL c (B.trans (XL P o))]) rfl;have:k=i:=zO;subst this;simp[b0,b6,hw,c];refine⟨by simpa[ya] using I,λj hj=>?_⟩;rcases bg.1 hj with h|h;exact F j h;subst h;rw[B];exact andTo_iff.2 c5
 ·have:i=(ym g).length:=zO;subst this;rw[andTo_iff.2 F,bF];clear F d1;simp[c6,s9];refine j9 [(8,8),(13,18),(76,163)] (yi g).length (λi s=>s.tm 13=.int .i64 i/\s.ob 10=some ⟨0,.cells (ya g)⟩/\∀k,k<i->f2 k=true) rfl rfl ⟨zS,zU c7,λk hk=>by omega⟩ ?_;rintro i w hi ⟨U,d9,F⟩ fr;have w0:w.tm 0=.int .i64 lvl:=by rw[fr.t 0 zS];simp[s0]
  have w2:w.tm 2=yl nl yf M:=by rw[fr.t 2 zS];simp[s2]
  have w3:w.tm 3=yl on yf O:=by rw[fr.t 3 zS];simp[s3]
  have w5:w.tm 5=.ptr 10 0 0:=by rw[fr.t 5 zS];simp[s5]
  have e6:w.tm 10=.sl tr false (yi g).length ((yi g).flatMap jE):=by rw[fr.t 10 zS];simp[f4]
  have wd:w.df=[]:=by rw[fr.d];simp[sd]
  have wr:w.ro=0:=by rw[fr.r];simp[sr]
  have wb:w.fb=0:=by rw[fr.b];simp[sb]
  clear fr;by_cases c:i<(yi g).length
  ·have hw:=jb c zO;have H:i<M.length:=zO;obtain⟨a,k,ha,hk,hp,c1,d2⟩:=jki d8 c;have d0:=WP (yi g) w.ob c;have J:=jt M H;obtain⟨vs,g8,c4⟩:=ev67 hs (nl:=nl) (on:=on) (M:=M) (O:=O) g4 zO lvl c ha (by rw[hp]);have B:f2 i=(decide (M[i]<0\/atO O M[i]<atO O a)&&(WZ g lvl M O (yi g)[i]).all (okB g O (yi g)[i] M[i])):=by rw[<- d7,jei,aa c,aa H];simp only[hp]
   have e1:=ev66 (a:=on) O zO M[i];have e2:=ev66 (a:=on) O zO (a:Int);rw[hp]at d0;simp only at d0;obtain⟨m,f3⟩:∃m,M[i]=m:=⟨_,rfl⟩;rw[f3]at J B e1;obtain⟨p,h5⟩:∃p,(yi g)[i]=p:=⟨_,rfl⟩;rw[h5]at hp c1 c4 B;obtain⟨S,hS⟩:∃S,WZ g lvl M O p=S:=⟨_,rfl⟩;rw[hS]at c4 B;have h3:∀x∈S,∃n:Nat,x=n/\n<g.ts.length:=λx hx=>by rw[<- hS]at hx;obtain⟨n,h1,Q,_⟩:=filTo_mem.1 hx;exact⟨n,Q,h1⟩
   have i2:S.length<=1000:=by rw[<- hS];exact bL (jg7 _ _) e4
   clear hS;simp[U,e6,c,JS jU,d0,j6,wb,j0,wr,w2,H,j7 j8,J];generalize c9:juz E YU _ _=KK;have c0:∀x:St,∀u,(decide (m<0\/atO O m<atO O a)=true)->x.tm 103=.bool false->x.tm 0=.int .i64 lvl->x.tm 2=yl nl yf M->x.tm 3=yl on yf O->x.tm 5=.ptr 10 0 0->x.tm 13=.int .i64 i->x.tm 14=.ptr 28 u 0->x.ob 10=some ⟨0,.cells (ya g)⟩->x.ob 28=some ⟨u,.cells [.int .i64 (a:Int),.int .i64 (k:Int)]⟩->x.df=[]->x.ro=0->x.fb=0->KK .nrm x:=by
    intro x u hc d3 x0 x2 x3 x5 e0 h6 I h7 xd xr xb;rw[<- c9];clear c9;rw[hc,bF]at B;simp[d3,x0,x2,x3,x5,e0,I,j0,ya];refine jL g8 zI rfl zI ?_;refine XB c4 λts i0=>?_;have ix:∀{j:Nat},j<S.length->ju 1 (.sl ts false S.length (S.flatMap yf)) (.int .i64 (j:Int))=some (.eptr (S.flatMap yf) j):=fun {j} h=>by have:=JS j8 ts false S .i64 h;rwa [bB]at this
    have g1:(g.ts.flatMap jl)[a*3+2]? = some (yl (g.ts[a]).nl yQ (g.ts[a]).ops):=by rw[jZ jA g.ts ha (by decide:2<3)];rfl
    have f5:((g.ts[a]).ops.flatMap yQ)[k*4+1]? = some (.int .i64 ((g.ts[a]).ops[k]).key):=by rw[jZ jH (g.ts[a]).ops hk (by decide:1<4)];rfl
    simp;refine j9 [(8,8),(16,18),(110,163)] S.length (λj y=>y.tm 16=.int .i64 j/\y.ob 10=some ⟨0,.cells (ya g)⟩/\y.ob 28=some ⟨u,.cells [.int .i64 (a:Int),.int .i64 (k:Int)]⟩/\∀q,q<j->okB g O p m (S.getD q 0)=true) rfl rfl ⟨zS,by simpa[ya] using I,zU h7,λq hq=>by omega⟩ ?_;rintro j y hj ⟨K,N,b5,d5⟩ fr;have y2:y.tm 2=yl nl yf M:=by rw[fr.t 2 zS];simp[x2]
    have y3:y.tm 3=yl on yf O:=by rw[fr.t 3 zS];simp[x3]
    have y5:y.tm 5=.ptr 10 0 0:=by rw[fr.t 5 zS];simp[x5]
    have a0:y.tm 13=.int .i64 i:=by rw[fr.t 13 zS];simp[e0]
    have f9:y.tm 14=.ptr 28 u 0:=by rw[fr.t 14 zS];simp[h6]
    have T:y.tm 15=.sl ts false S.length (S.flatMap yf):=by rw[fr.t 15 zS];simp
    have yd:y.df=[]:=by rw[fr.d];simp[xd]
    have yr:y.ro=0:=by rw[fr.r];simp[xr]
    have yb:y.fb=0:=by rw[fr.b];simp[xb]
    clear fr;by_cases v:j<S.length
    ·have c2:=jb v zO;have Q:=jt S v;obtain⟨b,eb,hb⟩:=h3 _ (au v);have el:=ev68 hs (b:Int) ((g.ts[a]).ops[k]).key;have ez:(W4 (Jv g (b:Int)).2 ((g.ts[a]).ops[k]).key).2=X9 g b (We g p):=by rw[c1];rfl
     rw[ez]at el;have l:okB g O p m (S.getD j 0)=((b:Int)==m||(!X9 g b (We g p)||decide (atO O b<atO O m))):=by rw[JN v,eb];rfl
     have e3:=ev66 (a:=on) O zO (b:Int);rw[eb]at Q;simp[K,T,f9,y5,N,b5,j0,ya,v,ix v,Q,ha,hk,j7 jA,j7 jH,g1,f5];refine Jb el zI rfl zI ?_;rw[JW (by simp[V.plain,J4])];generalize (W4 (Jv g (b:Int)).2 ((g.ts[a]).ops[k]).key).1=rv at *;generalize X9 g b (We g p)=rb at *;simp[J4,j6,yb,yr,j0];refine⟨by simp[Jc,W6,QR,Qe,yy,yz,yP,Delta.wo,Delta.wt,y5];decide,?_⟩;have next:okB g O p m (S.getD j 0)=true->∀q,q<j+1->okB g O p m (S.getD q 0)=true:=λh q hq=>by rcases bg.1 hq with h'|h';exact d5 q h';subst h';exact h
     cases b7:((b:Int)==m)
     ·have b9:((b:Int) != m)=true:=by rw[bne,b7];rfl
      rw[b7,bQ]at l;cases rb
      ·simp at l;simp[K,T,y2,a0,ix v,Q,H,j7 j8,J,b9,c2,v,N,b5,ya];exact next l
      ·simp only[bN,bQ]at l;simp[K,T,y2,y3,a0,ix v,Q,H,j7 j8,J,b9];refine Jb e3 zS rfl zS ?_;simp[y2,y3,a0,H,j7 j8,J];refine Jb e1 zS rfl zS ?_;by_cases G:atO O b<atO O m
       ·rw[zi G]at l;simp[show ¬atO O m<=atO O b by omega,K,c2,v,N,b5,ya];exact next l
       rw[decide_eq_false G]at l;simp[show atO O m<=atO O b by omega];exact j5 (by simp[yd]) (by
        have:S.all (okB g O p m)=false:=by cases h:S.all (okB g O p m);rfl;have:=av.1 h _ (au v);rw[<- JN v (d:=0),l]at this;cases this
        simp[XL c (B.trans this)]) rfl
     ·have b9:((b:Int) != m)=false:=by rw[bne,b7];rfl
      rw[b7,gW]at l;simp[K,T,y2,a0,ix v,Q,H,j7 j8,J,b9,c2,v,N,b5,ya];exact next l
    have:j=S.length:=zO;subst this;clear v;have c3:S.all (okB g O p m)=true:=by rw[av];intro z hz;obtain⟨q,hq,e⟩:=ba hz;have:=d5 q hq;rwa [JN hq,e]at this
    simp[K,T,a0,hw,c];refine⟨by simpa[ya] using N,λq hq=>?_⟩;rcases bg.1 hq with h|h;exact F q h;subst h;rw[B];exact c3
   by_cases d6:m<0;simp[show ¬0<=m by omega];exact c0 _ (w.nx+64+64+64+64+64+64+64+64) (by simp[d6]) zS (by simp[w0]) (by simp[w2]) (by simp[w3]) (by simp[w5]) (by simp[U]) zS (by simp[d9]) zS (by simp[wd]) (by simp[wr]) (by simp[wb]);simp[show 0<=m by omega,w3,w2,U,H,j7 j8,J];refine Jb e1 zS rfl zS ?_;simp[j0,w3];refine Jb e2 zS rfl zS ?_;by_cases G:atO O m<atO O (a:Int);simp[show ¬atO O (a:Int)<=atO O m by omega];exact c0 _ (w.nx+64+64+64+64+64+64+64+64) (by simp[G]) zS (by simp[w0]) (by simp[w2]) (by simp[w3]) (by simp[w5]) (by simp[U]) zS (by simp[d9]) zS (by simp[wd]) (by simp[wr]) (by simp[wb]);simp[show atO O (a:Int)<=atO O m by omega];rw[<- c9];simp;exact j5 (by simp[wd]) (by simp[XL c (B.trans (by simp[d6,G]))]) rfl
  have:i=(yi g).length:=zO;subst this;simp[U,e6];exact j5 (by simp[wd]) (by simp[andTo_iff.2 F]) rfl
def Off (ub key:Nat):Prop:=∀m,ub<=m->¬key=2*m+1
def Off.up {ub a key:Nat}(h:Off ub key) (c:ub<=a):Off a key:=λm b=>h m (bL c b)
def Off.new {ub m:Nat}(h:m<ub):Off ub (2*m+1):=λk a e=>by omega
def Was (ub:Nat) (ob ob':ZO):Prop:=∀key,Off ub key->ob' key=ob key
def Was.trans {ub d:Nat}{ob c b:ZO}(h:Was ub ob c) (f:Was d c b) (g:ub<=d):Was ub ob b:=λa e=>(f a (e.up g)).trans (h a e)
def Was.refl (ub:Nat) (ob:ZO):Was ub ob ob:=λ_ _=>rfl
def idx0 {l u n x sz:Nat}{kk:IntKind}(a:x<n):ju sz (.osl l u 0 n sz) (.int kk (x:Int))=some (.ptr l u (x*sz)):=by simp[ju,a]
def XJ {a b:Nat}(h:¬a=b):Nat.beq a b=false:=by cases e:Nat.beq a b;rfl;exact zf (bo e) h
end Go.Pv.T
namespace Go.Pv.T
open Go Go.Pv
end Go.Pv.T
namespace Go.Pv.T
open Go Go.Pv
def yj {a b:Nat}:(2*a=2*b)=(a=b):=zj ⟨λh=>by omega,λh=>by rw[h]⟩
def j2w {l u o:Nat}:(V.ptr l u o).leaf=true:=rfl
def rdC (r:Int×Int×Int):List V:=[.int .i64 r.1,.int .i64 r.2.1,.int .i64 r.2.2]
def jo5 (r:Int×Int×Int):(rdC r).length=3:=rfl
structure WN where
 kW:Nat
 uW:Nat
 kR:Nat
 uR:Nat
 kA:Nat
 uA:Nat
 kL:Nat
 uL:Nat
 kS:Nat
 uS:Nat
 kP:Nat
 uP:Nat
section
variable {g:Hist'}{lvl:Int}{M:List Int}{N:WN}{A L S:List (Int × Int)}{P:Int->List Int}{ob ob':ZO}{ub ub':Nat}
def Off.ne {key:Nat}(h:Off ub key):∀m,ub<=m->¬key=2*m+1:=h
end
end Go.Pv.T
namespace Go.Pv.T
abbrev R3:Type:=Option (List Nat)×Bool×List Nat
def loopM (rec:Nat->List Nat->List Nat->R3) (nx:Nat->Nat->Bool) (w:Nat) (done:List Nat):List Nat->List Nat->R3
 |[],vis=>(none,false,vis)
 |t::r,vis=>if w.testBit t||(!nx w t||vis.contains (w|||1<<<t)) then loopM rec nx w done r vis else
  match rec (w|||1<<<t) (done++[t]) vis with
  |(none,false,v)=>loopM rec nx w done r v
  |x=>x
def onM (nx:Nat->Nat->Bool) (C:List Nat) (most:Int):Nat->Nat->List Nat->List Nat->R3
 |0,w,done,vis=>if (vis.length:Int)=most then (none,true,vis) else (some done,false,vis++[w])
 |n+1,w,done,vis=>if (vis.length:Int)=most then (none,true,vis) else loopM (onM nx C most n) nx w done C (vis++[w])
def jjz (w t a:Nat):(w|||1<<<t).testBit a=(w.testBit a||decide (t=a)):=by rw[Nat.testBit_or,Nat.one_shiftLeft,Nat.testBit_two_pow]
def cnt (C:List Nat) (w:Nat):Nat:=(C.filter λt=>w.testBit t).length
def js3 {w t:Nat}:∀{C:List Nat},C.Nodup->t∈C->w.testBit t=false->cnt C (w|||1<<<t)=cnt C w+1
 |[],_,h,_=>by cases h
 |c::C,hn,h,hw=>by
  rw[List.nodup_cons]at hn;unfold cnt;rw[List.filter_cons,List.filter_cons];by_cases e:t=c;subst e;have:(C.filter λa=>(w|||1<<<t).testBit a)=C.filter λa=>w.testBit a:=by refine List.filter_congr λa f=>?_;have:t≠a:=λe=>hn.1 (e▸f);rw[jjz];simp[this]
  rw[this,jjz];simp[hw];have d:t∈C:=by rcases List.mem_cons.1 h with h|h;exact absurd h e;exact h
  have b:=js3 hn.2 d hw;unfold cnt at b;rw[jjz];simp only[e,decide_false,Bool.or_false];split;simp only[List.length_cons,b];exact b
def jhz (nx:Nat->Nat->Bool):Nat->List Nat->Bool
 |_,[]=>true
 |w,t::r=>!w.testBit t&&(nx w t&&jhz nx (w|||1<<<t) r)
def Full (nx:Nat->Nat->Bool) (C:List Nat) (w:Nat) (L:List Nat):Prop:=(∀t∈L,t∈C)/\cnt C w+L.length=C.length/\jhz nx w L=true
def j64 (nx:Nat->Nat->Bool) (C:List Nat) (w:Nat):Prop:=∀L,¬Full nx C w L
def jy6:List Nat->List Nat->Bool
 |a::l,b::m=>if a=b then jy6 l m else decide (a<b)
 |_,_=>false
section
variable {nx:Nat->Nat->Bool}{C:List Nat}{most:Int}
def Full.cons {w t:Nat}{L:List Nat}(g:C.Nodup) (h:Full nx C w (t::L)):t∈C/\w.testBit t=false/\nx w t=true/\Full nx C (w|||1<<<t) L:=by obtain⟨c,f,b⟩:=h;simp only[jhz,Bool.and_eq_true,Bool.not_eq_true']at b;have d:=c t (List.mem_cons_self ..);refine⟨d,b.1,b.2.1,λa e=>c a (List.mem_cons_of_mem _ e),?_,b.2.2⟩;rw[js3 g d b.1];simp only[List.length_cons]at f;omega
structure Found (nx:Nat->Nat->Bool) (C:List Nat) (w:Nat) (done vis:List Nat) (r:R3):Prop where
 sub:∀v∈vis,v∈r.2.2
 no:r.1=none->r.2.1=false->j64 nx C w/\∀v∈r.2.2,v∈vis\/j64 nx C v
 yes:∀l,r.1=some l->r.2.1=false/\∃L,l=done++L/\Full nx C w L/\∀L',Full nx C w L'->jy6 L' L=false
def jdv {n:Nat}(m:C.Nodup) (s:C.Pairwise (· < ·)) {w:Nat}{done:List Nat}(P:cnt C w+(n+1)=C.length) {i:List Nat}
 (G:∀w done vis,cnt C w+n=C.length->(∀v∈vis,j64 nx C v\/cnt C v<cnt C w)->Found nx C w done vis (onM nx C most n w done vis)) :
 ∀(r f vis:List Nat),C=f++r->(∀v∈i,v∈vis)->(∀v∈vis,j64 nx C v\/cnt C v<=cnt C w)->(∀v∈vis,v∈i\/v=w\/j64 nx C v)->(∀t∈f,w.testBit t=false->nx w t=true->j64 nx C (w|||1<<<t)) ->
  Found nx C w done i (loopM (onM nx C most n) nx w done r vis)
 |[],f,vis,e,h0,h1,h2,h3=>by
  have J:j64 nx C w:=λL O=>by
   cases L with
   |nil=>have:=O.2.1;simp at this;omega
   |cons t L=>obtain⟨a,b,c,d⟩:=O.cons m;rw[e,List.append_nil]at a;exact h3 t a b c L d
  refine⟨h0,λ_ _=>⟨J,λv z=>?_⟩,λl h=>by cases h⟩;rcases h2 v z with h|h|h;exact .inl h;exact .inr (h▸J);exact .inr h
 |t::r,f,vis,e,h0,h1,h2,h3=>by
  have B:t∈C:=by rw[e];simp
  have N:C=(f++[t])++r:=by rw[e];simp
  rw[loopM];split;rename_i q;refine jdv m s P G r (f++[t]) vis N h0 h1 h2 λa p j g=>?_;rcases List.mem_append.1 p with h|h
  exact h3 a h j g;have:=List.mem_singleton.1 h;subst this;simp only[j,g,Bool.not_true,Bool.false_or,List.contains_eq_mem,decide_eq_true_eq]at q;rcases h1 _ q with h|h;exact h;rw[js3 m B j]at h;omega
  ·rename_i q;simp only[Bool.or_eq_true,Bool.not_eq_true',not_or,Bool.not_eq_true,Bool.not_eq_false,List.contains_eq_mem,decide_eq_false_iff_not]at q;obtain⟨j,g,z⟩:=q;have K:=js3 m B j;have k:=G (w|||1<<<t) (done++[t]) vis (by omega) λv z=>(h1 v z).imp id λh=>by omega
   rcases X:onM nx C most n (w|||1<<<t) (done++[t]) vis with⟨o,T,v⟩;rw[X]at k;cases o with
   |some l=>
    simp only;obtain⟨D,L,y,H,Z⟩:=k.yes l rfl;refine⟨λx g=>k.sub x (h0 x g),λh=>(by cases h),λl' h=>?_⟩;cases h;refine⟨D,t::L,by rw[y];simp,⟨λa p=>?_,?_,?_⟩,λu F=>?_⟩;rcases List.mem_cons.1 p with h|h;exact h▸B;exact H.1 a h;have:=H.2.1;simp only[List.length_cons];omega;simp[jhz,j,g,H.2.2];cases u with
    |nil=>rfl
    |cons a u=>
     obtain⟨M,q2,U,Q⟩:=F.cons m;rw[jy6];split;rename_i I;subst I;exact Z u Q;rename_i I;rw[decide_eq_false_iff_not];intro S;have:a∈f:=by rw[e]at M;rcases List.mem_append.1 M with h|h;exact h;rcases List.mem_cons.1 h with h|h;exact absurd h I;rw[e]at s;have:=List.rel_of_pairwise_cons (List.pairwise_append.1 s).2.1 h;omega
     exact h3 a this q2 U u Q
   |none=>
    cases T with
    |true=>exact⟨λx g=>k.sub x (h0 x g),λ_ h=>(by cases h),λl h=>(by cases h)⟩
    |false=>
     simp only;obtain⟨D,y⟩:=k.no rfl rfl;refine jdv m s P G r (f++[t]) v N (λx g=>k.sub x (h0 x g)) (λx g=>?_) (λx g=>?_) λa p j g=>?_;rcases y x g with h|h
     exact h1 x h;exact .inl h;rcases y x g with h|h;exact h2 x h;exact .inr (.inr h);rcases List.mem_append.1 p with h|h;exact h3 a h j g;have:=List.mem_singleton.1 h;subst this;exact D
def jrv (b:C.Nodup) (a:C.Pairwise (· < ·)):∀(n w:Nat) (done vis:List Nat),cnt C w+n=C.length->(∀v∈vis,j64 nx C v\/cnt C v<cnt C w)->Found nx C w done vis (onM nx C most n w done vis)
 |0,w,done,vis,hw,hv=>by rw[onM];split;exact⟨λ_ h=>h,λ_ h=>(by cases h),λl h=>(by cases h)⟩;refine⟨λv h=>List.mem_append.2 (.inl h),λh=>(by cases h),λl h=>?_⟩;cases h;refine⟨rfl,[],by simp,⟨λ_ h=>(by cases h),zU hw,rfl⟩,λd c=>?_⟩;cases d<;>rfl
 |n+1,w,done,vis,hw,hv=>by
  rw[onM];split;exact⟨λ_ h=>h,λ_ h=>(by cases h),λl h=>(by cases h)⟩;refine jdv b a hw (jrv b a n) C [] (vis++[w]) rfl (λv h=>List.mem_append.2 (.inl h)) (λv h=>?_) (λv h=>?_) λt h=>by cases h
  rcases List.mem_append.1 h with h|h;exact(hv v h).imp id Nat.le_of_lt;rw[List.mem_singleton.1 h];exact .inr (Nat.le_refl _);rcases List.mem_append.1 h with h|h;exact .inl h;exact .inr (.inl (List.mem_singleton.1 h))
def jpr:∀{O C:List Nat},O.Nodup->(∀x∈O,x∈C)->O.length<=C.length
 |[],_,_,_=>Nat.zero_le _
 |x::r,C,hn,hs=>by rw[List.nodup_cons]at hn;have a:=hs x (List.mem_cons_self ..);have:=jpr (O:=r) (C:=C.erase x) hn.2 λy b=>(List.mem_erase_of_ne λ(e:y=x)=>hn.1 (e▸b)).2 (hs y (List.mem_cons_of_mem _ b));rw[List.length_erase_of_mem a]at this;have c:0<C.length:=List.length_pos_of_mem a;simp only[List.length_cons];omega
end
end Go.Pv.T
