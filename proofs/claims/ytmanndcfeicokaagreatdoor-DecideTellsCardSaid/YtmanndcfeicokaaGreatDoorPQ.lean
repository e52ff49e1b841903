/- Part. -/
import Derived.Test.YtmanndcfeicokaaGreatDoorPP
set_option maxRecDepth 100000
set_option maxHeartbeats 8000000
set_option linter.all false
namespace Go.Pv.T
open Go Go.Pv
def jb2 {st:St}{p a b l u:Nat}{x y:V}{P:V×(ZO)×(Nat->Bool)×Nat->Prop}(c:st.df=[]) (hp:st.tm p=.ptr l u 0) (d:st.ob l=some ⟨u,.cells [x,y]⟩) (h:P (.tup [.agg [x,y],st.tm a,st.tm b],st.ob,st.tk,st.nx)):Jg [.cell p (some 2),.t a,.t b] P .ret st:=by
 have e:ya st.ob l u=some [x,y]:=by simp[ya,d]
 exact⟨_,by simp[endS,c,ju,hp,e],h⟩
def jvo (g:Hist'):∀c∈yx g,c.2.Nodup:=by intro c a;unfold yx at a;obtain⟨p,_,rfl⟩:=aI.1 a;exact jyg g p.1 p.2
def jyk {g:Hist'}(i:Small g) (e:jX g=true) (c:jx (yx g)=true) {a r:List (List Int)}{M:List Int}(h:yG (yx g)=a++M::r):jdw g M=r.head?:=by
 have d:=jcl i e M (by rw[h];simp);rw[<- jzy]at d;have b:=jh2 c (jvo g);have j:a.length<(yG (yx g)).length:=by rw[h];simp
 have:=jq1 b j;rw[jdw,zb d];have f:(yG (yx g))[a.length]=M:=by simp[h]
 rw[f]at this;rw[this,h,bx zO];cases r<;>simp
def j6w (g:Hist') (lvl left0:Int) (n:Nat) (s7:V) (s5:V) (left:Int):Prop :=
 (s7=.bool true/\∃M r t nl pre,n=r.length+1/\yG (yx g)=pre++M::r/\s5=.sl t nl M.length (M.flatMap yf)/\(nl=true->M=[])/\Wf g lvl (yG (yx g)) left0=Wf g lvl (M::r) left) \/
 (s7=.bool false/\Wf g lvl (yG (yx g)) left0=(([],[]),false,left,0))
def AllV (x:(List Int×List Int)×Bool×Int×Int) (v:V):Prop:=∃t1 t2 n1 n2,v=.tup [.agg [.sl t1 n1 x.1.1.length (x.1.1.flatMap yf),.sl t2 n2 x.1.2.length (x.1.2.flatMap yf)],.bool x.2.1,.int .i64 x.2.2.2]
section
variable {g:Hist'}{lvl left:Int}{k u ub:Nat}{ob:ZO}
def sv31 {Yf:YF}{tk:Nat->Bool}{ro base:Nat}(hs:Small g) (h8:g.ts.length<=8) (hR:(yi g).length<=100) (hw:jX g=true) (K:ob k=some ⟨u,.cells (yN g lvl left)⟩) (c3:Off ub k) (b6:ro<=u) (G:ro<=ub) (h0:0<=left) (hl:left<9223372036854775808) :
 ∃r,EvS E Yf.y 31 [.ptr k u 0] ob tk ro base ub r/\AllV (Yc g lvl left) r.1/\r.2.1 k=some ⟨u,.cells (yN g lvl (Yc g lvl left).2.2.1)⟩/\(∀a,Off ub a->a≠k->r.2.1 a=ob a)/\ub<=r.2.2.2:=by
 obtain⟨d6,c6,T⟩:=ev41 hs;have hF:QV g=if jx (yx g) then (0,(yx g).map hd1) else (3,[]):=by unfold QV;rw[zb hw]
 have c5:=λ(tk:Nat->Bool) (base c0:Nat) (hu:ub<=c0) (c7:ZO) (h:c7 k=some ⟨u,.cells (yN g lvl left)⟩)=>evo56 (ub:=c0) hs hw h (c3.up hu) tk base;refine J6 rfl zQ ?_;show wpC E Yf S31.body _ (Jg S31.res _);have w:=c3.ne;have i:∀m,ub<=m->¬2*m+1=k:=λm h e=>w m h e.symm;unfold jtf at T;generalize hP:(λr:V×(ZO)×(Nat->Bool)×Nat=>AllV (Yc g lvl left) r.1/\r.2.1 k=some ⟨u,.cells (yN g lvl (Yc g lvl left).2.2.1)⟩/\(∀a,Off ub a->a≠k->r.2.1 a=ob a)/\ub<=r.2.2.2)=P;have v:∀r,P r ↔ (AllV (Yc g lvl left) r.1/\r.2.1 k=some ⟨u,.cells (yN g lvl (Yc g lvl left).2.2.1)⟩/\(∀a,Off ub a->a≠k->r.2.1 a=ob a)/\ub<=r.2.2.2):=λr=>by rw[<- hP]
 clear hP;conv in(occs:=*)S31=>all_goals cbv
 simp(disch:=try exact zD)[S31,ya,K,yN,w];refine jH c6 zH rfl zH ?_;refine jw8 T λt1 d2=>?_;by_cases z:jx (yx g)=false;have L:Yc g lvl left=if left=0 then (([],[]),false,left,13) else (([],[]),false,left-1,0):=by unfold Yc;rw[zb (.inr z)]
 have Z:QV g=(3,[]):=by rw[hF,z];rfl
 rw[Z];by_cases F:left=0;simp(disch:=try exact zD)[ya,K,yN,w,i,F];refine⟨G,jb2 (l:=2*ub+1) (u:=ub) (x:=V.sl none true 0 []) (y:=V.sl none true 0 []) zS zS (by simp(disch:=try exact zD)[w,i]) ((v _).2 ⟨⟨none,none,true,true,by rw[L,zb F];simp⟩,by rw[L,zb F];simp(disch:=try exact zD)[K,w,i,yN],λa q j=>by have:=q.ne;simp(disch:=try exact zD)[this,j],by simp;omega⟩)⟩;have a0:(left==0)=false:=by simpa using F
 have b0:IntKind.i64.wrap (left-1)=left-1:=jlh zO zO;simp(disch:=try exact zD)[ya,K,yN,w,i,F,a0,j2,V.cells,V.leaf,b0];refine⟨b6,G,jb2 (l:=2*ub+1) (u:=ub) (x:=V.sl none true 0 []) (y:=V.sl none true 0 []) zS zS (by simp(disch:=try exact zD)[w,i]) ((v _).2 ⟨⟨none,none,true,true,by rw[L,za F];simp⟩,by rw[L,za F];simp(disch:=try exact zD)[K,w,i,yN],λa q j=>by have:=q.ne;simp(disch:=try exact zD)[this,j],by simp;omega⟩)⟩;have z:jx (yx g)=true:=by simpa using z
 have Z:QV g=(0,(yx g).map hd1):=by rw[hF,z];rfl
 rw[Z];simp(disch:=try exact zD)[ya,K,yN,w,i];refine jN (vs:=[.ptr k u 0]) zS rfl rfl (c5 _ _ _ zO _ (by simp(disch:=try exact zD)[K,w,i,yN])) ?_;by_cases hb:Q5 g=true;have L:Yc g lvl left=if left=0 then (([],[]),false,left,13) else (([],[]),false,left-1,0):=by unfold Yc;rw[zb (.inl hb)]
 rw[hb];by_cases F:left=0;simp(disch:=try exact zD)[ya,K,yN,w,i,F];refine⟨G,jb2 (l:=2*ub+1) (u:=ub) (x:=V.sl none true 0 []) (y:=V.sl none true 0 []) zS zS (by simp(disch:=try exact zD)[w,i]) ((v _).2 ⟨⟨none,none,true,true,by rw[L,zb F];simp⟩,by rw[L,zb F];simp(disch:=try exact zD)[K,w,i,yN],λa q j=>by have:=q.ne;simp(disch:=try exact zD)[this,j],by simp;omega⟩)⟩;have a0:(left==0)=false:=by simpa using F
 have b0:IntKind.i64.wrap (left-1)=left-1:=jlh zO zO;simp(disch:=try exact zD)[ya,K,yN,w,i,F,a0,j2,V.cells,V.leaf,b0];refine⟨b6,G,jb2 (l:=2*ub+1) (u:=ub) (x:=V.sl none true 0 []) (y:=V.sl none true 0 []) zS zS (by simp(disch:=try exact zD)[w,i]) ((v _).2 ⟨⟨none,none,true,true,by rw[L,za F];simp⟩,by rw[L,za F];simp(disch:=try exact zD)[K,w,i,yN],λa q j=>by have:=q.ne;simp(disch:=try exact zD)[this,j],by simp;omega⟩)⟩;have hb:Q5 g=false:=by simpa using hb
 have L:Yc g lvl left=Wf g lvl (yG (yx g)) left:=by unfold Yc;rw[za (by rw[hb,z];simp)]
 rw[hb];simp(disch:=try exact zD)[ya,K,yN,w,i];refine jQ λS p=>?_;have g0:S.tm 0=.ptr k u 0:=by rw[p];simp
 have g2:S.tm 2=.ptr (2*ub+1) ub 0:=by rw[p];simp
 have g5:S.tm 5=.sl t1 ((yx g).map hd1).isEmpty ((yx g).map hd1).length (((yx g).map hd1).flatMap yf):=by rw[p];simp
 have g7:S.tm 7=.bool true:=by rw[p];simp
 have gd:S.df=[]:=by rw[p];simp
 have gr:S.ro=ro:=by rw[p];simp
 have gn:ub+64<=S.nx:=by rw[p];first|omega|(simp;done)|(simp;omega)
 have gk:S.ob k=some ⟨u,.cells (yN g lvl left)⟩:=by rw[p];simp(disch:=try exact zD)[K,w,i,yN]
 have gc:S.ob (2*ub+1)=some ⟨ub,.cells [.sl none true 0 [],.sl none true 0 []]⟩:=by rw[p];simp(disch:=try exact zD)[w,i]
 have go:∀a,Off ub a->a≠k->S.ob a=ob a:=λa q j=>by rw[p];have:=q.ne;simp(disch:=try exact zD)[this,j]
 clear p;obtain⟨r0,b5⟩:=jal z;obtain⟨J,hJ⟩:∃J:Nat->St->Prop,J=λn s=>∃c,s.ob k=some ⟨u,.cells (yN g lvl c)⟩/\s.ob (2*ub+1)=some ⟨ub,.cells [.sl none true 0 [],.sl none true 0 []]⟩/\ub+64<=s.nx/\(∀a,Off ub a->a≠k->s.ob a=ob a)/\0<=c/\c<=left/\j6w g lvl left n (s.tm 7) (s.tm 5) c:=⟨_,rfl⟩;refine YH (n:=r0.length+1) [(3,5),(7,9),(38,64)] J rfl rfl ?_ ?_;rw[hJ];exact⟨left,gk,gc,gn,go,h0,dW _,.inl ⟨g7,(yx g).map hd1,r0,t1,_,[],rfl,b5,g5,λh=>dD.1 h,by rw[<- b5]⟩⟩;clear g5 g7 gk gc gn;intro n s b8 f;rw[hJ]at b8;obtain⟨c,sk,sc,sn,so,b7,d3,sM⟩:=b8;have s0:=(f.t 0 zS).trans g0;have s2:=(f.t 2 zS).trans g2;have sd:=f.d.trans gd;have sr:=f.r.trans gr;clear f;have I:¬k=2*ub+1:=w ub zK;have H:¬2*ub+1=k:=i ub zK;rcases sM with⟨s7,M,r,t,nl,c9,hn,Q,s5,d0,O⟩|⟨s7,O⟩
 have U:=jcl hs hw M (by rw[Q];simp);have d8:=XV U;have d1:=jyk hs hw z Q;obtain⟨d5,c4,N⟩:=ev57 hs (b:=nl) M zO d0;rw[d1]at N;rw[Wf]at O;obtain⟨b1,b2,_⟩:=jfb (lvl:=lvl) hw U b7 (dW c);simp(disch:=try exact zD)[s0,s5,s7];refine jJ (vs:=[.ptr k u 0,.sl t nl M.length (M.flatMap yf)]) zS rfl (sv58 (left:=c) hs h8 hR hw U (by simpa using sk) (by first|omega|(simp[sr];omega)) b7 zO) ?_;rintro v1 d7 d4 c8 ⟨⟨t3,n3,r1⟩,r2,r3⟩;simp only at r1 r2 r3;subst r1 r2;have q1:s.nx<=c8:=by first|omega|(simp at r3;omega)
 generalize jbr g lvl M c=X at *;obtain⟨o,x,e⟩:=X;simp only at O b1 b2;by_cases D:e=0;rw[zb D]at O;rw[L,O]at v;simp(disch:=try exact zD)[ya,D,s2,s5,sc,H,I,j2,V.cells,V.leaf,yN,yg];exact⟨by rw[sr];exact G,jb2 (l:=2*ub+1) (u:=ub) (x:=.sl t nl M.length (M.flatMap yf)) (y:=.sl t3 n3 o.length (o.flatMap yf)) (by simpa using sd) (by simp[s2]) (by simp(disch:=try exact zD)[H,I,yg]) ((v _).2 ⟨⟨t,t3,nl,n3,zS⟩,by simp(disch:=try exact zD)[H,I,yg,yN],λa q j=>by have:=q.ne;simp(disch:=try exact zD)[this,j,yg,so a q j],by simp;omega⟩)⟩;have b9:(e==0)=false:=by simpa using D
 by_cases B:e=13;rw[za D,zb B]at O;rw[L,O]at v;simp(disch:=try exact zD)[ya,D,b9,B,s2,s5,sc,H,I,j2,V.cells,V.leaf,yN,yg];exact⟨by rw[sr];exact G,jb2 (l:=2*ub+1) (u:=ub) (x:=.sl none true 0 []) (y:=.sl none true 0 []) (by simpa using sd) (by simp[s2]) (by simp(disch:=try exact zD)[H,I,yg]) ((v _).2 ⟨⟨none,none,true,true,zS⟩,by simp(disch:=try exact zD)[H,I,yg,yN],λa q j=>by have:=q.ne;simp(disch:=try exact zD)[this,j,yg,so a q j],by simp;omega⟩)⟩;have c2:(e==13)=false:=by simpa using B
 rw[za D,za B]at O;simp(disch:=try exact zD)[ya,D,b9,B,c2,s0,s2,s5,sc,H,I,j2,V.cells,V.leaf,yN,yg];refine jH c4 zH rfl zH ?_;cases r with
 |nil=>refine jj4 (a1:=true) (n1:=0) (c1:=[]) N λt4 add=>?_;simp(disch:=try exact zD);refine⟨0,zO,?_⟩;rw[hJ];exact⟨c-x,by simp(disch:=try exact zD)[H,I,yg,yN],by simp(disch:=try exact zD)[H,I,yg,sc],by simp;omega,λa q j=>by simp[j,yg,so a q j],zO,zO,.inr ⟨zS,by rw[O];rfl⟩⟩
 |cons M' r=>refine jj4 (a1:=M'.isEmpty) (n1:=M'.length) (c1:=M'.flatMap yf) N λt4 add=>?_;simp(disch:=try exact zD);refine⟨r.length+1,by rw[hn];simp,?_⟩;rw[hJ];exact⟨c-x,by simp(disch:=try exact zD)[H,I,yg,yN],by simp(disch:=try exact zD)[H,I,yg,sc],by simp;omega,λa q j=>by simp[j,yg,so a q j],zO,zO,.inl ⟨zS,M',r,t4,M'.isEmpty,c9++[M],rfl,by rw[Q];simp,zS,λh=>dD.1 h,O⟩⟩
 rw[L,O]at v;simp(disch:=try exact zD)[s7,ya,s2,sc,H,I,j2,V.cells,V.leaf];exact⟨by rw[sr];exact G,jb2 (l:=2*ub+1) (u:=ub) (x:=.sl none true 0 []) (y:=.sl none true 0 []) (by simpa using sd) (by simp[s2]) (by simp(disch:=try exact zD)[H,I,yg]) ((v _).2 ⟨⟨none,none,true,true,zS⟩,by simp(disch:=try exact zD)[H,I,yg,sk],λa q j=>by have:=q.ne;simp(disch:=try exact zD)[this,j,yg,so a q j],by simp;omega⟩)⟩
end
def jnm (f:Nat->Bool):∀n,(YC f n).map Int.toNat=(List.range n).filter f
 |0=>rfl
 |n+1=>by rw[YC,bE,jnm f n,cV,bN];cases h:f n<;>simp[h]
def jbe (g:Hist') (i:Nat):List Nat:=(List.range' i (g.ts.length-i)).filter (Jt g)
def cm_zero (g:Hist'):jbe g 0=yC g:=by unfold jbe yC;rw[ym,Wt,jnm,Nat.sub_zero,List.range_eq_range'];rfl
def cm_step {g:Hist'}{i:Nat}(hi:i<g.ts.length):jbe g i=if Jt g i then i::jbe g (i+1) else jbe g (i+1):=by unfold jbe;rw[show g.ts.length-i=(g.ts.length-(i+1))+1 by omega,List.range'_succ,ct]
def cm_end (g:Hist'):jbe g g.ts.length=[]:=by simp[jbe]
def eqTo (v w:Nat) (n:Nat):Bool:=jde (λa=>v.testBit a==w.testBit a) n
def j45 {n v w:Nat}(e:v<2^n) (d:w<2^n):eqTo v w n=(w==v):=by rw[bA,eqTo,andTo_iff];simp only[zh];constructor;intro h;refine(eU λa=>?_).symm;by_cases b:a<n;exact h a b;have c:2^n<=2^a:=cl zQ zO;rw[dr zO,dr zO];rintro rfl _ _;rfl
def j0g (v w i:Nat):eqTo v w (i+1)=(eqTo v w i&&(v.testBit i==w.testBit i)):=rfl
def je7 (n:Nat) (p:Nat×Nat):List V:=[.osl (2*p.1+1) p.1 0 n 1]
def jq9 (n:Nat) (p:Nat×Nat):(je7 n p).length=1:=rfl
def SeenV (n:Nat) (ob:ZO) (lo hi:Nat) (v:V) (P:List (Nat×Nat)):Prop :=
 (∀p∈P,lo<=p.1/\p.1<hi/\ob (2*p.1+1)=some ⟨p.1,.cells (yM n p.2.testBit)⟩) /\
 ((P=[]/\v=.sl none true 0 [])\/P≠[]/\∃u,lo<=u/\u<hi/\(∀p∈P,p.1≠u)/\v=.osl (2*u+1) u 0 P.length 1/\ob (2*u+1)=some ⟨u,.cells (P.flatMap (je7 n))⟩)
def SeenV.frame {n:Nat}{ob ob':ZO}{lo hi hi':Nat}{v:V}{P:List (Nat×Nat)}(h:SeenV n ob lo hi v P) (g:∀u,lo<=u->u<hi->ob' (2*u+1)=ob (2*u+1)) (l:hi<=hi'):SeenV n ob' lo hi' v P:=by obtain⟨k,f⟩:=h;refine⟨λp i=>?_,?_⟩;obtain⟨a,b,c⟩:=k p i;exact⟨a,zO,(g _ a b).trans c⟩;rcases f with f|⟨j,u,a,b,c,d,e⟩;exact .inl f;exact .inr ⟨j,u,a,zO,c,d,(g _ a b).trans e⟩
def SeenV.len {n:Nat}{ob:ZO}{lo hi:Nat}{v:V}{P:List (Nat×Nat)}(h:SeenV n ob lo hi v P):WW v=some (.int .i64 (P.length:Nat)):=by rcases h.2 with⟨rfl,rfl⟩|⟨_,u,_,_,_,rfl,_⟩<;>rfl
def jc1 {st:St}{ub:Nat}{K:List FP->St->Prop}{d:Option Nat}{r:List AOpr}{n lo hi:Nat}{v:V}{P:List (Nat×Nat)}{p:Nat×Nat}{s x:A}(g:ye E st.tm s=v) (t:SeenV n st.ob lo hi v P) (i:yp st.ob 1 (ye E st.tm x)=some (je7 n p)) (o:st.ro<=lo) (f:P.length<=1000000)
 (h:∀e:List Nat,(e=[]\/∃u,lo<=u/\u<hi/\P≠[]/\(∀p∈P,p.1≠u)/\st.ob (2*u+1)=some ⟨u,.cells (P.flatMap (je7 n))⟩/\e=[2*u+1])->YU E r K (ye E st.tm) (.append true 1 24 s x) st d ub { v:=.osl (2*ub+1) ub 0 (P.length+1) 1,obs:=[(2*ub+1,⟨ub,.cells ((P++[p]).flatMap (je7 n))⟩)],kill:=e }) :
 jE E (⟨d,.append true 1 24 s x,none,true⟩::r) st ub K:=by
 rw[jv rfl];have a:je7 n p≠[]:=by simp[je7]
 have b:(je7 n p).all V.leaf=true:=rfl;have l:=j1 (jq9 n) P;rcases t.2 with⟨rfl,rfl⟩|⟨q,u,w,k,m,rfl,j⟩;simp only[yU,g,i,ah,za a,dq,zd,Jd,Xu];rw[zb ⟨zQ,b,by simp[je7],by simp[je7]⟩];simp only[Jn,jG];have:=h [] (.inl rfl);simpa[je7] using this;have c:ya st.ob (2*u+1) u=some (P.flatMap (je7 n)):=by simp[ya,j]
 simp only[yU,g,i,c,ah,za a,Jd,Xu];rw[zb ⟨bS▸zO,trivial,trivial,zO,zQ,b,by simp[je7];omega,by simp[je7];omega⟩,jG];have:=h [2*u+1] (.inr ⟨u,w,k,q,m,j,rfl⟩);rw[show(P.flatMap (je7 n)).take (P.length*1)=P.flatMap (je7 n) from aH zO];simpa[je7,bK] using this
section
variable {n:Nat}{ob:ZO}{lo hi:Nat}{sv:V}{P:List (Nat × Nat)}
def evo156 {I H z B w:Nat}{a b c m mo sp:V}(hn:n<=1000000) (S:ob I=some ⟨H,.cells [a,b,c,m,sv,mo,sp]⟩) (hS:SeenV n ob lo hi sv P) (hP:P.length<=1000000) (hx:ob z=some ⟨B,.cells (yM n w.testBit)⟩) (hw:w<2^n) (hv:∀p∈P,p.2<2^n) (tk:Nat->Bool) (base ub:Nat) :
 EvO E 156 [.ptr I H 0,.osl z B 0 n 1] ob tk base ub (.bool ((P.map (·.2)).contains w)):=by
 refine jq rfl ?_;have x:=hS.len;obtain⟨R,hR⟩:∃R,R=(P.map (·.2)).contains w:=⟨_,rfl⟩;rw[<- hR];conv in(occs:=*)S156=>all_goals cbv
 simp;refine j5 [(4,41)] P.length (λi s=>s.tm 5=.int .i64 i/\s.ob=ob/\R=((P.drop i).map (·.2)).contains w) rfl rfl ⟨zS,rfl,hR⟩ ?_;rintro i s hi ⟨s5,Q,o⟩ f;have U:s.tm 0=.ptr I H 0:=by rw[f.t 0 zS];simp
 have s1:s.tm 1=.osl z B 0 n 1:=by rw[f.t 1 zS];simp
 have sd:s.df=[]:=by rw[f.d];simp
 clear f;by_cases e:i<P.length;have X:=jP e zO;rw[aP e,aZ,dE]at o;have y:P[i]∈P:=au e;obtain⟨p1,p2,O⟩:=hS.1 _ y;have F:=hv _ y;rcases hS.2 with⟨rfl,_⟩|⟨_,u,_,_,_,rfl,h4⟩;simp at e;have a0:ya ob (2*u+1) u=some (P.flatMap (je7 n)):=by simp[ya,h4]
 have D:(P.flatMap (je7 n))[i]? = some (.osl (2*P[i].1+1) P[i].1 0 n 1):=by have:=jO (jq9 n) P e (by decide:0<1);rw[bz,bl]at this;rw[this];rfl
 generalize hq:P[i]=q at *;obtain⟨M,v⟩:=q;simp only at p1 p2 O F D o;have b5:ya ob (2*M+1) M=some (yM n v.testBit):=by simp[ya,O]
 have b0:ya ob z B=some (yM n w.testBit):=by simp[ya,hx]
 simp(disch:=try exact zD)[s5,U,Q,ya,S,x,e];refine j5 [(6,7),(17,40)] n (λk t=>t.tm 7=.int .i64 k/\t.tm 6=.bool (eqTo v w k)/\t.ob=ob) rfl rfl ⟨zS,by simp;rfl,by simp[Q]⟩ ?_;rintro k t hk ⟨J,G,K⟩ f;have t0:t.tm 0=.ptr I H 0:=by rw[f.t 0 zS];simp[U]
 have L:t.tm 1=.osl z B 0 n 1:=by rw[f.t 1 zS];simp[s1]
 have t5:t.tm 5=.int .i64 i:=by rw[f.t 5 zS];simp[s5]
 have td:t.df=[]:=by rw[f.d];simp[sd]
 clear f;by_cases g:k<n;have r:=jP g zO;have N:=jv2 (l:=2*u+1) (u:=u) (sz:=1) (kk:=.i64) e;have T:=jv2 (l:=2*M+1) (u:=M) (sz:=1) (kk:=.i64) g;have Z:=jv2 (l:=z) (u:=B) (sz:=1) (kk:=.i64) g;have m1:=Qq (s:=v.testBit) g;have m2:=Qq (s:=w.testBit) g;have j:=j0g v w k;cases h:eqTo v w k;rw[h,bH]at j;simp(disch:=try exact zD)[J,G,L,K,h,g,r];exact j;rw[h,bM]at j;simp(disch:=try exact zD)[J,G,t0,L,t5,K,h,g,r,ya,S,N,T,Z,h4,D,O,hx,m1,m2];exact j.symm;have:k=n:=zO;subst this;rw[j45 F hw]at G;cases h:(w==v);rw[h]at o;simp(disch:=try exact zD)[J,G,L,t5,K,h,X,e];simpa using o;rw[h]at o;simp(disch:=try exact zD)[J,G,L,K,h];refine j3 (by simp[td]) ?_ rfl;rw[o];simp;have:i=P.length:=zO;subst this;rw[bC zK]at o;simp(disch:=try exact zD)[s5,U,Q,ya,S,x];refine j3 (by simp[sd]) ?_ rfl;rw[o];simp
end
def j8q {n w t:Nat}(b:t<n):(yM n w.testBit).set t (.bool true)=yM n (w|||1<<<t).testBit:=by apply de;intro i;by_cases a:i<n;rw[Qq a,jhg,List.getElem?_set];by_cases e:t=i;subst e;rw[zb rfl,zb (by rw[Xf];exact b)];simp;rw[za e,Qq a];simp[e];rw[cG (by rw[dL,Xf];omega),cG (by rw[Xf];omega)]
def jki (n:Nat) (s:Nat->Bool):(yM n s).all V.pureLeaf=true:=by rw[aw];intro x b;unfold yM at b;obtain⟨a,_,rfl⟩:=aI.1 b;rfl
def jz0 (l:List Int):(l.flatMap yf).all V.pureLeaf=true:=by rw[eS,aw];intro _ _;rfl
def jq8 {n:Nat}{P:List (Nat×Nat)}(h:P≠[]):(P.flatMap (je7 n)).all V.pureLeaf=false:=by
 cases P with
 |nil=>exact zf rfl h
 |cons p P=>rfl
def sv38d {Yf:YF}{lo hi:Nat}{v:V}{done:List Nat}{ob:ZO}{tk:Nat->Bool}{ro base ub:Nat}(w:OrdV ob lo hi v done) (x:done.length<=1000) (B:hi<=ub) (i:ro<=ub):∃r,EvS E Yf.y 38 [v] ob tk ro base ub r/\CopyP ob tk ub (yt done) r:=by
 rcases w with⟨rfl,rfl⟩|⟨k,cs,rfl,d,s,j⟩;exact sv38 true [] zQ i;refine J6 rfl zQ ?_;show wpC E Yf S38.body _ (Jg S38.res _);have a:((yt done).flatMap yf).length=done.length:=by rw[j1 j6,J0];omega
 have o:∀m,ub<=m->¬k=m:=λm D=>by omega
 have t:ya ob (2*k+1) k=some ((yt done).flatMap yf++cs):=by simp[ya,d]
 conv in(occs:=*)S38=>all_goals cbv
 simp;refine jZ (cs:=[]) rfl rfl rfl ?_;simp;have p:∀b:ZO,b (2*k+1)=ob (2*k+1)->yp b 1 (.osl (2*k+1) k 0 done.length 1)=some ((yt done).flatMap yf):=λb h=>by simp[yp,ya,h,d,<- a]
 by_cases q:done=[]
 ·subst q;refine QM (l:=2*(ub+64)+1) (u:=ub+64) (off:=0) (n:=0) (z:=1) (cs:=[]) zS (by simpa[yt] using p _ (by simp(disch:=try exact zD)[yj,o])) zS ?_;simp;refine JL zS ⟨⟨ub+64,zO,by simp;try omega,by simp[yt],by simp[yt]⟩,λk d=>?_,by simp[jk],by simp;try omega⟩;have:=d (ub+64) zO;simp[this]
 ·have g:(yt done).flatMap yf≠[]:=λe=>q (by rw[e]at a;exact cB.1 (zU a.symm));have f:((yt done).flatMap yf).length/1=done.length:=by rw[a];simp
  refine JJ (l:=2*(ub+64)+1) (u:=ub+64) (n:=0) (cs:=[]) (ys:=(yt done).flatMap yf) zS (by simpa using p _ (by simp(disch:=try exact zD)[yj,o])) zS g zP zS zQ (by simp[yf]) (by rw[f];omega) (by rw[f];omega) ?_;rw[f];simp;refine JL zS ⟨⟨ub+192,zO,by simp;try omega,by simp[J0],zS⟩,λk d=>?_,by simp[jqg],by simp;try omega⟩;have s:=d (ub+64) zO;have j:=d (ub+192) zO;simp[s,j]
def j4d {st:St}{ub:Nat}{K:List FP->St->Prop}{d:Option Nat}{r:List AOpr}{z sz a:Nat}{s x:A}(f:ye E st.tm s=.osl (2*z+1) z 0 0 sz) (e:st.ob (2*z+1)=some ⟨z,.cells []⟩) (g:yp st.ob sz (ye E st.tm x)=some [])
 (h:YU E r K (ye E st.tm) (.append true sz a s x) st d ub { v:=.osl (2*z+1) z 0 0 sz }):jE E (⟨d,.append true sz a s x,none,true⟩::r) st ub K:=by
 rw[jv rfl];have b:ya st.ob (2*z+1) z=some []:=by simp[ya,e]
 simp only[yU,f,g,ah,zd,b,WZ];exact h
def j4c {st:St}{ub:Nat}{K:List FP->St->Prop}{d:Option Nat}{r:List AOpr}{z sz a n:Nat}{ys:List V}{s x:A}(l:ye E st.tm s=.osl (2*z+1) z 0 0 sz) (i:st.ob (2*z+1)=some ⟨z,.cells []⟩) (g:st.ro<=z)
 (m:yp st.ob sz (ye E st.tm x)=some ys) (e:ys≠[]) (o:ys.length/sz=n) (j:0<sz) (hp:ys.all V.leaf=true) (k:n*a<=140737488355328) (f:n<=140737488355328)
 (h:YU E r K (ye E st.tm) (.append true sz a s x) st d ub { v:=.osl (2*ub+1) ub 0 n sz,obs:=[(2*ub+1,⟨ub,.cells ys⟩)],kill:=[2*z+1] }):jE E (⟨d,.append true sz a s x,none,true⟩::r) st ub K:=by
 subst o;rw[jv rfl];have b:ya st.ob (2*z+1) z=some []:=by simp[ya,i]
 simp only[yU,l,m,ah,b,za e];rw[zb ⟨bS▸g,trivial,trivial,zS,j,hp,by rw[bJ];exact k,by rw[bJ];exact f⟩,jG,bJ];simp only[dF,dP,dz];exact h
def jv5 {v:Option V}{K:St->Nat->Prop}{st:St}{d:Option Nat}{ub:Nat}(h:∀a,a=st->wpV v (jao K a d ub)):wpV v (jao K st d ub):=h st rfl
def jdj {Yf:YF}{o:AOpr}{st:St}{ub:Nat}{K:St->Nat->Prop}(h:∀a b,a=st->b=ub->j8 E Yf o a b K):j8 E Yf o st ub K:=h st ub rfl rfl
def jmw (n:Nat) (s:Nat->Bool):(yM n s).all V.leaf=true:=by rw[aw];intro x b;unfold yM at b;obtain⟨a,_,rfl⟩:=aI.1 b;rfl
def jyp {ob:ZO}{n us:Nat}{s:Nat->Bool}(h:ob (2*us+1)=some ⟨us,.cells (yM n s)⟩):yp ob 1 (.osl (2*us+1) us 0 n 1)=some (yM n s):=by have a:=Xf n s;simp[yp,ya,h,a];exact aH zO
structure WC where
 g:Hist'
 M:List Int
 mn:Bool
 most:Int
 kW:Nat
 uW:Nat
 lo:Nat
def WC.cs (c:WC) (sv:V) (sp:Bool):List V:=yb c.g++[yl c.mn yf c.M,sv,.int .i64 c.most,.bool sp]
structure WC.Ok (c:WC):Prop where
 s:Small c.g
 m:W7 c.g c.M=true
 l:c.g.ts.length<=8
 w:Off c.lo c.kW
structure WS (c:WC) (vis:List Nat) (sp:Bool) (ob:ZO) (ub:Nat):Prop where
 w:∃sv P,ob c.kW=some ⟨c.uW,.cells (c.cs sv sp)⟩/\SeenV c.g.ts.length ob c.lo ub sv P/\P.map (·.2)=vis
 b:∀v∈vis,v<2^c.g.ts.length
 d:vis.Nodup
def WC.Keep (c:WC) (ob ob':ZO) (ub:Nat):Prop:=∀key u cs,Off ub key->key≠c.kW->ob key=some ⟨u,.cells cs⟩->cs.all V.pureLeaf=true->ob' key=ob key
def WC.Keep.trans {c:WC}{ob d b:ZO}{ub f:Nat}(h:c.Keep ob d ub) (l:c.Keep d b f) (m:ub<=f):c.Keep ob b ub:=λa u cs j g k i=>by have e:=h a u cs j g k i;exact(l a u cs (j.up m) g (e.trans k) i).trans e
def WS.len {c:WC}{vis:List Nat}{sp:Bool}{ob:ZO}{ub:Nat}(h:WS c vis sp ob ub) (f:c.Ok):vis.length<=256:=by have a:=jy1 (C:=List.range (2^c.g.ts.length)) h.d λx i=>bf.2 (h.b x i);rw[List.length_range]at a;have e:2^c.g.ts.length<=2^8:=cl zQ f.l;exact bI a e
def DoneV (ob:ZO) (lo hi:Nat) (v:V) (done:List Nat):Prop :=
 (v=.sl none true 0 []/\done=[])\/∃u,v=.osl (2*u+1) u 0 done.length 1/\ob (2*u+1)=some ⟨u,.cells ((yt done).flatMap yf)⟩/\lo<=u/\u<hi
def DoneV.ord {ob:ZO}{lo hi:Nat}{v:V}{done:List Nat}(h:DoneV ob lo hi v done):OrdV ob lo hi v done:=by rcases h with h|⟨u,d,a,e,b⟩;exact .inl h;exact .inr ⟨u,[],d,by rw[a,aL],e,b⟩
def DoneV.keep {c:WC}{ob ob':ZO}{ub a:Nat}{v:V}{done:List Nat}(h:DoneV ob c.lo ub v done) (j:c.Ok) (f:c.Keep ob ob' ub) (k:ub<=a):DoneV ob' c.lo a v done:=by rcases h with h|⟨u,i,b,d,g⟩;exact .inl h;exact .inr ⟨u,i,(f _ _ _ (Off.new g) (λe=>j.w u d e.symm) b (jz0 _)).trans b,d,zO⟩
def StV (c:WC) (ob:ZO) (ub us w:Nat):Prop:=ob (2*us+1)=some ⟨us,.cells (yM c.g.ts.length w.testBit)⟩/\c.lo<=us/\us<ub
def StV.keep {c:WC}{ob ob':ZO}{ub a us w:Nat}(h:StV c ob ub us w) (d:c.Ok) (b:c.Keep ob ob' ub) (f:ub<=a):StV c ob' a us w :=
 ⟨(b _ _ _ (Off.new h.2.2) (λe=>d.w us h.2.1 e.symm) h.1 (jki _ _)).trans h.1,h.2.1,by have:=h.2.2;omega⟩
def OnR2 (c:WC) (R:R3) (ob:ZO) (ub:Nat) (r:V×(ZO)×(Nat->Bool)×Nat):Prop :=
 (∃ov,r.1=.tup [ov,.bool R.1.isSome]/\(R.1=none->ov=.sl none true 0 [])/\∀l,R.1=some l->DoneV r.2.1 c.lo r.2.2.2 ov l)/\ub<=r.2.2.2/\c.Keep ob r.2.1 ub/\WS c R.2.2 R.2.1 r.2.1 r.2.2.2
def OnP2 (c:WC) (k:Nat):Prop:=∀(Yf:YF) (w:Nat) (done vis:List Nat) (dv:V) (us:Nat) (ob:ZO) (tk:Nat->Bool) (ro base ub:Nat),WS c vis false ob ub->done.length+k=(yC c.g).length->w<2^c.g.ts.length->w ∉ vis->StV c ob ub us w->DoneV ob c.lo ub dv done->c.lo<=ub->ro<=c.lo->ro<=c.uW ->
 ∃r,EvS E Yf.y 103 [.ptr c.kW c.uW 0,.osl (2*us+1) us 0 c.g.ts.length 1,dv,.int .i64 (ym c.g).length] ob tk ro base ub r/\OnR2 c (onM (nxM c.g c.M) (yC c.g) c.most k w done vis) ob ub r
def WS.keep {c:WC}{vis:List Nat}{sp:Bool}{ob ob':ZO}{ub e:Nat}(h:WS c vis sp ob ub) (n:c.Ok) (f:c.lo<=ub) (k:ub<=e) (g:∀a,Off ub a->ob' a=ob a):WS c vis sp ob' e:=by obtain⟨j,P,m,i,l⟩:=h.w;exact⟨⟨j,P,(g _ (n.w.up f)).trans m,i.frame (λu _ h=>g _ (Off.new h)) k,l⟩,h.b,h.d⟩
section
variable {c:WC}
def jrw (S:c.Ok) (k:Nat) (ih:∀j,k=j+1->OnP2 c j):OnP2 c k:=by
 intro Yf w done I dv us ob tk ro k5 G hS k9 hw f4 hT hO i5 l2 d5;have h9:=hS.len S;obtain⟨sv,P,hW,U,b0⟩:=hS.w;have oW:=(S.w.up i5).ne;have b9:=U.len;have d7:P.length=I.length:=by rw[<- b0];simp
 rw[d7]at b9;have n8:=S.l;have d4:WW dv=some (.int .i64 (done.length:Nat)):=by rcases hO with⟨rfl,rfl⟩|⟨u,rfl,_⟩<;>rfl
 refine J6 rfl zQ ?_;show wpC E Yf S103.body _ (Jg S103.res _);conv in(occs:=*)S103=>all_goals cbv
 simp(disch:=try exact zD)[S103,ya,hW,WC.cs,yb,b9];by_cases T:(I.length:Int)=c.most;simp(disch:=try exact zD)[T,ya,hW,WC.cs,yb,j2];refine⟨d5,YZ zS ?_⟩;rw[jmk T];refine⟨⟨.sl none true 0 [],zS,λ_=>rfl,λl h=>(by cases h)⟩,by simp;omega,λB u cs F K H N=>by simp[K],⟨⟨sv,P,by simp[WC.cs,yb],U.frame (λu F K=>?_) zP,b0⟩,hS.b,hS.d⟩⟩;have:2*u+1≠c.kW:=λe=>S.w u F e.symm;simp[this];have c7:((I.length:Int)==c.most)=false:=by simpa using T
 simp(disch:=try exact zD)[c7,ya,hW,WC.cs,yb];refine jz (cs:=[]) rfl rfl rfl ?_;simp;by_cases h0:c.g.ts.length=0
 ·have f2:yM c.g.ts.length w.testBit=[]:=cB.1 (by rw[Xf];exact h0);have d0:k=0:=by have:=jaw c.g;have:=Xd c.g;omega
  subst d0;have c9:∀m,G<=m->¬us=m:=λm hm=>by have:=hT.2.2;omega
  refine j4d (z:=G+1088) (by simp[aA]) (by simp[aA]) ?_ ?_;rw[<- f2];refine jyp ?_;simp(disch:=try exact zD)[yj,c9,hT.1];simp;refine jz (cs:=[.osl (2*(G+1088)+1) (G+1088) 0 0 1]) (by simp[j2,aA]) rfl rfl ?_;simp;refine jc1 (n:=c.g.ts.length) (lo:=c.lo) (hi:=G) (v:=sv) (P:=P) (p:=(G+1088,w)) zS (U.frame (λu F K=>?_) zK) (by simp[yp,ya,je7,aA,h0]) zP zO λks b8=>?_;have H:∀m,G<=m->¬u=m:=λm hm=>by omega
  simp(disch:=try exact zD)[yj,H];have e3:ks.any (Nat.beq c.kW)=false:=by rcases b8 with rfl|⟨u,F,K,H,N,h5,rfl⟩;rfl;simp only[bp,bD,bm];exact JF (S.w u F)
  generalize d3:List.flatMap (je7 c.g.ts.length) (P++[(G+1088,w)])=cs9;simp(disch:=try exact zD)[ya,hW,WC.cs,yb,e3,j2,j9,oW];have bW:∀m,G<=m->Nat.beq c.kW (2*m+1)=false:=λm hm=>JG (oW m hm);have d9:∀m,G<=m->Nat.beq (2*m+1) c.kW=false:=λm hm=>JG (dB (oW m hm));refine⟨d5,?_,?_⟩;simp(disch:=try exact zD)[JQ,YW,Wk,QP,yz,yB,yR,uOf,Delta.wo,Delta.wt,bW,d9];rw[d4];have c5:∀B u cs,ob B=some ⟨u,.cells cs⟩->cs.all V.pureLeaf=true->ks.any (Nat.beq B)=false:=λB u cs e1 e2=>by
   rcases b8 with rfl|⟨u,F,K,H,N,h5,rfl⟩;rfl;have n3:∀m,G<=m->¬u=m:=λm hm=>by omega
   simp(disch:=try exact zD)[yj,n3]at h5;simp only[bp,bD,bm];refine JG λe=>?_;rw[e,h5]at e1;cases e1;rw[jq8 H]at e2;cases e2
  have d8:ks.any (Nat.beq (2*(G+1088)+1))=false:=by rcases b8 with rfl|⟨u,F,K,H,N,h5,rfl⟩;rfl;simp only[bp,bD,bm];exact JG zO
  refine jv5 λQ D=>?_;have g2:Q.tm 2=dv:=by rw[D];simp
  have g3:Q.tm 3=.int .i64 (ym c.g).length:=by rw[D];simp
  have gd:Q.df=[]:=by rw[D];simp
  have gK:c.Keep ob Q.ob G:=λB u cs F K H N=>by have h5:=F.ne;rw[D];simp(disch:=try exact zD)[j9,h5,K,c5 B u cs H N]
  have gS:WS c (I++[w]) false Q.ob (G+1408):=by
   refine⟨⟨.osl (2*(G+1344)+1) (G+1344) 0 (P.length+1) 1,P++[(G+1088,w)],?_,⟨λp L=>?_,.inr ⟨zS,G+1344,zO,zO,λp L=>?_,zS,?_⟩⟩,by simp[b0]⟩,λv hv=>?_,?_⟩;rw[D];simp[WC.cs,yb,aA];rcases aQ.1 L with L|L;obtain⟨p1,p2,p3⟩:=U.1 p L;exact⟨p1,zO,(gK _ _ _ (Off.new p2) (λe=>S.w p.1 p1 e.symm) p3 (jki _ _)).trans p3⟩;rw[ae]at L;subst L;refine⟨zO,zO,?_⟩;rw[D];simp(disch:=try exact zD)[j9,yj,aA,d8,oW,f2];exact λe=>zf e.symm (oW _ zO)
   rcases aQ.1 L with L|L;have:=(U.1 p L).2.1;omega;rw[ae]at L;subst L;simp;rw[D,d3];simp(disch:=try exact zD)[j9,yj,aA,oW];exact λe=>zf e.symm (oW _ zO)
   rcases aQ.1 hv with hv|hv;exact hS.b v hv;rw[ae]at hv;exact hv▸hw;rw[dc];exact⟨hS.d,zS,λa ha b hb e=>f4 (by rw[ae]at hb;exact hb▸e▸ha)⟩
  clear D;have gO:DoneV Q.ob c.lo (G+1408) dv done:=hO.keep S gK zO;have k2:=jaw c.g;have e0:(done.length:Int)=(ym c.g).length:=zO;simp[e0,g2,g3];refine YZ (by simp[gd]) ?_;rw[onM,za T];refine⟨⟨dv,by simp[g2],λh=>(by cases h),λl h=>?_⟩,zL,λB u cs F K H N=>by simpa using gK B u cs F K H N,gS.keep S zO zL λB _=>by simp⟩;cases h;exact gO.keep S (λB u cs F K H N=>by simp) zL
 have c6:=Xf c.g.ts.length w.testBit;have c9:∀m,G<=m->¬us=m:=λm hm=>by have:=hT.2.2;omega
 refine j4c (z:=G+1088) (n:=c.g.ts.length) (ys:=yM c.g.ts.length w.testBit) (by simp[aA]) (by simp[aA]) zP ?_ (λe=>h0 (by rw[e]at c6;exact c6.symm)) (by rw[c6,Nat.div_one]) zQ ?_ zO zO ?_;refine jyp ?_;simp(disch:=try exact zD)[yj,c9,hT.1];exact jmw _ _;simp;refine jz (cs:=[.osl (2*(G+1216)+1) (G+1216) 0 c.g.ts.length 1]) (by simp[j2,aA]) rfl rfl ?_;simp;refine jc1 (n:=c.g.ts.length) (lo:=c.lo) (hi:=G) (v:=sv) (P:=P) (p:=(G+1216,w)) zS (U.frame (λu F K=>?_) zK) (by simp[yp,ya,je7,aA]) zP zO λks b8=>?_;have H:∀m,G<=m->¬u=m:=λm hm=>by omega
 simp(disch:=try exact zD)[yj,H];have e3:ks.any (Nat.beq c.kW)=false:=by rcases b8 with rfl|⟨u,F,K,H,N,h5,rfl⟩;rfl;simp only[bp,bD,bm];exact JF (S.w u F)
 generalize d3:List.flatMap (je7 c.g.ts.length) (P++[(G+1216,w)])=cs9;simp(disch:=try exact zD)[ya,hW,WC.cs,yb,e3,j2,j9,oW];have bW:∀m,G<=m->Nat.beq c.kW (2*m+1)=false:=λm hm=>JG (oW m hm);have d9:∀m,G<=m->Nat.beq (2*m+1) c.kW=false:=λm hm=>JG (dB (oW m hm));refine⟨d5,?_,?_⟩;simp(disch:=try exact zD)[JQ,YW,Wk,QP,yz,yB,yR,uOf,Delta.wo,Delta.wt,bW,d9];rw[d4];have c5:∀B u cs,ob B=some ⟨u,.cells cs⟩->cs.all V.pureLeaf=true->ks.any (Nat.beq B)=false:=λB u cs e1 e2=>by
  rcases b8 with rfl|⟨u,F,K,H,N,h5,rfl⟩;rfl;have n3:∀m,G<=m->¬u=m:=λm hm=>by omega
  simp(disch:=try exact zD)[yj,n3]at h5;simp only[bp,bD,bm];refine JG λe=>?_;rw[e,h5]at e1;cases e1;rw[jq8 H]at e2;cases e2
 refine jv5 λQ D=>?_;have g0:Q.tm 0=.ptr c.kW c.uW 0:=by rw[D];simp
 have g1:Q.tm 1=.osl (2*us+1) us 0 c.g.ts.length 1:=by rw[D];simp
 have g2:Q.tm 2=dv:=by rw[D];simp
 have g3:Q.tm 3=.int .i64 (ym c.g).length:=by rw[D];simp
 have gd:Q.df=[]:=by rw[D];simp
 have gr:Q.ro=ro:=by rw[D];simp
 have gK:c.Keep ob Q.ob G:=λB u cs F K H N=>by have h5:=F.ne;rw[D];simp(disch:=try exact zD)[j9,h5,K,c5 B u cs H N]
 have gS:WS c (I++[w]) false Q.ob (G+1408):=by
  refine⟨⟨.osl (2*(G+1344)+1) (G+1344) 0 (P.length+1) 1,P++[(G+1216,w)],?_,⟨λp L=>?_,.inr ⟨zS,G+1344,zO,zO,λp L=>?_,zS,?_⟩⟩,by simp[b0]⟩,λv hv=>?_,?_⟩;rw[D];simp[WC.cs,yb,aA];rcases aQ.1 L with L|L;obtain⟨p1,p2,p3⟩:=U.1 p L;exact⟨p1,zO,(gK _ _ _ (Off.new p2) (λe=>S.w p.1 p1 e.symm) p3 (jki _ _)).trans p3⟩;rw[ae]at L;subst L;refine⟨zO,zO,?_⟩;rw[D];have d8:ks.any (Nat.beq (2*(G+1216)+1))=false:=by rcases b8 with rfl|⟨u,F,K,H,N,h5,rfl⟩;rfl;simp only[bp,bD,bm];exact JG zO
  simp(disch:=try exact zD)[j9,yj,aA,d8,oW];exact λe=>zf e.symm (oW _ zO);rcases aQ.1 L with L|L
  have:=(U.1 p L).2.1;omega;rw[ae]at L;subst L;simp;rw[D,d3];simp(disch:=try exact zD)[j9,yj,aA,oW];exact λe=>zf e.symm (oW _ zO);rcases aQ.1 hv with hv|hv
  exact hS.b v hv;rw[ae]at hv;exact hv▸hw;rw[dc];exact⟨hS.d,zS,λa ha b hb e=>f4 (by rw[ae]at hb;exact hb▸e▸ha)⟩
 clear D;have gO:DoneV Q.ob c.lo (G+1408) dv done:=hO.keep S gK zO;have gT:StV c Q.ob (G+1408) us w:=hT.keep S gK zO;have k2:=jaw c.g;have l0:done.length<=8:=by have:=Xd c.g;omega
 by_cases d0:k=0
 ·subst d0;have e0:(done.length:Int)=(ym c.g).length:=zO;simp[e0,g2,g3];refine YZ (by simp[gd]) ?_;rw[onM,za T];refine⟨⟨dv,by simp[g2],λh=>(by cases h),λl h=>?_⟩,zL,λB u cs F K H N=>by simpa using gK B u cs F K H N,gS.keep S zO zL λB _=>by simp⟩;cases h;exact gO.keep S (λB u cs F K H N=>by simp) zL
 obtain⟨j,rfl⟩:∃j,k=j+1:=⟨k-1,zO⟩;have e0:((done.length:Int)==(ym c.g).length)=false:=by simp;omega
 simp[e0,g3];refine jQ λst D=>?_;have a0:st.tm 0=.ptr c.kW c.uW 0:=by rw[D];simp[g0]
 have a1:st.tm 1=.osl (2*us+1) us 0 c.g.ts.length 1:=by rw[D];simp[g1]
 have a2:st.tm 2=dv:=by rw[D];simp[g2]
 have a3:st.tm 3=.int .i64 (ym c.g).length:=by rw[D];simp[g3]
 have a10:st.tm 10=.int .i64 0:=by rw[D];simp
 have ad:st.df=[]:=by rw[D];simp[gd]
 have ar:st.ro=ro:=by rw[D];simp[gr]
 have an:G+1408<=st.nx:=by rw[D];first|omega|(simp;done)|(simp;omega)
 have aS:WS c (I++[w]) false st.ob st.nx:=gS.keep S zO an λB _=>by rw[D];simp
 have aK:c.Keep ob st.ob G:=λB u cs F K H N=>by rw[D];simpa using gK B u cs F K H N
 clear D gS gK gO gT g0 g1 g2 g3 gd gr;obtain⟨R,hR⟩:∃R,R=loopM (onM (nxM c.g c.M) (yC c.g) c.most j) (nxM c.g c.M) w done (yC c.g) (I++[w]):=⟨_,rfl⟩;have e5:onM (nxM c.g c.M) (yC c.g) c.most (j+1) w done I=R:=by rw[onM,za T,hR]
 rw[e5];obtain⟨J,hJ⟩:∃J:Nat->St->Prop,J=λi s=>s.tm 10=.int .i64 i/\(∃I,WS c I false s.ob s.nx/\R=loopM (onM (nxM c.g c.M) (yC c.g) c.most j) (nxM c.g c.M) w done (jbe c.g i) I)/\c.Keep ob s.ob G/\G<=s.nx:=⟨_,rfl⟩;refine j5 [(8,13),(44,113)] c.g.ts.length J rfl rfl (by rw[hJ];exact⟨zU a10,⟨_,aS,by rw[cm_zero];exact hR⟩,aK,zO⟩) ?_;clear aS aK an hS hW U b0 b9 d7 d4 hR e5 c5 b8 c6;intro i s hi f0 f;rw[hJ]at f0;obtain⟨b7,⟨I,sS,Z⟩,sK,sn⟩:=f0;have s0:=(f.t 0 zS).trans a0;have s1:=(f.t 1 zS).trans a1;have s2:=(f.t 2 zS).trans a2;have s3:=(f.t 3 zS).trans a3;have sd:=f.d.trans ad;have sr:=f.r.trans ar;clear f;by_cases O:i<c.g.ts.length
 ·have c0:=jP O zO;have f1:(c.g.ts.flatMap jf)[i*3+1]? = some (.int .i64 (c.g.ts[i]).f):=by rw[jO j7 c.g.ts O (by decide:1<3)];rfl
  have i2:Jt c.g i=((c.g.ts[i]).f==1):=by simp[Jt,O,Jp]
  have X:=cm_step O;rw[i2]at X;have c3:=hT.keep S sK sn;have k0:=hO.keep S sK sn;have h6:=jv2 (l:=2*us+1) (u:=us) (sz:=1) (kk:=.i64) O;have m1:=Qq (s:=w.testBit) O;have d7:=sS.len S;have i0:=sS.b;have l4:=sS.d;obtain⟨sv,P,hW,U,b0⟩:=sS.w;simp(disch:=try exact zD)[b7,s0,ya,hW,WC.cs,yb,O,j4 j7,f1];cases c1:((c.g.ts[i]).f==1);have c2:((c.g.ts[i]).f != 1)=true:=by simpa using c1
  rw[c1,za zQ]at X;rw[X]at Z;simp(disch:=try exact zD)[b7,c0,O,c2];rw[hJ];exact⟨zS,⟨I,sS.keep S zO zL λB _=>by simp,Z⟩,λB u cs F K H N=>by simpa using sK B u cs F K H N,zL⟩;have c2:((c.g.ts[i]).f != 1)=false:=by simpa using c1
  rw[c1,zb rfl]at X;rw[X,loopM]at Z;simp(disch:=try exact zD)[b7,s1,h6,ya,c3.1,m1,c2];cases hb:w.testBit i
  ·simp(disch:=try exact zD)[s0,s1,b7,ya,hW,WC.cs,yb];refine jN (vs:=[.agg (yb c.g),yl c.mn yf c.M,.osl (2*us+1) us 0 c.g.ts.length 1,.int .i64 i]) zI rfl (by simp[V.strip,V.strip1,V.pureTop,V.pureLeaf]) (evo155 S.s S.m (st:=λa=>w.testBit a) (zU c3.1) (Off.new (by have:=c3.2.2;first|omega|(simp;done)|(simp;omega))) O _ _) ?_;rw[show jpf c.g c.M (λa=>w.testBit a) i=nxM c.g c.M w i from rfl];cases hx:nxM c.g c.M w i;rw[hb,hx,zb (by rfl)]at Z;simp(disch:=try exact zD)[b7,c0,O];rw[hJ];exact⟨zS,⟨I,sS.keep S zO zL λB _=>by simp,Z⟩,λB u cs F K H N=>by simpa using sK B u cs F K H N,zL⟩;simp;refine jZ (cs:=[]) rfl rfl rfl ?_;simp;refine jdj λq uq hq i1=>?_;have q0:q.tm 0=.ptr c.kW c.uW 0:=by rw[hq];simp[s0]
   have q1:q.tm 1=.osl (2*us+1) us 0 c.g.ts.length 1:=by rw[hq];simp[s1]
   have q2:q.tm 2=dv:=by rw[hq];simp[s2]
   have q3:q.tm 3=.int .i64 (ym c.g).length:=by rw[hq];simp[s3]
   have e4:q.tm 10=.int .i64 i:=by rw[hq];simp[b7]
   have e9:q.tm 85=.osl (2*us+1) us 0 c.g.ts.length 1:=by rw[hq];simp[s1]
   have qd:q.df=[]:=by rw[hq];simp[sd]
   have qr:q.ro=ro:=by rw[hq];simp[sr]
   obtain⟨z,z1,z2,f6,qz,qo⟩:∃z,s.nx<=z/\z<uq/\q.tm 84=.osl (2*z+1) z 0 0 1/\q.ob (2*z+1)=some ⟨z,.cells []⟩/\∀B,Off s.nx B->q.ob B=s.ob B:=by refine⟨s.nx+2432,zO,zO,by rw[hq];simp[aA],by rw[hq];simp[aA],λB hk=>?_⟩;have:=hk.ne;rw[hq];simp(disch:=try exact zD)[this]
   have i1:s.nx<=uq:=zO;clear hq;have i9:=c3.2.2;have f5:q.ob (2*us+1)=some ⟨us,.cells (yM c.g.ts.length w.testBit)⟩:=(qo _ (Off.new i9)).trans c3.1;have g5:yM c.g.ts.length w.testBit≠[]:=λe=>h0 (by have:=Xf c.g.ts.length w.testBit;rw[e]at this;exact this.symm);refine JJ (l:=2*z+1) (u:=z) (n:=0) (cs:=[]) (ys:=yM c.g.ts.length w.testBit) (by simp[f6]) (by simpa[e9] using jyp f5) qz g5 zO zS zQ (jmw _ _) (by rw[Xf];omega) (by rw[Xf];omega) ?_;rw[Xf,Nat.div_one,bJ];have g4:=jv2 (l:=2*uq+1) (u:=uq) (sz:=1) (kk:=.i64) O;simp(disch:=try exact zD)[e4,g4,ya,j2];refine⟨zO,by rw[Xf];omega,?_⟩;refine jdj λp up L i8=>?_;have p0:p.tm 0=.ptr c.kW c.uW 0:=by rw[L];simp[q0]
   have p1:p.tm 1=.osl (2*us+1) us 0 c.g.ts.length 1:=by rw[L];simp[q1]
   have p2:p.tm 2=dv:=by rw[L];simp[q2]
   have p3:p.tm 3=.int .i64 (ym c.g).length:=by rw[L];simp[q3]
   have c8:p.tm 10=.int .i64 i:=by rw[L];simp[e4]
   have i7:p.tm 11=.osl (2*uq+1) uq 0 c.g.ts.length 1:=by rw[L];simp
   have i4:p.tm 90=.ptr c.kW c.uW 0:=by rw[L];simp[q0]
   have g8:p.tm 91=.osl (2*uq+1) uq 0 c.g.ts.length 1:=by rw[L];simp
   have pd:p.df=[]:=by rw[L];simp[qd]
   have pr:p.ro=ro:=by rw[L];simp[qr]
   have px:p.ob (2*uq+1)=some ⟨uq,.cells (yM c.g.ts.length (w|||1<<<i).testBit)⟩:=by rw[L,<- j8q O,cN,zb (by rw[Xf];exact O)];simp
   have po:∀B,Off s.nx B->p.ob B=s.ob B:=λB hk=>by have:=hk.ne;rw[L];simp(disch:=try exact zD)[j9,this];exact qo B hk
   have k3:uq+512<=up:=zO;clear L i8 q0 q1 q2 q3 e4 e9 qd qr f6 qz qo f5;have hy:w|||1<<<i<2^c.g.ts.length:=dJ hw (by rw[da];exact dU zQ O);rw[hb,hx]at Z;generalize w|||1<<<i=y at *;have e8:c.lo<=s.nx:=zO;have g6:p.ob c.kW=some ⟨c.uW,.cells (c.cs sv false)⟩:=(po _ (S.w.up e8)).trans hW;have e7:=U.frame (λu _ h=>po _ (Off.new h)) zK;have k8:P.length=I.length:=by rw[<- b0];simp
   refine jN (vs:=[.ptr c.kW c.uW 0,.osl (2*uq+1) uq 0 c.g.ts.length 1]) (by simp[i4,g8]) rfl rfl (evo156 zO (by simpa[WC.cs,yb] using g6) e7 zO px hy (λx hx=>i0 _ (by rw[<- b0];exact List.mem_map_of_mem hx)) _ _ _) ?_;rw[b0];cases hv:I.contains y
   ·rw[hv,za zQ]at Z;simp;refine jJ (vs:=[dv]) (by simp[p2]) rfl (sv38d (lo:=c.lo) (hi:=s.nx) (done:=done) ((k0.ord).frame (λu _ h=>?_) zK) zO zL (by first|omega|(simp[pr];omega))) ?_;simpa using po _ (Off.new h);rintro v1 d2 k6 c4 ⟨⟨m,m1,m2,m3,m4⟩,m5,m6,m7⟩;simp only at m1 m2 m3 m4 m5 m6 m7;subst m3;rw[J0];have l5:((yt done).flatMap yf).length=done.length:=by rw[j1 j6,J0];omega
    simp[c8];refine jZ (cs:=[.int .i64 (i:Int)]) (by simp[j2]) rfl rfl ?_;simp;refine JJ (l:=2*m+1) (u:=m) (n:=done.length) (cs:=(yt done).flatMap yf) (ys:=[.int .i64 (i:Int)]) zS (by simp[yp,ya]) ?_ zS (by first|omega|(simp[pr];omega)) zO zQ rfl zP zP ?_;have:¬m=c4+64:=zO;simp[yj,this];exact m4;rw[aH zO];simp[p3];refine jdj λt ut ht h8=>?_;have i6:∀B,Off s.nx B->d2 B=s.ob B:=λB hk=>by rw[m5 B (λx hx=>hk x zO)];simpa using po B hk
    have i3:d2 (2*uq+1)=some ⟨uq,.cells (yM c.g.ts.length y.testBit)⟩:=by rw[m5 _ (λx hx=>by omega)];simpa using px
    have t0:t.tm 0=.ptr c.kW c.uW 0:=by rw[ht];simp[p0]
    have h7:t.tm 10=.int .i64 i:=by rw[ht];simp[c8]
    have k1:t.tm 94=.ptr c.kW c.uW 0:=by rw[ht];simp[p0]
    have g9:t.tm 95=.osl (2*uq+1) uq 0 c.g.ts.length 1:=by rw[ht];simp[i7]
    have f8:t.tm 101=.int .i64 (ym c.g).length:=by rw[ht];simp
    have td:t.df=[]:=by rw[ht];simp[pd]
    have tr:t.ro=ro:=by rw[ht];simp[pr]
    obtain⟨a,a1,a2,f7,ta⟩:∃a,c4<=a/\a<ut/\t.tm 100=.osl (2*a+1) a 0 (done++[i]).length 1/\t.ob (2*a+1)=some ⟨a,.cells ((yt (done++[i])).flatMap yf)⟩:=by refine⟨c4+128,zO,zO,by rw[ht];simp[aA],by rw[ht];simp[aA,yt,yf]⟩
    have e6:∀B,Off c4 B->B≠2*m+1->t.ob B=d2 B:=λB hk h=>by have:=hk.ne;rw[ht];simp(disch:=try exact zD)[j9,this,h]
    have k4:c4+256<=ut:=zO;clear ht h8;have d6:∀B,Off s.nx B->t.ob B=s.ob B:=λB hk=>(e6 B (hk.up zO) (hk m zO)).trans (i6 B hk);refine jJ (vs:=[.ptr c.kW c.uW 0,.osl (2*uq+1) uq 0 c.g.ts.length 1,.osl (2*a+1) a 0 (done++[i]).length 1,.int .i64 (ym c.g).length]) (by simp[k1,g9,f7,f8]) rfl
     (ih j rfl Yf y (done++[i]) I _ uq t.ob t.tk t.ro _ ut (sS.keep S e8 zO d6) zP hy (zU hv) ⟨(e6 _ (Off.new zO) zO).trans i3,zO,zO⟩ (.inr ⟨a,rfl,ta,zO,zO⟩) zO zO zO) ?_
    rintro v2 g7 l3 l1 ⟨⟨ov,b1,b2,b3⟩,b4,b5,b6⟩;simp only at b1 b3 b4 b5 b6;subst b1;have d1:c.Keep ob g7 G:=sK.trans (λB u cs F K H N=>(b5 B u cs (F.up zO) K ((d6 B F).trans H) N).trans (d6 B F)) sn;rcases f9:onM (nxM c.g c.M) (yC c.g) c.most j y (done++[i]) I with⟨o,sp,vv⟩;rw[f9]at b2 b3 b6 Z;simp only at b2 b3 b6;cases o with
    |some l=>have Z:R=(some l,sp,vv):=Z;simp;refine YZ (by simp[td]) ?_;rw[Z];exact⟨⟨ov,zS,λh=>(by cases h),λl' h=>(b3 l' h).keep S (λB u cs F K H N=>by simp) zL⟩,zL,λB u cs F K H N=>by simpa using d1 B u cs F K H N,b6.keep S zO zL λB _=>by simp⟩
    |none=>
     have:=b2 rfl;subst this;obtain⟨k7,P2,f3,_,_⟩:=b6.w;cases sp with
     |true=>have Z:R=(none,true,vv):=Z;simp(disch:=try exact zD)[t0,ya,f3,WC.cs,yb];refine YZ (by simp[td]) ?_;rw[Z];exact⟨⟨.sl none true 0 [],zS,λ_=>rfl,λl' h=>(by cases h)⟩,zL,λB u cs F K H N=>by simpa using d1 B u cs F K H N,b6.keep S zO zL λB _=>by simp⟩
     |false=>have Z:R=loopM (onM (nxM c.g c.M) (yC c.g) c.most j) (nxM c.g c.M) w done (jbe c.g (i+1)) vv:=Z;simp(disch:=try exact zD)[t0,h7,ya,f3,WC.cs,yb,c0,O];rw[hJ];exact⟨zS,⟨vv,b6.keep S zO zL λB _=>by simp,Z⟩,λB u cs F K H N=>by simpa using d1 B u cs F K H N,zL⟩
   rw[hv,zb (by rfl)]at Z;simp(disch:=try exact zD)[c8,c0,O];rw[hJ];exact⟨zS,⟨I,sS.keep S zO zL λB hk=>by simpa using po B hk,Z⟩,λB u cs F K H N=>by simpa using(po B (F.up sn)).trans (sK B u cs F K H N),zL⟩
  rw[hb,fo,zb rfl]at Z;simp(disch:=try exact zD)[b7,c0,O];rw[hJ];exact⟨zS,⟨I,sS.keep S zO zL λB _=>by simp,Z⟩,λB u cs F K H N=>by simpa using sK B u cs F K H N,zL⟩
 have:i=c.g.ts.length:=zO;subst this;rw[cm_end,loopM]at Z;obtain⟨sv,P,hW,U,b0⟩:=sS.w;simp(disch:=try exact zD)[b7,s0,ya,hW,WC.cs,yb];refine YZ (by simp[sd]) ?_;rw[Z];exact⟨⟨.sl none true 0 [],zS,λ_=>rfl,λl h=>(by cases h)⟩,zL,λB u cs F K H N=>by simpa using sK B u cs F K H N,sS.keep S zO zL λB _=>by simp⟩
def sv103 (a:c.Ok) (k:Nat):OnP2 c k:=by
 induction k with
 |zero=>exact jrw a 0 λj h=>by omega
 |succ k b=>refine jrw a (k+1) λj h=>?_;have:j=k:=zO;exact this▸b
end
def j3d (n:Nat):(List.replicate n false).map V.bool=yM n (Nat.testBit 0):=by apply de;intro i;by_cases a:i<n;rw[Qq a];simp[a];rw[cG zP,cG (by rw[Xf];omega)]
section
variable {g:Hist'}{M:List Int}
def ev60 (t:Small g) (I:g.ts.length<=8) {mn:Bool}(T:M.length<=1000000) (most:Int):∃v,Ev E 60 [.agg (yb g),yl mn yf M,.int .i64 most] v/\jte (Y5 g M most) v:=by
 have u:=ev28 t;have r:=ev34 t (b:=mn) M zO;have d:=ev16 g zO;rw[show yu Jp g.ts g.ts.length=ym g from rfl]at d;refine JW rfl zQ ?_;conv in(occs:=*)F60=>all_goals cbv
 simp(disch:=try exact zD)[F60,ya,yb];refine jH u zI rfl zI ?_;unfold Y5;cases Z:jX g;simp;exact Xb zS zS zS zS;simp(disch:=try exact zD)[ya,yl];refine jH r zH rfl zH ?_;cases B:W7 g M;simp(disch:=try exact zD);exact Xb zS zS zS zS;by_cases f:most<0;simp(disch:=try exact zD)[f];exact Xb zS zS zS zS;simp(disch:=try exact zD)[f,ya,j2];refine jpu (n:=g.ts.length) zS zS zO zO rfl zQ ?_;rw[jai,j3d];simp(disch:=try exact zD)[ya];refine j58 d zH rfl zH λX _=>?_;simp;refine⟨by simp[JQ,YW,Wk,QP,yz,yB,yR,uOf,Delta.wo,Delta.wt];rfl,?_⟩;obtain⟨c,i⟩:∃c:WC,c=⟨g,M,mn,most,2433,1216,1280⟩:=⟨_,rfl⟩;have Q:c.Ok:=by rw[i];exact⟨t,B,I,λm (B:1280<=m)=>by show(2433:Nat)≠2*m+1;omega⟩
 refine jJ (vs:=[.ptr 2433 1216 0,.osl (2*1600+1) 1600 0 g.ts.length 1,.sl none true 0 [],.int .i64 (ym g).length]) zS rfl (by
  have h:=sv103 Q (yC g).length YS 0 [] [] (.sl none true 0 []) 1600;rw[i]at h;exact h _ _ _ _ _ ⟨⟨.sl none true 0 [],[],by simp[WC.cs,yb,yl],⟨λp H=>(by cases H),.inl ⟨rfl,rfl⟩⟩,rfl⟩,λv N=>(by cases N),ee⟩ zS (ib _) zS ⟨zS,dC rfl,dC rfl⟩ (.inl ⟨rfl,rfl⟩) (dC rfl) zS zS) ?_
 rintro S J L K ⟨⟨ov,y,z,j⟩,F,U,q⟩;simp only at y j F q;subst y;rw[show onM (nxM g M) (yC g) most (yC g).length 0 [] []=JD g M most from rfl]at z j q ⊢;obtain⟨sv,P,e,s,x⟩:=q.w;have a:=s.len;have k:P.length=(JD g M most).2.2.length:=by rw[<- x];simp
 rw[k]at a;simp only[WC.cs,yb]at e;generalize JD g M most=R at *;obtain⟨o,D,O⟩:=R;simp only at z j a e;simp(disch:=try exact zD);refine⟨by simp[JQ,YW,Wk,QP,yz,yB,yR,uOf,Delta.wo,Delta.wt],?_⟩;cases D with
 |true=>simp(disch:=try exact zD)[ya,e,a];exact Xb zS zS zS zS
 |false=>
  cases o with
  |none=>simp(disch:=try exact zD)[ya,e,a];exact Xb zS zS zS zS
  |some l=>have G:=(j l rfl).ord;simp(disch:=try exact zD)[ya,e,a];exact jng zS zS zS zS (G.frame (λ_ _ _=>by simp) zK) zS
end
def j43 {g:Hist'}{lvl:Int}{M:List Int}(a:jX g=true) (b:W7 g M=true) (c:1<=lvl) (d:lvl<=2):jnp g lvl M=0:=by unfold jnp;rw[a,b];simp only[bV,ag,zc];rw[za zP]
section
variable {g:Hist'}{lvl most:Int}
def ev33 (hs:Small g) (h8:g.ts.length<=8) (hR:(yi g).length<=100) (Z:jX g=true) (d2:1<=lvl) (e3:lvl<=3) (h0:0<=most) (e7:most<9223372036854775808) :
 ∃v,Ev E 33 [.int .i64 lvl,.agg (yb g),.int .i64 most] v/\DecW (Yc g lvl most).1 (Yc g lvl most).2.1 (most-(Yc g lvl most).2.2.1) (.bool ((Yc g lvl most).2.2.2==13)) v:=by
 have c3:=ev59 hs Z;rw[<- jbt (jb0 Z)]at c3;obtain⟨e6,c9,Q⟩:=ev18 hs Z 1 zQ zQ;rw[js8,<- jbt (jb0 Z),<- jp0 (jb0 Z),dz]at Q;generalize hP:DecW (Yc g lvl most).1 (Yc g lvl most).2.1 (most-(Yc g lvl most).2.2.1) (.bool ((Yc g lvl most).2.2.2==13))=P;have F:∀c is n b,(Yc g lvl most).1=c->(Yc g lvl most).2.1=is->most-(Yc g lvl most).2.2.1=n->((Yc g lvl most).2.2.2==13)=b->∀r,DecW c is n (.bool b) r->P r:=λc is n b q1 q2 q3 q4 r h=>by rw[<- hP,q1,q2,q3,q4];exact h
 clear hP;refine JW rfl zQ ?_;conv in(occs:=*)F33=>all_goals cbv
 simp(disch:=try exact zD)[F33,ya,yb];refine jH c3 zI rfl zI ?_;by_cases hh:Q5 g=true\/jx (yx g)=false;have hA:Yc g lvl most=if most=0 then (([],[]),false,most,13) else (([],[]),false,most-1,0):=by unfold Yc;rw[zb hh]
 have hb:(Q5 g || !jx (yx g))=true:=by rcases hh with h|h<;>simp[h]
 rw[hb];by_cases T:most=0;simp(disch:=try exact zD)[ya,j2,T];refine Yk (c:=([],[])) (is:=false) (n:=0) (.bool true) (F _ _ _ _ ?_ ?_ ?_ ?_) (l:=12) (u:=64) zS zS zS zS zS zS (ja _ none true 0 []) (ja _ none true 0 [])<;>rw[hA,zb T];simp[T];rfl;have d3:(most==0)=false:=by simpa using T
 simp(disch:=try exact zD)[ya,j2,T,d3];refine Yk (c:=([],[])) (is:=false) (n:=1) (.bool false) (F _ _ _ _ ?_ ?_ ?_ ?_) (l:=12) (u:=64) zS zS zS zS zS zS (ja _ none true 0 []) (ja _ none true 0 [])<;>rw[hA,za T];simp only;omega;rfl;have hb:Q5 g=false:=by cases h:Q5 g;rfl;exact zf (.inl h) hh
 have U:jx (yx g)=true:=by cases h:jx (yx g);exact zf (.inr h) hh;rfl
 have hA:Yc g lvl most=Wf g lvl (yG (yx g)) most:=by unfold Yc;rw[za hh]
 rw[zb U]at Q;rw[hb,U];simp(disch:=try exact zD)[ya];refine jH c9 zI rfl zI ?_;refine Jv Q λe5 add=>?_;simp(disch:=try exact zD)[joc,Yd];refine jQ λN j=>?_;have g0:N.tm 0=.int .i64 lvl:=by rw[j];simp
 have g2:N.tm 2=.int .i64 most:=by rw[j];simp
 have g4:N.tm 4=.ptr 8 0 0:=by rw[j];simp
 have g6:N.tm 6=.ptr 12 64 0:=by rw[j];simp
 have c7:N.tm 10=.sl none false ((yx g).map hd1).length (((yx g).map hd1).flatMap yf):=by rw[j];simp
 have b6:N.tm 11=.int .i64 0:=by rw[j];simp
 have c6:N.tm 12=.bool true:=by rw[j];simp
 have gd:N.df=[]:=by rw[j];simp
 have gr:N.ro=0:=by rw[j];simp
 have gk:N.ob 8=some ⟨0,.cells (yb g)⟩:=by rw[j];simp[yb]
 have gc:N.ob 12=some ⟨64,.cells [.sl none true 0 [],.sl none true 0 []]⟩:=by rw[j];simp
 clear j;obtain⟨r0,b9⟩:=jal U;obtain⟨J,hJ⟩:∃J:Nat->St->Prop,J=λn s=>∃a,s.ob 8=some ⟨0,.cells (yb g)⟩/\s.ob 12=some ⟨64,.cells [.sl none true 0 [],.sl none true 0 []]⟩/\s.tm 11=.int .i64 (most-a)/\0<=a/\a<=most/\j6w g lvl most n (s.tm 12) (s.tm 10) a:=⟨_,rfl⟩;refine YH (n:=r0.length+1) [(7,17),(28,78)] J rfl rfl ?_ ?_;rw[hJ];exact⟨most,gk,gc,by rw[b6];simp,h0,dW _,.inl ⟨c6,(yx g).map hd1,r0,none,_,[],rfl,b9,c7,λh=>(by cases h),by rw[<- b9]⟩⟩;clear c7 b6 c6 gk gc;intro n s c4 f;rw[hJ]at c4;obtain⟨a,sk,sc,B,d5,e0,sM⟩:=c4;have s0:=(f.t 0 zS).trans g0;have s2:=(f.t 2 zS).trans g2;have s4:=(f.t 4 zS).trans g4;have O:=(f.t 6 zS).trans g6;have sd:=f.d.trans gd;have sr:=f.r.trans gr;clear f;rcases sM with⟨S,M,r,t,nl,c5,hn,G,w,e2,i⟩|⟨S,i⟩
 have K:=jcl hs Z M (by rw[G];simp);have e4:=XV K;have d8:=jyk hs Z U G;obtain⟨e9,b7,q⟩:=ev62 hs (b:=nl) M zO (by rw[jzy];exact K);rw[d8]at q;rw[Wf]at i;obtain⟨b1,b2,_⟩:=jfb (lvl:=lvl) Z K d5 (dW a);have c0:IntKind.i64.wrap (most-(most-a))=a:=by rw[show most-(most-a)=a by omega];exact jlh zO zO
 by_cases h3:lvl=3;have L:jbr g lvl M a=Y5 g M a:=by simp[jbr,h3]
 rw[L]at i b1 b2;obtain⟨e1,d1,d4,d9,c2⟩:=ev60 hs h8 (mn:=nl) (M:=M) zO a;have p:IntKind.i64.wrap (most-a+(Y5 g M a).2.1)=most-(a-(Y5 g M a).2.1):=by rw[show most-a+(Y5 g M a).2.1=most-(a-(Y5 g M a).2.1) by omega];exact jlh zO zO
 simp(disch:=try exact zD)[s0,s2,s4,w,B,S,h3,sk,ya,yb,c0];refine jH d1 zH rfl zH ?_;refine jl5 c2 rfl λws add b5=>?_;obtain⟨x,y,z,rfl,q1,q2,q3⟩:=map3 b5;obtain⟨t3,rfl⟩:=Wn q1;obtain rfl:=Wo q2;obtain rfl:=Wo q3;clear b5 q1 q2 q3;generalize Y5 g M a=X at *;obtain⟨o,x,e⟩:=X;simp only at i b1 b2 p;by_cases k:e=13;rw[za (by rw[k];decide),zb k]at i;simp(disch:=try exact zD)[B,p,k,O,sc,ya,j2,sr];refine Yk (c:=([],[])) (is:=false) (n:=most-(a-x)) (.bool true) (F _ _ _ _ ?_ ?_ ?_ ?_) (l:=12) (u:=64) (by simpa using sd) (by simp[O]) zS zS zS zS (ja _ none true 0 []) (ja _ none true 0 [])<;>rw[hA,i];rfl;have a0:(e==13)=false:=by simpa using k
 by_cases H:e=0;rw[zb H]at i;simp(disch:=try exact zD)[B,p,k,a0,H,O,sc,w,ya,j2,sr,V.cells,V.leaf];refine Yk (c:=(M,o)) (is:=true) (n:=most-(a-x)) (.bool false) (F _ _ _ _ ?_ ?_ ?_ ?_) (l:=12) (u:=64) (by simpa using sd) (by simp[O]) zS zS zS zS (ja _ t nl _ _) (ja _ t3 d4 _ _)<;>rw[hA,i];rfl;have d7:(e==0)=false:=by simpa using H
 rw[za H,za k]at i;simp(disch:=try exact zD)[B,p,k,a0,H,d7,s4,w,sk,ya,yb];refine jH b7 zH rfl zH ?_;cases r with
 |nil=>refine jj4 (a1:=true) (n1:=0) (c1:=[]) q λt4 add=>?_;simp(disch:=try exact zD);refine⟨0,zO,?_⟩;rw[hJ];exact⟨a-x,by simp[sk,yb],by simp[sc],zS,zO,zO,.inr ⟨zS,by rw[i];rfl⟩⟩
 |cons I r=>refine jj4 (a1:=I.isEmpty) (n1:=I.length) (c1:=I.flatMap yf) q λt4 add=>?_;simp(disch:=try exact zD);refine⟨r.length+1,by rw[hn];simp,?_⟩;rw[hJ];exact⟨a-x,by simp[sk,yb],by simp[sc],zS,zO,zO,.inl ⟨zS,I,r,t4,I.isEmpty,c5++[M],rfl,by rw[G];simp,zS,λh=>dD.1 h,i⟩⟩
 have c8:(lvl==3)=false:=by simpa using h3
 have L:jbr g lvl M a=if a=0 then ([],0,13) else ((jo4 g lvl M).1,1,(jo4 g lvl M).2):=by simp[jbr,h3]
 rw[L]at i b1 b2;by_cases T:a=0;have b0:(most-a==most)=true:=by simp[T]
 rw[zb T,za zQ,zb rfl]at i;simp(disch:=try exact zD)[s0,s2,O,w,B,S,h3,c8,b0,sc,ya,j2,sr];refine Yk (c:=([],[])) (is:=false) (n:=most-a) (.bool true) (F _ _ _ _ ?_ ?_ ?_ ?_) (l:=12) (u:=64) (by simpa using sd) (by simp[O]) zS zS zS zS (ja _ none true 0 []) (ja _ none true 0 [])<;>rw[hA,i];simp;rfl;have b0:(most-a==most)=false:=by rw[zk];omega
 have p:IntKind.i64.wrap (most-a+1)=most-(a-1):=by rw[show most-a+1=most-(a-1) by omega];exact jlh zO zO
 have d6:=j43 Z K d2 (show lvl<=2 by omega);obtain⟨e8,d0,m⟩:=ev61 hs h8 zO (mn:=nl) lvl h3 K;rw[za T]at i;simp(disch:=try exact zD)[s0,s2,s4,O,w,B,S,h3,c8,b0,p,sk,ya,yb,j2];refine jH d0 zH rfl zH ?_;unfold jo4 at i;rw[zb d6]at i;unfold OrdD at m;cases b8:jbj (g.ts.length+1) (jo (g.ts.length+1) (jdr g lvl M)) with
 |none=>
  rw[b8]at i m;simp only at i m;rw[za zQ,za zQ]at i;refine jj4 m λt3 add=>?_;simp(disch:=try exact zD)[s4,w,sk,ya,yb];refine jH b7 zH rfl zH ?_;cases r with
  |nil=>refine jj4 (a1:=true) (n1:=0) (c1:=[]) q λt4 add=>?_;simp(disch:=try exact zD);refine⟨0,zO,?_⟩;rw[hJ];exact⟨a-1,by simp[sk,yb],by simp[sc],zS,zO,zO,.inr ⟨zS,by rw[i];rfl⟩⟩
  |cons I r=>refine jj4 (a1:=I.isEmpty) (n1:=I.length) (c1:=I.flatMap yf) q λt4 add=>?_;simp(disch:=try exact zD);refine⟨r.length+1,by rw[hn];simp,?_⟩;rw[hJ];exact⟨a-1,by simp[sk,yb],by simp[sc],zS,zO,zO,.inl ⟨zS,I,r,t4,I.isEmpty,c5++[M],rfl,by rw[G];simp,zS,λh=>dD.1 h,i⟩⟩
 |some D=>rw[b8]at i m;simp only[zd]at i m;generalize ((yt D).filter λx=>(ym g).contains x)=o at *;refine jj4 m λt3 add=>?_;simp(disch:=try exact zD)[O,w,sc,ya,j2,sr,V.cells,V.leaf];refine Yk (c:=(M,o)) (is:=true) (n:=most-(a-1)) (.bool false) (F _ _ _ _ ?_ ?_ ?_ ?_) (l:=12) (u:=64) (by simpa using sd) (by simp[O]) zS zS zS zS (ja _ t nl _ _) (ja _ t3 false _ _)<;>rw[hA,i];rfl
 simp(disch:=try exact zD)[S,O,B,sc,ya,j2,sr];refine Yk (c:=([],[])) (is:=false) (n:=most-a) (.bool false) (F _ _ _ _ ?_ ?_ ?_ ?_) (l:=12) (u:=64) (by simpa using sd) (by simp[O]) zS zS zS zS (ja _ none true 0 []) (ja _ none true 0 [])<;>rw[hA,i];rfl
end
def all_nn {g:Hist'}{lvl most:Int}(c:Small g) (a:jX g=true) (b:0<=most):0<=(Yc g lvl most).2.2.1/\(Yc g lvl most).2.2.1<=most:=by unfold Yc;split;split;simp only;omega;simp only;omega;exact jyv a _ _ (jcl c a) b
section
variable {g:Hist'}
def ev12 (z:Small g) (y:g.ts.length<=8) (hR:(yi g).length<=100) (lvl most:Int) (D:most<9223372036854775808):∃v,Ev E 12 [.int .i64 lvl,.agg (yb g),.int .i64 most] v/\DecR (XI g lvl most) v:=by
 have G:=ev30 z;generalize L:DecR (XI g lvl most)=P;have p:∀r,DecR (XI g lvl most) r->P r:=λr h=>by rw[<- L];exact h
 clear L;refine JW rfl zQ ?_;have a:∀{f:St}{e:Int},f.df=[]->(f.tm 6=.ptr 129 64 0/\f.ob 129=some ⟨64,.cells [.sl none true 0 [],.sl none true 0 []]⟩)->f.tm 7=.bool false->f.tm 8=.int .i64 0->f.tm 9=.int .i64 e->XI g lvl most=(([],[]),false,0,e)->WO [.cell 6 (some 2),.t 7,.t 8,.t 9] P .ret f:=by intro f e M ⟨h6,U⟩ Q y h9 w;exact Yk (c:=([],[])) (.int e) (λv h=>p v (by rw[w];exact h)) M h6 U Q y h9 (ja _ none true 0 []) (ja _ none true 0 [])
 conv in(occs:=*)F12=>all_goals cbv
 simp(disch:=try exact zD)[F12,ya,yb];refine jH G zI rfl zI ?_;cases i:jX g;simp(disch:=try exact zD)[ya,j2];exact a (e:=4) zS ⟨zS,zS⟩ zS zS zS (by simp[XI,i]);by_cases o:lvl<1;simp(disch:=try exact zD)[ya,j2,o];exact a (e:=2) zS ⟨zS,zS⟩ zS zS zS (by simp[XI,i,o]);by_cases x:lvl > 3;simp(disch:=try exact zD)[ya,j2,o,x];exact a (e:=2) zS ⟨zS,zS⟩ zS zS zS (by simp[XI,i,x]);by_cases d:most<0;simp(disch:=try exact zD)[ya,j2,o,x,d];exact a (e:=2) zS ⟨zS,zS⟩ zS zS zS (by simp[XI,i,d]);simp(disch:=try exact zD)[ya,j2,o,x,d];obtain⟨a0,a1⟩:=all_nn (lvl:=lvl) z i (show 0<=most by omega);have w:XI g lvl most=((Yc g lvl most).1,(Yc g lvl most).2.1,most-(Yc g lvl most).2.2.1,(Yc g lvl most).2.2.2):=by unfold XI;rw[za (by rw[i];decide),za zO]
 refine jJ (vs:=[.ptr 3073 1536 0]) zS rfl (sv31 (lvl:=lvl) (left:=most) z y hR i (by simp;rfl) (λm d=>by omega) (cw _) (cw _) zO D) ?_;rintro v1 b0 O b ⟨⟨Z,N,n1,n2,I⟩,B,H,J⟩;simp only at I B H J;subst I;have K:=H 129 (λm d=>by omega) zQ;simp at J K;have s:IntKind.i64.wrap (most-(Yc g lvl most).2.2.1)=most-(Yc g lvl most).2.2.1:=jlh zO zO;generalize Yc g lvl most=X at *;obtain⟨⟨S,T⟩,is,F,e⟩:=X;simp only at w B s;have q:∀m,b<=m->¬2*m+1=129:=λm d h=>by omega
 have n:∀m,b<=m->¬129=2*m+1:=λm d h=>by omega
 have k:∀m,b<=m->¬2*m+1=3073:=λm d h=>by omega
 have j:∀m,b<=m->¬3073=2*m+1:=λm d h=>by omega
 simp(disch:=try exact zD)[ya,B,K,yN,q,n,k,j,j2,V.cells,V.leaf,s];refine⟨by simp(disch:=try exact zD)[JQ,YW,Wk,QP,yz,yB,yR,uOf,Delta.wo,Delta.wt];rfl,?_⟩;exact Yk (c:=(S,T)) (.int e) (λv h=>p v (by rw[w];exact h)) (l:=129) (u:=64) zS zS (by simp(disch:=try exact zD)[q,n,k,j]) zS zS zS (ja _ Z n1 _ _) (ja _ N n2 _ _)
end
def jm2 {g:Hist'}{lvl:Int}:∀(L:List (List Int)) (left:Int),(Wf g lvl L left).2.2.2=0\/(Wf g lvl L left).2.2.2=13/\(Wf g lvl L left).1=([],[])/\(Wf g lvl L left).2.1=false
 |[],left=>.inl rfl
 |M::r,left=>by rw[Wf];split;exact .inl rfl;split;exact .inr ⟨rfl,rfl,rfl⟩;exact jm2 r _
def j5j (g:Hist') (lvl left:Int):(Yc g lvl left).2.2.2=0\/(Yc g lvl left).2.2.2=13/\(Yc g lvl left).1=([],[])/\(Yc g lvl left).2.1=false:=by unfold Yc;split;split;exact .inr ⟨rfl,rfl,rfl⟩;exact .inl rfl;exact jm2 _ _
section
variable {g:Hist'}{lvl most:Int}
def ev13 (s:Small g) (G:g.ts.length<=8) (J:(yi g).length<=100) (lvl most:Int) (o:most<9223372036854775808):∃v,Ev E 13 [.int .i64 lvl,.agg (yb g),.int .i64 most] v/\DecR (XI g lvl most) v:=by
 have m:=ev32 s lvl most;generalize t:DecR (XI g lvl most)=P;have d:∀c is n e,XI g lvl most=(c,is,n,e)->∀r,DecW c is n (.int .i64 e) r->P r:=λc is n e q r h=>by rw[<- t,q];exact h
 clear t;refine JW rfl zQ ?_;conv in(occs:=*)F13=>all_goals cbv
 simp(disch:=try exact zD)[F13,ya,yb];refine jH m zI rfl zI ?_;by_cases b:(if jX g=false then (4:Int) else if lvl<1\/3<lvl\/most<0 then 2 else 0)=0;have k:jX g=true:=by cases h:jX g;rw[zb h]at b;cases b;rfl
 have H:¬(lvl<1\/3<lvl\/most<0):=λh=>by rw[za (by rw[k];decide),zb h]at b;cases b
 have f:XI g lvl most=((Yc g lvl most).1,(Yc g lvl most).2.1,most-(Yc g lvl most).2.2.1,(Yc g lvl most).2.2.2):=by unfold XI;rw[za (by rw[k];decide),za H]
 obtain⟨I,p,i⟩:=ev33 (lvl:=lvl) (most:=most) s G J k zO zO zO o;have w:=j5j g lvl most;rw[b];simp(disch:=try exact zD)[ya];refine jH p zI rfl zI ?_;refine jxa (.bool _) i λF x K L add=>?_;generalize Yc g lvl most=X at *;obtain⟨⟨B,D⟩,is,a,e⟩:=X;simp only at f w;rcases w with rfl|⟨rfl,j,rfl⟩
 simp(disch:=try exact zD)[ya,j2,V.cells,V.leaf];exact Yk (c:=(B,D)) (is:=is) (n:=most-a) (.int 0) (d _ _ _ _ f) (l:=12) (u:=64) zS zS zS zS zS zS (ja _ F K _ _) (ja _ x L _ _);cases j;simp(disch:=try exact zD)[ya,j2,V.cells,V.leaf];exact Yk (c:=([],[])) (is:=false) (n:=most-a) (.int 13) (d _ _ _ _ f) (l:=12) (u:=64) zS zS zS zS zS zS (ja _ none true _ _) (ja _ none true _ _);have f:XI g lvl most=(([],[]),false,0,if jX g=false then (4:Int) else if lvl<1\/3<lvl\/most<0 then 2 else 0):=by unfold XI;split;rfl;rename_i j;rw[za j]at b;split;rfl;rename_i y;rw[za y]at b;exact zf rfl b
 generalize (if jX g=false then (4:Int) else if lvl<1\/3<lvl\/most<0 then 2 else 0)=e at *;have z:(e != 0)=true:=by simpa using b
 simp(disch:=try exact zD)[ya,j2,V.cells,V.leaf,z];exact Yk (c:=([],[])) (is:=false) (n:=0) (.int e) (d _ _ _ _ f) (l:=12) (u:=64) zS zS zS zS zS zS (ja _ none true _ _) (ja _ none true _ _)
end
section
def ev14 {a1 a2 b1 b2:Bool}(c d:List Int) (z:c.length<=1000000000) (u:d.length<=1000000000):Ev E 14 [.agg [yl a1 yf c,yl a2 yf d],.agg [yl b1 yf c,yl b2 yf d]] (.bool true):=by
 refine jS rfl ?_;conv in(occs:=*)F14=>all_goals cbv
 simp[ya];refine j5 [(4,5),(23,40)] c.length (λi s=>s.tm 5=.int .i64 i/\s.ob 4=some ⟨0,.cells [yl a1 yf c,yl a2 yf d]⟩/\s.ob 6=some ⟨64,.cells [yl b1 yf c,yl b2 yf d]⟩) rfl rfl ⟨zS,zS,zS⟩ ?_;rintro i s x ⟨m,h,g⟩ f;have j:s.tm 2=.ptr 4 0 0:=by rw[f.t 2 zS];simp
 have k:s.tm 3=.ptr 6 64 0:=by rw[f.t 3 zS];simp
 have v:s.df=[]:=by rw[f.d];simp
 clear f;by_cases a:i<c.length;have e:=jP a z;have l:=jj c a;simp[m,j,k,h,g,ya,a,j4 j6,l,e];have b:i=c.length:=zO;subst b;simp[m,j,k,h,g,ya];clear m;refine j5 [(4,4),(6,6),(41,58)] d.length (λi s=>s.tm 6=.int .i64 i/\s.ob 4=some ⟨0,.cells [yl a1 yf c,yl a2 yf d]⟩/\s.ob 6=some ⟨64,.cells [yl b1 yf c,yl b2 yf d]⟩) rfl rfl ⟨zS,by simp[h],by simp[g]⟩ ?_;rintro i w x ⟨q,n,o⟩ f;have p:w.tm 2=.ptr 4 0 0:=by rw[f.t 2 zS];simp[j]
 have r:w.tm 3=.ptr 6 64 0:=by rw[f.t 3 zS];simp[k]
 have y:w.df=[]:=by rw[f.d];simp[v]
 clear f;by_cases a:i<d.length;have e:=jP a u;have l:=jj d a;simp[q,p,r,n,o,ya,a,j4 j6,l,e];have b:i=d.length:=zO;subst b;simp[q,p,r,n,o,ya];exact j3 (by simp[y]) zS rfl
def ev10 {g:Hist'}(c:Small g):Ev E 10 [.agg (yb g)] (.bool (!jX g||decide (jac (yx g) 1<=200))):=by
 have a:=ev28 c;refine jS rfl ?_;conv in(occs:=*)F10=>all_goals cbv
 simp[ya,yb];refine jH a zI rfl zI ?_;cases d:jX g;simp;exact j3 rfl zS rfl;have b:=ev17 c d;simp[ya];refine jH b zI rfl zI ?_;simp;exact j3 rfl zS rfl
end
def txt11:List UInt8:=[98,101,103,105,110,32,115,10,114,101,97,100,32,115,32,120,32,49,10,111,107,32,115]
def H11:Hist':=⟨false,[[115]],false,[[120]],false,[⟨0,1,false,[⟨false,0,⟨1,1⟩⟩]⟩]⟩
def k11:(yL E 100 noY).d 29 [.str txt11]=some (.tup [(.agg [(.sl (some (0,1)) false 1 [(.str [115])]),(.sl (some (1,1)) false 1 [(.str [120])]),(.sl (some (2,3)) false 1 [(.int .i64 0),(.int .i64 1),(.sl none false 1 [(.bool false),(.int .i64 0),(.int .i64 1),(.int .i64 1)])])]),(.int .i64 0),(.int .i64 0)]):=by kernel_rfl
def j7m:Small H11:=⟨zQ,zQ,zQ,zQ,zQ,zQ⟩
def j7l:Small H20:=⟨zQ,zQ,zQ,zQ,zQ,zQ⟩
def dec11:XI H11 1 9=(([],[]),false,1,0):=by kernel_rfl
def dec20:XI H20 3 9=(([-1],[0]),true,2,0):=by kernel_rfl
def ev11:Ev E 11 [] (.bool true):=by
 obtain⟨r,i,e⟩:=ev12 j7m zQ (by decide +kernel) 1 9 zQ;obtain⟨n,j,d⟩:=ev12 j7l zQ (by decide +kernel) 3 9 zQ;rw[dec11]at e;rw[dec20]at d;have c:=λa=>ev25 (a:=a) (b:=false) [0] [0] zQ zQ;have f:Ev E 29 [.str txt11] _:=⟨100,k11⟩;have g:Ev E 29 [.str txt20] _:=⟨100,k20⟩;refine jS rfl ?_;conv in(occs:=*)F11=>all_goals cbv
 simp;refine jH f rfl rfl rfl ?_;simp[Xp,yy,V.toks,V.tok,ja4,QZ,Y4,Nat.blt,ya,j2];refine jH i (by simp[yl,yf,yb,H11,X1,jf,yS,V.strip,V.strip1]) rfl (by simp[yl,yf,yb]) ?_;refine jrc e λm k q s add=>?_;simp[ya,j2,V.cells,V.leaf];refine jH g rfl rfl rfl ?_;simp[Xp,yy,V.toks,V.tok,ja4,QZ,Y4,Nat.blt,ya,j2];refine jH j (by simp[yl,yf,yb,H20,X1,jf,yS,V.strip,V.strip1]) rfl (by simp[yl,yf,yb]) ?_;refine jrc d λl o p h add=>?_;simp[ya,j2,V.cells,V.leaf];refine jF (cs:=[.int .i64 0]) (by simp[j2]) rfl rfl ?_;simp[j2];refine jH (c h) (by simp[yl,yf]) rfl (by simp[yl,yf]) ?_;simp;exact j3 rfl zS rfl
def j4o (g:Hist') (M:List Int) (most:Int):(Y5 g M most).1.length<=g.ts.length:=by
 unfold Y5;split;simp;split;simp;rename_i c b;have a:W7 g M=true:=by cases a:W7 g M;simp[a]at b;rfl
 split;simp;cases h:(JD g M most).1 with
 |none=>simp
 |some l=>have:=(jio (jve a h)).length_eq;have:=Xd g;simp only;omega
def j4u (h:Hist'):∀t∈(yD h).ts,t.ops.length<=6:=by intro t a;unfold yD at a;split at a;cases a;obtain⟨x,_,rfl⟩:=aI.1 a;simp only[jdh,ai];omega
def jie {g:Hist'}(h:∀t∈g.ts,t.ops.length<=6):∀i,(XG g i).length<=i*6
 |0=>cw _
 |i+1=>by have:=jie h i;simp only[XG,ap];split;rename_i t a;have b:=Yv g i t.ops.length;have c:=h t (aJ a);split;omega;simp only[cD];omega;simp only[cD];omega
def jxf (h:Hist'):(yi (yD h)).length<=100:=by have b:=jie (j4u h) (yD h).ts.length;have a:=j0b h;unfold yi;have:(yD h).ts.length*6<=8*6:=bh _ a;omega
def dec_len {g:Hist'}(b:Small g) (k:g.ts.length<=8) (lvl most:Int):(XI g lvl most).1.1.length<=1000000000/\(XI g lvl most).1.2.length<=1000000000:=by
 have f:∀(L:List (List Int)) (left:Int),(∀M∈L,M.length<=1000000000)->(Wf g lvl L left).1.1.length<=1000000000/\(Wf g lvl L left).1.2.length<=1000000000:=by
  intro L;induction L with
  |nil=>intro left _;simp[Wf]
  |cons M r j=>intro left h;rw[Wf];split;refine⟨h M (aO ..),?_⟩;simp only;unfold jbr;split;have:=j4o g M left;omega;split;simp;unfold jo4;split;split;simp;rename_i D e;have c:=jb9 _ _ D e;simp only;refine bI (bO _ _) ?_;rw[J0,c];simp;omega;simp;split;simp;exact j _ λM i=>h M (aX _ i)
 unfold XI;split;simp;split;simp;rename_i a _;have a:jX g=true:=by cases h:jX g;exact zf h a;rfl
 simp only;unfold Yc;split;split<;>simp;refine f _ _ λM d=>?_;have c:=XV (jcl b a M d);have l:=Xr b;omega
def ev3 (h:Hist') (lvl most:Int) (f:most<9223372036854775808):Ev E 3 [.int .i64 lvl,.agg (yb h),.int .i64 most] (.bool true):=by
 obtain⟨r,D,F⟩:=ev9 h;obtain⟨O,l,a⟩:=ev9 (yD h);rw[j4v]at a;have j:=small8 h;have p:=j0b h;have u:=jxf h;generalize yD h=g at *;have o:=ev10 j;obtain⟨y,q,b⟩:=ev12 j p u lvl most f;obtain⟨x,m,i⟩:=ev13 j p u lvl most f;obtain⟨t,v⟩:=dec_len j p lvl most;generalize XI g lvl most=X at *;obtain⟨⟨c,d⟩,is,n,e⟩:=X;simp only at t v;have k:=λa1 a2 b1 b2=>ev14 (a1:=a1) (a2:=a2) (b1:=b1) (b2:=b2) c d t v;refine jS rfl ?_;conv in(occs:=*)F3=>all_goals cbv
 simp[yb,ya];refine jH D zH rfl zH ?_;refine jw9 F λa1 b1 L s=>?_;simp[ya,j2,V.cells,V.leaf];refine jH o zH rfl zH ?_;cases P:(!jX g||decide (jac (yx g) 1<=200));simp;refine jH ev11 zS rfl zS ?_;simp;exact j3 rfl zS rfl;simp[ya];refine jH l zH rfl zH ?_;refine jw9 a λa2 b2 M w=>?_;simp;refine jH q zH rfl zH ?_;refine jrc b λN I G H add=>?_;simp[ya,j2,V.cells,V.leaf];refine jH m zH rfl zH ?_;refine jrc i λJ K z B add=>?_;simp[ya,j2,V.cells,V.leaf];refine jH (k G H z B) (by simp[yl]) rfl (by simp[yl]) ?_;simp;refine jH ev11 zS rfl zS ?_;simp;exact j3 rfl zS rfl
end Go.Pv.T
