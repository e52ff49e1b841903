/- Part. -/
import Derived.Test.YtmanndcfeicokaaGreatDoorTAX
set_option maxRecDepth 100000
set_option maxHeartbeats 8000000
set_option linter.all false
namespace Go.Pv.T
open Go Go.Pv
def jb3 {st:St}{p a b l u:Nat}{x y:V}{P:V×(ZO)×(Nat->Bool)×Nat->Prop}(c:st.df=[]) (hp:st.tm p=.ptr l u 0) (d:st.ob l=some ⟨u,.cells [x,y]⟩) (h:P (.tup [.agg [x,y],st.tm a,st.tm b],st.ob,st.tk,st.nx)):Jw [.cell p (some 2),.t a,.t b] P .ret st:=by
 have e:j0 st.ob l u=some [x,y]:=by simp[j0,d]
 exact⟨_,by simp[endS,c,jv,hp,e],h⟩
def jvp (g:Hist'):∀c∈yv g,c.2.Nodup:=by intro c a;unfold yv at a;obtain⟨p,_,rfl⟩:=aE.1 a;exact jyo g p.1 p.2
def j8y {g:Hist'}(i:Small g) (e:jX g=true) (c:jo (yv g)=true) {a r:List (List Int)}{M:List Int}(h:yF (yv g)=a++M::r):jkt g M=r.head?:=by
 have d:=jao i e M (by rw[h];simp);rw[<- j4l]at d;have b:=jic c (jvp g);have j:a.length<(yF (yv g)).length:=by rw[h];simp
 have:=jq3 b j;rw[jkt,zb d];have f:(yF (yv g))[a.length]=M:=by simp[h]
 rw[f]at this;rw[this,h,bw zO];cases r<;>simp
def MapsAt (g:Hist') (lvl left0:Int) (n:Nat) (s7:V) (s5:V) (left:Int):Prop :=
 (s7=.bool true/\∃M r t nl pre,n=r.length+1/\yF (yv g)=pre++M::r/\s5=.sl t nl M.length (M.flatMap yf)/\(nl=true->M=[])/\Y0 g lvl (yF (yv g)) left0=Y0 g lvl (M::r) left) \/
 (s7=.bool false/\Y0 g lvl (yF (yv g)) left0=(([],[]),false,left,0))
def AllV (x:(List Int×List Int)×Bool×Int×Int) (v:V):Prop:=∃t1 t2 n1 n2,v=.tup [.agg [.sl t1 n1 x.1.1.length (x.1.1.flatMap yf),.sl t2 n2 x.1.2.length (x.1.2.flatMap yf)],.bool x.2.1,.int .i64 x.2.2.2]
section
variable {g:Hist'}{lvl left:Int}{k u ub:Nat}{ob:ZO}
def sv31 {Yf:YF}{tk:Nat->Bool}{ro base:Nat}(hs:Small g) (h8:g.ts.length<=8) (hR:(yi g).length<=100) (hw:jX g=true) (K:ob k=some ⟨u,.cells (yL g lvl left)⟩) (c3:Off ub k) (b6:ro<=u) (G:ro<=ub) (h0:0<=left) (hl:left<9223372036854775808) :
 ∃r,EvS E Yf.y 31 [.ptr k u 0] ob tk ro base ub r/\AllV (jbc g lvl left) r.1/\r.2.1 k=some ⟨u,.cells (yL g lvl (jbc g lvl left).2.2.1)⟩/\(∀a,Off ub a->a≠k->r.2.1 a=ob a)/\ub<=r.2.2.2:=by
 obtain⟨d6,c6,T⟩:=ev41 hs;have hF:QX g=if jo (yv g) then (0,(yv g).map hd1) else (3,[]):=by unfold QX;rw[zb hw]
 have c5:=λ(tk:Nat->Bool) (base c0:Nat) (hu:ub<=c0) (c7:ZO) (h:c7 k=some ⟨u,.cells (yL g lvl left)⟩)=>evo56 (ub:=c0) hs hw h (c3.up hu) tk base;refine JI rfl zQ ?_;show wpC E Yf S31.body _ (Jw S31.res _);have w:=c3.ne;have i:∀m,ub<=m->¬2*m+1=k:=λm h e=>w m h e.symm;unfold jte at T;generalize hP:(λr:V×(ZO)×(Nat->Bool)×Nat=>AllV (jbc g lvl left) r.1/\r.2.1 k=some ⟨u,.cells (yL g lvl (jbc g lvl left).2.2.1)⟩/\(∀a,Off ub a->a≠k->r.2.1 a=ob a)/\ub<=r.2.2.2)=P;have v:∀r,P r ↔ (AllV (jbc g lvl left) r.1/\r.2.1 k=some ⟨u,.cells (yL g lvl (jbc g lvl left).2.2.1)⟩/\(∀a,Off ub a->a≠k->r.2.1 a=ob a)/\ub<=r.2.2.2):=λr=>by rw[<- hP]
 clear hP;conv in(occs:=*)S31=>all_goals cbv
 simp(disch:=try exact zD)[S31,j0,K,yL,w];refine jL c6 zH rfl zH ?_;refine jxk T λt1 d2=>?_;by_cases z:jo (yv g)=false;have L:jbc g lvl left=if left=0 then (([],[]),false,left,13) else (([],[]),false,left-1,0):=by unfold jbc;rw[zb (.inr z)]
 have Z:QX g=(3,[]):=by rw[hF,z];rfl
 rw[Z];by_cases F:left=0;simp(disch:=try exact zD)[j0,K,yL,w,i,F];refine⟨G,jb3 (l:=2*ub+1) (u:=ub) (x:=V.sl none true 0 []) (y:=V.sl none true 0 []) zS zS (by simp(disch:=try exact zD)[w,i]) ((v _).2 ⟨⟨none,none,true,true,by rw[L,zb F];simp⟩,by rw[L,zb F];simp(disch:=try exact zD)[K,w,i,yL],λa q j=>by have:=q.ne;simp(disch:=try exact zD)[this,j],by simp;omega⟩)⟩;have a0:(left==0)=false:=by simpa using F
 have b0:IntKind.i64.wrap (left-1)=left-1:=jv9 zO zO;simp(disch:=try exact zD)[j0,K,yL,w,i,F,a0,j6,V.cells,V.leaf,b0];refine⟨b6,G,jb3 (l:=2*ub+1) (u:=ub) (x:=V.sl none true 0 []) (y:=V.sl none true 0 []) zS zS (by simp(disch:=try exact zD)[w,i]) ((v _).2 ⟨⟨none,none,true,true,by rw[L,za F];simp⟩,by rw[L,za F];simp(disch:=try exact zD)[K,w,i,yL],λa q j=>by have:=q.ne;simp(disch:=try exact zD)[this,j],by simp;omega⟩)⟩;have z:jo (yv g)=true:=by simpa using z
 have Z:QX g=(0,(yv g).map hd1):=by rw[hF,z];rfl
 rw[Z];simp(disch:=try exact zD)[j0,K,yL,w,i];refine jW (vs:=[.ptr k u 0]) zS rfl rfl (c5 _ _ _ zO _ (by simp(disch:=try exact zD)[K,w,i,yL])) ?_;by_cases hb:jj2 g=true;have L:jbc g lvl left=if left=0 then (([],[]),false,left,13) else (([],[]),false,left-1,0):=by unfold jbc;rw[zb (.inl hb)]
 rw[hb];by_cases F:left=0;simp(disch:=try exact zD)[j0,K,yL,w,i,F];refine⟨G,jb3 (l:=2*ub+1) (u:=ub) (x:=V.sl none true 0 []) (y:=V.sl none true 0 []) zS zS (by simp(disch:=try exact zD)[w,i]) ((v _).2 ⟨⟨none,none,true,true,by rw[L,zb F];simp⟩,by rw[L,zb F];simp(disch:=try exact zD)[K,w,i,yL],λa q j=>by have:=q.ne;simp(disch:=try exact zD)[this,j],by simp;omega⟩)⟩;have a0:(left==0)=false:=by simpa using F
 have b0:IntKind.i64.wrap (left-1)=left-1:=jv9 zO zO;simp(disch:=try exact zD)[j0,K,yL,w,i,F,a0,j6,V.cells,V.leaf,b0];refine⟨b6,G,jb3 (l:=2*ub+1) (u:=ub) (x:=V.sl none true 0 []) (y:=V.sl none true 0 []) zS zS (by simp(disch:=try exact zD)[w,i]) ((v _).2 ⟨⟨none,none,true,true,by rw[L,za F];simp⟩,by rw[L,za F];simp(disch:=try exact zD)[K,w,i,yL],λa q j=>by have:=q.ne;simp(disch:=try exact zD)[this,j],by simp;omega⟩)⟩;have hb:jj2 g=false:=by simpa using hb
 have L:jbc g lvl left=Y0 g lvl (yF (yv g)) left:=by unfold jbc;rw[za (by rw[hb,z];simp)]
 rw[hb];simp(disch:=try exact zD)[j0,K,yL,w,i];refine jg λS p=>?_;have g0:S.tm 0=.ptr k u 0:=by rw[p];simp
 have g2:S.tm 2=.ptr (2*ub+1) ub 0:=by rw[p];simp
 have g5:S.tm 5=.sl t1 ((yv g).map hd1).isEmpty ((yv g).map hd1).length (((yv g).map hd1).flatMap yf):=by rw[p];simp
 have g7:S.tm 7=.bool true:=by rw[p];simp
 have gd:S.df=[]:=by rw[p];simp
 have gr:S.ro=ro:=by rw[p];simp
 have gn:ub+64<=S.nx:=by rw[p];first|omega|(simp;done)|(simp;omega)
 have gk:S.ob k=some ⟨u,.cells (yL g lvl left)⟩:=by rw[p];simp(disch:=try exact zD)[K,w,i,yL]
 have gc:S.ob (2*ub+1)=some ⟨ub,.cells [.sl none true 0 [],.sl none true 0 []]⟩:=by rw[p];simp(disch:=try exact zD)[w,i]
 have go:∀a,Off ub a->a≠k->S.ob a=ob a:=λa q j=>by rw[p];have:=q.ne;simp(disch:=try exact zD)[this,j]
 clear p;obtain⟨r0,b5⟩:=jdo z;obtain⟨J,hJ⟩:∃J:Nat->St->Prop,J=λn s=>∃c,s.ob k=some ⟨u,.cells (yL g lvl c)⟩/\s.ob (2*ub+1)=some ⟨ub,.cells [.sl none true 0 [],.sl none true 0 []]⟩/\ub+64<=s.nx/\(∀a,Off ub a->a≠k->s.ob a=ob a)/\0<=c/\c<=left/\MapsAt g lvl left n (s.tm 7) (s.tm 5) c:=⟨_,rfl⟩;refine Yl (n:=r0.length+1) [(3,5),(7,9),(38,64)] J rfl rfl ?_ ?_;rw[hJ];exact⟨left,gk,gc,gn,go,h0,dr _,.inl ⟨g7,(yv g).map hd1,r0,t1,_,[],rfl,b5,g5,λh=>dV.1 h,by rw[<- b5]⟩⟩;clear g5 g7 gk gc gn;intro n s b8 f;rw[hJ]at b8;obtain⟨c,sk,sc,sn,so,b7,d3,sM⟩:=b8;have s0:=(f.t 0 zS).trans g0;have s2:=(f.t 2 zS).trans g2;have sd:=f.d.trans gd;have sr:=f.r.trans gr;clear f;have I:¬k=2*ub+1:=w ub zK;have H:¬2*ub+1=k:=i ub zK;rcases sM with⟨s7,M,r,t,nl,c9,hn,Q,s5,d0,O⟩|⟨s7,O⟩
 have U:=jao hs hw M (by rw[Q];simp);have d8:=XE U;have d1:=j8y hs hw z Q;obtain⟨d5,c4,N⟩:=ev57 hs (b:=nl) M zO d0;rw[d1]at N;rw[Y0]at O;obtain⟨b1,b2,_⟩:=je4 (lvl:=lvl) hw U b7 (dr c);simp(disch:=try exact zD)[s0,s5,s7];refine jP (vs:=[.ptr k u 0,.sl t nl M.length (M.flatMap yf)]) zS rfl (sv58 (left:=c) hs h8 hR hw U (by simpa using sk) (by first|omega|(simp[sr];omega)) b7 zO) ?_;rintro v1 d7 d4 c8 ⟨⟨t3,n3,r1⟩,r2,r3⟩;simp only at r1 r2 r3;subst r1 r2;have q1:s.nx<=c8:=by first|omega|(simp at r3;omega)
 generalize Qt g lvl M c=X at *;obtain⟨o,x,e⟩:=X;simp only at O b1 b2;by_cases D:e=0;rw[zb D]at O;rw[L,O]at v;simp(disch:=try exact zD)[j0,D,s2,s5,sc,H,I,j6,V.cells,V.leaf,yL,yg];exact⟨by rw[sr];exact G,jb3 (l:=2*ub+1) (u:=ub) (x:=.sl t nl M.length (M.flatMap yf)) (y:=.sl t3 n3 o.length (o.flatMap yf)) (by simpa using sd) (by simp[s2]) (by simp(disch:=try exact zD)[H,I,yg]) ((v _).2 ⟨⟨t,t3,nl,n3,zS⟩,by simp(disch:=try exact zD)[H,I,yg,yL],λa q j=>by have:=q.ne;simp(disch:=try exact zD)[this,j,yg,so a q j],by simp;omega⟩)⟩;have b9:(e==0)=false:=by simpa using D
 by_cases B:e=13;rw[za D,zb B]at O;rw[L,O]at v;simp(disch:=try exact zD)[j0,D,b9,B,s2,s5,sc,H,I,j6,V.cells,V.leaf,yL,yg];exact⟨by rw[sr];exact G,jb3 (l:=2*ub+1) (u:=ub) (x:=.sl none true 0 []) (y:=.sl none true 0 []) (by simpa using sd) (by simp[s2]) (by simp(disch:=try exact zD)[H,I,yg]) ((v _).2 ⟨⟨none,none,true,true,zS⟩,by simp(disch:=try exact zD)[H,I,yg,yL],λa q j=>by have:=q.ne;simp(disch:=try exact zD)[this,j,yg,so a q j],by simp;omega⟩)⟩;have c2:(e==13)=false:=by simpa using B
 rw[za D,za B]at O;simp(disch:=try exact zD)[j0,D,b9,B,c2,s0,s2,s5,sc,H,I,j6,V.cells,V.leaf,yL,yg];refine jL c4 zH rfl zH ?_;cases r with
 |nil=>refine retSB (a1:=true) (n1:=0) (c1:=[]) N λt4 add=>?_;simp(disch:=try exact zD);refine⟨0,zO,?_⟩;rw[hJ];exact⟨c-x,by simp(disch:=try exact zD)[H,I,yg,yL],by simp(disch:=try exact zD)[H,I,yg,sc],by simp;omega,λa q j=>by simp[j,yg,so a q j],zO,zO,.inr ⟨zS,by rw[O];rfl⟩⟩
 |cons M' r=>refine retSB (a1:=M'.isEmpty) (n1:=M'.length) (c1:=M'.flatMap yf) N λt4 add=>?_;simp(disch:=try exact zD);refine⟨r.length+1,by rw[hn];simp,?_⟩;rw[hJ];exact⟨c-x,by simp(disch:=try exact zD)[H,I,yg,yL],by simp(disch:=try exact zD)[H,I,yg,sc],by simp;omega,λa q j=>by simp[j,yg,so a q j],zO,zO,.inl ⟨zS,M',r,t4,M'.isEmpty,c9++[M],rfl,by rw[Q];simp,zS,λh=>dV.1 h,O⟩⟩
 rw[L,O]at v;simp(disch:=try exact zD)[s7,j0,s2,sc,H,I,j6,V.cells,V.leaf];exact⟨by rw[sr];exact G,jb3 (l:=2*ub+1) (u:=ub) (x:=.sl none true 0 []) (y:=.sl none true 0 []) (by simpa using sd) (by simp[s2]) (by simp(disch:=try exact zD)[H,I,yg]) ((v _).2 ⟨⟨none,none,true,true,zS⟩,by simp(disch:=try exact zD)[H,I,yg,sk],λa q j=>by have:=q.ne;simp(disch:=try exact zD)[this,j,yg,so a q j],by simp;omega⟩)⟩
end
section
end
structure WC where
 g:Hist'
 M:List Int
 mn:Bool
 most:Int
 kW:Nat
 uW:Nat
 lo:Nat
def WC.Keep (c:WC) (ob ob':ZO) (ub:Nat):Prop:=∀key u cs,Off ub key->key≠c.kW->ob key=some ⟨u,.cells cs⟩->cs.all V.pureLeaf=true->ob' key=ob key
def WC.Keep.trans {c:WC}{ob d b:ZO}{ub f:Nat}(h:c.Keep ob d ub) (l:c.Keep d b f) (m:ub<=f):c.Keep ob b ub:=λa u cs j g k i=>by have e:=h a u cs j g k i;exact(l a u cs (j.up m) g (e.trans k) i).trans e
section
end
section
end
def j48 {g:Hist'}{lvl:Int}{M:List Int}(a:jX g=true) (b:Xl g M=true) (c:1<=lvl) (d:lvl<=2):jnt g lvl M=0:=by unfold jnt;rw[a,b];simp only[bN,ah,zc];rw[za zP]
section
end
def all_nn {g:Hist'}{lvl most:Int}(c:Small g) (a:jX g=true) (b:0<=most):0<=(jbc g lvl most).2.2.1/\(jbc g lvl most).2.2.1<=most:=by unfold jbc;split;split;simp only;omega;simp only;omega;exact jy0 a _ _ (jao c a) b
section
variable {g:Hist'}
def ev12 (z:Small g) (y:g.ts.length<=8) (hR:(yi g).length<=100) (lvl most:Int) (D:most<9223372036854775808):∃v,Ev E 12 [.int .i64 lvl,.agg (ya g),.int .i64 most] v/\DecR (Jn g lvl most) v:=by
 have G:=ev30 z;generalize L:DecR (Jn g lvl most)=P;have p:∀r,DecR (Jn g lvl most) r->P r:=λr h=>by rw[<- L];exact h
 clear L;refine X6 rfl zQ ?_;have a:∀{f:St}{e:Int},f.df=[]->(f.tm 6=.ptr 129 64 0/\f.ob 129=some ⟨64,.cells [.sl none true 0 [],.sl none true 0 []]⟩)->f.tm 7=.bool false->f.tm 8=.int .i64 0->f.tm 9=.int .i64 e->Jn g lvl most=(([],[]),false,0,e)->Ws [.cell 6 (some 2),.t 7,.t 8,.t 9] P .ret f:=by intro f e M ⟨h6,U⟩ Q y h9 w;exact j0p (c:=([],[])) (.int e) (λv h=>p v (by rw[w];exact h)) M h6 U Q y h9 (Xc _ none true 0 []) (Xc _ none true 0 [])
 conv in(occs:=*)F12=>all_goals cbv
 simp(disch:=try exact zD)[F12,j0,ya];refine jL G zI rfl zI ?_;cases i:jX g;simp(disch:=try exact zD)[j0,j6];exact a (e:=4) zS ⟨zS,zS⟩ zS zS zS (by simp[Jn,i]);by_cases o:lvl<1;simp(disch:=try exact zD)[j0,j6,o];exact a (e:=2) zS ⟨zS,zS⟩ zS zS zS (by simp[Jn,i,o]);by_cases x:lvl > 3;simp(disch:=try exact zD)[j0,j6,o,x];exact a (e:=2) zS ⟨zS,zS⟩ zS zS zS (by simp[Jn,i,x]);by_cases d:most<0;simp(disch:=try exact zD)[j0,j6,o,x,d];exact a (e:=2) zS ⟨zS,zS⟩ zS zS zS (by simp[Jn,i,d]);simp(disch:=try exact zD)[j0,j6,o,x,d];obtain⟨a0,a1⟩:=all_nn (lvl:=lvl) z i (show 0<=most by omega);have w:Jn g lvl most=((jbc g lvl most).1,(jbc g lvl most).2.1,most-(jbc g lvl most).2.2.1,(jbc g lvl most).2.2.2):=by unfold Jn;rw[za (by rw[i];decide),za zO]
 refine jP (vs:=[.ptr 3073 1536 0]) zS rfl (sv31 (lvl:=lvl) (left:=most) z y hR i (by simp;rfl) (λm d=>by omega) (ch _) (ch _) zO D) ?_;rintro v1 b0 O b ⟨⟨Z,N,n1,n2,I⟩,B,H,J⟩;simp only at I B H J;subst I;have K:=H 129 (λm d=>by omega) zQ;simp at J K;have s:IntKind.i64.wrap (most-(jbc g lvl most).2.2.1)=most-(jbc g lvl most).2.2.1:=jv9 zO zO;generalize jbc g lvl most=X at *;obtain⟨⟨S,T⟩,is,F,e⟩:=X;simp only at w B s;have q:∀m,b<=m->¬2*m+1=129:=λm d h=>by omega
 have n:∀m,b<=m->¬129=2*m+1:=λm d h=>by omega
 have k:∀m,b<=m->¬2*m+1=3073:=λm d h=>by omega
 have j:∀m,b<=m->¬3073=2*m+1:=λm d h=>by omega
 simp(disch:=try exact zD)[j0,B,K,yL,q,n,k,j,j6,V.cells,V.leaf,s];refine⟨by simp(disch:=try exact zD)[Jc,W6,QR,Qe,yy,yz,yP,uOf,Delta.wo,Delta.wt];rfl,?_⟩;exact j0p (c:=(S,T)) (.int e) (λv h=>p v (by rw[w];exact h)) (l:=129) (u:=64) zS zS (by simp(disch:=try exact zD)[q,n,k,j]) zS zS zS (Xc _ Z n1 _ _) (Xc _ N n2 _ _)
end
def jm9 {g:Hist'}{lvl:Int}:∀(L:List (List Int)) (left:Int),(Y0 g lvl L left).2.2.2=0\/(Y0 g lvl L left).2.2.2=13/\(Y0 g lvl L left).1=([],[])/\(Y0 g lvl L left).2.1=false
 |[],left=>.inl rfl
 |M::r,left=>by rw[Y0];split;exact .inl rfl;split;exact .inr ⟨rfl,rfl,rfl⟩;exact jm9 r _
def j5o (g:Hist') (lvl left:Int):(jbc g lvl left).2.2.2=0\/(jbc g lvl left).2.2.2=13/\(jbc g lvl left).1=([],[])/\(jbc g lvl left).2.1=false:=by unfold jbc;split;split;exact .inr ⟨rfl,rfl,rfl⟩;exact .inl rfl;exact jm9 _ _
section
end
section
def ev10 {g:Hist'}(c:Small g):Ev E 10 [.agg (ya g)] (.bool (!jX g||decide (Xq (yv g) 1<=200))):=by
 have a:=ev28 c;refine jQ rfl ?_;conv in(occs:=*)F10=>all_goals cbv
 simp[j0,ya];refine jL a zI rfl zI ?_;cases d:jX g;simp;exact j5 rfl zS rfl;have b:=ev17 c d;simp[j0];refine jL b zI rfl zI ?_;simp;exact j5 rfl zS rfl
end
def txt11:List UInt8:=[98,101,103,105,110,32,115,10,114,101,97,100,32,115,32,120,32,49,10,111,107,32,115]
def H11:Hist':=⟨false,[[115]],false,[[120]],false,[⟨0,1,false,[⟨false,0,⟨1,1⟩⟩]⟩]⟩
def k11:(yK E 100 noY).d 29 [.str txt11]=some (.tup [(.agg [(.sl (some (0,1)) false 1 [(.str [115])]),(.sl (some (1,1)) false 1 [(.str [120])]),(.sl (some (2,3)) false 1 [(.int .i64 0),(.int .i64 1),(.sl none false 1 [(.bool false),(.int .i64 0),(.int .i64 1),(.int .i64 1)])])]),(.int .i64 0),(.int .i64 0)]):=by kernel_rfl
def j7t:Small H11:=⟨zQ,zQ,zQ,zQ,zQ,zQ⟩
def j7s:Small H20:=⟨zQ,zQ,zQ,zQ,zQ,zQ⟩
def dec11:Jn H11 1 9=(([],[]),false,1,0):=by kernel_rfl
def dec20:Jn H20 3 9=(([-1],[0]),true,2,0):=by kernel_rfl
def ev11:Ev E 11 [] (.bool true):=by
 obtain⟨r,i,e⟩:=ev12 j7t zQ (by decide +kernel) 1 9 zQ;obtain⟨n,j,d⟩:=ev12 j7s zQ (by decide +kernel) 3 9 zQ;rw[dec11]at e;rw[dec20]at d;have c:=λa=>ev25 (a:=a) (b:=false) [0] [0] zQ zQ;have f:Ev E 29 [.str txt11] _:=⟨100,k11⟩;have g:Ev E 29 [.str txt20] _:=⟨100,k20⟩;refine jQ rfl ?_;conv in(occs:=*)F11=>all_goals cbv
 simp;refine jL f rfl rfl rfl ?_;simp[Xt,yx,V.toks,V.tok,ja9,Qa,Y4,Nat.blt,j0,j6];refine jL i (by simp[yl,yf,ya,H11,Jp,jl,yQ,V.strip,V.strip1]) rfl (by simp[yl,yf,ya]) ?_;refine jxl e λm k q s add=>?_;simp[j0,j6,V.cells,V.leaf];refine jL g rfl rfl rfl ?_;simp[Xt,yx,V.toks,V.tok,ja9,Qa,Y4,Nat.blt,j0,j6];refine jL j (by simp[yl,yf,ya,H20,Jp,jl,yQ,V.strip,V.strip1]) rfl (by simp[yl,yf,ya]) ?_;refine jxl d λl o p h add=>?_;simp[j0,j6,V.cells,V.leaf];refine jN (cs:=[.int .i64 0]) (by simp[j6]) rfl rfl ?_;simp[j6];refine jL (c h) (by simp[yl,yf]) rfl (by simp[yl,yf]) ?_;simp;exact j5 rfl zS rfl
def j4s (g:Hist') (M:List Int) (most:Int):(jbi g M most).1.length<=g.ts.length:=by
 unfold jbi;split;simp;split;simp;rename_i c b;have a:Xl g M=true:=by cases a:Xl g M;simp[a]at b;rfl
 split;simp;cases h:(jy g M most).1 with
 |none=>simp
 |some l=>have:=(Y7 (jd1 a h)).length_eq;have:=YM g;simp only;omega
def j4z (h:Hist'):∀t∈(yC h).ts,t.ops.length<=6:=by intro t a;unfold yC at a;split at a;cases a;obtain⟨x,_,rfl⟩:=aE.1 a;simp only[jlq,ai];omega
def jip {g:Hist'}(h:∀t∈g.ts,t.ops.length<=6):∀i,(XC g i).length<=i*6
 |0=>ch _
 |i+1=>by have:=jip h i;simp only[XC,aw];split;rename_i t a;have b:=Yq g i t.ops.length;have c:=h t (aH a);split;omega;simp only[ct];omega;simp only[ct];omega
def jxq (h:Hist'):(yi (yC h)).length<=100:=by have b:=jip (j4z h) (yC h).ts.length;have a:=j0g h;unfold yi;have:(yC h).ts.length*6<=8*6:=bf _ a;omega
def dec_len {g:Hist'}(b:Small g) (k:g.ts.length<=8) (lvl most:Int):(Jn g lvl most).1.1.length<=1000000000/\(Jn g lvl most).1.2.length<=1000000000:=by
 have f:∀(L:List (List Int)) (left:Int),(∀M∈L,M.length<=1000000000)->(Y0 g lvl L left).1.1.length<=1000000000/\(Y0 g lvl L left).1.2.length<=1000000000:=by
  intro L;induction L with
  |nil=>intro left _;simp[Y0]
  |cons M r j=>intro left h;rw[Y0];split;refine⟨h M (aK ..),?_⟩;simp only;unfold Qt;split;have:=j4s g M left;omega;split;simp;unfold jug;split;split;simp;rename_i D e;have c:=Qj _ _ D e;simp only;refine bL (cg _ _) ?_;rw[JY,c];simp;omega;simp;split;simp;exact j _ λM i=>h M (aS _ i)
 unfold Jn;split;simp;split;simp;rename_i a _;have a:jX g=true:=by cases h:jX g;exact zf h a;rfl
 simp only;unfold jbc;split;split<;>simp;refine f _ _ λM d=>?_;have c:=XE (jao b a M d);have l:=XZ b;omega
end Go.Pv.T
namespace Go.Pv.T
open Go Go.Pv
end Go.Pv.T
namespace Go.Pv.T
open Go Go.Pv
def jfg {O:List Int}{x:Int}(h:x ∉ O):atO O x = -1:=by have a:=atO_neg.2 h;unfold atO at a ⊢;rcases jg2 x O 0 with h2|h2;exact h2;omega
def hasB (O:List Int) (L:List P2):Bool:=L.all λz=>decide (atO O z.1<atO O z.2)
section
variable {g:Hist'}{M O:List Int}{lvl:Int}
def j04 {t:Int}(b:t∈ym g) (c:badH g t≠[]):JX g lvl M O=false:=by
 obtain⟨i,a,rfl⟩:=ba b;cases h:JX g lvl M O;rfl;unfold JX at h;rw[ab,andTo_iff]at h;have:=h.1 i a;unfold sesB at this;rw[ab]at this;have e:(ym g).getD i 0=(ym g)[i]:=by simp[am,aa a]
 rw[e,dV]at this;exact zf this.1 c
def j05 (b:JC g O=true) {k:Nat}(h:J8 g k=true):0<=atO O (k:Int):=by have a:(k:Int)∈O:=(Y7 b).mem_iff.2 (comL_mem.2 ⟨k,rfl,h⟩);rcases iD (atO O (k:Int)) 0 with h1|h1;exact zf a (atO_neg.1 h1);exact h1
def jry (a:JC g O=true) {x:Int}(h:x<0\/(g.ts.length:Int)<=x):x ∉ O:=λc=>by obtain⟨k,rfl,b⟩:=comL_mem.1 (jgg a c);have:=JZ b;omega
def jc9 (a:JC g O=true) (m:Int):atO O (Jl g m)=atO O m:=by by_cases h:m<0;unfold Jl;rw[zb h,jfg (jry a (.inr (dr _))),jfg (jry a (.inl h))];unfold Jl;rw[za h]
def jmb (H:Xl g M=true) (f:JC g O=true) (v:∀t∈ym g,badH g t=[]) (J:lvl≠3):hasB O (J0 (g.ts.length+1) (Qd g lvl M))=JX g lvl M O:=by
 have I:=XE H;have u:∀p,WZ g lvl M O p=WZ g lvl M [] p:=λp=>j2m J;rw[bz];have j:=all_sat g lvl M;have b:∀z,z∈J0 (g.ts.length+1) (Qd g lvl M) ↔ (∃i,i<(ym g).length/\z∈jv5 g i)\/∃i,i<(yi g).length/\(z=jov g M i\/z∈askE g M (WH g lvl M i) i):=λz=>by rw[<- Qo H j,compP_mem,(XN _).mem_iff];exact j z
 unfold hasB JX;rw[av,ab,andTo_iff,andTo_iff];constructor;intro h;have G:∀z,z∈J0 (g.ts.length+1) (Qd g lvl M)->atO O z.1<atO O z.2:=λz c=>by simpa using h z c
 refine⟨λi a=>?_,λi a=>?_⟩;unfold sesB;have e:(ym g).getD i 0=(ym g)[i]:=by simp[am,aa a]
 rw[ab];refine⟨by rw[e,v _ (au a)];rfl,?_⟩;rw[andTo_iff];intro k l;unfold jdd;cases s:yD g ((ym g).getD k 0).toNat==yD g ((ym g).getD i 0).toNat;rfl;rw[bN,bQ,ze];refine G ((ym g).getD k 0,(ym g).getD i 0) ((b _).2 (.inl ⟨i,a,?_⟩));unfold jv5;exact aS _ (aE.2 ⟨k,bu.2 ⟨aM.2 l,s⟩,rfl⟩);have d:i<M.length:=zO;unfold jei;rw[aa a,aa d];have o:M.getD i 0=M[i]:=by simp[am,aa d]
 have q:(yi g).getD i (0,0)=(yi g)[i]:=by simp[am,aa a]
 simp only[ab,ze];refine⟨?_,?_⟩;have:=G (jov g M i) ((b _).2 (.inr ⟨i,a,.inl rfl⟩));unfold jov at this;rw[o,q]at this;simp only at this;rw[jc9 f]at this;exact .inr this;rw[av];intro t w;rw[u]at w;unfold okB;by_cases x:t=M[i];simp[x];cases F:X9 g t (We g (yi g)[i]);simp;have:=G (t,Jl g (M.getD i 0)) ((b _).2 (.inr ⟨i,a,.inr ?_⟩));simp only at this;rw[o,jc9 f]at this;simp[this];unfold askE WH;rw[o,q];refine aE.2 ⟨t,bu.2 ⟨w,?_⟩,rfl⟩;rw[F];simpa using x;rintro⟨x,F⟩ z c;rw[ze];rcases(b z).1 c with⟨i,a,c⟩|⟨i,a,c⟩;have s:=x i a;unfold sesB at s;rw[ab,andTo_iff]at s;unfold jv5 at c;rcases bt.1 c with rfl|c;obtain⟨k,l,n,_⟩:=js2 a;simp only;rw[l,jfg (jry f (.inr (dr _)))];have:=j05 f n;omega;obtain⟨k,l,rfl⟩:=aE.1 c;obtain⟨D,y⟩:=bu.1 l;have:=s.2 k (aM.1 D);unfold jdd at this;rw[y]at this;simpa using this;have d:i<M.length:=zO;have r:=F i a;unfold jei at r;rw[aa a,aa d]at r;have o:M.getD i 0=M[i]:=by simp[am,aa d]
 have q:(yi g).getD i (0,0)=(yi g)[i]:=by simp[am,aa a]
 simp only[ab,ze]at r;rcases c with rfl|c;unfold jov;rw[o,q];simp only;rw[jc9 f];rcases r.1 with h|h;obtain⟨k,l,n,_⟩:=jej a;rw[q]at l;rw[l,jfg (jry f (.inl h))];have:=j05 f n;omega;exact h;unfold askE WH at c;rw[o,q]at c;obtain⟨t,w,rfl⟩:=aE.1 c;obtain⟨B,m⟩:=bu.1 w;simp only;rw[jc9 f];have:=av.1 r.2 t (by rw[u];exact B);unfold okB at this;simp only[ab,bne_iff_ne,ne_eq]at m;rw[m.1]at this;simpa[m.2] using this
end
end Go.Pv.T
namespace Go.Pv.T
open Go Go.Pv
end Go.Pv.T
namespace Go.Pv.T
open Go Go.Pv
section
end
section
end
section
end
def wk (n:Nat) (p:Nat->Nat->Bool) (a:Nat):Nat->Nat->Bool
 |0,x=>p x a
 |k+1,x=>(List.range n).any λb=>decide (a<b)&&(p x b&&wk n p a k b)
section
end
section
end
section
variable {n a:Nat}{p:Nat->Nat->Bool}{d:List Int}
def len_le {R:List Nat}(c:R.Nodup) (h:∀x∈R,x<n):R.length<=n:=by have:R.length<=(List.range n).length:=jpr c λx b=>aM.2 (h x b);simpa using this
end
section
variable {n:Nat}{p:Nat->Nat->Bool}{D:Nat->List Int}
def jof (n:Nat) (p:Nat->Nat->Bool):Prop:=∃a,a<n/\∃k,wk n p a k a=true
def jho:∀(j m:Nat),n-m=j->∀U:Nat->Prop,(∀x,U x->m<=x/\x<n)->(∃x,U x)->(∀x,U x->∃y,U y/\p y x=true)->jof n p
 |0,m,hj,U,hU,⟨x,l⟩,_=>by have:=hU x l;omega
 |j+1,m,hj,U,hU,hne,hpr=>by
  by_cases o:U m;by_cases i:∃k,wk n p m k m=true;exact⟨m,(hU m o).2,i⟩;have c:∀x k,x<n->m<x->wk n p m k x=true->∀y,p y x=true->wk n p m (k+1) y=true:=λx k l r g y b=>by rw[wk,bD];exact⟨x,aM.2 l,by simp only[r,b,g,decide_true,di]⟩
  refine jho j (m+1) zO (λx=>U x/\m<x/\∃k,wk n p m k x=true) (λx h=>⟨h.2.1,(hU x h.1).2⟩) ?_ λx h=>?_;obtain⟨y,b,f⟩:=hpr m o;have q:y≠m:=λe=>i ⟨0,by rw[e]at f;exact f⟩;exact⟨y,b,by have:=(hU y b).1;omega,0,f⟩;obtain⟨s,t,k,u⟩:=h;obtain⟨y,b,f⟩:=hpr x s;have g:=c x k (hU x s).2 t u y f;have q:y≠m:=λe=>i ⟨k+1,by rw[e]at g;exact g⟩;exact⟨y,⟨b,by have:=(hU y b).1;omega,k+1,g⟩,f⟩;exact jho j (m+1) zO U (λx h=>⟨by have:=(hU x h).1;have:x≠m:=λe=>o (by rw[<- e];exact h);omega,(hU x h).2⟩) hne hpr
end
section
variable {n:Nat}{p:Nat->Nat->Bool}
def jod (n:Nat) (p:Nat->Nat->Bool) (D:List Nat):Prop:=D.Nodup/\(∀x∈D,x<n)/\∀i (h:i<D.length) x,x<n->p x D[i]=true->x∈D.take i
def jou {D:List Nat}{a:Nat}(h:jod n p D) (q:a<n) (f:WK n p D a=true):jod n p (D++[a]):=by
 obtain⟨r,j,l⟩:=h;unfold WK at f;simp only[ab,bG,av,aM,bq]at f;obtain⟨g,o⟩:=f;have d:a ∉ D:=λe=>by rw[bx.2 e]at g;cases g
 refine⟨?_,λx b=>?_,λi m x b c=>?_⟩;rw[cU];refine⟨r,zS,λx b y k e=>?_⟩;rw[ag.1 k]at e;subst e;exact d b;rcases aQ.1 b with h|h;exact j x h;rw[ag.1 h];exact q;by_cases e:i<D.length;rw[dw e]at c;rw[dX zO];exact l i e x b c;have:i=D.length:=by simp at m;omega
 subst this;rw[List.getElem_concat_length rfl]at c;rw[dD rfl];rcases o x b with h|h;rw[c]at h;cases h;exact bx.1 h
def Qi:∀(k:Nat) (D:List Nat),jod n p D->∀b,WW n p k D=some b->jod n p b
 |0,D,h,b,e=>by
  have:D=b:=by simpa[WW] using e
  subst this;exact h
 |k+1,D,h,b,e=>by
  unfold WW at e;cases c:(List.range n).find? (WK n p D) with
  |none=>rw[c]at e;cases e
  |some a=>rw[c]at e;exact Qi k (D++[a]) (jou h (aM.1 (fD c)) (List.find?_some c)) b e
def jot {D:List Nat}(h:jod n p D) (l:∀x,x<n->x∈D):¬jof n p:=by
 rintro⟨a,r,k,G⟩;obtain⟨I,_,F⟩:=h;have c:∀x,x<n->∀y,p y x=true->y<n->∀i (g:i<D.length),D[i]=x->∃j,∃f:j<D.length,D[j]=y/\j<i:=λx _ y w B i g e=>by have:=F i g y B (by rw[e];exact w);obtain⟨j,f,t⟩:=cw.1 this;rw[ai]at f;refine⟨j,zO,?_,zO⟩;rw[<- t,dB]
 obtain⟨i,g,v⟩:=cw.1 (l a r);have d:∀k x,x<n->wk n p a k x=true->∃j,∃f:j<D.length,D[j]=x/\j<i:=by
  intro k;induction k with
  |zero=>exact λx q h=>c a r x h q i g v
  |succ k H=>intro x q h;rw[wk,bD]at h;obtain⟨b,u,o⟩:=h;simp only[ab,ze]at o;obtain⟨j,f,e,s⟩:=H b (aM.1 u) o.2.2;obtain⟨z,m,t,J⟩:=c b (aM.1 u) x o.2.1 q j f e;exact⟨z,m,t,zO⟩
 obtain⟨j,f,e,s⟩:=d k a r G;have:j=i:=jar I f g (by rw[e,v]);omega
def jh7:∀(k:Nat) (D:List Nat),WW n p k D=none->∃b,(∀a,a<n->WK n p b a=false)/\b.length<D.length+k
 |0,D,e=>by simp[WW]at e
 |k+1,D,e=>by
  unfold WW at e;cases c:(List.range n).find? (WK n p D) with
  |none=>refine⟨D,λa d=>?_,zO⟩;rw[List.find?_eq_none]at c;have:=c a (aM.2 d);simpa using this
  |some a=>rw[c]at e;obtain⟨b,g,f⟩:=jh7 k (D++[a]) e;exact⟨b,g,by simp at f;omega⟩
def jtt {D:List Nat}(h:∀a,a<n->WK n p D a=false) (o:D.length<n):jof n p:=by
 have i:∃a,a<n/\a ∉ D:=by refine dt λf=>?_;have m:∀x∈List.range n,x∈D:=λx c=>dt λh=>f ⟨x,aM.1 c,h⟩;have:=jpr ib m;simp at this;omega
 refine jho n 0 zO (λx=>x<n/\x ∉ D) (λx h=>⟨ch _,h.1⟩) i λx c=>?_;have d:=h x c.1;unfold WK at d;have j:D.contains x=false:=by cases j:D.contains x;rfl;exact zf (bx.1 j) c.2
 rw[j,cp,bF,fF]at d;obtain⟨y,l,k⟩:=d;have b:¬(p y x=false\/D.contains y=true):=by simpa using k
 refine⟨y,⟨aM.1 l,λe=>b (.inr (bx.2 e))⟩,?_⟩;cases g:p y x;exact zf (.inl g) b;rfl
def topo_ring:(∃D,WW n p n []=some D) ↔ ¬jof n p:=by
 constructor;rintro⟨D,h⟩;have b:=Qi n [] ⟨dH,λx h=>(by cases h),λi h=>(by simp at h)⟩ D h;have d:=Qj n [] D h;refine jot b λx l=>dt λa=>?_;have c:(x::D).Nodup:=cX.2 ⟨a,b.1⟩;have:=len_le c λy g=>by rcases bt.1 g with e|h;rw[e];exact l;exact b.2.1 y h
 simp at this d;omega;intro k;cases h:WW n p n [] with
 |some D=>exact⟨D,rfl⟩
 |none=>obtain⟨m,j,f⟩:=jh7 n [] h;exact zf (jtt j (by simpa using f)) k
end
section
variable {g:Hist'}{M:List Int}
def ev19 (L:Small g) (H:Xl g M=true) {mn:Bool}(lvl:Int):∀(n:Nat) (a left:List Int) (m h:Bool),left.length=n->n<=5->a.length+n<=1000->(a++left).Perm (ym g) ->
 Ev E 19 [.int .i64 lvl,.agg (ya g),yl mn yf M,yl m yf a,yl h yf left] (.bool (Yy (JX g lvl M) [] n a left))
 |0,a,left,m,h,hl,h5,hh,hp=>by
  have:left=[]:=cz.1 hl;subst this;rw[aP]at hp;have w:=ev36 L (nl:=mn) (on:=m) lvl H ((jcm (Xa H)).2 hp);refine jQ rfl ?_;conv in(occs:=*)F19=>all_goals cbv
  simp[ya,yl,j0];refine jL w zH rfl zH ?_;rw[Yy];simp;exact j5 zS zS rfl
 |n+1,a,left,m,h,hl,h5,hh,hp=>by
  have ih:=ev19 L H (mn:=mn) lvl n;refine jQ rfl ?_;have x:((left.length:Int)==0)=false:=by rw[hl];simp;omega
  conv in(occs:=*)F19=>all_goals cbv
  simp[ya,yl,x];have O:Yy (JX g lvl M) [] (n+1) a left=Qc (λi=>Yy (JX g lvl M) [] n (a++[left.getD i 0]) (left.eraseIdx i)) left.length:=rfl;rw[O];obtain⟨P,N⟩:∃P:Nat->Bool,P=λi=>Yy (JX g lvl M) [] n (a++[left.getD i 0]) (left.eraseIdx i):=⟨_,rfl⟩;rw[<- N];refine j9 [(10,12),(22,50)] left.length (λi s=>s.tm 11=.int .i64 i/\s.ob 12=some ⟨0,.cells (ya g)⟩/\Qc P i=true) rfl rfl ⟨zS,by simp[ya,yl],rfl⟩ ?_;rintro i s hi ⟨e,sB,K⟩ f;have X:s.tm 0=.int .i64 lvl:=by rw[f.t 0 zS];simp
  have S:s.tm 2=yl mn yf M:=by rw[f.t 2 zS];simp[yl]
  have s3:s.tm 3=yl m yf a:=by rw[f.t 3 zS];simp[yl]
  have o:s.tm 4=yl h yf left:=by rw[f.t 4 zS];simp[yl]
  have v:s.tm 6=.ptr 12 0 0:=by rw[f.t 6 zS];simp
  have J:s.df=[]:=by rw[f.d];simp
  have sr:s.ro=0:=by rw[f.r];simp
  clear f;by_cases c:i<left.length;have F:=jb c zO;have j:IntKind.i64.wrap ((i:Int)+1)=((i+1:Nat):Int):=by simpa using F
  have B:=joy j8 none h left (fV c);have G:Y5 1 (some (.int .i64 ((i:Int)+1))) none (.sl none h left.length (left.flatMap yf))=some (.sl none h (left.drop (i+1)).length ((left.drop (i+1)).flatMap yf)):=j7u j8 none h left (show i+1<=left.length from c);have ia:=jt left c;have I:=ev38t h (left.take i) (by rw[ai];omega);have y:=ev38t m a zO;have z:P i=Yy (JX g lvl M) [] n (a++[left[i]]) (left.eraseIdx i):=by rw[N];simp[am,aa c]
  have hT:(left.take i).length<=1000:=by rw[ai];omega
  have hD:(left.drop (i+1)).length<=1000:=by rw[aY];omega
  have q:(left.eraseIdx i).length=n:=by rw[ir c];omega
  have k:=ih (a++[left[i]]) (left.eraseIdx i) false false q zO zP (by
   refine List.Perm.trans ?_ hp;rw[bj];exact eP a (QO left i c))
  rw[<- z]at k;rw[List.eraseIdx_eq_take_drop_succ]at k;generalize left.take i=T at *;generalize left.drop (i+1)=D at *;have hx:(D.flatMap yf).all V.pureLeaf=true:=by simp[yf,V.pureLeaf]
  simp(disch:=try exact zD)[e,o,c,yl,B];refine j6f I (by simp[yl]) rfl (by simp[yl]) λZ _=>?_;simp(disch:=try exact zD)[e,o,c,yl,j,G];refine jz1 (f:=yf) (l:=D) (u:=Z) (n:=T.length) (cs:=T.flatMap yf) zS (by simp[jf]) (by simp[jF,j4 j8]) (by rw[j4 j8]) j8 zQ hx zO zO λb=>?_;simp(disch:=try exact zD)[X,S,s3,o,v,j0,sB,ya];refine j6f y (by simp[yl]) rfl (by simp[yl]) λU Q=>?_;simp(disch:=try exact zD)[e,o,c,yl,JS j8,ia];refine jau (cs:=[.int .i64 left[i]]) (by simp[j6]) rfl rfl ?_;simp;refine jz0 (u:=U) (n:=a.length) (cs:=a.flatMap yf) (ys:=[.int .i64 left[i]]) zS (by simp[jf]) (by simp[jF]) zS (by rw[j4 j8]) zQ rfl zP zP ?_;simp(disch:=try exact zD);refine Jb k (by simp[ya,yl,yf]) rfl zH ?_;cases p:P i;simp;refine⟨by simp[Jc,W6,QR,Qe,yy,yz,yP,uOf,Delta.wo,Delta.wt,v];exact Ju zO,?_⟩;refine j5 (by simp[J]) ?_ rfl;simp[XL c p];simp;refine⟨by simp[Jc,W6,QR,Qe,yy,yz,yP,uOf,Delta.wo,Delta.wt,v];exact Ju zO,?_⟩;simp(disch:=try exact zD)[e,j,c];exact⟨by simpa[ya,yl] using sB,by rw[Qc,K,p];rfl⟩;have:i=left.length:=zO;subst this;simp[e,o,yl];exact j5 (by simp[J]) (by simp[K]) rfl
end
section
variable {g:Hist'}{M O:List Int}{lvl:Int}
def jr0 (c:Xl g M=true) {i:Nat}(h:i<(yi g).length) {a:Nat}(e:Jl g (M.getD i 0)=(a:Int)):a=g.ts.length\/J8 g a=true:=by unfold Jl at e;rcases jr8 c h with b|⟨k,b,d,_⟩;rw[zb b]at e;exact .inl zO;rw[za zO,b]at e;have:k=a:=zO;exact .inr (this▸d)
def j2n (l:Xl g M=true) {a b:Nat}(h:Qd g lvl M a b=true):(a=g.ts.length\/J8 g a=true)/\(J8 g b=true\/b=g.ts.length/\J8 g a=true):=by unfold Qd at h;simp only[bq,ab,zh,bD,aM]at h;rcases h with⟨c,f⟩|⟨⟨⟨c,f⟩,_⟩,_⟩|⟨i,j,h⟩;exact⟨.inl c,.inl f⟩;exact⟨.inr c,.inl f⟩;rcases h with h|h;have h:jov g M i=((a:Int),(b:Int)):=h;unfold jov at h;obtain⟨m,n⟩:=Prod.mk.inj h;obtain⟨k,r,d,_⟩:=jej j;have:k=b:=zO;exact⟨jr0 l j m,.inl (this▸d)⟩;have h:=bx.1 h;unfold askE at h;obtain⟨t,o,e⟩:=aE.1 h;obtain⟨m,n⟩:=Prod.mk.inj e;obtain⟨c,_⟩:=bu.1 o;unfold WH WZ at c;obtain⟨k,r,s,p⟩:=filTo_mem.1 c;have d:=j2l l p;have:k=a:=zO;subst this;refine⟨.inr d,?_⟩;rcases jr0 l j n with q|q;exact .inr ⟨q,d⟩;exact .inl q
def jxb {b:Nat}(h:J8 g b=true):Qd g lvl M g.ts.length b=true:=by unfold Qd;simp[h]
def j4r {n:Nat}{D:List Nat}(j:D.Nodup) (d:D.length=n) (h:∀x∈D,x<n):∀x,x<n->x∈D:=by
 intro x i;have c:=QE (O:=yq D) (C:=yq (List.range n)) (jdz j) (λy f=>by
  obtain⟨a,b,rfl⟩:=aE.1 f;exact aE.2 ⟨a,aM.2 (h a b),rfl⟩) (by rw[JY,JY,List.length_range,d])
 have:=c.mem_iff.2 (aE.2 ⟨x,aM.2 i,rfl⟩);obtain⟨a,b,e⟩:=aE.1 this;have:a=x:=zO;exact this▸b
def jtr (hm:Xl g M=true) {D:List Nat}(h:jdh (g.ts.length+1) (J0 (g.ts.length+1) (Qd g lvl M))=some D) :
 JC g ((yq D).filter λx=>(ym g).contains x)=true/\hasB ((yq D).filter λx=>(ym g).contains x) (J0 (g.ts.length+1) (Qd g lvl M))=true:=by
 unfold jdh at h;obtain⟨m,h2,h3⟩:=Qi _ [] ⟨dH,zS,zS⟩ D h;have hl:=Qj _ _ D h;simp only[ct,bK]at hl;have d:=j4r m hl h2;have c:((yq D).filter λx=>(ym g).contains x).Nodup:=(jdz m).filter _;refine⟨(jcm (Xa hm)).2 ((List.perm_ext_iff_of_nodup c (jjt g)).2 λx=>?_),?_⟩;rw[bu,bx];refine⟨λh=>h.2,λh=>⟨?_,h⟩⟩;obtain⟨k,rfl,S⟩:=comL_mem.1 h;exact aE.2 ⟨k,d k (gE (JZ S)),rfl⟩;unfold hasB;rw[av];intro z hz;obtain⟨a,b,u,o,v,rfl⟩:=edgesOf_mem.1 hz;rw[ze];simp only;have p:∀a b,a<g.ts.length+1->b<g.ts.length+1->Qd g lvl M a b=true->∃X Y,D=X++b::Y/\a∈X:=by intro a b u o v;obtain⟨i,s,e⟩:=cw.1 (d b o);refine⟨D.take i,D.drop (i+1),?_,h3 i s a u ?_⟩;rw[<- e,List.getElem_cons_drop,du];rw[e];exact bx.2 (edgesOf_mem.2 ⟨a,b,u,o,v,rfl⟩)
 obtain⟨X,Y,J,l⟩:=p a b u o v;have I:b ∉ X:=by rw[J,cU]at m;exact λe=>m.2.2 b e b zS rfl
 rcases(j2n hm v).2 with S|⟨T,H⟩;have Z:((yq D).filter λx=>(ym g).contains x)=((yq X).filter λx=>(ym g).contains x)++(b:Int)::((yq Y).filter λx=>(ym g).contains x):=by have w:(ym g).contains (b:Int)=true:=bx.2 (comL_mem.2 ⟨b,rfl,S⟩);rw[J];simp only[yq,bA,bc,cl,cE,w,zd]
 rw[Z]at c ⊢;generalize ((yq Y).filter λx=>(ym g).contains x)=Y' at *;obtain⟨n,r⟩:∃n,n=(yq X).filter λx=>(ym g).contains x:=⟨_,rfl⟩;rw[<- r]at c ⊢;have L:=jhp c (k:=n.length) zS;rw[dL zK]at L;simp only[fU,List.getElem_cons_zero]at L;rw[L];by_cases f:(a:Int)∈n;obtain⟨j,hj,ej⟩:=cw.1 f;have ea:=jhp c (k:=j) zP;rw[dw hj,ej]at ea;rw[ea];omega;have P:(a:Int) ∉ n++(b:Int)::Y':=by
  rw[aQ,bt];rintro(q|q|q);exact f q;have:a=b:=zO;exact I (this▸l);refine f ?_;rw[r];refine bu.2 ⟨aE.2 ⟨a,l,rfl⟩,?_⟩;have t:(a:Int)∈(yq D).filter λx=>(ym g).contains x:=by rw[Z];exact bU _ (aS _ q)
  exact(bu.1 t).2
 have:=atO_neg.2 P;omega;exfalso;subst T;obtain⟨X2,Y2,N,G⟩:=p g.ts.length a o u (jxb H);have U:∀{X Y:List Nat}{x y:Nat},D=X++y::Y->x∈X->∃i j,∃s:i<D.length,∃hj:j<D.length,D[i]=x/\D[j]=y/\i<j:=by intro X Y x y e hx;obtain⟨i,s,ei⟩:=cw.1 hx;refine⟨i,X.length,by rw[e];simp;omega,by rw[e];simp,?_,?_,s⟩;simp only[e];rw[dw s,ei];simp only[e];rw[dL zK];simp
 obtain⟨i1,j1,B,F,e1,e2,l1⟩:=U J l;obtain⟨i2,j2,K,Q,e3,e4,l2⟩:=U N G;have q1:=jar m B Q (by rw[e1,e4]);have q2:=jar m F K (by rw[e2,e3]);omega
def j8a {n:Nat}{p:Nat->Nat->Bool}(f:Nat->Int) (h:∀a b,a<n->b<n->p a b=true->f a<f b):¬jof n p:=by
 rintro⟨a,j,k,m⟩;have d:∀k x,x<n->wk n p a k x=true->f x<f a:=by
  intro k;induction k with
  |zero=>exact λx e c=>h x a e j c
  |succ k o=>intro x e c;unfold wk at c;simp only[bD,aM,ab]at c;obtain⟨b,i,_,q,l⟩:=c;have:=h x b e i q;have:=o b i l;omega
 have:=d k a j m;omega
def juf (h:hasB O (J0 (g.ts.length+1) (Qd g lvl M))=true):jdh (g.ts.length+1) (J0 (g.ts.length+1) (Qd g lvl M))≠none:=by
 intro c;unfold jdh at c;have e:=j8a (n:=g.ts.length+1) (p:=λ(a b:Nat)=>(J0 (g.ts.length+1) (Qd g lvl M)).contains ((a:Int),(b:Int))) (λa=>atO O a) λa b _ _ d=>by unfold hasB at h;have:=av.1 h _ (bx.1 d);simpa using this
 obtain⟨D,f⟩:=topo_ring.2 e;rw[f]at c;cases c
end
end Go.Pv.T
