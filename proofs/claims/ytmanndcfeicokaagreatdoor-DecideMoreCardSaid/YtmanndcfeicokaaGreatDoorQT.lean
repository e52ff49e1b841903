/- Part. -/
import Derived.Test.YtmanndcfeicokaaGreatDoorQS
set_option maxRecDepth 100000
set_option maxHeartbeats 8000000
set_option linter.all false
namespace Go.Pv.T
open Go Go.Pv
def j9k {Yf:YF}{l u:Nat}{T:List Val'}(hT:T.length<=100000) {ob:ZO}{tk:Nat->Bool}{ro base ub:Nat}(ho:ob l=some ⟨u,.cells (T.flatMap J9)⟩) (c0:ro<=u) :
 ∃r,EvS E Yf.y 121 [.osl l u 0 T.length 2] ob tk ro base ub r/\CompP l u T.length (JM T T.length) ob tk ub r:=by
 refine J7 rfl zQ ?_;show wpC E Yf S121.body _ (Jd S121.res _);have b7:=j3 Qe T;by_cases h2:T.length<2
 ·have hc:JM T T.length=T:=by
   match T,h2 with
   |[],_=>rfl
   |[x],_=>rfl
   |_::_::_,h=>simp at h;omega
  have Z:(T.length:Int)<2:=zO;rw[hc];conv in(occs:=*)S121=>all_goals cbv
  simp[Z];exact JQ zS ⟨zS,⟨_,by simpa using ho,b7,zK,aM zO⟩,λa h=>by simp,zS,by simp;omega⟩
 have Z:¬(T.length:Int)<2:=zO;conv in(occs:=*)S121=>all_goals cbv
 simp[Z];refine j7 [(2,5),(10,59)] (T.length-1) (λk s=>s.tm 3=.int .i64 ((1+k:Nat):Int)/\JM T (1+k)=T.take (1+k)/\s.ob=ob/\s.tk=tk/\ub<=s.nx) rfl rfl ⟨zS,?_,zS,zS,by simp;omega⟩ ?_;rw[br,jfw (T:=T) (j:=0) zO (λh=>zf h zO),aw zO];rfl;rintro k s hk ⟨Q,c,b,J,d4⟩ f;have f0:s.tm 0=.osl l u 0 T.length 2:=by rw[f.t 0 zS];simp
 have fd:s.df=[]:=by rw[f.d];simp
 have fr:s.ro=ro:=by rw[f.r];simp
 clear f;obtain⟨q,hq⟩:∃q,1+k=q:=⟨_,rfl⟩;rw[hq]at Q c;by_cases o:q<T.length;have c4:(q:Int)<T.length:=zO;have hw:=jc o zO;have b8:IntKind.i64.wrap ((q:Int)-1)=((q-1:Nat):Int):=by rw[j83 zO zO];omega
 have i1:=idx2 (l:=l) (u:=u) (off:=0) (n:=T.length) (kk:=.i64) (X:=(q:Int)) rfl o;have i0:=idx2 (l:=l) (u:=u) (off:=0) (n:=T.length) (kk:=.i64) (X:=((q-1:Nat):Int)) rfl zO;have l1:=ld2 ho o;have l0:=ld2 ho (show q-1<T.length by omega);have b0:T[q]=T[q-1]->JM T (q+1)=JM T q:=jlt zO o;have c9:T[q]≠T[q-1]->JM T (q+1)=JM T q++[T[q]]:=λh=>jfw o λ_=>h;have d1:T.take (q+1)=T.take q++[T[q]]:=aw o;have I:=j2w T[q] (T[q-1]' zO);rw[bN]at i1 i0;generalize hx:T[q]=x at *;generalize hy:T[q-1]' zO=y at *;generalize e6:((q-1:Nat):Int)=Q1 at *;cases K:(x==y);have c8:x≠y:=by simpa using K
 rw[K]at I;simp[Q,f0,c4,b8,i1,i0,b,l1,l0];simp[J9,<- I,Q,hw];refine⟨zO,zO,?_,b,J,zO⟩;rw[show 1+(k+1)=q+1 by omega,c9 c8,c,d1];have he:x=y:=by simpa using K
 rw[K]at I;simp[Q,f0,c4,b8,i1,i0,b,l1,l0];have d7:=jgw (L:=l) (u:=u) (n:=T.length) (i:=q) zO;simp[J9,<- I,Q,f0,d7];refine j7 [(3,3),(5,5),(29,53)] (T.length-q-1) (λj s=>s.tm 5=.int .i64 ((1+j:Nat):Int)/\∃w:Nat,s.tm 3=.int .i64 (w:Int)/\w=(JM T (q+1+j)).length /\
  (∃M:List Val',s.ob l=some ⟨u,.cells (M.flatMap J9)⟩/\M.length=T.length/\M.take w=JM T (q+1+j)/\∀m,q+j<=m->M[m]? = T[m]?)/\(∀a,a≠l->s.ob a=ob a)/\s.tk=tk/\ub<=s.nx) rfl rfl
  ⟨zS,q,by simp[Q],?_,⟨T,by simp[b,ho],rfl,?_,λ_ _=>rfl⟩,λa h=>by simp[b],by simp[J],by simp;omega⟩ ?_
 rw[br,b0 he,c,ai];omega;rw[br,b0 he,c];clear d4 J b Q;rintro j s1 hj ⟨g5,w,g3,v,⟨M,gM,b5,B,G⟩,D,a0,e5⟩ f;have g0:s1.tm 0=.osl l u 0 T.length 2:=by rw[f.t 0 zS];simp[f0]
 have g4:s1.tm 4=.osl l u (q*2) (T.length-q) 2:=by rw[f.t 4 zS];simp
 have gd:s1.df=[]:=by rw[f.d];simp[fd]
 have gr:s1.ro=ro:=by rw[f.r];simp[fr]
 clear f;obtain⟨p,hp⟩:∃p,1+j=p:=⟨_,rfl⟩;rw[hp]at g5;rw[show q+1+j=q+p by omega]at v B;have d9:=jh3 T (q+p) zO;have e0:w<=q+j:=by
  have e1:JM T (q+1)=T.take q:=by rw[b0 he,c]
  have a:∀j,q+1+j<=T.length->(JM T (q+1+j)).length<=q+j:=by
   intro j;induction j with
   |zero=>intro _;rw[br,e1,ai];omega
   |succ j ih=>intro h;have:=ih zO;rw[<- aG];simp only[JM,au,aa (show q+1+j<T.length by omega)];split<;>simp<;>omega
  have:=a j zO;rw[show q+1+j=q+p by omega]at this;omega
 by_cases c6:p<T.length-q;have b6:q+p<T.length:=zO;have F:(p:Int)<((T.length-q:Nat):Int):=zO;have c7:=jc (i:=p) (N:=T.length) zO zO;have S:IntKind.i64.wrap ((p:Int)-1)=((p-1:Nat):Int):=by rw[j83 zO zO];omega
 have d3:=jc (i:=w) (N:=T.length) zO zO;have k1:=idx2 (l:=l) (u:=u) (off:=q*2) (n:=T.length-q) (kk:=.i64) (X:=(p:Int)) rfl c6;have k0:=idx2 (l:=l) (u:=u) (off:=q*2) (n:=T.length-q) (kk:=.i64) (X:=((p-1:Nat):Int)) rfl zO;have kw:=idx2 (l:=l) (u:=u) (off:=0) (n:=T.length) (kk:=.i64) (X:=(w:Int)) rfl zO;rw[show q*2+p*2=(q+p)*2 by omega]at k1;rw[show q*2+(p-1)*2=(q+p-1)*2 by omega]at k0;rw[bN]at kw;have d0:M[q+p]' zO=T[q+p]:=by have:=G (q+p) zO;rw[aa zO,aa b6]at this;exact bV this
 have d5:M[q+p-1]' zO=T[q+p-1]' zO:=by have:=G (q+p-1) zO;rw[aa zO,aa zO]at this;exact bV this
 have m1:=ld2 gM (show q+p<M.length by omega);have m0:=ld2 gM (show q+p-1<M.length by omega);rw[d0]at m1;rw[d5]at m0;have z:=j3 Qe M;have c2:=st2 (M:=M) (x:=w) zO T[q+p];have P:T[q+p]=T[q+p-1]' zO->JM T (q+p+1)=JM T (q+p):=jlt zO b6;have O:T[q+p]≠T[q+p-1]' zO->JM T (q+p+1)=JM T (q+p)++[T[q+p]]:=λh=>jfw b6 λ_=>h;have e:=j2w T[q+p] (T[q+p-1]' zO);have d8:w*2+2<=T.length*2:=zO;generalize e2:T[q+p]=x2 at *;generalize e4:T[q+p-1]' zO=y2 at *;generalize e3:((p-1:Nat):Int)=Q2 at *;generalize H:((T.length-q:Nat):Int)=Q3 at *;cases g:(x2==y2);have U:x2≠y2:=by simpa using g
 rw[g]at e;simp[g5,g4,H,F,S,k1,k0,m1,m0];simp[J9]at c2;simp[J9,<- e,g5,g4,g3,g0,c7,d3,k1,m1,kw,j0,gM,z,b5,d8,gr,c0,c2];refine⟨zO,zO,w+1,rfl,?_,⟨M.set w x2,rfl,by simp[b5],?_,λm hm=>?_⟩,λa h=>by simp[h,D],by simp[jn,a0],zO⟩;rw[show q+1+(j+1)=q+p+1 by omega,O U,au,<- v];rfl;rw[show q+1+(j+1)=q+p+1 by omega,O U,<- B];rw[List.take_set,aw (show w<M.length by omega),List.set_append_right _ _ (by rw[ai];omega),ai,cq zO,fX];rfl;rw[cU zO];exact G m zO;have c3:x2=y2:=by simpa using g
 rw[g]at e;simp[g5,g4,H,F,S,k1,k0,m1,m0];simp[J9,<- e,g5,c7];exact⟨zO,zO,w,g3,by rw[show q+1+(j+1)=q+p+1 by omega,P c3];exact v,⟨M,gM,b5,by rw[show q+1+(j+1)=q+p+1 by omega,P c3];exact B,λm hm=>G m zO⟩,D,a0,zO⟩;have d2:q+p=T.length:=zO;rw[d2]at v B;have F:¬(p:Int)<((T.length-q:Nat):Int):=zO;generalize H:((T.length-q:Nat):Int)=Q3 at *;have b9:w<=T.length:=zO;have c1:=jgw (L:=l) (u:=u) b9;have c5:=jzl (L:=l) (u:=u) b9;have z:=j3 Qe M;simp[g5,g4,H,F,g0,g3,c1];refine jp3 (l:=l) (u:=u) (off:=w*2) (n:=T.length-w) (cs:=M.flatMap J9) zS (by simp[gM]) (by simp[gr,c0]) rfl (by rw[z];omega) ?_;simp[g0,g3,c5];refine JQ (by simp[gd]) ⟨by simp[v],⟨_,by simp;rfl,?_,zO,?_⟩,λa h=>by simp[h,D],by simp[jn,a0],by simp;omega⟩;unfold j2;have d6:(jai (T.length-w) [V.int .i64 0,V.int .i64 0]).length=(T.length-w)*2:=by simp[jai]
 simp only[au,ai,aV,z,d6];omega;rw[<- v,<- B];unfold j2;rw[bm,gx (by rw[ai,z];omega),List.take_take,Nat.min_self];exact jbg Qe M w;have:q=T.length:=zO;subst this;simp[Q,f0];rw[bf]at c;rw[c];exact JQ (by simp[fd]) ⟨zS,⟨_,by simp[b,ho],b7,zK,aM zO⟩,λa h=>by simp[b],by simp[J],by simp;omega⟩
def toV (p:P2):Val':=⟨p.1,p.2⟩
def toV_inj {p q:P2}:toV p=toV q ↔ p=q:=by obtain⟨a,b⟩:=p;obtain⟨c,d⟩:=q;simp[toV]
def j3r (L:List P2):L.flatMap yQ=(L.map toV).flatMap J9:=by rw[List.flatMap_map];rfl
def cF:P2->List P2->List P2
 |_,[]=>[]
 |x,y::s=>if x=y then cF y s else y::cF y s
def jx7 (z:P2):∀(r:List P2) (x:P2),cF x (r++[z])=cF x r++if (x::r).getLast? = some z then [] else [z]
 |[],x=>by by_cases h:x=z<;>simp[cF,h]
 |y::s,x=>by rw[db,cF,cF,jx7 z s y,show(x::y::s).getLast? = (y::s).getLast? from by simp[List.getLast?_cons_cons]];by_cases h:x=y;rw[zb h,zb h];rw[za h,za h,db]
def jqm:∀(r:List P2) (x:P2),jae (x::r)=x::cF x r
 |[],x=>rfl
 |y::s,x=>by have a:=jqm s y;rw[jae,a,cF]
def jlu (x:P2) (r:List P2):∀j,j<=r.length->JM ((x::r).map toV) (j+1)=(x::cF x (r.take j)).map toV
 |0,_=>by simp[JM,cF]
 |j+1,h=>by
  rw[JM,jlu x r j zO,aw zO,jx7,<- db,bw];congr 1;have e:((x::r).map toV)[j+1]? = some (toV r[j]):=by rw[aR,bK,aa zO];rfl
  have f:((x::r).map toV)[j+1-1]? = ((x::r.take j).getLast?).map toV:=by
   rw[eM,aR];congr 1;rw[List.getLast?_eq_getElem?];cases j with
   |zero=>simp
   |succ j=>simp[ai,cq (show j+1<=r.length by omega)]
  rw[e,f];by_cases b:(x::r.take j).getLast? = some r[j];rw[zb b,zb ⟨zO,by rw[b];rfl⟩];rfl;rw[za b,za λd=>b ?_];rfl;obtain⟨_,a⟩:=d;cases c:(x::r.take j).getLast? with
  |none=>rw[c]at a;cases a
  |some w=>rw[c]at a;simp only[aO,ab]at a;rw[toV_inj.1 a]
def j2f (L:List P2):JM (L.map toV) L.length=(jae L).map toV:=by
 cases L with
 |nil=>rfl
 |cons x r=>have:=jlu x r r.length zK;rw[bf]at this;rw[jqm];exact this
def sv121 {Yf:YF}{l u:Nat}{L:List P2}(i:L.length<=100000) {ob:ZO}{tk:Nat->Bool}{ro base ub:Nat}(g:ob l=some ⟨u,.cells (L.flatMap yQ)⟩) (d:ro<=u) :
 ∃r,EvS E Yf.y 121 [.osl l u 0 L.length 2] ob tk ro base ub r/\r.1=.osl l u 0 (jae L).length 2/\∃cs,r.2.1 l=some ⟨u,.cells cs⟩/\(jae L).length*2<=cs.length/\cs.take ((jae L).length*2)=(jae L).flatMap yQ:=by
 have a:(L.map toV).length=L.length:=bp ..;obtain⟨r,f,b,⟨cs,h,j,e,c⟩,_⟩:=j9k (Yf:=Yf) (l:=l) (u:=u) (T:=L.map toV) (by rw[a];exact i) (ob:=ob) (tk:=tk) (ro:=ro) (base:=base) (ub:=ub) (by rw[<- j3r];exact g) d;rw[a]at f b j e c;rw[j2f]at b e c;rw[bp]at b e c;refine⟨r,f,b,cs,h,zO,?_⟩;rw[c,j3r]
def jxt:∀L:List P2,(L.flatMap yQ).mapM int64? = some (W3 L)
 |[]=>rfl
 |x::L=>by rw[ba];show(V.int .i64 x.1::V.int .i64 x.2::L.flatMap yQ).mapM int64? = _;simp only[bJ,jxt L];rfl
def jha:∀L:List P2,pairsI (W3 L)=L
 |[]=>rfl
 |(a,b)::L=>by simp only[W3,pairsI,jha L]
def jqf:∀L:List P2,(W3 L).map (V.int .i64)=L.flatMap yQ
 |[]=>rfl
 |(a,b)::L=>by simp only[W3,bi,jqf L,ba,yQ];rfl
def jgv:∀{L:List P2},(∀z∈L,YN z.1=true/\YN z.2=true)->(W3 L).all YN=true
 |[],_=>rfl
 |(a,b)::L,h=>by have c:=h (a,b) (aJ ..);simp only[W3,bW,c.1,c.2,jgv λz d=>h z (aQ _ d),dc]
def sv119 {Yf:YF}{l u:Nat}{L:List P2}(i:L.length<=100000) (c:∀z∈L,YN z.1=true/\YN z.2=true) {ob:ZO}{tk:Nat->Bool}{ro base ub:Nat}(f:ob l=some ⟨u,.cells (L.flatMap yQ)⟩) (d:ro<=u) :
 ∃r,EvS E Yf.y 119 [.osl l u 0 L.length 2,.fn (.func 120) [] []] ob tk ro base ub r/\ub<=r.2.2.2/\∀a,r.2.1 a=if a=l then some ⟨u,.cells ((jaa L).flatMap yQ)⟩ else ob a:=by
 have e:=j3 Wq L;refine⟨(.tup [],upd ob l (some ⟨u,.cells ((jaa L).flatMap yQ)⟩),tk,ub),jjs (m:=some 120) rfl ?_ rfl,zK,λa=>by simp[yf]⟩;have h:j0 ob l u=some (L.flatMap yQ):=by simp[j0,f]
 have b:jow (some 120) (W3 L)=true:=jgv c;simp only[jrc,jj5,jge,Q0,h,am,zd];rw[zb ⟨bT▸d,trivial,zO,zO⟩,dq,aM zO,jxt,am,zb b,jha,jqf];have:((jaa L).flatMap yQ).length=(L.flatMap yQ).length:=by rw[j3 Wq,j3 Wq,(XP L).length_eq]
 rw[j2,eN,dK,bB zO,aU]
def j9m {Yf:YF}{ob:ZO}{tk:Nat->Bool}{ro base ub:Nat}:∃r,EvS E Yf.y 119 [.sl none true 0 [],.fn (.func 120) [] []] ob tk ro base ub r/\r.2.1=ob/\ub<=r.2.2.2 :=
 ⟨(.tup [],ob,tk,ub),jjs (m:=some 120) rfl rfl rfl,rfl,zK⟩
def j9l {Yf:YF}{ob:ZO}{tk:Nat->Bool}{ro base ub:Nat}:∃r,EvS E Yf.y 121 [.sl none true 0 []] ob tk ro base ub r/\r.1=.sl none true 0 []/\ub<=r.2.2.2:=by
 refine J7 rfl zQ ?_;show wpC E Yf S121.body _ (Jd S121.res _);conv in(occs:=*)S121=>all_goals cbv
 simp;exact JQ zS ⟨zS,zL⟩
def jmf {F:Env}{Yf:YF}{o:AOpr}{st:St}{ub:Nat}{K:St->Nat->Prop}(h:∀s u,s=st->u=ub->j5 F Yf o s u K):j5 F Yf o st ub K:=h st ub rfl rfl
def jrh (g:Hist') (lvl:Int) (M:List Int):List P2×Int:=if jn3 g lvl M=0 then (Ja (g.ts.length+1) (jgc g lvl M),0) else ([],jn3 g lvl M)
def SatR (r:List P2×Int) (v:V):Prop:=∃nl,(nl=true->r.1=[])/\jtg [.sl none nl r.1.length (r.1.flatMap yQ),.int .i64 r.2] v
section
variable {g:Hist'}{M:List Int}
def ev74 (hs:Small g) (h8:g.ts.length<=8) {mn:Bool}(lvl:Int) (hM:M.length<=100):∃v,Ev E 74 [.int .i64 lvl,.agg (ya g),yj mn ye M] v/\SatR (jrh g lvl M) v:=by
 have c3:=j8x hs;have S:=ev114 hs (b:=mn) M zO;rw[j1o]at S;have j:∀{k:St}{e:Int},k.df=[]->k.tm 6=.sl none true 0 []->k.tm 7=.int .i64 e->jrh g lvl M=([],e)->Q5 [.t 6,.t 7] (SatR (jrh g lvl M)) .ret k:=fun {k e} hd h6 h7 he=>by rw[he];exact jmj (ns:=[6,7]) (vs:=[.sl none true 0 [],.int .i64 e]) (ls:=[.sl none true 0 [],.int .i64 e]) (λr h=>⟨true,λ_=>rfl,h⟩) hd (by simp[h6,h7]) zS zS ⟨jT rfl,jT rfl,trivial⟩
 refine XI rfl zQ ?_;conv in(occs:=*)F74=>all_goals cbv
 simp[j0,ya,yj,V.cells,V.leaf];refine jQ c3 zH rfl zH ?_;cases G:jW g;simp;exact j (e:=4) zS zS zS (by simp[jrh,jn3,G]);by_cases H:lvl<1;simp[H];exact j (e:=2) zS zS zS (by simp[jrh,jn3,G,H]);by_cases L:2<lvl;simp[H,L];exact j (e:=2) zS zS zS (by simp[jrh,jn3,G,H,L]);simp[H,L,j0];refine jQ S zH rfl zH ?_;cases y:WR g M;simp;exact j (e:=2) zS zS zS (by simp[jrh,jn3,G,H,L,y]);have d5:lvl=1\/lvl=2:=zO;have hE:jrh g lvl M=(Ja (g.ts.length+1) (jgc g lvl M),0):=by simp[jrh,jn3,G,H,L,y]
 rw[hE];obtain⟨vr,c5,b0⟩:=ev72 hs;rw[show jax g=yh g by simp[jax,G]]at b0;have f2:=Xm y;have hR:(yh g).length<=100:=zO;simp[j0,j2];refine YI c5 zH rfl zH ?_;refine YE b0 λrt add=>?_;generalize c0:(yh g).isEmpty=rn;clear c0;simp[j2,V.cells,V.leaf];refine jmf λk nx i b6=>?_;obtain⟨c,u1,I,gX⟩:∃c,c<nx/\k.tm 8=.ptr (2*c+1) c 0/\k.ob (2*c+1)=some ⟨c,.cells (mkS g (yj mn ye M) (rdV rt rn (yh g)) (.sl none true 0 []))⟩:=by refine⟨1600,by rw[b6];simp,by rw[i];simp,by rw[i];simp[mkS,ya,yj,rdV]⟩
 have g0:k.tm 0=.int .i64 lvl:=by rw[i];simp
 have gd:k.df=[]:=by rw[i];simp
 have n:k.ro=0:=by rw[i];simp
 have c6:k.tm 32=.ptr (2*c+1) c 0:=by rw[<- I,i];simp
 clear i b6;have X:MkR g (yj mn ye M) (rdV rt rn (yh g)) (2*c+1) c (c+1) k.ob nx []:=⟨_,gX,.inl ⟨rfl,rfl⟩⟩;have J:Off (c+1) (2*c+1):=Off.new (cP _);have f5:=Wt g;have d2:=jd1 g 8 (yl g).length zO;have d6:(yD g (yl g).length).length<=72:=bH d2 (by have:(yl g).length*(8+1)<=8*9:=aW 9 zO;omega);refine jK (vs:=[.ptr (2*c+1) c 0]) (by simp[c6]) rfl (sv115 hs G h8 (lo:=c+1) X J zO ?_ ?_) ?_;simp[n];simp[n];rintro v1 f1 d9 U ⟨q1,D,T⟩;simp only at q1 D T;have e7:nx<=U:=by first|omega|(simp at q1;omega)
 clear X gX;simp[I];refine jK (vs:=[.ptr (2*c+1) c 0]) zS rfl (sv116 (rt:=rt) (rn:=rn) (lo:=c+1) (D.keep (λf0 _=>by simp) (J.up ?_) ?_) y J ?_ ?_ ?_ zO zO) ?_;omega
 ·first|omega|(simp;done)|(simp;omega)
 ·first|omega|(simp;done)|(simp;omega)
 simp[n];simp[n];rintro v2 e3 e8 F ⟨q2,a0,O⟩;simp only at q2 a0 O;have f3:U<=F:=by first|omega|(simp at q2;omega)
 clear D;have d7:=jih g M (yh g).length;obtain⟨lv,l,m⟩:=a0;simp[I,g0];refine jK (vs:=[.ptr (2*c+1) c 0,.int .i64 lvl]) zS rfl (sv118 (rt:=rt) (rn:=rn) (mn:=mn) (lo:=c+1) (lv:=lv) ?_ (m.frame (λu _ _=>by simp) ?_) J ?_ ?_ y h8 hR d5) ?_;simpa using l
 ·first|omega|(simp;done)|(simp;omega)
 ·first|omega|(simp;done)|(simp;omega)
 simp[n];rintro v3 b7 e5 b9 ⟨q3,p,f,d3,rfl,hS⟩;simp only at q3 p hS;have e0:F<=b9:=by first|omega|(simp at q3;omega)
 have x:b7 (2*c+1)=some ⟨c,.cells (mkS g (yj mn ye M) (rdV rt rn (yh g)) lv)⟩:=by rw[p _ (J.up zL)];simpa using l
 have w:EdV b7 (c+1) F lv (yD g (yl g).length++srcL g M (yh g).length):=m.frame (λu _ h=>by
  rw[p _ (Off.new zL)];simp) zK
 clear l m;simp;refine jK (vs:=[.ptr (2*c+1) c 0,.fn (.func f) [] d3]) zS rfl (sv117 (lvl:=lvl) (rt:=rt) (rn:=rn) (mn:=mn) (lo:=c+1) (lv:=lv) (Z:=yD g (yl g).length++srcL g M (yh g).length) hs y hR hS (by simpa using x) (w.frame (λu _ _=>by simp) zO) J zO ?_ ?_ (by rw[au];omega)) ?_;simp[n];simp[n];rintro v4 d8 e4 d4 ⟨q4,⟨A,hA,e9,e6,d,s⟩,N⟩;simp only at q4 d s N;have f4:b9<=d4:=by first|omega|(simp at q4;omega)
 have q:=j46 hA;have P:=jun y q;have Q:(yD g (yl g).length++srcL g M (yh g).length++A).length<=100000:=by rw[au,au];omega
 have b5:=jbn y q;have b8:=(XP (yD g (yl g).length++srcL g M (yh g).length++A)).length_eq;generalize yD g (yl g).length++srcL g M (yh g).length++A=Z at *;have c4:∀z∈Z,YN z.1=true/\YN z.2=true:=λz hz=>by obtain⟨a,b,rfl,ha,hb⟩:=P z hz;simp only[YN,aj,ze];omega
 clear x w hS p O T N hA;rcases s with⟨rfl,rfl⟩|⟨u,rfl,c8,e2,e1⟩;simp(disch:=try exact zD)[I,j0,d,mkS,ya];refine jK (vs:=[.sl none true 0 [],.fn (.func 120) [] []]) zS rfl j9m ?_;rintro v5 o c2 d0 ⟨K,q5⟩;simp only at K q5;have B:o (2*c+1)=some ⟨c,.cells (mkS g (yj mn ye M) (rdV rt rn (yh g)) (.sl none true 0 []))⟩:=by rw[K];simpa using d
 simp(disch:=try exact zD)[I,j0,B,mkS,ya];refine jK (vs:=[.sl none true 0 []]) zS rfl j9l ?_;rintro v6 c1 d1 c7 ⟨rfl,q6⟩;simp;have he:Ja (g.ts.length+1) (jgc g lvl M)=[]:=b5.symm;rw[he];refine jmj (ns:=[6,7]) (vs:=[.sl none true 0 [],.int .i64 0]) (ls:=[.sl none true 0 [],.int .i64 0]) (λr h=>⟨true,λ_=>rfl,h⟩) (by simp[gd]) zS zS zS ⟨jT rfl,jT rfl,trivial⟩;simp(disch:=try exact zD)[I,j0,d,mkS,ya];refine jK (vs:=[.osl (2*u+1) u 0 Z.length 2,.fn (.func 120) [] []]) zS rfl (sv119 Q c4 (by simpa using c8) ?_) ?_;simp[n];rintro v5 o c2 d0 ⟨q5,K⟩;simp only at K q5;have B:o (2*c+1)=some ⟨c,.cells (mkS g (yj mn ye M) (rdV rt rn (yh g)) (.osl (2*u+1) u 0 Z.length 2))⟩:=by rw[K,za zO];simpa using d
 have c9:o (2*u+1)=some ⟨u,.cells ((jaa Z).flatMap yQ)⟩:=by rw[K,zb rfl]
 simp(disch:=try exact zD)[I,j0,B,mkS,ya];refine jK (vs:=[.osl (2*u+1) u 0 (jaa Z).length 2]) (by simp[b8]) rfl (sv121 zO (by simpa using c9) ?_) ?_;simp[n];rintro v6 c1 d1 c7 ⟨rfl,cs,h6,l6,t6⟩;simp only at h6;rw[b5]at l6 t6 ⊢;simp;refine jmj (ns:=[6,7]) (vs:=[.osl (2*u+1) u 0 (Ja (g.ts.length+1) (jgc g lvl M)).length 2,.int .i64 0]) (ls:=[.sl none false (Ja (g.ts.length+1) (jgc g lvl M)).length ((Ja (g.ts.length+1) (jgc g lvl M)).flatMap yQ),.int .i64 0]) (λr h=>⟨false,λh=>(by cases h),h⟩) (by simp[gd]) zS zS zS ⟨Xx rfl (jgx (cs:=cs) (by simpa using h6) ?_ l6 t6 (j7n _)),jT rfl,trivial⟩;simp[n]
end
end Go.Pv.T
namespace Go.Pv.T
open Go Go.Pv
end Go.Pv.T
namespace Go.Pv.T
open Go Go.Pv
end Go.Pv.T
namespace Go.Pv.T
open Go Go.Pv
def NumE (r:List Int×Int) (v:V):Prop:=∃nl,(nl=true->r.1=[])/\jtg [.sl none nl r.1.length (r.1.flatMap ye),.int .i64 r.2] v
def jiy {st:St}{a b:Nat}{r:List Int×Int}{t:Option (Nat×Nat)}{nl:Bool}(c:st.df=[]) (d:st.tm a=.sl t nl r.1.length (r.1.flatMap ye)) (f:st.tm b=.int .i64 r.2) (e:nl=true->r.1=[]):Q5 [.t a,.t b] (NumE r) .ret st :=
 jmj (ns:=[a,b]) (vs:=[.sl t nl r.1.length (r.1.flatMap ye),.int .i64 r.2]) (ls:=[.sl none nl r.1.length (r.1.flatMap ye),.int .i64 r.2]) (λ_ h=>⟨nl,e,h⟩) c (by simp[d,f]) zS zS ⟨Xx rfl (XJ _ t nl _ _),jT rfl,trivial⟩
section
end
def jqv (l:List Int) (g:FuncId) (cap:V) (p:Int->Bool) (ob:ZO):Prop:=∀(Yf:YF) (x:Int),x∈l->∀(tk:Nat->Bool) (ro base ub:Nat),∃r,EvS E Yf.y g [.int .i64 x,cap] ob tk ro base ub r/\(r.1=.bool (p x)/\r.2.1=ob/\r.2.2.1=tk/\ub<=r.2.2.2)
def jdn {Yf:YF}{q x:A}{st:St}{ub:Nat}{K:St->Nat->Prop}{d:Option Nat}{nm:Bool}{l:List Int}{g:FuncId}{cap:V}{p:Int->Bool}{ob0:ZO}{k:Int}(hp:jqv l g cap p ob0) (t:k∈l) (b:st.ob=ob0) (u:yc E st.tm q=.fn (.func g) [] [cap]) (s:yc E st.tm x=.int .i64 k)
 (r:E.sh nm g=true) (h:∀a,ub<=a->K (jrm st d (.bool (p k)) ob0 st.tk) a):j5 E Yf ⟨d,.callV q [x],none,nm⟩ st ub K:=by
 refine jwt (f:=g) (first:=[]) (captured:=[cap]) (vs:=[.int .i64 k,cap]) u (by simp[s]) r (by rw[b];exact hp Yf k t st.tk st.ro _ ub) ?_;rintro v n o c ⟨m,e,i,j⟩;simp only at m e i j;subst m e i;exact h c j
def j7c {p:Int->Bool}{l:List Int}{g:FuncId}{cap:V}{ob:ZO}(B:E.sh true g=true) (hp:jqv l g cap p ob) {L u:Nat}{cs:List V}(x:ob L=some ⟨u,.cells cs⟩) (z:cs.take l.length=l.flatMap ye) (F:l.length<=1000000) (tk:Nat->Bool) (base ub:Nat) :
 EvO E 147 [.osl L u 0 l.length 1,.fn (.func g) [] [cap]] ob tk base ub (.int .i64 (Yj p l)):=by
 refine jo rfl ?_;conv in(occs:=*)S147=>all_goals cbv
 simp;refine WV (n:=l.length) (λk s=>∃i,k=l.length-i/\i<=l.length/\s.df=[]/\s.ob=ob/\s.tm 0=.osl L u 0 l.length 1/\s.tm 1=.fn (.func g) [] [cap]/\s.tm 7=.int .i64 l.length/\s.tm 8=.int .i64 i/\∀j (c:j<l.length),j<i->p l[j]=false)
  ⟨0,zS⟩ ?_
 rintro k s ⟨i,rfl,G,e,d,v,w,r,f,o⟩;by_cases a:i<l.length;have m:=j8u (l:=L) (u:=u) (n:=l.length) (kk:=.i64) (X:=(i:Int)) rfl a;have q:=OwnI.at z a;simp[v,w,r,f,a,m,j0,d,x,q];refine jdn hp (av a) (by simpa using d) zS (k:=l[i]) zS B λD y=>?_;cases b:p l[i];simp[v,w,r,f,e];refine⟨l.length-(i+1),zO,i+1,rfl,zO,by rw[ji zO zO];simp,?_⟩;intro j c t;rcases bz.1 t with h|rfl
 exact o j c h;exact b;simp;refine j4 (by simpa using e) ?_ rfl;simp;rw[YB a b o];have:i=l.length:=zO;subst this;simp[r,f];refine j4 (by simpa using e) ?_ rfl;simp[Yi (λj c=>o j c c)]
def j9h {Yf:YF}{g:FuncId}{a b c:Nat}{p:Int->Bool}(hg:E.sh true g=true) {ob:ZO}{tk:Nat->Bool}{ro base ub L u:Nat}{l:List Int}(hl:l.length<=1000000) (ho:ob L=some ⟨u,.cells (l.flatMap ye)⟩) (b0:ro<=u)
 (hp:∀U:ZO,(∀q,q≠L->U q=ob q)->jqv l g (.ptr a b c) p U) :
 ∃r,EvS E Yf.y 153 [.osl L u 0 l.length 1,.fn (.func g) [] [.ptr a b c]] ob tk ro base ub r/\DelP L u (l.filter λx=>!p x) ob tk ub r:=by
 refine J7 rfl zQ ?_;show wpC E Yf S153.body _ (Jd S153.res _);have Q:=λtk base ub=>j7c (g:=g) (cap:=.ptr a b c) hg (hp ob λ_ _=>rfl) ho (by rw[aM (by rw[j3 jA];omega)]) hl tk base ub;conv in(occs:=*)S153=>all_goals cbv
 simp;refine jP (vs:=[.osl L u 0 l.length 1,.fn (.func g) [] [.ptr a b c]]) zS rfl rfl (by simpa using Q _ _ _) ?_;cases O:l.findIdx? p with
 |none=>
  have J:Yj p l = -1:=by unfold Yj;rw[O]
  rw[J];simp;refine JQ zS ⟨.inr ⟨L,u,l.flatMap ye,by simp[jc7 O],by simpa using ho,?_,?_⟩,λq h=>by simp,zS,by simp;omega,.inr ⟨_,by simp;rfl⟩⟩;rw[jc7 O,j3 jA];omega;rw[jc7 O,aM (by rw[j3 jA];omega)]
 |some v=>
  have J:Yj p l=(v:Int):=by unfold Yj;rw[O]
  rw[J];obtain⟨Z,c3,b7⟩:=ee.1 O;have c2:((v:Int) == -1)=false:=zS;have c6:=jc Z zO;have b6:jb1 p l (v+1)=l.take v:=by rw[jhs Z,c3];simp only[zd,aU];unfold jb1;rw[eI];intro x hx;obtain⟨j,G,rfl⟩:=de.1 hx;rw[ai]at G;rw[dN];have:=b7 j zO;simpa using this
  simp[c2,c6];refine j7 [(5,7),(16,35)] (l.length-(v+1)) (λk s=>s.tm 6=.int .i64 ((v+1+k:Nat):Int)/\s.tm 5=.int .i64 ((jb1 p l (v+1+k)).length:Int)/\(∃cs,s.ob L=some ⟨u,.cells cs⟩/\cs.length=l.length/\cs.take (jb1 p l (v+1+k)).length=(jb1 p l (v+1+k)).flatMap ye/\∀j,v+1+k<=j->cs[j]? = (l.flatMap ye)[j]?)/\(∀q,q≠L->s.ob q=ob q)/\s.tk=tk/\ub<=s.nx) rfl rfl ⟨zS,by simp[b6];omega,⟨l.flatMap ye,by simpa using ho,by rw[j3 jA];omega,?_,λ_ _=>rfl⟩,λq h=>by simp,zS,by simp;omega⟩ ?_;rw[br,b6];rw[ai,cq zO,jgp];rintro k s hk ⟨P,H,⟨cs,F,D,w,o⟩,z,K,d5⟩ f;have f0:s.tm 0=.osl L u 0 l.length 1:=by rw[f.t 0 zS];simp
  have f1:s.tm 1=.fn (.func g) [] [.ptr a b c]:=by rw[f.t 1 zS];simp
  have fd:s.df=[]:=by rw[f.d];simp
  have fr:s.ro=ro:=by rw[f.r];simp
  clear f;have B:=j0v p l (v+1+k);by_cases d4:k<l.length-(v+1);have G:v+1+k<l.length:=zO;obtain⟨j,c9⟩:∃j,v+1+k=j:=⟨_,rfl⟩;rw[c9]at P H w o G B;have S:v+1+(k+1)=j+1:=zO;have a0:=jc (i:=j) (N:=l.length) G zO;have e:=jhs (p:=p) G;have c4:cs[j]? = some (.int .i64 l[j]):=by rw[o j zK,JL l G]
  have c7:=j8u (l:=L) (u:=u) (n:=l.length) (kk:=.i64) (X:=(j:Int)) rfl G;have c5:(j:Int)<l.length:=zO;simp[P,f0,f1,c5,c7,j0,F,c4];refine jdn (hp s.ob z) (av G) zS zS (k:=l[j]) zS hg λd3 d2=>?_;cases T:p l[j];rw[T]at e;simp only[ak,zc]at e;obtain⟨i,b8⟩:∃i,(jb1 p l j).length=i:=⟨_,rfl⟩;rw[b8]at H w B;have M:i<l.length:=zO;have c1:=jc (i:=i) (N:=l.length) M zO;have c0:=j8u (l:=L) (u:=u) (n:=l.length) (kk:=.i64) (X:=(i:Int)) rfl M;have d0:i+1<=l.length:=M;have b5:(jb1 p l (j+1)).length=i+1:=by rw[e,au,b8];rfl
  simp[P,H,f0,c0,j0,F,fr,b0,D,d0,a0,c1];rw[S];refine⟨zO,zO,by rw[b5];omega,⟨?_,?_,λm hm=>?_⟩,λq h=>by simp[h,z],by simp[jn,K],zO⟩;unfold j2;simp only[au,ai,aV,dM,D];omega;have I:(cs.take i++[V.int .i64 l[j]]).length=i+1:=by rw[au,ai];simp;omega
  rw[b5,e,ch,<- w];unfold j2;exact dJ I;have hs:j2 cs i [.int .i64 l[j]]=cs.set i (.int .i64 l[j]):=by unfold j2;rw[ec,zb zO,bm];rfl
  rw[hs,cU zO];exact o m zO;rw[T]at e;simp only[zd,aU]at e;simp[P,H,a0];rw[S,e];exact⟨zO,zO,rfl,⟨cs,F,D,w,λm hm=>o m zO⟩,z,by simp[K],zO⟩;have c8:v+1+k=l.length:=zO;rw[c8]at P H w o B;have b9:jb1 p l l.length=l.filter λx=>!p x:=by unfold jb1;rw[bf]
  rw[b9]at H w B;generalize (l.filter λx=>!p x)=R at *;have d1:(R.length:Int)<=l.length:=zO;simp[P,H,f0,jre B];refine jp3 (l:=L) (u:=u) (off:=R.length) (n:=l.length-R.length) (cs:=cs) zS (by simpa using F) (by simp[fr,b0]) rfl zO ?_;simp[H,f0,jzj B];have I:(cs.take R.length).length=R.length:=by rw[ai];omega
  refine JQ (by simp[fd]) ⟨.inr ⟨L,u,_,zS,by simp;rfl,?_,?_⟩,λq h=>by simp[h,z],?_,?_,.inr ⟨_,by simp;rfl⟩⟩;unfold j2;simp only[au,ai];omega;unfold j2;rw[bm];rw[dJ I];exact w;simp[jn,K];simp;omega
def sv154 {g:Hist'}{u:Nat}{ob:ZO}(e:ob (2*u+1)=some ⟨u,.cells (ya g)⟩) {l:List Int}(n:∀x∈l,0<=x/\x<=g.ts.length):jqv l 154 (.ptr (2*u+1) u 0) (λx=>!(yl g).contains x) ob:=by
 intro r x q z t i w;obtain⟨v,D⟩:=n x q;obtain⟨k,rfl⟩:∃k:Nat,x=k:=⟨x.toNat,zO⟩;have y:k<=g.ts.length:=zO;have s:(yl g).contains (k:Int)=Xv g k:=by rw[bu,co,comL_mem];constructor;rintro⟨j,B,h⟩;have:j=k:=zO;subst this;exact h;exact λh=>⟨k,rfl,h⟩
 simp only[];rw[s];refine J7 rfl zQ ?_;show wpC E r S154.body _ (Jd S154.res _);by_cases b:k=g.ts.length
 ·have d:Xv g k=false:=by cases h:Xv g k;rfl;exact zf (Xc h) zO
  conv in(occs:=*)S154=>all_goals cbv
  simp[j0,e,ya,b];refine JQ zS ⟨by rw[<- b,d];simp,by funext key;simp,zS,zL⟩
 ·have a:k<g.ts.length:=zO;have p:=j6 j9 g.tn g.ts .i64 a;have c:Xv g k=(g.ts[k].f==1):=by unfold Xv;rw[aa a];rfl
  have m:=jk (f:=jt) j9 g.ts a (by decide:1<3);have o:((k:Int)==(g.ts.length:Int))=false:=by rw[zk];omega
  conv in(occs:=*)S154=>all_goals cbv
  simp[j0,e,ya,o,p,m,show(jt g.ts[k])[1]? = some (.int .i64 g.ts[k].f) from rfl];refine JQ zS ⟨by rw[c];simp[bne],by funext key;simp,zS,zL⟩
def jol {n:Nat}{p:Nat->Nat->Bool}:∀(k:Nat) (D:List Nat),(∀x∈D,x<n)->∀b,jcm n p k D=some b->∀x∈b,x<n
 |0,D,h,b,e=>by
  have:D=b:=by simpa[jcm] using e
  subst this;exact h
 |k+1,D,h,b,e=>by
  unfold jcm at e;cases d:(List.range n).find? (ja6 n p D) with
  |none=>rw[d]at e;cases e
  |some a=>rw[d]at e;refine jol k (D++[a]) (λx c=>?_) b e;rcases aP.1 c with c|c;exact h x c;have:=aX.1 (gQ d);rw[ae.1 c];exact this
def jej {n:Nat}{p:Nat->Nat->Bool}:∀(k:Nat) (D:List Nat) (b:List Nat),jcm n p k D=some b->b.length=D.length+k
 |0,D,b,e=>by
  have:D=b:=by simpa[jcm] using e
  subst this;rfl
 |k+1,D,b,e=>by
  unfold jcm at e;cases c:(List.range n).find? (ja6 n p D) with
  |none=>rw[c]at e;cases e
  |some a=>rw[c]at e;rw[jej k (D++[a]) b e];simp;omega
def jxs (N:Nat) (p:Nat->Nat->Bool):(Ja N p).length<=N*N:=by
 unfold Ja;rw[List.length_flatMap];have:∀l:List Nat,(l.map λa=>(((List.range N).filter (p a)).map λb:Nat=>((a:Int),(b:Int))).length).sum<=l.length*N:=by
  intro l;induction l with
  |nil=>simp
  |cons x l c=>have d:((List.range N).filter (p x)).length<=N:=bH (bR _ _) zS;simp only[bi,List.sum_cons,bp,bg,cX];simp only[bp]at c;omega
 simpa using this (List.range N)
def j19 (N:Nat) (p:Nat->Nat->Bool):InG N (Ja N p):=λz f=>by obtain⟨a,b,c,d,_,e⟩:=edgesOf_mem.1 f;exact⟨a,b,e,c,d⟩
def jtm (g:Hist') (lvl:Int) (M:List Int):List Int×Int :=
 if jn3 g lvl M=0 then match jj2 (g.ts.length+1) (Ja (g.ts.length+1) (jgc g lvl M)) with
  |none=>([],3)
  |some D=>((yp D).filter λx=>(yl g).contains x,0)
 else ([],jn3 g lvl M)
section
variable {g:Hist'}{M:List Int}
def ev102 (hs:Small g) (h8:g.ts.length<=8) {mn:Bool}(lvl:Int) (I:M.length<=100) :
 ∃v,Ev E 102 [.int .i64 lvl,.agg (ya g),yj mn ye M] v/\NumE (jtm g lvl M) v:=by
 obtain⟨N,q,f,hn,hv⟩:=ev74 hs h8 (mn:=mn) lvl I;have hw:=ji (n:=((g.ts.length:Int)+1)) zO zO;refine XI rfl zQ ?_;conv in(occs:=*)F102=>all_goals cbv
 simp[j0,ya,yj,V.cells,V.leaf];refine jQ q zH rfl zH ?_;refine juv hv λH G=>?_;by_cases m:jn3 g lvl M=0;have B:jrh g lvl M=(Ja (g.ts.length+1) (jgc g lvl M),0):=by simp[jrh,m]
 rw[B]at hn ⊢;simp[j0,hw];generalize F:Ja (g.ts.length+1) (jgc g lvl M)=L at *;have z:InG (g.ts.length+1) L:=by rw[<- F];exact j19 _ _
 have y:L.length<=10000:=by have X:=jxs (g.ts.length+1) (jgc g lvl M);have:(g.ts.length+1)*(g.ts.length+1)<=9*9:=Nat.mul_le_mul zO zO;rw[F]at X;omega
 have b:jtm g lvl M=match jj2 (g.ts.length+1) L with
  |none=>([],3)
  |some D=>((yp D).filter λx=>(yl g).contains x,0):=by rw[jtm,zb m,F]
 refine jK (vs:=[.int .i64 ((g.ts.length+1:Nat):Int),.sl H f L.length (L.flatMap yQ)]) zS rfl (sv152 zS zO zO (.inl ⟨H,f,rfl⟩) z y) ?_;rintro v1 a0 J b5 ⟨U,i,d⟩;simp only at U i d;cases o:jj2 (g.ts.length+1) L with
 |none=>rw[o]at d b;simp only at d;subst d;simp;rw[b];exact jiy (r:=([],3)) (t:=none) (nl:=true) zS zS zS (λ_=>rfl)
 |some D=>
  rw[o]at d b;obtain⟨v,rfl,u,rfl,Z,o2,o3⟩:=d;have s:=jol _ _ (λx h=>by cases h) D o;have e:∀x∈yp D,0<=x/\x<=g.ts.length:=λx hx=>by obtain⟨a,ha,rfl⟩:=aI.1 hx;have:=s a ha;omega
  simp;refine jK (vs:=[.osl (2*u+1) u 0 (yp D).length 1,.fn (.func 154) [] [.ptr (2*0+1) 0 0]]) zS rfl (j9h (l:=yp D) (p:=λx=>!(yl g).contains x) rfl ?_ (by simpa using Z) zS λb0 h=>sv154 (g:=g) ?_ e) ?_;have:=jej _ _ D o;simp at this;rw[JV];omega;rw[h _ zO];simp;rw[i 1 (show Off _ (2*0+1) from Off.new zO)];simp[ya,yj];rintro v2 P Q S ⟨c,w,_,q2,_⟩;simp only at c w q2;have k:((yp D).filter λx=>!!(yl g).contains x)=(yp D).filter λx=>(yl g).contains x:=zS;rw[k]at c;have j:jtm g lvl M=((yp D).filter λx=>(yl g).contains x,0):=b;rw[j];clear b j k;generalize ((yp D).filter λx=>(yl g).contains x)=R at *;rcases c with⟨rfl,rfl⟩|⟨L2,T,cs,rfl,h6,l6,O⟩
  simp;exact jiy (r:=([],0)) (t:=none) (nl:=true) zS zS zS (λ_=>rfl);simp;refine jmj (ns:=[6,7]) (vs:=[.osl L2 T 0 R.length 1,.int .i64 0]) (ls:=[.sl none false R.length (R.flatMap ye),.int .i64 0]) (λr h=>⟨false,λh=>(by cases h),h⟩) zS zS zS zS ⟨Xx rfl (jgx (cs:=cs) (by simpa using h6) ?_ zO (by simpa using O) (jsp _)),jT rfl,trivial⟩;simp
 have B:jrh g lvl M=([],jn3 g lvl M):=by simp[jrh,m]
 have b:jtm g lvl M=([],jn3 g lvl M):=by simp[jtm,m]
 rw[B,b];have K:(jn3 g lvl M != 0)=true:=by simpa using m
 simp[K];exact jiy (r:=([],jn3 g lvl M)) (t:=none) (nl:=true) zS zS zS (λ_=>rfl)
end
section
variable {nx:Nat->Nat->Bool}{C:List Nat}{most most':Int}
def QS {rec:Nat->List Nat->List Nat->R3}(h:∀w d v,v.length<=(rec w d v).2.2.length) (w:Nat) (done:List Nat):∀(r vis:List Nat),vis.length<=(loopM rec nx w done r vis).2.2.length
 |[],vis=>dy _
 |t::r,vis=>by
  rw[loopM];split
  ·exact QS h w done r vis
  ·have a:=h (w|||1<<<t) (done++[t]) vis;rcases c:rec (w|||1<<<t) (done++[t]) vis with⟨o,b,v⟩;rw[c]at a;cases o with
   |some l=>exact a
   |none=>cases b with
    |true=>exact a
    |false=>exact bH a (QS h w done r v)
def jm3:∀(n w:Nat) (done vis:List Nat),vis.length<=(onM nx C most n w done vis).2.2.length
 |0,w,done,vis=>by rw[onM];split<;>simp
 |n+1,w,done,vis=>by
  rw[onM];split;exact dy _
  ·exact bH zS (QS (λw d v=>jm3 n w d v) w done C (vis++[w]))
structure More (most:Int) (a b:R3):Prop where
 le:(a.2.2.length:Int)<=most
 sp:a.2.1=true->(a.2.2.length:Int)=most/\a.1=none/\(b.2.1=true\/most<b.2.2.length)
 same:a.2.1=false->b=a
def jfj {n:Nat}(f:∀w d v,(v.length:Int)<=most->More most (onM nx C most n w d v) (onM nx C most' n w d v)) (w:Nat) (done:List Nat) :
 ∀(r vis:List Nat),(vis.length:Int)<=most->More most (loopM (onM nx C most n) nx w done r vis) (loopM (onM nx C most' n) nx w done r vis)
 |[],vis,h=>⟨h,λe=>(by cases e),λ_=>rfl⟩
 |t::r,vis,h=>by
  rw[loopM,loopM];split
  ·exact jfj f w done r vis h
  ·have a:=f (w|||1<<<t) (done++[t]) vis h;rcases q:onM nx C most n (w|||1<<<t) (done++[t]) vis with⟨o,p,v⟩;rcases b:onM nx C most' n (w|||1<<<t) (done++[t]) vis with⟨s,i,j⟩;rw[q,b]at a;cases p with
   |false=>
    have e:=a.same rfl;cases e;cases o with
    |some l=>exact⟨a.le,λe=>(by cases e),λ_=>rfl⟩
    |none=>exact jfj f w done r v a.le
   |true=>
    obtain⟨k,m,c⟩:=a.sp rfl;simp only at k m c;subst m;refine⟨a.le,λ_=>⟨k,rfl,?_⟩,λe=>(by cases e)⟩;cases s with
    |some x=>exact c
    |none=>cases i with
     |true=>exact .inl rfl
     |false=>
      have u:=QS (nx:=nx) (λw d v=>jm3 (nx:=nx) (C:=C) (most:=most') n w d v) w done r j;rcases c with h|h;cases h
      ·exact .inr (show most<((loopM _ nx w done r j).2.2.length:Int) by omega)
def jm2 (b:most<=most'):∀(n w:Nat) (done vis:List Nat),(vis.length:Int)<=most->More most (onM nx C most n w done vis) (onM nx C most' n w done vis)
 |0,w,done,vis,h=>by rw[onM,onM];by_cases e:(vis.length:Int)=most;rw[zb e];refine⟨h,λ_=>⟨e,rfl,?_⟩,λe=>(by cases e)⟩;by_cases a:(vis.length:Int)=most';rw[zb a];exact .inl rfl;rw[za a];exact .inr zP;rw[za e,za zO];exact⟨by simp;omega,λe=>(by cases e),λ_=>rfl⟩
 |n+1,w,done,vis,h=>by
  rw[onM,onM];by_cases e:(vis.length:Int)=most
  ·rw[zb e];refine⟨h,λ_=>⟨e,rfl,?_⟩,λe=>(by cases e)⟩;by_cases a:(vis.length:Int)=most';rw[zb a];exact .inl rfl
   ·rw[za a];have c:=QS (nx:=nx) (λw d v=>jm3 (nx:=nx) (C:=C) (most:=most') n w d v) w done C (vis++[w]);simp only[au,dM]at c;exact .inr (show most<((loopM _ nx w done C (vis++[w])).2.2.length:Int) by omega)
  ·rw[za e,za zO];exact jfj (λw d v h=>jm2 b n w d v h) w done C (vis++[w]) zP
end
def QB (g:Hist') (lvl:Int) (M:List Int) (left:Int):List Int×Int×Int :=
 if lvl=3 then jam g M left else if left=0 then ([],0,13) else ((jtm g lvl M).1,1,(jtm g lvl M).2)
def Xl (g:Hist') (lvl:Int):List (List Int)->Int->(List Int×List Int)×Bool×Int×Int
 |[],left=>(([],[]),false,left,0)
 |M::r,left=>if (QB g lvl M left).2.2=0 then ((M,(QB g lvl M left).1),true,left-(QB g lvl M left).2.1,0)
  else if (QB g lvl M left).2.2=13 then (([],[]),false,left-(QB g lvl M left).2.1,13) else Xl g lvl r (left-(QB g lvl M left).2.1)
def jib (g:Hist'):Bool:=(yl g).any λt=>!(j3w g t).isEmpty
def Wy (g:Hist') (lvl left:Int):(List Int×List Int)×Bool×Int×Int :=
 if jib g=true\/XC (yu g)=false then (if left=0 then (([],[]),false,left,13) else (([],[]),false,left-1,0)) else Xl g lvl (yE (yu g)) left
def Je (g:Hist') (lvl most:Int):(List Int×List Int)×Bool×Int×Int :=
 if jW g=false then (([],[]),false,0,4) else if lvl<1\/3<lvl\/most<0 then (([],[]),false,0,2) else
  ((Wy g lvl most).1,(Wy g lvl most).2.1,most-(Wy g lvl most).2.2.1,(Wy g lvl most).2.2.2)
section
variable {g:Hist'}{lvl left left':Int}{M:List Int}
def jhx (a:jW g=true) (b:WR g M=true) (c:0<=left):jam g M left=if (J1 g M left).2.1 then (([]:List Int),((J1 g M left).2.2.length:Int),(13:Int)) else match (J1 g M left).1 with
 |none=>(([]:List Int),((J1 g M left).2.2.length:Int),(3:Int))
 |some l=>(yp l,((J1 g M left).2.2.length:Int),(0:Int)):=by
 unfold jam
 simp only[a,b,cl,cw,ak,zc,ze]
 rw[za zO]
 cases (J1 g M left).2.1<;>cases (J1 g M left).1<;>rfl
def jd4 (i:jW g=true) (m:WR g M=true) (j:0<=left) (n:left<=left') :
 0<=(QB g lvl M left).2.1/\(QB g lvl M left).2.1<=left/\0<=(QB g lvl M left').2.1/\(QB g lvl M left').2.1<=left' /\
 ((QB g lvl M left).2.2≠13->QB g lvl M left'=QB g lvl M left) /\
 ((QB g lvl M left).2.2=13->(QB g lvl M left).2.1=left/\((QB g lvl M left').2.2=13\/left<(QB g lvl M left').2.1)):=by
 unfold QB;by_cases k:lvl=3;simp only[k,zd];have d:=jm2 (nx:=nxM g M) (C:=yz g) n (yz g).length 0 [] [] (by simpa using j);have b:=jm2 (nx:=nxM g M) (C:=yz g) (dR left') (yz g).length 0 [] [] zP;rw[show onM (nxM g M) (yz g) left (yz g).length 0 [] []=J1 g M left from rfl,show onM (nxM g M) (yz g) left' (yz g).length 0 [] []=J1 g M left' from rfl]at d;rw[show onM (nxM g M) (yz g) left' (yz g).length 0 [] []=J1 g M left' from rfl]at b;rw[jhx i m j,jhx i m zO];have a1:=d.le;have a2:=b.le;have b1:(if (J1 g M left).2.1=true then ([],((J1 g M left).2.2.length:Int),(13:Int)) else match (J1 g M left).1 with
  |none=>(([]:List Int),((J1 g M left).2.2.length:Int),(3:Int))
  |some l=>(yp l,((J1 g M left).2.2.length:Int),0)).2.1=(J1 g M left).2.2.length:=by
  split
  ·rfl
  ·split<;>rfl
 have b2:(if (J1 g M left').2.1=true then ([],((J1 g M left').2.2.length:Int),(13:Int)) else match (J1 g M left').1 with
  |none=>(([]:List Int),((J1 g M left').2.2.length:Int),(3:Int))
  |some l=>(yp l,((J1 g M left').2.2.length:Int),0)).2.1=(J1 g M left').2.2.length:=by
  split
  ·rfl
  ·split<;>rfl
 refine⟨by rw[b1];omega,by rw[b1];exact a1,by rw[b2];omega,by rw[b2];exact a2,λh=>?_,λh=>?_⟩;cases a:(J1 g M left).2.1 with
 |true=>rw[a]at h;exact zf rfl h
 |false=>rw[d.same a,a]
 cases a:(J1 g M left).2.1 with
 |false=>rw[a]at h;simp only[ak,zc]at h;split at h<;>cases h
 |true=>obtain⟨o,_,c⟩:=d.sp a;rw[a]at b1;refine⟨by rw[b1];exact o,?_⟩;rcases c with c|c;left;rw[zb c];right;rw[b2];exact c
 simp only[k,zc];by_cases e:left=0;subst e;simp only[zd];by_cases f:left'=0;simp[f];simp only[f,zc];exact⟨dR _,dR _,zO,zO,λh=>zf rfl h,λ_=>⟨zS,.inr zO⟩⟩;have f:left'≠0:=zO;simp only[e,f,zc];refine⟨zO,zO,zO,zO,λ_=>by simp,λh=>?_⟩;exfalso;unfold jtm at h;split at h;split at h<;>cases h;rename_i p;simp only at h;unfold jn3 at h;rw[i]at h;simp only[cl,ak,zc]at h;split at h<;>cases h
def jne (a:jW g=true):∀(L:List (List Int)) (left:Int),(∀M∈L,WR g M=true)->0<=left->0<=(Xl g lvl L left).2.2.1/\(Xl g lvl L left).2.2.1<=left
 |[],left,_,h0=>⟨h0,dR _⟩
 |M::r,left,hm,h0=>by obtain⟨a1,a2,_⟩:=jd4 (lvl:=lvl) a (hm M (aJ ..)) h0 (dR left);rw[Xl];split;simp only;omega;split;simp only;omega;have:=jne a r (left-(QB g lvl M left).2.1) (λM h=>hm M (aQ _ h)) zO;omega
def jk8 (f:jW g=true):∀(L:List (List Int)) (left left':Int),(∀M∈L,WR g M=true)->0<=left->left<=left' ->
 ((Xl g lvl L left).2.2.2=0->Xl g lvl L left'=((Xl g lvl L left).1,(Xl g lvl L left).2.1,(Xl g lvl L left).2.2.1+(left'-left),0)) /\
 ((Xl g lvl L left).2.2.2=0\/(Xl g lvl L left).2.2.2=13/\(Xl g lvl L left).2.2.1=0/\((Xl g lvl L left').2.2.2=13\/(Xl g lvl L left').2.2.1<left'-left))
 |[],left,left',_,_,_=>⟨λ_=>by simp only[Xl,bC,true_and,and_true];omega,.inl rfl⟩
 |M::r,left,left',hm,h0,hl=>by
  have c:∀M∈r,WR g M=true:=λM h=>hm M (aQ _ h);obtain⟨a1,a2,a3,a4,a5,a6⟩:=jd4 (lvl:=lvl) f (hm M (aJ ..)) h0 hl;rw[Xl,Xl];by_cases a:(QB g lvl M left).2.2=13;obtain⟨b1,b2⟩:=a6 a;rw[za (by rw[a];decide),zb a];refine⟨λh=>(by cases h),.inr ⟨rfl,by simp only;omega,?_⟩⟩;rcases b2 with b2|b2
  left;rw[za (by rw[b2];decide),zb b2];by_cases b:(QB g lvl M left').2.2=0;right;rw[zb b];simp only;omega;rw[za b];by_cases d:(QB g lvl M left').2.2=13;left;rw[zb d];right;rw[za d];have:=(jne (lvl:=lvl) f r (left'-(QB g lvl M left').2.1) c zO).2;omega;rw[a5 a];by_cases b:(QB g lvl M left).2.2=0;rw[zb b,zb b];refine⟨λ_=>?_,.inl rfl⟩;simp only[bC,true_and,and_true];omega;rw[za b,za b,za a,za a];obtain⟨d,i⟩:=jk8 f r (left-(QB g lvl M left).2.1) (left'-(QB g lvl M left).2.1) c zO zO;have e:left'-(QB g lvl M left).2.1-(left-(QB g lvl M left).2.1)=left'-left:=zO;rw[e]at d i;exact⟨d,i⟩
def jbr (d:Small g) (b:jW g=true):∀M∈yE (yu g),WR g M=true:=by intro M h;rw[<- j1o];unfold XB;obtain⟨a,c⟩:=jpe h;rw[b,a,c];simp
end
end Go.Pv.T
