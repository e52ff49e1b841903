/- Part. -/
import Derived.Test.YtmanndcfeicokaaGreatDoorTAF
set_option maxRecDepth 100000
set_option maxHeartbeats 8000000
set_option linter.all false
namespace Go.Pv.T
open Go Go.Pv
def jzt {E:Env}{st:St}{ub:Nat}{K:List FP->St->Prop}{d:Option Nat}{nm:Bool}{r:List AOpr}{sz a n:Nat}{zero:List V}{x y:A}(b:ye E st.tm x=.int .i64 (n:Int)) (f:ye E st.tm y=.int .i64 (n:Int)) (e:n*a<=140737488355328) (i:n<=140737488355328) (g:zero.length=sz) (c:0<sz)
 (h:YW E r K (ye E st.tm) (.mkSl true sz a zero x y) st d ub { v:=.osl (jI d nm st.fb ub) ub 0 n sz,obs:=[(jI d nm st.fb ub,⟨ub,.cells (ja8 n zero)⟩)] }):jG E (⟨d,.mkSl true sz a zero x y,none,nm⟩::r) st ub K:=by
 rw[jz rfl];simp only[yS,b,f];rw[zb (by refine⟨zO,zO,?_,zO,g,c⟩;rw[<- fZ];exact gV.2 e)];simp only[bN,ah,false_and,zc,Jo,jJ,Jm,aX];exact h
def jin (n:Nat):ja8 n [.bool false]=(List.replicate n false).map V.bool:=by unfold ja8;apply fR;simp;intro i a b;simp[List.getD,Nat.mod_one]
def jm7 (ks:List Int):∀(bs:List Bool) (j:Nat) (a:j<bs.length),(∀k∈ks,0<=k)->(yO bs ks)[j]? = some (bs[j]||ks.any λk=>k==(j:Int)):=by
 induction ks with
 |nil=>intro bs j a _;simp[yO,a]
 |cons k ks c=>
  intro bs j a h;have f:=h k zS;have:=c (bs.set k.toNat true) j (zU a) (λx d=>h x (by simp[d]));show(yO (bs.set k.toNat true) ks)[j]? = _;rw[this,List.getElem_set,bJ];by_cases b:k.toNat=j;have:k=(j:Int):=zO;simp[this];have:¬k=(j:Int):=zO;have e:(k==(j:Int))=false:=by simpa using this
  rw[za b,e,bQ]
def jm8 {ks:List Int}{n:Nat}(h:∀k∈ks,0<=k/\k<n):(yO (List.replicate n false) ks).all id=decide ((dd ks).length=n):=by
 have i:=(j57 n (dd ks) (j3f ks) (λx b=>h x (mem_dd.1 b))).2;rw[bz,av,ze,i];constructor;intro a k f;have g:k<(yO (List.replicate n false) ks).length:=by rw[YV];simpa using f
 have:=a _ (au g);have d:=jm7 ks (List.replicate n false) k (zU f) (λx b=>(h x b).1);rw[aa g,ae]at d;rw[d]at this;simp at this;exact mem_dd.2 this;intro a x b;obtain⟨j,e,rfl⟩:=ba b;have c:j<n:=by rw[YV]at e;simpa using e
 have d:=jm7 ks (List.replicate n false) j (zU c) (λx b=>(h x b).1);rw[aa e,ae]at d;rw[d];have:=mem_dd.1 (a j c);simp;exact this
def jnl (h:Hist'):h.ts.all (WJ h)=(h.ts.all (jex h)&&(jdr h).all (opB h)):=by
 unfold jdr;induction h.ts with
 |nil=>rfl
 |cons t l a=>simp only[bH,aZ,eX,a,WJ];cases jex h t<;>cases t.ops.all (opB h)<;>cases l.all (jex h)<;>simp
def within_iff {n:Int}{l:Nat}:Yi n l=true ↔ 0<=n/\n<l:=by unfold Yi;simp
def j3l {h:Hist'}(d:Xx h=true) (a:h.ts.all (WJ h)=true):Yr h=((yO (List.replicate h.ks.length false) (usesK h)).all id&&(yO (List.replicate h.ss.length false) (usesS h)).all id):=by
 rw[jnl,ab]at a;have e:∀k∈usesS h,0<=k/\k<h.ss.length:=by intro k b;obtain⟨t,c,rfl⟩:=aE.1 b;have:=av.1 a.1 t c;unfold jex at this;rw[ab]at this;exact within_iff.1 this.1
 have f:∀k∈usesK h,0<=k/\k<h.ks.length:=by intro k b;obtain⟨t,c,rfl⟩:=aE.1 b;have:=av.1 a.2 t c;unfold opB at this;rw[ab]at this;exact within_iff.1 this.1
 rw[jm8 e,jm8 f];unfold Yr jto;rw[d,a.1,a.2];simp only[bF];rw[gz]
def errH_f1 {h:Hist'}(a:Xx h=false):errH h=4:=by unfold errH Yr;rw[a];rfl
def errH_f2 {h:Hist'}(a:h.ts.all (WJ h)=false):errH h=4:=by unfold errH Yr;rw[jnl]at a;rw[<- fw (h.ts.all (jex h)),a];simp
def jhw (l:List Bool):Bool:=l.all id
def js9:jhw []=true:=rfl
def jn6 {l:List Bool}{j:Nat}(h:j<l.length):jhw (l.take (j+1))=(jhw (l.take j)&&l[j]):=by unfold jhw;rw[ay h,eX];simp
def ev48 {h:Hist'}(Q:Small h):Ev E 48 [.agg (ya h)] (.int .i64 (errH h)):=by
 refine jQ rfl ?_;have d1:=Q.ts;have d2:=Q.ks;have d3:=Q.ss;have e1:=ev79 h.sn h.ss zO (λs hx=>by have:=Q.sl s hx;omega);have e2:=ev79 h.kn h.ks zO (λs hx=>by have:=Q.kl s hx;omega);obtain⟨R,hR⟩:∃R,errH h=R:=⟨_,rfl⟩;have p:Xx h=false->R=4:=λX=>hR▸errH_f1 X;have Z:h.ts.all (WJ h)=false->R=4:=λX=>hR▸errH_f2 X;rw[hR];conv in(occs:=*)F48=>all_goals cbv
 simp[ya,j0];refine jL e1 zS rfl rfl ?_;cases b1:j1h h.ss;rw[p (by unfold Xx;rw[b1];rfl)];simp;exact j5 rfl zS rfl;simp[j0];refine jL e2 zS rfl rfl ?_;cases b2:j1h h.ks;rw[p (by unfold Xx;rw[b1,b2];rfl)];simp;exact j5 rfl zS rfl;by_cases c1:20<(h.ss.length:Int);rw[p (by unfold Xx;simp;omega)];simp[j0,c1];exact j5 rfl zS rfl;by_cases c2:40<(h.ks.length:Int);rw[p (by unfold Xx;simp;omega)];simp[j0,c1,c2];exact j5 rfl zS rfl;by_cases c3:40<(h.ts.length:Int);rw[p (by unfold Xx;simp;omega)];simp[j0,c1,c2,c3];exact j5 rfl zS rfl;have X:Xx h=true:=by unfold Xx;rw[b1,b2];simp;omega
 simp[j0,c1,c2,c3];refine jzt (n:=h.ks.length) zS zS zO zO rfl zQ ?_;simp[j0];refine jzt (n:=h.ss.length) zS zS zO zO rfl zQ ?_;simp[jin];refine⟨by simp[Jc,W6,QR,Qe,yy,yz,yP,Delta.wo,Delta.wt];decide,?_⟩;refine jg λw a=>?_;have g1:w.tm 1=.ptr 1 0 0:=by rw[a];simp
 have g3:w.tm 3=.osl 4225 2112 0 h.ks.length 1:=by rw[a];simp
 have g4:w.tm 4=.osl 4737 2368 0 h.ss.length 1:=by rw[a];simp
 have g5:w.tm 5=.int .i64 0:=by rw[a];simp
 have p1:w.ob 1=some ⟨0,.cells (ya h)⟩:=by rw[a];simp[ya]
 have pk:w.ob 4225=some ⟨2112,.cells ((List.replicate h.ks.length false).map V.bool)⟩:=by rw[a];simp
 have ps:w.ob 4737=some ⟨2368,.cells ((List.replicate h.ss.length false).map V.bool)⟩:=by rw[a];simp
 have gd:w.df=[]:=by rw[a];simp
 have gb:w.fb=0:=by rw[a];simp
 have gr:w.ro=0:=by rw[a];simp
 have gn:2400<=w.nx:=by rw[a];simp
 clear a;generalize hB:List.replicate h.ks.length false=B at *;generalize hC:List.replicate h.ss.length false=D at *;have U:B.length=h.ks.length:=by rw[<- hB];simp
 have b0:D.length=h.ss.length:=by rw[<- hC];simp
 refine j9 [(2,2),(5,5),(45,68)] h.ts.length (λi s=>s.tm 5=.int .i64 i/\s.ob 1=some ⟨0,.cells (ya h)⟩/\s.ob 4225=some ⟨2112,.cells ((yO B ((h.ts.take i).flatMap λt=>t.ops.map (·.key))).map V.bool)⟩ /\
  s.ob 4737=some ⟨2368,.cells ((yO D ((h.ts.take i).map (·.s))).map V.bool)⟩/\2400<=s.nx/\(h.ts.take i).all (WJ h)=true) rfl rfl ⟨by simp[g5],p1,by simp[pk,yO],by simp[ps,yO],gn,zS⟩ ?_
 rintro i s hi ⟨h5,o1,ok,os,e,z⟩ f;have f1:=(f.t 1 zS).trans g1;have f3:=(f.t 3 zS).trans g3;have f4:=(f.t 4 zS).trans g4;have fd:=f.d.trans gd;have fb:s.fb=0:=by rw[f.b,gb]
 have fr:=f.r.trans gr;clear f;by_cases c:i<h.ts.length;have L:=jb c zO;obtain⟨t,J⟩:∃t,h.ts[i]=t:=⟨_,rfl⟩;have c4:t∈h.ts:=J▸au c;have d4:=Q.os t c4;have c8:=jd jA s.ob h.ts c;rw[J]at c8;simp[h5,f1,o1,j0,ya,c,j7 jA,jd jA,J,f3];refine jcv (vs:=[.agg (ya h),.agg (jl t),.osl 4225 2112 0 h.ks.length 1]) zI rfl ?_;simp[fr,fb];have b5:(yO B ((h.ts.take i).flatMap λt=>t.ops.map (·.key))).length=h.ks.length:=by rw[YV,U]
 have N:(yO D ((h.ts.take i).map (·.s))).length=h.ss.length:=by rw[YV,b0]
 obtain⟨⟨v,b9,b7,c9⟩,hr,hv,hg⟩:=ev80 (Yf:=YU) (h:=h) (t:=t) zO (ob:=s.ob) (tk:=s.tk) (ro:=0) (base:=61440) (ub:=s.nx+64+64+64+64+64+64+64+64+64+64+64+64) (l:=4225) (u:=2112) b5 ok zO zO (λm hm=>by omega);refine⟨v,b9,b7,c9,hr,?_⟩;simp only at hv hg;subst hv;cases o:WJ h t;rw[Z (jqo c (by rw[J];exact o))];simp[put];exact j5 (by simp[fd]) zS rfl;obtain⟨q1,q2,q3,q4⟩:=hg o;have c5:=(q2 1 zQ (λm hm=>by omega)).trans o1;have qs:=(q2 4737 zQ (λm hm=>by omega)).trans os;have K:jex h t=true:=by unfold WJ at o;rw[ab]at o;exact o.1
 have S:0<=t.s/\t.s<h.ss.length:=by unfold jex at K;rw[ab]at K;exact within_iff.1 K.1
 have y:=jk8 (l:=4737) (u:=2368) (n:=h.ss.length) (kk:=.i64) S.1 S.2;have c0:=jid (yO D ((h.ts.take i).map (·.s))) t.s.toNat (by rw[N];omega);have c7:(h.ts.flatMap jl)[i*3]? = some (.int .i64 t.s):=by have:=jZ jA h.ts c (by decide:0<3);rw[bp,J]at this;rw[this];rfl
 have b8:yO B ((h.ts.take (i+1)).flatMap λt=>t.ops.map (·.key))=yO (yO B ((h.ts.take i).flatMap λt=>t.ops.map (·.key))) (t.ops.map (·.key)):=by rw[ay c,cn,jyz,J];simp
 have c6:yO D ((h.ts.take (i+1)).map (·.s))=(yO D ((h.ts.take i).map (·.s))).set t.s.toNat true:=by rw[ay c,bA,J];exact ji8 _ _ _
 have T:(h.ts.take (i+1)).all (WJ h)=true:=by rw[ay c,eX,z,J];simp[o]
 rw[<- b8]at q1;have a0:t.s.toNat+1<=h.ss.length:=zO;obtain⟨mk,b6⟩:∃m,yO B ((h.ts.take (i+1)).flatMap λt=>t.ops.map (·.key))=m:=⟨_,rfl⟩;rw[b6]at q1;generalize yO D ((h.ts.take i).map (·.s))=md at *;simp[put,yg,f1,f4,h5,c5,j0,ya,c,j7 jA,c7,y,qs,N,c0,L,q1,a0];refine⟨by rw[b6],by rw[<- fI,c6,dv],zO,?_⟩;rw[av]at T;exact T;have:i=h.ts.length:=zO;subst this;rw[bk]at z ok os;have F:=j3l X z;have hK:(h.ts.flatMap λt=>t.ops.map (·.key))=usesK h:=by unfold usesK jdr;rw[List.map_flatMap]
 have hS:h.ts.map (·.s)=usesS h:=rfl;rw[hK]at ok;rw[hS]at os;rw[hB,hC]at F;have b5:(yO B (usesK h)).length=h.ks.length:=by rw[YV,U]
 have N:(yO D (usesS h)).length=h.ss.length:=by rw[YV,b0]
 have H:R=if jhw (yO B (usesK h))&&jhw (yO D (usesS h)) then 0 else 4:=by rw[<- hR,errH,F];rfl
 clear F hR;generalize yO B (usesK h)=mk at *;generalize yO D (usesS h)=md at *;simp[h5,f1,o1,j0,ya];refine j9 [(6,7),(69,81)] h.ks.length (λi O=>O.tm 7=.int .i64 i/\O.ob=s.ob/\O.tm 6=.bool (jhw (mk.take i))) rfl rfl ⟨zS,zS,by simp[js9]⟩ ?_;rintro j s1 hj ⟨k7,ko,P⟩ f;have m3:s1.tm 3=.osl 4225 2112 0 h.ks.length 1:=by rw[f.t 3 zS];simp[f3]
 have m4:s1.tm 4=.osl 4737 2368 0 h.ss.length 1:=by rw[f.t 4 zS];simp[f4]
 have d0:s1.df=[]:=by rw[f.d];simp[fd]
 clear f;by_cases g:j<h.ks.length;have L:=jb g zO;have q:j<mk.length:=zO;have y:=jk8 (l:=4225) (u:=2112) (n:=h.ks.length) (kk:=.i64) (x:=(j:Int)) zO zO;have e:jhw (mk.take (j+1))=(jhw (mk.take j)&&mk[j]):=jn6 q;cases G:jhw (mk.take j);rw[G]at P e;simp[k7,m3,g,P,L,ko];rw[e];rfl;rw[G]at P e;simp[k7,m3,g,P,L,ko,y,j0,ok,q];rw[e];rfl;have:j=h.ks.length:=zO;subst this;have M:mk.take h.ks.length=mk:=aJ zO;rw[M]at P;simp[k7,m3];refine j9 [(6,6),(8,8),(82,94)] h.ss.length (λi O=>O.tm 8=.int .i64 i/\O.ob=s.ob/\O.tm 6=.bool (jhw mk&&jhw (md.take i))) rfl rfl ⟨zS,by simp[ko],by simp[P,js9]⟩ ?_;rintro j s2 hj ⟨z8,zo,I⟩ f;have y4:s2.tm 4=.osl 4737 2368 0 h.ss.length 1:=by rw[f.t 4 zS];simp[m4]
 have yd:s2.df=[]:=by rw[f.d];simp[d0]
 clear f;by_cases g:j<h.ss.length;have L:=jb g zO;have q:j<md.length:=zO;have y:=jk8 (l:=4737) (u:=2368) (n:=h.ss.length) (kk:=.i64) (x:=(j:Int)) zO zO;have e:jhw (md.take (j+1))=(jhw (md.take j)&&md[j]):=jn6 q;cases G:(jhw mk&&jhw (md.take j));have k:(jhw mk&&jhw (md.take (j+1)))=false:=by rw[e,<- fw,G];rfl
 rw[G]at I;simp[z8,y4,g,I,L,zo];intro hm;rw[hm]at k;exact k;have k:(jhw mk&&jhw (md.take (j+1)))=md[j]:=by rw[e,<- fw,G];rfl
 rw[G]at I;simp[z8,y4,g,I,L,zo,y,j0,os,q];exact k.symm;have:j=h.ss.length:=zO;subst this;have M:md.take h.ss.length=md:=aJ zO;rw[M]at I;cases G:(jhw mk&&jhw md);rw[G]at I H;simp[z8,y4,I];exact j5 (by simp[yd]) (by simp[H]) rfl;rw[G]at I H;simp[z8,y4,I];exact j5 (by simp[yd]) (by simp[H]) rfl
section
variable {E:Env}{Yf:YF}{st:St}{ub:Nat}{K:St->Nat->Prop}{d:Option Nat}{nm:Bool}
def JL {sz n:Nat}{zero:List V}{a:List (Nat×Nat×A)}{cs:List V}(b:fill zero (JB (ye E st.tm) a)=some cs) (c:cs.length=n*sz) (hp:cs.all V.leaf=true)
 (h:QW K st d ub { v:=.osl (jI d nm st.fb ub) ub 0 n sz,obs:=[(jI d nm st.fb ub,⟨ub,.cells cs⟩)] }):jB E Yf ⟨d,.buildSl true sz zero a n,none,nm⟩ st ub K:=by
 rw[jR _ rfl rfl];simp only[yS,b,ap,zd,Jm];rw[zb ⟨c,hp⟩,Jo,jJ];exact h
def X8 {sz a n:Nat}{cs ys:List V}{s x:A}(g:ye E st.tm s=.sl none true n cs) (i:jF st.ob sz (ye E st.tm x)=some ys) (b:ys≠[]) (e:0<sz) (hp:ys.all V.leaf=true)
 (f:(ys.length/sz)*a<=140737488355328) (c:ys.length/sz<=140737488355328) (h:QW K st d ub { v:=.osl (jI d nm st.fb ub) ub 0 (ys.length/sz) sz,obs:=[(jI d nm st.fb ub,⟨ub,.cells ys⟩)] }) :
 jB E Yf ⟨d,.append true sz a s x,none,nm⟩ st ub K:=by
 rw[jR _ rfl rfl];simp only[yS,g,i,ap,za b,di,zd,Jm];rw[zb ⟨e,hp,f,c⟩,Jo,jJ];exact h
def Xm {sz a l u n:Nat}{cs ys:List V}{s x:A}(k:ye E st.tm s=.osl l u 0 n sz) (m:jF st.ob sz (ye E st.tm x)=some ys) (g:st.ob l=some ⟨u,.cells cs⟩) (c:ys≠[]) (f:st.ro<=u) (o:n*sz<=cs.length) (i:0<sz) (hp:ys.all V.leaf=true)
 (j:(n+ys.length/sz)*a<=140737488355328) (e:n+ys.length/sz<=140737488355328)
 (h:QW K st d ub { v:=.osl (jI d nm st.fb ub) ub 0 (n+ys.length/sz) sz,obs:=[(jI d nm st.fb ub,⟨ub,.cells (cs.take (n*sz)++ys)⟩)],kill:=[l] }) :
 jB E Yf ⟨d,.append true sz a s x,none,nm⟩ st ub K:=by
 rw[jR _ rfl rfl];have b:j0 st.ob l u=some cs:=by simp[j0,g]
 simp only[yS,k,m,ap,b,za c,Jm];rw[zb ⟨bY▸f,trivial,trivial,o,i,hp,j,e⟩,jJ];exact h
end
@[simp] theorem app_obk (st:St) (d:Option Nat) (v:V) (l k l':Nat) (o':Obj'):(st.app d { v:=v,obs:=[(l,o')],kill:=[l'] }).ob k=if k=l then some o' else if k=l' then none else st.ob k:=by
 have e:(Nat.beq k l')=decide (k=l'):=by rw[bz];simp
 simp only[St.app,Ji,yg,bJ,ce,bI,e,ze]
def app_tkk (st:St) (d:Option Nat) (v:V) (obs:List (Nat×Obj')) (kl:List Nat):(st.app d { v:=v,obs:=obs,kill:=kl }).tk=st.tk:=by funext u;simp[jf]
end Go.Pv.T
namespace Go.Pv.T
open Go Go.Pv
end Go.Pv.T
namespace Go.Pv.T
open Go Go.Pv
@[simp] theorem cells_osl (a b c d e:Nat):(V.osl a b c d e).cells=[.osl a b c d e]:=rfl
@[simp] theorem leaf_osl (a b c d e:Nat):(V.osl a b c d e).leaf=true:=rfl
def jde (st:St) (v:V) (nl:Bool) (n:Nat) (cs:List V):Prop:=∀keep i,∃a,jw st keep i v=some (.sl a nl n cs)/\(a=none\/∃z,a=some (i,z))
def Xc (st:St) (t:Option (Nat×Nat)) (nl:Bool) (n:Nat) (cs:List V):jde st (.sl t nl n cs) nl n cs:=by
 intro keep i;cases t with
 |none=>exact⟨none,rfl,.inl rfl⟩
 |some p=>obtain⟨u,z⟩:=p;refine⟨_,rfl,?_⟩;split;exact .inr ⟨z,rfl⟩;exact .inl rfl
def jv2 (r:V) (g:Hist'):Prop:=∃a b c:Option (Nat×Nat),r=.agg [.sl a g.sn g.ss.length (g.ss.flatMap Jp),.sl b g.kn g.ks.length (g.ks.flatMap Jp),.sl c g.tn g.ts.length (g.ts.flatMap jl)]/\(∀p∈a.toList++b.toList++c.toList,p.1<64)
def jdi (a:Option (Nat×Nat)) (nl:Bool) (n:Nat) (cs:List V):(V.sl a nl n cs).tok=a.toList.map (·.1):=by
 cases a with
 |none=>rfl
 |some p=>rfl
def tokm {a:Option (Nat×Nat)}{nl:Bool}{n:Nat}{cs:List V}{i:Nat}:i∈(V.sl a nl n cs).tok ↔ ∃p∈a.toList,p.1=i:=by rw[jdi,aE]
def Grow {α:Type}(tk:Nat->Bool) (lo nx:Nat) (f:α->List V) (sz:Nat) (l:List α) (v:V):Prop :=
 (l=[]/\v=.sl none true 0 [])\/(l≠[]/\∃u,v=.sl (some (u,sz)) false l.length (l.flatMap f)/\tk u=true/\lo<=u/\u<nx)
def Grow.nil {a:Type}(tk:Nat->Bool) (lo nx:Nat) (f:a->List V) (sz:Nat):Grow tk lo nx f sz [] (.sl none true 0 []):=.inl ⟨rfl,rfl⟩
def Grow.form {c:Type}{tk:Nat->Bool}{lo nx:Nat}{f:c->List V}{sz:Nat}{l:List c}{v:V}(h:Grow tk lo nx f sz l v):∃t,v=.sl t l.isEmpty l.length (l.flatMap f):=by
 rcases h with⟨rfl,rfl⟩|⟨b,u,rfl,_⟩;exact⟨none,rfl⟩;cases l with
 |nil=>exact zf rfl b
 |cons a l=>exact⟨_,rfl⟩
def Grow.mono {e:Type}{tk a:Nat->Bool}{lo nx nx':Nat}{f:e->List V}{sz:Nat}{l:List e}{v:V}(h:Grow tk lo nx f sz l v) (g:∀u,lo<=u->u<nx->tk u=true->a u=true) (m:nx<=nx'):Grow a lo nx' f sz l v:=by rcases h with h|⟨b,u,j,k,c,i⟩;exact .inl h;exact .inr ⟨b,u,j,g u c i k,c,zO⟩
section
variable {E:Env}{Yf:YF}{st:St}{ub:Nat}{K:St->Nat->Prop}{d:Option Nat}{nm:Bool}
def Xn {j:Type}{f:j->List V}{sz b lo hi:Nat}{l:List j}{a:j}{v:V}{s x:A}(r:Grow st.tk lo hi f sz l v) (o:ye E st.tm s=v) (p:jF st.ob sz (ye E st.tm x)=some (f a)) (i:∀a,(f a).length=sz) (k:0<sz)
 (hp:(f a).all V.pureLeaf=true) (n:(l.length+1)*b<=140737488355328) (m:l.length+1<=140737488355328)
 (h:∀del:Option Nat,(∀u,del=some u->lo<=u/\u<hi)->QW K st d ub { v:=.sl (some (ub,sz)) false (l.length+1) ((l++[a]).flatMap f),del:=del,add:=[ub] }):jB E Yf ⟨d,.append false sz b s x,none,nm⟩ st ub K:=by
 have g:f a≠[]:=λe=>by have:=i a;rw[e]at this;simp at this;omega
 have c:(f a).length/sz=1:=by rw[i];exact gH k
 rcases r with⟨rfl,rfl⟩|⟨y,u,rfl,t,q,w⟩;refine jk4 o p g k hp (by rw[c];simpa using n) (by rw[c];simp) ?_;rw[c];have:=h none (λu e=>by cases e);simpa using this;refine XQ o t p g (by rw[j4 i]) k hp (by rw[c];exact n) (by rw[c];exact m) ?_;rw[c];have:=h (some u) (λz e=>by cases e;exact⟨q,w⟩);simpa using this
end
def jl6 {b:Type}{f:b->List V}{k:Nat}(c:∀a,(f a).length=k) (ob:ZO) (nl:Bool) (l:List b):jF ob k (yl nl f l)=some (l.flatMap f):=by simp only[yl,jF,j4 c,zd]
def Ws (res:List ARes) (P:V->Prop):Ex->St->Prop:=λe s=>∃r,jc2 res (e,s)=some r/\P r
def X6 {f:FuncId}{af:AF}{args:List V}{P:V->Prop}(b:E.fc f=some af) (e:af.body.one=true) (h:wpC E YU af.body (ja6 args) (Ws af.res P)):∃r,Ev E f args r/\P r:=by obtain⟨n,x,g,r,d,c⟩:=jmq e h λ_=>rfl;refine⟨r,⟨n+1,?_⟩,c⟩;simp only[yK,b,ap];rw[show jh E (yK E n) noY n af.body (ja6 args)=some [x] from g];exact jkr (cQ _ _) (λy a=>by rw[ag]at a;subst a;exact d)
end Go.Pv.T
namespace Go.Pv.T
open Go Go.Pv
end Go.Pv.T
namespace Go.Pv.T
open Go Go.Pv
section
variable {E:Env}{st:St}{ub:Nat}{K:List FP->St->Prop}{d:Option Nat}{nm:Bool}{r:List AOpr}
def jau {sz n:Nat}{zero:List V}{a:List (Nat×Nat×A)}{cs:List V}(b:fill zero (JB (ye E st.tm) a)=some cs) (c:cs.length=n*sz) (hp:(cs.map V.strip1).all V.pureLeaf=true)
 (h:YW E r K (ye E st.tm) (.buildSl false sz zero a n) st d ub { v:=.sl (some (ub,sz)) false n (cs.map V.strip1),add:=[ub] }):jG E (⟨d,.buildSl false sz zero a n,none,nm⟩::r) st ub K:=by
 rw[jz rfl];simp only[yS,b,ap,ah,zc];rw[zb ⟨c,hp⟩,jJ];exact h
end
@[simp] theorem str_strip1 (s:List UInt8):(V.str s).strip1=.str s:=rfl
def endH1 {st:St}{p l u:Nat}{x y z:V}{g:Hist'}(k:st.df=[]) (hp:st.tm p=.ptr l u 0) (m:st.ob l=some ⟨u,.cells [x,y,z]⟩)
 (q:jde st x g.sn g.ss.length (g.ss.flatMap Jp)) (n:jde st y g.kn g.ks.length (g.ks.flatMap Jp)) (w:jde st z g.tn g.ts.length (g.ts.flatMap jl)):∃r,jc2 [.cell p (some 3)] (.ret,st)=some r/\jv2 r g:=by
 have t:(j0 st.ob l u)=some [x,y,z]:=by simp[j0,m]
 have d:[ARes.cell p (some 3)].mapM (jv st)=some [.agg [x,y,z]]:=by simp[jv,hp,t]
 obtain⟨a,s,i⟩:=q (yH (List.flatMap V.toks [.agg [x,y,z]])) 0;obtain⟨b,o,f⟩:=n (yH (List.flatMap V.toks [.agg [x,y,z]])) 1;obtain⟨c,v,h⟩:=w (yH (List.flatMap V.toks [.agg [x,y,z]])) 2;refine⟨.agg [.sl a g.sn g.ss.length (g.ss.flatMap Jp),.sl b g.kn g.ks.length (g.ks.flatMap Jp),.sl c g.tn g.ts.length (g.ts.flatMap jl)],?_,a,b,c,rfl,?_⟩;simp only[jc2,WB k,W0 k,zd,d,ap,WQ];generalize yH (List.flatMap V.toks [.agg [x,y,z]])=keep at *;simp only[Je,XD,Xv,s,o,v,bK,ap,aU];have j:yH (List.flatMap V.toks [.agg [.sl a g.sn g.ss.length (g.ss.flatMap Jp),.sl b g.kn g.ks.length (g.ks.flatMap Jp),.sl c g.tn g.ts.length (g.ts.flatMap jl)]])=true:=by
  have e:∀x y z:V,List.flatMap V.toks [.agg [x,y,z]]=x.tok++(y.tok++z.tok):=λx y z=>by simp[V.toks]
  rw[e,jdi,jdi,jdi];rcases i with rfl|⟨_,rfl⟩<;>rcases f with rfl|⟨_,rfl⟩<;>rcases h with rfl|⟨_,rfl⟩<;>rfl
 show(if yH (List.flatMap V.toks [.agg [.sl a g.sn g.ss.length (g.ss.flatMap Jp),.sl b g.kn g.ks.length (g.ks.flatMap Jp),.sl c g.tn g.ts.length (g.ts.flatMap jl)]])=true then some (V.agg [.sl a g.sn g.ss.length (g.ss.flatMap Jp),.sl b g.kn g.ks.length (g.ks.flatMap Jp),.sl c g.tn g.ts.length (g.ts.flatMap jl)]) else none)=_;rw[zb j];intro p hp;simp only[aQ]at hp;rcases hp with(hp|hp)|hp;rcases i with rfl|⟨_,rfl⟩;simp at hp;simp at hp;subst hp;simp;rcases f with rfl|⟨_,rfl⟩;simp at hp;simp at hp;subst hp;simp;rcases h with rfl|⟨_,rfl⟩;simp at hp;simp at hp;subst hp;simp
def jt7 {ub:Nat}{r:V}{g:Hist'}(h:jv2 r g):∃a b c add,Xt ub r=some { v:=.agg [.sl a g.sn g.ss.length (g.ss.flatMap Jp),.sl b g.kn g.ks.length (g.ks.flatMap Jp),.sl c g.tn g.ts.length (g.ts.flatMap jl)],add:=add }:=by
 obtain⟨a,b,c,rfl,l⟩:=h;have e:∀x y z:V,yx (.agg [x,y,z])=x.tok++(y.tok++z.tok):=λx y z=>by simp[yx,V.toks]
 have j:(yx (.agg [.sl a g.sn g.ss.length (g.ss.flatMap Jp),.sl b g.kn g.ks.length (g.ks.flatMap Jp),.sl c g.tn g.ts.length (g.ts.flatMap jl)])).all (λi=>Nat.blt i 64)=true:=by
  rw[e,av];intro i o;have:∃p∈a.toList++b.toList++c.toList,p.1=i:=by rw[aQ,aQ,tokm,tokm,tokm]at o;rcases o with⟨p,d,h⟩|⟨p,d,h⟩|⟨p,d,h⟩;exact⟨p,by simp[d],h⟩;exact⟨p,by simp[d],h⟩;exact⟨p,by simp[d],h⟩
  obtain⟨p,d,rfl⟩:=this;rw[dk];exact l p d
 have f:∀(t:Option (Nat×Nat)) (m:Bool) (n:Nat) (cs:List V),∃s,Y4 ub (.sl t m n cs)=.sl s m n cs:=λt m n cs=>by
  cases t with
  |none=>exact⟨none,rfl⟩
  |some p=>exact⟨_,rfl⟩
 obtain⟨D,B⟩:=f a g.sn g.ss.length (g.ss.flatMap Jp);obtain⟨u,w⟩:=f b g.kn g.ks.length (g.ks.flatMap Jp);obtain⟨q,F⟩:=f c g.tn g.ts.length (g.ts.flatMap jl);refine⟨D,u,q,(yx (.agg [.sl a g.sn g.ss.length (g.ss.flatMap Jp),.sl b g.kn g.ks.length (g.ks.flatMap Jp),.sl c g.tn g.ts.length (g.ts.flatMap jl)])).map (ub + ·),?_⟩;rw[Xt,zb j];have k:ja9 ub (.agg [.sl a g.sn g.ss.length (g.ss.flatMap Jp),.sl b g.kn g.ks.length (g.ks.flatMap Jp),.sl c g.tn g.ts.length (g.ts.flatMap jl)]) =
  .agg [Y4 ub (.sl a g.sn g.ss.length (g.ss.flatMap Jp)),Y4 ub (.sl b g.kn g.ks.length (g.ks.flatMap Jp)),Y4 ub (.sl c g.tn g.ts.length (g.ts.flatMap jl))]:=rfl
 rw[k,B,w,F]
def kS_evV {E:Env}{Yf:YF}{st:St}{ub:Nat}{K:St->Nat->Prop}{d:Option Nat}{nm:Bool}{q:A}{xs:List A}{f:FuncId}{first captured args:List V}{v:V}(a:Ev E f args v) (e:ye E st.tm q=.fn (.func f) first captured)
 (b:(first++xs.map (ye E st.tm)++captured).map V.strip=args) (c:E.sh nm f=false) (hp:args.all V.pureTop=true) (h:wpD (Xt ub v) (QW K st d ub)):jB E Yf ⟨d,.callV q xs,none,nm⟩ st ub K:=by
 refine jwe e ⟨⟨c,?_⟩,v,by rw[b];exact a,h⟩;rw[<- b,dG]at hp;exact hp
@[simp] theorem fn_strip0 (f:Fn):(V.fn f [] []).strip=.fn f [] []:=rfl
@[simp] theorem fn_pureTop0 (f:Fn):(V.fn f [] []).pureTop=true:=rfl
def SlR (v:V) (nl:Bool) (n:Nat) (cs:List V):Prop:=∃t:Option (Nat×Nat),v=.sl t nl n cs/\∀p∈t.toList,p.1<64
def j52 {st:St}{n k:Nat}{t:Option (Nat×Nat)}{nl:Bool}{cs:List V}(g:st.df=[]) (h:st.tm n=.sl t nl k cs):∃r,jc2 [.t n] (.ret,st)=some r/\SlR r nl k cs:=by
 have b:[ARes.t n].mapM (jv st)=some [.sl t nl k cs]:=by simp[jv,h]
 obtain⟨a,i,c⟩:=Xc st t nl k cs (yH (List.flatMap V.toks [.sl t nl k cs])) 0;refine⟨.sl a nl k cs,?_,a,rfl,?_⟩;simp only[jc2,WB g,W0 g,zd,b,ap,WQ];generalize yH (List.flatMap V.toks [.sl t nl k cs])=keep at *;have e:XD st keep 0 (.sl t nl k cs)=some (.sl a nl k cs):=i;simp only[Je,e,ap,aU];have f:yH (List.flatMap V.toks [.sl a nl k cs])=true:=by rcases c with rfl|⟨_,rfl⟩<;>rfl
 show(if yH (List.flatMap V.toks [.sl a nl k cs])=true then some (V.sl a nl k cs) else none)=_;rw[zb f];intro p d;rcases c with rfl|⟨_,rfl⟩;simp at d;simp at d;subst d;simp
def jkh {ub:Nat}{v:V}{nl:Bool}{n:Nat}{cs:List V}(h:SlR v nl n cs):∃t add,Xt ub v=some { v:=.sl t nl n cs,add:=add }:=by
 obtain⟨t,rfl,a⟩:=h;cases t with
 |none=>exact⟨none,[],rfl⟩
 |some p=>have:=a p zS;refine⟨some (ub+p.1,p.2),[ub+p.1],?_⟩;rw[Xt,zb (by simp[yx,V.toks,V.tok,dk,this])];rfl
def slE {st:St}{n k:Nat}{t:Option (Nat×Nat)}{nl:Bool}{cs:List V}{P:V->Prop}(b:∀r,SlR r nl k cs->P r) (a:st.df=[]) (h:st.tm n=.sl t nl k cs):Ws [.t n] P .ret st:=by obtain⟨r,d,c⟩:=j52 a h;exact⟨r,d,b r c⟩
def j1l (l:List Int) (v:V):Prop:=∃nl,SlR v nl l.length (l.flatMap yf)
def ev95 (t:Txn'):Ev E 95 [.agg (jl t)] (.bool (XS t)):=by
 refine jQ rfl ?_;conv in(occs:=*)F95=>all_goals cbv
 simp[jl,j0];exact j5 rfl (by simp[XS]) rfl
def W2 {g:Hist'}(a:Yr g=true):errH g=0:=by unfold errH;rw[a];rfl
def ev94 {g:Hist'}(B:Small g) (J:Yr g=true):∃v,Ev E 94 [.agg (ya g),.fn (.func 95) [] []] v/\j1l (Y3 g) v:=by
 have n:=ev53 B;rw[W2 J]at n;have I:=B.ts;refine X6 rfl zQ ?_;conv in(occs:=*)F94=>all_goals cbv
 simp[ya,j0];refine jL n zI rfl zI ?_;simp[j0];refine j9 [(4,7),(14,26)] g.ts.length (λi s=>s.tm 14=.int .i64 i/\Grow s.tk 0 s.nx yf 1 (yt XS g.ts i) (s.tm 5)) rfl rfl ⟨zS,by simp[yt];exact Grow.nil _ _ _ _ _⟩ ?_;rintro i s hi ⟨j,y⟩ f;have K:s.tm 1=.fn (.func 95) [] []:=by rw[f.t 1 zS];simp
 have x:s.tm 12=yl g.tn jl g.ts:=by rw[f.t 12 zS];simp
 have m:s.tm 13=.int .i64 g.ts.length:=by rw[f.t 13 zS];simp
 have F:s.df=[]:=by rw[f.d];simp
 have H:s.fb=0:=by rw[f.b];simp
 have fr:s.ro=0:=by rw[f.r];simp
 clear f;by_cases e:i<g.ts.length;have z:=jb e zO;have c:=Jk (p:=XS) e;obtain⟨t,q⟩:∃t,g.ts[i]=t:=⟨_,rfl⟩;rw[q]at c;have G:=Jh XS g.ts i;simp[j,x,m,e,j7 jA,jd jA,q,jl,j0,H,fr,j6,K];refine kS_evV (f:=95) (first:=[]) (captured:=[]) (ev95 t) zS (by simp[jl]) rfl (by simp[jl]) ?_;cases hi:XS t;rw[hi]at c;simp only[ah,zc,aP]at c;simp[j,z];exact⟨e,by rw[c];exact y.mono (λu _ _ h=>by simpa[jq] using h) zO⟩;rw[hi]at c;simp only[zd]at c;simp;refine jN (cs:=[.int .i64 i]) (by simp[j6]) rfl rfl ?_;simp;refine Xn (f:=yf) (lo:=0) (hi:=s.nx) (l:=yt XS g.ts i) (a:=(i:Int)) (v:=s.tm 5) (y.mono (λu _ _ h=>by simp[jf,h]) zK) zS (by simp[jF,yf]) j8 zQ rfl zO zO (λL D=>?_);have w:yt XS g.ts (i+1)≠[]:=by rw[c];simp
 have o:(yt XS g.ts i).length+1=(yt XS g.ts (i+1)).length:=by rw[c];simp
 rw[<- c,o];simp[j,z];exact⟨e,.inr ⟨w,_,rfl,by simp[jf],ch _,zO⟩⟩;have:i=g.ts.length:=zO;subst this;obtain⟨t,q⟩:=y.form;simp[j,m];exact slE (t:=t) (nl:=(yt XS g.ts g.ts.length).isEmpty) (k:=(Y3 g).length) (cs:=(Y3 g).flatMap yf) (λr h=>⟨_,h⟩) (by simp[F]) (by simp[q,Y3])
def ev54 {g:Hist'}(e:Small g) (b:Yr g=true):∃v,Ev E 54 [.agg (ya g)] v/\j1l (Y3 g) v:=by
 obtain⟨v,a,nl,c⟩:=ev94 e b;refine X6 rfl zQ ?_;conv in(occs:=*)F54=>all_goals cbv
 simp[ya,j0];refine jL a zI rfl zI ?_;obtain⟨t,add,d⟩:=jkh (ub:=192) c;rw[d];simp;exact slE (t:=t) (nl:=nl) (k:=(Y3 g).length) (cs:=(Y3 g).flatMap yf) (λr h=>⟨_,h⟩) rfl zS
def slE_df {st:St}{n k l u:Nat}{t:Option (Nat×Nat)}{nl:Bool}{cs:List V}{P:V->Prop}(c:∀r,SlR r nl k cs->P r) (a:st.df=[(l,u)]) (b:st.ob l=some ⟨u,.dfr⟩) (e:st.ro<=u) (h:st.tm n=.sl t nl k cs):Ws [.t n] P .ret st:=by obtain⟨r,f,d⟩:=j52 (st:={ st with ob:=λk=>if Nat.beq l k then none else st.ob k,df:=[] }) rfl h;exact⟨r,jag a b e f,c r d⟩
def jE (p:Int×Int):List V:=[.int .i64 p.1,.int .i64 p.2]
@[simp] theorem jU (p:Int×Int):(jE p).length=2:=rfl
def jgp (i:Nat) (ops:List Op'):Nat->List (Int×Int)
 |0=>[]
 |k+1=>jgp i ops k++(match ops[k]? with|some o=>if o.v.kind==2 then [((i:Int),(k:Int))] else []|none=>[])
def jgo (ts:List Txn'):Nat->List (Int×Int)
 |0=>[]
 |i+1=>jgo ts i++(match ts[i]? with|some t=>jgp i t.ops t.ops.length|none=>[])
def XR (h:Hist') (i k:Nat):List (Int×Int):=jgo h.ts i++(match h.ts[i]? with|some t=>jgp i t.ops k|none=>[])
def jdu (h:Hist'):List (Int×Int):=jgo h.ts h.ts.length
def jdt (i:Nat) (ops:List Op'):∀k,(jgp i ops k).length<=k
 |0=>dx _
 |k+1=>by have:=jdt i ops k;simp only[jgp,aw];split;split<;>simp<;>omega;simp;omega
def jds {ts:List Txn'}(h:∀t∈ts,t.ops.length<=1000):∀i,(jgo ts i).length<=i*1000
 |0=>ch _
 |i+1=>by have:=jds h i;simp only[jgo,aw];rw[show(i+1)*1000=i*1000+1000 by omega];split;rename_i t a;have b:=jdt i t.ops t.ops.length;have c:=h t (aH a);omega;simp only[ct];omega
def jgr {h:Hist'}{i k:Nat}(hi:i<h.ts.length) (a:k<(h.ts[i]).ops.length):XR h i (k+1)=XR h i k++(if (h.ts[i]).ops[k].v.kind==2 then [((i:Int),(k:Int))] else []):=by simp only[XR,aa hi,jgp,aa a,bj]
def jgs {h:Hist'}{i:Nat}(hi:i<h.ts.length):XR h i (h.ts[i]).ops.length=XR h (i+1) 0:=by simp only[XR,aa hi,jgo];cases h.ts[i+1]?<;>simp[jgp]
def jjc (h:Hist'):XR h h.ts.length 0=jdu h:=by simp[XR,jdu]
def jgq (h:Hist'):XR h 0 0=[]:=by unfold XR;cases h.ts[0]?<;>rfl
def jjb {h:Hist'}(a:Small h) {i k:Nat}(hi:i<h.ts.length) (b:k<=(h.ts[i]).ops.length):(XR h i k).length<=1001000:=by have e:=jds a.os i;have c:=a.ts;have f:=jdt i (h.ts[i]).ops k;have d:=a.os _ (au hi);simp only[XR,aa hi,aw];have:i*1000<=1000*1000:=bf _ zO;omega
def PlR (l:List (Int×Int)) (v:V):Prop:=∃nl,SlR v nl l.length (l.flatMap jE)
def ev55 {g:Hist'}(D:Small g) (hm:Yr g=true):∃v,Ev E 55 [.agg (ya g)] v/\PlR (jdu g) v:=by
 have s:=ev53 D;rw[W2 hm]at s;have K:=D.ts;refine X6 rfl zQ ?_;conv in(occs:=*)F55=>all_goals cbv
 simp[ya,j0];refine jL s zI rfl zI ?_;simp[j0];refine jcv (vs:=[.agg (ya g)]) zI rfl ?_;obtain⟨r,T,Z,B,e3,e4⟩:=ev91 (Yf:=YU) g _ _ 0 _ _;refine⟨r,T,?_⟩;simp;refine jg λc d=>?_;obtain⟨m,b5,a0,L,p2,I,pl⟩:∃m,m % 64=0/\m<c.nx/\c.tm 10=.fn (.func 145) [] [.ptr (2*m+1) m 0]/\c.ob 2=some ⟨0,.cells (ya g)⟩/\(∃u,c.tm 3=.ptr 6 u 0/\c.ob 6=some ⟨u,.cells [.sl none true 0 []]⟩)/\c.ob (2*m+1)=some ⟨m,.cells (ya g)⟩:=by refine⟨_,?_,?_,by rw[d];simp only[jo1,put,WL];exact Z,?_,⟨320,?_,?_⟩,?_⟩;decide;rw[d,jkd,e4];omega;rw[d];simp only[JU];rw[B];simp[ya];rw[d];simp[put,yg];rw[d];simp only[JU];rw[B];simp;rw[d];simp only[JU];rw[B];simp
 obtain⟨u6,M,I⟩:=I;have gd:c.df=[]:=by rw[d];simp
 have gb:c.fb=0:=by rw[d];simp
 have X:c.ro=0:=by rw[d];simp
 clear d Z B e3 e4 T;refine jir g K (λt ht=>by have:=D.os t ht;omega) rfl rfl rfl (zU L) pl zO zO X
  (λi k ob w q=>∃j,ob 6=some ⟨u6,.cells [j]⟩/\Grow w 0 q jE 2 (XR g i k) j) ?_ ?_ ?_ ?_ ?_
 rintro i k ob b9 w q b7 ⟨j,n,e⟩ p G;exact⟨j,(G 6 (λm _=>by omega)).trans n,e.mono (λ_ _ _ h=>h) p⟩;rintro i hi ob w q ⟨j,n,e⟩;exact⟨j,n,by rw[<- jgs hi];exact e⟩;rintro i hi k N ob w q ⟨j,n,e⟩ w1 z p;have r1:¬2*c.nx+1=8:=zO;have r3:¬2*c.nx+1=10:=zO;have r5:¬2*c.nx+1=6:=zO;have P:¬2*c.nx+3=8:=zO;have Q:¬2*c.nx+3=10:=zO;have q5:¬2*c.nx+3=6:=zO;have q7:¬2*c.nx+3=2*c.nx+1:=zO;have b8:¬8=2*c.nx+1:=zO;have J:¬10=2*c.nx+1:=zO;have H:¬6=2*c.nx+1:=zO;have b:=jgr hi N;have b0:=jjb D hi (fV N);obtain⟨o,ho⟩:∃o,(g.ts[i]).ops[k]=o:=⟨_,rfl⟩;rw[ho]at b ⊢;obtain⟨U,y⟩:=e.form;simp[jfw,yg,yQ,j0,gb,j6,r1,r3,w1,J];cases S:(o.v.kind==2);rw[S]at b;simp only[ah,zc,aP]at b;simp[yg,P,Q,z,H,n];exact⟨zO,by rw[b];exact e.mono (λu _ _ h=>by simpa[jq] using h) zO⟩;rw[S]at b;simp only[zd]at b;simp[M,yg,H,n,j0,b8];refine jN (cs:=jE (i,k)) (by simp[j6,jE]) rfl rfl ?_;simp;refine Xn (f:=jE) (lo:=0) (hi:=q) (l:=XR g i k) (a:=((i:Int),(k:Int))) (v:=j) (e.mono (λu _ _ h=>by simp[jq,jf,h]) zK) zS (by simp[jF,jE]) jU zQ rfl zO zO (λc0 O=>?_);have F:XR g i (k+1)≠[]:=by rw[b];simp
 have x:(XR g i k).length+1=(XR g i (k+1)).length:=by rw[b];simp
 rw[<- b,x];simp[M,yg,H,n,j0,j6,r5,q5,P,Q,z];exact⟨zO,.inr ⟨F,_,rfl,by simp[jq,jf],ch _,zO⟩⟩;exact⟨_,I,by rw[jgq];exact Grow.nil _ _ _ _ _⟩;rintro ob w q ⟨j,n,e⟩ z p;rw[jjc]at e;obtain⟨U,y⟩:=e.form;simp[M,j0,n,y];exact slE_df (l:=2*c.nx+3) (u:=c.nx+1) (t:=U) (nl:=(jdu g).isEmpty) (k:=(jdu g).length) (cs:=(jdu g).flatMap jE) (λr h=>⟨_,h⟩) (by simp[gd]) (by simp[z]) (by simp[X]) zS
def GrowT {α:Type}(tk:Nat->Bool) (nx:Nat) (f:α->List V) (sz:Nat) (l:List α) (v:V):Prop:=∃u,v=.sl (some (u,sz)) false l.length (l.flatMap f)/\tk u=true/\u<nx
def GrowT.mono {b:Type}{tk a:Nat->Bool}{nx nx':Nat}{f:b->List V}{sz:Nat}{l:List b}{v:V}(h:GrowT tk nx f sz l v) (g:∀u,u<nx->tk u=true->a u=true) (i:nx<=nx'):GrowT a nx' f sz l v:=by obtain⟨u,c,e,d⟩:=h;exact⟨u,c,g u d e,zO⟩
def YA {E:Env}{Yf:YF}{st:St}{ub:Nat}{K:St->Nat->Prop}{d:Option Nat}{nm:Bool}{i:Type}{f:i->List V}{sz b hi:Nat}{l:List i}{a:i}{v:V}{s x:A}(q:GrowT st.tk hi f sz l v) (p:ye E st.tm s=v) (r:jF st.ob sz (ye E st.tm x)=some (f a)) (c:∀a,(f a).length=sz) (m:0<sz)
 (hp:(f a).all V.pureLeaf=true) (o:(l.length+1)*b<=140737488355328) (j:l.length+1<=140737488355328)
 (h:∀del:Option Nat,(∀u,del=some u->u<hi)->QW K st d ub { v:=.sl (some (ub,sz)) false (l.length+1) ((l++[a]).flatMap f),del:=del,add:=[ub] }):jB E Yf ⟨d,.append false sz b s x,none,nm⟩ st ub K:=by
 have g:f a≠[]:=λe=>by have:=c a;rw[e]at this;simp at this;omega
 have k:(f a).length/sz=1:=by rw[c];exact gH m
 obtain⟨u,rfl,n,t⟩:=q;refine XQ p n r g (by rw[j4 c]) m hp (by rw[k];exact o) (by rw[k];exact j) ?_;rw[k];have:=h (some u) (λw e=>by cases e;exact t);simpa using this
def ev50 {g:Hist'}(I:Small g):∃v,Ev E 50 [.agg (ya g)] v/\PlR (jdu g) v:=by
 have S:=I.ts;refine X6 rfl zQ ?_;conv in(occs:=*)F50=>all_goals cbv
 simp[ya];refine jN (cs:=[]) rfl rfl rfl ?_;simp;refine j9 [(3,5),(7,42)] g.ts.length (λi s=>s.tm 4=.int .i64 i/\s.ob 2=some ⟨0,.cells (ya g)⟩/\GrowT s.tk s.nx jE 2 (XR g i 0) (s.tm 3)) rfl rfl ⟨zS,zI,by rw[jgq];exact⟨128,zS,by simp[jf],zS⟩⟩ ?_;rintro i s hi ⟨H,D,J⟩ f;have G:s.tm 1=.ptr 2 0 0:=by rw[f.t 1 zS];simp
 have M:s.df=[]:=by rw[f.d];simp
 clear f;by_cases c:i<g.ts.length;have Q:=jb c zO;simp[H,G,D,j0,ya,c];refine j9 [(3,3),(5,5),(14,42)] (g.ts[i]).ops.length (λk j=>j.tm 5=.int .i64 k/\j.ob=s.ob/\GrowT j.tk j.nx jE 2 (XR g i k) (j.tm 3)) rfl rfl ⟨zS,zS,by simp;exact J.mono (λ_ _ h=>h) zO⟩ ?_;rintro k j Z ⟨B,m,p⟩ f;have K:j.tm 1=.ptr 2 0 0:=by rw[f.t 1 zS];simp[G]
 have L:j.tm 4=.int .i64 i:=by rw[f.t 4 zS];simp[H]
 have ed:j.df=[]:=by rw[f.d];simp[M]
 clear f;have w:j.ob 2=some ⟨0,.cells (ya g)⟩:=by rw[m];exact D
 obtain⟨t,z⟩:∃t,g.ts[i]=t:=⟨_,rfl⟩;have U:=I.os t (z▸au c);have n:(g.ts.flatMap jl)[i*3+2]? = some (yl t.nl yQ t.ops):=by rw[jZ jA g.ts c (by decide:2<3),z];rfl
 by_cases e:k<(g.ts[i]).ops.length;have b:=jgr c e;have P:=jjb I c (fV e);obtain⟨o,O⟩:∃o,(g.ts[i]).ops[k]=o:=⟨_,rfl⟩;rw[O]at b;subst z;have q:=jb e zO;have y:((g.ts[i]).ops.flatMap yQ)[k*4+2]? = some (.int .i64 o.v.kind):=by rw[jZ jH (g.ts[i]).ops e (by decide:2<4),O];rfl
 cases F:(o.v.kind==2);rw[F]at b;simp only[ah,zc,aP]at b;simp[B,K,L,j0,ya,c,j7 jA,n,e,j7 jH,y,F,q,m,D];rw[b];exact p.mono (λ_ _ h=>h) zO;rw[F]at b;simp only[zd]at b;simp[B,K,L,w,j0,ya,c,j7 jA,n,e,j7 jH,y,F,j6];refine jN (cs:=jE (i,k)) (by simp[j6,jE]) rfl rfl ?_;simp;refine YA (f:=jE) (hi:=j.nx) (l:=XR g i k) (a:=((i:Int),(k:Int))) (v:=j.tm 3) (p.mono (λu _ h=>by simp[jf,h]) zK) zS (by simp[jF,jE]) jU zQ rfl zO zO (λT N=>?_);have x:(XR g i k).length+1=(XR g i (k+1)).length:=by rw[b];simp
 rw[<- b,x];simp[B,q,m];exact⟨e,_,rfl,by simp[jf],zO⟩;have:k=(g.ts[i]).ops.length:=zO;subst this;subst z;simp[B,K,L,w,j0,ya,c,j7 jA,n,Q];rw[<- jgs c];exact p.mono (λ_ _ h=>h) zO;have:i=g.ts.length:=zO;subst this;rw[jjc]at J;obtain⟨u,X,_,_⟩:=J;simp[H,G,D,j0,ya];exact slE (t:=some (u,2)) (nl:=false) (k:=(jdu g).length) (cs:=(jdu g).flatMap jE) (λr h=>⟨_,h⟩) (by simp[M]) (by simp[X])
def wkB (k:Int) (o:Op'):Bool:=o.w&&o.key==k
def wrB (k:Int) (t:Txn'):Bool:=t.f != 2&&t.ops.any (wkB k)
def KeyAt (k:Int) (ob:ZO) (l u:Nat):Prop:=l % 2=0/\ob l=some ⟨u,.cells [.int .i64 k]⟩
def evo263 {k:Int}{ob:ZO}{l u:Nat}(c:KeyAt k ob l u) (o:Op') (tk:Nat->Bool) (base ub:Nat):EvO E 263 [.agg (yQ o),.ptr l u 0] ob tk base ub (.bool (wkB k o)):=by
 obtain⟨e,d⟩:=c;refine J1 rfl ?_;have a:¬l=2*ub+1:=zO;unfold wkB;cases b:o.w
 ·conv in(occs:=*)S263=>all_goals cbv
  simp[yQ,j0,b];exact j5 rfl zS rfl
 ·conv in(occs:=*)S263=>all_goals cbv
  simp[yQ,j0,b,a,d];exact j5 rfl zS rfl
def evo293 {p:Op'->Bool}{g:FuncId}{cap:V}{ob:ZO}(y:E.sh true g=false) (e:cap.strip.pureTop=false) (hp:∀(t:Op') (tk:Nat->Bool) (base ub:Nat),EvO E g [.agg (yQ t),cap] ob tk base ub (.bool (p t)))
 (nl:Bool) (l:List Op') (w:l.length<=1000000000) (tk:Nat->Bool) (base ub:Nat):EvO E 293 [yl nl yQ l,.fn (.func g) [] [cap]] ob tk base ub (.int .i64 (W8 p l)):=by
 refine J1 rfl ?_;conv in(occs:=*)S293=>all_goals cbv
 simp;refine j9 [(4,5),(8,18)] l.length (λi s=>s.tm 8=.int .i64 i/\s.ob=ob/\∀j (c:j<l.length),j<i->p l[j]=false) rfl rfl ⟨zS,zS,λ_ _ h=>by omega⟩ ?_;rintro i s B ⟨k,q,m⟩ f;have x:s.tm 0=yl nl yQ l:=by rw[f.t 0 zS];simp
 have z:s.tm 1=.fn (.func g) [] [cap]:=by rw[f.t 1 zS];simp
 have r:s.tm 7=.int .i64 l.length:=by rw[f.t 7 zS];simp
 have o:s.df=[]:=by rw[f.d];simp
 clear f;by_cases a:i<l.length;have u:=jb a w;simp[x,z,r,k,a,j7 jH,jd jH];refine Wq (f:=g) (first:=[]) (captured:=[cap]) zS y (by simp[e]) (v:=.bool (p l[i])) (by simpa[q] using hp l[i] _ _ _) ?_;cases b:p l[i];simp[k,u];refine⟨a,q,?_⟩;intro j c n;rcases bg.1 n with h|rfl;exact m j c h;exact b;simp;refine j5 (zU o) ?_ rfl;simp;rw[YZ a b m];have:i=l.length:=zO;subst this;simp[r,k];refine j5 (zU o) ?_ rfl;simp[W7 (λj c=>m j c c)]
def evo262 {p:Op'->Bool}{g:FuncId}{ob:ZO}{a b c:Nat}(e:E.sh true g=false) (hp:∀(t:Op') (tk:Nat->Bool) (base ub:Nat),EvO E g [.agg (yQ t),.ptr a b c] ob tk base ub (.bool (p t)))
 (nl:Bool) (l:List Op') (d:l.length<=1000000000) (tk:Nat->Bool) (base ub:Nat):EvO E 262 [yl nl yQ l,.fn (.func g) [] [.ptr a b c]] ob tk base ub (.bool (l.any p)):=by
 refine J1 rfl ?_;conv in(occs:=*)S262=>all_goals cbv
 simp;refine jW (vs:=[yl nl yQ l,.fn (.func g) [] [.ptr a b c]]) zS rfl rfl (evo293 e rfl hp nl l d _ _ _) ?_;simp;exact j5 rfl (by simp[jax]) rfl
def evo261 {k:Int}{ob:ZO}{l u:Nat}(c:KeyAt k ob l u) (t:Txn') (i:t.ops.length<=1000000) (tk:Nat->Bool) (base ub:Nat):EvO E 261 [.agg (jl t),.ptr l u 0] ob tk base ub (.bool (wrB k t)):=by
 have a:¬l=2*ub+1:=by have:=c.1;omega
 refine J1 rfl ?_;unfold wrB;cases d:(t.f != 2)
 ·conv in(occs:=*)S261=>all_goals cbv
  simp[jl,j0,d];exact j5 rfl zS rfl
 ·conv in(occs:=*)S261=>all_goals cbv
  simp[jl,j0,d];refine jW (vs:=[yl t.nl yQ t.ops,.fn (.func 263) [] [.ptr l u 0]]) zS rfl rfl (evo262 (p:=wkB k) rfl (λh tk base b=>evo263 ?_ h tk base b) t.nl t.ops zO _ _ _) ?_;obtain⟨g,e⟩:=c;exact⟨g,by simp[a,e]⟩;simp;exact j5 rfl zS rfl
def yN (g:Hist') (k:Int):List Int:=yt (wrB k) g.ts g.ts.length
def ev218 {g:Hist'}(y:Small g) (L:Yr g=true) (k:Int):∃v,Ev E 218 [.agg (ya g),.int .i64 k] v/\j1l (yN g k) v:=by
 have o:=ev53 y;rw[W2 L]at o;have K:=y.ts;refine X6 rfl zQ ?_;conv in(occs:=*)F218=>all_goals cbv
 simp[ya,j0];refine jL o zI rfl zI ?_;simp[j0];refine j9 [(4,4),(6,8),(16,28)] g.ts.length (λi s=>s.tm 16=.int .i64 i/\s.ob 6=some ⟨64,.cells [.int .i64 k]⟩/\Grow s.tk 0 s.nx yf 1 (yt (wrB k) g.ts i) (s.tm 6)) rfl rfl ⟨zS,zS,by simp[yt];exact Grow.nil _ _ _ _ _⟩ ?_;rintro i s hi ⟨j,x,z⟩ f;have I:s.tm 5=.fn (.func 261) [] [.ptr 6 64 0]:=by rw[f.t 5 zS];simp
 have B:s.tm 14=yl g.tn jl g.ts:=by rw[f.t 14 zS];simp
 have n:s.tm 15=.int .i64 g.ts.length:=by rw[f.t 15 zS];simp
 have G:s.df=[]:=by rw[f.d];simp
 have J:s.fb=0:=by rw[f.b];simp
 have fr:s.ro=0:=by rw[f.r];simp
 clear f;by_cases e:i<g.ts.length;have D:=jb e zO;have c:=Jk (p:=wrB k) e;obtain⟨t,m⟩:∃t,g.ts[i]=t:=⟨_,rfl⟩;rw[m]at c;have M:=y.os t (m▸au e);have H:=Jh (wrB k) g.ts i;simp[j,B,n,e,j7 jA,jd jA,m,jl,j0,J,fr,j6,I];refine Wq (f:=261) (first:=[]) (captured:=[.ptr 6 64 0]) zS rfl (by simp;rfl) (evo261 (k:=k) (l:=6) (u:=64) ⟨rfl,by simp[x]⟩ t zO _ _ _) ?_;cases hi:wrB k t;rw[hi]at c;simp only[ah,zc,aP]at c;simp[j,D,x];exact⟨e,by rw[c];exact z.mono (λu _ _ h=>by simpa[jq] using h) zO⟩;rw[hi]at c;simp only[zd]at c;simp;refine jN (cs:=[.int .i64 i]) (by simp[j6]) rfl rfl ?_;simp;refine Xn (f:=yf) (lo:=0) (hi:=s.nx) (l:=yt (wrB k) g.ts i) (a:=(i:Int)) (v:=s.tm 6) (z.mono (λu _ _ h=>by simp[jf,h]) zK) zS (by simp[jF,yf]) j8 zQ rfl zO zO (λN F=>?_);have w:yt (wrB k) g.ts (i+1)≠[]:=by rw[c];simp
 have q:(yt (wrB k) g.ts i).length+1=(yt (wrB k) g.ts (i+1)).length:=by rw[c];simp
 rw[<- c,q];simp[j,D,x];exact⟨e,.inr ⟨w,_,rfl,by simp[jf],ch _,zO⟩⟩;have:i=g.ts.length:=zO;subst this;obtain⟨t,m⟩:=z.form;simp[j,n];exact slE (t:=t) (nl:=(yt (wrB k) g.ts g.ts.length).isEmpty) (k:=(yN g k).length) (cs:=(yN g k).flatMap yf) (λr h=>⟨_,h⟩) (by simp[G]) (by simp[m,yN])
def jr4 (g:Hist'):Nat->Nat
 |0=>0
 |i+1=>max (jr4 g i) (yN g i).length
def mostH (g:Hist'):Nat:=jr4 g g.ks.length
def jm4 {g:Hist'}(a:Small g):∀i,jr4 g i<=1000
 |0=>ch _
 |i+1=>by have b:=jm4 a i;have d:=Jh (wrB i) g.ts g.ts.length;have c:=a.ts;simp only[jr4,yN];omega
end Go.Pv.T
