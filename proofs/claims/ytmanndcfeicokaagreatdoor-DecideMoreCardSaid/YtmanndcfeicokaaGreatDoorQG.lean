/- Part. -/
import Derived.Test.YtmanndcfeicokaaGreatDoorQF
set_option maxRecDepth 100000
set_option maxHeartbeats 8000000
set_option linter.all false
namespace Go.Pv.T
open Go Go.Pv
def jw3 {E:Env}{st:St}{ub:Nat}{K:List FP->St->Prop}{d:Option Nat}{nm:Bool}{r:List AOpr}{sz a n:Nat}{zero:List V}{x y:A}(b:yc E st.tm x=.int .i64 (n:Int)) (f:yc E st.tm y=.int .i64 (n:Int)) (e:n*a<=140737488355328) (i:n<=140737488355328) (g:zero.length=sz) (c:0<sz)
 (h:W1 E r K (yc E st.tm) (.mkSl true sz a zero x y) st d ub { v:=.osl (jF d nm st.fb ub) ub 0 n sz,obs:=[(jF d nm st.fb ub,⟨ub,.cells (jai n zero)⟩)] }):jC E (⟨d,.mkSl true sz a zero x y,none,nm⟩::r) st ub K:=by
 rw[JC rfl];simp only[yR,b,f];rw[zb (by refine⟨zO,zO,?_,zO,g,c⟩;rw[<- gz];exact ic.2 e)];simp only[cl,ak,false_and,zc,JZ,jJ,JY,bh];exact h
def jro (n:Nat):jai n [.bool false]=(List.replicate n false).map V.bool:=by unfold jai;apply gp;simp;intro i a b;simp[List.getD,Nat.mod_one]
def jk6 (ks:List Int):∀(bs:List Bool) (j:Nat) (a:j<bs.length),(∀k∈ks,0<=k)->(yN bs ks)[j]? = some (bs[j]||ks.any λk=>k==(j:Int)):=by
 induction ks with
 |nil=>intro bs j a _;simp[yN,a]
 |cons k ks c=>
  intro bs j a h;have f:=h k zS;have:=c (bs.set k.toNat true) j (zU a) (λx d=>h x (by simp[d]));show(yN (bs.set k.toNat true) ks)[j]? = _;rw[this,List.getElem_set,bG];by_cases b:k.toNat=j;have:k=(j:Int):=zO;simp[this];have:¬k=(j:Int):=zO;have e:(k==(j:Int))=false:=by simpa using this
  rw[za b,e,cw]
def jk7 {ks:List Int}{n:Nat}(h:∀k∈ks,0<=k/\k<n):(yN (List.replicate n false) ks).all id=decide ((dd ks).length=n):=by
 have i:=(j26 n (dd ks) (j0i ks) (λx b=>h x (mem_dd.1 b))).2;rw[bu,ap,ze,i];constructor;intro a k f;have g:k<(yN (List.replicate n false) ks).length:=by rw[Y7];simpa using f
 have:=a _ (av g);have d:=jk6 ks (List.replicate n false) k (zU f) (λx b=>(h x b).1);rw[aa g,ab]at d;rw[d]at this;simp at this;exact mem_dd.2 this;intro a x b;obtain⟨j,e,rfl⟩:=bo b;have c:j<n:=by rw[Y7]at e;simpa using e
 have d:=jk6 ks (List.replicate n false) j (zU c) (λx b=>(h x b).1);rw[aa e,ab]at d;rw[d];have:=mem_dd.1 (a j c);simp;exact this
def jlk (h:Hist'):h.ts.all (Yq h)=(h.ts.all (jdy h)&&(jcw h).all (opB h)):=by
 unfold jcw;induction h.ts with
 |nil=>rfl
 |cons t l a=>simp only[bW,ba,eE,a,Yq];cases jdy h t<;>cases t.ops.all (opB h)<;>cases l.all (jdy h)<;>simp
def within_iff {n:Int}{l:Nat}:YM n l=true ↔ 0<=n/\n<l:=by unfold YM;simp
def j0p {h:Hist'}(d:Xa h=true) (a:h.ts.all (Yq h)=true):Yp h=((yN (List.replicate h.ks.length false) (usesK h)).all id&&(yN (List.replicate h.ss.length false) (usesS h)).all id):=by
 rw[jlk,aj]at a;have e:∀k∈usesS h,0<=k/\k<h.ss.length:=by intro k b;obtain⟨t,c,rfl⟩:=aI.1 b;have:=ap.1 a.1 t c;unfold jdy at this;rw[aj]at this;exact within_iff.1 this.1
 have f:∀k∈usesK h,0<=k/\k<h.ks.length:=by intro k b;obtain⟨t,c,rfl⟩:=aI.1 b;have:=ap.1 a.2 t c;unfold opB at this;rw[aj]at this;exact within_iff.1 this.1
 rw[jk7 e,jk7 f];unfold Yp jq7;rw[d,a.1,a.2];simp only[cp];rw[fU]
def j7k {h:Hist'}(a:Xa h=false):errH h=4:=by unfold errH Yp;rw[a];rfl
def j7j {h:Hist'}(a:h.ts.all (Yq h)=false):errH h=4:=by unfold errH Yp;rw[jlk]at a;rw[<- eP (h.ts.all (jdy h)),a];simp
def jgd (l:List Bool):Bool:=l.all id
def jqt:jgd []=true:=rfl
def jl4 {l:List Bool}{j:Nat}(h:j<l.length):jgd (l.take (j+1))=(jgd (l.take j)&&l[j]):=by unfold jgd;rw[aw h,eE];simp
def ev48 {h:Hist'}(Q:Small h):Ev E 48 [.agg (ya h)] (.int .i64 (errH h)):=by
 refine jV rfl ?_;have d1:=Q.ts;have d2:=Q.ks;have d3:=Q.ss;have e1:=ev79 h.sn h.ss zO (λs hx=>by have:=Q.sl s hx;omega);have e2:=ev79 h.kn h.ks zO (λs hx=>by have:=Q.kl s hx;omega);obtain⟨R,hR⟩:∃R,errH h=R:=⟨_,rfl⟩;have p:Xa h=false->R=4:=λX=>hR▸j7k X;have Z:h.ts.all (Yq h)=false->R=4:=λX=>hR▸j7j X;rw[hR];conv in(occs:=*)F48=>all_goals cbv
 simp[ya,j0];refine jQ e1 zS rfl rfl ?_;cases b1:jyk h.ss;rw[p (by unfold Xa;rw[b1];rfl)];simp;exact j4 rfl zS rfl;simp[j0];refine jQ e2 zS rfl rfl ?_;cases b2:jyk h.ks;rw[p (by unfold Xa;rw[b1,b2];rfl)];simp;exact j4 rfl zS rfl;by_cases c1:20<(h.ss.length:Int);rw[p (by unfold Xa;simp;omega)];simp[j0,c1];exact j4 rfl zS rfl;by_cases c2:40<(h.ks.length:Int);rw[p (by unfold Xa;simp;omega)];simp[j0,c1,c2];exact j4 rfl zS rfl;by_cases c3:40<(h.ts.length:Int);rw[p (by unfold Xa;simp;omega)];simp[j0,c1,c2,c3];exact j4 rfl zS rfl;have X:Xa h=true:=by unfold Xa;rw[b1,b2];simp;omega
 simp[j0,c1,c2,c3];refine jw3 (n:=h.ks.length) zS zS zO zO rfl zQ ?_;simp[j0];refine jw3 (n:=h.ss.length) zS zS zO zO rfl zQ ?_;simp[jro];refine⟨by simp[Jp,Q7,Qt,ja7,yx,yy,yO,Delta.wo,Delta.wt];decide,?_⟩;refine jf λw a=>?_;have g1:w.tm 1=.ptr 1 0 0:=by rw[a];simp
 have g3:w.tm 3=.osl 4225 2112 0 h.ks.length 1:=by rw[a];simp
 have g4:w.tm 4=.osl 4737 2368 0 h.ss.length 1:=by rw[a];simp
 have g5:w.tm 5=.int .i64 0:=by rw[a];simp
 have p1:w.ob 1=some ⟨0,.cells (ya h)⟩:=by rw[a];simp[ya]
 have pk:w.ob 4225=some ⟨2112,.cells ((List.replicate h.ks.length false).map V.bool)⟩:=by rw[a];simp
 have ps:w.ob 4737=some ⟨2368,.cells ((List.replicate h.ss.length false).map V.bool)⟩:=by rw[a];simp
 have gd:w.df=[]:=by rw[a];simp
 have gb:w.fb=0:=by rw[a];simp
 have gr:w.ro=0:=by rw[a];simp
 have gn:2400<=w.nx:=by rw[a];simp
 clear a;generalize hB:List.replicate h.ks.length false=B at *;generalize hC:List.replicate h.ss.length false=D at *;have U:B.length=h.ks.length:=by rw[<- hB];simp
 have b0:D.length=h.ss.length:=by rw[<- hC];simp
 refine j7 [(2,2),(5,5),(45,68)] h.ts.length (λi s=>s.tm 5=.int .i64 i/\s.ob 1=some ⟨0,.cells (ya h)⟩/\s.ob 4225=some ⟨2112,.cells ((yN B ((h.ts.take i).flatMap λt=>t.ops.map (·.key))).map V.bool)⟩ /\
  s.ob 4737=some ⟨2368,.cells ((yN D ((h.ts.take i).map (·.s))).map V.bool)⟩/\2400<=s.nx/\(h.ts.take i).all (Yq h)=true) rfl rfl ⟨by simp[g5],p1,by simp[pk,yN],by simp[ps,yN],gn,zS⟩ ?_
 rintro i s hi ⟨h5,o1,ok,os,e,z⟩ f;have f1:=(f.t 1 zS).trans g1;have f3:=(f.t 3 zS).trans g3;have f4:=(f.t 4 zS).trans g4;have fd:=f.d.trans gd;have fb:s.fb=0:=by rw[f.b,gb]
 have fr:=f.r.trans gr;clear f;by_cases c:i<h.ts.length;have L:=jc c zO;obtain⟨t,J⟩:∃t,h.ts[i]=t:=⟨_,rfl⟩;have c4:t∈h.ts:=J▸av c;have d4:=Q.os t c4;have c8:=jh j9 s.ob h.ts c;rw[J]at c8;simp[h5,f1,o1,j0,ya,c,j6 j9,jh j9,J,f3];refine jb3 (vs:=[.agg (ya h),.agg (jt t),.osl 4225 2112 0 h.ks.length 1]) zI rfl ?_;simp[fr,fb];have b5:(yN B ((h.ts.take i).flatMap λt=>t.ops.map (·.key))).length=h.ks.length:=by rw[Y7,U]
 have N:(yN D ((h.ts.take i).map (·.s))).length=h.ss.length:=by rw[Y7,b0]
 obtain⟨⟨v,b9,b7,c9⟩,hr,hv,hg⟩:=ev80 (Yf:=YO) (h:=h) (t:=t) zO (ob:=s.ob) (tk:=s.tk) (ro:=0) (base:=61440) (ub:=s.nx+64+64+64+64+64+64+64+64+64+64+64+64) (l:=4225) (u:=2112) b5 ok zO zO (λm hm=>by omega);refine⟨v,b9,b7,c9,hr,?_⟩;simp only at hv hg;subst hv;cases o:Yq h t;rw[Z (joe c (by rw[J];exact o))];simp[put];exact j4 (by simp[fd]) zS rfl;obtain⟨q1,q2,q3,q4⟩:=hg o;have c5:=(q2 1 zQ (λm hm=>by omega)).trans o1;have qs:=(q2 4737 zQ (λm hm=>by omega)).trans os;have K:jdy h t=true:=by unfold Yq at o;rw[aj]at o;exact o.1
 have S:0<=t.s/\t.s<h.ss.length:=by unfold jdy at K;rw[aj]at K;exact within_iff.1 K.1
 have y:=jjd (l:=4737) (u:=2368) (n:=h.ss.length) (kk:=.i64) S.1 S.2;have c0:=jgt (yN D ((h.ts.take i).map (·.s))) t.s.toNat (by rw[N];omega);have c7:(h.ts.flatMap jt)[i*3]? = some (.int .i64 t.s):=by have:=jk j9 h.ts c (by decide:0<3);rw[br,J]at this;rw[this];rfl
 have b8:yN B ((h.ts.take (i+1)).flatMap λt=>t.ops.map (·.key))=yN (yN B ((h.ts.take i).flatMap λt=>t.ops.map (·.key))) (t.ops.map (·.key)):=by rw[aw c,ch,jwa,J];simp
 have c6:yN D ((h.ts.take (i+1)).map (·.s))=(yN D ((h.ts.take i).map (·.s))).set t.s.toNat true:=by rw[aw c,bw,J];exact jhn _ _ _
 have T:(h.ts.take (i+1)).all (Yq h)=true:=by rw[aw c,eE,z,J];simp[o]
 rw[<- b8]at q1;have a0:t.s.toNat+1<=h.ss.length:=zO;obtain⟨mk,b6⟩:∃m,yN B ((h.ts.take (i+1)).flatMap λt=>t.ops.map (·.key))=m:=⟨_,rfl⟩;rw[b6]at q1;generalize yN D ((h.ts.take i).map (·.s))=md at *;simp[put,yf,f1,f4,h5,c5,j0,ya,c,j6 j9,c7,y,qs,N,c0,L,q1,a0];refine⟨by rw[b6],by rw[<- fh,c6,dI],zO,?_⟩;rw[ap]at T;exact T;have:i=h.ts.length:=zO;subst this;rw[bf]at z ok os;have F:=j0p X z;have hK:(h.ts.flatMap λt=>t.ops.map (·.key))=usesK h:=by unfold usesK jcw;rw[List.map_flatMap]
 have hS:h.ts.map (·.s)=usesS h:=rfl;rw[hK]at ok;rw[hS]at os;rw[hB,hC]at F;have b5:(yN B (usesK h)).length=h.ks.length:=by rw[Y7,U]
 have N:(yN D (usesS h)).length=h.ss.length:=by rw[Y7,b0]
 have H:R=if jgd (yN B (usesK h))&&jgd (yN D (usesS h)) then 0 else 4:=by rw[<- hR,errH,F];rfl
 clear F hR;generalize yN B (usesK h)=mk at *;generalize yN D (usesS h)=md at *;simp[h5,f1,o1,j0,ya];refine j7 [(6,7),(69,81)] h.ks.length (λi O=>O.tm 7=.int .i64 i/\O.ob=s.ob/\O.tm 6=.bool (jgd (mk.take i))) rfl rfl ⟨zS,zS,by simp[jqt]⟩ ?_;rintro j s1 hj ⟨k7,ko,P⟩ f;have m3:s1.tm 3=.osl 4225 2112 0 h.ks.length 1:=by rw[f.t 3 zS];simp[f3]
 have m4:s1.tm 4=.osl 4737 2368 0 h.ss.length 1:=by rw[f.t 4 zS];simp[f4]
 have d0:s1.df=[]:=by rw[f.d];simp[fd]
 clear f;by_cases g:j<h.ks.length;have L:=jc g zO;have q:j<mk.length:=zO;have y:=jjd (l:=4225) (u:=2112) (n:=h.ks.length) (kk:=.i64) (x:=(j:Int)) zO zO;have e:jgd (mk.take (j+1))=(jgd (mk.take j)&&mk[j]):=jl4 q;cases G:jgd (mk.take j);rw[G]at P e;simp[k7,m3,g,P,L,ko];rw[e];rfl;rw[G]at P e;simp[k7,m3,g,P,L,ko,y,j0,ok,q];rw[e];rfl;have:j=h.ks.length:=zO;subst this;have M:mk.take h.ks.length=mk:=aM zO;rw[M]at P;simp[k7,m3];refine j7 [(6,6),(8,8),(82,94)] h.ss.length (λi O=>O.tm 8=.int .i64 i/\O.ob=s.ob/\O.tm 6=.bool (jgd mk&&jgd (md.take i))) rfl rfl ⟨zS,by simp[ko],by simp[P,jqt]⟩ ?_;rintro j s2 hj ⟨z8,zo,I⟩ f;have y4:s2.tm 4=.osl 4737 2368 0 h.ss.length 1:=by rw[f.t 4 zS];simp[m4]
 have yd:s2.df=[]:=by rw[f.d];simp[d0]
 clear f;by_cases g:j<h.ss.length;have L:=jc g zO;have q:j<md.length:=zO;have y:=jjd (l:=4737) (u:=2368) (n:=h.ss.length) (kk:=.i64) (x:=(j:Int)) zO zO;have e:jgd (md.take (j+1))=(jgd (md.take j)&&md[j]):=jl4 q;cases G:(jgd mk&&jgd (md.take j));have k:(jgd mk&&jgd (md.take (j+1)))=false:=by rw[e,<- eP,G];rfl
 rw[G]at I;simp[z8,y4,g,I,L,zo];intro hm;rw[hm]at k;exact k;have k:(jgd mk&&jgd (md.take (j+1)))=md[j]:=by rw[e,<- eP,G];rfl
 rw[G]at I;simp[z8,y4,g,I,L,zo,y,j0,os,q];exact k.symm;have:j=h.ss.length:=zO;subst this;have M:md.take h.ss.length=md:=aM zO;rw[M]at I;cases G:(jgd mk&&jgd md);rw[G]at I H;simp[z8,y4,I];exact j4 (by simp[yd]) (by simp[H]) rfl;rw[G]at I H;simp[z8,y4,I];exact j4 (by simp[yd]) (by simp[H]) rfl
section
variable {E:Env}{Yf:YF}{st:St}{ub:Nat}{K:St->Nat->Prop}{d:Option Nat}{nm:Bool}
def JB {sz n:Nat}{zero:List V}{a:List (Nat×Nat×A)}{cs:List V}(b:fill zero (jw (yc E st.tm) a)=some cs) (c:cs.length=n*sz) (hp:cs.all V.leaf=true)
 (h:Q6 K st d ub { v:=.osl (jF d nm st.fb ub) ub 0 n sz,obs:=[(jF d nm st.fb ub,⟨ub,.cells cs⟩)] }):j5 E Yf ⟨d,.buildSl true sz zero a n,none,nm⟩ st ub K:=by
 rw[jR _ rfl rfl];simp only[yR,b,am,zd,JY];rw[zb ⟨c,hp⟩,JZ,jJ];exact h
def Js {sz a n:Nat}{cs ys:List V}{s x:A}(g:yc E st.tm s=.sl none true n cs) (i:jE st.ob sz (yc E st.tm x)=some ys) (b:ys≠[]) (e:0<sz) (hp:ys.all V.leaf=true)
 (f:(ys.length/sz)*a<=140737488355328) (c:ys.length/sz<=140737488355328) (h:Q6 K st d ub { v:=.osl (jF d nm st.fb ub) ub 0 (ys.length/sz) sz,obs:=[(jF d nm st.fb ub,⟨ub,.cells ys⟩)] }) :
 j5 E Yf ⟨d,.append true sz a s x,none,nm⟩ st ub K:=by
 rw[jR _ rfl rfl];simp only[yR,g,i,am,za b,dc,zd,JY];rw[zb ⟨e,hp,f,c⟩,JZ,jJ];exact h
def XT {sz a l u n:Nat}{cs ys:List V}{s x:A}(k:yc E st.tm s=.osl l u 0 n sz) (m:jE st.ob sz (yc E st.tm x)=some ys) (g:st.ob l=some ⟨u,.cells cs⟩) (c:ys≠[]) (f:st.ro<=u) (o:n*sz<=cs.length) (i:0<sz) (hp:ys.all V.leaf=true)
 (j:(n+ys.length/sz)*a<=140737488355328) (e:n+ys.length/sz<=140737488355328)
 (h:Q6 K st d ub { v:=.osl (jF d nm st.fb ub) ub 0 (n+ys.length/sz) sz,obs:=[(jF d nm st.fb ub,⟨ub,.cells (cs.take (n*sz)++ys)⟩)],kill:=[l] }) :
 j5 E Yf ⟨d,.append true sz a s x,none,nm⟩ st ub K:=by
 rw[jR _ rfl rfl];have b:j0 st.ob l u=some cs:=by simp[j0,g]
 simp only[yR,k,m,am,b,za c,JY];rw[zb ⟨bT▸f,trivial,trivial,o,i,hp,j,e⟩,jJ];exact h
end
@[simp] theorem app_obk (st:St) (d:Option Nat) (v:V) (l k l':Nat) (o':Obj'):(st.app d { v:=v,obs:=[(l,o')],kill:=[l'] }).ob k=if k=l then some o' else if k=l' then none else st.ob k:=by
 have e:(Nat.beq k l')=decide (k=l'):=by rw[bu];simp
 simp only[St.app,JP,yf,bG,bP,bx,e,ze]
def j76 (st:St) (d:Option Nat) (v:V) (obs:List (Nat×Obj')) (kl:List Nat):(st.app d { v:=v,obs:=obs,kill:=kl }).tk=st.tk:=by funext u;simp[jx]
end Go.Pv.T
namespace Go.Pv.T
open Go Go.Pv
end Go.Pv.T
namespace Go.Pv.T
open Go Go.Pv
@[simp] theorem cells_osl (a b c d e:Nat):(V.osl a b c d e).cells=[.osl a b c d e]:=rfl
@[simp] theorem leaf_osl (a b c d e:Nat):(V.osl a b c d e).leaf=true:=rfl
def jci (st:St) (v:V) (nl:Bool) (n:Nat) (cs:List V):Prop:=∀keep i,∃a,jr st keep i v=some (.sl a nl n cs)/\(a=none\/∃z,a=some (i,z))
def XJ (st:St) (t:Option (Nat×Nat)) (nl:Bool) (n:Nat) (cs:List V):jci st (.sl t nl n cs) nl n cs:=by
 intro keep i;cases t with
 |none=>exact⟨none,rfl,.inl rfl⟩
 |some p=>obtain⟨u,z⟩:=p;refine⟨_,rfl,?_⟩;split;exact .inr ⟨z,rfl⟩;exact .inl rfl
def jtj (r:V) (g:Hist'):Prop:=∃a b c:Option (Nat×Nat),r=.agg [.sl a g.sn g.ss.length (g.ss.flatMap Jj),.sl b g.kn g.ks.length (g.ks.flatMap Jj),.sl c g.tn g.ts.length (g.ts.flatMap jt)]/\(∀p∈a.toList++b.toList++c.toList,p.1<64)
def jcn (a:Option (Nat×Nat)) (nl:Bool) (n:Nat) (cs:List V):(V.sl a nl n cs).tok=a.toList.map (·.1):=by
 cases a with
 |none=>rfl
 |some p=>rfl
def j9e {a:Option (Nat×Nat)}{nl:Bool}{n:Nat}{cs:List V}{i:Nat}:i∈(V.sl a nl n cs).tok ↔ ∃p∈a.toList,p.1=i:=by rw[jcn,aI]
def Grow {α:Type}(tk:Nat->Bool) (lo nx:Nat) (f:α->List V) (sz:Nat) (l:List α) (v:V):Prop :=
 (l=[]/\v=.sl none true 0 [])\/(l≠[]/\∃u,v=.sl (some (u,sz)) false l.length (l.flatMap f)/\tk u=true/\lo<=u/\u<nx)
def Grow.nil {a:Type}(tk:Nat->Bool) (lo nx:Nat) (f:a->List V) (sz:Nat):Grow tk lo nx f sz [] (.sl none true 0 []):=.inl ⟨rfl,rfl⟩
def Grow.form {c:Type}{tk:Nat->Bool}{lo nx:Nat}{f:c->List V}{sz:Nat}{l:List c}{v:V}(h:Grow tk lo nx f sz l v):∃t,v=.sl t l.isEmpty l.length (l.flatMap f):=by
 rcases h with⟨rfl,rfl⟩|⟨b,u,rfl,_⟩;exact⟨none,rfl⟩;cases l with
 |nil=>exact zf rfl b
 |cons a l=>exact⟨_,rfl⟩
def Grow.mono {e:Type}{tk a:Nat->Bool}{lo nx nx':Nat}{f:e->List V}{sz:Nat}{l:List e}{v:V}(h:Grow tk lo nx f sz l v) (g:∀u,lo<=u->u<nx->tk u=true->a u=true) (m:nx<=nx'):Grow a lo nx' f sz l v:=by rcases h with h|⟨b,u,j,k,c,i⟩;exact .inl h;exact .inr ⟨b,u,j,g u c i k,c,zO⟩
section
variable {E:Env}{Yf:YF}{st:St}{ub:Nat}{K:St->Nat->Prop}{d:Option Nat}{nm:Bool}
def XU {j:Type}{f:j->List V}{sz b lo hi:Nat}{l:List j}{a:j}{v:V}{s x:A}(r:Grow st.tk lo hi f sz l v) (o:yc E st.tm s=v) (p:jE st.ob sz (yc E st.tm x)=some (f a)) (i:∀a,(f a).length=sz) (k:0<sz)
 (hp:(f a).all V.pureLeaf=true) (n:(l.length+1)*b<=140737488355328) (m:l.length+1<=140737488355328)
 (h:∀del:Option Nat,(∀u,del=some u->lo<=u/\u<hi)->Q6 K st d ub { v:=.sl (some (ub,sz)) false (l.length+1) ((l++[a]).flatMap f),del:=del,add:=[ub] }):j5 E Yf ⟨d,.append false sz b s x,none,nm⟩ st ub K:=by
 have g:f a≠[]:=λe=>by have:=i a;rw[e]at this;simp at this;omega
 have c:(f a).length/sz=1:=by rw[i];exact gY k
 rcases r with⟨rfl,rfl⟩|⟨y,u,rfl,t,q,w⟩;refine ji9 o p g k hp (by rw[c];simpa using n) (by rw[c];simp) ?_;rw[c];have:=h none (λu e=>by cases e);simpa using this;refine YS o t p g (by rw[j3 i]) k hp (by rw[c];exact n) (by rw[c];exact m) ?_;rw[c];have:=h (some u) (λz e=>by cases e;exact⟨q,w⟩);simpa using this
end
def Q5 (res:List ARes) (P:V->Prop):Ex->St->Prop:=λe s=>∃r,jcj res (e,s)=some r/\P r
def XI {f:FuncId}{af:AF}{args:List V}{P:V->Prop}(b:E.fc f=some af) (e:af.body.one=true) (h:wpC E YO af.body (Qz args) (Q5 af.res P)):∃r,Ev E f args r/\P r:=by obtain⟨n,x,g,r,d,c⟩:=jkq e h λ_=>rfl;refine⟨r,⟨n+1,?_⟩,c⟩;simp only[yJ,b,am];rw[show jZ E (yJ E n) noY n af.body (Qz args)=some [x] from g];exact jix (cJ _ _) (λy a=>by rw[ae]at a;subst a;exact d)
end Go.Pv.T
namespace Go.Pv.T
open Go Go.Pv
end Go.Pv.T
namespace Go.Pv.T
open Go Go.Pv
section
variable {E:Env}{st:St}{ub:Nat}{K:List FP->St->Prop}{d:Option Nat}{nm:Bool}{r:List AOpr}
def jsl {sz n:Nat}{zero:List V}{a:List (Nat×Nat×A)}{cs:List V}(b:fill zero (jw (yc E st.tm) a)=some cs) (c:cs.length=n*sz) (hp:(cs.map V.strip1).all V.pureLeaf=true)
 (h:W1 E r K (yc E st.tm) (.buildSl false sz zero a n) st d ub { v:=.sl (some (ub,sz)) false n (cs.map V.strip1),add:=[ub] }):jC E (⟨d,.buildSl false sz zero a n,none,nm⟩::r) st ub K:=by
 rw[JC rfl];simp only[yR,b,am,ak,zc];rw[zb ⟨c,hp⟩,jJ];exact h
end
@[simp] theorem j8j (s:List UInt8):(V.str s).strip1=.str s:=rfl
def endH1 {st:St}{p l u:Nat}{x y z:V}{g:Hist'}(k:st.df=[]) (hp:st.tm p=.ptr l u 0) (m:st.ob l=some ⟨u,.cells [x,y,z]⟩)
 (q:jci st x g.sn g.ss.length (g.ss.flatMap Jj)) (n:jci st y g.kn g.ks.length (g.ks.flatMap Jj)) (w:jci st z g.tn g.ts.length (g.ts.flatMap jt)):∃r,jcj [.cell p (some 3)] (.ret,st)=some r/\jtj r g:=by
 have t:(j0 st.ob l u)=some [x,y,z]:=by simp[j0,m]
 have d:[ARes.cell p (some 3)].mapM (jy st)=some [.agg [x,y,z]]:=by simp[jy,hp,t]
 obtain⟨a,s,i⟩:=q (yG (List.flatMap V.toks [.agg [x,y,z]])) 0;obtain⟨b,o,f⟩:=n (yG (List.flatMap V.toks [.agg [x,y,z]])) 1;obtain⟨c,v,h⟩:=w (yG (List.flatMap V.toks [.agg [x,y,z]])) 2;refine⟨.agg [.sl a g.sn g.ss.length (g.ss.flatMap Jj),.sl b g.kn g.ks.length (g.ks.flatMap Jj),.sl c g.tn g.ts.length (g.ts.flatMap jt)],?_,a,b,c,rfl,?_⟩;simp only[jcj,W4 k,W0 k,zd,d,am,WE];generalize yG (List.flatMap V.toks [.agg [x,y,z]])=keep at *;simp only[JR,X7,XY,s,o,v,bN,am,aO];have j:yG (List.flatMap V.toks [.agg [.sl a g.sn g.ss.length (g.ss.flatMap Jj),.sl b g.kn g.ks.length (g.ks.flatMap Jj),.sl c g.tn g.ts.length (g.ts.flatMap jt)]])=true:=by
  have e:∀x y z:V,List.flatMap V.toks [.agg [x,y,z]]=x.tok++(y.tok++z.tok):=λx y z=>by simp[V.toks]
  rw[e,jcn,jcn,jcn];rcases i with rfl|⟨_,rfl⟩<;>rcases f with rfl|⟨_,rfl⟩<;>rcases h with rfl|⟨_,rfl⟩<;>rfl
 show(if yG (List.flatMap V.toks [.agg [.sl a g.sn g.ss.length (g.ss.flatMap Jj),.sl b g.kn g.ks.length (g.ks.flatMap Jj),.sl c g.tn g.ts.length (g.ts.flatMap jt)]])=true then some (V.agg [.sl a g.sn g.ss.length (g.ss.flatMap Jj),.sl b g.kn g.ks.length (g.ks.flatMap Jj),.sl c g.tn g.ts.length (g.ts.flatMap jt)]) else none)=_;rw[zb j];intro p hp;simp only[aP]at hp;rcases hp with(hp|hp)|hp;rcases i with rfl|⟨_,rfl⟩;simp at hp;simp at hp;subst hp;simp;rcases f with rfl|⟨_,rfl⟩;simp at hp;simp at hp;subst hp;simp;rcases h with rfl|⟨_,rfl⟩;simp at hp;simp at hp;subst hp;simp
def jrn {ub:Nat}{r:V}{g:Hist'}(h:jtj r g):∃a b c add,Xd ub r=some { v:=.agg [.sl a g.sn g.ss.length (g.ss.flatMap Jj),.sl b g.kn g.ks.length (g.ks.flatMap Jj),.sl c g.tn g.ts.length (g.ts.flatMap jt)],add:=add }:=by
 obtain⟨a,b,c,rfl,l⟩:=h;have e:∀x y z:V,yv (.agg [x,y,z])=x.tok++(y.tok++z.tok):=λx y z=>by simp[yv,V.toks]
 have j:(yv (.agg [.sl a g.sn g.ss.length (g.ss.flatMap Jj),.sl b g.kn g.ks.length (g.ks.flatMap Jj),.sl c g.tn g.ts.length (g.ts.flatMap jt)])).all (λi=>Nat.blt i 64)=true:=by
  rw[e,ap];intro i o;have:∃p∈a.toList++b.toList++c.toList,p.1=i:=by rw[aP,aP,j9e,j9e,j9e]at o;rcases o with⟨p,d,h⟩|⟨p,d,h⟩|⟨p,d,h⟩;exact⟨p,by simp[d],h⟩;exact⟨p,by simp[d],h⟩;exact⟨p,by simp[d],h⟩
  obtain⟨p,d,rfl⟩:=this;rw[cZ];exact l p d
 have f:∀(t:Option (Nat×Nat)) (m:Bool) (n:Nat) (cs:List V),∃s,Xh ub (.sl t m n cs)=.sl s m n cs:=λt m n cs=>by
  cases t with
  |none=>exact⟨none,rfl⟩
  |some p=>exact⟨_,rfl⟩
 obtain⟨D,B⟩:=f a g.sn g.ss.length (g.ss.flatMap Jj);obtain⟨u,w⟩:=f b g.kn g.ks.length (g.ks.flatMap Jj);obtain⟨q,F⟩:=f c g.tn g.ts.length (g.ts.flatMap jt);refine⟨D,u,q,(yv (.agg [.sl a g.sn g.ss.length (g.ss.flatMap Jj),.sl b g.kn g.ks.length (g.ks.flatMap Jj),.sl c g.tn g.ts.length (g.ts.flatMap jt)])).map (ub + ·),?_⟩;rw[Xd,zb j];have k:jad ub (.agg [.sl a g.sn g.ss.length (g.ss.flatMap Jj),.sl b g.kn g.ks.length (g.ks.flatMap Jj),.sl c g.tn g.ts.length (g.ts.flatMap jt)]) =
  .agg [Xh ub (.sl a g.sn g.ss.length (g.ss.flatMap Jj)),Xh ub (.sl b g.kn g.ks.length (g.ks.flatMap Jj)),Xh ub (.sl c g.tn g.ts.length (g.ts.flatMap jt))]:=rfl
 rw[k,B,w,F]
def kS_evV {E:Env}{Yf:YF}{st:St}{ub:Nat}{K:St->Nat->Prop}{d:Option Nat}{nm:Bool}{q:A}{xs:List A}{f:FuncId}{first captured args:List V}{v:V}(a:Ev E f args v) (e:yc E st.tm q=.fn (.func f) first captured)
 (b:(first++xs.map (yc E st.tm)++captured).map V.strip=args) (c:E.sh nm f=false) (hp:args.all V.pureTop=true) (h:wpD (Xd ub v) (Q6 K st d ub)):j5 E Yf ⟨d,.callV q xs,none,nm⟩ st ub K:=by
 refine jtt e ⟨⟨c,?_⟩,v,by rw[b];exact a,h⟩;rw[<- b,dp]at hp;exact hp
@[simp] theorem fn_strip0 (f:Fn):(V.fn f [] []).strip=.fn f [] []:=rfl
@[simp] theorem j67 (f:Fn):(V.fn f [] []).pureTop=true:=rfl
def SlR (v:V) (nl:Bool) (n:Nat) (cs:List V):Prop:=∃t:Option (Nat×Nat),v=.sl t nl n cs/\∀p∈t.toList,p.1<64
def j22 {st:St}{n k:Nat}{t:Option (Nat×Nat)}{nl:Bool}{cs:List V}(g:st.df=[]) (h:st.tm n=.sl t nl k cs):∃r,jcj [.t n] (.ret,st)=some r/\SlR r nl k cs:=by
 have b:[ARes.t n].mapM (jy st)=some [.sl t nl k cs]:=by simp[jy,h]
 obtain⟨a,i,c⟩:=XJ st t nl k cs (yG (List.flatMap V.toks [.sl t nl k cs])) 0;refine⟨.sl a nl k cs,?_,a,rfl,?_⟩;simp only[jcj,W4 g,W0 g,zd,b,am,WE];generalize yG (List.flatMap V.toks [.sl t nl k cs])=keep at *;have e:X7 st keep 0 (.sl t nl k cs)=some (.sl a nl k cs):=i;simp only[JR,e,am,aO];have f:yG (List.flatMap V.toks [.sl a nl k cs])=true:=by rcases c with rfl|⟨_,rfl⟩<;>rfl
 show(if yG (List.flatMap V.toks [.sl a nl k cs])=true then some (V.sl a nl k cs) else none)=_;rw[zb f];intro p d;rcases c with rfl|⟨_,rfl⟩;simp at d;simp at d;subst d;simp
def jip {ub:Nat}{v:V}{nl:Bool}{n:Nat}{cs:List V}(h:SlR v nl n cs):∃t add,Xd ub v=some { v:=.sl t nl n cs,add:=add }:=by
 obtain⟨t,rfl,a⟩:=h;cases t with
 |none=>exact⟨none,[],rfl⟩
 |some p=>have:=a p zS;refine⟨some (ub+p.1,p.2),[ub+p.1],?_⟩;rw[Xd,zb (by simp[yv,V.toks,V.tok,cZ,this])];rfl
def slE {st:St}{n k:Nat}{t:Option (Nat×Nat)}{nl:Bool}{cs:List V}{P:V->Prop}(b:∀r,SlR r nl k cs->P r) (a:st.df=[]) (h:st.tm n=.sl t nl k cs):Q5 [.t n] P .ret st:=by obtain⟨r,d,c⟩:=j22 a h;exact⟨r,d,b r c⟩
def jyp (l:List Int) (v:V):Prop:=∃nl,SlR v nl l.length (l.flatMap ye)
def ev95 (t:Txn'):Ev E 95 [.agg (jt t)] (.bool (X9 t)):=by
 refine jV rfl ?_;conv in(occs:=*)F95=>all_goals cbv
 simp[jt,j0];exact j4 rfl (by simp[X9]) rfl
def Wm {g:Hist'}(a:Yp g=true):errH g=0:=by unfold errH;rw[a];rfl
def ev94 {g:Hist'}(B:Small g) (J:Yp g=true):∃v,Ev E 94 [.agg (ya g),.fn (.func 95) [] []] v/\jyp (Xg g) v:=by
 have n:=j8w B;rw[Wm J]at n;have I:=B.ts;refine XI rfl zQ ?_;conv in(occs:=*)F94=>all_goals cbv
 simp[ya,j0];refine jQ n zI rfl zI ?_;simp[j0];refine j7 [(4,7),(14,26)] g.ts.length (λi s=>s.tm 14=.int .i64 i/\Grow s.tk 0 s.nx ye 1 (yq X9 g.ts i) (s.tm 5)) rfl rfl ⟨zS,by simp[yq];exact Grow.nil _ _ _ _ _⟩ ?_;rintro i s hi ⟨j,y⟩ f;have K:s.tm 1=.fn (.func 95) [] []:=by rw[f.t 1 zS];simp
 have x:s.tm 12=yj g.tn jt g.ts:=by rw[f.t 12 zS];simp
 have m:s.tm 13=.int .i64 g.ts.length:=by rw[f.t 13 zS];simp
 have F:s.df=[]:=by rw[f.d];simp
 have H:s.fb=0:=by rw[f.b];simp
 have fr:s.ro=0:=by rw[f.r];simp
 clear f;by_cases e:i<g.ts.length;have z:=jc e zO;have c:=Jw (p:=X9) e;obtain⟨t,q⟩:∃t,g.ts[i]=t:=⟨_,rfl⟩;rw[q]at c;have G:=JX X9 g.ts i;simp[j,x,m,e,j6 j9,jh j9,q,jt,j0,H,fr,j2,K];refine kS_evV (f:=95) (first:=[]) (captured:=[]) (ev95 t) zS (by simp[jt]) rfl (by simp[jt]) ?_;cases hi:X9 t;rw[hi]at c;simp only[ak,zc,aU]at c;simp[j,z];exact⟨e,by rw[c];exact y.mono (λu _ _ h=>by simpa[jn] using h) zO⟩;rw[hi]at c;simp only[zd]at c;simp;refine jU (cs:=[.int .i64 i]) (by simp[j2]) rfl rfl ?_;simp;refine XU (f:=ye) (lo:=0) (hi:=s.nx) (l:=yq X9 g.ts i) (a:=(i:Int)) (v:=s.tm 5) (y.mono (λu _ _ h=>by simp[jx,h]) zK) zS (by simp[jE,ye]) jA zQ rfl zO zO (λL D=>?_);have w:yq X9 g.ts (i+1)≠[]:=by rw[c];simp
 have o:(yq X9 g.ts i).length+1=(yq X9 g.ts (i+1)).length:=by rw[c];simp
 rw[<- c,o];simp[j,z];exact⟨e,.inr ⟨w,_,rfl,by simp[jx],bY _,zO⟩⟩;have:i=g.ts.length:=zO;subst this;obtain⟨t,q⟩:=y.form;simp[j,m];exact slE (t:=t) (nl:=(yq X9 g.ts g.ts.length).isEmpty) (k:=(Xg g).length) (cs:=(Xg g).flatMap ye) (λr h=>⟨_,h⟩) (by simp[F]) (by simp[q,Xg])
def ev54 {g:Hist'}(e:Small g) (b:Yp g=true):∃v,Ev E 54 [.agg (ya g)] v/\jyp (Xg g) v:=by
 obtain⟨v,a,nl,c⟩:=ev94 e b;refine XI rfl zQ ?_;conv in(occs:=*)F54=>all_goals cbv
 simp[ya,j0];refine jQ a zI rfl zI ?_;obtain⟨t,add,d⟩:=jip (ub:=192) c;rw[d];simp;exact slE (t:=t) (nl:=nl) (k:=(Xg g).length) (cs:=(Xg g).flatMap ye) (λr h=>⟨_,h⟩) rfl zS
def j9y {st:St}{n k l u:Nat}{t:Option (Nat×Nat)}{nl:Bool}{cs:List V}{P:V->Prop}(c:∀r,SlR r nl k cs->P r) (a:st.df=[(l,u)]) (b:st.ob l=some ⟨u,.dfr⟩) (e:st.ro<=u) (h:st.tm n=.sl t nl k cs):Q5 [.t n] P .ret st:=by obtain⟨r,f,d⟩:=j22 (st:={ st with ob:=λk=>if Nat.beq l k then none else st.ob k,df:=[] }) rfl h;exact⟨r,Qa a b e f,c r d⟩
def jD (p:Int×Int):List V:=[.int .i64 p.1,.int .i64 p.2]
@[simp] theorem jq (p:Int×Int):(jD p).length=2:=rfl
def jff (i:Nat) (ops:List Op'):Nat->List (Int×Int)
 |0=>[]
 |k+1=>jff i ops k++(match ops[k]? with|some o=>if o.v.kind==2 then [((i:Int),(k:Int))] else []|none=>[])
def jfe (ts:List Txn'):Nat->List (Int×Int)
 |0=>[]
 |i+1=>jfe ts i++(match ts[i]? with|some t=>jff i t.ops t.ops.length|none=>[])
def X8 (h:Hist') (i k:Nat):List (Int×Int):=jfe h.ts i++(match h.ts[i]? with|some t=>jff i t.ops k|none=>[])
def jc0 (h:Hist'):List (Int×Int):=jfe h.ts h.ts.length
def jcz (i:Nat) (ops:List Op'):∀k,(jff i ops k).length<=k
 |0=>dy _
 |k+1=>by have:=jcz i ops k;simp only[jff,au];split;split<;>simp<;>omega;simp;omega
def jcy {ts:List Txn'}(h:∀t∈ts,t.ops.length<=1000):∀i,(jfe ts i).length<=i*1000
 |0=>bY _
 |i+1=>by have:=jcy h i;simp only[jfe,au];rw[show(i+1)*1000=i*1000+1000 by omega];split;rename_i t a;have b:=jcz i t.ops t.ops.length;have c:=h t (aH a);omega;simp only[cn];omega
def jfh {h:Hist'}{i k:Nat}(hi:i<h.ts.length) (a:k<(h.ts[i]).ops.length):X8 h i (k+1)=X8 h i k++(if (h.ts[i]).ops[k].v.kind==2 then [((i:Int),(k:Int))] else []):=by simp only[X8,aa hi,jff,aa a,bm]
def jfi {h:Hist'}{i:Nat}(hi:i<h.ts.length):X8 h i (h.ts[i]).ops.length=X8 h (i+1) 0:=by simp only[X8,aa hi,jfe];cases h.ts[i+1]?<;>simp[jff]
def jhp (h:Hist'):X8 h h.ts.length 0=jc0 h:=by simp[X8,jc0]
def jfg (h:Hist'):X8 h 0 0=[]:=by unfold X8;cases h.ts[0]?<;>rfl
def jho {h:Hist'}(a:Small h) {i k:Nat}(hi:i<h.ts.length) (b:k<=(h.ts[i]).ops.length):(X8 h i k).length<=1001000:=by have e:=jcy a.os i;have c:=a.ts;have f:=jcz i (h.ts[i]).ops k;have d:=a.os _ (av hi);simp only[X8,aa hi,au];have:i*1000<=1000*1000:=aW _ zO;omega
def PlR (l:List (Int×Int)) (v:V):Prop:=∃nl,SlR v nl l.length (l.flatMap jD)
def ev55 {g:Hist'}(D:Small g) (hm:Yp g=true):∃v,Ev E 55 [.agg (ya g)] v/\PlR (jc0 g) v:=by
 have s:=j8w D;rw[Wm hm]at s;have K:=D.ts;refine XI rfl zQ ?_;conv in(occs:=*)F55=>all_goals cbv
 simp[ya,j0];refine jQ s zI rfl zI ?_;simp[j0];refine jb3 (vs:=[.agg (ya g)]) zI rfl ?_;obtain⟨r,T,Z,B,e3,e4⟩:=ev91 (Yf:=YO) g _ _ 0 _ _;refine⟨r,T,?_⟩;simp;refine jf λc d=>?_;obtain⟨m,b5,a0,L,p2,I,pl⟩:∃m,m % 64=0/\m<c.nx/\c.tm 10=.fn (.func 145) [] [.ptr (2*m+1) m 0]/\c.ob 2=some ⟨0,.cells (ya g)⟩/\(∃u,c.tm 3=.ptr 6 u 0/\c.ob 6=some ⟨u,.cells [.sl none true 0 []]⟩)/\c.ob (2*m+1)=some ⟨m,.cells (ya g)⟩:=by refine⟨_,?_,?_,by rw[d];simp only[jmp,put,Yr];exact Z,?_,⟨320,?_,?_⟩,?_⟩;decide;rw[d,jil,e4];omega;rw[d];simp only[JJ];rw[B];simp[ya];rw[d];simp[put,yf];rw[d];simp only[JJ];rw[B];simp;rw[d];simp only[JJ];rw[B];simp
 obtain⟨u6,M,I⟩:=I;have gd:c.df=[]:=by rw[d];simp
 have gb:c.fb=0:=by rw[d];simp
 have X:c.ro=0:=by rw[d];simp
 clear d Z B e3 e4 T;refine jg7 g K (λt ht=>by have:=D.os t ht;omega) rfl rfl rfl (zU L) pl zO zO X
  (λi k ob w q=>∃j,ob 6=some ⟨u6,.cells [j]⟩/\Grow w 0 q jD 2 (X8 g i k) j) ?_ ?_ ?_ ?_ ?_
 rintro i k ob b9 w q b7 ⟨j,n,e⟩ p G;exact⟨j,(G 6 (λm _=>by omega)).trans n,e.mono (λ_ _ _ h=>h) p⟩;rintro i hi ob w q ⟨j,n,e⟩;exact⟨j,n,by rw[<- jfi hi];exact e⟩;rintro i hi k N ob w q ⟨j,n,e⟩ w1 z p;have r1:¬2*c.nx+1=8:=zO;have r3:¬2*c.nx+1=10:=zO;have r5:¬2*c.nx+1=6:=zO;have P:¬2*c.nx+3=8:=zO;have Q:¬2*c.nx+3=10:=zO;have q5:¬2*c.nx+3=6:=zO;have q7:¬2*c.nx+3=2*c.nx+1:=zO;have b8:¬8=2*c.nx+1:=zO;have J:¬10=2*c.nx+1:=zO;have H:¬6=2*c.nx+1:=zO;have b:=jfh hi N;have b0:=jho D hi (fZ N);obtain⟨o,ho⟩:∃o,(g.ts[i]).ops[k]=o:=⟨_,rfl⟩;rw[ho]at b ⊢;obtain⟨U,y⟩:=e.form;simp[jes,yf,yP,j0,gb,j2,r1,r3,w1,J];cases S:(o.v.kind==2);rw[S]at b;simp only[ak,zc,aU]at b;simp[yf,P,Q,z,H,n];exact⟨zO,by rw[b];exact e.mono (λu _ _ h=>by simpa[jn] using h) zO⟩;rw[S]at b;simp only[zd]at b;simp[M,yf,H,n,j0,b8];refine jU (cs:=jD (i,k)) (by simp[j2,jD]) rfl rfl ?_;simp;refine XU (f:=jD) (lo:=0) (hi:=q) (l:=X8 g i k) (a:=((i:Int),(k:Int))) (v:=j) (e.mono (λu _ _ h=>by simp[jn,jx,h]) zK) zS (by simp[jE,jD]) jq zQ rfl zO zO (λc0 O=>?_);have F:X8 g i (k+1)≠[]:=by rw[b];simp
 have x:(X8 g i k).length+1=(X8 g i (k+1)).length:=by rw[b];simp
 rw[<- b,x];simp[M,yf,H,n,j0,j2,r5,q5,P,Q,z];exact⟨zO,.inr ⟨F,_,rfl,by simp[jn,jx],bY _,zO⟩⟩;exact⟨_,I,by rw[jfg];exact Grow.nil _ _ _ _ _⟩;rintro ob w q ⟨j,n,e⟩ z p;rw[jhp]at e;obtain⟨U,y⟩:=e.form;simp[M,j0,n,y];exact j9y (l:=2*c.nx+3) (u:=c.nx+1) (t:=U) (nl:=(jc0 g).isEmpty) (k:=(jc0 g).length) (cs:=(jc0 g).flatMap jD) (λr h=>⟨_,h⟩) (by simp[gd]) (by simp[z]) (by simp[X]) zS
def GrowT {α:Type}(tk:Nat->Bool) (nx:Nat) (f:α->List V) (sz:Nat) (l:List α) (v:V):Prop:=∃u,v=.sl (some (u,sz)) false l.length (l.flatMap f)/\tk u=true/\u<nx
def GrowT.mono {b:Type}{tk a:Nat->Bool}{nx nx':Nat}{f:b->List V}{sz:Nat}{l:List b}{v:V}(h:GrowT tk nx f sz l v) (g:∀u,u<nx->tk u=true->a u=true) (i:nx<=nx'):GrowT a nx' f sz l v:=by obtain⟨u,c,e,d⟩:=h;exact⟨u,c,g u d e,zO⟩
def WI {E:Env}{Yf:YF}{st:St}{ub:Nat}{K:St->Nat->Prop}{d:Option Nat}{nm:Bool}{i:Type}{f:i->List V}{sz b hi:Nat}{l:List i}{a:i}{v:V}{s x:A}(q:GrowT st.tk hi f sz l v) (p:yc E st.tm s=v) (r:jE st.ob sz (yc E st.tm x)=some (f a)) (c:∀a,(f a).length=sz) (m:0<sz)
 (hp:(f a).all V.pureLeaf=true) (o:(l.length+1)*b<=140737488355328) (j:l.length+1<=140737488355328)
 (h:∀del:Option Nat,(∀u,del=some u->u<hi)->Q6 K st d ub { v:=.sl (some (ub,sz)) false (l.length+1) ((l++[a]).flatMap f),del:=del,add:=[ub] }):j5 E Yf ⟨d,.append false sz b s x,none,nm⟩ st ub K:=by
 have g:f a≠[]:=λe=>by have:=c a;rw[e]at this;simp at this;omega
 have k:(f a).length/sz=1:=by rw[c];exact gY m
 obtain⟨u,rfl,n,t⟩:=q;refine YS p n r g (by rw[j3 c]) m hp (by rw[k];exact o) (by rw[k];exact j) ?_;rw[k];have:=h (some u) (λw e=>by cases e;exact t);simpa using this
def ev50 {g:Hist'}(I:Small g):∃v,Ev E 50 [.agg (ya g)] v/\PlR (jc0 g) v:=by
 have S:=I.ts;refine XI rfl zQ ?_;conv in(occs:=*)F50=>all_goals cbv
 simp[ya];refine jU (cs:=[]) rfl rfl rfl ?_;simp;refine j7 [(3,5),(7,42)] g.ts.length (λi s=>s.tm 4=.int .i64 i/\s.ob 2=some ⟨0,.cells (ya g)⟩/\GrowT s.tk s.nx jD 2 (X8 g i 0) (s.tm 3)) rfl rfl ⟨zS,zI,by rw[jfg];exact⟨128,zS,by simp[jx],zS⟩⟩ ?_;rintro i s hi ⟨H,D,J⟩ f;have G:s.tm 1=.ptr 2 0 0:=by rw[f.t 1 zS];simp
 have M:s.df=[]:=by rw[f.d];simp
 clear f;by_cases c:i<g.ts.length;have Q:=jc c zO;simp[H,G,D,j0,ya,c];refine j7 [(3,3),(5,5),(14,42)] (g.ts[i]).ops.length (λk j=>j.tm 5=.int .i64 k/\j.ob=s.ob/\GrowT j.tk j.nx jD 2 (X8 g i k) (j.tm 3)) rfl rfl ⟨zS,zS,by simp;exact J.mono (λ_ _ h=>h) zO⟩ ?_;rintro k j Z ⟨B,m,p⟩ f;have K:j.tm 1=.ptr 2 0 0:=by rw[f.t 1 zS];simp[G]
 have L:j.tm 4=.int .i64 i:=by rw[f.t 4 zS];simp[H]
 have ed:j.df=[]:=by rw[f.d];simp[M]
 clear f;have w:j.ob 2=some ⟨0,.cells (ya g)⟩:=by rw[m];exact D
 obtain⟨t,z⟩:∃t,g.ts[i]=t:=⟨_,rfl⟩;have U:=I.os t (z▸av c);have n:(g.ts.flatMap jt)[i*3+2]? = some (yj t.nl yP t.ops):=by rw[jk j9 g.ts c (by decide:2<3),z];rfl
 by_cases e:k<(g.ts[i]).ops.length;have b:=jfh c e;have P:=jho I c (fZ e);obtain⟨o,O⟩:∃o,(g.ts[i]).ops[k]=o:=⟨_,rfl⟩;rw[O]at b;subst z;have q:=jc e zO;have y:((g.ts[i]).ops.flatMap yP)[k*4+2]? = some (.int .i64 o.v.kind):=by rw[jk jH (g.ts[i]).ops e (by decide:2<4),O];rfl
 cases F:(o.v.kind==2);rw[F]at b;simp only[ak,zc,aU]at b;simp[B,K,L,j0,ya,c,j6 j9,n,e,j6 jH,y,F,q,m,D];rw[b];exact p.mono (λ_ _ h=>h) zO;rw[F]at b;simp only[zd]at b;simp[B,K,L,w,j0,ya,c,j6 j9,n,e,j6 jH,y,F,j2];refine jU (cs:=jD (i,k)) (by simp[j2,jD]) rfl rfl ?_;simp;refine WI (f:=jD) (hi:=j.nx) (l:=X8 g i k) (a:=((i:Int),(k:Int))) (v:=j.tm 3) (p.mono (λu _ h=>by simp[jx,h]) zK) zS (by simp[jE,jD]) jq zQ rfl zO zO (λT N=>?_);have x:(X8 g i k).length+1=(X8 g i (k+1)).length:=by rw[b];simp
 rw[<- b,x];simp[B,q,m];exact⟨e,_,rfl,by simp[jx],zO⟩;have:k=(g.ts[i]).ops.length:=zO;subst this;subst z;simp[B,K,L,w,j0,ya,c,j6 j9,n,Q];rw[<- jfi c];exact p.mono (λ_ _ h=>h) zO;have:i=g.ts.length:=zO;subst this;rw[jhp]at J;obtain⟨u,X,_,_⟩:=J;simp[H,G,D,j0,ya];exact slE (t:=some (u,2)) (nl:=false) (k:=(jc0 g).length) (cs:=(jc0 g).flatMap jD) (λr h=>⟨_,h⟩) (by simp[M]) (by simp[X])
def wkB (k:Int) (o:Op'):Bool:=o.w&&o.key==k
def wrB (k:Int) (t:Txn'):Bool:=t.f != 2&&t.ops.any (wkB k)
def KeyAt (k:Int) (ob:ZO) (l u:Nat):Prop:=l % 2=0/\ob l=some ⟨u,.cells [.int .i64 k]⟩
def evo263 {k:Int}{ob:ZO}{l u:Nat}(c:KeyAt k ob l u) (o:Op') (tk:Nat->Bool) (base ub:Nat):EvO E 263 [.agg (yP o),.ptr l u 0] ob tk base ub (.bool (wkB k o)):=by
 obtain⟨e,d⟩:=c;refine jo rfl ?_;have a:¬l=2*ub+1:=zO;unfold wkB;cases b:o.w
 ·conv in(occs:=*)S263=>all_goals cbv
  simp[yP,j0,b];exact j4 rfl zS rfl
 ·conv in(occs:=*)S263=>all_goals cbv
  simp[yP,j0,b,a,d];exact j4 rfl zS rfl
def evo293 {p:Op'->Bool}{g:FuncId}{cap:V}{ob:ZO}(y:E.sh true g=false) (e:cap.strip.pureTop=false) (hp:∀(t:Op') (tk:Nat->Bool) (base ub:Nat),EvO E g [.agg (yP t),cap] ob tk base ub (.bool (p t)))
 (nl:Bool) (l:List Op') (w:l.length<=1000000000) (tk:Nat->Bool) (base ub:Nat):EvO E 293 [yj nl yP l,.fn (.func g) [] [cap]] ob tk base ub (.int .i64 (Yj p l)):=by
 refine jo rfl ?_;conv in(occs:=*)S293=>all_goals cbv
 simp;refine j7 [(4,5),(8,18)] l.length (λi s=>s.tm 8=.int .i64 i/\s.ob=ob/\∀j (c:j<l.length),j<i->p l[j]=false) rfl rfl ⟨zS,zS,λ_ _ h=>by omega⟩ ?_;rintro i s B ⟨k,q,m⟩ f;have x:s.tm 0=yj nl yP l:=by rw[f.t 0 zS];simp
 have z:s.tm 1=.fn (.func g) [] [cap]:=by rw[f.t 1 zS];simp
 have r:s.tm 7=.int .i64 l.length:=by rw[f.t 7 zS];simp
 have o:s.df=[]:=by rw[f.d];simp
 clear f;by_cases a:i<l.length;have u:=jc a w;simp[x,z,r,k,a,j6 jH,jh jH];refine WH (f:=g) (first:=[]) (captured:=[cap]) zS y (by simp[e]) (v:=.bool (p l[i])) (by simpa[q] using hp l[i] _ _ _) ?_;cases b:p l[i];simp[k,u];refine⟨a,q,?_⟩;intro j c n;rcases bz.1 n with h|rfl;exact m j c h;exact b;simp;refine j4 (zU o) ?_ rfl;simp;rw[YB a b m];have:i=l.length:=zO;subst this;simp[r,k];refine j4 (zU o) ?_ rfl;simp[Yi (λj c=>m j c c)]
def evo262 {p:Op'->Bool}{g:FuncId}{ob:ZO}{a b c:Nat}(e:E.sh true g=false) (hp:∀(t:Op') (tk:Nat->Bool) (base ub:Nat),EvO E g [.agg (yP t),.ptr a b c] ob tk base ub (.bool (p t)))
 (nl:Bool) (l:List Op') (d:l.length<=1000000000) (tk:Nat->Bool) (base ub:Nat):EvO E 262 [yj nl yP l,.fn (.func g) [] [.ptr a b c]] ob tk base ub (.bool (l.any p)):=by
 refine jo rfl ?_;conv in(occs:=*)S262=>all_goals cbv
 simp;refine jP (vs:=[yj nl yP l,.fn (.func g) [] [.ptr a b c]]) zS rfl rfl (evo293 e rfl hp nl l d _ _ _) ?_;simp;exact j4 rfl (by simp[Qq]) rfl
def evo261 {k:Int}{ob:ZO}{l u:Nat}(c:KeyAt k ob l u) (t:Txn') (i:t.ops.length<=1000000) (tk:Nat->Bool) (base ub:Nat):EvO E 261 [.agg (jt t),.ptr l u 0] ob tk base ub (.bool (wrB k t)):=by
 have a:¬l=2*ub+1:=by have:=c.1;omega
 refine jo rfl ?_;unfold wrB;cases d:(t.f != 2)
 ·conv in(occs:=*)S261=>all_goals cbv
  simp[jt,j0,d];exact j4 rfl zS rfl
 ·conv in(occs:=*)S261=>all_goals cbv
  simp[jt,j0,d];refine jP (vs:=[yj t.nl yP t.ops,.fn (.func 263) [] [.ptr l u 0]]) zS rfl rfl (evo262 (p:=wkB k) rfl (λh tk base b=>evo263 ?_ h tk base b) t.nl t.ops zO _ _ _) ?_;obtain⟨g,e⟩:=c;exact⟨g,by simp[a,e]⟩;simp;exact j4 rfl zS rfl
def yM (g:Hist') (k:Int):List Int:=yq (wrB k) g.ts g.ts.length
def ev218 {g:Hist'}(y:Small g) (L:Yp g=true) (k:Int):∃v,Ev E 218 [.agg (ya g),.int .i64 k] v/\jyp (yM g k) v:=by
 have o:=j8w y;rw[Wm L]at o;have K:=y.ts;refine XI rfl zQ ?_;conv in(occs:=*)F218=>all_goals cbv
 simp[ya,j0];refine jQ o zI rfl zI ?_;simp[j0];refine j7 [(4,4),(6,8),(16,28)] g.ts.length (λi s=>s.tm 16=.int .i64 i/\s.ob 6=some ⟨64,.cells [.int .i64 k]⟩/\Grow s.tk 0 s.nx ye 1 (yq (wrB k) g.ts i) (s.tm 6)) rfl rfl ⟨zS,zS,by simp[yq];exact Grow.nil _ _ _ _ _⟩ ?_;rintro i s hi ⟨j,x,z⟩ f;have I:s.tm 5=.fn (.func 261) [] [.ptr 6 64 0]:=by rw[f.t 5 zS];simp
 have B:s.tm 14=yj g.tn jt g.ts:=by rw[f.t 14 zS];simp
 have n:s.tm 15=.int .i64 g.ts.length:=by rw[f.t 15 zS];simp
 have G:s.df=[]:=by rw[f.d];simp
 have J:s.fb=0:=by rw[f.b];simp
 have fr:s.ro=0:=by rw[f.r];simp
 clear f;by_cases e:i<g.ts.length;have D:=jc e zO;have c:=Jw (p:=wrB k) e;obtain⟨t,m⟩:∃t,g.ts[i]=t:=⟨_,rfl⟩;rw[m]at c;have M:=y.os t (m▸av e);have H:=JX (wrB k) g.ts i;simp[j,B,n,e,j6 j9,jh j9,m,jt,j0,J,fr,j2,I];refine WH (f:=261) (first:=[]) (captured:=[.ptr 6 64 0]) zS rfl (by simp;rfl) (evo261 (k:=k) (l:=6) (u:=64) ⟨rfl,by simp[x]⟩ t zO _ _ _) ?_;cases hi:wrB k t;rw[hi]at c;simp only[ak,zc,aU]at c;simp[j,D,x];exact⟨e,by rw[c];exact z.mono (λu _ _ h=>by simpa[jn] using h) zO⟩;rw[hi]at c;simp only[zd]at c;simp;refine jU (cs:=[.int .i64 i]) (by simp[j2]) rfl rfl ?_;simp;refine XU (f:=ye) (lo:=0) (hi:=s.nx) (l:=yq (wrB k) g.ts i) (a:=(i:Int)) (v:=s.tm 6) (z.mono (λu _ _ h=>by simp[jx,h]) zK) zS (by simp[jE,ye]) jA zQ rfl zO zO (λN F=>?_);have w:yq (wrB k) g.ts (i+1)≠[]:=by rw[c];simp
 have q:(yq (wrB k) g.ts i).length+1=(yq (wrB k) g.ts (i+1)).length:=by rw[c];simp
 rw[<- c,q];simp[j,D,x];exact⟨e,.inr ⟨w,_,rfl,by simp[jx],bY _,zO⟩⟩;have:i=g.ts.length:=zO;subst this;obtain⟨t,m⟩:=z.form;simp[j,n];exact slE (t:=t) (nl:=(yq (wrB k) g.ts g.ts.length).isEmpty) (k:=(yM g k).length) (cs:=(yM g k).flatMap ye) (λr h=>⟨_,h⟩) (by simp[G]) (by simp[m,yM])
def jps (g:Hist'):Nat->Nat
 |0=>0
 |i+1=>max (jps g i) (yM g i).length
def mostH (g:Hist'):Nat:=jps g g.ks.length
def jk3 {g:Hist'}(a:Small g):∀i,jps g i<=1000
 |0=>bY _
 |i+1=>by have b:=jk3 a i;have d:=JX (wrB i) g.ts g.ts.length;have c:=a.ts;simp only[jps,yM];omega
end Go.Pv.T
