/- Part. -/
import Derived.Test.YtmanndcfeicokaaGreatDoorRL
set_option maxRecDepth 100000
set_option maxHeartbeats 8000000
set_option linter.all false
namespace Go.Pv.T
open Go Go.Pv
def Jg (g:Hist') (x:Int):Int:=if x<0 then g.ts.length else x
def j18 (g:Hist') (i:Nat):List P2:=((g.ts.length:Int),(ym g).getD i 0)::((List.range i).filter λk=>yE g ((ym g).getD k 0).toNat==yE g ((ym g).getD i 0).toNat).map λk=>((ym g).getD k 0,(ym g).getD i 0)
def j05 (g:Hist') (M:List Int) (i:Nat):P2:=(Jg g (M.getD i 0),((yi g).getD i (0,0)).1)
def askE (g:Hist') (M:List Int) (seen:List Int) (i:Nat):List P2:=(seen.filter λt=>Jp g t (Wx g ((yi g).getD i (0,0)))&&(t != M.getD i 0)).map λt=>(t,Jg g (M.getD i 0))
def XA (g:Hist') (lvl:Int) (M:List Int) (i:Nat):List Int:=jdn g lvl M [] ((yi g).getD i (0,0))
def jdo (g:Hist') (lvl:Int) (M:List Int) (a b:Nat):Bool :=
 (a==g.ts.length&&Ju g b)||((Ju g a&&Ju g b&&decide (a<b)&&(yE g a==yE g b)) ||
  (List.range (yi g).length).any λi=>j05 g M i==((a:Int),(b:Int))||(askE g M (XA g lvl M i) i).contains ((a:Int),(b:Int)))
def jlc (g:Hist') (lvl:Int) (M:List Int) (l:List P2):Prop:=∀z,z∈l ↔ (∃i,i<(ym g).length/\z∈j18 g i)\/∃i,i<(yi g).length/\(z=j05 g M i\/z∈askE g M (XA g lvl M i) i)
section
variable {g:Hist'}{lvl:Int}{M:List Int}
def jnu {i:Nat}(h:i<(ym g).length):∃k:Nat,(ym g).getD i 0=k/\Ju g k=true/\k<g.ts.length:=by
 have e:(ym g).getD i 0=(ym g)[i]:=by simp[ay,aa h]
 obtain⟨k,b,a⟩:=comL_mem.1 (au h);exact⟨k,by rw[e,b],a,XG a⟩
def j6n {i k:Nat}(hi:i<(ym g).length) (b:k<i):(ym g).getD k 0<(ym g).getD i 0:=by
 have a:=j0l g;have c:(ym g).getD i 0=(ym g)[i]:=by simp[ay,aa hi]
 have d:(ym g).getD k 0=(ym g)[k]' zO:=by simp[ay,aa (show k<(ym g).length by omega)]
 rw[c,d];exact dA.1 a k i zO hi b
def jig {i:Nat}(h:i<(yi g).length):∃k:Nat,((yi g).getD i (0,0)).1=k/\Ju g k=true/\k<g.ts.length:=by
 have e:(yi g).getD i (0,0)=(yi g)[i]:=by simp[ay,aa h]
 obtain⟨k,b,a⟩:=comL_mem.1 (jrm (au h));exact⟨k,by rw[e,b],a,XG a⟩
def jys (a:WM g M=true) {i:Nat}(h:i<(yi g).length):M.getD i 0<0\/∃k:Nat,M.getD i 0=k/\Ju g k=true/\k<g.ts.length:=by
 have b:i<M.length:=by rw[Xi a];exact h
 have e:M.getD i 0=M[i]:=by simp[ay,aa b]
 rcases jpl a (au b) with h1|h1;exact .inl (by rw[e,h1];decide);obtain⟨k,d,c⟩:=comL_mem.1 h1;exact .inr ⟨k,by rw[e,d],c,XG c⟩
def jou {i:Nat}{t:Int}(h:t∈XA g lvl M i):∃k:Nat,t=k/\k<g.ts.length:=by unfold XA jdn at h;obtain⟨k,a,e,_⟩:=filTo_mem.1 h;exact⟨k,e,a⟩
def Qj (O:WM g M=true) {l:List P2}(h:jlc g lvl M l):ja7 (ja5 l)=jp (g.ts.length+1) (jdo g lvl M):=by
 refine j0k λz=>?_;rw[h];constructor;rintro(⟨i,f,d⟩|⟨i,f,d⟩);obtain⟨b,u,r,G⟩:=jnu f;unfold j18 at d;rw[u]at d;rcases bD.1 d with rfl|d
 exact⟨g.ts.length,b,zO,zO,by simp[jdo,r],rfl⟩;obtain⟨k,o,rfl⟩:=aI.1 d;obtain⟨B,m⟩:=bK.1 o;have n:=bf.1 B;obtain⟨a,p,D,s⟩:=jnu (show k<(ym g).length by omega);have q:=j6n f n;rw[p]at m ⊢;rw[p,u]at q;refine⟨a,b,zO,zO,?_,rfl⟩;simp only[ba]at m;simp[jdo,D,r,m,iz.1 q];have w:∀a b:Nat,z=((a:Int),(b:Int))->jdo g lvl M a b=true:=λa b e=>by unfold jdo;rw[bG,bG];refine .inr (.inr (ce.2 ⟨i,bf.2 f,?_⟩));rw[bG];rcases d with d|d;exact .inl (by rw[<- d,e];simp);exact .inr (by rw[e]at d;simpa using d)
 obtain⟨b,u,_,G⟩:=jig f;have N:∃a:Nat,Jg g (M.getD i 0)=a/\a<g.ts.length+1:=by unfold Jg;rcases jys O f with h|⟨k,o,_,H⟩;exact⟨g.ts.length,by rw[zb h],zO⟩;exact⟨k,by rw[za zO,o],zO⟩
 obtain⟨a,p,s⟩:=N;rcases d with d|d;have e:z=((a:Int),(b:Int)):=by rw[d,j05,p,u]
 exact⟨a,b,s,zO,w a b e,e⟩;unfold askE at d;obtain⟨t,I,e⟩:=aI.1 d;obtain⟨c,P,J⟩:=jou (bK.1 I).1;have e:z=((c:Int),(a:Int)):=by rw[<- e,P,p]
 exact⟨c,a,zO,zO,w c a e,e⟩;rintro⟨a,b,p,u,j,rfl⟩;unfold jdo at j;rw[bG,bG]at j;rcases j with j|j|j;rw[aj]at j;obtain⟨v,F⟩:=j;have v:a=g.ts.length:=by simpa using v
 obtain⟨i,f,e⟩:=bA (comL_mem.2 ⟨b,rfl,F⟩);refine .inl ⟨i,f,?_⟩;unfold j18;rw[show(ym g).getD i 0=(b:Int) by simp[ay,aa f,e],v];exact aM ..;simp only[aj,ze]at j;obtain⟨⟨⟨v,F⟩,Q⟩,K⟩:=j;obtain⟨i,f,e⟩:=bA (comL_mem.2 ⟨b,rfl,F⟩);obtain⟨k,o,L⟩:=bA (comL_mem.2 ⟨a,rfl,v⟩);have y:(ym g).getD i 0=(b:Int):=by simp[ay,aa f,e]
 have x:(ym g).getD k 0=(a:Int):=by simp[ay,aa o,L]
 have n:k<i:=by rcases dV k i with h|h|h;exact h;subst h;rw[y]at x;omega;have:=j6n o h;rw[y,x]at this;omega
 refine .inl ⟨i,f,?_⟩;unfold j18;refine aV _ (aI.2 ⟨k,bK.2 ⟨bf.2 n,?_⟩,by rw[y,x]⟩);rw[y,x,ba,ba];exact K;obtain⟨i,f,h⟩:=ce.1 j;refine .inr ⟨i,bf.1 f,?_⟩;rw[bG]at h;rcases h with h|h;exact .inl (by simpa using(beq_iff_eq.1 h).symm);exact .inr (by simpa using h)
end
def yT (p:P2):List V:=[.int .i64 p.1,.int .i64 p.2]
def XD (p:P2):(yT p).length=2:=rfl
def j0f (L:List P2):(L.flatMap yT).all V.pureLeaf=true:=by rw[eS,aw];intro _ _;rfl
def EdV (ob:ZO) (lo hi:Nat) (v:V) (L:List P2):Prop :=
 (v=.sl none true 0 []/\L=[])\/∃u,v=.osl (2*u+1) u 0 L.length 2/\ob (2*u+1)=some ⟨u,.cells (L.flatMap yT)⟩/\lo<=u/\u<hi
def EdV.frame {ob ob':ZO}{lo hi hi':Nat}{v:V}{L:List P2}(h:EdV ob lo hi v L) (b:∀u,lo<=u->u<hi->ob' (2*u+1)=ob (2*u+1)) (f:hi<=hi'):EdV ob' lo hi' v L:=by rcases h with h|⟨u,e,c,a,d⟩;exact .inl h;exact .inr ⟨u,e,(b u a d).trans c,a,zO⟩
def EdV.len {ob:ZO}{lo hi:Nat}{v:V}{L:List P2}(h:EdV ob lo hi v L):WZ v=some (.int .i64 (L.length:Nat)):=by rcases h with⟨rfl,rfl⟩|⟨u,rfl,_⟩<;>rfl
def jgr {F:Env}{Yf:YF}{lo hi ub:Nat}{v:V}{L:List P2}{p:P2}{s x:A}{st:St}{K:St->Nat->Prop}{d:Option Nat}(c:ye F st.tm s=v) (j:EdV st.ob lo hi v L) (i:st.ro<=lo) (e:yp st.ob 2 (ye F st.tm x)=some (yT p)) (l:L.length<=1000000)
 (h:∀a:List Nat,(a=[]\/∃u,lo<=u/\u<hi/\a=[2*u+1]/\st.ob (2*u+1)=some ⟨u,.cells (L.flatMap yT)⟩)->QP K st d ub { v:=.osl (2*ub+1) ub 0 (L.length+1) 2,obs:=[(2*ub+1,⟨ub,.cells ((L++[p]).flatMap yT)⟩)],kill:=a }):j8 F Yf ⟨d,.append true 2 16 s x,none,true⟩ st ub K:=by
 rcases j with⟨rfl,rfl⟩|⟨u,rfl,b,k,f⟩;refine X9 c e (by simp[yT]) zQ rfl (by simp[yT]) (by simp[yT]) ?_;simpa[yT,jI] using h [] (.inl rfl);have g:=j1 XD L;refine JL (cs:=L.flatMap yT) c e b (by simp[yT]) zO zO zQ rfl (by simp[yT];omega) (by simp[yT];omega) ?_;have:=h [2*u+1] (.inr ⟨u,k,f,rfl,b⟩);rw[aH zO];simpa[yT,jI] using this
section
variable {ob:ZO}{lo hi kG uG:Nat}{Nv lv:V}{L:List P2}
def j6e (z:ob kG=some ⟨uG,.cells [Nv,lv]⟩) (I:EdV ob lo hi lv L) (K:L.length<=1000000) (a b:Int) (tk:Nat->Bool) (base ub:Nat):EvO E 260 [.ptr kG uG 0,.int .i64 a,.int .i64 b] ob tk base ub (.bool (L.contains (a,b))):=by
 refine jr rfl ?_;have e:=I.len;obtain⟨R,J⟩:∃R,R=L.contains (a,b):=⟨_,rfl⟩;rw[<- J];conv in(occs:=*)S260=>all_goals cbv
 simp;refine j5 [(6,38)] L.length (λi s=>s.tm 7=.int .i64 i/\s.ob=ob/\R=(L.drop i).contains (a,b)) rfl rfl ⟨zS,rfl,J⟩ ?_;rintro i s hi ⟨r,p,m⟩ f;have w:s.tm 0=.ptr kG uG 0:=by rw[f.t 0 zS];simp
 have F:s.tm 1=.int .i64 a:=by rw[f.t 1 zS];simp
 have H:s.tm 2=.int .i64 b:=by rw[f.t 2 zS];simp
 have G:s.df=[]:=by rw[f.d];simp
 clear f;by_cases c:i<L.length;have o:=jR c zO;rw[aP c,dD]at m;rcases I with⟨_,rfl⟩|⟨u,rfl,D,_⟩;simp at c;have v:(L.flatMap yT)[i*2]? = some (.int .i64 L[i].1):=by have:=jO XD L c (by decide:0<2);rw[bl]at this;rw[this];rfl
 have B:(L.flatMap yT)[i*2+1]? = some (.int .i64 L[i].2):=by rw[jO XD L c (by decide:1<2)];rfl
 have j:=jvz (l:=2*u+1) (u:=u) (sz:=2) (kk:=.i64) c;generalize L[i]=q at *;obtain⟨x,y⟩:=q;simp only at v B;cases k:(x==a);have g:R=(L.drop (i+1)).contains (a,b):=by rw[m,show((a,b)==(x,y))=false by simp at k ⊢;intro h;exact zf h.symm k,bS]
 simp(disch:=try exact zD)[r,w,F,p,ya,z,e,c,j,D,v,k,o];simpa using g;cases n:(y==b);have g:R=(L.drop (i+1)).contains (a,b):=by rw[m,show((a,b)==(x,y))=false by simp at n ⊢;intro _ h;exact zf h.symm n,bS]
 simp(disch:=try exact zD)[r,w,F,H,p,ya,z,e,c,j,D,v,B,k,n,o];simpa using g;have g:R=true:=by simp only[zh]at k n;rw[m,k,n];simp
 simp(disch:=try exact zD)[r,w,F,H,p,ya,z,e,c,j,D,v,B,k,n];exact j3 (by simp[G]) (by simp[g]) rfl;have:i=L.length:=zO;subst this;rw[bB zK]at m;simp(disch:=try exact zD)[r,w,p,ya,z,e];exact j3 (by simp[G]) (by simp[m]) rfl
end
def jxj (L:List P2) (p:P2):List P2:=if L.contains p then L else L++[p]
def GrR (kG uG lo N:Nat) (ob:ZO) (ub:Nat) (L:List P2):Prop:=∃lv,ob kG=some ⟨uG,.cells [.int .i64 (N:Int),lv]⟩/\EdV ob lo ub lv L
def GrR.keep {kG uG lo N ub b:Nat}{ob ob':ZO}{L:List P2}(h:GrR kG uG lo N ob ub L) (c:∀a,Off ub a->ob' a=ob a) (f:Off ub kG) (e:ub<=b):GrR kG uG lo N ob' b L:=by obtain⟨i,g,d⟩:=h;exact⟨i,(c _ f).trans g,d.frame (λu _ h=>c _ (Off.new h)) e⟩
def sv215 {Yf:YF}{kG uG lo N a b:Nat}{L:List P2}{ob:ZO}{tk:Nat->Bool}{ro base ub:Nat}(D:GrR kG uG lo N ob ub L) (i:Off lo kG) (j:lo<=ub) (l:ro<=lo) (s:ro<=uG) (J:L.length<=100000) (K:a<N) (H:b<N) :
 ∃r,EvS E Yf.y 215 [.ptr kG uG 0,.int .i64 (a:Int),.int .i64 (b:Int)] ob tk ro base ub r/\ub<=r.2.2.2/\GrR kG uG lo N r.2.1 r.2.2.2 (jxj L ((a:Int),(b:Int)))/\∀c,Off lo c->c≠kG->r.2.1 c=ob c:=by
 obtain⟨t,d,n⟩:=D;have B:=(i.up j).ne;have G:((a:Int)<0)=False:=zS;have x:((b:Int)<0)=False:=zS;have a1:((N:Int)<=a)=False:=by simp;omega
 have b1:((N:Int)<=b)=False:=by simp;omega
 refine J6 rfl zQ ?_;show wpC E Yf S215.body _ (Jh S215.res _);conv in(occs:=*)S215=>all_goals cbv
 simp(disch:=try exact zD)[S215,ya,d,G,x,a1,b1];refine jN (vs:=[.ptr kG uG 0,.int .i64 (a:Int),.int .i64 (b:Int)]) zS rfl rfl (j6e (L:=L) (lo:=lo) (hi:=ub) (by simpa using d) (n.frame (λu _ _=>by simp) zK) zO _ _ _ _ _) ?_;unfold jxj;cases I:L.contains ((a:Int),(b:Int));simp(disch:=try exact zD)[ya,d,j2];refine jZ (cs:=[.int .i64 (a:Int),.int .i64 (b:Int)]) (by simp[j2]) rfl rfl ?_;simp;refine jgr (lo:=lo) (hi:=ub) (v:=t) (L:=L) (p:=((a:Int),(b:Int))) zS (n.frame (λu f k=>?_) zK) (by simpa using l) (by simp[yp,ya,yT]) zO λw g=>?_;have o:∀m,ub<=m->¬u=m:=λm F=>by omega
 simp(disch:=try exact zD)[yj,o];have h:∀c,Off lo c->w.any (Nat.beq c)=false:=λc i=>by rcases g with rfl|⟨u,f,k,rfl,_⟩;rfl;simp only[bp,bC,bm];exact JF (i u f)
 have z:∀m,ub<=m->w.any (Nat.beq (2*m+1))=false:=λm F=>by rcases g with rfl|⟨u,f,k,rfl,_⟩;rfl;simp only[bp,bC,bm];exact JG zO
 generalize q:List.flatMap yT (L++[((a:Int),(b:Int))])=cs9;simp(disch:=try exact zD)[ya,d,h _ i,j9,B,j2];refine⟨s,Yb zS ?_⟩;refine⟨zL,⟨.osl (2*(ub+2368)+1) (ub+2368) 0 (L.length+1) 2,by simp[aA],.inr ⟨ub+2368,zS,?_,zO,zL⟩⟩,λc f k=>?_⟩;have:=(i.up (show lo<=ub+2368 by omega)).ne;simp(disch:=try exact zD)[j9,yj,aA,q];exact λe=>zf e.symm (this _ zK);have o:=(f.up j).ne;simp(disch:=try exact zD)[j9,k,o,h c f];simp;refine Yb zS ⟨zL,⟨t,by simpa using d,n.frame (λu _ _=>by simp) zL⟩,λc _ _=>by simp⟩
def ofE (l:List P2):List P2:=l.foldl jxj []
def j2j (L:List P2) (p:P2):(jxj L p).length<=L.length+1:=by unfold jxj;split<;>simp
def ofE_len (l:List P2):(ofE l).length<=l.length:=by
 have:∀(l L:List P2),(l.foldl jxj L).length<=L.length+l.length:=by
  intro l;induction l with
  |nil=>intro L;simp
  |cons p l a=>intro L;have b:=a (jxj L p);have c:=j2j L p;simp only[ej,bg];omega
 have:=this l [];simpa[ofE] using this
def j2i {L:List P2}{p z:P2}:z∈jxj L p ↔ z∈L\/z=p:=by
 unfold jxj;split;rename_i h;have h:p∈L:=by simpa using h
 exact⟨.inl,λa=>a.elim id λe=>e▸h⟩;simp
def j8l {l:List P2}{z:P2}:z∈ofE l ↔ z∈l:=by
 have:∀(l L:List P2),z∈l.foldl jxj L ↔ z∈L\/z∈l:=by
  intro l;induction l with
  |nil=>intro L;simp
  |cons p l a=>intro L;rw[ej,a,j2i,bD,or_assoc]
 have:=this l [];simpa[ofE] using this
def j23 {l:List P2}{i:Nat}(h:i<l.length):ofE (l.take (i+1))=jxj (ofE (l.take i)) l[i]:=by unfold ofE;rw[av h,fI];rfl
def sv159 {Yf:YF}{lo hi N:Nat}{v:V}{l:List P2}{ob:ZO}{tk:Nat->Bool}{ro base ub:Nat}(O:EdV ob lo hi v l) (hu:hi<=ub) (U:l.length<=100000) (hN:∀p∈l,∃a b:Nat,p=((a:Int),(b:Int))/\a<N/\b<N) (a0:ro<=ub) :
 ∃r,EvS E Yf.y 159 [.int .i64 (N:Int),v] ob tk ro base ub r/\∃u,ub<=u/\u<r.2.2.2/\r.1=.ptr (2*u+1) u 0/\GrR (2*u+1) u (u+1) N r.2.1 r.2.2.2 (ofE l)/\∀c,Off ub c->r.2.1 c=ob c:=by
 have h:=O.len;refine J6 rfl zQ ?_;show wpC E Yf S159.body _ (Jh S159.res _);conv in(occs:=*)S159=>all_goals cbv
 simp(disch:=try exact zD)[S159,j2];refine jQ λj e=>?_;obtain⟨u,M,u2,g5,S⟩:∃u,ub<=u/\u<j.nx/\j.tm 5=.ptr (2*u+1) u 0/\j.ob (2*u+1)=some ⟨u,.cells [.int .i64 (N:Int),.sl none true 0 []]⟩:=by refine⟨ub+192,zO,?_,by rw[e];simp[aA],by rw[e];simp[aA]⟩;rw[e];simp
 have g1:j.tm 1=v:=by rw[e];simp
 have I:j.tm 6=.int .i64 0:=by rw[e];simp
 have gd:j.df=[]:=by rw[e];simp
 have gr:j.ro=ro:=by rw[e];simp
 have go:∀c,Off ub c->j.ob c=ob c:=λc k=>by have:=k.ne;rw[e];simp(disch:=try exact zD)[this]
 clear e;obtain⟨J,G⟩:∃J:Nat->St->Prop,J=λi s=>s.tm 6=.int .i64 i/\GrR (2*u+1) u (u+1) N s.ob s.nx (ofE (l.take i))/\u<s.nx/\∀c,Off ub c->s.ob c=ob c:=⟨_,rfl⟩;refine j5 [(6,6),(10,27)] l.length J rfl rfl (by rw[G];exact⟨by simpa using I,⟨_,S,.inl ⟨rfl,rfl⟩⟩,u2,go⟩) ?_;clear S I go;intro i s hi m f;rw[G]at m;obtain⟨o,z,su,q⟩:=m;have P:=(f.t 1 zS).trans g1;have Q:=(f.t 5 zS).trans g5;have T:=f.d.trans gd;have sr:=f.r.trans gr;clear f;by_cases g:i<l.length;have D:=jR g zO;obtain⟨a,b,B,ha,hb⟩:=hN _ (au g);have x:=ofE_len (l.take i);rw[ai]at x;rcases O with⟨_,rfl⟩|⟨w,rfl,h4,w1,w2⟩
 simp at g;have h5:s.ob (2*w+1)=some ⟨w,.cells (l.flatMap yT)⟩:=(q _ (Off.new zO)).trans h4;have h1:(l.flatMap yT)[i*2]? = some (.int .i64 a):=by have:=jO XD l g (by decide:0<2);rw[bl]at this;rw[this,B];rfl
 have X:(l.flatMap yT)[i*2+1]? = some (.int .i64 b):=by rw[jO XD l g (by decide:1<2),B];rfl
 have n:=jvz (l:=2*w+1) (u:=w) (sz:=2) (kk:=.i64) g;have e:=j23 g;rw[B]at e;simp(disch:=try exact zD)[o,Q,P,h,g,n,ya,h5,h1,X];refine jJ (vs:=[.ptr (2*u+1) u 0,.int .i64 (a:Int),.int .i64 (b:Int)]) zS rfl (sv215 (lo:=u+1) (z.keep (λc _=>by simp) (Off.new zO) zL) (Off.new zO) zL (by first|omega|(simp[sr];omega)) (by first|omega|(simp[sr];omega)) zO ha hb) ?_;rintro v1 b0 Z F ⟨L,H,K⟩;simp only at L H K;have q1:s.nx<=F:=by first|omega|(simp at L;omega)
 rw[<- e]at H;simp(disch:=try exact zD)[o,D,g];rw[G];refine⟨zS,H.keep (λc _=>by simp) (Off.new zO) zL,zL,λc k=>?_⟩;have:=K c (k.up zO) (k u M);simpa[this] using q c k;have:i=l.length:=zO;subst this;rw[aH zK]at z;simp(disch:=try exact zD)[o,P,Q,h];exact JN (by simp[T]) ⟨u,M,zL,zS,z.keep (λc _=>by simp) (Off.new zO) zL,λc k=>by simpa using q c k⟩
def jxs {st:St}{n k L u sz:Nat}{cs:List V}{P:V->Prop}(o:∀r,SlR r false k cs->P r) (h:st.df=[]) (m:st.tm n=.osl L u 0 k sz) (c:st.ob L=some ⟨u,.cells cs⟩) (q:cs.length=k*sz) (i:st.ro<=u) (hp:cs.all V.pureLeaf=true):WQ [.t n] P .ret st:=by
 have a:ya st.ob L u=some cs:=by simp[ya,c]
 have j:JY st 6 (.osl L u 0 k sz)=some (.sl none false k cs):=by show((ya st.ob L u).bind λcs=>if Nat.ble st.ro u=true/\0+k*sz<=cs.length then (((cs.drop 0).take (k*sz)).mapM (JY st 5)).map λd=>V.sl none false k d else none)=_;rw[a,ah,zb ⟨bT▸i,zO⟩,dt,aH zO,jbm hp];rfl
 have c:∃t:Option (Nat×Nat),jt st true 0 (.osl L u 0 k sz)=some (.sl t false k cs)/\∀p∈t.toList,p.1<64:=by simp only[jt,j,ah,a,aU];refine⟨_,rfl,λp hp=>?_⟩;split at hp;simp at hp;subst hp;exact dB rfl;simp at hp
 obtain⟨t,g,f⟩:=c;have e:[ARes.t n].mapM (ju st)=some [.osl L u 0 k sz]:=by simp[ju,m]
 refine⟨.sl t false k cs,?_,o _ ⟨t,rfl,f⟩⟩;simp only[jb4,Yk h,Yg h,zd,e,ah,W6];have l:yJ ([V.osl L u 0 k sz].flatMap V.toks)=true:=rfl;rw[l];have b:XF st true 0 (.osl L u 0 k sz)=some (.sl t false k cs):=g;simp only[Jd,b,ah,aU];cases t<;>rfl
def IntL (ob:ZO) (lo hi:Nat) (v:V) (L:List Int):Prop:=∃u,v=.osl (2*u+1) u 0 L.length 1/\ob (2*u+1)=some ⟨u,.cells (L.flatMap yf)⟩/\lo<=u/\u<hi
def EdL (ob:ZO) (lo hi:Nat) (v:V) (L:List P2):Prop:=∃u,v=.osl (2*u+1) u 0 L.length 2/\ob (2*u+1)=some ⟨u,.cells (L.flatMap yT)⟩/\lo<=u/\u<hi
def Xr (L:List P2) (N:Nat) (a i:Nat):List Int:=yt ((List.range i).filter λb=>L.contains ((a:Int),(b:Int)))
def jis (L:List P2) (N a i:Nat):Xr L N a (i+1)=Xr L N a i++if L.contains ((a:Int),(i:Int)) then [(i:Int)] else []:=by unfold Xr;rw[cV,bP];cases h:L.contains ((a:Int),(i:Int));rw[ct,h,za zQ,za zQ,dy,aL,aL];rw[ct,h,zb rfl,zb rfl,dy];simp[yt]
def jcr (L:List P2) (N a:Nat):∀i,(Xr L N a i).length<=i
 |0=>by simp[Xr,yt]
 |i+1=>by have:=jcr L N a i;rw[jis];split<;>simp<;>omega
section
variable {ob:ZO}{lo kG uG N ub:Nat}{L:List P2}
def evo216 (hG:GrR kG uG lo N ob ub L) (g:Off ub kG) (hl:L.length<=100000) (hN:N<=1000) (a:Nat) (tk:Nat->Bool) (base:Nat):∃v,EvO E 216 [.ptr kG uG 0,.int .i64 (a:Int)] ob tk base ub v/\SlR v false (Xr L N a N).length ((Xr L N a N).flatMap yf):=by
 obtain⟨lv,G,hE⟩:=hG;have oG:=g.ne;refine jb3 rfl zQ ?_;conv in(occs:=*)S216=>all_goals cbv
 simp;refine jZ (cs:=[]) rfl rfl rfl ?_;simp;refine jQ λj c=>?_;have U:j.tm 0=.ptr kG uG 0:=by rw[c];simp
 have g1:j.tm 1=.int .i64 (a:Int):=by rw[c];simp
 have I:j.tm 6=.int .i64 0:=by rw[c];simp
 have Q:∃v,j.tm 5=v/\IntL j.ob ub j.nx v []:=by refine⟨_,rfl,ub+64,by rw[c];simp,by rw[c];simp,zO,?_⟩;rw[c];first|omega|(simp;done)|(simp;omega)
 have X:j.df=[]:=by rw[c];simp
 have gr:j.ro=ub:=by rw[c];simp
 have P:ub<=j.nx:=by rw[c];first|omega|(simp;done)|(simp;omega)
 have go:∀b,Off ub b->j.ob b=ob b:=λb g=>by have:=g.ne;rw[c];simp(disch:=try exact zD)[this]
 clear c;obtain⟨J,B⟩:∃J:Nat->St->Prop,J=λi s=>s.tm 6=.int .i64 i/\(∃v,s.tm 5=v/\IntL s.ob ub s.nx v (Xr L N a i))/\ub<=s.nx/\∀b,Off ub b->s.ob b=ob b:=⟨_,rfl⟩;refine j5 [(5,6),(8,23)] N J rfl rfl (by rw[B];exact⟨by simpa using I,Q,P,go⟩) ?_;clear Q I go P;intro i s hi x f;rw[B]at x;obtain⟨q,⟨v,H,D⟩,sn,z⟩:=x;have M:=(f.t 0 zS).trans U;have s1:=(f.t 1 zS).trans g1;have T:=f.d.trans X;have sr:=f.r.trans gr;clear f;have o:s.ob kG=some ⟨uG,.cells [.int .i64 (N:Int),lv]⟩:=(z _ g).trans G;by_cases k:i<N;have y:=jR k zO;have a0:=jcr L N a i;have e:=jis L N a i;simp(disch:=try exact zD)[q,M,s1,ya,o,k];refine jN (vs:=[.ptr kG uG 0,.int .i64 (a:Int),.int .i64 (i:Int)]) zS rfl rfl (j6e (L:=L) (lo:=lo) (hi:=ub) (by simpa using o) (hE.frame (λu _ h=>by simpa using z _ (Off.new h)) zK) zO _ _ _ _ _) ?_;cases O:L.contains ((a:Int),(i:Int));rw[O,za zQ,aL]at e;simp(disch:=try exact zD)[q,y,k];rw[B];obtain⟨u,rfl,w,p,K⟩:=D;exact⟨zS,⟨.osl (2*u+1) u 0 (Xr L N a i).length 1,by simp[H],u,by rw[e],by rw[e];simpa using w,p,zL⟩,zL,λb g=>by simpa using z b g⟩;rw[O,zb rfl]at e;obtain⟨u,rfl,w,p,K⟩:=D;have nu:∀m,s.nx<=m->¬u=m:=λm hm=>by omega
 have b0:((Xr L N a i).flatMap yf).length=(Xr L N a i).length:=by rw[j1 j6,bx]
 simp(disch:=try exact zD)[q,H];refine jZ (cs:=[.int .i64 (i:Int)]) (by simp[j2]) rfl rfl ?_;simp;refine JL (l:=2*u+1) (u:=u) (n:=(Xr L N a i).length) (cs:=(Xr L N a i).flatMap yf) (ys:=[.int .i64 (i:Int)]) zS (by simp[yp,ya]) ?_ zS (by simpa[sr] using p) zO zQ rfl zP zP ?_;simp(disch:=try exact zD)[yj,nu];exact w;rw[aH zO];simp(disch:=try exact zD)[q,y,k];rw[B];have F:(Xr L N a i).flatMap yf++[V.int .i64 (i:Int)]=(Xr L N a (i+1)).flatMap yf:=by rw[e];simp[yf]
 refine⟨zS,⟨.osl (2*(s.nx+832)+1) (s.nx+832) 0 (Xr L N a (i+1)).length 1,by simp[e,aA],s.nx+832,rfl,?_,zO,zL⟩,zL,λb g=>?_⟩;simp(disch:=try exact zD)[j9,yj,aA,F];have h5:=g.ne;have S:¬b=2*u+1:=g u p;have Z:∀m,s.nx<=m->¬b=2*m+1:=λm hm=>g m zO;simp(disch:=try exact zD)[j9,S,Z,JF S];exact z b g;have:i=N:=zO;subst this;obtain⟨u,rfl,w,p,K⟩:=D;simp(disch:=try exact zD)[q,M,H,ya,o];exact jxs (L:=2*u+1) (u:=u) (sz:=1) (λr h=>h) (by simp[T]) zS (by simpa using w) (by rw[j1 j6]) (by simpa[sr] using p) (by simp[yf,V.pureLeaf])
end
def rowE (L:List P2) (N a:Nat):List P2:=(Xr L N a N).map λb=>((a:Int),b)
def JU (L:List P2) (N a:Nat):List P2:=(List.range a).flatMap (rowE L N)
def jer (L:List P2) (N a:Nat):JU L N (a+1)=JU L N a++rowE L N a:=by unfold JU;rw[cV,bJ];simp
def jp9 (L:List P2) (N:Nat):JU L N N=jp N λa b=>L.contains ((a:Int),(b:Int)):=by unfold JU jp rowE Xr yt;simp only[cM];rfl
def je6 (L:List P2) (N a:Nat):(rowE L N a).length=(Xr L N a N).length:=by simp[rowE]
def jg6 (L:List P2) (N:Nat):∀a,(JU L N a).length<=a*N
 |0=>by simp[JU]
 |a+1=>by have b:=jg6 L N a;have d:=jcr L N a N;have c:=je6 L N a;rw[jer,ap,cW];omega
section
variable {ob:ZO}{lo kG uG N ub:Nat}{L:List P2}
def evo160 (hG:GrR kG uG lo N ob ub L) (i:Off ub kG) (hl:L.length<=100000) (hN:N<=100) (tk:Nat->Bool) (base:Nat):∃v,EvO E 160 [.ptr kG uG 0] ob tk base ub v/\SlR v false (JU L N N).length ((JU L N N).flatMap yT):=by
 have b6:=hG;obtain⟨lv,a0,hE⟩:=hG;refine jb3 rfl zQ ?_;conv in(occs:=*)S160=>all_goals cbv
 simp;refine jZ (cs:=[]) rfl rfl rfl ?_;simp;refine jQ λo c=>?_;have g0:o.tm 0=.ptr kG uG 0:=by rw[c];simp
 have g4:o.tm 4=.int .i64 0:=by rw[c];simp
 have g3:∃v,o.tm 3=v/\EdL o.ob ub o.nx v []:=by refine⟨_,rfl,ub+64,by rw[c];simp,by rw[c];simp,zO,?_⟩;rw[c];first|omega|(simp;done)|(simp;omega)
 have gd:o.df=[]:=by rw[c];simp
 have gr:o.ro=ub:=by rw[c];simp
 have gn:ub<=o.nx:=by rw[c];first|omega|(simp;done)|(simp;omega)
 have go:∀b,Off ub b->o.ob b=ob b:=λb i=>by have:=i.ne;rw[c];simp(disch:=try exact zD)[this]
 clear c;obtain⟨J,X⟩:∃J:Nat->St->Prop,J=λa s=>s.tm 4=.int .i64 a/\(∃v,s.tm 3=v/\EdL s.ob ub s.nx v (JU L N a))/\ub<=s.nx/\∀b,Off ub b->s.ob b=ob b:=⟨_,rfl⟩;refine j5 [(3,33)] N J rfl rfl (by rw[X];exact⟨by simpa using g4,g3,gn,go⟩) ?_;clear g3 g4 go gn;intro a s hi K f;rw[X]at K;obtain⟨P,⟨v,s3,sI⟩,sn,Q⟩:=K;have s0:=(f.t 0 zS).trans g0;have sd:=f.d.trans gd;have sr:=f.r.trans gr;clear f;have G:s.ob kG=some ⟨uG,.cells [.int .i64 (N:Int),lv]⟩:=(Q _ i).trans a0;by_cases D:a<N
 ·have T:=jR D zO;have b7:=jcr L N a N;have b5:=jg6 L N a;have b9:a*N<=100*100:=ii zO hN;simp(disch:=try exact zD)[P,s0,ya,G,D];refine jy4 (vs:=[.ptr kG uG 0,.int .i64 (a:Int)]) zS rfl rfl (evo216 (L:=L) (lo:=lo) ⟨lv,by simpa using G,hE.frame (λu _ h=>by simpa using Q _ (Off.new h)) zL⟩ (i.up zL) hl zO a _ _) λw hw=>?_;refine Jw hw λt1 add=>?_;simp;refine jQ λp k=>?_;have p0:p.tm 0=.ptr kG uG 0:=by rw[k];simp[s0]
  have p3:p.tm 3=v:=by rw[k];simp[s3]
  have p4:p.tm 4=.int .i64 a:=by rw[k];simp[P]
  have p5:p.tm 5=.sl t1 false (Xr L N a N).length ((Xr L N a N).flatMap yf):=by rw[k];simp
  have p6:p.tm 6=.int .i64 0:=by rw[k];simp
  have pd:p.df=[]:=by rw[k];simp[sd]
  have pr:p.ro=ub:=by rw[k];simp[sr]
  have pn:s.nx<=p.nx:=by rw[k];first|omega|(simp;done)|(simp;omega)
  have po:p.ob=s.ob:=by rw[k];simp
  clear k;obtain⟨U,F⟩:∃U:Nat->St->Prop,U=λj q=>q.tm 6=.int .i64 j/\(∃v,q.tm 3=v/\EdL q.ob ub q.nx v (JU L N a++(rowE L N a).take j))/\ub<=q.nx/\∀b,Off ub b->q.ob b=ob b:=⟨_,rfl⟩;refine j5 [(3,3),(6,6),(19,33)] (Xr L N a N).length U rfl rfl ?_ ?_;rw[F];obtain⟨u,rfl,y,z,h4⟩:=sI;exact⟨by simpa using p6,⟨_,p3,u,zS,by rw[po];simpa using y,z,zO⟩,zO,λb i=>by rw[po];exact Q b i⟩;clear p6 p3;intro j q hj M f;rw[F]at M;obtain⟨q6,⟨v2,S,qI⟩,qn,qo⟩:=M;have q0:=(f.t 0 zS).trans p0;have q4:=(f.t 4 zS).trans p4;have q5:=(f.t 5 zS).trans p5;have qd:=f.d.trans pd;have qr:=f.r.trans pr;clear f;obtain⟨u,rfl,y,z,h4⟩:=qI;by_cases g:j<(Xr L N a N).length;have I:=jR g zO;have O:=JD j6 t1 false (Xr L N a N) .i64 g;have Z:=jn (Xr L N a N) g;have nu:∀m,q.nx<=m->¬u=m:=λm hm=>by omega
  have x:(rowE L N a).take (j+1)=(rowE L N a).take j++[((a:Int),(Xr L N a N)[j])]:=by rw[av (by rw[je6];exact g)];simp[rowE]
  have b0:(JU L N a++(rowE L N a).take j).flatMap yT++[V.int .i64 (a:Int),.int .i64 (Xr L N a N)[j]]=(JU L N a++(rowE L N a).take (j+1)).flatMap yT:=by rw[x,<- aY,bJ (xs:=JU L N a++(rowE L N a).take j)];simp[yT]
  have H:(JU L N a++(rowE L N a).take (j+1)).length=(JU L N a++(rowE L N a).take j).length+1:=by rw[x,<- aY,ap (bs:=[_])];rfl
  have b8:(JU L N a++(rowE L N a).take j).length<=20000:=by rw[ap,ai,je6];omega
  have c0:((JU L N a++(rowE L N a).take j).flatMap yT).length=(JU L N a++(rowE L N a).take j).length*2:=j1 XD _;generalize hA:JU L N a++(rowE L N a).take j=A at *;generalize hB:JU L N a++(rowE L N a).take (j+1)=B at *;simp(disch:=try exact zD)[q6,q5,S,q4,g,O,Z,j2];refine jZ (cs:=[.int .i64 (a:Int),.int .i64 (Xr L N a N)[j]]) (by simp[j2]) rfl rfl ?_;simp;refine JL (l:=2*u+1) (u:=u) (n:=A.length) (cs:=A.flatMap yT) (ys:=[.int .i64 (a:Int),.int .i64 (Xr L N a N)[j]]) zS (by simp[yp,ya]) ?_ zS (by simpa[qr] using z) zO zQ rfl zP zP ?_;simp(disch:=try exact zD)[yj,nu];exact y;rw[aH zO,b0];simp(disch:=try exact zD)[q6,I,g];rw[F];simp only[hB];refine⟨zS,⟨.osl (2*(q.nx+768)+1) (q.nx+768) 0 B.length 2,by simp[H,aA],q.nx+768,rfl,?_,zO,zL⟩,zL,λb i=>?_⟩;simp(disch:=try exact zD)[j9,yj,aA];have h6:¬b=2*u+1:=i u z;have h7:∀m,q.nx<=m->¬b=2*m+1:=λm hm=>i m zO;simp(disch:=try exact zD)[j9,h6,h7,JF h6];exact qo b i;have e:j=(Xr L N a N).length:=zO;subst e;rw[aH (by rw[je6];exact dG _),<- jer]at y S;simp(disch:=try exact zD)[q6,q5,q4,T,D];rw[X];exact⟨zS,⟨_,by simpa using S,u,rfl,by simpa using y,z,zL⟩,zL,λb i=>by simpa using qo b i⟩
 have:a=N:=zO;subst this;obtain⟨u,rfl,y,z,h4⟩:=sI;simp(disch:=try exact zD)[P,s0,s3,ya,G];exact jxs (L:=2*u+1) (u:=u) (sz:=2) (λr h=>h) (by simp[sd]) zS (by simpa using y) (by rw[j1 XD]) (by simpa[sr] using z) (j0f _)
end
def jnp (g:Hist') (lvl:Int) (M:List Int):Int:=if !jP g then 4 else if lvl<1\/2<lvl\/WM g M=false then 2 else 0
section
variable {g:Hist'}{M:List Int}
def ev158 (g:Hist') (x:Int):Ev E 158 [.agg (yb g),.int .i64 x] (.int .i64 (Jg g x)):=by
 refine jT rfl ?_;unfold Jg;by_cases h:x<0
 ·conv in(occs:=*)F158=>all_goals cbv
  simp[yb,ya,h];exact j3 rfl zS rfl
 ·conv in(occs:=*)F158=>all_goals cbv
  simp[yb,ya,h];exact j3 rfl zS rfl
end
def WA {st:St}{ub lo hi:Nat}{K:List FP->St->Prop}{d:Option Nat}{r:List AOpr}{v:V}{L:List P2}{p:P2}{s x:A}(f:ye E st.tm s=v) (m:EdV st.ob lo hi v L) (l:st.ro<=lo) (i:yp st.ob 2 (ye E st.tm x)=some (yT p)) (q:L.length<=1000000)
 (h:∀e:List Nat,(e=[]\/∃u,lo<=u/\u<hi/\e=[2*u+1])->YW E r K (ye E st.tm) (.append true 2 16 s x) st d ub { v:=.osl (2*ub+1) ub 0 (L.length+1) 2,obs:=[(2*ub+1,⟨ub,.cells ((L++[p]).flatMap yT)⟩)],kill:=e }):jE E (⟨d,.append true 2 16 s x,none,true⟩::r) st ub K:=by
 rw[jw rfl];have a:yT p≠[]:=by simp[yT]
 have b:(yT p).all V.leaf=true:=rfl;have k:=j1 XD L;rcases m with⟨rfl,rfl⟩|⟨u,rfl,n,o,j⟩;simp only[yU,f,i,ah,za a,dp,zd,Je,Xw];rw[zb ⟨zQ,b,by simp[yT],by simp[yT]⟩];simp only[Jo,jG];have:=h [] (.inl rfl);simpa[yT] using this;have c:ya st.ob (2*u+1) u=some (L.flatMap yT):=by simp[ya,n]
 simp only[yU,f,i,c,ah,za a,Je,Xw];rw[zb ⟨bT▸zO,trivial,trivial,zO,zQ,b,by simp[yT];omega,by simp[yT];omega⟩,jG];have:=h [2*u+1] (.inr ⟨u,o,j,rfl⟩);rw[show(L.flatMap yT).take (L.length*2)=L.flatMap yT from aH zO];simpa[yT,bJ] using this
def mkS (g:Hist') (mv rv lv:V):List V:=yb g++[mv,rv,lv]
def MkR (g:Hist') (mv rv:V) (kX uX lo:Nat) (ob:ZO) (ub:Nat) (L:List P2):Prop:=∃lv,ob kX=some ⟨uX,.cells (mkS g mv rv lv)⟩/\EdV ob lo ub lv L
def MkR.keep {g:Hist'}{mv rv:V}{kX uX lo ub b:Nat}{ob ob':ZO}{L:List P2}(h:MkR g mv rv kX uX lo ob ub L) (c:∀a,Off ub a->ob' a=ob a) (f:Off ub kX) (e:ub<=b):MkR g mv rv kX uX lo ob' b L:=by obtain⟨j,i,d⟩:=h;exact⟨j,(c _ f).trans i,d.frame (λu _ h=>c _ (Off.new h)) e⟩
section
variable {g:Hist'}{mv rv:V}{kX uX lo:Nat}{ob:ZO}{ub:Nat}{L:List P2}
def j6g (a:∃b,ob kX=some ⟨uX,.cells (mkS g mv rv b)⟩) (x:Int) (tk:Nat->Bool) (base ub:Nat):EvO E 220 [.ptr kX uX 0,.int .i64 x] ob tk base ub (.int .i64 (Jg g x)):=by
 obtain⟨b,a⟩:=a;refine jr rfl ?_;unfold Jg;by_cases h:x<0
 ·conv in(occs:=*)S220=>all_goals cbv
  simp[ya,a,mkS,yb,h];exact j3 rfl zS rfl
 ·conv in(occs:=*)S220=>all_goals cbv
  simp[h];exact j3 rfl zS rfl
def EdV.at {ob:ZO}{lo hi:Nat}{v:V}{L:List P2}(h:EdV ob lo hi v L):∃b a,lo<=b/\(a<=hi\/a=lo)/\EdV ob b a v L/\∀u,b<=u->u<a->v=.osl (2*u+1) u 0 L.length 2:=by rcases h with⟨a,c⟩|⟨u,a,c,e,f⟩;exact⟨lo,lo,zK,.inr rfl,.inl ⟨a,c⟩,λu h d=>by omega⟩;exact⟨u,u+1,e,.inl zO,.inr ⟨u,a,c,zK,cX _⟩,λw h d=>by rw[a,show w=u by omega]⟩
def j5k (v:V) (L:List P2) (key:Nat):Prop:=∀u,v=.osl (2*u+1) u 0 L.length 2->key≠2*u+1
def EdV.off {ob:ZO}{lo hi:Nat}{v:V}{L:List P2}(h:EdV ob lo hi v L) {key:Nat}(b:Off lo key):j5k v L key:=by
 intro u a;rcases h with⟨rfl,_⟩|⟨w,rfl,_,c,_⟩;cases a;have:w=u:=by injection a
 exact b u zO
def jwn {Yf:YF}{tk:Nat->Bool}{ro base:Nat}{lv:V}(d:ob kX=some ⟨uX,.cells (mkS g mv rv lv)⟩) (B:EdV ob lo ub lv L) (k:Off lo kX) (x:lo<=ub) (D:ro<=lo) (z:ro<=uX) (N:L.length<=100000) (a b:Int) :
 ∃r,EvS E Yf.y 168 [.ptr kX uX 0,.int .i64 a,.int .i64 b] ob tk ro base ub r/\ub<=r.2.2.2/\(∃h,r.2.1 kX=some ⟨uX,.cells (mkS g mv rv h)⟩/\EdL r.2.1 ub r.2.2.2 h (L++[(Jg g a,Jg g b)]))/\∀c,Off ub c->c≠kX->j5k lv L c->r.2.1 c=ob c:=by
 have n:=(k.up x).ne;obtain⟨I,f,O,M,H,J⟩:=B.at;refine J6 rfl zQ ?_;show wpC E Yf S168.body _ (Jh S168.res _);conv in(occs:=*)S168=>all_goals cbv
 simp(disch:=try exact zD)[S168,ya,d,mkS,yb];refine jcy (vs:=[.ptr kX uX 0,.int .i64 a]) zS rfl rfl (j6g (g:=g) (mv:=mv) (rv:=rv) ⟨lv,by simpa using d⟩ _ _ _ _) (JZ rfl) ?_;simp;refine jcy (vs:=[.ptr kX uX 0,.int .i64 b]) zS rfl rfl (j6g (g:=g) (mv:=mv) (rv:=rv) ⟨lv,by simpa using d⟩ _ _ _ _) (JZ rfl) ?_;simp[j2];refine J0 (cs:=[.int .i64 (Jg g a),.int .i64 (Jg g b)]) (by simp[j2]) rfl rfl ?_;simp;refine WA (lo:=I) (hi:=f) (v:=lv) (L:=L) (p:=(Jg g a,Jg g b)) zS (H.frame (λu f j=>?_) zK) zP (by simp[yp,ya,yT]) zO λK q=>?_;have t:∀m,ub<=m->¬u=m:=λm l=>by omega
 simp(disch:=try exact zD)[yj,t];have i:∀c,j5k lv L c->K.any (Nat.beq c)=false:=λc k=>by rcases q with rfl|⟨u,f,j,rfl⟩;rfl;simp only[bp,bC,bm];exact JF (k u (J u f j))
 have o:=i _ (B.off k);generalize w:List.flatMap yT (L++[(Jg g a,Jg g b)])=cs9;simp(disch:=try exact zD)[ya,d,mkS,yb,o,j9,n,j2];have G:∀m,ub<=m->Nat.beq kX (2*m+1)=false:=λm l=>JG (n m l);have s:∀m,ub<=m->Nat.beq (2*m+1) kX=false:=λm l=>JG (dz (n m l));refine⟨z,by simp(disch:=try exact zD)[JR,YY,Wn,QS,yz,yB,yR,uOf,Delta.wo,Delta.wt,G,s],?_⟩;refine jfg (.inl rfl) zS ⟨zL,⟨.osl (2*(ub+832)+1) (ub+832) 0 (L.length+1) 2,by simp[mkS,yb,aA],ub+832,zS,?_,zO,zL⟩,λc f j F=>?_⟩;simp(disch:=try exact zD)[j9,yj,aA,w];exact λe=>zf e.symm (n _ zO);have t:=f.ne;simp(disch:=try exact zD)[j9,j,t,i c F]
def sv168 {Yf:YF}{tk:Nat->Bool}{ro base:Nat}(p:MkR g mv rv kX uX lo ob ub L) (q:Off lo kX) (d:lo<=ub) (h:ro<=lo) (i:ro<=uX) (m:L.length<=100000) (a b:Int) :
 ∃r,EvS E Yf.y 168 [.ptr kX uX 0,.int .i64 a,.int .i64 b] ob tk ro base ub r/\ub<=r.2.2.2/\MkR g mv rv kX uX lo r.2.1 r.2.2.2 (L++[(Jg g a,Jg g b)])/\∀c,Off lo c->c≠kX->r.2.1 c=ob c:=by
 obtain⟨B,e,j⟩:=p;obtain⟨r,v,n,⟨f,o,u,t,x,z,w⟩,l⟩:=jwn (Yf:=Yf) (tk:=tk) (ro:=ro) (base:=base) e j q d h i m a b;exact⟨r,v,n,⟨f,o,.inr ⟨u,t,x,zO,w⟩⟩,λc k s=>l c (k.up d) s (j.off k)⟩
end
def ptC (u:Nat):List V:=[.ptr (2*u+1) u 0]
def jj7 (u:Nat):(ptC u).length=1:=rfl
def slU (o:Option Nat) (n sz:Nat):V:=match o with
 |none=>.sl none true 0 []
 |some u=>.osl (2*u+1) u 0 n sz
structure Gr (lo hi uG:Nat) (ut uf ue:Option Nat) (tu fu:List Nat) (WT WF:Nat->Nat) (T:List P2) (ob:ZO):Prop where
 o:ob (2*uG+1)=some ⟨uG,.cells [slU ut tu.length 1,slU uf fu.length 1,slU ue T.length 2,.bool true]⟩
 t:∀u,ut=some u->ob (2*u+1)=some ⟨u,.cells (tu.flatMap ptC)⟩
 f:∀u,uf=some u->ob (2*u+1)=some ⟨u,.cells (fu.flatMap ptC)⟩
 e:∀u,ue=some u->ob (2*u+1)=some ⟨u,.cells (T.flatMap yT)⟩
 z:(ut=none->tu=[])/\(uf=none->fu=[])/\(ue=none->T=[])
 st:∀i (h:i<tu.length),ob (2*tu[i]+1)=some ⟨tu[i],.cells (yv (WT i))⟩
 sf:∀i (h:i<fu.length),ob (2*fu[i]+1)=some ⟨fu[i],.cells (yv (WF i))⟩
 nT:tu.Nodup
 nF:fu.Nodup
 nX:∀x∈tu,x ∉ fu
 nS:∀x,x∈tu\/x∈fu->x≠uG/\ut≠some x/\uf≠some x/\ue≠some x
 nG:ut≠some uG/\uf≠some uG/\ue≠some uG
 nU:∀x,ut=some x->uf≠some x/\ue≠some x
 nV:∀x,uf=some x->ue≠some x
 rG:lo<=uG/\uG<hi
 rL:∀x,ut=some x\/uf=some x\/ue=some x->lo<=x/\x<hi
 rS:∀x,x∈tu\/x∈fu->lo<=x/\x<hi
section
variable {lo hi hi' uG:Nat}{ut uf ue:Option Nat}{tu fu:List Nat}{WT WF:Nat->Nat}{T:List P2}{ob ob':ZO}
def Gr.keep (h:Gr lo hi uG ut uf ue tu fu WT WF T ob) (c:∀x,lo<=x->x<hi->ob' (2*x+1)=ob (2*x+1)) (d:hi<=hi'):Gr lo hi' uG ut uf ue tu fu WT WF T ob':=by
 have g:=λx a=>c x (h.rL x a).1 (h.rL x a).2;have j:=λx a=>c x (h.rS x a).1 (h.rS x a).2;exact⟨(c uG h.rG.1 h.rG.2).trans h.o,λu b=>(g u (.inl b)).trans (h.t u b),λu b=>(g u (.inr (.inl b))).trans (h.f u b),λu b=>(g u (.inr (.inr b))).trans (h.e u b),h.z,
  λi hi=>(j _ (.inl (au hi))).trans (h.st i hi),λi hi=>(j _ (.inr (au hi))).trans (h.sf i hi),h.nT,h.nF,h.nX,h.nS,h.nG,h.nU,h.nV,
  ⟨h.rG.1,aX h.rG.2 d⟩,λx a=>⟨(h.rL x a).1,aX (h.rL x a).2 d⟩,λx a=>⟨(h.rS x a).1,aX (h.rS x a).2 d⟩⟩
def Gr.wide {lo':Nat}(h:Gr lo hi uG ut uf ue tu fu WT WF T ob) (b:lo'<=lo):Gr lo' hi uG ut uf ue tu fu WT WF T ob :=
 ⟨h.o,h.t,h.f,h.e,h.z,h.st,h.sf,h.nT,h.nF,h.nX,h.nS,h.nG,h.nU,h.nV,⟨bI b h.rG.1,h.rG.2⟩,λx a=>⟨bI b (h.rL x a).1,(h.rL x a).2⟩,λx a=>⟨bI b (h.rS x a).1,(h.rS x a).2⟩⟩
def Gr.off (h:Gr lo hi uG ut uf ue tu fu WT WF T ob) {x:Nat}(a:x<hi):Off hi (2*x+1):=Off.new a
def jkf {b:Type}{l:List b}(h:l.Nodup) {i j:Nat}(hi:i<l.length) (a:j<l.length) (e:l[i]=l[j]):i=j:=by rcases dV i j with h1|h1|h1;exact zf e (dA.1 h i j hi a h1);exact h1;exact zf e.symm (dA.1 h j i a hi h1)
def Gr.putT (h:Gr lo hi uG ut uf ue tu fu WT WF T ob) {a w:Nat}(m:a<tu.length) (n:ob' (2*tu[a]+1)=some ⟨tu[a],.cells (yv w)⟩) (g:∀x,lo<=x->x<hi->x≠tu[a]->ob' (2*x+1)=ob (2*x+1)) (d:hi<=hi') :
 Gr lo hi' uG ut uf ue tu fu (λi=>if i=a then w else WT i) WF T ob':=by
 have l:tu[a]∈tu:=au m;obtain⟨p,r,s,v⟩:=h.nS _ (.inl l);have j:=λx (b:ut=some x\/uf=some x\/ue=some x)=>g x (h.rL x b).1 (h.rL x b).2 (λe=>by subst e;rcases b with b|b|b<;>contradiction);have k:=λx b=>g x (h.rS x b).1 (h.rS x b).2;refine⟨(g uG h.rG.1 h.rG.2 (dz p)).trans h.o,λu c=>(j u (.inl c)).trans (h.t u c),λu c=>(j u (.inr (.inl c))).trans (h.f u c),λu c=>(j u (.inr (.inr c))).trans (h.e u c),h.z,
  λi hi=>?_,λi hi=>(k _ (.inr (au hi)) (λe=>h.nX _ l (e▸au hi))).trans (h.sf i hi),h.nT,h.nF,h.nX,h.nS,h.nG,h.nU,h.nV,
  ⟨h.rG.1,aX h.rG.2 d⟩,λx b=>⟨(h.rL x b).1,aX (h.rL x b).2 d⟩,λx b=>⟨(h.rS x b).1,aX (h.rS x b).2 d⟩⟩
 by_cases e:i=a;subst e;rw[zb rfl];exact n;rw[za e];exact(k _ (.inl (au hi)) (λq=>e (jkf h.nT hi m q))).trans (h.st i hi)
def Gr.putF (h:Gr lo hi uG ut uf ue tu fu WT WF T ob) {a w:Nat}(m:a<fu.length) (n:ob' (2*fu[a]+1)=some ⟨fu[a],.cells (yv w)⟩) (g:∀x,lo<=x->x<hi->x≠fu[a]->ob' (2*x+1)=ob (2*x+1)) (d:hi<=hi') :
 Gr lo hi' uG ut uf ue tu fu WT (λi=>if i=a then w else WF i) T ob':=by
 have l:fu[a]∈fu:=au m;obtain⟨p,r,s,v⟩:=h.nS _ (.inr l);have j:=λx (b:ut=some x\/uf=some x\/ue=some x)=>g x (h.rL x b).1 (h.rL x b).2 (λe=>by subst e;rcases b with b|b|b<;>contradiction);have k:=λx b=>g x (h.rS x b).1 (h.rS x b).2;refine⟨(g uG h.rG.1 h.rG.2 (dz p)).trans h.o,λu c=>(j u (.inl c)).trans (h.t u c),λu c=>(j u (.inr (.inl c))).trans (h.f u c),λu c=>(j u (.inr (.inr c))).trans (h.e u c),h.z,
  λi hi=>(k _ (.inl (au hi)) (λe=>h.nX _ (au hi) (e▸l))).trans (h.st i hi),λi hi=>?_,h.nT,h.nF,h.nX,h.nS,h.nG,h.nU,h.nV,
  ⟨h.rG.1,aX h.rG.2 d⟩,λx b=>⟨(h.rL x b).1,aX (h.rL x b).2 d⟩,λx b=>⟨(h.rS x b).1,aX (h.rS x b).2 d⟩⟩
 by_cases e:i=a;subst e;rw[zb rfl];exact n;rw[za e];exact(k _ (.inr (au hi)) (λq=>e (jkf h.nF hi m q))).trans (h.sf i hi)
def Gr.edge (h:Gr lo hi uG ut uf ue tu fu WT WF T ob) {x:Nat}{p:P2}(m:ob' (2*uG+1)=some ⟨uG,.cells [slU ut tu.length 1,slU uf fu.length 1,slU (some x) (T.length+1) 2,.bool true]⟩) (s:ob' (2*x+1)=some ⟨x,.cells ((T++[p]).flatMap yT)⟩)
 (j:∀y,lo<=y->y<hi->y≠uG->ue≠some y->ob' (2*y+1)=ob (2*y+1)) (v:hi<=x) (o:x<hi'):Gr lo hi' uG ut uf (some x) tu fu WT WF (T++[p]) ob':=by
 have g:hi<=hi':=zO;have k:lo<=x:=by have:=h.rG;omega
 have ne:∀y,ut=some y\/uf=some y\/ue=some y->y≠x:=λy a e=>by have:=(h.rL y a).2;omega
 have r:∀y,y∈tu\/y∈fu->y≠x:=λy a e=>by have:=(h.rS y a).2;omega
 refine⟨by rw[ap];exact m,λu b=>(j u (h.rL u (.inl b)).1 (h.rL u (.inl b)).2 (λe=>h.nG.1 (e▸b)) (h.nU u b).2).trans (h.t u b),λu b=>(j u (h.rL u (.inr (.inl b))).1 (h.rL u (.inr (.inl b))).2 (λe=>h.nG.2.1 (e▸b)) (h.nV u b)).trans (h.f u b),
  λu b=>by cases b;exact s,⟨h.z.1,h.z.2.1,λe=>by cases e⟩,λi hi=>?_,λi hi=>?_,h.nT,h.nF,h.nX,λy a=>?_,⟨h.nG.1,h.nG.2.1,λe=>?_⟩,λy a=>⟨(h.nU y a).1,λe=>ne y (.inl a) (by injection e with e;exact e.symm)⟩,λy a e=>ne y (.inr (.inl a)) (by injection e with e;exact e.symm),
  ⟨h.rG.1,aX h.rG.2 g⟩,λy a=>?_,λy a=>⟨(h.rS y a).1,aX (h.rS y a).2 g⟩⟩
 have c:=au hi;obtain⟨d,_,_,l⟩:=h.nS _ (.inl c);exact(j _ (h.rS _ (.inl c)).1 (h.rS _ (.inl c)).2 d l).trans (h.st i hi);have c:=au hi;obtain⟨d,_,_,l⟩:=h.nS _ (.inr c);exact(j _ (h.rS _ (.inr c)).1 (h.rS _ (.inr c)).2 d l).trans (h.sf i hi);obtain⟨d,n,q,_⟩:=h.nS y a;exact⟨d,n,q,λe=>r y a (by injection e with e;exact e.symm)⟩;have:=h.rG.2;injection e with e;omega;rcases a with a|a|a;exact⟨(h.rL y (.inl a)).1,aX (h.rL y (.inl a)).2 g⟩;exact⟨(h.rL y (.inr (.inl a))).1,aX (h.rL y (.inr (.inl a))).2 g⟩;cases a;exact⟨k,o⟩
def Gr.node {a b c d:Nat}(h:Gr lo hi uG ut uf none tu fu (λ_=>0) (λ_=>0) [] ob) (w:ob' (2*uG+1)=some ⟨uG,.cells [slU (some b) (tu.length+1) 1,slU (some d) (fu.length+1) 1,.sl none true 0 [],.bool true]⟩)
 (s:ob' (2*b+1)=some ⟨b,.cells ((tu++[a]).flatMap ptC)⟩) (p:ob' (2*d+1)=some ⟨d,.cells ((fu++[c]).flatMap ptC)⟩) (B:ob' (2*a+1)=some ⟨a,.cells (yv 0)⟩) (D:ob' (2*c+1)=some ⟨c,.cells (yv 0)⟩)
 (t:∀y,lo<=y->y<hi->y≠uG->ut≠some y->uf≠some y->ob' (2*y+1)=ob (2*y+1)) (v:hi<=a/\a<b/\b<c/\c<d/\d<hi'):Gr lo hi' uG (some b) (some d) none (tu++[a]) (fu++[c]) (λ_=>0) (λ_=>0) [] ob':=by
 obtain⟨F,K,G,I,H⟩:=v;have J:hi<=hi':=zO;have n:=h.rG;have g:∀y,y∈tu\/y∈fu->lo<=y/\y<hi:=h.rS;have o:∀y,y∈tu\/y∈fu->ob' (2*y+1)=ob (2*y+1):=λy f=>by obtain⟨x,q,r,_⟩:=h.nS y f;exact t y (g y f).1 (g y f).2 x q r
 have j:∀y,y∈tu++[a]\/y∈fu++[c]->(y∈tu\/y∈fu)\/y=a\/y=c:=λy f=>by simp only[aQ,ae]at f;rcases f with(h|h)|(h|h);exact .inl (.inl h);exact .inr (.inl h);exact .inl (.inr h);exact .inr (.inr h)
 refine⟨by simpa[slU] using w,λu k=>(by cases k;exact s),λu k=>(by cases k;exact p),λu k=>(by cases k),⟨λe=>(by cases e),λe=>(by cases e),λ_=>rfl⟩,λi hi=>?_,λi hi=>?_,?_,?_,λy f=>?_,λy f=>?_,⟨λe=>?_,λe=>?_,λe=>(by cases e)⟩,
  λy f=>⟨λe=>?_,λe=>(by cases e)⟩,λy _ e=>(by cases e),⟨n.1,zO⟩,λy f=>?_,λy f=>?_⟩
 by_cases e:i<tu.length;rw[fL e];exact(o _ (.inl (au e))).trans (h.st i e);have:i=tu.length:=by rw[ap,em]at hi;omega
 subst this;rw[fE zK];simpa using B;by_cases e:i<fu.length;rw[fL e];exact(o _ (.inr (au e))).trans (h.sf i e);have:i=fu.length:=by rw[ap,em]at hi;omega
 subst this;rw[fE zK];simpa using D;rw[dc];exact⟨h.nT,zS,λy f z m e=>by rw[ae]at m;have:=(g y (.inl f)).2;omega⟩;rw[dc];exact⟨h.nF,zS,λy f z m e=>by rw[ae]at m;have:=(g y (.inr f)).2;omega⟩;simp only[aQ,ae]at f ⊢;rintro(l|l);rcases f with h3|h3;exact h.nX y h3 l;have:=(g y (.inr l)).2;omega;rcases f with h3|h3;have:=(g y (.inl h3)).2;omega;omega;refine⟨?_,λe=>?_,λe=>?_,λe=>(by cases e)⟩;rcases j y f with h3|h3|h3;exact(h.nS y h3).1;omega;omega;injection e with e;rcases j y f with h3|h3|h3;have:=(g y h3).2;omega;omega;omega;injection e with e;rcases j y f with h3|h3|h3;have:=(g y h3).2;omega;omega;omega;injection e with e;omega;injection e with e;omega;injection f with f;injection e with e;omega;rcases f with f|f|f;injection f with f;omega;injection f with f;omega;cases f;rcases j y f with h3|h3|h3;have:=g y h3;omega;omega;omega
end
def XJ (o:Option Nat):List Nat:=match o with
 |none=>[]
 |some u=>[2*u+1]
def jgt {st:St}{ub:Nat}{K:List FP->St->Prop}{d:Option Nat}{r:List AOpr}{ut:Option Nat}{tu:List Nat}{a:Nat}{s x:A}(f:ye E st.tm s=slU ut tu.length 1) (i:∀u,ut=some u->st.ob (2*u+1)=some ⟨u,.cells (tu.flatMap ptC)⟩/\st.ro<=u) (m:ut=none->tu=[])
 (g:yp st.ob 1 (ye E st.tm x)=some (ptC a)) (n:tu.length<=1000000)
 (h:YW E r K (ye E st.tm) (.append true 1 8 s x) st d ub { v:=.osl (2*ub+1) ub 0 (tu.length+1) 1,obs:=[(2*ub+1,⟨ub,.cells ((tu++[a]).flatMap ptC)⟩)],kill:=XJ ut }):jE E (⟨d,.append true 1 8 s x,none,true⟩::r) st ub K:=by
 rw[jw rfl];have b:ptC a≠[]:=by simp[ptC]
 have c:(ptC a).all V.leaf=true:=rfl;have j:=j1 jj7 tu;cases ut with
 |none=>have:=m rfl;subst this;simp only[yU,f,slU,g,ah,za b,dp,zd,Je,Xw];rw[zb ⟨zQ,c,by simp[ptC],by simp[ptC]⟩];simp only[Jo,jG];simpa[ptC,XJ] using h
 |some u=>
  obtain⟨k,l⟩:=i u rfl;have e:ya st.ob (2*u+1) u=some (tu.flatMap ptC):=by simp[ya,k]
  simp only[yU,f,slU,g,e,ah,za b,Je,Xw];rw[zb ⟨bT▸l,trivial,trivial,zO,zQ,c,by simp[ptC];omega,by simp[ptC];omega⟩,jG];rw[show(tu.flatMap ptC).take (tu.length*1)=tu.flatMap ptC from aH zO];simpa[ptC,XJ,bJ] using h
def j8z (l u o:Nat):yR (.ptr l u o)=[l]:=rfl
def j80 (l u o n z:Nat):yR (.osl l u o n z)=[l]:=rfl
def beqN {a b:Nat}(h:¬a=b):Nat.beq (2*a+1) (2*b+1)=false:=JG zO
def j0g (a:Nat) (x y:List Nat):Wn (a::x) y=(!(y.any λb=>Nat.beq a b)&&Wn x y):=by simp[Wn,Bool.not_or]
def j46 (y:List Nat):Wn [] y=true:=rfl
def j47 (x a y:List Nat):Wn (x++a) y=(Wn x y&&Wn a y):=by simp[Wn,eY,Bool.not_or]
section
variable {ob:ZO}{ub:Nat}
def PgR (ob:ZO) (ub n:Nat) (WT WF:Nat->Nat) (k:Nat) (r:V×(ZO)×(Nat->Bool)×Nat):Prop :=
 ∃uG ut uf ue tu fu T,r.1=.tup [.ptr (2*uG+1) uG 0,.int .i64 0]/\Gr ub r.2.2.2 uG (some ut) (some uf) ue tu fu WT WF T r.2.1/\tu.length=n/\fu.length=n/\T.length<=k/\ub<=r.2.2.2/\∀key,Off ub key->r.2.1 key=ob key
def sv175 {Yf:YF}{tk:Nat->Bool}{ro base n:Nat}(c3:ro<=ub) (U:0<n) (h9:n<=9):∃r,EvS E Yf.y 175 [.int .i64 (n:Int)] ob tk ro base ub r/\PgR ob ub n (λ_=>0) (λ_=>0) 0 r:=by
 refine J6 rfl zQ ?_;show wpC E Yf S175.body _ (Jh S175.res _);have c1:¬(n:Int)<0:=zO;have a0:¬(500:Int)<n:=zO;conv in(occs:=*)S175=>all_goals cbv
 simp(disch:=try exact zD)[S175,c1,a0,V.cells,j2];refine jQ λD l=>?_;obtain⟨q,u1,u2,g4,gG⟩:∃u,ub<=u/\u<D.nx/\D.tm 4=.ptr (2*u+1) u 0/\D.ob (2*u+1)=some ⟨u,.cells [.sl none true 0 [],.sl none true 0 [],.sl none true 0 [],.bool true]⟩:=by refine⟨ub+576,zO,by rw[l];first|omega|(simp;done)|(simp;omega),by rw[l];simp,by rw[l];simp[aA]⟩
 have c0:D.tm 13=.int .i64 n:=by rw[l];simp
 have N:D.tm 14=.int .i64 0:=by rw[l];simp
 have gd:D.df=[]:=by rw[l];simp
 have gr:D.ro=ro:=by rw[l];simp
 have go:∀g,Off ub g->D.ob g=ob g:=λg v=>by have:=v.ne;rw[l];simp(disch:=try exact zD)[this]
 clear l;obtain⟨J,hJ⟩:∃J:Nat->St->Prop,J=λi s=>s.tm 14=.int .i64 i/\(∃ut k tu K,Gr ub s.nx q ut k none tu K (λ_=>0) (λ_=>0) [] s.ob/\tu.length=i/\K.length=i/\((ut=none/\k=none/\i=0)\/∃a b,ut=some a/\k=some b))/\ub<=s.nx/\∀g,Off ub g->s.ob g=ob g:=⟨_,rfl⟩;refine j5 [(14,36)] n J rfl rfl ?_ ?_;rw[hJ];refine⟨by simpa using N,⟨none,none,[],[],⟨by simpa[slU] using gG,λu h=>(by cases h),λu h=>(by cases h),λu h=>(by cases h),⟨λ_=>rfl,λ_=>rfl,λ_=>rfl⟩,λi h=>(by simp at h),λi h=>(by simp at h),ey,ey,λx h=>(by simp at h),λx h=>(by simp at h),⟨zS,zS,zS⟩,λx h=>(by cases h),λx h=>(by cases h),⟨u1,u2⟩,λx h=>(by simp at h),λx h=>(by simp at h)⟩,rfl,rfl,.inl ⟨rfl,rfl,rfl⟩⟩,zO,go⟩;clear N go gG u2;intro i s hi O f;rw[hJ]at O;obtain⟨I,⟨ut,k,tu,K,j,ht,hf,p⟩,sn,so⟩:=O;have s4:=(f.t 4 zS).trans g4;have T:=(f.t 13 zS).trans c0;have sd:=f.d.trans gd;have sr:=f.r.trans gr;clear f;by_cases G:i<n;have b0:=jR G zO;have F:=j.o;have b5:=j.rG;have nG:∀m,s.nx<=m->¬q=m:=λm w=>by omega
 have kt:∀m,s.nx<=m->(XJ ut).any (Nat.beq (2*m+1))=false:=λm w=>by
  cases ut with
  |none=>rfl
  |some u=>have:=j.rL u (.inl rfl);simp only[XJ,bp,bC,bm];exact JG zO
 have X:∀m,s.nx<=m->(XJ k).any (Nat.beq (2*m+1))=false:=λm w=>by
  cases k with
  |none=>rfl
  |some u=>have:=j.rL u (.inr (.inl rfl));simp only[XJ,bp,bC,bm];exact JG zO
 have H:∀x,ut≠some x->(XJ ut).any (Nat.beq (2*x+1))=false:=λx hx=>by
  cases ut with
  |none=>rfl
  |some u=>simp only[XJ,bp,bC,bm];exact JG λe=>hx (by rw[show x=u by omega])
 have M:∀x,k≠some x->(XJ k).any (Nat.beq (2*x+1))=false:=λx hx=>by
  cases k with
  |none=>rfl
  |some u=>simp only[XJ,bp,bC,bm];exact JG λe=>hx (by rw[show x=u by omega])
 have b7:∀g,Off ub g->(XJ ut).any (Nat.beq g)=false:=λg v=>by
  cases ut with
  |none=>rfl
  |some u=>have:=j.rL u (.inl rfl);simp only[XJ,bp,bC,bm];exact JG (v u this.1)
 have b6:∀g,Off ub g->(XJ k).any (Nat.beq g)=false:=λg v=>by
  cases k with
  |none=>rfl
  |some u=>have:=j.rL u (.inr (.inl rfl));simp only[XJ,bp,bC,bm];exact JG (v u this.1)
 simp(disch:=try exact zD)[I,T,s4,G,ya,F];refine jsh zS rfl rfl rfl ?_;simp;refine J0 (cs:=ptC (s.nx+448)) (by simp[j2,ptC,aA,V.cells,V.leaf]) rfl rfl ?_;simp;refine jgt (ut:=ut) (tu:=tu) (a:=s.nx+448) zS (λu L=>?_) j.z.1 (by simp[yp,ya,ptC,aA]) zO ?_;have:=j.rL u (.inl L);have nu:∀m,s.nx<=m->¬u=m:=λm w=>by omega
 refine⟨?_,by simp[sr];omega⟩;simp(disch:=try exact zD)[yj,nu,j.t u L];have k1:=H q j.nG.1;simp(disch:=try exact zD)[j9,ya,F,yj,nG,k1,s4];refine jsh zS rfl rfl rfl ?_;simp;refine J0 (cs:=ptC (s.nx+896)) (by simp[j2,ptC,aA,V.cells,V.leaf]) rfl rfl ?_;simp;refine jgt (ut:=k) (tu:=K) (a:=s.nx+896) zS (λu L=>?_) j.z.2.1 (by simp[yp,ya,ptC,aA]) zO ?_;have:=j.rL u (.inr (.inl L));have nu:∀m,s.nx<=m->¬u=m:=λm w=>by omega
 have k2:=H u λe=>(j.nU u e).1 L;refine⟨?_,by simp[sr];omega⟩;simp(disch:=try exact zD)[j9,yj,nu,j.f u L,k2];have k3:=M q j.nG.2.1;simp(disch:=try exact zD)[j9,ya,F,yj,nG,k1,k3,j2];have b8:(∀m,s.nx<=m->Nat.beq (2*q+1) (2*m+1)=false)/\(∀m,s.nx<=m->Nat.beq (2*m+1) (2*q+1)=false):=⟨λm w=>JG zO,λm w=>JG zO⟩;obtain⟨P,Q⟩:=b8;have S:∀o:Option Nat,(o=ut\/o=k)->∀n,yR (slU o n 1)=XJ o/\uOf (slU o n 1)=[]:=λo _ n=>by cases o<;>exact⟨rfl,rfl⟩
 have hd1:=S ut (.inl rfl);have Z:=S k (.inr rfl);have kk:(XJ ut).any (λa=>(XJ k).any λb=>Nat.beq a b)=false/\(XJ k).any (λa=>(XJ ut).any λb=>Nat.beq a b)=false:=by
  rcases p with⟨rfl,rfl,rfl⟩|⟨a,b,rfl,rfl⟩;exact⟨rfl,rfl⟩;have:=(j.nU a rfl).1;have c2:a≠b:=λe=>this (by rw[e])
  simp only[XJ,bp,bC,bm];exact⟨JG zO,JG zO⟩
 have c5:∀m,s.nx<=m->(XJ ut).any (λa=>Nat.beq a (2*m+1))=false:=λm w=>by
  cases ut with
  |none=>rfl
  |some u=>have:=j.rL u (.inl rfl);simp only[XJ,bp,bC,bm];exact JG zO
 have c4:∀m,s.nx<=m->(XJ k).any (λa=>Nat.beq a (2*m+1))=false:=λm w=>by
  cases k with
  |none=>rfl
  |some u=>have:=j.rL u (.inr (.inl rfl));simp only[XJ,bp,bC,bm];exact JG zO
 have b9:(XJ ut).any (λa=>Nat.beq a (2*q+1))=false/\(XJ k).any (λa=>Nat.beq a (2*q+1))=false:=by rcases p with⟨rfl,rfl,rfl⟩|⟨a,b,rfl,rfl⟩;exact⟨rfl,rfl⟩;have U:=j.nG;simp only[XJ,bp,bC,bm];exact⟨JG λe=>U.1 (by rw[show a=q by omega]),JG λe=>U.2.1 (by rw[show b=q by omega])⟩
 refine⟨zO,by simp(disch:=try exact zD)[JR,YY,Wn,QS,yz,yB,yR,uOf,Delta.wo,Delta.wt,P,Q,b9],jr2 (by simp(disch:=try exact zD)[jmt,jit,QL,j0g,j46,j47,QS,yz,yB,j8z,j80,Delta.wo,Delta.wt,P,Q,hd1,Z,kt,X,k1,k3,beqN]),?_⟩;simp(disch:=try exact zD)[I,b0,G];rw[hJ];have B:∀m,s.nx<=m->¬m=q:=λm w=>by omega
 refine⟨zS,⟨some (s.nx+576),some (s.nx+1024),tu++[s.nx+448],K++[s.nx+896],j.node (a:=s.nx+448) (b:=s.nx+576) (c:=s.nx+896) (d:=s.nx+1024) ?_ ?_ ?_ ?_ ?_ (λy U h2 h3 h4 h5=>?_) ⟨zO,zO,zO,zO,zL⟩,by simp[ht],by simp[hf],.inr ⟨_,_,rfl,rfl⟩⟩,zL,λg v=>?_⟩;simp(disch:=try exact zD)[slU,aA];simp(disch:=try exact zD)[j9,yj,B,X,aA];simp(disch:=try exact zD)[j9,yj,B,aA];simp(disch:=try exact zD)[j9,yj,B,kt,X,aA,jcg];simp(disch:=try exact zD)[j9,yj,B,X,aA,jcg];have ny:∀m,s.nx<=m->¬y=m:=λm w=>by omega
 have q1:=H y h4;have q2:=M y h5;simp(disch:=try exact zD)[j9,yj,ny,q1,q2,h3];have q1:=b7 g v;have q2:=b6 g v;have q3:=(v.up (show ub<=s.nx by omega)).ne;have q4:¬g=2*q+1:=v q b5.1;simp(disch:=try exact zD)[j9,q1,q2,q3,q4];exact so g v;have:i=n:=zO;subst this;simp(disch:=try exact zD)[I,T,s4];rcases p with⟨_,_,rfl⟩|⟨a,b,rfl,rfl⟩;omega;refine Yb (by simp[sd]) ⟨q,a,b,none,tu,K,[],zS,j.keep (λx _ _=>by simp) zL,ht,hf,zS,zL,λg v=>by simpa using so g v⟩
end
section
variable {lo hi uG:Nat}{ut uf:Nat}{ue:Option Nat}{tu fu:List Nat}{WT WF:Nat->Nat}{T:List P2}{ob:ZO}{ub:Nat}
def j0b (b:Gr lo hi uG (some ut) (some uf) ue tu fu WT WF T ob) (e:hi<=ub) (tk:Nat->Bool) (base:Nat):EvO E 233 [.ptr (2*uG+1) uG 0] ob tk base ub (.bool true):=by
 have a:=b.o;have d:∀m,ub<=m->¬uG=m:=λm c=>by have:=b.rG;omega
 refine jr rfl ?_;conv in(occs:=*)S233=>all_goals cbv
 simp(disch:=try exact zD)[S233,ya,a];exact j3 zS zS rfl
def jno (c:Gr lo hi uG (some ut) (some uf) ue tu fu WT WF T ob) (d:hi<=ub) (a:Int) (tk:Nat->Bool) (base:Nat):EvO E 234 [.ptr (2*uG+1) uG 0,.int .i64 a] ob tk base ub (.bool (decide (0<=a)&&decide (a<tu.length))):=by
 have b:=c.o;have f:∀m,ub<=m->¬uG=m:=λm e=>by have:=c.rG;omega
 refine jr rfl ?_;conv in(occs:=*)S234=>all_goals cbv
 simp(disch:=try exact zD)[S234,ya,b];refine jN (vs:=[.ptr (2*uG+1) uG 0]) zS rfl rfl (j0b (c.keep (λx _ _=>by simp) d) zO _ _) ?_;by_cases h:0<=a;simp(disch:=try exact zD)[ya,b,slU,h];exact j3 zS zS rfl;simp(disch:=try exact zD)[ya,b,slU,h];exact j3 zS zS rfl
def jj6 {l:List Nat}{i:Nat}(h:i<l.length):(l.flatMap ptC)[i]? = some (.ptr (2*l[i]+1) l[i] 0):=by have:=jO jj7 l h (by decide:0<1);rw[bx,bl]at this;rw[this];rfl
def evo235 (c:Gr lo hi uG (some ut) (some uf) ue tu fu WT WF T ob) (h:hi<=ub) {a b:Nat}(e:a<tu.length) (j:b<64) (g:WT a<2^64) (tk:Nat->Bool) (base:Nat):EvO E 235 [.ptr (2*uG+1) uG 0,.int .i64 (a:Int),.int .i64 (b:Int)] ob tk base ub (.bool ((WT a).testBit b)):=by
 have d:=c.o;have f:=c.t ut rfl;have v:∀m,ub<=m->¬uG=m:=λm r=>by have:=c.rG;omega
 have i:∀m,ub<=m->¬ut=m:=λm r=>by have:=c.rL ut (.inl rfl);omega
 have p:=c.st a e;have q:=c.rS tu[a] (.inl (au e));have s:=jlf (l:=2*ut+1) (u:=ut) (kk:=.i64) e;have z:=jj6 e;have y:((a:Int)<(tu.length:Int)):=zO;refine jr rfl ?_;conv in(occs:=*)S235=>all_goals cbv
 simp(disch:=try exact zD)[S235,ya,d];refine jN (vs:=[.ptr (2*uG+1) uG 0,.int .i64 a]) zS rfl rfl (jno (c.keep (λx _ _=>by simp) h) zO _ _ _) ?_;simp(disch:=try exact zD)[ya,d,slU,e,yj,v,i,f,s,z];refine jN (vs:=[.ptr (2*tu[a]+1) tu[a] 0,.int .i64 b]) zS rfl rfl (jg5 (w:=WT a) (by simpa using p) (Off.new zO) j g _ _) ?_;simp;exact j3 zS zS rfl
end
section
variable {ub n k:Nat}{uG ut uf:Nat}{ue:Option Nat}{tu fu:List Nat}{WT WF:Nat->Nat}{T:List P2}{lo:Nat}{ob:ZO}
def GPut (lo:Nat) (ob:ZO) (ub uG ut uf:Nat) (tu fu:List Nat) (WT WF:Nat->Nat) (k:Nat) (r:V×(ZO)×(Nat->Bool)×Nat):Prop :=
 ∃bb ue T,r.1=.tup [.bool bb,.int .i64 0]/\Gr lo r.2.2.2 uG (some ut) (some uf) ue tu fu WT WF T r.2.1/\T.length<=k/\ub<=r.2.2.2/\∀key,Off lo key->r.2.1 key=ob key
def j5y {w b:Nat}(h:w.testBit b=true):w|||1<<<b=w:=by refine eU λi=>?_;rw[eL,da,fe];by_cases e:b=i;subst e;simp[h];simp[e]
def Dual (n:Nat) (WT WF:Nat->Nat):Prop:=∀a b,a<n->b<n->(WT a).testBit b=(WF b).testBit a
def jpv {F:Env}{Yf:YF}{q:Nat}{ue:Option Nat}{T:List P2}{p:P2}{s x:A}{st:St}{K:St->Nat->Prop}{d:Option Nat}(a:ye F st.tm s=slU ue T.length 2) (c:∀u,ue=some u->st.ob (2*u+1)=some ⟨u,.cells (T.flatMap yT)⟩/\st.ro<=u) (i:ue=none->T=[])
 (b:yp st.ob 2 (ye F st.tm x)=some (yT p)) (j:T.length<=1000000) (h:QP K st d q { v:=.osl (2*q+1) q 0 (T.length+1) 2,obs:=[(2*q+1,⟨q,.cells ((T++[p]).flatMap yT)⟩)],kill:=XJ ue }):j8 F Yf ⟨d,.append true 2 16 s x,none,true⟩ st q K:=by
 cases ue with
 |none=>have:=i rfl;subst this;refine X9 a b (by simp[yT]) zQ rfl (by simp[yT]) (by simp[yT]) ?_;simpa[yT,jI,XJ] using h
 |some u=>obtain⟨f,g⟩:=c u rfl;have e:=j1 XD T;refine JL (cs:=T.flatMap yT) a b f (by simp[yT]) g zO zQ rfl (by simp[yT];omega) (by simp[yT];omega) ?_;rw[aH zO];simpa[yT,jI,XJ] using h
def jm6 {ue:Option Nat}{x:Nat}(h:ue≠some x):(XJ ue).any (Nat.beq (2*x+1))=false:=by
 cases ue with
 |none=>rfl
 |some u=>simp only[XJ,bp,bC,bm];exact JG λe=>h (by rw[show x=u by omega])
def jy1 {ue:Option Nat}{key l:Nat}(h:∀u,ue=some u->l<=u) (a:Off l key):(XJ ue).any (Nat.beq key)=false:=by
 cases ue with
 |none=>rfl
 |some u=>simp only[XJ,bp,bC,bm];exact JG (a u (h u rfl))
def sv176 {Yf:YF}{tk:Nat->Bool}{ro base:Nat}(g:Gr lo ub uG (some ut) (some uf) ue tu fu WT WF T ob) (c4:ro<=lo) (K:tu.length=n) (hf:fu.length=n) (h9:n<=64) {a b:Nat}(ha:a<n) (X:b<n) (c0:∀i,i<n->WT i<2^n) (Z:∀i,i<n->WF i<2^n) (hd:Dual n WT WF) (hT:T.length<=100000) :
 ∃r,EvS E Yf.y 176 [.ptr (2*uG+1) uG 0,.int .i64 (a:Int),.int .i64 (b:Int)] ob tk ro base ub r/\GPut lo ob ub uG ut uf tu fu (λi=>if i=a then WT a|||1<<<b else WT i) (λi=>if i=b then WF b|||1<<<a else WF i) (T.length+1) r:=by
 have hp:(2:Nat)^n<=2^64:=bY zQ h9;have w1:WT a<2^64:=aX (c0 a ha) hp;have w2:WF b<2^64:=aX (Z b X) hp;have M:=g.o;have b5:=g.rG;have nG:∀m,ub<=m->¬uG=m:=λm I=>by omega
 refine J6 rfl zQ ?_;show wpC E Yf S176.body _ (Jh S176.res _);conv in(occs:=*)S176=>all_goals cbv
 simp(disch:=try exact zD)[S176,ya,M];refine jN (vs:=[.ptr (2*uG+1) uG 0]) zS rfl rfl (j0b (g.keep (λx _ _=>by simp) zK) zO _ _) ?_;simp;refine jN (vs:=[.ptr (2*uG+1) uG 0,.int .i64 a]) zS rfl rfl (jno (g.keep (λx _ _=>by simp) zK) zO _ _ _) ?_;simp(disch:=try exact zD)[K,ha];refine jN (vs:=[.ptr (2*uG+1) uG 0,.int .i64 b]) zS rfl rfl (jno (g.keep (λx _ _=>by simp) zK) zO _ _ _) ?_;simp(disch:=try exact zD)[K,X];refine jN (vs:=[.ptr (2*uG+1) uG 0,.int .i64 a,.int .i64 b]) zS rfl rfl (evo235 (g.keep (λx _ _=>by simp) zK) zO zO zO w1 _ _) ?_;cases hh:(WT a).testBit b;have q:a<tu.length:=zO;have j:b<fu.length:=zO;have c1:=g.t ut rfl;have nt:∀m,ub<=m->¬ut=m:=λm I=>by have:=g.rL ut (.inl rfl);omega
 have U:=jlf (l:=2*ut+1) (u:=ut) (kk:=.i64) q;have e2:=jj6 q;have e3:=jlf (l:=2*uf+1) (u:=uf) (kk:=.i64) j;have e4:=jj6 j;rw[K]at U;rw[hf]at e3;have b9:=g.rS tu[a] (.inl (au q));have b8:=g.rS fu[b] (.inr (au j));have hs:=g.st a q;simp(disch:=try exact zD)[ya,M,slU,yj,nG,nt,c1,K,U,e2];refine jJ (vs:=[.ptr (2*tu[a]+1) tu[a] 0,.int .i64 b]) zS rfl (jtu (w:=WT a) (by simpa using hs) (Off.new zL) zP zO w1) ?_;rintro v1 O c3 s ⟨_,B,H⟩;simp only at B H;have q1:ub<=s:=by first|omega|(simp at H;omega)
 have v:Gr lo s uG (some ut) (some uf) ue tu fu (λi=>if i=a then WT a|||1<<<b else WT i) WF T O:=by refine g.putT q ?_ (λx h1 h2 h3=>?_) q1;have:=B (2*tu[a]+1) (Off.new zL);rwa [zb rfl]at this;have:=B (2*x+1) (Off.new zL);rw[za zO]at this;simpa using this
 have b7:∀c,Off lo c->O c=ob c:=λc h=>by have:=B c (h.up zL);rw[za (h tu[a] b9.1)]at this;simpa using this
 clear B H;have D:=v.o;have G:=v.f uf rfl;have c2:∀m,s<=m->¬uG=m:=λm I=>by omega
 have b6:∀m,s<=m->¬uf=m:=λm I=>by have:=g.rL uf (.inr (.inl rfl));omega
 have P:=v.sf b j;simp(disch:=try exact zD)[ya,D,slU,yj,c2,b6,G,hf,e3,e4];refine jJ (vs:=[.ptr (2*fu[b]+1) fu[b] 0,.int .i64 a]) zS rfl (jtu (w:=WF b) (by simpa using P) (Off.new zL) zP zO w2) ?_;rintro v2 L c5 d ⟨_,B,H⟩;simp only at B H;have q2:s<=d:=by first|omega|(simp at H;omega)
 have J:Gr lo d uG (some ut) (some uf) ue tu fu (λi=>if i=a then WT a|||1<<<b else WT i) (λi=>if i=b then WF b|||1<<<a else WF i) T L:=by refine v.putF j ?_ (λx h1 h2 h3=>?_) q2;have:=B (2*fu[b]+1) (Off.new zL);rwa [zb rfl]at this;have:=B (2*x+1) (Off.new zL);rw[za zO]at this;simpa using this
 have a0:∀c,Off lo c->L c=ob c:=λc h=>by have:=B c (h.up zL);rw[za (h fu[b] b8.1)]at this;rw[<- b7 c h];simpa using this
 clear B H D G v P;have F:=J.o;have Q:∀m,d<=m->¬uG=m:=λm I=>by omega
 simp(disch:=try exact zD)[ya,F,yj,Q,j2];refine jZ (cs:=[.int .i64 (a:Int),.int .i64 (b:Int)]) (by simp[j2]) rfl rfl ?_;simp;refine jpv (ue:=ue) (T:=T) (p:=((a:Int),(b:Int))) zS (λu S=>?_) g.z.2.2 (by simp[yp,ya,yT]) zO ?_;have:=g.rL u (.inr (.inr S));have nu:∀m,d<=m->¬u=m:=λm I=>by omega
 refine⟨?_,by simp;omega⟩;simp(disch:=try exact zD)[j9,yj,nu,J.e u S];have k1:=jm6 (ue:=ue) g.nG.2.2;simp(disch:=try exact zD)[j9,ya,F,yj,Q,j2,k1];have N:∀m,d<=m->¬m=uG:=λm I=>by omega
 refine⟨zO,Yb zS ⟨true,some (d+576),T++[((a:Int),(b:Int))],zS,J.edge (x:=d+576) (p:=((a:Int),(b:Int))) ?_ ?_ (λy h1 h2 h3 h4=>?_) zO zL,zS,zL,λc h=>?_⟩⟩;simp(disch:=try exact zD)[slU,aA,K,hf];simp(disch:=try exact zD)[j9,yj,N,aA,slU];have ny:∀m,d<=m->¬y=m:=λm I=>by omega
 have k2:=jm6 h4;simp(disch:=try exact zD)[j9,yj,ny,k2,h3];have k2:=jy1 (ue:=ue) (l:=lo) (λu S=>(g.rL u (.inr (.inr S))).1) h;have q3:=(h.up (show lo<=d by omega)).ne;have q4:¬c=2*uG+1:=h uG b5.1;simp(disch:=try exact zD)[j9,k2,q3,q4];exact a0 c h;simp;have b0:(WF b).testBit a=true:=by rw[<- hd a b ha X];exact hh
 have U:(λi=>if i=a then WT a|||1<<<b else WT i)=WT:=funext λi=>by split;rename_i e;rw[e,j5y hh];rfl
 have e2:(λi=>if i=b then WF b|||1<<<a else WF i)=WF:=funext λi=>by split;rename_i e;rw[e,j5y b0];rfl
 rw[U,e2];exact Yb zS ⟨false,ue,T,zS,g.keep (λx _ _=>by simp) zL,zO,zL,λc h=>by simp⟩
end
def rowW (L:List P2) (a:Nat):Nat:=L.foldl (λw z=>if z.1=(a:Int) then w|||1<<<z.2.toNat else w) 0
def colW (L:List P2) (b:Nat):Nat:=L.foldl (λw z=>if z.2=(b:Int) then w|||1<<<z.1.toNat else w) 0
def jl2 (L:List P2) (z:P2) (a:Nat):rowW (L++[z]) a=if z.1=(a:Int) then rowW L a|||1<<<z.2.toNat else rowW L a:=by simp[rowW]
def jnv (L:List P2) (z:P2) (b:Nat):colW (L++[z]) b=if z.2=(b:Int) then colW L b|||1<<<z.1.toNat else colW L b:=by simp[colW]
def InG (n:Nat) (L:List P2):Prop:=∀z∈L,∃a b:Nat,z=((a:Int),(b:Int))/\a<n/\b<n
def jfl {n:Nat}(p:List P2->Nat->Nat) (g:∀a,p [] a=0) (q:P2->Int×Int) (h:∀L z a,p (L++[z]) a=if (q z).1=(a:Int) then p L a|||1<<<(q z).2.toNat else p L a) (L:List P2) (i:∀z∈L,0<=(q z).2/\(q z).2<n) :
 ∀k,k<=L.length->∀a,p (L.take k) a<2^n/\∀b,(p (L.take k) a).testBit b=(L.take k).any λz=>decide ((q z).1=(a:Int)/\(q z).2=(b:Int))
 |0,_,a=>by rw[dP,g];exact⟨ic n,λb=>by simp⟩
 |k+1,hk,a=>by obtain⟨j,f⟩:=jfl p g q h L i k zO a;have o:L[k]∈L:=au zO;obtain⟨m,r⟩:=i _ o;rw[av zO,h];obtain⟨c,l⟩:=Int.eq_ofNat_of_zero_le m;have d:c<n:=zO;by_cases e:(q L[k]).1=(a:Int);rw[zb e,l];refine⟨dJ j (by rw[ba,da];exact dU zQ d),λb=>?_⟩;rw[eL,f,eY,ba,da,fe];simp[e,l,Int.ofNat_inj];rw[za e];refine⟨j,λb=>?_⟩;rw[f,eY];simp[e]
def W4 {n:Nat}{L:List P2}(h:InG n L) (a:Nat):rowW L a<2^n/\∀b:Nat,(rowW L a).testBit b=L.contains ((a:Int),(b:Int)):=by have:=jfl (n:=n) rowW (λ_=>rfl) (λz=>(z.1,z.2)) jl2 L (λz e=>by obtain⟨c,d,rfl,_,f⟩:=h z e;simp;omega) L.length zK a;rw[bh]at this;refine⟨this.1,λb=>?_⟩;rw[this.2,bz];simp[ce]
def jhb {n:Nat}{L:List P2}(h:InG n L) (b:Nat):colW L b<2^n/\∀a:Nat,(colW L b).testBit a=L.contains ((a:Int),(b:Int)):=by have:=jfl (n:=n) colW (λ_=>rfl) (λz=>(z.2,z.1)) jnv L (λz f=>by obtain⟨c,d,rfl,e,_⟩:=h z f;simp;omega) L.length zK b;rw[bh]at this;refine⟨this.1,λa=>?_⟩;rw[this.2,bz];simp only[ce,ze,cB];constructor;rintro⟨z,f,g,e⟩;obtain⟨x,y⟩:=z;simp only at g e;subst g e;exact f;exact λi=>⟨_,i,rfl,rfl⟩
def InG.take {n:Nat}{L:List P2}(h:InG n L) (k:Nat):InG n (L.take k):=λz a=>h z (dH a)
end Go.Pv.T
