/- A range over all ops of a history, of which no round breaks off; the counts of hist.used. -/
import Derived.Test.YtphecmnehkdihaaGreatDoorOC
import Derived.Sort.AssemblyPlain
import Derived.Laws.Bits64
set_option maxRecDepth 100000
set_option maxHeartbeats 8000000
set_option linter.all false
namespace Go.Pv.T
open Go Go.Pv
def Fr1 (n:Nat) (ob ob':ZO):Prop:=∀key,(∀m,n<=m->key≠2*m+1)->ob' key=ob key
theorem jhc (h:Hist') (hn:h.ts.length<=1000) (F:∀t∈h.ts,t.ops.length<=1000000) {asg bd:C}{ps:List Nat}(S:ps.length=2) (T:asg.one=true) (I:bd.one=true) {st:St}{f:A}{lh uh:Nat}
 (hf:eval E st.tm f=.fn (.func 215) [] [.ptr lh uh 0]) (oh:st.ob lh=some ⟨uh,.cells (histC h)⟩) (H:lh≠2*st.nx+1) (O:lh≠2*st.nx+3) (L:st.ro=0)
 (J:Nat->Nat->(ZO)->(Nat->Bool)->Nat->Prop) {Q:Ex->St->Prop}
 (c:∀i k ob d tk ub q,J i k ob tk ub->ub<=q->Fr1 st.nx ob d->J i k d tk q)
 (x:∀i (hi:i<h.ts.length) ob tk ub,J i (h.ts[i]).ops.length ob tk ub->J (i+1) 0 ob tk ub)
 (o:∀i (hi:i<h.ts.length) k (b:k<(h.ts[i]).ops.length) ob tk ub,J i k ob tk ub->ob (2*st.nx+1)=some ⟨st.nx,.loop .ready none⟩->ob (2*st.nx+3)=some ⟨st.nx+1,.dfr⟩->st.nx+64<=ub ->
  wpC E YC asg { tm:=jet st.tm ps [.agg [.int .i64 i,.int .i64 k],.agg (opC (h.ts[i]).ops[k])],ob:=ob,tk:=tk,ro:=0,nx:=ub,fb:=st.fb,df:=[] } λe D=>e=.nrm/\D.ob (2*st.nx+1)=some ⟨st.nx,.loop .ready none⟩ /\
   wpC E YC bd { D with ob:=upd D.ob (2*st.nx+1) (some ⟨st.nx,.loop .busy none⟩) } λe n=>n.ob (2*st.nx+1)=some ⟨st.nx,.loop .busy none⟩/\n.ob (2*st.nx+3)=some ⟨st.nx+1,.dfr⟩/\st.nx+64<=n.nx/\e=.nrm/\J i (k+1) n.ob n.tk n.nx)
 (h0:J 0 0 st.ob st.tk (st.nx+64))
 (hQ:∀ob tk ub,J h.ts.length 0 ob tk ub->ob (2*st.nx+3)=some ⟨st.nx+1,.dfr⟩->st.nx+64<=ub->Q .nrm { st with ob:=ob,tk:=tk,nx:=ub,df:=(2*st.nx+3,st.nx+1)::st.df }) :
 wpC E YC (.rangeFunc f ps asg bd) st Q:=by
 refine WV (g:=215) (first:=[]) (captured:=[.ptr lh uh 0]) hf ?_;have w:¬ 2*st.nx+3=2*st.nx+1:=zO;have Z:¬ 2*st.nx+1=2*st.nx+3:=zO;have:=j1w (Yf:=jg7 E YC asg bd st ps (2*st.nx+1) st.nx) h hn F (l:=2*st.nx+1) (u:=st.nx) (lh:=lh) (uh:=uh)
  (ob0:=upd (upd st.ob (2*st.nx+3) (some ⟨st.nx+1,.dfr⟩)) (2*st.nx+1) (some ⟨st.nx,.loop .ready none⟩)) (tk0:=st.tk) (ro:=st.ro) (base:=(st.fb+1023)*1024) (ub0:=st.nx+64)
  (by simp only[j5,H,O,if_false,oh]) zO
  (λi k ob tk ub=>J i k ob tk ub/\ob (2*st.nx+1)=some ⟨st.nx,.loop .ready none⟩/\ob (2*st.nx+3)=some ⟨st.nx+1,.dfr⟩/\st.nx+64<=ub)
  (λr=>∃s j,r.2.1 (2*st.nx+1)=some ⟨st.nx,.loop s j⟩/\s≠.busy/\st.ro<=st.nx/\Q (j.getD .nrm) { st with ob:=λk=>if Nat.beq (2*st.nx+1) k then none else r.2.1 k,tk:=r.2.2.1,nx:=r.2.2.2,df:=(2*st.nx+3,st.nx+1)::st.df })
  ?_ ?_ ?_ ?_ ?_
 obtain⟨r,N,hP⟩:=this;exact⟨r,N,hP⟩;rintro i k ob d tk ub q ⟨p,y,z,B⟩ G K;have f:∀a,(∀m,ub<=m->a≠2*m+1)->d a=ob a:=K;exact⟨c _ _ _ _ _ _ _ p G (λa b=>f a (λm F=>b m zO)),by rw[f _ (λm F=>by omega)];exact y,by rw[f _ (λm F=>by omega)];exact z,zO⟩;rintro i hi ob tk ub ⟨p,g⟩;exact⟨x i hi ob tk ub p,g⟩;rintro i hi k b ob tk ub ⟨p,y,z,B⟩ a0;have hb:=o i hi k b ob tk ub p y z B;have:=jgj (E:=E) (Yf:=YC) (asg:=asg) (bd:=bd) (st:=st) (ps:=ps) (l:=2*st.nx+1) (u:=st.nx) (xs:=[.agg [.int .i64 i,.int .i64 k],.agg (opC (h.ts[i]).ops[k])]) (ob:=ob) (tk:=tk) (ro:=st.ro) (ub:=ub)
  (P:=λr=>st.ro<=r.2.2.2/\r.1=.bool true/\J i (k+1) r.2.1 r.2.2.1 r.2.2.2/\r.2.1 (2*st.nx+1)=some ⟨st.nx,.loop .ready none⟩/\r.2.1 (2*st.nx+3)=some ⟨st.nx+1,.dfr⟩/\st.nx+64<=r.2.2.2)
  (by simp[S]) zO y T I (by
   rw[L];refine X7 (λe D h1=>?_) hb;obtain⟨e1,e2,e3⟩:=h1;refine⟨e1,e2,X7 (λe n X=>?_) e3⟩;obtain⟨k1,k2,k3,k4,k5⟩:=X;subst k4;refine⟨k1,zO,rfl,?_,?_,?_,k3⟩;exact c _ _ _ _ _ _ _ k5 zK (λa b=>JG _ _ (b st.nx zK));exact Yq _ _ _;show upd n.ob _ _ _=_;rw[JG _ _ w];exact k2)
 obtain⟨r,N,p1,p2,U,p4,p5,p6⟩:=this;exact⟨r,N,p1,.inl ⟨p2,U,p4,p5,p6⟩⟩;rintro ob tk ub ⟨p,y,z,B⟩;refine⟨.ready,none,y,zS,zO,?_⟩;have M:Fr1 st.nx ob (λk=>if Nat.beq (2*st.nx+1) k then none else ob k):=λa b=>j2y ob (b st.nx zK);exact hQ _ _ _ (c _ _ _ _ _ _ _ p zK M) ((j2y ob w).trans z) B;refine⟨c _ _ _ _ _ _ _ h0 zK (λa b=>?_),Yq _ _ _,?_,zO⟩;have h3:=b (st.nx+1) zO;rw[JG _ _ (b st.nx zK),JG _ _ zO];rw[JG _ _ w,Yq]
@[simp] theorem cells_map (l u:Nat):(V.map l u).cells=[.map l u]:=rfl
@[simp] theorem leaf_map (l u:Nat):(V.map l u).leaf=true:=rfl
@[simp] theorem j2w:V.nilmap.cells=[.nilmap]:=rfl
@[simp] theorem j4r:V.nilmap.leaf=true:=rfl
def YM (h:Hist'):Bool:=jw6 h.ss && (jw6 h.ks && (decide (h.ss.length<=20) && (decide (h.ks.length<=40) && decide (h.ts.length<=40))))
structure Small (h:Hist'):Prop where
 ss:h.ss.length<=1000
 sl:∀s∈h.ss,s.length<=1000
 ks:h.ks.length<=1000
 kl:∀s∈h.ks,s.length<=1000
 ts:h.ts.length<=1000
 os:∀t∈h.ts,t.ops.length<=1000
theorem ev152 {h:Hist'}(a:Small h):Ev E 152 [.agg (histC h)] (.bool (YM h)):=by
 refine jS (af:=F152) rfl ?_;have b:=ev212 h.sn h.ss (by have:=a.ss;omega) (λs h=>by have:=a.sl s h;omega);have c:=ev212 h.kn h.ks (by have:=a.ks;omega) (λs h=>by have:=a.kl s h;omega);conv in (occs := *) F152=> all_goals cbv
 simp[F152,histC,objCells];refine jJ b zS rfl rfl ?_;unfold YM;cases b1:jw6 h.ss;simp;exact j4 rfl zS rfl;simp[objCells];refine jJ c zS rfl rfl ?_;cases b2:jw6 h.ks;simp;exact j4 rfl zS rfl;by_cases b3:(h.ss.length:Int)<=20;by_cases b4:(h.ks.length:Int)<=40;simp[objCells,b3,b4];exact j4 rfl (by simp[show h.ss.length<=20 by omega,show h.ks.length<=40 by omega];omega) rfl;simp[objCells,b3,b4];exact j4 rfl (by simp;omega) rfl;simp[objCells,b3];exact j4 rfl (by simp;omega) rfl
def usesS (h:Hist'):List Int:=h.ts.map (·.s)
def usesK (h:Hist'):List Int:=(jdt h).map (·.key)
def jqf (h:Hist'):Bool:=decide ((dd (usesS h)).length=h.ss.length) && decide ((dd (usesK h)).length=h.ks.length)
def jfd (h:Hist') (i k:Nat):List Op':=(h.ts.take i).flatMap (·.ops)++(h.ts.getD i ⟨0,0,true,[]⟩).ops.take k
theorem jq3 {h:Hist'}{i k:Nat}(hi:i<h.ts.length) (a:k<(h.ts[i]).ops.length):jfd h i (k+1)=jfd h i k++[(h.ts[i]).ops[k]]:=by unfold jfd;rw[X4 hi,ay a,aY]
theorem jq4 {h:Hist'}{i:Nat}(hi:i<h.ts.length):jfd h i (h.ts[i]).ops.length=jfd h (i+1) 0:=by unfold jfd;rw[X4 hi,bh,eB,aS,ay hi,bT];simp
theorem jt3 (h:Hist'):jfd h h.ts.length 0=jdt h:=by simp[jfd,jdt]
theorem jq2 (h:Hist'):jfd h 0 0=[]:=by simp[jfd]
theorem QP {res:List ARes}{st:St}{l u:Nat}{v:V}(a:st.df=[(l,u)]) (b:st.ob l=some ⟨u,.dfr⟩) (d:st.ro<=u)
 (h:jas res (.ret,{ st with ob:=λk=>if Nat.beq l k then none else st.ob k,df:=[] })=some v):jas res (.ret,st)=some v:=by
 have e:j2u st=true:=by unfold j2u;rw[a];simp only[cQ,List.all_nil,b,ec,bt,cm,nodup,bI,cG,ai,cI,true_and];exact ce▸d
 have c:st.noDf = { st with ob:=λk=>if Nat.beq l k then none else st.ob k,df:=[] }:=by unfold St.noDf;rw[a];simp
 simp only[jas,e,c,if_true];simp only[jas]at h;rw[YJ rfl,YD rfl]at h;exact h
theorem ev158 {h:Hist'}(hs:Small h):Ev E 158 [.agg (histC h)] (.bool (jqf h)):=by
 refine jS (af:=F158) rfl ?_;have b5:=hs.ts;conv in (occs := *) F158=> all_goals cbv
 simp[F158,histC,objCells,j2];refine j6 [(6,6),(15,23),(14,14)] h.ts.length (λi s=>s.tm 14=.int .i64 i/\s.ob 2=some ⟨0,.cells (histC h)⟩/\s.ob 8=some ⟨256,.cells [.map 20 192]⟩/\s.ob 20=some ⟨192,.mp 0 []⟩ /\
  ∃ver m,s.ob 18=some ⟨128,.mp ver (MP j0l m)⟩/\m.map (·.1)=dd ((h.ts.take i).map (·.s))) rfl rfl ⟨zS,by simp[histC],zS,zS,0,[],by simp[MP],by simp[dd]⟩ ?_
 rintro i s P ⟨z,o2,o8,J,ver,m,B,hm⟩ f;have a0:s.tm 12=slOf h.tn js h.ts:=by rw[f.t 12 zS];simp
 have N:s.tm 13=.int .i64 h.ts.length:=by rw[f.t 13 zS];simp
 have f1:s.tm 1=.ptr 2 0 0:=by rw[f.t 1 zS];simp
 have f3:s.tm 3=.map 18 128:=by rw[f.t 3 zS];simp
 have f4:s.tm 4=.ptr 8 256 0:=by rw[f.t 4 zS];simp
 have fd:s.df=[]:=by rw[f.d];simp
 have fb:s.fb=0:=by rw[f.b];simp
 have fr:s.ro=0:=by rw[f.r];simp
 clear f;by_cases q:i<h.ts.length;have hw:=jZ q zO;simp[z,a0,N,q,j7 jA,jh jA,js,objCells,fb,fr,j2,f3,jhs m,jn,B];refine jbp (f:=j0l) (a:=IntKind.i64.wrap (j7b m h.ts[i].s+1)) (ver:=ver) (l:=18) (u:=128) (k:=h.ts[i].s) m zS zS (by simp[j0l]) (by simp[B]) (by simp[fr]) ?_;simp[z,hw,o2,o8,J,histC];refine⟨q,ver+1,jjo m h.ts[i].s (IntKind.i64.wrap (j7b m h.ts[i].s+1)),zS,?_⟩;rw[jk1,hm,<- List.map_take,ay q,bF];exact(jwm _ _).symm;have:i=h.ts.length:=zO;subst this;rw[bh]at hm;simp[z,N];simp[f1,o2,objCells,histC];refine jbq (vs:=[.agg (histC h)]) (by simp[histC]) rfl ?_;obtain⟨r,hr,e1,F,e3,e4⟩:=j55 (Yf:=YC) h s.ob s.tk 0 (26*1024) (s.nx+64+64);refine⟨r,by simpa[fr,fb] using hr,?_⟩;simp;refine jQ λe c=>?_;have n2:¬ (2:Nat)=2*(s.nx+64+64)+1:=zO;have n8:¬ (8:Nat)=2*(s.nx+64+64)+1:=zO;have Z:¬ (18:Nat)=2*(s.nx+64+64)+1:=zO;have b7:¬ (20:Nat)=2*(s.nx+64+64)+1:=zO;have b0:e.tm 25=.fn (.func 215) [] [.ptr (2*(s.nx+64+64)+1) (s.nx+64+64) 0]:=by rw[c];simp[put,e1]
 have g1:e.tm 1=.ptr 2 0 0:=by rw[c];simp[put,j5,f1]
 have g3:e.tm 3=.map 18 128:=by rw[c];simp[put,j5,f3]
 have g4:e.tm 4=.ptr 8 256 0:=by rw[c];simp[put,j5,f4]
 have gd:e.df=[]:=by rw[c];simp[fd]
 have gb:e.fb=0:=by rw[c];simp[fb]
 have gr:e.ro=0:=by rw[c];simp[fr]
 have gn:e.nx=s.nx+64+64+256:=by rw[c];simp[e4]
 have p2:e.ob 2=some ⟨0,.cells (histC h)⟩:=by rw[c];simp only[JI];rw[F,if_neg n2];exact o2
 have p8:e.ob 8=some ⟨256,.cells [.map 20 192]⟩:=by rw[c];simp only[JI];rw[F,if_neg n8];exact o8
 have b9:e.ob 18=some ⟨128,.mp ver (MP j0l m)⟩:=by rw[c];simp only[JI];rw[F,if_neg Z];exact B
 have U:e.ob 20=some ⟨192,.mp 0 []⟩:=by rw[c];simp only[JI];rw[F,if_neg b7];exact J
 have pl:e.ob (2*(s.nx+64+64)+1)=some ⟨s.nx+64+64,.cells (histC h)⟩:=by rw[c];simp only[JI];rw[F,if_pos rfl]
 clear c e1 F e3 e4 hr;refine jhc h b5 (λt ht=>by have:=hs.os t ht;omega) rfl rfl rfl (by simpa using b0) pl zO zO gr
  (λi k ob O Q=>ob 2=some ⟨0,.cells (histC h)⟩/\ob 8=some ⟨256,.cells [.map 20 192]⟩/\ob 18=some ⟨128,.mp ver (MP j0l m)⟩/\∃G p,ob 20=some ⟨192,.mp G (MP j0l p)⟩/\p.map (·.1)=dd ((jfd h i k).map (·.key)))
  ?_ ?_ ?_ ?_ ?_
 rintro i k ob c0 O Q c3 ⟨y,x,n,D,p,j,L⟩ H w;exact⟨(w 2 (λm _=>by omega)).trans y,(w 8 (λm _=>by omega)).trans x,(w 18 (λm _=>by omega)).trans n,D,p,(w 20 (λm _=>by omega)).trans j,L⟩;rintro i P ob O Q ⟨y,x,n,D,p,j,L⟩;exact⟨y,x,n,D,p,j,by rw[L,jq4 P]⟩;rintro i P k L ob O Q ⟨y,x,n,D,p,j,g⟩ w1 S H;have r1:¬ 2*e.nx+1=16:=zO;have r3:¬ 2*e.nx+3=16:=zO;have c2:¬ 2*e.nx+3=2*e.nx+1:=zO;have M:¬ 2*e.nx+1=20:=zO;have K:¬ 2*e.nx+3=20:=zO;have T:¬ 16=2*e.nx+1:=zO;have b8:¬ 8=2*e.nx+1:=zO;have I:¬ 20=2*e.nx+1:=zO;have b2:¬ 2=2*e.nx+1:=zO;have X:¬ 18=2*e.nx+1:=zO;simp[jet,j5,opC,objCells,gb,j2,g4,r1,w1,T,b8,x,jhs p,jn,I,j];obtain⟨o,ho⟩:∃o,(h.ts[i]).ops[k]=o:=⟨_,rfl⟩;rw[ho];refine jbp (f:=j0l) (a:=IntKind.i64.wrap (j7b p o.key+1)) (ver:=D) (l:=20) (u:=192) (k:=o.key) p zS zS (by simp[j0l]) (by simp[j5,I,j]) zS ?_;simp[j5,M,K,r3,b2,b8,X,y,x,n,S];refine⟨zO,D+1,jjo p o.key (IntKind.i64.wrap (j7b p o.key+1)),zS,?_⟩;rw[jk1,g,jq3 P L,bF,ho];exact(jwm _ _).symm;exact⟨p2,p8,b9,0,[],U,by rw[jq2];rfl⟩;rintro ob O Q ⟨y,x,n,D,p,j,g⟩ S H;rw[jt3]at g;have l1:m.length=(dd (usesS h)).length:=by rw[<- bC (f:=(·.1)),hm];rfl
 have l2:p.length=(dd (usesK h)).length:=by rw[<- bC (f:=(·.1)),g];rfl
 simp[g3,g1,jn,n,y,objCells,histC,l1];unfold jqf;by_cases c1:(dd (usesS h)).length=h.ss.length;simp[c1,g4,g1,x,y,jn,j,objCells,histC,l2];refine QP (l:=2*e.nx+3) (u:=e.nx+1) (by simp[gd]) (by simp[S]) (by simp[gr]) (j4 rfl ?_ rfl);simp;rw[bB];simp;omega;have b6:(((dd (usesS h)).length:Int) == (h.ss.length:Int))=false:=by simp;omega
 simp[b6];refine QP (l:=2*e.nx+3) (u:=e.nx+1) (by simp[gd]) (by simp[S]) (by simp[gr]) (j4 rfl ?_ rfl);simp[c1]
def WG (h:Hist'):Bool:=YM h && (h.ts.all (jdv h) && ((jdt h).all (opB h) && jqf h))
def errH (h:Hist'):Int:=if WG h then 0 else 4
theorem j6r {b:Type}(p:b->Bool) (l:List b):(l.any λt=>!p t) = !(l.all p):=by
 induction l with
 | nil=>rfl
 | cons a l c=>simp[c]
theorem jrv {h:Hist'}(s:Small h):Ev E 103 [.agg (histC h)] (.int .i64 (errH h)):=by
 refine jS (af:=F103) rfl ?_;have G:=s.ts;have H:∀t∈h.ts,t.ops.length<=1000000:=λt X=>by have:=s.os t X;omega
 have o:=ev152 s;have j:=ev158 s;obtain⟨R,I⟩:∃R,errH h=R:=⟨_,rfl⟩;have a:R=if YM h && (h.ts.all (jdv h) && ((jdt h).all (opB h) && jqf h)) then 0 else 4:=I.symm
 rw[I];clear I;conv in (occs := *) F103=> all_goals cbv
 simp[F103,histC,objCells];refine jJ o (by simp[histC]) rfl (by simp[histC]) ?_;cases b1:YM h;rw[b1]at a;simp at a;subst a;simp[objCells,j2];exact J8 rfl (l:=[.int .i64 4]) (by simp[jo,objCells]) rfl rfl;rw[b1]at a;simp[objCells];refine jb (vs:=[slOf h.tn js h.ts,.fn (.func 154) [] [.ptr 2 0 0]]) zS rfl rfl (ev153 (p:=λt=>!jdv h t) rfl (λt K k N=>ev154 (h:=h) ⟨rfl,by simp[histC]⟩ t K k N) h.tn h.ts zO _ _ _) ?_;rw[j6r];cases b2:h.ts.all (jdv h);rw[b2]at a;replace a:R=4:=a;subst a;simp[objCells,j2];exact J8 rfl (l:=[.int .i64 4]) (by simp[jo,objCells]) rfl rfl;rw[b2]at a;simp[objCells];refine jbq (vs:=[.agg (histC h)]) (by simp[histC]) rfl ?_;obtain⟨r,M,O,q,e3,J⟩:=j55 (Yf:=YC) h _ _ 0 _ _;refine⟨r,M,?_⟩;simp;refine jQ λd b=>?_;obtain⟨U,B⟩:∃U,d.nx=U:=⟨_,rfl⟩;obtain⟨m,hm,x,y,Q,P,pl⟩:∃m,m % 64=0/\m<U/\d.tm 15=.fn (.func 215) [] [.ptr (2*m+1) m 0]/\d.ob 2=some ⟨0,.cells (histC h)⟩/\d.ob 4=some ⟨64,.cells [.int .i64 0]⟩/\d.ob (2*m+1)=some ⟨m,.cells (histC h)⟩:=by refine⟨_,?_,?_,by rw[b];simp only[jml,put,Yq];exact O,?_,?_,?_⟩;decide;rw[<- B,b,jij,J];omega;rw[b];simp only[JI];rw[q];simp[histC];rw[b];simp only[JI];rw[q];simp;rw[b];simp only[JI];rw[q];simp
 have L:d.tm 1=.ptr 2 0 0:=by rw[b];simp[put,j5]
 have i:d.tm 2=.ptr 4 64 0:=by rw[b];simp[put,j5]
 have z:d.df=[]:=by rw[b];simp
 have T:d.fb=0:=by rw[b];simp
 have w:d.ro=0:=by rw[b];simp
 have n:64<=U:=by rw[<- B,b,jij,J];omega
 clear b O q e3 J M;refine j35 h G H U B n y ⟨m,rfl,x⟩ L i w T Q P pl ?_;intro e ob K N c q2 F D S f;rcases f with⟨b3,rfl,rfl⟩|⟨b3,rfl,rfl⟩;rw[b3]at a;simp[L,objCells,q2,histC];refine jJ j (by simp[histC]) rfl (by simp[histC]) ?_;have g:¬ 2*U+3=4:=zO;have Z:¬ 4=2*U+3:=zO;cases b4:jqf h;rw[b4]at a;replace a:R=4:=a;subst a;simp[objCells,i,F,w,j2];refine QP (l:=2*U+3) (u:=U+1) (by simp[z]) (by simp[D,g]) zS (Qf rfl (l:=[.int .i64 4]) ?_ rfl);simp[jo,objCells,i,g];rw[b4]at a;replace a:R=0:=a;subst a;simp[objCells,i,F,w,j2];refine QP (l:=2*U+3) (u:=U+1) (by simp[z]) (by simp[D,g]) zS (Qf rfl (l:=[.int .i64 0]) ?_ rfl);simp[jo,objCells,i,g];rw[b3]at a;replace a:R=4:=a;subst a;have g:¬ 2*U+3=4:=zO;have Z:¬ 4=2*U+3:=zO;simp;refine QP (l:=2*U+3) (u:=U+1) (by simp[z]) (by simp[D]) (by simp[w]) (Qf rfl (l:=[.int .i64 4]) ?_ rfl);simp[jo,objCells,i,g,F]
def marks (bs:List Bool) (ks:List Int):List Bool:=ks.foldl (λb k=>b.set k.toNat true) bs
theorem Y3 (ks:List Int):∀a:List Bool,(marks a ks).length=a.length:=by
 induction ks with
 | nil=>intro a;rfl
 | cons k ks b=>intro a;exact(b _).trans dE
theorem jho (bs:List Bool) (ks:List Int) (k:Int):marks bs (ks++[k])=(marks bs ks).set k.toNat true:=by simp[marks]
theorem juz (bs:List Bool) (a b:List Int):marks bs (a++b)=marks (marks bs a) b:=by simp[marks]
theorem jgz (bs:List Bool) (k:Nat) (h:k<bs.length):j2 (bs.map V.bool) k [.bool true]=(bs.set k true).map V.bool:=by unfold j2;rw[dM,cH,if_pos (by simpa using h)];simp
def Yp (h:Hist') (t:Txn'):Bool:=jdv h t && t.ops.all (opB h)
theorem ji9 {l u n:Nat}{kk:IntKind}{x:Int}(b:0<=x) (a:x<n):JX 1 (.osl l u 0 n 1) (.int kk x)=some (.ptr l u x.toNat):=by simp[JX,b,a]
theorem jjs {n:Int}{l:Nat}(a:¬ n<0) (b:¬ (l:Int)<=n):YX n l=true:=by unfold YX;simp;omega
theorem jju {n:Int}{l:Nat}(a:n<0):YX n l=false:=by unfold YX;simp;omega
theorem jjt {n:Int}{l:Nat}(a:(l:Int)<=n):YX n l=false:=by unfold YX;simp;omega
theorem ev111 {Yf:YF}{h:Hist'}{t:Txn'}(ht:t.ops.length<=1000000) {ob:ZO}{tk:Nat->Bool}{ro base ub l u:Nat}{bs:List Bool}(Q:bs.length=h.ks.length) (ho:ob l=some ⟨u,.cells (bs.map V.bool)⟩) (a0:ro<=u) (c0:ro<=ub)
 (S:∀m,ub<=m->l≠2*m+1) :
 ∃r,EvS E Yf.y 111 [.agg (histC h),.agg (js t),.osl l u 0 h.ks.length 1] ob tk ro base ub r/\r.1=.bool (Yp h t)/\(Yp h t=true ->
  r.2.1 l=some ⟨u,.cells ((marks bs (t.ops.map (·.key))).map V.bool)⟩/\(∀a,a≠l->(∀m,ub<=m->a≠2*m+1)->r.2.1 a=ob a)/\r.2.2.1=tk/\ub<=r.2.2.2):=by
 refine Ja (af:=S111) rfl zQ ?_;show wpC E Yf S111.body _ (XD S111.res _);have n3:¬ 2*(ub+64)=2*ub:=zO;have O:¬ 2*ub=2*(ub+64):=zO;have c:∀ {e:Ex}{s:St},e=.ret->s.df=[]->s.tm 6=.bool false->Yp h t=false->XD S111.res (λr=>r.1=.bool (Yp h t)/\(Yp h t=true ->
  r.2.1 l=some ⟨u,.cells ((marks bs (t.ops.map (·.key))).map V.bool)⟩/\(∀a,a≠l->(∀m,ub<=m->a≠2*m+1)->r.2.1 a=ob a)/\r.2.2.1=tk/\ub<=r.2.2.2)) e s:=by
  intro e s he hd h6 hg
  subst he
  refine⟨(.bool false,s.ob,s.tk,s.nx),?_,by rw[hg],λh=>by rw[hg]at h;cases h⟩
  conv in (occs := *) S111=> all_goals cbv
  simp[endS,hd,S111,jo,h6]
 generalize hP:(λr:V × (ZO) × (Nat->Bool) × Nat=>r.1=.bool (Yp h t)/\(Yp h t=true ->
  r.2.1 l=some ⟨u,.cells ((marks bs (t.ops.map (·.key))).map V.bool)⟩/\(∀a,a≠l->(∀m,ub<=m->a≠2*m+1)->r.2.1 a=ob a)/\r.2.2.1=tk/\ub<=r.2.2.2))=P at c ⊢
 have gf:∀ {b:Bool},jdv h t=b->b=false->Yp h t=false:=λL x=>by unfold Yp;rw[L,x];rfl
 conv in (occs := *) S111=> all_goals cbv
 simp[S111,histC,js,objCells];by_cases G:t.s<0;simp[G];exact c rfl zS zS (gf (b:=false) (by unfold jdv;rw[jju G];rfl) rfl);by_cases K:(h.ss.length:Int)<=t.s;simp[G,K,objCells,O];exact c rfl zS zS (gf (b:=false) (by unfold jdv;rw[jjt K];rfl) rfl);by_cases f1:t.f<1;simp[G,K,f1,objCells,O];exact c rfl zS zS (gf (b:=false) (by unfold jdv;simp;omega) rfl);by_cases N:3<t.f;simp[G,K,f1,N,objCells,O];exact c rfl zS zS (gf (b:=false) (by unfold jdv;simp;omega) rfl);by_cases l1:20<(t.ops.length:Int);simp[G,K,f1,N,l1,objCells,O];exact c rfl zS zS (gf (b:=false) (by unfold jdv;simp;omega) rfl);have b5:jdv h t=true:=by unfold jdv;rw[jjs G K];simp;omega
 simp[G,K,f1,N,l1,objCells,O];refine j6 [(6,8),(36,78)] t.ops.length (λi s=>s.tm 7=.int .i64 i/\s.ob (2*ub+1)=some ⟨ub,.cells (histC h)⟩/\s.ob (2*(ub+64)+1)=some ⟨ub+64,.cells (js t)⟩ /\
  s.ob l=some ⟨u,.cells ((marks bs ((t.ops.take i).map (·.key))).map V.bool)⟩/\(∀a,a≠l->(∀m,ub<=m->a≠2*m+1)->s.ob a=ob a)/\s.tk=tk/\ub+128<=s.nx/\(t.ops.take i).all (opB h)=true) rfl rfl ?_ ?_
 refine⟨zS,by simp[O,histC],by simp[js],?_,?_,?_,?_,zS⟩;have e1:=S ub zO;have e2:=S (ub+64) zO;simp[e1,e2,ho,marks];intro a _ hm;have e1:=hm ub zO;have e2:=hm (ub+64) zO;simp[e1,e2];simp[JD];simp;rintro i s hi ⟨h7,oa,B,ol,I,J,c1,k⟩ f;have N:s.tm 2=.osl l u 0 h.ks.length 1:=by rw[f.t 2 zS];simp
 have f3:s.tm 3=.ptr (2*ub+1) ub 0:=by rw[f.t 3 zS];simp
 have f4:s.tm 4=.ptr (2*(ub+64)+1) (ub+64) 0:=by rw[f.t 4 zS];simp
 have Z:s.df=[]:=by rw[f.d];simp
 have fr:s.ro=ro:=by rw[f.r];simp
 clear f;by_cases g:i<t.ops.length;have hw:=jZ g zO;have x1:¬ 2*ub=2*(s.nx+64+64+64+64+64+64+64+64+64+64):=zO;have x2:¬ 2*(ub+64)=2*(s.nx+64+64+64+64+64+64+64+64+64+64):=zO;have x3:¬ l=2*(s.nx+64+64+64+64+64+64+64+64+64+64)+1:=S _ zO;have b8:¬ 2*(s.nx+64+64+64+64+64+64+64+64+64+64)+1=l:=λe=>x3 e.symm;have x4:¬ 2*ub+1=l:=λe=>S ub zO e.symm;have x5:¬ 2*(ub+64)+1=l:=λe=>S (ub+64) zO e.symm;have x6:ro<=s.nx+64+64+64+64+64+64+64+64+64+64:=zO;obtain⟨o,D⟩:∃o,t.ops[i]=o:=⟨_,rfl⟩;have b9:=jh jL s.ob t.ops g;have z:opB h o=false->Yp h t=false:=λhb=>by unfold Yp;rw[jnz g (by rw[D];exact hb),dC]
 simp[h7,f4,B,objCells,js,g,j7 jL,jh jL,D,opC,j2,fr,x6];by_cases X:o.key<0;simp[X];exact c rfl (by simp[Z]) zS (z (by unfold opB;rw[jju X];rfl));by_cases k2:(h.ks.length:Int)<=o.key;simp[X,k2,f3,oa,objCells,x1,histC];exact c rfl (by simp[Z]) zS (z (by unfold opB;rw[jjt k2];rfl));have q:=jjs X k2;simp[X,k2,f3,oa,objCells,x1,histC];refine jJ (ev174 o.v) (by simp[J0]) rfl (by simp[J0]) ?_;cases k3:jqe o.v;simp;exact c rfl (by simp[Z]) zS (z (by unfold opB;rw[q,k3];rfl));have b7:0<=o.key:=zO;have b6:o.key<(h.ks.length:Int):=zO;have U:=ji9 (l:=l) (u:=u) (n:=h.ks.length) (kk:=.i64) b7 b6;have T:=jgz (marks bs ((t.ops.take i).map (·.key))) o.key.toNat (by rw[Y3,Q];omega);have b0:(marks bs ((t.ops.take i).map (·.key))).length=h.ks.length:=by rw[Y3,Q]
 have p:marks bs ((t.ops.take (i+1)).map (·.key))=(marks bs ((t.ops.take i).map (·.key))).set o.key.toNat true:=by rw[ay g,bF,D];exact jho _ _ _
 have F:o.key.toNat+1<=h.ks.length:=zO;have j:opB h o=true->(t.ops.take (i+1)).all (opB h)=true:=λhb=>by rw[ay g,fL,k,D];simp[hb]
 generalize marks bs ((t.ops.take i).map (·.key))=mk at *;cases k4:o.w;have M:opB h o=true:=by unfold opB;rw[q,k3,k4];rfl
 simp[objCells,x1,x2,x3,N,U,ol,a0,b0,F,T,fr,h7,hw];refine⟨g,?_,?_,?_,?_,J,?_,?_⟩;rw[if_neg x4,oa];rfl;rw[if_neg x5,B];rfl;rw[<- List.map_take,p,dM];intro a L x;rw[if_neg L,if_neg (x _ zO),if_neg (x _ zO)];exact I a L x;omega;have:=j M;rw[aw]at this;exact this;cases k5:(o.v.kind == 1);have H:(o.v.kind != 1)=true:=by simpa using k5
 simp[objCells,H];exact c rfl (by simp[Z]) zS (z (by unfold opB;rw[q,k3,k4,k5];rfl));have H:(o.v.kind != 1)=false:=by simpa using k5
 have M:opB h o=true:=by unfold opB;rw[q,k3,k4,k5];rfl
 simp[objCells,x1,x2,x3,N,U,ol,a0,b0,F,T,fr,h7,hw,H];refine⟨g,?_,?_,?_,?_,J,?_,?_⟩;rw[if_neg x4,oa];rfl;rw[if_neg x5,B];rfl;rw[<- List.map_take,p,dM];intro a L x;rw[if_neg L,if_neg (x _ zO),if_neg (x _ zO)];exact I a L x;omega;have:=j M;rw[aw]at this;exact this;have:i=t.ops.length:=zO;subst this;rw[bh]at k ol;have hg:Yp h t=true:=by unfold Yp;rw[b5,k];rfl
 simp[h7,f4,B,objCells,js];refine⟨(.bool true,s.ob,s.tk,s.nx+64+64+64+64+64+64),?_,?_⟩;simp[endS,jo,Z];rw[<- hP];exact⟨by rw[hg],λ_=>⟨ol,I,J,by show ub<=_;simp;omega⟩⟩
theorem jvr {E:Env}{st:St}{ub:Nat}{K:List FP->St->Prop}{d:Option Nat}{nm:Bool}{r:List AOpr}{sz a n:Nat}{zero:List V}{x y:A}(b:eval E st.tm x=.int .i64 (n:Int)) (f:eval E st.tm y=.int .i64 (n:Int)) (e:n*a<=140737488355328) (i:n<=140737488355328) (g:zero.length=sz) (c:0<sz)
 (h:Wy E r K (eval E st.tm) (.mkSl true sz a zero x y) st d ub { v:=.osl (jH d nm st.fb ub) ub 0 n sz,obs:=[(jH d nm st.fb ub,⟨ub,.cells (repl n zero)⟩)] }):jF E (⟨d,.mkSl true sz a zero x y,none,nm⟩::r) st ub K:=by
 rw[Jq rfl];simp only[aop,b,f];rw[if_pos (by refine⟨zO,zO,?_,zO,g,c⟩;rw[<- fM];exact gh.2 e)];simp only[cZ,aj,false_and,if_false,Jj,jM,Jx,aZ];exact h
theorem jcf (n:Nat):repl n [.bool false]=(List.replicate n false).map V.bool:=by unfold repl;apply dJ;simp;intro i a b;simp[List.getD,Nat.mod_one]
theorem jk5 (ks:List Int):∀ (bs:List Bool) (j:Nat) (a:j<bs.length),(∀k∈ks,0<=k)->(marks bs ks)[j]? = some (bs[j] || ks.any λk=>k == (j:Int)):=by
 induction ks with
 | nil=>intro bs j a _;simp[marks,a]
 | cons k ks c=>
  intro bs j a h;have f:=h k zS;have:=c (bs.set k.toNat true) j (by simpa using a) (λx d=>h x (by simp[d]));show(marks (bs.set k.toNat true) ks)[j]? = _;rw[this,gt,bu];by_cases b:k.toNat=j;have:k=(j:Int):=zO;simp[this];have:¬ k=(j:Int):=zO;have e:(k == (j:Int))=false:=by simpa using this
  rw[if_neg b,e,cp]
theorem jk6 {ks:List Int}{n:Nat}(h:∀k∈ks,0<=k/\k<n):(marks (List.replicate n false) ks).all id=decide ((dd ks).length=n):=by
 have i:=(j1y n (dd ks) (jy9 ks) (λx b=>h x (mem_dd.1 b))).2;rw[bB,aw,decide_eq_true_eq,i];constructor;intro a k f;have g:k<(marks (List.replicate n false) ks).length:=by rw[Y3];simpa using f
 have:=a _ (av g);have d:=jk5 ks (List.replicate n false) k (by simpa using f) (λx b=>(h x b).1);rw[aa g,ab]at d;rw[d]at this;simp at this;exact mem_dd.2 this;intro a x b;obtain⟨j,e,rfl⟩:=bH b;have c:j<n:=by rw[Y3]at e;simpa using e
 have d:=jk5 ks (List.replicate n false) j (by simpa using c) (λx b=>(h x b).1);rw[aa e,ab]at d;rw[d];have:=mem_dd.1 (a j c);simp;exact this
theorem jlg (h:Hist'):h.ts.all (Yp h)=(h.ts.all (jdv h) && (jdt h).all (opB h)):=by
 unfold jdt;induction h.ts with
 | nil=>rfl
 | cons t l a=>simp only[cQ,bl,fL,a,Yp];cases jdv h t <;> cases t.ops.all (opB h) <;> cases l.all (jdv h) <;> simp
theorem within_iff {n:Int}{l:Nat}:YX n l=true ↔ 0<=n/\n<l:=by unfold YX;simp
theorem jzg {h:Hist'}(d:YM h=true) (a:h.ts.all (Yp h)=true):WG h=((marks (List.replicate h.ks.length false) (usesK h)).all id && (marks (List.replicate h.ss.length false) (usesS h)).all id):=by
 rw[jlg,ai]at a;have e:∀k∈usesS h,0<=k/\k<h.ss.length:=by intro k b;obtain⟨t,c,rfl⟩:=aJ.1 b;have:=aw.1 a.1 t c;unfold jdv at this;rw[ai]at this;exact within_iff.1 this.1
 have f:∀k∈usesK h,0<=k/\k<h.ks.length:=by intro k b;obtain⟨t,c,rfl⟩:=aJ.1 b;have:=aw.1 a.2 t c;unfold opB at this;rw[ai]at this;exact within_iff.1 this.1
 rw[jk6 e,jk6 f];unfold WG jqf;rw[d,a.1,a.2];simp only[co];rw[fX]
theorem j57 {h:Hist'}(a:YM h=false):errH h=4:=by unfold errH WG;rw[a];rfl
theorem j56 {h:Hist'}(a:h.ts.all (Yp h)=false):errH h=4:=by unfold errH WG;rw[jlg]at a;rw[<- eY (h.ts.all (jdv h)),a];simp
def jgk (l:List Bool):Bool:=l.all id
theorem jp1:jgk []=true:=rfl
theorem jlz {l:List Bool}{j:Nat}(h:j<l.length):jgk (l.take (j+1))=(jgk (l.take j) && l[j]):=by unfold jgk;rw[ay h,fL];simp
theorem ev58 {h:Hist'}(Q:Small h):Ev E 58 [.agg (histC h)] (.int .i64 (errH h)):=by
 refine jS (af:=F58) rfl ?_;have d1:=Q.ts;have d2:=Q.ks;have d3:=Q.ss;have e1:=ev110 h.sn h.ss zO (λs hx=>by have:=Q.sl s hx;omega);have e2:=ev110 h.kn h.ks zO (λs hx=>by have:=Q.kl s hx;omega);obtain⟨R,hR⟩:∃R,errH h=R:=⟨_,rfl⟩;have p:YM h=false->R=4:=λX=>hR▸j57 X;have Z:h.ts.all (Yp h)=false->R=4:=λX=>hR▸j56 X;rw[hR];simp[F58,histC,objCells];refine jJ e1 zS rfl rfl ?_;cases b1:jw6 h.ss;rw[p (by unfold YM;rw[b1];rfl)];simp;exact j4 rfl zS rfl;simp[objCells];refine jJ e2 zS rfl rfl ?_;cases b2:jw6 h.ks;rw[p (by unfold YM;rw[b1,b2];rfl)];simp;exact j4 rfl zS rfl;by_cases c1:20<(h.ss.length:Int);rw[p (by unfold YM;simp;omega)];simp[objCells,c1];exact j4 rfl zS rfl;by_cases c2:40<(h.ks.length:Int);rw[p (by unfold YM;simp;omega)];simp[objCells,c1,c2];exact j4 rfl zS rfl;by_cases c3:40<(h.ts.length:Int);rw[p (by unfold YM;simp;omega)];simp[objCells,c1,c2,c3];exact j4 rfl zS rfl;have X:YM h=true:=by unfold YM;rw[b1,b2];simp;omega
 simp[objCells,c1,c2,c3];refine jvr (n:=h.ks.length) zS zS zO zO rfl zQ ?_;simp[objCells];refine jvr (n:=h.ss.length) zS zS zO zO rfl zQ ?_;simp[jcf];refine⟨by simp[X5,Qn,jap,jb6,rdOb,rdTk,lOf,Delta.wo,Delta.wt];decide,?_⟩;refine jQ λw a=>?_;have g1:w.tm 1=.ptr 1 0 0:=by rw[a];simp
 have g3:w.tm 3=.osl 4225 2112 0 h.ks.length 1:=by rw[a];simp
 have g4:w.tm 4=.osl 4737 2368 0 h.ss.length 1:=by rw[a];simp
 have g5:w.tm 5=.int .i64 0:=by rw[a];simp
 have p1:w.ob 1=some ⟨0,.cells (histC h)⟩:=by rw[a];simp[histC]
 have pk:w.ob 4225=some ⟨2112,.cells ((List.replicate h.ks.length false).map V.bool)⟩:=by rw[a];simp
 have ps:w.ob 4737=some ⟨2368,.cells ((List.replicate h.ss.length false).map V.bool)⟩:=by rw[a];simp
 have gd:w.df=[]:=by rw[a];simp
 have gb:w.fb=0:=by rw[a];simp
 have gr:w.ro=0:=by rw[a];simp
 have gn:2400<=w.nx:=by rw[a];simp
 clear a;generalize hB:List.replicate h.ks.length false=B at *;generalize hC:List.replicate h.ss.length false=D at *;have U:B.length=h.ks.length:=by rw[<- hB];simp
 have b0:D.length=h.ss.length:=by rw[<- hC];simp
 refine j6 [(2,2),(5,5),(45,68)] h.ts.length (λi s=>s.tm 5=.int .i64 i/\s.ob 1=some ⟨0,.cells (histC h)⟩/\s.ob 4225=some ⟨2112,.cells ((marks B ((h.ts.take i).flatMap λt=>t.ops.map (·.key))).map V.bool)⟩ /\
  s.ob 4737=some ⟨2368,.cells ((marks D ((h.ts.take i).map (·.s))).map V.bool)⟩/\2400<=s.nx/\(h.ts.take i).all (Yp h)=true) rfl rfl ⟨by simp[g5],p1,by simp[pk,marks],by simp[ps,marks],gn,zS⟩ ?_
 rintro i s hi ⟨h5,o1,ok,os,e,z⟩ f;have f1:=(f.t 1 zS).trans g1;have f3:=(f.t 3 zS).trans g3;have f4:=(f.t 4 zS).trans g4;have fd:=f.d.trans gd;have fb:s.fb=0:=by rw[f.b,gb]
 have fr:=f.r.trans gr;clear f;by_cases c:i<h.ts.length;have L:=jZ c zO;obtain⟨t,J⟩:∃t,h.ts[i]=t:=⟨_,rfl⟩;have c4:t∈h.ts:=J▸av c;have d4:=Q.os t c4;have c8:=jh jA s.ob h.ts c;rw[J]at c8;simp[h5,f1,o1,objCells,histC,c,j7 jA,jh jA,J,f3];refine jbq (vs:=[.agg (histC h),.agg (js t),.osl 4225 2112 0 h.ks.length 1]) (by simp[histC]) rfl ?_;simp[fr,fb];have b5:(marks B ((h.ts.take i).flatMap λt=>t.ops.map (·.key))).length=h.ks.length:=by rw[Y3,U]
 have N:(marks D ((h.ts.take i).map (·.s))).length=h.ss.length:=by rw[Y3,b0]
 obtain⟨⟨v,b9,b7,c9⟩,hr,hv,hg⟩:=ev111 (Yf:=YC) (h:=h) (t:=t) zO (ob:=s.ob) (tk:=s.tk) (ro:=0) (base:=61440) (ub:=s.nx+64+64+64+64+64+64+64+64+64+64+64+64) (l:=4225) (u:=2112) b5 ok zO zO (λm hm=>by omega);refine⟨v,b9,b7,c9,hr,?_⟩;simp only at hv hg;subst hv;cases o:Yp h t;rw[Z (jnz c (by rw[J];exact o))];simp[put];exact j4 (by simp[fd]) zS rfl;obtain⟨q1,q2,q3,q4⟩:=hg o;have c5:=(q2 1 zQ (λm hm=>by omega)).trans o1;have qs:=(q2 4737 zQ (λm hm=>by omega)).trans os;have K:jdv h t=true:=by unfold Yp at o;rw[ai]at o;exact o.1
 have S:0<=t.s/\t.s<h.ss.length:=by unfold jdv at K;rw[ai]at K;exact within_iff.1 K.1
 have y:=ji9 (l:=4737) (u:=2368) (n:=h.ss.length) (kk:=.i64) S.1 S.2;have c0:=jgz (marks D ((h.ts.take i).map (·.s))) t.s.toNat (by rw[N];omega);have c7:(h.ts.flatMap js)[i*3]? = some (.int .i64 t.s):=by have:=jU jA h.ts c (by decide:0<3);rw[bj,J]at this;rw[this];rfl
 have b8:marks B ((h.ts.take (i+1)).flatMap λt=>t.ops.map (·.key))=marks (marks B ((h.ts.take i).flatMap λt=>t.ops.map (·.key))) (t.ops.map (·.key)):=by rw[ay c,bT,juz,J];simp
 have c6:marks D ((h.ts.take (i+1)).map (·.s))=(marks D ((h.ts.take i).map (·.s))).set t.s.toNat true:=by rw[ay c,bF,J];exact jho _ _ _
 have T:(h.ts.take (i+1)).all (Yp h)=true:=by rw[ay c,fL,z,J];simp[o]
 rw[<- b8]at q1;have a0:t.s.toNat+1<=h.ss.length:=zO;obtain⟨mk,b6⟩:∃m,marks B ((h.ts.take (i+1)).flatMap λt=>t.ops.map (·.key))=m:=⟨_,rfl⟩;rw[b6]at q1;generalize marks D ((h.ts.take i).map (·.s))=md at *;simp[put,j5,f1,f4,h5,c5,objCells,histC,c,j7 jA,c7,y,qs,N,c0,L,q1,a0];refine⟨by rw[b6],by rw[<- List.map_take,c6,dM],zO,?_⟩;rw[aw]at T;exact T;have:i=h.ts.length:=zO;subst this;rw[bh]at z ok os;have F:=jzg X z;have hK:(h.ts.flatMap λt=>t.ops.map (·.key))=usesK h:=by unfold usesK jdt;rw[List.map_flatMap]
 have hS:h.ts.map (·.s)=usesS h:=rfl;rw[hK]at ok;rw[hS]at os;rw[hB,hC]at F;have b5:(marks B (usesK h)).length=h.ks.length:=by rw[Y3,U]
 have N:(marks D (usesS h)).length=h.ss.length:=by rw[Y3,b0]
 have H:R=if jgk (marks B (usesK h)) && jgk (marks D (usesS h)) then 0 else 4:=by rw[<- hR,errH,F];rfl
 clear F hR;generalize marks B (usesK h)=mk at *;generalize marks D (usesS h)=md at *;simp[h5,f1,o1,objCells,histC];refine j6 [(6,7),(69,81)] h.ks.length (λi O=>O.tm 7=.int .i64 i/\O.ob=s.ob/\O.tm 6=.bool (jgk (mk.take i))) rfl rfl ⟨zS,zS,by simp[jp1]⟩ ?_;rintro j s1 hj ⟨k7,ko,P⟩ f;have m3:s1.tm 3=.osl 4225 2112 0 h.ks.length 1:=by rw[f.t 3 zS];simp[f3]
 have m4:s1.tm 4=.osl 4737 2368 0 h.ss.length 1:=by rw[f.t 4 zS];simp[f4]
 have d0:s1.df=[]:=by rw[f.d];simp[fd]
 clear f;by_cases g:j<h.ks.length;have L:=jZ g zO;have q:j<mk.length:=zO;have y:=ji9 (l:=4225) (u:=2112) (n:=h.ks.length) (kk:=.i64) (x:=(j:Int)) zO zO;have e:jgk (mk.take (j+1))=(jgk (mk.take j) && mk[j]):=jlz q;cases G:jgk (mk.take j);rw[G]at P e;simp[k7,m3,g,P,L,ko];rw[e];rfl;rw[G]at P e;simp[k7,m3,g,P,L,ko,y,objCells,ok,q];rw[e];rfl;have:j=h.ks.length:=zO;subst this;have M:mk.take h.ks.length=mk:=aK zO;rw[M]at P;simp[k7,m3];refine j6 [(6,6),(8,8),(82,94)] h.ss.length (λi O=>O.tm 8=.int .i64 i/\O.ob=s.ob/\O.tm 6=.bool (jgk mk && jgk (md.take i))) rfl rfl ⟨zS,by simp[ko],by simp[P,jp1]⟩ ?_;rintro j s2 hj ⟨z8,zo,I⟩ f;have y4:s2.tm 4=.osl 4737 2368 0 h.ss.length 1:=by rw[f.t 4 zS];simp[m4]
 have yd:s2.df=[]:=by rw[f.d];simp[d0]
 clear f;by_cases g:j<h.ss.length;have L:=jZ g zO;have q:j<md.length:=zO;have y:=ji9 (l:=4737) (u:=2368) (n:=h.ss.length) (kk:=.i64) (x:=(j:Int)) zO zO;have e:jgk (md.take (j+1))=(jgk (md.take j) && md[j]):=jlz q;cases G:(jgk mk && jgk (md.take j));have k:(jgk mk && jgk (md.take (j+1)))=false:=by rw[e,<- eY,G];rfl
 rw[G]at I;simp[z8,y4,g,I,L,zo];intro hm;rw[hm]at k;exact k;have k:(jgk mk && jgk (md.take (j+1)))=md[j]:=by rw[e,<- eY,G];rfl
 rw[G]at I;simp[z8,y4,g,I,L,zo,y,objCells,os,q];exact k.symm;have:j=h.ss.length:=zO;subst this;have M:md.take h.ss.length=md:=aK zO;rw[M]at I;cases G:(jgk mk && jgk md);rw[G]at I H;simp[z8,y4,I];exact j4 (by simp[yd]) (by simp[H]) rfl;rw[G]at I H;simp[z8,y4,I];exact j4 (by simp[yd]) (by simp[H]) rfl
section
variable {E:Env}{Yf:YF}{st:St}{ub:Nat}{K:St->Nat->Prop}{d:Option Nat}{nm:Bool}
theorem ja {sz n:Nat}{zero:List V}{a:List (Nat × Nat × A)}{cs:List V}(b:fill zero (jz (eval E st.tm) a)=some cs) (c:cs.length=n*sz) (hp:cs.all V.leaf=true)
 (h:WR K st d ub { v:=.osl (jH d nm st.fb ub) ub 0 n sz,obs:=[(jH d nm st.fb ub,⟨ub,.cells cs⟩)] }):j8 E Yf ⟨d,.buildSl true sz zero a n,none,nm⟩ st ub K:=by
 rw[jN _ rfl rfl];simp only[aop,b,am,if_true,Jx];rw[if_pos ⟨c,hp⟩,Jj,jM];exact h
theorem XJ {sz a n:Nat}{cs ys:List V}{s x:A}(g:eval E st.tm s=.sl none true n cs) (i:slCells st.ob sz (eval E st.tm x)=some ys) (b:ys≠[]) (e:0<sz) (hp:ys.all V.leaf=true)
 (f:(ys.length / sz)*a<=140737488355328) (c:ys.length / sz<=140737488355328) (h:WR K st d ub { v:=.osl (jH d nm st.fb ub) ub 0 (ys.length / sz) sz,obs:=[(jH d nm st.fb ub,⟨ub,.cells ys⟩)] }) :
 j8 E Yf ⟨d,.append true sz a s x,none,nm⟩ st ub K:=by
 rw[jN _ rfl rfl];simp only[aop,g,i,am,if_neg b,cB,if_true,Jx];rw[if_pos ⟨e,hp,f,c⟩,Jj,jM];exact h
theorem XU {sz a l u n:Nat}{cs ys:List V}{s x:A}(k:eval E st.tm s=.osl l u 0 n sz) (m:slCells st.ob sz (eval E st.tm x)=some ys) (g:st.ob l=some ⟨u,.cells cs⟩) (c:ys≠[]) (f:st.ro<=u) (o:n*sz<=cs.length) (i:0<sz) (hp:ys.all V.leaf=true)
 (j:(n+ys.length / sz)*a<=140737488355328) (e:n+ys.length / sz<=140737488355328)
 (h:WR K st d ub { v:=.osl (jH d nm st.fb ub) ub 0 (n+ys.length / sz) sz,obs:=[(jH d nm st.fb ub,⟨ub,.cells (cs.take (n*sz)++ys)⟩)],kill:=[l] }) :
 j8 E Yf ⟨d,.append true sz a s x,none,nm⟩ st ub K:=by
 rw[jN _ rfl rfl];have b:objCells st.ob l u=some cs:=by simp[objCells,g]
 simp only[aop,k,m,am,b,if_neg c,Jx];rw[if_pos ⟨ce▸f,trivial,trivial,o,i,hp,j,e⟩,jM];exact h
end
@[simp] theorem app_obk (st:St) (d:Option Nat) (v:V) (l k l':Nat) (o':Obj'):(st.app d { v:=v,obs:=[(l,o')],kill:=[l'] }).ob k=if k=l then some o' else if k=l' then none else st.ob k:=by
 have e:(Nat.beq k l')=decide (k=l'):=by rw[bB];simp
 simp only[St.app,JS,j5,bu,bI,bq,e,decide_eq_true_eq]
end Go.Pv.T
namespace Go.Pv.T
open Go Go.Pv
end Go.Pv.T
namespace Go.Pv.T
open Go Go.Pv
@[simp] theorem cells_osl (a b c d e:Nat):(V.osl a b c d e).cells=[.osl a b c d e]:=rfl
@[simp] theorem leaf_osl (a b c d e:Nat):(V.osl a b c d e).leaf=true:=rfl
def jc2 (st:St) (v:V) (nl:Bool) (n:Nat) (cs:List V):Prop:=∀keep i,∃a,jm st keep i v=some (.sl a nl n cs)/\(a=none\/∃z,a=some (i,z))
theorem JR (st:St) (t:Option (Nat × Nat)) (nl:Bool) (n:Nat) (cs:List V):jc2 st (.sl t nl n cs) nl n cs:=by
 intro keep i;cases t with
 | none=>exact⟨none,rfl,.inl rfl⟩
 | some p=>obtain⟨u,z⟩:=p;refine⟨_,rfl,?_⟩;split;exact .inr ⟨z,rfl⟩;exact .inl rfl
def jr8 (r:V) (g:Hist'):Prop:=∃a b c:Option (Nat × Nat),r=.agg [.sl a g.sn g.ss.length (g.ss.flatMap Jv),.sl b g.kn g.ks.length (g.ks.flatMap Jv),.sl c g.tn g.ts.length (g.ts.flatMap js)]/\(∀p∈a.toList++b.toList++c.toList,p.1<64)
theorem jic (a:Option (Nat × Nat)) (nl:Bool) (n:Nat) (cs:List V):(V.sl a nl n cs).tok=a.toList.map (·.1):=by
 cases a with
 | none=>rfl
 | some p=>rfl
theorem tokm {a:Option (Nat × Nat)}{nl:Bool}{n:Nat}{cs:List V}{i:Nat}:i∈(V.sl a nl n cs).tok ↔ ∃p∈a.toList,p.1=i:=by rw[jic,aJ]
def Grow {α:Type}(tk:Nat->Bool) (lo nx:Nat) (f:α->List V) (sz:Nat) (l:List α) (v:V):Prop :=
 (l=[]/\v=.sl none true 0 [])\/(l≠[]/\∃u,v=.sl (some (u,sz)) false l.length (l.flatMap f)/\tk u=true/\lo<=u/\u<nx)
theorem Grow.nil {a:Type}(tk:Nat->Bool) (lo nx:Nat) (f:a->List V) (sz:Nat):Grow tk lo nx f sz [] (.sl none true 0 []):=.inl ⟨rfl,rfl⟩
theorem Grow.form {c:Type}{tk:Nat->Bool}{lo nx:Nat}{f:c->List V}{sz:Nat}{l:List c}{v:V}(h:Grow tk lo nx f sz l v):∃t,v=.sl t l.isEmpty l.length (l.flatMap f):=by
 rcases h with⟨rfl,rfl⟩|⟨b,u,rfl,_⟩;exact⟨none,rfl⟩;cases l with
 | nil=>exact absurd rfl b
 | cons a l=>exact⟨_,rfl⟩
theorem Grow.mono {e:Type}{tk a:Nat->Bool}{lo nx nx':Nat}{f:e->List V}{sz:Nat}{l:List e}{v:V}(h:Grow tk lo nx f sz l v) (g:∀u,lo<=u->u<nx->tk u=true->a u=true) (m:nx<=nx'):Grow a lo nx' f sz l v:=by rcases h with h|⟨b,u,j,k,c,i⟩;exact .inl h;exact .inr ⟨b,u,j,g u c i k,c,zO⟩
section
variable {E:Env}{Yf:YF}{st:St}{ub:Nat}{K:St->Nat->Prop}{d:Option Nat}{nm:Bool}
theorem YU {j:Type}{f:j->List V}{sz b lo hi:Nat}{l:List j}{a:j}{v:V}{s x:A}(r:Grow st.tk lo hi f sz l v) (o:eval E st.tm s=v) (p:slCells st.ob sz (eval E st.tm x)=some (f a)) (i:∀a,(f a).length=sz) (k:0<sz)
 (hp:(f a).all V.pureLeaf=true) (n:(l.length+1)*b<=140737488355328) (m:l.length+1<=140737488355328)
 (h:∀del:Option Nat,(∀u,del=some u->lo<=u/\u<hi)->WR K st d ub { v:=.sl (some (ub,sz)) false (l.length+1) ((l++[a]).flatMap f),del:=del,add:=[ub] }):j8 E Yf ⟨d,.append false sz b s x,none,nm⟩ st ub K:=by
 have g:f a≠[]:=λe=>by have:=i a;rw[e]at this;simp at this;omega
 have c:(f a).length / sz=1:=by rw[i];exact gY k
 rcases r with⟨rfl,rfl⟩|⟨y,u,rfl,t,q,w⟩;refine ji5 o p g k hp (by rw[c];simpa using n) (by rw[c];simp) ?_;rw[c];have:=h none (λu e=>by cases e);simpa using this;refine J1 o t p g (by rw[j3 i]) k hp (by rw[c];exact n) (by rw[c];exact m) ?_;rw[c];have:=h (some u) (λz e=>by cases e;exact⟨q,w⟩);simpa using this
end
theorem jc5 {b:Type}{f:b->List V}{k:Nat}(c:∀a,(f a).length=k) (ob:ZO) (nl:Bool) (l:List b):slCells ob k (slOf nl f l)=some (l.flatMap f):=by simp only[slOf,slCells,j3 c,if_true]
def Qm (res:List ARes) (P:V->Prop):Ex->St->Prop:=λe s=>∃r,jas res (e,s)=some r/\P r
theorem JZ {f:FuncId}{af:AF}{args:List V}{P:V->Prop}(b:E.fc f=some af) (e:af.body.one=true) (h:wpC E YC af.body (start args) (Qm af.res P)):∃r,Ev E f args r/\P r:=by obtain⟨n,x,g,r,d,c⟩:=jkp e h λ_=>rfl;refine⟨r,⟨n+1,?_⟩,c⟩;simp only[callers,b,am];rw[show je E (callers E n) noY n af.body (start args)=some [x] from g];exact jiw (cV _ _) (λy a=>by rw[ae]at a;subst a;exact d)
end Go.Pv.T
namespace Go.Pv.T
open Go Go.Pv
end Go.Pv.T
namespace Go.Pv.T
open Go Go.Pv
section
variable {E:Env}{st:St}{ub:Nat}{K:List FP->St->Prop}{d:Option Nat}{nm:Bool}{r:List AOpr}
theorem jro {sz n:Nat}{zero:List V}{a:List (Nat × Nat × A)}{cs:List V}(b:fill zero (jz (eval E st.tm) a)=some cs) (c:cs.length=n*sz) (hp:(cs.map V.strip1).all V.pureLeaf=true)
 (h:Wy E r K (eval E st.tm) (.buildSl false sz zero a n) st d ub { v:=.sl (some (ub,sz)) false n (cs.map V.strip1),add:=[ub] }):jF E (⟨d,.buildSl false sz zero a n,none,nm⟩::r) st ub K:=by
 rw[Jq rfl];simp only[aop,b,am,aj,if_false];rw[if_pos ⟨c,hp⟩,jM];exact h
theorem jgo {E:Env}{Yf:YF}{st:St}{ub:Nat}{K:St->Nat->Prop}{d:Option Nat}{nm:Bool}{o:Type}{f:o->List V}{sz b u:Nat}{l:List o}{s x:A}(p:eval E st.tm s=.sl (some (u,sz)) false 0 []) (c:st.tk u=true) (q:slCells st.ob sz (eval E st.tm x)=some (l.flatMap f)) (n:∀a,(f a).length=sz) (j:0<sz)
 (hp:(l.flatMap f).all V.pureLeaf=true) (w:l.length*b<=140737488355328) (k:l.length<=140737488355328)
 (h:∀ (t:Option (Nat × Nat)) (del:Option Nat) (add:List Nat),(∀g∈add,g=ub)->(∀g,del=some g->g=u)->WR K st d ub { v:=.sl t false l.length (l.flatMap f),del:=del,add:=add }):j8 E Yf ⟨d,.append false sz b s x,none,nm⟩ st ub K:=by
 cases l with
 | nil=>rw[jN _ rfl rfl];simp only[aop,p,q,am,gu,if_true,cC,dq,WU];exact h _ none [] (λu c=>by cases c) (λu e=>by cases e)
 | cons a l=>
  have m:((a::l).flatMap f).length / sz=(a::l).length:=by rw[j3 n];exact ei _ j
  have i:(a::l).flatMap f≠[]:=λe=>by have:=congrArg List.length e;rw[j3 n]at this;have:=Nat.mul_pos (show 0<(a::l).length by simp) j;simp_all
  refine J1 p c q i zS j hp (by rw[m,bM];exact w) (by rw[m,bM];exact k) ?_;rw[m,bM,dl];exact h _ (some u) [ub] (λu c=>by simpa using c) (λg e=>by cases e;rfl)
end
@[simp] theorem j65 (s:List UInt8):(V.str s).strip1=.str s:=rfl
theorem endH1 {st:St}{p l u:Nat}{x y z:V}{g:Hist'}(k:st.df=[]) (hp:st.tm p=.ptr l u 0) (m:st.ob l=some ⟨u,.cells [x,y,z]⟩)
 (q:jc2 st x g.sn g.ss.length (g.ss.flatMap Jv)) (n:jc2 st y g.kn g.ks.length (g.ks.flatMap Jv)) (B:jc2 st z g.tn g.ts.length (g.ts.flatMap js)):∃r,jas [.cell p (some 3)] (.ret,st)=some r/\jr8 r g:=by
 have t:(objCells st.ob l u)=some [x,y,z]:=by simp[objCells,m]
 have d:[ARes.cell p (some 3)].mapM (jo st)=some [.agg [x,y,z]]:=by simp[jo,hp,t]
 obtain⟨a,s,i⟩:=q (nodup (List.flatMap V.toks [.agg [x,y,z]])) 0;obtain⟨b,o,f⟩:=n (nodup (List.flatMap V.toks [.agg [x,y,z]])) 1;obtain⟨c,w,h⟩:=B (nodup (List.flatMap V.toks [.agg [x,y,z]])) 2;refine⟨.agg [.sl a g.sn g.ss.length (g.ss.flatMap Jv),.sl b g.kn g.ks.length (g.ks.flatMap Jv),.sl c g.tn g.ts.length (g.ts.flatMap js)],?_,a,b,c,rfl,?_⟩;simp only[jas,YJ k,YD k,if_true,d,am,Yd];generalize nodup (List.flatMap V.toks [.agg [x,y,z]])=keep at *;simp only[JK,XS,Xj,s,o,w,bM,am,aU];have j:nodup (List.flatMap V.toks [.agg [.sl a g.sn g.ss.length (g.ss.flatMap Jv),.sl b g.kn g.ks.length (g.ks.flatMap Jv),.sl c g.tn g.ts.length (g.ts.flatMap js)]])=true:=by
  have e:∀x y z:V,List.flatMap V.toks [.agg [x,y,z]]=x.tok++(y.tok++z.tok):=λx y z=>by simp[V.toks]
  rw[e,jic,jic,jic];rcases i with rfl|⟨_,rfl⟩ <;> rcases f with rfl|⟨_,rfl⟩ <;> rcases h with rfl|⟨_,rfl⟩ <;> rfl
 show(if nodup (List.flatMap V.toks [.agg [.sl a g.sn g.ss.length (g.ss.flatMap Jv),.sl b g.kn g.ks.length (g.ks.flatMap Jv),.sl c g.tn g.ts.length (g.ts.flatMap js)]])=true then some (V.agg [.sl a g.sn g.ss.length (g.ss.flatMap Jv),.sl b g.kn g.ks.length (g.ks.flatMap Jv),.sl c g.tn g.ts.length (g.ts.flatMap js)]) else none)=_;rw[if_pos j];intro p hp;simp only[aO]at hp;rcases hp with(hp|hp)|hp;rcases i with rfl|⟨_,rfl⟩;simp at hp;simp at hp;subst hp;simp;rcases f with rfl|⟨_,rfl⟩;simp at hp;simp at hp;subst hp;simp;rcases h with rfl|⟨_,rfl⟩;simp at hp;simp at hp;subst hp;simp
theorem jqt {ub:Nat}{r:V}{g:Hist'}(h:jr8 r g):∃a b c add,Xf ub r=some { v:=.agg [.sl a g.sn g.ss.length (g.ss.flatMap Jv),.sl b g.kn g.ks.length (g.ks.flatMap Jv),.sl c g.tn g.ts.length (g.ts.flatMap js)],add:=add }:=by
 obtain⟨a,b,c,rfl,l⟩:=h;have e:∀x y z:V,toksRes (.agg [x,y,z])=x.tok++(y.tok++z.tok):=λx y z=>by simp[toksRes,V.toks]
 have j:(toksRes (.agg [.sl a g.sn g.ss.length (g.ss.flatMap Jv),.sl b g.kn g.ks.length (g.ks.flatMap Jv),.sl c g.tn g.ts.length (g.ts.flatMap js)])).all (λi=>Nat.blt i 64)=true:=by
  rw[e,aw];intro i o;have:∃p∈a.toList++b.toList++c.toList,p.1=i:=by rw[aO,aO,tokm,tokm,tokm]at o;rcases o with⟨p,d,h⟩|⟨p,d,h⟩|⟨p,d,h⟩;exact⟨p,by simp[d],h⟩;exact⟨p,by simp[d],h⟩;exact⟨p,by simp[d],h⟩
  obtain⟨p,d,rfl⟩:=this;rw[dp];exact l p d
 have f:∀ (t:Option (Nat × Nat)) (m:Bool) (n:Nat) (cs:List V),∃s,YL ub (.sl t m n cs)=.sl s m n cs:=λt m n cs=>by
  cases t with
  | none=>exact⟨none,rfl⟩
  | some p=>exact⟨_,rfl⟩
 obtain⟨D,B⟩:=f a g.sn g.ss.length (g.ss.flatMap Jv);obtain⟨u,w⟩:=f b g.kn g.ks.length (g.ks.flatMap Jv);obtain⟨q,F⟩:=f c g.tn g.ts.length (g.ts.flatMap js);refine⟨D,u,q,(toksRes (.agg [.sl a g.sn g.ss.length (g.ss.flatMap Jv),.sl b g.kn g.ks.length (g.ks.flatMap Jv),.sl c g.tn g.ts.length (g.ts.flatMap js)])).map (ub + ·),?_⟩;rw[Xf,if_pos j];have k:jcr ub (.agg [.sl a g.sn g.ss.length (g.ss.flatMap Jv),.sl b g.kn g.ks.length (g.ks.flatMap Jv),.sl c g.tn g.ts.length (g.ts.flatMap js)]) =
  .agg [YL ub (.sl a g.sn g.ss.length (g.ss.flatMap Jv)),YL ub (.sl b g.kn g.ks.length (g.ks.flatMap Jv)),YL ub (.sl c g.tn g.ts.length (g.ts.flatMap js))]:=rfl
 rw[k,B,w,F]
theorem kS_evV {E:Env}{Yf:YF}{st:St}{ub:Nat}{K:St->Nat->Prop}{d:Option Nat}{nm:Bool}{q:A}{xs:List A}{f:FuncId}{first captured args:List V}{v:V}(a:Ev E f args v) (e:eval E st.tm q=.fn (.func f) first captured)
 (b:(first++xs.map (eval E st.tm)++captured).map V.strip=args) (c:E.sh nm f=false) (hp:args.all V.pureTop=true) (h:wpD (Xf ub v) (WR K st d ub)):j8 E Yf ⟨d,.callV q xs,none,nm⟩ st ub K:=by
 refine jsi e ⟨⟨c,?_⟩,v,by rw[b];exact a,h⟩;rw[<- b,dF]at hp;exact hp
@[simp] theorem fn_strip0 (f:Fn):(V.fn f [] []).strip=.fn f [] []:=rfl
@[simp] theorem j5u (f:Fn):(V.fn f [] []).pureTop=true:=rfl
def SlR (v:V) (nl:Bool) (n:Nat) (cs:List V):Prop:=∃t:Option (Nat × Nat),v=.sl t nl n cs/\∀p∈t.toList,p.1<64
theorem j1t {st:St}{n k:Nat}{t:Option (Nat × Nat)}{nl:Bool}{cs:List V}(g:st.df=[]) (h:st.tm n=.sl t nl k cs):∃r,jas [.t n] (.ret,st)=some r/\SlR r nl k cs:=by
 have b:[ARes.t n].mapM (jo st)=some [.sl t nl k cs]:=by simp[jo,h]
 obtain⟨a,i,c⟩:=JR st t nl k cs (nodup (List.flatMap V.toks [.sl t nl k cs])) 0;refine⟨.sl a nl k cs,?_,a,rfl,?_⟩;simp only[jas,YJ g,YD g,if_true,b,am,Yd];generalize nodup (List.flatMap V.toks [.sl t nl k cs])=keep at *;have e:XS st keep 0 (.sl t nl k cs)=some (.sl a nl k cs):=i;simp only[JK,e,am,aU];have f:nodup (List.flatMap V.toks [.sl a nl k cs])=true:=by rcases c with rfl|⟨_,rfl⟩ <;> rfl
 show(if nodup (List.flatMap V.toks [.sl a nl k cs])=true then some (V.sl a nl k cs) else none)=_;rw[if_pos f];intro p d;rcases c with rfl|⟨_,rfl⟩;simp at d;simp at d;subst d;simp
theorem jmr {ub:Nat}{v:V}{nl:Bool}{n:Nat}{cs:List V}(h:SlR v nl n cs):∃t add,Xf ub v=some { v:=.sl t nl n cs,add:=add }:=by
 obtain⟨t,rfl,a⟩:=h;cases t with
 | none=>exact⟨none,[],rfl⟩
 | some p=>have:=a p zS;refine⟨some (ub+p.1,p.2),[ub+p.1],?_⟩;rw[Xf,if_pos (by simp[toksRes,V.toks,V.tok,dp,this])];rfl
theorem slE {st:St}{n k:Nat}{t:Option (Nat × Nat)}{nl:Bool}{cs:List V}{P:V->Prop}(b:∀r,SlR r nl k cs->P r) (a:st.df=[]) (h:st.tm n=.sl t nl k cs):Qm [.t n] P .ret st:=by obtain⟨r,d,c⟩:=j1t a h;exact⟨r,d,b r c⟩
def j1j (l:List Int) (v:V):Prop:=∃nl,SlR v nl l.length (l.flatMap intC)
theorem ev160 (t:Txn'):Ev E 160 [.agg (js t)] (.bool (XC t)):=by
 refine jS (af:=F160) rfl ?_;conv in (occs := *) F160=> all_goals cbv
 simp[F160,js,objCells];exact j4 rfl (by simp[XC]) rfl
theorem W1 {g:Hist'}(a:WG g=true):errH g=0:=by unfold errH;rw[a];rfl
theorem ev159 {g:Hist'}(B:Small g) (J:WG g=true):∃v,Ev E 159 [.agg (histC g),.fn (.func 160) [] []] v/\j1j (Xg g) v:=by
 have n:=jrv B;rw[W1 J]at n;have I:=B.ts;refine JZ (af:=F159) rfl zQ ?_;conv in (occs := *) F159=> all_goals cbv
 simp[F159,histC,objCells];refine jJ n (by simp[histC]) rfl (by simp[histC]) ?_;simp[objCells];refine j6 [(4,7),(14,26)] g.ts.length (λi s=>s.tm 14=.int .i64 i/\Grow s.tk 0 s.nx intC 1 (numsTo XC g.ts i) (s.tm 5)) rfl rfl ⟨zS,by simp[numsTo];exact Grow.nil _ _ _ _ _⟩ ?_;rintro i s hi ⟨j,y⟩ f;have K:s.tm 1=.fn (.func 160) [] []:=by rw[f.t 1 zS];simp
 have x:s.tm 12=slOf g.tn js g.ts:=by rw[f.t 12 zS];simp
 have m:s.tm 13=.int .i64 g.ts.length:=by rw[f.t 13 zS];simp
 have F:s.df=[]:=by rw[f.d];simp
 have H:s.fb=0:=by rw[f.b];simp
 have fr:s.ro=0:=by rw[f.r];simp
 clear f;by_cases e:i<g.ts.length;have z:=jZ e zO;have c:=JU (p:=XC) e;obtain⟨t,q⟩:∃t,g.ts[i]=t:=⟨_,rfl⟩;rw[q]at c;have G:=JQ XC g.ts i;simp[j,x,m,e,j7 jA,jh jA,q,js,objCells,H,fr,j2,K];refine kS_evV (f:=160) (first:=[]) (captured:=[]) (ev160 t) zS (by simp[js]) rfl (by simp[js]) ?_;cases hi:XC t;rw[hi]at c;simp only[aj,if_false,aS]at c;simp[j,z];exact⟨e,by rw[c];exact y.mono (λu _ _ h=>by simpa[JD] using h) zO⟩;rw[hi]at c;simp only[if_true]at c;simp;refine jG (cs:=[.int .i64 i]) (by simp[j2]) rfl rfl ?_;simp;refine YU (f:=intC) (lo:=0) (hi:=s.nx) (l:=numsTo XC g.ts i) (a:=(i:Int)) (v:=s.tm 5) (y.mono (λu _ _ h=>by simp[ji,h]) zK) zS (by simp[slCells,intC]) j9 zQ rfl zO zO (λL D=>?_);have w:numsTo XC g.ts (i+1)≠[]:=by rw[c];simp
 have o:(numsTo XC g.ts i).length+1=(numsTo XC g.ts (i+1)).length:=by rw[c];simp
 rw[<- c,o];simp[j,z];exact⟨e,.inr ⟨w,_,rfl,by simp[ji],cL _,zO⟩⟩;have:i=g.ts.length:=zO;subst this;obtain⟨t,q⟩:=y.form;simp[j,m];exact slE (t:=t) (nl:=(numsTo XC g.ts g.ts.length).isEmpty) (k:=(Xg g).length) (cs:=(Xg g).flatMap intC) (λr h=>⟨_,h⟩) (by simp[F]) (by simp[q,Xg])
theorem ev104 {g:Hist'}(e:Small g) (b:WG g=true):∃v,Ev E 104 [.agg (histC g)] v/\j1j (Xg g) v:=by
 obtain⟨v,a,nl,c⟩:=ev159 e b;refine JZ (af:=F104) rfl zQ ?_;conv in (occs := *) F104=> all_goals cbv
 simp[F104,histC,objCells];refine jJ a (by simp[histC]) rfl (by simp[histC]) ?_;obtain⟨t,add,d⟩:=jmr (ub:=192) c;rw[d];simp;exact slE (t:=t) (nl:=nl) (k:=(Xg g).length) (cs:=(Xg g).flatMap intC) (λr h=>⟨_,h⟩) rfl zS
theorem j76 {st:St}{n k l u:Nat}{t:Option (Nat × Nat)}{nl:Bool}{cs:List V}{P:V->Prop}(c:∀r,SlR r nl k cs->P r) (a:st.df=[(l,u)]) (b:st.ob l=some ⟨u,.dfr⟩) (e:st.ro<=u) (h:st.tm n=.sl t nl k cs):Qm [.t n] P .ret st:=by obtain⟨r,f,d⟩:=j1t (st:={ st with ob:=λk=>if Nat.beq l k then none else st.ob k,df:=[] }) rfl h;exact⟨r,QP a b e f,c r d⟩
def jE (p:Int × Int):List V:=[.int .i64 p.1,.int .i64 p.2]
@[simp] theorem jT (p:Int × Int):(jE p).length=2:=rfl
def jfk (i:Nat) (ops:List Op'):Nat->List (Int × Int)
 | 0=>[]
 | k+1=>jfk i ops k++(match ops[k]? with|some o=>if o.v.kind == 2 then [((i:Int),(k:Int))] else []|none=>[])
def jfj (ts:List Txn'):Nat->List (Int × Int)
 | 0=>[]
 | i+1=>jfj ts i++(match ts[i]? with|some t=>jfk i t.ops t.ops.length|none=>[])
def XB (h:Hist') (i k:Nat):List (Int × Int):=jfj h.ts i++(match h.ts[i]? with|some t=>jfk i t.ops k|none=>[])
def jcm (h:Hist'):List (Int × Int):=jfj h.ts h.ts.length
theorem jcl (i:Nat) (ops:List Op'):∀k,(jfk i ops k).length<=k
 | 0=>dr _
 | k+1=>by have:=jcl i ops k;simp only[jfk,au];split;split <;> simp <;> omega;simp;omega
theorem jck {ts:List Txn'}(h:∀t∈ts,t.ops.length<=1000):∀i,(jfj ts i).length<=i*1000
 | 0=>cL _
 | i+1=>by have:=jck h i;simp only[jfj,au];rw[show(i+1)*1000=i*1000+1000 by omega];split;rename_i t a;have b:=jcl i t.ops t.ops.length;have c:=h t (aI a);omega;simp only[cC];omega
theorem jfm {h:Hist'}{i k:Nat}(hi:i<h.ts.length) (a:k<(h.ts[i]).ops.length):XB h i (k+1)=XB h i k++(if (h.ts[i]).ops[k].v.kind == 2 then [((i:Int),(k:Int))] else []):=by simp only[XB,aa hi,jfk,aa a,aY]
theorem jfn {h:Hist'}{i:Nat}(hi:i<h.ts.length):XB h i (h.ts[i]).ops.length=XB h (i+1) 0:=by simp only[XB,aa hi,jfj];cases h.ts[i+1]? <;> simp[jfk]
theorem jhq (h:Hist'):XB h h.ts.length 0=jcm h:=by simp[XB,jcm]
theorem jfl (h:Hist'):XB h 0 0=[]:=by unfold XB;cases h.ts[0]? <;> rfl
theorem jhp {h:Hist'}(a:Small h) {i k:Nat}(hi:i<h.ts.length) (b:k<=(h.ts[i]).ops.length):(XB h i k).length<=1001000:=by have e:=jck a.os i;have c:=a.ts;have f:=jcl i (h.ts[i]).ops k;have d:=a.os _ (av hi);simp only[XB,aa hi,au];have:i*1000<=1000*1000:=bc _ zO;omega
def PlR (l:List (Int × Int)) (v:V):Prop:=∃nl,SlR v nl l.length (l.flatMap jE)
theorem ev105 {g:Hist'}(D:Small g) (hm:WG g=true):∃v,Ev E 105 [.agg (histC g)] v/\PlR (jcm g) v:=by
 have s:=jrv D;rw[W1 hm]at s;have K:=D.ts;refine JZ (af:=F105) rfl zQ ?_;conv in (occs := *) F105=> all_goals cbv
 simp[F105,histC,objCells];refine jJ s (by simp[histC]) rfl (by simp[histC]) ?_;simp[objCells];refine jbq (vs:=[.agg (histC g)]) (by simp[histC]) rfl ?_;obtain⟨r,T,Z,B,e3,e4⟩:=j55 (Yf:=YC) g _ _ 0 _ _;refine⟨r,T,?_⟩;simp;refine jQ λc d=>?_;obtain⟨m,b5,a0,L,p2,I,pl⟩:∃m,m % 64=0/\m<c.nx/\c.tm 10=.fn (.func 215) [] [.ptr (2*m+1) m 0]/\c.ob 2=some ⟨0,.cells (histC g)⟩/\(∃u,c.tm 3=.ptr 6 u 0/\c.ob 6=some ⟨u,.cells [.sl none true 0 []]⟩)/\c.ob (2*m+1)=some ⟨m,.cells (histC g)⟩:=by refine⟨_,?_,?_,by rw[d];simp only[jml,put,Yq];exact Z,?_,⟨320,?_,?_⟩,?_⟩;decide;rw[d,jij,e4];omega;rw[d];simp only[JI];rw[B];simp[histC];rw[d];simp[put,j5];rw[d];simp only[JI];rw[B];simp;rw[d];simp only[JI];rw[B];simp
 obtain⟨u6,M,I⟩:=I;have gd:c.df=[]:=by rw[d];simp
 have gb:c.fb=0:=by rw[d];simp
 have X:c.ro=0:=by rw[d];simp
 clear d Z B e3 e4 T;refine jhc g K (λt ht=>by have:=D.os t ht;omega) rfl rfl rfl (by simpa using L) pl zO zO X
  (λi k ob w q=>∃j,ob 6=some ⟨u6,.cells [j]⟩/\Grow w 0 q jE 2 (XB g i k) j) ?_ ?_ ?_ ?_ ?_
 rintro i k ob b9 w q b7 ⟨j,n,e⟩ p G;exact⟨j,(G 6 (λm _=>by omega)).trans n,e.mono (λ_ _ _ h=>h) p⟩;rintro i hi ob w q ⟨j,n,e⟩;exact⟨j,n,by rw[<- jfn hi];exact e⟩;rintro i hi k N ob w q ⟨j,n,e⟩ w1 z p;have r1:¬ 2*c.nx+1=8:=zO;have r3:¬ 2*c.nx+1=10:=zO;have r5:¬ 2*c.nx+1=6:=zO;have P:¬ 2*c.nx+3=8:=zO;have Q:¬ 2*c.nx+3=10:=zO;have q5:¬ 2*c.nx+3=6:=zO;have q7:¬ 2*c.nx+3=2*c.nx+1:=zO;have b8:¬ 8=2*c.nx+1:=zO;have J:¬ 10=2*c.nx+1:=zO;have H:¬ 6=2*c.nx+1:=zO;have b:=jfm hi N;have b0:=jhp D hi (gc N);obtain⟨o,ho⟩:∃o,(g.ts[i]).ops[k]=o:=⟨_,rfl⟩;rw[ho]at b ⊢;obtain⟨U,y⟩:=e.form;simp[jet,j5,opC,objCells,gb,j2,r1,r3,w1,J];cases S:(o.v.kind == 2);rw[S]at b;simp only[aj,if_false,aS]at b;simp[j5,P,Q,z,H,n];exact⟨zO,by rw[b];exact e.mono (λu _ _ h=>by simpa[JD] using h) zO⟩;rw[S]at b;simp only[if_true]at b;simp[M,j5,H,n,objCells,b8];refine jG (cs:=jE (i,k)) (by simp[j2,jE]) rfl rfl ?_;simp;refine YU (f:=jE) (lo:=0) (hi:=q) (l:=XB g i k) (a:=((i:Int),(k:Int))) (v:=j) (e.mono (λu _ _ h=>by simp[JD,ji,h]) zK) zS (by simp[slCells,jE]) jT zQ rfl zO zO (λc0 O=>?_);have F:XB g i (k+1)≠[]:=by rw[b];simp
 have x:(XB g i k).length+1=(XB g i (k+1)).length:=by rw[b];simp
 rw[<- b,x];simp[M,j5,H,n,objCells,j2,r5,q5,P,Q,z];exact⟨zO,.inr ⟨F,_,rfl,by simp[JD,ji],cL _,zO⟩⟩;exact⟨_,I,by rw[jfl];exact Grow.nil _ _ _ _ _⟩;rintro ob w q ⟨j,n,e⟩ z p;rw[jhq]at e;obtain⟨U,y⟩:=e.form;simp[M,objCells,n,y];exact j76 (l:=2*c.nx+3) (u:=c.nx+1) (t:=U) (nl:=(jcm g).isEmpty) (k:=(jcm g).length) (cs:=(jcm g).flatMap jE) (λr h=>⟨_,h⟩) (by simp[gd]) (by simp[z]) (by simp[X]) zS
def GrowT {α:Type}(tk:Nat->Bool) (nx:Nat) (f:α->List V) (sz:Nat) (l:List α) (v:V):Prop:=∃u,v=.sl (some (u,sz)) false l.length (l.flatMap f)/\tk u=true/\u<nx
theorem GrowT.mono {b:Type}{tk a:Nat->Bool}{nx nx':Nat}{f:b->List V}{sz:Nat}{l:List b}{v:V}(h:GrowT tk nx f sz l v) (g:∀u,u<nx->tk u=true->a u=true) (i:nx<=nx'):GrowT a nx' f sz l v:=by obtain⟨u,c,e,d⟩:=h;exact⟨u,c,g u d e,zO⟩
theorem YT {E:Env}{Yf:YF}{st:St}{ub:Nat}{K:St->Nat->Prop}{d:Option Nat}{nm:Bool}{i:Type}{f:i->List V}{sz b hi:Nat}{l:List i}{a:i}{v:V}{s x:A}(q:GrowT st.tk hi f sz l v) (p:eval E st.tm s=v) (r:slCells st.ob sz (eval E st.tm x)=some (f a)) (c:∀a,(f a).length=sz) (m:0<sz)
 (hp:(f a).all V.pureLeaf=true) (o:(l.length+1)*b<=140737488355328) (j:l.length+1<=140737488355328)
 (h:∀del:Option Nat,(∀u,del=some u->u<hi)->WR K st d ub { v:=.sl (some (ub,sz)) false (l.length+1) ((l++[a]).flatMap f),del:=del,add:=[ub] }):j8 E Yf ⟨d,.append false sz b s x,none,nm⟩ st ub K:=by
 have g:f a≠[]:=λe=>by have:=c a;rw[e]at this;simp at this;omega
 have k:(f a).length / sz=1:=by rw[c];exact gY m
 obtain⟨u,rfl,n,t⟩:=q;refine J1 p n r g (by rw[j3 c]) m hp (by rw[k];exact o) (by rw[k];exact j) ?_;rw[k];have:=h (some u) (λw e=>by cases e;exact t);simpa using this
theorem ev60 {g:Hist'}(I:Small g):∃v,Ev E 60 [.agg (histC g)] v/\PlR (jcm g) v:=by
 have S:=I.ts;refine JZ (af:=F60) rfl zQ ?_;conv in (occs := *) F60=> all_goals cbv
 simp[F60,histC];refine jG (cs:=[]) rfl rfl rfl ?_;simp;refine j6 [(3,5),(7,42)] g.ts.length (λi s=>s.tm 4=.int .i64 i/\s.ob 2=some ⟨0,.cells (histC g)⟩/\GrowT s.tk s.nx jE 2 (XB g i 0) (s.tm 3)) rfl rfl ⟨zS,by simp[histC],by rw[jfl];exact⟨128,zS,by simp[ji],zS⟩⟩ ?_;rintro i s hi ⟨H,D,J⟩ f;have G:s.tm 1=.ptr 2 0 0:=by rw[f.t 1 zS];simp
 have M:s.df=[]:=by rw[f.d];simp
 clear f;by_cases c:i<g.ts.length;have Q:=jZ c zO;simp[H,G,D,objCells,histC,c];refine j6 [(3,3),(5,5),(14,42)] (g.ts[i]).ops.length (λk j=>j.tm 5=.int .i64 k/\j.ob=s.ob/\GrowT j.tk j.nx jE 2 (XB g i k) (j.tm 3)) rfl rfl ⟨zS,zS,by simp;exact J.mono (λ_ _ h=>h) zO⟩ ?_;rintro k j Z ⟨B,m,p⟩ f;have K:j.tm 1=.ptr 2 0 0:=by rw[f.t 1 zS];simp[G]
 have L:j.tm 4=.int .i64 i:=by rw[f.t 4 zS];simp[H]
 have ed:j.df=[]:=by rw[f.d];simp[M]
 clear f;have w:j.ob 2=some ⟨0,.cells (histC g)⟩:=by rw[m];exact D
 obtain⟨t,z⟩:∃t,g.ts[i]=t:=⟨_,rfl⟩;have U:=I.os t (z▸av c);have n:(g.ts.flatMap js)[i*3+2]? = some (slOf t.nl opC t.ops):=by rw[jU jA g.ts c (by decide:2<3),z];rfl
 by_cases e:k<(g.ts[i]).ops.length;have b:=jfm c e;have P:=jhp I c (gc e);obtain⟨o,O⟩:∃o,(g.ts[i]).ops[k]=o:=⟨_,rfl⟩;rw[O]at b;subst z;have q:=jZ e zO;have y:((g.ts[i]).ops.flatMap opC)[k*4+2]? = some (.int .i64 o.v.kind):=by rw[jU jL (g.ts[i]).ops e (by decide:2<4),O];rfl
 cases F:(o.v.kind == 2);rw[F]at b;simp only[aj,if_false,aS]at b;simp[B,K,L,objCells,histC,c,j7 jA,n,e,j7 jL,y,F,q,m,D];rw[b];exact p.mono (λ_ _ h=>h) zO;rw[F]at b;simp only[if_true]at b;simp[B,K,L,w,objCells,histC,c,j7 jA,n,e,j7 jL,y,F,j2];refine jG (cs:=jE (i,k)) (by simp[j2,jE]) rfl rfl ?_;simp;refine YT (f:=jE) (hi:=j.nx) (l:=XB g i k) (a:=((i:Int),(k:Int))) (v:=j.tm 3) (p.mono (λu _ h=>by simp[ji,h]) zK) zS (by simp[slCells,jE]) jT zQ rfl zO zO (λT N=>?_);have x:(XB g i k).length+1=(XB g i (k+1)).length:=by rw[b];simp
 rw[<- b,x];simp[B,q,m];exact⟨e,_,rfl,by simp[ji],zO⟩;have:k=(g.ts[i]).ops.length:=zO;subst this;subst z;simp[B,K,L,w,objCells,histC,c,j7 jA,n,Q];rw[<- jfn c];exact p.mono (λ_ _ h=>h) zO;have:i=g.ts.length:=zO;subst this;rw[jhq]at J;obtain⟨u,X,_,_⟩:=J;simp[H,G,D,objCells,histC];exact slE (t:=some (u,2)) (nl:=false) (k:=(jcm g).length) (cs:=(jcm g).flatMap jE) (λr h=>⟨_,h⟩) (by simp[M]) (by simp[X])
def wkB (k:Int) (o:Op'):Bool:=o.w && o.key == k
def wrB (k:Int) (t:Txn'):Bool:=t.f != 2 && t.ops.any (wkB k)
def KeyAt (k:Int) (ob:ZO) (l u:Nat):Prop:=l % 2=0/\ob l=some ⟨u,.cells [.int .i64 k]⟩
theorem evo296 {k:Int}{ob:ZO}{l u:Nat}(c:KeyAt k ob l u) (o:Op') (tk:Nat->Bool) (base ub:Nat):EvO E 296 [.agg (opC o),.ptr l u 0] ob tk base ub (.bool (wkB k o)):=by
 obtain⟨e,d⟩:=c;refine JL (af:=S296) rfl ?_;have a:¬ l=2*ub+1:=zO;unfold wkB;cases b:o.w
 ·conv in (occs := *) S296=> all_goals cbv
  simp[S296,opC,objCells,b];exact j4 rfl zS rfl
 ·conv in (occs := *) S296=> all_goals cbv
  simp[S296,opC,objCells,b,a,d];exact j4 rfl zS rfl
theorem evo305 {p:Op'->Bool}{g:FuncId}{cap:V}{ob:ZO}(y:E.sh true g=false) (e:cap.strip.pureTop=false) (hp:∀ (t:Op') (tk:Nat->Bool) (base ub:Nat),EvO E g [.agg (opC t),cap] ob tk base ub (.bool (p t)))
 (nl:Bool) (l:List Op') (w:l.length<=1000000000) (tk:Nat->Bool) (base ub:Nat):EvO E 305 [slOf nl opC l,.fn (.func g) [] [cap]] ob tk base ub (.int .i64 (Yi p l)):=by
 refine JL (af:=S305) rfl ?_;conv in (occs := *) S305=> all_goals cbv
 simp[S305];refine j6 [(4,5),(8,18)] l.length (λi s=>s.tm 8=.int .i64 i/\s.ob=ob/\∀j (c:j<l.length),j<i->p l[j]=false) rfl rfl ⟨zS,zS,λ_ _ h=>by omega⟩ ?_;rintro i s B ⟨k,q,m⟩ f;have x:s.tm 0=slOf nl opC l:=by rw[f.t 0 zS];simp
 have z:s.tm 1=.fn (.func g) [] [cap]:=by rw[f.t 1 zS];simp
 have r:s.tm 7=.int .i64 l.length:=by rw[f.t 7 zS];simp
 have o:s.df=[]:=by rw[f.d];simp
 clear f;by_cases a:i<l.length;have u:=jZ a w;simp[x,z,r,k,a,j7 jL,jh jL];refine WI (f:=g) (first:=[]) (captured:=[cap]) zS y (by simp[e]) (v:=.bool (p l[i])) (by simpa[q] using hp l[i] _ _ _) ?_;cases b:p l[i];simp[k,u];refine⟨a,q,?_⟩;intro j c n;rcases aQ.1 n with h|rfl;exact m j c h;exact b;simp;refine j4 (by simpa using o) ?_ rfl;simp;rw[Y6 a b m];have:i=l.length:=zO;subst this;simp[r,k];refine j4 (by simpa using o) ?_ rfl;simp[Wn (λj c=>m j c c)]
theorem evo295 {p:Op'->Bool}{g:FuncId}{ob:ZO}{a b c:Nat}(e:E.sh true g=false) (hp:∀ (t:Op') (tk:Nat->Bool) (base ub:Nat),EvO E g [.agg (opC t),.ptr a b c] ob tk base ub (.bool (p t)))
 (nl:Bool) (l:List Op') (d:l.length<=1000000000) (tk:Nat->Bool) (base ub:Nat):EvO E 295 [slOf nl opC l,.fn (.func g) [] [.ptr a b c]] ob tk base ub (.bool (l.any p)):=by
 refine JL (af:=S295) rfl ?_;conv in (occs := *) S295=> all_goals cbv
 simp[S295];refine jb (vs:=[slOf nl opC l,.fn (.func g) [] [.ptr a b c]]) zS rfl rfl (evo305 e rfl hp nl l d _ _ _) ?_;simp;exact j4 rfl (by simp[jhz]) rfl
theorem evo294 {k:Int}{ob:ZO}{l u:Nat}(c:KeyAt k ob l u) (t:Txn') (i:t.ops.length<=1000000) (tk:Nat->Bool) (base ub:Nat):EvO E 294 [.agg (js t),.ptr l u 0] ob tk base ub (.bool (wrB k t)):=by
 have a:¬ l=2*ub+1:=by have:=c.1;omega
 refine JL (af:=S294) rfl ?_;unfold wrB;cases d:(t.f != 2)
 ·conv in (occs := *) S294=> all_goals cbv
  simp[S294,js,objCells,d];exact j4 rfl zS rfl
 ·conv in (occs := *) S294=> all_goals cbv
  simp[S294,js,objCells,d];refine jb (vs:=[slOf t.nl opC t.ops,.fn (.func 296) [] [.ptr l u 0]]) zS rfl rfl (evo295 (p:=wkB k) rfl (λh tk base b=>evo296 ?_ h tk base b) t.nl t.ops zO _ _ _) ?_;obtain⟨g,e⟩:=c;exact⟨g,by simp[a,e]⟩;simp;exact j4 rfl zS rfl
def writersH (g:Hist') (k:Int):List Int:=numsTo (wrB k) g.ts g.ts.length
theorem ev281 {g:Hist'}(y:Small g) (L:WG g=true) (k:Int):∃v,Ev E 281 [.agg (histC g),.int .i64 k] v/\j1j (writersH g k) v:=by
 have o:=jrv y;rw[W1 L]at o;have K:=y.ts;refine JZ (af:=F281) rfl zQ ?_;conv in (occs := *) F281=> all_goals cbv
 simp[F281,histC,objCells];refine jJ o (by simp[histC]) rfl (by simp[histC]) ?_;simp[objCells];refine j6 [(4,4),(6,8),(16,28)] g.ts.length (λi s=>s.tm 16=.int .i64 i/\s.ob 6=some ⟨64,.cells [.int .i64 k]⟩/\Grow s.tk 0 s.nx intC 1 (numsTo (wrB k) g.ts i) (s.tm 6)) rfl rfl ⟨zS,zS,by simp[numsTo];exact Grow.nil _ _ _ _ _⟩ ?_;rintro i s hi ⟨j,x,z⟩ f;have I:s.tm 5=.fn (.func 294) [] [.ptr 6 64 0]:=by rw[f.t 5 zS];simp
 have B:s.tm 14=slOf g.tn js g.ts:=by rw[f.t 14 zS];simp
 have n:s.tm 15=.int .i64 g.ts.length:=by rw[f.t 15 zS];simp
 have G:s.df=[]:=by rw[f.d];simp
 have J:s.fb=0:=by rw[f.b];simp
 have fr:s.ro=0:=by rw[f.r];simp
 clear f;by_cases e:i<g.ts.length;have D:=jZ e zO;have c:=JU (p:=wrB k) e;obtain⟨t,m⟩:∃t,g.ts[i]=t:=⟨_,rfl⟩;rw[m]at c;have M:=y.os t (m▸av e);have H:=JQ (wrB k) g.ts i;simp[j,B,n,e,j7 jA,jh jA,m,js,objCells,J,fr,j2,I];refine WI (f:=294) (first:=[]) (captured:=[.ptr 6 64 0]) zS rfl (by simp;rfl) (evo294 (k:=k) (l:=6) (u:=64) ⟨rfl,by simp[x]⟩ t zO _ _ _) ?_;cases hi:wrB k t;rw[hi]at c;simp only[aj,if_false,aS]at c;simp[j,D,x];exact⟨e,by rw[c];exact z.mono (λu _ _ h=>by simpa[JD] using h) zO⟩;rw[hi]at c;simp only[if_true]at c;simp;refine jG (cs:=[.int .i64 i]) (by simp[j2]) rfl rfl ?_;simp;refine YU (f:=intC) (lo:=0) (hi:=s.nx) (l:=numsTo (wrB k) g.ts i) (a:=(i:Int)) (v:=s.tm 6) (z.mono (λu _ _ h=>by simp[ji,h]) zK) zS (by simp[slCells,intC]) j9 zQ rfl zO zO (λN F=>?_);have w:numsTo (wrB k) g.ts (i+1)≠[]:=by rw[c];simp
 have q:(numsTo (wrB k) g.ts i).length+1=(numsTo (wrB k) g.ts (i+1)).length:=by rw[c];simp
 rw[<- c,q];simp[j,D,x];exact⟨e,.inr ⟨w,_,rfl,by simp[ji],cL _,zO⟩⟩;have:i=g.ts.length:=zO;subst this;obtain⟨t,m⟩:=z.form;simp[j,n];exact slE (t:=t) (nl:=(numsTo (wrB k) g.ts g.ts.length).isEmpty) (k:=(writersH g k).length) (cs:=(writersH g k).flatMap intC) (λr h=>⟨_,h⟩) (by simp[G]) (by simp[m,writersH])
def jo2 (g:Hist'):Nat->Nat
 | 0=>0
 | i+1=>max (jo2 g i) (writersH g i).length
def mostH (g:Hist'):Nat:=jo2 g g.ks.length
theorem jk2 {g:Hist'}(a:Small g):∀i,jo2 g i<=1000
 | 0=>cL _
 | i+1=>by have b:=jk2 a i;have d:=JQ (wrB i) g.ts g.ts.length;have c:=a.ts;simp only[jo2,writersH];omega
def JT (k:Int) (ops:List Op'):Nat->Val' × Bool
 | 0=>(⟨0,0⟩,false)
 | i+1=>match ops[i]? with
  | some o=>if wkB k o then (o.v,true) else JT k ops i
  | none=>JT k ops i
theorem QW {k:Int}{ops:List Op'}{i:Nat}(h:i<ops.length):JT k ops (i+1)=if wkB k ops[i] then (ops[i].v,true) else JT k ops i:=by simp[JT,aa h]
theorem ja9 (k:Int) (ops:List Op'):∀i,i<=ops.length->(JT k ops i).2=(ops.take i).any (wkB k)
 | 0,_=>by simp[JT]
 | i+1,h=>by rw[QW zO,ay zO,fK,<- ja9 k ops i zO];cases a:wkB k ops[i] <;> simp[a]
theorem ev84 (t:Txn') (J:t.ops.length<=1000000) (k:Int):Ev E 84 [.agg (js t),.int .i64 t.ops.length,.int .i64 k] (.tup [.agg (J0 (JT k t.ops t.ops.length).1),.bool (JT k t.ops t.ops.length).2]):=by
 refine jS (af:=F84) rfl ?_;conv in (occs := *) F84=> all_goals cbv
 simp[F84,js,objCells,j2];refine j6 [(9,10),(12,45)] t.ops.length (λi s=>s.tm 10=.int .i64 i/\s.ob 6=some ⟨0,.cells (js t)⟩/\s.ob 12=some ⟨64,.cells [.int .i64 0,.int .i64 0]⟩/\s.ob 16=some ⟨256,.cells (J0 (JT k t.ops i).1)⟩/\s.tm 9=.bool (JT k t.ops i).2) rfl rfl
  ⟨zS,by simp[js],zS,by simp[JT,J0],by simp[JT]⟩ ?_
 rintro i s K ⟨m,x,g,h,z⟩ f;have q:s.tm 1=.int .i64 t.ops.length:=by rw[f.t 1 zS];simp
 have G:s.tm 2=.int .i64 k:=by rw[f.t 2 zS];simp
 have B:s.tm 3=.ptr 6 0 0:=by rw[f.t 3 zS];simp
 have F:s.tm 6=.ptr 12 64 0:=by rw[f.t 6 zS];simp
 have D:s.tm 8=.ptr 16 256 0:=by rw[f.t 8 zS];simp
 have H:s.df=[]:=by rw[f.d];simp
 have fr:s.ro=0:=by rw[f.r];simp
 clear f;by_cases a:i<t.ops.length;have u:=jZ a zO;have c:=QW (k:=k) a;obtain⟨o,p⟩:∃o,t.ops[i]=o:=⟨_,rfl⟩;rw[p]at c;have y:(t.ops.flatMap opC)[i*4]? = some (.bool o.w):=by have:=jU jL t.ops a (by decide:0<4);rw[bj,p]at this;rw[this];rfl
 have a1:(t.ops.flatMap opC)[i*4+1]? = some (.int .i64 o.key):=by rw[jU jL t.ops a (by decide:1<4),p];rfl
 have a2:∀ob,QI ob (some 2) (.eptr (t.ops.flatMap opC) (i*4+2))=some (.agg (J0 o.v)):=λob=>by
  have I:i*4+4<=t.ops.length*4:=zO;rw[jcn,QX,if_pos (by rw[j3 jL];omega)];have:=YV jL t.ops i a;rw[p]at this;have e:((t.ops.flatMap opC).drop (i*4+2)).take 2=((((t.ops.flatMap opC).drop (i*4)).take 4).drop 2):=by rw[gH,dK]
  rw[e,this];rfl
 cases b:o.w;have n:wkB k o=false:=by unfold wkB;rw[b];rfl
 rw[n]at c;simp only[aj,if_false]at c;simp[m,q,B,x,objCells,js,a,j7 jL,y,b,u,g,h,z];exact⟨by rw[c],by rw[c]⟩;cases j:(o.key == k);have n:wkB k o=false:=by unfold wkB;rw[b,j];rfl
 rw[n]at c;simp only[aj,if_false]at c;simp[m,q,G,B,x,objCells,js,a,j7 jL,y,a1,b,j,u,g,h,z];exact⟨by rw[c],by rw[c]⟩;have n:wkB k o=true:=by unfold wkB;rw[b,j];rfl
 rw[n]at c;simp only[if_true]at c;simp[m,q,G,B,D,x,objCells,js,a,j7 jL,y,a1,a2,b,j,u,g,h,J0,fr,j2];rw[c];simp;have:i=t.ops.length:=zO;subst this;simp[m,q,D,h,objCells,z,F,g,J0,fr,j2];exact J8 (by simp[H]) (l:=[.agg (J0 (JT k t.ops t.ops.length).1),.bool (JT k t.ops t.ops.length).2]) (by simp[jo,objCells,F,J0]) rfl rfl
theorem jem (c:Nat):Xd .shr (.int .u64 (c:Int)) (.int .u64 32)=some (.int .u64 ((c / 4294967296:Nat):Int)):=by
 simp only[Xd,Wc];rw[if_neg zQ];have e:min (Int.toNat 32) IntKind.u64.bits=32:=by decide
 rw[e];congr 2;rw[eX _ zQ];omega
theorem w64 (c:Nat) (h:c<18446744073709551616):IntKind.u64.wrap (c:Int)=c:=by rw[IntKind.wrap_u64];omega
theorem ev279 (c:Nat) (k:c<4294967296):Ev E 279 [.int .u64 1,.int .u64 c] (.tup [.int .u64 0,.int .u64 c]):=by
 refine jS (af:=F279) rfl ?_;have j:Xd .and (.int .u64 1) (.int .u64 4294967295)=some (.int .u64 1):=jb9 (a:=1) (b:=4294967295) rfl zQ zQ;have h:Xd .shr (.int .u64 1) (.int .u64 32)=some (.int .u64 0):=jem 1;have f:Xd .and (.int .u64 (c:Int)) (.int .u64 4294967295)=some (.int .u64 (c:Int)):=by
  have:=jb9 (a:=c) (b:=4294967295) (m:=4294967295) rfl zO zQ;rw[show c &&& 4294967295=c by
   have:=Nat.and_two_pow_sub_one_eq_mod c 32;rw[show 2 ^ 32 - 1=4294967295 by decide]at this;rw[this];omega]at this
  exact this
 have g:Xd .shr (.int .u64 (c:Int)) (.int .u64 32)=some (.int .u64 0):=by rw[jem,Nat.div_eq_of_lt k];rfl
 have l:Xd .shr (.int .u64 0) (.int .u64 32)=some (.int .u64 0):=jem 0;have e:Xd .and (.int .u64 0) (.int .u64 4294967295)=some (.int .u64 0):=jb9 (a:=0) (b:=4294967295) rfl zQ zQ;have w:=w64 c zO;have i:IntKind.u64.wrap 0=0:=by decide
 conv in (occs := *) F279=> all_goals cbv
 simp[F279,j,h,f,g,l,e,w,i];exact JY rfl zS zS rfl rfl
theorem ev250 (c:Nat) (a:c<4294967296):Ev E 250 [.int .u64 1,.int .u64 c] (.tup [.int .u64 0,.int .u64 c]):=by
 refine jS (af:=F250) rfl ?_;conv in (occs := *) F250=> all_goals cbv
 simp[F250];refine jJ (ev279 c a) zS rfl rfl ?_;simp;exact JY rfl zS zS rfl rfl
section
variable {E:Env}{Yf:YF}{st:St}{ub:Nat}{K:St->Nat->Prop}{d:Option Nat}{nm:Bool}
theorem jpb {sz a n:Nat}{zero:List V}{x y:A}(b:eval E st.tm x=.int .i64 (n:Int)) (g:eval E st.tm y=.int .i64 (n:Int)) (c:0<n) (f:n*a<=140737488355328) (j:n<=140737488355328) (i:zero.length=sz) (e:0<sz)
 (h:WR K st d ub { v:=.osl (jH d nm st.fb ub) ub 0 n sz,obs:=[(jH d nm st.fb ub,⟨ub,.cells (repl n zero)⟩)] }):j8 E Yf ⟨d,.mkSl false sz a zero x y,none,nm⟩ st ub K:=by
 rw[jN _ rfl rfl];simp only[aop,b,g];rw[if_pos (by refine⟨zO,zO,?_,zO,i,e⟩;rw[<- fM];exact gh.2 f),if_neg (by intro h;omega),Jj,jM];simp only[aZ,Jx];exact h
theorem jz1 {sz l u off n:Nat}{x y:A}{ys cs:List V}(i:eval E st.tm x=.osl l u off n sz) (e:slCells st.ob sz (eval E st.tm y)=some ys) (c:st.ob l=some ⟨u,.cells cs⟩) (b:st.ro<=u) (f:0<sz) (hp:ys.all V.leaf=true) (g:off+n*sz<=cs.length)
 (h:WR K st d ub { v:=.int .i64 (Nat.min (ys.length / sz) n:Nat),obs:=[(l,⟨u,.cells (j2 cs off (ys.take (Nat.min (ys.length / sz) n*sz)))⟩)] }):j8 E Yf ⟨d,.copy sz x y,none,nm⟩ st ub K:=by
 have a:objCells st.ob l u=some cs:=by simp[objCells,c]
 rw[jN _ rfl rfl];simp only[aop,i,e,am,a];rw[if_pos ⟨ce▸b,trivial,f,hp⟩,if_pos g,jM];exact h
theorem j0e {r:List AOpr}{c:List FP->St->Prop}{sz l u off n:Nat}{x y:A}{ys cs:List V}(i:eval E st.tm x=.osl l u off n sz) (f:slCells st.ob sz (eval E st.tm y)=some ys) (e:st.ob l=some ⟨u,.cells cs⟩) (b:st.ro<=u) (g:0<sz) (hp:ys.all V.leaf=true) (j:off+n*sz<=cs.length)
 (h:Wy E r c (eval E st.tm) (.copy sz x y) st d ub { v:=.int .i64 (Nat.min (ys.length / sz) n:Nat),obs:=[(l,⟨u,.cells (j2 cs off (ys.take (Nat.min (ys.length / sz) n*sz)))⟩)] }):jF E (⟨d,.copy sz x y,none,nm⟩::r) st ub c:=by
 have a:objCells st.ob l u=some cs:=by simp[objCells,e]
 rw[Jq rfl];simp only[aop,i,f,am,a];rw[if_pos ⟨ce▸b,trivial,g,hp⟩,if_pos j,jM];exact h
end
theorem js3 {st:St}{L u n:Nat}{cs:List V}(f:st.ob L=some ⟨u,.cells cs⟩) (m:cs.length=n) (e:st.ro<=u) (hp:cs.all V.pureLeaf=true):JH st 6 (.osl L u 0 n 1)=some (.sl none false n cs):=by
 have b:objCells st.ob L u=some cs:=by simp[objCells,f]
 have g:∀ (k:Nat) (l:List V),l.all V.pureLeaf=true->l.mapM (JH st (k+1))=some l:=by
  intro k l;induction l with
  | nil=>intro _;rfl
  | cons a l j=>
   intro h;simp only[cQ,ai]at h;rw[bL,j h.2];have:JH st (k+1) a=some a:=by
    have:=Y2 (st:=st) (keep:=false) (i:=0) h.1;cases a with
    | sl t o n cs=>cases t with
     | none=>rfl
     | some t=>cases h.1
    | osl=>cases h.1
    | _=>simp only[JH,h.1,if_true]
   rw[this];rfl
 show((objCells st.ob L u).bind λcs=>if Nat.ble st.ro u=true/\0+n*1<=cs.length then (((cs.drop 0).take (n*1)).mapM (JH st 5)).map λc=>V.sl none false n c else none)=_;rw[b,am,if_pos ⟨ce▸e,zO⟩,dt,bz,aK zO,g 4 cs hp];rfl
theorem ja2 {st:St}{L u n:Nat}{cs:List V}(c:st.ob L=some ⟨u,.cells cs⟩) (e:cs.length=n) (b:st.ro<=u) (hp:cs.all V.pureLeaf=true):jc2 st (.osl L u 0 n 1) false n cs:=by
 intro keep i;have a:objCells st.ob L u=some cs:=by simp[objCells,c]
 have f:=js3 c e b hp;refine⟨_,by simp only[jm,f,am,a,aU];rfl,?_⟩;split;exact .inr ⟨_,rfl⟩;exact .inl rfl
theorem Yw {st:St}{n k:Nat}{nl:Bool}{v:V}{cs:List V}{P:V->Prop}(m:∀r,SlR r nl k cs->P r) (j:st.df=[]) (h:st.tm n=v) (o:v.leaf=true) (l:jc2 st v nl k cs):Qm [.t n] P .ret st:=by
 have b:[ARes.t n].mapM (jo st)=some [v]:=by simp[jo,h]
 obtain⟨a,f,c⟩:=l (nodup (List.flatMap V.toks [v])) 0;refine⟨.sl a nl k cs,?_,m _ ⟨a,rfl,?_⟩⟩;simp only[jas,YJ j,YD j,if_true,b,am,Yd];generalize nodup (List.flatMap V.toks [v])=keep at *;have e:XS st keep 0 v=some (.sl a nl k cs):=by
  rw[<- f];cases v with
  | agg=>cases o
  | fn=>simp only[jm,JH]at f;split at f <;> cases f
  | _=>rfl
 simp only[JK,e,am,aU];have i:nodup (List.flatMap V.toks [.sl a nl k cs])=true:=by rcases c with rfl|⟨_,rfl⟩ <;> rfl
 show(if nodup (List.flatMap V.toks [.sl a nl k cs])=true then some (V.sl a nl k cs) else none)=_;rw[if_pos i];intro p g;rcases c with rfl|⟨_,rfl⟩;simp at g;simp at g;subst g;simp
theorem j1b {n:Nat}{x:Int}{cs:List V}(b:cs.length=n) (h:∀i,i<n->cs[i]? = some (.int .i64 x)):cs=(List.replicate n x).flatMap intC:=by apply dj;intro i;by_cases a:i<n;rw[h i a,jr _ (by simpa using a)];simp;rw[cX zO,cX (by rw[j3 j9];simp;omega)]
end Go.Pv.T
namespace Go.Pv.T
open Go Go.Pv
end Go.Pv.T
namespace Go.Pv.T
open Go Go.Pv
theorem jcp (l:List Int):(l.flatMap intC).all V.pureLeaf=true:=by rw[aw];intro y c;obtain⟨a,_,b⟩:=cg.1 c;simp[intC]at b;subst b;rfl
theorem jtp {l:List Txn'}(h:∀t∈l,t.ops.length<=1000):rcT l<=l.length*1000:=by
 induction l with
 | nil=>simp[rcT,rc]
 | cons t l a=>
  have e:=a (λt b=>h t (bf _ b));have c:=h t (aP ..);have d:=rc_le t.ops;have:rcT (t::l)=rc t.ops+rcT l:=by rw[rcT,bl,j8f];rfl
  rw[this,bo,da];omega
structure Bnd (g:Hist'):Prop where
 i:(Xg g).length<=1000
 l:(jcm g).length<=1000000
 r:rcT g.ts<=1000000
 m:mostH g<=1000
 t:g.ts.length<=1000
theorem bnd_of {g:Hist'}(a:Small g):Bnd g:=by have b:=a.ts;refine⟨?_,?_,?_,jk2 a _,b⟩;have:=JQ XC g.ts g.ts.length;show(numsTo XC g.ts g.ts.length).length<=1000;omega;have:=jck a.os g.ts.length;show(jfj g.ts g.ts.length).length<=1000000;have:g.ts.length*1000<=1000*1000:=bc _ b;omega;have:=jtp a.os;have:g.ts.length*1000<=1000*1000:=bc _ b;omega
theorem jdy {ub n:Nat}{cs:List V}:Xf ub (.sl (some (0,1)) false n cs)=some { v:=.sl (some (ub,1)) false n cs,add:=[ub] }:=by rw[Xf,if_pos (by rfl)];rfl
end Go.Pv.T
namespace Go.Pv.T
open Go Go.Pv
end Go.Pv.T
namespace Go.Pv.T
open Go Go.Pv
end Go.Pv.T
namespace Go.Pv.T
open Go Go.Pv
def Yo (n:Nat) (l:List (List UInt8)):List (List UInt8):=(l.take n).map (·.take 100)
def fewT (t:Txn'):Txn':={ t with nl:=false,ops:=t.ops.take 25 }
def jdg (h:Hist'):Hist':={ sn:=(Yo 25 h.ss).isEmpty,ss:=Yo 25 h.ss,kn:=(Yo 45 h.ks).isEmpty,ks:=Yo 45 h.ks,tn:=((h.ts.take 45).map fewT).isEmpty,ts:=(h.ts.take 45).map fewT }
theorem jpp (n:Nat) (l:List (List UInt8)):Yo n (Yo n l)=Yo n l:=by simp[Yo,<- List.map_take,cU,eC,Function.comp_def]
theorem js4 (h:Hist'):Small (jdg h):=by refine⟨?_,?_,?_,?_,?_,?_⟩;show(Yo 25 h.ss).length<=1000;simp[Yo];omega;intro s b;obtain⟨a,_,rfl⟩:=aJ.1 (show s∈Yo 25 h.ss from b);simp;omega;show(Yo 45 h.ks).length<=1000;simp[Yo];omega;intro s b;obtain⟨a,_,rfl⟩:=aJ.1 (show s∈Yo 45 h.ks from b);simp;omega;show((h.ts.take 45).map fewT).length<=1000;simp;omega;intro t c;obtain⟨a,_,rfl⟩:=aJ.1 (show t∈(h.ts.take 45).map fewT from c);simp[fewT];omega
theorem jlm {n i:Nat}{l:List (List UInt8)}(hi:i<l.length) (_:i<n):Yo (i+1) l=Yo i l++[(l[i]).take 100]:=by rw[Yo,ay hi,bF];rfl
theorem jpq {n:Nat}{l:List (List UInt8)}{i:Nat}(hi:i<=l.length) (b:i<=n) (h:¬ (i<l.length/\i<n)):Yo i l=Yo n l:=by unfold Yo;congr 1;by_cases a:i<l.length;have:i=n:=zO;rw[this];rw[aK zO,aK zO]
def tlC:C->C
 | .seq _ b=>b
 | c=>c
def hdC:C->C
 | .seq a _=>a
 | c=>c
theorem jfg (n m:Nat):jcj false [.int .i64 (n:Int),.int .i64 (m:Int)]=some (.int .i64 ((min n m:Nat):Int)):=by simp only[jcj,QH];by_cases h:n<=m;rw[cP h];simp[jiz];omega;rw[fw (Nat.le_of_not_le h)];simp[jiz];omega
theorem jeo (c:List UInt8):c.take (min c.length 100)=c.take 100:=by rcases gV c.length 100 with h'|h';rw[cP h',aK zK,aK h'];rw[fw h']
theorem jpo (n:Nat) (l:List (List UInt8)):(Yo n l).length<=n:=by simp[Yo];omega
theorem joh {l:List UInt8}{kk:IntKind}{k:Nat}(h:k<=l.length):Xe none (some (.int kk (k:Int))) (.str l)=some (.str (l.take k)):=by simp[Xe,Jg,h]
theorem js5 {cs:List V}{kk:IntKind}{t:Option (Nat × Nat)}{nl:Bool}{sz n k:Nat}(h:k<=n) (a:cs.length=n*sz):YZ sz none (some (.int kk (k:Int))) (.sl t nl n cs)=some (.sl none nl k (cs.take (k*sz))):=by simp[YZ,Jg,h,a]
end Go.Pv.T
namespace Go.Pv.T
open Go Go.Pv
end Go.Pv.T
namespace Go.Pv.T
open Go Go.Pv
theorem j5v {h:Hist'}{i:Nat}(hi:i<=h.ts.length) (c:i<=45) (b:¬ (i<h.ts.length/\i<45)):(h.ts.take i).map fewT=(h.ts.take 45).map fewT:=by congr 1;by_cases a:i<h.ts.length;have:i=45:=zO;rw[this];rw[aK zO,aK zO]
theorem jxu (l:List Op') (k:Nat):(l.flatMap opC).take (k*4)=(l.take k).flatMap opC:=by
 induction l generalizing k with
 | nil=>simp
 | cons a l b=>
  cases k with
  | zero=>simp
  | succ k=>rw[bl,eN,bl,da,<- b k];show(V.bool a.w::V.int .i64 a.key::V.int .i64 a.v.kind::V.int .i64 a.v.n::l.flatMap opC).take (k*4+4)=_;simp[opC]
theorem kE1 {st:St}{p l u:Nat}{x y z:V}{g:Hist'}(a:st.df=[]) (hp:st.tm p=.ptr l u 0) (b:st.ob l=some ⟨u,.cells [x,y,z]⟩)
 (e:jc2 st x g.sn g.ss.length (g.ss.flatMap Jv)) (c:jc2 st y g.kn g.ks.length (g.ks.flatMap Jv)) (d:jc2 st z g.tn g.ts.length (g.ts.flatMap js)):Qm [.cell p (some 3)] (λr=>jr8 r g) .ret st:=endH1 a hp b e c d
theorem j8c {Yf:YF}(nl:Bool) (ops:List Op') (hm:ops.length<=1000000) {l u lh uh:Nat}{ob0:ZO}{tk0:Nat->Bool}{ro base ub0:Nat}(J:Nat->(ZO)->(Nat->Bool)->Nat->Prop) (P:V × (ZO) × (Nat->Bool) × Nat->Prop)
 (m:∀k ob g h b c,J k ob h b->b<=c->Fr b ob g->J k g h c) (n:∀k ob h b,J k ob h b->ob lh=some ⟨uh,.cells [slOf nl opC ops]⟩) (O:ro<=ub0)
 (p:∀k (_:k<ops.length) ob h b,J k ob h b->ro<=b->∃r,EvY Yf l u [.int .i64 (ops.length - 1 - k:Nat),.agg (opC (ops.getD (ops.length - 1 - k) ⟨false,0,0,0⟩))] ob h ro b r/\ro<=r.2.2.2 /\
  ((r.1=.bool true/\J (k+1) r.2.1 r.2.2.1 r.2.2.2)\/(r.1=.bool false/\∀g c,r.2.2.2<=c->Fr r.2.2.2 r.2.1 g->P (.tup [],g,r.2.2.1,c))))
 (z:∀ob h b,J ops.length ob h b->P (.tup [],ob,h,b)) (N:J 0 ob0 tk0 ub0):∃r,EvS E Yf.y 274 [.yld l u,.ptr lh uh 0] ob0 tk0 ro base ub0 r/\P r:=by
 refine Ja (af:=S274) rfl zQ ?_;show wpC E Yf S274.body _ (XD S274.res P);have hh:=n 0 ob0 tk0 ub0 N;have S:IntKind.i64.wrap ((ops.length:Int) - 1)=(ops.length:Int) - 1:=jX zO zO;conv in (occs := *) S274=> all_goals cbv
 simp[S274,objCells,hh,S];refine j6 [(3,3),(7,18)] ops.length (λk s=>s.tm 3=.int .i64 ((ops.length:Int) - 1 - k)/\ro<=s.nx/\J k s.ob s.tk s.nx) rfl rfl ⟨zS,by simp;omega,m _ _ _ _ _ _ N (by simp;omega) (Fr.refl _ _)⟩ ?_;rintro k s hk ⟨D,a0,K⟩ f;have Z:s.tm 0=.yld l u:=by rw[f.t 0 zS];simp
 have f1:s.tm 1=.ptr lh uh 0:=by rw[f.t 1 zS];simp
 have M:s.df=[]:=by rw[f.d];simp
 have fr:s.ro=ro:=by rw[f.r];simp
 clear f;have hc:=n _ _ _ _ K;by_cases w:k<ops.length;obtain⟨j,hj⟩:∃j,j=ops.length - 1 - k:=⟨_,rfl⟩;have B:j<ops.length:=zO;have e:(ops.length:Int) - 1 - k=(j:Int):=zO;rw[e]at D;have w2:IntKind.i64.wrap ((j:Int) - 1)=(ops.length:Int) - 1 - (k+1):=by rw[jX zO zO];omega
 have F:ops.getD j ⟨false,0,0,0⟩=ops[j]:=by rw[ag,aa B];rfl
 simp[D,Z,f1,objCells,hc,B,j7 jL,jh jL];refine joe λi a=>?_;have G:i.tm 11=.yld l u:=by rw[a];simp
 have L:i.tm 12=.int .i64 j:=by rw[a];simp
 have I:i.tm 16=.agg (opC ops[j]):=by rw[a];simp
 have e3:i.tm 3=.int .i64 j:=by rw[a];simp[D]
 have ed:i.df=[]:=by rw[a];simp[M]
 have T:i.ro=ro:=by rw[a];simp[fr]
 have et:i.tk=s.tk:=by rw[a];simp
 have eo:i.ob=s.ob:=by rw[a];simp
 clear a;obtain⟨r,Q,b0,o⟩:=p k w i.ob s.tk (s.nx+64+64+64+64+64+64+64+64) (m _ _ _ _ _ _ K zO (by rw[eo];exact Fr.refl _ _)) zO;rw[<- hj,F]at Q;refine jjq (l:=l) (u:=u) (by simpa using G) ⟨r,by simpa[L,I,et,T] using Q,?_⟩;rcases o with⟨q,H⟩|⟨q,hP⟩;simp[q,put,j5,e3,w2];exact⟨w,zO,m _ _ _ _ _ _ H zO (Fr.refl _ _)⟩;simp[q,put];refine⟨(.tup [],r.2.1,r.2.2.1,r.2.2.2+64),?_,hP _ _ zO (Fr.refl _ _)⟩;simp[endS,ed];have:k=ops.length:=zO;subst this;obtain⟨X,U⟩:∃x:Int,x=(ops.length:Int) - 1 - ops.length:=⟨_,rfl⟩;rw[<- U]at D;have c1:¬ 0<=X:=zO;simp[D,c1];refine⟨(.tup [],s.ob,s.tk,s.nx+64+64),?_,z _ _ _ (m _ _ _ _ _ _ K zO (Fr.refl _ _))⟩;simp[endS,M]
def j1l:C:=.region [⟨some 7,.alloc [(.bool false),(.int .i64 0),(.int .i64 0),(.int .i64 0)],none,false⟩,⟨none,.store 4 (.t 7) (.t 11),none,false⟩]
def jr9:C:=.block 1 (.seq (.region [⟨some 12,.fieldAddr 0 (.t 7),none,false⟩,⟨some 13,.load none (.t 12),none,false⟩,⟨some 14,.mov (.t 13),none,false⟩,⟨some 15,.fieldAddr 1 (.t 7),(some (14,true)),false⟩,⟨some 16,.load none (.t 15),(some (14,true)),false⟩,⟨some 17,.load none (.t 3),(some (14,true)),false⟩,⟨some 18,.bin .eql (.t 16) (.t 17),(some (14,true)),false⟩,⟨some 19,.pick (.t 14) (.t 18) (.c (.bool false)),none,false⟩])
 (.cond (.t 19) (.seq (.region [⟨some 20,.fieldAddr 2 (.t 7),none,false⟩,⟨some 21,.load (some 2) (.t 20),none,false⟩,⟨none,.store 2 (.t 4) (.t 21),none,false⟩,⟨none,.store 1 (.t 5) (.c (.bool true)),none,false⟩]) (.ret)) (.skip)))
theorem jyl (nl:Bool) (ops:List Op') (x:ops.length<=1000000) (d:Int) {st:St}{lh uh:Nat}(U:Nat) (hU:st.nx=U) (d2:64<=U) (h9:st.tm 9=.fn (.func 274) [] [.ptr lh uh 0]) (hl:∃m,lh=2*m+1/\m<U)
 (h3:st.tm 3=.ptr 6 0 0) (h4:st.tm 4=.ptr 8 64 0) (h5:st.tm 5=.ptr 10 128 0) (b0:st.ro=0) (a0:st.fb=0) (o6:st.ob 6=some ⟨0,.cells [.int .i64 d]⟩) (o8:st.ob 8=some ⟨64,.cells [.int .i64 0,.int .i64 0]⟩) (c6:st.ob 10=some ⟨128,.cells [.bool false]⟩)
 (oh:st.ob lh=some ⟨uh,.cells [slOf nl opC ops]⟩) {Q:Ex->St->Prop}
 (hQ:∀ (e:Ex) (ob:ZO) (tk:Nat->Bool) (ub:Nat) (v:Val') (b:Bool),ob 8=some ⟨64,.cells (J0 v)⟩->ob 10=some ⟨128,.cells [.bool b]⟩->ob (2*U+3)=some ⟨U+1,.dfr⟩->U+64<=ub ->
  JT d ops ops.length=(v,b)->(e=.nrm/\v=⟨0,0⟩/\b=false\/e=.ret)->Q e { st with ob:=ob,tk:=tk,nx:=ub,df:=(2*U+3,U+1)::st.df }) :
 wpC E YC (.rangeFunc (.t 9) [10,11] j1l jr9) st Q:=by
 obtain⟨m,rfl,c9⟩:=hl;subst hU;refine WV (g:=274) (first:=[]) (captured:=[.ptr (2*m+1) uh 0]) (by simpa using h9) ?_;have e1:¬ 2*m+1=2*st.nx+1:=zO;have e2:¬ 2*m+1=2*st.nx+3:=zO;have b9:¬ 2*m=2*st.nx:=zO;have c1:¬ 2*m=2*st.nx+2:=zO;have:=j8c (Yf:=jg7 E YC j1l jr9 st [10,11] (2*st.nx+1) st.nx) nl ops x (l:=2*st.nx+1) (u:=st.nx) (lh:=2*m+1) (uh:=uh)
  (ob0:=upd (upd st.ob (2*st.nx+3) (some ⟨st.nx+1,.dfr⟩)) (2*st.nx+1) (some ⟨st.nx,.loop .ready none⟩)) (tk0:=st.tk) (ro:=st.ro) (base:=(st.fb+1023)*1024) (ub0:=st.nx+64)
  (λk ob tk ub=>JT d ops ops.length=JT d ops (ops.length - k)/\ob (2*st.nx+1)=some ⟨st.nx,.loop .ready none⟩/\ob (2*st.nx+3)=some ⟨st.nx+1,.dfr⟩/\ob 6=some ⟨0,.cells [.int .i64 d]⟩/\ob 8=some ⟨64,.cells [.int .i64 0,.int .i64 0]⟩/\ob 10=some ⟨128,.cells [.bool false]⟩/\ob (2*m+1)=some ⟨uh,.cells [slOf nl opC ops]⟩/\st.nx+64<=ub)
  (λr=>∃s z,r.2.1 (2*st.nx+1)=some ⟨st.nx,.loop s z⟩/\s≠.busy/\st.ro<=st.nx/\Q (z.getD .nrm) { st with ob:=λk=>if Nat.beq (2*st.nx+1) k then none else r.2.1 k,tk:=r.2.2.1,nx:=r.2.2.2,df:=(2*st.nx+3,st.nx+1)::st.df })
  ?_ ?_ zO ?_ ?_ ?_
 obtain⟨r,hr,hP⟩:=this;exact⟨r,hr,hP⟩;rintro k ob i tk ub b7 ⟨p,J,N,T,M,L,K,g8⟩ d0 H;have f:∀n,(∀m,ub<=m->n≠2*m+1)->i n=ob n:=H;exact⟨p,by rw[f _ (λm x=>by omega)];exact J,by rw[f _ (λm x=>by omega)];exact N,by rw[f _ (λm x=>by omega)];exact T,by rw[f _ (λm x=>by omega)];exact M,by rw[f _ (λm x=>by omega)];exact L,by rw[f _ (λm x=>by omega)];exact K,zO⟩;rintro k ob tk ub ⟨p,J,N,T,M,L,K,g8⟩;exact K
 ·rintro k hk ob tk ub ⟨p,J,N,T,M,L,K,g8⟩ d1;obtain⟨j,hj⟩:∃j,j=ops.length - 1 - k:=⟨_,rfl⟩;have P:j<ops.length:=zO;have c0:ops.getD j ⟨false,0,0,0⟩=ops[j]:=by rw[ag,aa P];rfl
  have B:=QW (k:=d) P;rw[<- hj,c0];obtain⟨o,ho⟩:∃o,ops[j]=o:=⟨_,rfl⟩;rw[ho]at B ⊢;rw[show ops.length - k=j+1 by omega]at p;rw[B]at p;refine jgj (asg:=j1l) (bd:=jr9) (xs:=[.int .i64 (j:Nat),.agg (opC o)]) rfl zO J zQ zQ ?_;simp[j1l,jet,objCells,a0,opC,b0,j2];refine⟨by rw[if_neg zO,if_neg zO];exact J,jQ λc a=>?_⟩;have f3:c.tm 3=.ptr 6 0 0:=by rw[a];simp[j5,h3]
  have f4:c.tm 4=.ptr 8 64 0:=by rw[a];simp[j5,h4]
  have f5:c.tm 5=.ptr 10 128 0:=by rw[a];simp[j5,h5]
  have f7:c.tm 7=.ptr 14 ub 0:=by rw[a];simp
  have n6:¬ 6=2*st.nx+1:=zO;have Z:¬ 8=2*st.nx+1:=zO;have q:¬ 10=2*st.nx+1:=zO;have c5:¬ 14=2*st.nx+1:=zO;have n3:¬ 2*st.nx+3=2*st.nx+1:=zO;have X:¬ 2*st.nx+3=14:=zO;have O:¬ 2*m+1=14:=zO;have p6:c.ob 6=some ⟨0,.cells [.int .i64 d]⟩:=by rw[a];simp[j5,n6,T]
  have p8:c.ob 8=some ⟨64,.cells [.int .i64 0,.int .i64 0]⟩:=by rw[a];simp[j5,Z,M]
  have F:c.ob 10=some ⟨128,.cells [.bool false]⟩:=by rw[a];simp[j5,q,L]
  have I:c.ob 14=some ⟨ub,.cells (opC o)⟩:=by rw[a];simp[j5,c5,opC]
  have p3:c.ob (2*st.nx+3)=some ⟨st.nx+1,.dfr⟩:=by rw[a];simp[j5,X,N]
  have p1:c.ob (2*st.nx+1)=some ⟨st.nx,.loop .busy none⟩:=by rw[a];simp
  have ph:c.ob (2*m+1)=some ⟨uh,.cells [slOf nl opC ops]⟩:=by rw[a];simp[j5,b9,O,K]
  have fr:c.ro=0:=by rw[a]
  have fn:ub<=c.nx:=by rw[a];simp;omega
  clear a;have c3:¬ 2*st.nx+1=8:=zO;have S:¬ 2*st.nx+1=10:=zO;have c8:¬ 2*st.nx+3=8:=zO;have b5:¬ 2*st.nx+3=10:=zO;have skip:wkB d o=false->JT d ops ops.length=JT d ops (ops.length - (k+1)):=λD=>by rw[D]at p;rw[p,show ops.length - (k+1)=j by omega];rfl
  have done:wkB d o=false->(c4:True)->JT d ops ops.length=JT d ops (ops.length - (k+1))/\upd c.ob (2*st.nx+1) (some ⟨st.nx,.loop .ready none⟩) (2*st.nx+3)=some ⟨st.nx+1,.dfr⟩:=λD _=>⟨skip D,by rw[j5,if_neg n3];exact p3⟩;cases h:o.w;have D:=skip (by unfold wkB;rw[h];rfl);simp[jr9,f7,I,objCells,opC,h,p1,Wd];exact⟨D,by rw[j5,if_neg n3];exact p3,by rw[j5,if_neg n6];exact p6,by rw[j5,if_neg Z];exact p8,by rw[j5,if_neg q];exact F,by rw[j5,if_neg e1];exact ph,zO⟩;cases y:(o.key == d);have D:=skip (by unfold wkB;rw[h,y];rfl);simp[jr9,f7,I,objCells,opC,h,f3,p6,y,p1,Wd];exact⟨D,by rw[j5,if_neg n3];exact p3,by rw[j5,if_neg n6];exact p6,by rw[j5,if_neg Z];exact p8,by rw[j5,if_neg q];exact F,by rw[j5,if_neg e1];exact ph,zO⟩;have c7:wkB d o=true:=by unfold wkB;rw[h,y];rfl
  rw[c7]at p;simp only[if_true]at p;simp[jr9,f7,I,objCells,opC,h,f3,p6,y,f4,f5,p8,F,fr,j2,c3,S,p1,Wd];intro i b7 d4 H;have fk:∀n,(∀m,c.nx+64+64+64+64+64+64+64+64+64+64+64+64<=m->n≠2*m+1)->i n=_:=H;have G:∀ {k:Nat},k≠2*st.nx+1->(if 2*st.nx+1=k then none else i k)=i k:=λhk=>if_neg λe=>hk e.symm;refine⟨.done,some .ret,?_,zS,?_⟩;rw[fk _ (λm x=>by omega)];simp;have:=hQ .ret (λk=>if 2*st.nx+1=k then none else i k) c.tk b7 o.v true (by rw[G Z,fk _ (λm x=>by omega)];simp[j5,Z,J0]) (by rw[G q,fk _ (λm x=>by omega)];simp[j5,q])
   (by rw[G n3,fk _ (λm x=>by omega)];simp[j5,c8,b5,p3]) zO p (Or.inr rfl)
  rw[b0,a0]at this;simpa[JD] using this
 rintro ob tk ub ⟨p,J,N,T,M,L,K,g8⟩;refine⟨.ready,none,J,zS,zO,?_⟩;rw[eQ]at p;exact hQ .nrm _ _ _ ⟨0,0⟩ false ((j2y ob zO).trans M) ((j2y ob zO).trans L) ((j2y ob zO).trans N) g8 p (Or.inl ⟨rfl,rfl,rfl⟩);have d3:¬ 2*st.nx+3=2*st.nx+1:=zO;have a6:¬ 6=2*st.nx+1:=zO;have b6:¬ 6=2*st.nx+3:=zO;have a8:¬ 8=2*st.nx+1:=zO;have b8:¬ 8=2*st.nx+3:=zO;have a10:¬ 10=2*st.nx+1:=zO;have c2:¬ 10=2*st.nx+3:=zO;exact⟨by rw[Nat.sub_zero],zS,by simp[j5],by simp[j5,a6,b6,o6],by simp[j5,a8,b8,o8],by simp[j5,a10,c2,c6],by simp[j5,b9,c1,oh],zO⟩
end Go.Pv.T
namespace Go.Pv.T
open Go Go.Pv
end Go.Pv.T
namespace Go.Pv.T
open Go Go.Pv
theorem jai {g:Hist'}(a:WG g=false):errH g=4:=by unfold errH;rw[a];rfl
end Go.Pv.T
namespace Go.Pv.T
open Go Go.Pv Go.Sort
def arr {α:Type}(f:α->List V) (d:Array α):List V:=d.toList.flatMap f
theorem jwz {α:Type}{f:α->List V}{sz:Nat}(b:∀a,(f a).length=sz) (d:Array α):(arr f d).length=d.size*sz:=by unfold arr;rw[j3 b,aL]
theorem Qd {α:Type}{f:α->List V}{sz:Nat}(b:∀a,(f a).length=sz) (a:α):∀ (l:List α) (i:Nat),i<l.length->j2 (l.flatMap f) (i*sz) (f a)=(l.set i a).flatMap f
 | [],_,h=>by simp at h
 | x::l,0,_=>by simp[j2,b]
 | x::l,i+1,h=>by
  have c:=Qd b a l i (by simpa using h);have e:(i+1)*sz=(f x).length+i*sz:=by rw[b,da,fH]
  unfold j2 at c ⊢;rw[List.set_cons_succ,bl,bl,<- c,e,eT,aG,gE];simp
section
variable {α:Type}[Inhabited α] {f:α->List V}{sz:Nat}{d:Array α}
theorem idxA {l u n:Nat}{kk:IntKind}{x:Int}(b:0<=x) (a:x<n):JX sz (.osl l u 0 n sz) (.int kk x)=some (.ptr l u (x.toNat*sz)):=by simp[JX,b,a]
end
@[simp] theorem arrI_len (d:Array Int):(arr intC d).length=d.size:=by rw[jwz (sz:=1) j9,bz]
def At (l u:Nat) (cs:List V) (ob:ZO) (tk:Nat->Bool) (ub:Nat) (ob':ZO) (tk':Nat->Bool) (ub':Nat):Prop :=
 ob' l=some ⟨u,.cells cs⟩/\(∀key,key≠l->(∀m,ub<=m->key≠2*m+1)->ob' key=ob key)/\tk'=tk/\ub<=ub'
theorem jec {st:St}{P:V × (ZO) × (Nat->Bool) × Nat->Prop}{e:Ex}(b:e=.nrm\/e=.ret) (a:st.df=[]) (h:P (.tup [],st.ob,st.tk,st.nx)):XD [] P e st:=by refine⟨_,?_,h⟩;rcases b with rfl|rfl <;> simp[endS,a]
theorem j7l {x:Int}(a:-1000000000<=x) (b:x<=1000000000):IntKind.i64.wrap x=x:=jX zO zO
theorem j5p {l u n x:Nat}{kk:IntKind}{X:Int}(a:X=(x:Nat)) (b:x<n):JX 1 (.osl l u 0 n 1) (.int kk X)=some (.ptr l u x):=by subst a;have:=idxA (sz:=1) (l:=l) (u:=u) (n:=n) (kk:=kk) (x:=(x:Int)) zO zO;simpa using this
def jsb (st:St) (d:Option Nat) (v:V) (ob:ZO) (tk:Nat->Bool):St:={ st with tm:=put st.tm d v,ob:=ob,tk:=tk }
section
variable {st:St}{d:Option Nat}{v:V}{ob:ZO}{tk:Nat->Bool}
@[simp] theorem retS_tm (e n:Nat):(jsb st (some e) v ob tk).tm n=if n=e then v else st.tm n:=by simp[jsb,put,j5]
@[simp] theorem retS_tm0 (n:Nat):(jsb st none v ob tk).tm n=st.tm n:=rfl
@[simp] theorem jin:(jsb st d v ob tk).ob=ob:=rfl
@[simp] theorem retS_tk:(jsb st d v ob tk).tk=tk:=rfl
@[simp] theorem retS_ro:(jsb st d v ob tk).ro=st.ro:=rfl
@[simp] theorem retS_nx:(jsb st d v ob tk).nx=st.nx:=rfl
@[simp] theorem retS_fb:(jsb st d v ob tk).fb=st.fb:=rfl
@[simp] theorem retS_df:(jsb st d v ob tk).df=st.df:=rfl
end
@[simp] theorem jzb (l u o:Nat):jbh (.ptr l u o)=some (.ptr l u o):=rfl
theorem jV {Yf:YF}{f:FuncId}{xs:List A}{st:St}{ub:Nat}{K:St->Nat->Prop}{d:Option Nat}{nm:Bool}{vs:List V}{P:V × (ZO) × (Nat->Bool) × Nat->Prop}(i:xs.map (eval E st.tm)=vs) (g:E.sh nm f=true)
 (j:∃r,EvS E Yf.y f vs st.ob st.tk st.ro ((st.fb+d.getD 0+1)*1024) ub r/\P r) (h:∀v c a b,P (v,c,a,b)->K (jsb st d v c a) b):j8 E Yf ⟨d,.call f xs,none,nm⟩ st ub K:=by
 obtain⟨r,e,k⟩:=j;exact jbq i g ⟨r,e,h r.1 r.2.1 r.2.2.1 r.2.2.2 k⟩
theorem jdh {st:St}{x y:Nat}{P:V × (ZO) × (Nat->Bool) × Nat->Prop}(a:st.df=[]) (h:P (.tup [st.tm x,st.tm y],st.ob,st.tk,st.nx)):XD [.t x,.t y] P .ret st:=⟨_,by simp[endS,a,jo],h⟩
theorem Xc {st:St}{x:Nat}{P:V × (ZO) × (Nat->Bool) × Nat->Prop}(a:st.df=[]) (h:P (st.tm x,st.ob,st.tk,st.nx)):XD [.t x] P .ret st:=⟨_,by simp[endS,a,jo],h⟩
theorem At.refl {l u:Nat}{cs:List V}{ob:ZO}{tk:Nat->Bool}{ub:Nat}(h:ob l=some ⟨u,.cells cs⟩):At l u cs ob tk ub ob tk ub:=⟨h,λ_ _ _=>rfl,rfl,zK⟩
theorem At.trans {l u:Nat}{cs f:List V}{ob g j:ZO}{tk i k:Nat->Bool}{ub o c n:Nat}(h:At l u cs ob tk ub g i o) (p:At l u f g i c j k n) (q:o<=c):At l u f ob tk ub j k n :=
 ⟨p.1,λe a b=>(p.2.1 e a (λm r=>b m (by have:=h.2.2.2;omega))).trans (h.2.1 e a b),p.2.2.1.trans h.2.2.1,by have:=h.2.2.2;have:=p.2.2.2;omega⟩
end Go.Pv.T
namespace Go.Pv.T
open Go Go.Pv Go.Sort
end Go.Pv.T
namespace Go.Pv.T
open Go Go.Pv Go.Sort
theorem j45 {Yf:YF}{a b:C}{st:St}{Q:Ex->St->Prop}{c:Bool}(h:∀s,s=st->kIf E Yf a b s Q c):kIf E Yf a b st Q c:=h st rfl
end Go.Pv.T
namespace Go.Pv.T
open Go Go.Pv Go.Sort
end Go.Pv.T
namespace Go.Pv.T
open Go Go.Pv Go.Sort
end Go.Pv.T
namespace Go.Pv.T
open Go Go.Pv Go.Sort
end Go.Pv.T
namespace Go.Pv.T
open Go Go.Pv Go.Sort
@[simp] theorem convV_int (k a:IntKind) (n:Int):XN k (.int a n)=some (.int k (k.wrap n)):=rfl
end Go.Pv.T
namespace Go.Pv.T
open Go Go.Pv Go.Sort
end Go.Pv.T
namespace Go.Pv.T
open Go Go.Pv Go.Sort
end Go.Pv.T
namespace Go.Pv.T
open Go Go.Pv Go.Sort
theorem sv69n {Yf:YF}{ob:ZO}{tk:Nat->Bool}{ro base ub:Nat}:∃r,EvS E Yf.y 69 [.sl none true 0 []] ob tk ro base ub r/\r.2.1=ob/\r.2.2.1=tk/\ub<=r.2.2.2 :=
 ⟨(.tup [],ob,tk,ub),jjn (m:=none) rfl rfl rfl,rfl,rfl,zK⟩
theorem jlf:∀L:List Int,(L.flatMap intC).mapM int64? = some L
 | []=>rfl
 | x::L=>by rw[bl];show(V.int .i64 x::L.flatMap intC).mapM int64? = _;simp only[bL,jlf L];rfl
theorem sv69 {Yf:YF}{l u:Nat}{L T:List Int}(hp:L.Perm T) (f:T.Pairwise (·<=·)) (j:L.length<=1000000000) {ob:ZO}{tk:Nat->Bool}{ro base ub:Nat}(e:ob l=some ⟨u,.cells (L.flatMap intC)⟩) (b:ro<=u) (_:∀m,ub<=m->l≠2*m+1) (_:ro<=ub) :
 ∃r,EvS E Yf.y 69 [.osl l u 0 L.length 1] ob tk ro base ub r/\At l u (T.flatMap intC) ob tk ub r.2.1 r.2.2.1 r.2.2.2:=by
 have g:jmj L=T:=jiq ((QT L).trans hp) (jih L) f;have c:(L.flatMap intC).length=L.length:=by rw[j3 j9,bz]
 have a:∀T:List Int,T.map (V.int .i64)=T.flatMap intC:=λT=>by induction T <;> simp_all [intC]
 refine⟨(.tup [],upd ob l (some ⟨u,.cells (T.flatMap intC)⟩),tk,ub),jjn (m:=none) rfl ?_ rfl,zS,λd h _=>by simp[JG _ _ h],rfl,zK⟩;have i:objCells ob l u=some (L.flatMap intC):=by simp[objCells,e]
 simp only[jql,jj1,jgl,jof,Wx,i,am,bz,if_true];rw[if_pos ⟨ce▸b,trivial,zO,j⟩,dt,aK zO,jlf,am,g,a];have:(T.flatMap intC).length=(L.flatMap intC).length:=by rw[j3 j9,j3 j9,hp.length_eq]
 rw[j2,eB,dl,bS zO,aS]
end Go.Pv.T
namespace Go.Pv.T
open Go Go.Pv
theorem sv237 {Yf:YF}{b:V}(d:b.cells=[b]) (c:b.leaf=true) {ob:ZO}{tk:Nat->Bool}{ro base ub:Nat}:∃r,EvS E Yf.y 237 [b] ob tk ro base ub r /\
 r.1=.fn (.func 274) [] [.ptr (2*ub+1) ub 0]/\(∀a,r.2.1 a=if a=2*ub+1 then some ⟨ub,.cells [b]⟩ else ob a)/\r.2.2.1=tk/\r.2.2.2=ub+256:=by
 refine Ja (af:=S237) rfl zQ ?_;show wpC E Yf S237.body _ (XD S237.res _);conv in (occs := *) S237=> all_goals cbv
 simp[S237,d,c];exact Xc zS ⟨zS,λa=>by simp,by simp[JD],zS⟩
def WH (ops:List Op') (key:Int):Val' × Bool:=JT key ops ops.length
theorem ev177 (nl:Bool) (ops:List Op') (H:ops.length<=1000000) (key:Int):Ev E 177 [slOf nl opC ops,.int .i64 key] (.tup [.agg (J0 (WH ops key).1),.bool (WH ops key).2]):=by
 refine jS (af:=F177) rfl ?_;conv in (occs := *) F177=> all_goals cbv
 simp[F177];refine jV (vs:=[slOf nl opC ops]) zS rfl (sv237 zS zS) ?_;rintro v F t B ⟨p,f,I,q⟩;simp only at p f I q;subst p q;simp;refine jQ λc a=>?_;have K:c.tm 3=.ptr 6 0 0:=by rw[a];simp
 have i:c.tm 4=.ptr 8 64 0:=by rw[a];simp
 have j:c.tm 5=.ptr 10 128 0:=by rw[a];simp
 have s:c.tm 9=.fn (.func 274) [] [.ptr 513 256 0]:=by rw[a];simp
 have o:c.df=[]:=by rw[a];simp
 have y:c.fb=0:=by rw[a];simp
 have m:c.ro=0:=by rw[a];simp
 have G:c.nx=512:=by rw[a];simp
 have x:c.ob 6=some ⟨0,.cells [.int .i64 key]⟩:=by rw[a];simp only[JI,jin];rw[f];simp
 have z:c.ob 8=some ⟨64,.cells [.int .i64 0,.int .i64 0]⟩:=by rw[a];simp only[JI,jin];rw[f];simp
 have k:c.ob 10=some ⟨128,.cells [.bool false]⟩:=by rw[a];simp only[JI,jin];rw[f];simp
 have J:c.ob 513=some ⟨256,.cells [slOf nl opC ops]⟩:=by rw[a];simp only[JI,jin];rw[f];simp
 clear a f;refine jyl nl ops H key 512 G zO s ⟨256,rfl,zO⟩ K i j m y x z k J ?_;intro e ob L M v b r h n w g d;have D:WH ops key=(v,b):=g;rw[D];rcases d with⟨rfl,rfl,rfl⟩|rfl;simp[i,j,objCells,r,h,m,j2,J0];refine QP (l:=1027) (u:=513) (by simp[o]) (by simp[n]) zS (J8 rfl (l:=[.agg (J0 ⟨0,0⟩),.bool false]) (by simp[jo,objCells,i,j,J0]) rfl rfl);simp;refine QP (l:=1027) (u:=513) (by simp[o]) (by simp[n]) (by simp[m]) (J8 rfl (l:=[.agg (J0 v),.bool b]) (by simp[jo,objCells,i,j,r,h,J0]) rfl rfl)
def Jz (h:Hist') (i:Int):Bool × List Op':=if WG h && (decide (0<=i) && decide (i<h.ts.length)) then ((h.ts.getD i.toNat ⟨0,0,true,[]⟩).nl,(h.ts.getD i.toNat ⟨0,0,true,[]⟩).ops) else (true,[])
theorem ev176 {h:Hist'}(k:Small h) (i:Int):Ev E 176 [.agg (histC h),.int .i64 i] (slOf (Jz h i).1 opC (Jz h i).2):=by
 have f:=jrv k;have l:=k.ts;refine jS (af:=F176) rfl ?_;obtain⟨R,a⟩:∃R,Jz h i=R:=⟨_,rfl⟩;rw[a];unfold Jz at a;conv in (occs := *) F176=> all_goals cbv
 simp[F176,histC,objCells];refine jJ f (by simp[histC]) rfl (by simp[histC]) ?_;cases b:WG h;rw[jai b];rw[b]at a;subst a;simp;exact j4 rfl (by simp[slOf]) rfl;rw[b]at a;rw[W1 b];by_cases c:i<0;rw[if_neg (by simp;omega)]at a;subst a;simp[c];exact j4 rfl (by simp[slOf]) rfl;by_cases g:(h.ts.length:Int)<=i;rw[if_neg (by simp;omega)]at a;subst a;simp[c,g,objCells];exact j4 rfl (by simp[slOf]) rfl;rw[if_pos (by simp;omega)]at a;obtain⟨j,rfl⟩:∃j:Nat,i=j:=⟨i.toNat,zO⟩;have d:j<h.ts.length:=zO;have e:(h.ts.flatMap js)[j*3+2]? = some (slOf (h.ts[j]).nl opC (h.ts[j]).ops):=by rw[jU jA h.ts d (by decide:2<3)];rfl
 rw[aZ,X4 d]at a;subst a;simp[c,g,objCells,d,j7 jA,e];exact j4 rfl zS rfl
theorem jt6 {h:Hist'}(b:Small h) (i:Int):(Jz h i).2.length<=1000:=by unfold Jz;split;rename_i c;simp only[ai,decide_eq_true_eq]at c;have a:i.toNat<h.ts.length:=zO;rw[X4 a];exact b.os _ (av a);simp
theorem ev116 {h:Hist'}(c:Small h) (i key:Int):Ev E 116 [.agg (histC h),.int .i64 i,.int .i64 key] (.tup [.agg (J0 (WH (Jz h i).2 key).1),.bool (WH (Jz h i).2 key).2]):=by
 have b:=ev176 c i;have a:=ev177 (Jz h i).1 (Jz h i).2 (by have:=jt6 c i;omega) key;refine jS (af:=F116) rfl ?_;generalize (Jz h i).1=nl at *;generalize (Jz h i).2=ops at *;obtain⟨R,d⟩:∃R,WH ops key=R:=⟨_,rfl⟩;rw[d]at a ⊢;conv in (occs := *) F116=> all_goals cbv
 simp[F116,histC,objCells];refine jJ b (by simp[histC]) rfl (by simp[histC]) ?_;rw[YS (show(slOf nl opC ops).plain=true from rfl)];simp;refine jJ a zS rfl zS ?_;rw[Jr (by simp[V.plain,J0])];simp[objCells,j2,J0];exact J8 zS (l:=[.agg (J0 R.1),.bool R.2]) (by simp[jo,objCells,J0]) rfl rfl
def opAt (h:Hist') (a b:Int):Option Op' :=
 if WG h && (decide (0<=a) && (decide (a<h.ts.length) && (decide (0<=b) && decide (b<((h.ts.getD a.toNat ⟨0,0,true,[]⟩).ops.length:Nat))))) then (h.ts.getD a.toNat ⟨0,0,true,[]⟩).ops[b.toNat]? else none
def op0:Op':=⟨false,0,0,0⟩
theorem ev254 {h:Hist'}(x:Small h) (a b:Int):Ev E 254 [.agg (histC h),.agg (jE (a,b))] (.tup [.agg (opC ((opAt h a b).getD op0)),.bool ((opAt h a b).any λo=>!o.w)]):=by
 have y:=jrv x;have J:=x.ts;refine jS (af:=F254) rfl ?_;obtain⟨R,c⟩:∃R,opAt h a b=R:=⟨_,rfl⟩;rw[c];unfold opAt at c;simp[F254,histC,objCells,jE];generalize u:jsc E YC (C.seq (C.draw _ _) _) (j19 _ _)=K;have d:∀s:St,j19 [.cell 4 (some 4),.t 5] (.tup [.agg (opC (R.getD op0)),.bool (R.any λo=>!o.w)]) .ret s->K .ret s:=λs h=>by rw[<- u,jo8];exact h
 refine Js y (by simp[histC]) rfl (by simp[histC]) ?_;cases n:WG h;rw[jai n];rw[n]at c;subst c;simp[objCells,j2];exact d _ (J8 zS (l:=[.agg (opC op0),.bool false]) (by simp[jo,objCells,opC,op0]) rfl rfl);rw[n]at c;rw[W1 n];by_cases k:a<0;rw[if_neg (by simp;omega)]at c;subst c;simp[k,objCells,j2];exact d _ (J8 zS (l:=[.agg (opC op0),.bool false]) (by simp[jo,objCells,opC,op0]) rfl rfl);by_cases m:(h.ts.length:Int)<=a;rw[if_neg (by simp;omega)]at c;subst c;simp[k,m,objCells,j2];exact d _ (J8 zS (l:=[.agg (opC op0),.bool false]) (by simp[jo,objCells,opC,op0]) rfl rfl);obtain⟨i,rfl⟩:∃i:Nat,a=i:=⟨a.toNat,zO⟩;have f:i<h.ts.length:=zO;rw[aZ,X4 f]at c;obtain⟨t,p⟩:∃t,h.ts[i]=t:=⟨_,rfl⟩;rw[p]at c;have S:=x.os t (p▸av f);have e:(h.ts.flatMap js)[i*3+2]? = some (slOf t.nl opC t.ops):=by rw[jU jA h.ts f (by decide:2<3),p];rfl
 by_cases q:b<0;rw[if_neg (by simp;omega)]at c;subst c;simp[k,m,q,objCells,j2];exact d _ (J8 zS (l:=[.agg (opC op0),.bool false]) (by simp[jo,objCells,opC,op0]) rfl rfl);by_cases D:(t.ops.length:Int)<=b;rw[if_neg (by simp;omega)]at c;subst c;simp[k,m,q,D,objCells,j2,f,j7 jA,e];exact d _ (J8 zS (l:=[.agg (opC op0),.bool false]) (by simp[jo,objCells,opC,op0]) rfl rfl);obtain⟨j,rfl⟩:∃j:Nat,b=j:=⟨b.toNat,zO⟩;have B:j<t.ops.length:=zO;rw[if_pos (by simp;omega),aZ,aa B]at c;obtain⟨o,z⟩:∃o,t.ops[j]=o:=⟨_,rfl⟩;rw[z]at c;subst c;have P:¬ t.ops.length<=j:=zO;have M:¬ h.ts.length<=i:=zO;have g:∀s:St,s.tm 2=.ptr 4 0 0->s.tm 3=.ptr 6 64 0->s.tm 4=.ptr 8 128 0->s.ob 4=some ⟨0,.cells (histC h)⟩->s.ob 6=some ⟨64,.cells [.int .i64 i,.int .i64 j]⟩->s.ob 8=some ⟨128,.cells [.bool false,.int .i64 0,.int .i64 0,.int .i64 0]⟩->s.df=[]->s.ro=0->s.fb=0->K .nrm s:=by intro s G I r Q H N L F O;rw[<- u,ji4];simp[G,I,Q,H,objCells,histC,f,j7 jA,e,B,j7 jL,jh jL,z,opC,j2,O,F];refine⟨by simp[X5,Qn,jap,jb6,rdOb,rdTk,lOf,Delta.wo,Delta.wt];try decide,?_⟩;simp[r,N,objCells,F,j2];refine⟨by simp[X5,Qn,jap,jb6,rdOb,rdTk,lOf,Delta.wo,Delta.wt,r];try decide,?_⟩;exact J8 (by simp[L]) (l:=[.agg (opC o),.bool !o.w]) (by simp[jo,objCells,opC,r]) rfl (by simp[j3f,opC])
 clear u;simp[k,m,q,D,objCells,f,j7 jA,e];exact g _ zS zS zS (by simp[histC]) zS zS zS zS zS
def valV (v:Val'):V:=.agg (J0 v)
def YE (g:Hist') (key i:Int):Val':=(WH (Jz g i).2 key).1
def Jo (g:Hist') (a key:Int) (W:List Int):List (Int × Val'):=(W.filter λi=>!(i == a)).map λi=>(i,YE g key i)
theorem QE {p:Txn'->Bool}{ts:List Txn'}:∀n,n<=ts.length->(∀x∈numsTo p ts n,0<=x/\x<n)/\(numsTo p ts n).Pairwise (· < ·)
 | 0,_=>by simp[numsTo]
 | n+1,h=>by have a:=QE (p:=p) (ts:=ts) n zO;have e:=JU (p:=p) (show n<ts.length by omega);rw[e];cases d:p ts[n];simp only[aj,if_false,aS];exact⟨λx b=>by have:=a.1 x b;omega,a.2⟩;simp only[if_true];refine⟨λx b=>?_,?_⟩;rcases aO.1 b with h|h;have:=a.1 x h;omega;rw[ae]at h;omega;rw[List.pairwise_append];refine⟨a.2,fB _ _,λx b y c=>?_⟩;rw[ae]at c;have:=a.1 x b;omega
theorem jzd {b:Type}{m:List (Int × b)}{k:Int}{a:b}(h:k ∉ m.map (·.1)):jjo m k a=m++[(k,a)]:=by unfold jjo;rw[mfind_none.2 h]
theorem jir {g:Hist'}{a key:Int}{W:List Int}{i:Nat}(hi:i<W.length):Jo g a key (W.take (i+1))=Jo g a key (W.take i)++(if W[i]=a then [] else [(W[i],YE g key W[i])]):=by unfold Jo;rw[ay hi,ch,bF];by_cases h:W[i]=a <;> simp[h]
theorem jko {g:Hist'}{a key:Int}{W:List Int}(d:W.Pairwise (· < ·)) {i:Nat}(hi:i<W.length):W[i] ∉ (Jo g a key (W.take i)).map (·.1):=by intro h;unfold Jo at h;rw[cU]at h;obtain⟨x,f,c⟩:=aJ.1 h;have b:=(bV.1 f).1;simp only[Function.comp]at c;obtain⟨j,e,rfl⟩:=bH b;rw[ap]at e;rw[fm]at c;have:=dX.1 d j i zO hi zO;omega
def OthR (g:Hist') (a key:Int) (W:List Int) (ob:ZO) (ub:Nat) (r:V × (ZO) × (Nat->Bool) × Nat):Prop :=
 ∃M U ver:Nat,r.1=.map (2*M+1) U/\ub<=M/\M<r.2.2.2/\ub<=U/\r.2.1 (2*M+1)=some ⟨U,.mp ver (MP valV (Jo g a key W))⟩/\(∀k,(∀m,ub<=m->k≠2*m+1)->r.2.1 k=ob k)/\ub<=r.2.2.2
theorem sv255 {Yf:YF}{g:Hist'}(S:Small g) (hm:WG g=true) (a key:Int) {ob:ZO}{tk:Nat->Bool}{ro base ub:Nat}(a0:ro<=ub) :
 ∃r,EvS E Yf.y 255 [.agg (histC g),.int .i64 a,.int .i64 key] ob tk ro base ub r/\OthR g a key (writersH g key) ob ub r:=by
 refine Ja (af:=S255) rfl zQ ?_;show wpC E Yf S255.body _ (XD S255.res _);obtain⟨vw,P,I⟩:=ev281 S hm key;obtain⟨W,O⟩:∃W,writersH g key=W:=⟨_,rfl⟩;have b0:W.length<=1000:=by have h1:=JQ (wrB key) g.ts g.ts.length;have U:=S.ts;rw[<- O];unfold writersH;omega
 have J:W.Pairwise (· < ·):=by rw[<- O];exact(QE _ zK).2
 rw[O]at I ⊢;have T:¬ 2*ub=2*(ub+64+64):=zO;have n2:¬ 2*(ub+64+64)=2*ub:=zO;conv in (occs := *) S255=> all_goals cbv
 simp[S255,histC,objCells,T];refine jJ P (by simp[histC]) rfl (by simp[histC]) ?_;obtain⟨nl,I⟩:=I;obtain⟨t,add,p⟩:=jmr (ub:=ub+64+64+64+64+64+64) I;rw[p];simp;refine jQ λe b=>?_;obtain⟨M,H⟩:∃M,M=ub+64+64:=⟨_,rfl⟩;have g1:e.tm 1=.int .i64 a:=by rw[b];simp
 have g2:e.tm 2=.int .i64 key:=by rw[b];simp
 have g3:e.tm 3=.ptr (2*ub+1) ub 0:=by rw[b];simp
 have g7:e.tm 7=.map (2*M+1) M:=by rw[b,H];simp
 have Q:e.tm 13=.sl t nl W.length (W.flatMap intC):=by rw[b];simp
 have N:e.tm 14=.int .i64 W.length:=by rw[b];simp
 have L:e.tm 15=.int .i64 0:=by rw[b];simp
 have gd:e.df=[]:=by rw[b];simp
 have gr:e.ro=ro:=by rw[b];simp
 have gn:M<e.nx:=by rw[b,H];simp
 have ph:e.ob (2*ub+1)=some ⟨ub,.cells (histC g)⟩:=by rw[b];simp[T,histC]
 have pm:e.ob (2*M+1)=some ⟨M,.mp 0 []⟩:=by rw[b,H];simp
 have pf:∀k,(∀m,ub<=m->k≠2*m+1)->e.ob k=ob k:=by intro k D;have h1:=D ub zO;have U:=D (ub+64+64) zO;rw[b];simp[h1,U]
 clear b p;have b5:ub<M:=zO;clear H T n2;refine j6 [(9,9),(15,31)] W.length (λi s=>s.tm 15=.int .i64 i/\M<s.nx/\s.ob (2*ub+1)=some ⟨ub,.cells (histC g)⟩/\(∀k,(∀m,ub<=m->k≠2*m+1)->s.ob k=ob k)/\∃ver,s.ob (2*M+1)=some ⟨M,.mp ver (MP valV (Jo g a key (W.take i)))⟩) rfl rfl
  ⟨by simp[L],gn,ph,pf,0,by simp[pm,Jo,MP]⟩ ?_
 rintro i s hi ⟨n,hn,oh,of,ver,om⟩ f;have Z:=(f.t 1 zS).trans g1;have f2:=(f.t 2 zS).trans g2;have f3:=(f.t 3 zS).trans g3;have X:=(f.t 7 zS).trans g7;have G:=(f.t 13 zS).trans Q;have q:=(f.t 14 zS).trans N;have fd:=f.d.trans gd;have fr:=f.r.trans gr;clear f;by_cases c:i<W.length;have hw:=jZ c zO;obtain⟨x,hx⟩:∃x,W[i]=x:=⟨_,rfl⟩;have hI:JX 1 (.sl t nl W.length (W.flatMap intC)) (.int .i64 (i:Int))=some (.eptr (W.flatMap intC) i):=by simp[JX,c,j3 j9]
 have w:∀ob,QI ob none (.eptr (W.flatMap intC) i)=some (.int .i64 x):=λob=>by have h:=jU j9 W c (by decide:0<1);rw[hx,bz,bj]at h;rw[jcn];simpa[Xi,intC] using h
 have j:=jir (g:=g) (a:=a) (key:=key) c;have z:=jko (g:=g) (a:=a) (key:=key) J c;rw[hx]at j z;by_cases o:x=a;rw[if_pos o,aS]at j;subst o;simp[n,G,q,c,hI,w,Z,hw];exact⟨zO,oh,of,ver,by rw[j];exact om⟩;rw[if_neg o]at j;have F:(x != a)=true:=by simpa using o
 have B:=ev116 S x key;simp[n,G,q,c,hI,w,Z,F,f2,f3,oh,objCells,X,histC];refine jJ B (by simp[histC]) rfl (by simp[histC]) ?_;rw[Jr (by simp[V.plain,J0])];have b6:valV (WH (Jz g x).2 key).1=valV (YE g key x):=rfl;simp;refine jbp (f:=valV) (a:=YE g key x) (ver:=ver) (l:=2*M+1) (u:=M) (k:=x) (Jo g a key (W.take i)) zS zS (by simp[valV,YE,J0]) (by simpa using om) (by simp[fr];omega) ?_;rw[jzd z,<- j];have nM:¬ 2*ub+1=2*M+1:=zO;have K:¬ 2*ub=2*M:=zO;simp[n,hw,K,oh,histC];refine⟨c,zO,λk D=>?_⟩;have:=D M zO;rw[if_neg this];exact of k D;have:i=W.length:=zO;subst this;rw[bh]at om;simp[n,q,X];exact Xc (by simp[fd]) ⟨M,M,ver,zS,zO,by simp;omega,zO,by simpa using om,by simpa using of,by simp;omega⟩
section
variable {E:Env}{Yf:YF}{st:St}{ub:Nat}{K:St->Nat->Prop}{d:Option Nat}{nm:Bool}
theorem jnf {x:A}{l u ver:Nat}{es:List (V × V)}(e:eval E st.tm x=.map l u) (a:st.ob l=some ⟨u,.mp ver es⟩)
 (h:WR K st d ub { v:=.iter (jH d nm st.fb ub) ub,obs:=[(jH d nm st.fb ub,⟨ub,.miter l u ver es none⟩)] }):j8 E Yf ⟨d,.range false x,none,nm⟩ st ub K:=by
 rw[jN _ rfl rfl];have c:jn st.ob l u=some es:=by simp[jn,a]
 have b:jq st.ob l=ver:=by simp[jq,a]
 simp only[aop,e,c,b,am,Jj,jM,Jx];exact h
theorem jkl {l u l' u' ver:Nat}{δ:Delta}:∀ {es c:List (V × V)},δ∈jkm l u l' u' ver c es->∃a k v b,es=a++(k,v)::b/\δ = { v:=.tup [.bool true,k,v],obs:=[(l,⟨u,.miter l' u' ver (c++a++b) (some (k,v))⟩)] }
 | [],_,h=>by simp[jkm]at h
 | (k,v)::r,c,h=>by rw[jkm,br]at h;rcases h with h|h;exact⟨[],k,v,r,rfl,by rw[h];simp⟩;obtain⟨a,i,g,b,e,f⟩:=jkl h;exact⟨(k,v)::a,i,g,b,by rw[e];rfl,by rw[f];simp⟩
theorem jrk {x:A}{l u l' u' ver:Nat}{left es:List (V × V)}{f:Option (V × V)}(i:eval E st.tm x=.iter l u) (h:st.ob l=some ⟨u,.miter l' u' ver left f⟩) (j:st.ob l'=some ⟨u',.mp ver es⟩) (g:st.ro<=u)
 (q:left=[]->jal K st d ub (.tup [.bool false]))
 (t:∀a k v b,left=a++(k,v)::b->WR K st d ub { v:=.tup [.bool true,k,v],obs:=[(l,⟨u,.miter l' u' ver (a++b) (some (k,v))⟩)] }):j8 E Yf ⟨d,.nextMap x,none,nm⟩ st ub K:=by
 have m:(jn st.ob l' u').isSome=true:=by simp[jn,j]
 have n:jq st.ob l'=ver:=by simp[jq,j]
 simp only[j8,wanted,jk,jB];cases left with
 | nil=>refine⟨[{ v:=.tup [.bool false] }],?_,?_⟩;simp only[jm7,i,h];rw[if_pos ⟨ce▸g,trivial,m,n⟩];intro s c;rw[ae]at c;subst c;have:=q rfl;rw[jar];exact this
 | cons p r=>refine⟨jkm l u l' u' ver [] (p::r),?_,?_⟩;simp only[jm7,i,h];rw[if_pos ⟨ce▸g,trivial,m,n⟩];intro s c;obtain⟨a,k,v,b,e,o⟩:=jkl c;subst o;exact t a k v b e
theorem jzz {x:A}{l u l' u' ver:Nat}{left es:List (V × V)}{k v:V}(f:eval E st.tm x=.iter l u) (b:st.ob l=some ⟨u,.miter l' u' ver left (some (k,v))⟩) (a:st.ob l'=some ⟨u',.mp ver es⟩)
 (h:jal K st d ub (.tup [k,v])):j8 E Yf ⟨d,.entry x,none,nm⟩ st ub K:=by
 have c:(jn st.ob l' u').isSome=true:=by simp[jn,a]
 have e:jq st.ob l'=ver:=by simp[jq,a]
 rw[jN _ rfl rfl];simp only[aop,f,b];rw[if_pos ⟨trivial,c,e⟩,WU,jar];exact h
end
def IntsO (ob:ZO) (p:Nat->Prop) (l:List Int) (v:V):Prop :=
 (l=[]/\v=.sl none true 0 [])\/(l≠[]/\∃u,v=.osl (2*u+1) u 0 l.length 1/\ob (2*u+1)=some ⟨u,.cells (l.flatMap intC)⟩/\p u)
theorem IntsO.frame {ob ob':ZO}{p b:Nat->Prop}{l:List Int}{v:V}(h:IntsO ob p l v) (c:∀u,p u->ob' (2*u+1)=ob (2*u+1)) (f:∀u,p u->b u):IntsO ob' b l v:=by rcases h with h|⟨g,u,e,i,a⟩;exact Or.inl h;exact Or.inr ⟨g,u,e,(c u a).trans i,f u a⟩
theorem jgf (st:St) (d:Option Nat) (v:V) (l:Nat) (o:Obj') (kl:List Nat) (k:Nat):(st.app d { v:=v,obs:=[(l,o)],kill:=kl }).ob k=if k=l then some o else if kl.any (Nat.beq k) then none else st.ob k:=by simp[St.app,JS,j5]
theorem jjh (st:St) (d:Option Nat) (v:V) (l:Nat) (o:Obj') (kl:List Nat) (k:Nat) (h:k ∉ kl):(st.app d { v:=v,obs:=[(l,o)],kill:=kl }).ob k=if k=l then some o else st.ob k:=by
 rw[jgf];have:(kl.any (Nat.beq k))=false:=by rw[dQ];intro x b a;exact h (bm a▸b)
 rw[this];rfl
theorem jg1 (st:St) (k:Nat):∀l:List Int,(l.flatMap intC).mapM (JH st (k+1))=some (l.flatMap intC)
 | []=>rfl
 | a::l=>by show((V.int .i64 a)::l.flatMap intC).mapM _=_;rw[bL,jg1 st k l];rfl
def ji8 (T:List Int):V:=if T.isEmpty then .sl none true 0 [] else .sl (some (0,1)) false T.length (T.flatMap intC)
theorem WE (T:List Int):j1j T (ji8 T):=by
 cases T with
 | nil=>exact⟨true,none,rfl,zS⟩
 | cons a T=>exact⟨false,some (0,1),rfl,zS⟩
theorem WJ {st:St}{p:Nat->Prop}{n:Nat}{T:List Int}{v:V}(g:st.df=[]) (m:st.tm n=v) (h:IntsO st.ob p T v) (j:∀u,p u->st.ro<=u):j19 [.t n] (ji8 T) .ret st:=by
 show jas [.t n] (.ret,st)=some (ji8 T);rcases h with⟨rfl,rfl⟩|⟨b,u,rfl,l,o⟩;exact j4 g (by rw[m];rfl) rfl;have a:objCells st.ob (2*u+1) u=some (T.flatMap intC):=by simp[objCells,l]
 have f:(T.flatMap intC).length=T.length:=by rw[j3 j9];omega
 have c:T.isEmpty=false:=by cases T with|nil=>exact absurd rfl b|cons=>rfl
 have e:0<T.length:=dy.2 b;have w:JH st 6 (.osl (2*u+1) u 0 T.length 1)=some (.sl none false T.length (T.flatMap intC)):=by show((objCells st.ob (2*u+1) u).bind λcs=>if Nat.ble st.ro u=true/\0+T.length*1<=cs.length then (((cs.drop 0).take (T.length*1)).mapM (JH st 5)).map λi=>V.sl none false T.length i else none)=_;rw[a,am];rw[if_pos ⟨ce▸j u o,zO⟩];rw[dt,bz,aK zO,jg1];rfl
 have q:jm st true 0 (.osl (2*u+1) u 0 T.length 1)=some (.sl (some (0,1)) false T.length (T.flatMap intC)):=by
  simp only[jm,w,am,a,aU];have s:(true && Nat.beq 0 0 && Nat.blt 0 T.length && Nat.beq (T.length*1) (T.flatMap intC).length)=true:=by rw[f,bz,cI,cI];simp;exact e
  rw[s];rfl
 have k:XS st true 0 (.osl (2*u+1) u 0 T.length 1)=some (.sl (some (0,1)) false T.length (T.flatMap intC)):=q;have r:[ARes.t n].mapM (jo st)=some [.osl (2*u+1) u 0 T.length 1]:=by simp[jo,m]
 simp only[jas,YJ g,YD g,if_true,r,am,Yd];have x:nodup ([V.osl (2*u+1) u 0 T.length 1].flatMap V.toks)=true:=rfl;rw[x];simp only[JK,k,am,aU];rw[ji8,c];rfl
theorem Qb {E:Env}{Yf:YF}{st:St}{ub:Nat}{K:St->Nat->Prop}{d:Option Nat}{p:Nat->Prop}{l:List Int}{z:Int}{v:V}{s x:A}{X uX:Nat}(f:eval E st.tm s=v) (o:IntsO st.ob p l v) (n:eval E st.tm x=.osl X uX 0 1 1) (m:st.ob X=some ⟨uX,.cells [.int .i64 z]⟩) (b:∀u,p u->st.ro<=u) (q:l.length<=1000)
 (h:∀g:List Nat,(∀k∈g,∃u,p u/\k=2*u+1)->WR K st d ub { v:=.osl (2*ub+1) ub 0 (l++[z]).length 1,obs:=[(2*ub+1,⟨ub,.cells ((l++[z]).flatMap intC)⟩)],kill:=g }) :
 j8 E Yf ⟨d,.append true 1 8 s x,none,true⟩ st ub K:=by
 have a:slCells st.ob 1 (eval E st.tm x)=some [.int .i64 z]:=by rw[n];simp[slCells,objCells,m]
 rcases o with⟨rfl,rfl⟩|⟨j,u,rfl,c,e⟩;refine XJ f a zS zQ rfl zS zS ?_;simpa[intC,jH] using h [] zS;have i:(l.flatMap intC).length=l.length:=by rw[j3 j9];omega
 refine XU (cs:=l.flatMap intC) f a c zS (b u e) zO zQ rfl (by simp;omega) (by simp;omega) ?_;have:=h [2*u+1] (by simp;exact⟨u,e,rfl⟩);rw[bz,aK zO];simpa[intC,jH] using this
def Qo (o:Op') (v:Val'):Bool:=o.v.kind == 2 || (v.kind == o.v.kind && v.n == o.v.n)
def JA (o:Op'):List Int:=if o.v.kind=1 then [] else [-1]
def ofL (g:Hist') (a:Int) (o:Op'):List Int:=JA o++(writersH g o.key).filter λi=>!(i == a) && Qo o (YE g o.key i)
def ofH (g:Hist') (a b:Int):List Int:=match opAt g a b with
 | some o=>if o.w then [] else ofL g a o
 | none=>[]
theorem jp5 (g:Hist') (k:Int):(writersH g k).Pairwise (· < ·)/\∀x∈writersH g k,0<=x:=by have:=QE (p:=wrB k) (ts:=g.ts) g.ts.length zK;exact⟨this.2,λx a=>(this.1 x a).1⟩
theorem jra (g:Hist') (a:Int) (o:Op'):(ofL g a o).Pairwise (·<=·):=by have h:=jp5 g o.key;unfold ofL JA;rw[List.pairwise_append];refine⟨?_,?_,?_⟩;split <;> simp;exact((h.1.imp (λh=>Int.le_of_lt h)).filter _);intro x b y c;have d:=h.2 y (bV.1 c).1;split at b;cases b;rw[ae]at b;omega
theorem jeg (g:Hist') (k:Int):(writersH g k).length<=g.ts.length:=by unfold writersH;exact JQ (wrB k) g.ts g.ts.length
theorem j4h {g:Hist'}(c:g.ts.length<=40) (a:Int) (o:Op'):(ofL g a o).length<=41:=by unfold ofL JA;rw[au];have b:=bD (λi=>!(i == a) && Qo o (YE g o.key i)) (writersH g o.key);have d:=jeg g o.key;split <;> simp <;> omega
theorem juy {g:Hist'}(a:WG g=true):g.ts.length<=40:=by unfold WG YM at a;simp only[ai,decide_eq_true_eq]at a;exact a.1.2.2.2.2
def Y0 (o:Op') (P:List (Int × Val')):List Int:=(P.filter λp=>Qo o p.2).map (·.1)
theorem jmx {g:Hist'}{a:Int}{o:Op'}{P:List (Int × Val')}(h:P.Perm (Jo g a o.key (writersH g o.key))):(JA o++Y0 o P).Perm (ofL g a o):=by
 unfold ofL;refine List.Perm.append_left _ ?_;have b:(Y0 o P).Perm (Y0 o (Jo g a o.key (writersH g o.key))):=(h.filter _).map _;refine b.trans ?_;have e:Y0 o (Jo g a o.key (writersH g o.key))=(writersH g o.key).filter λi=>!(i == a) && Qo o (YE g o.key i):=by unfold Y0 Jo;rw[List.filter_map,cU,List.filter_filter];have:((λx:Int × Val'=>x.1) ∘ λi=>(i,YE g o.key i))=id:=rfl;rw[this,List.map_id];congr 1;funext i;simp only[Function.comp,fX]
 rw[e]
theorem j1k {m:List (Int × Val')}{A B:List (V × V)}{k v:V}(h:MP valV m=A++(k,v)::B):∃b p a,m=b++p::a/\A=MP valV b/\B=MP valV a/\k=.int .i64 p.1/\v=valV p.2:=by unfold MP at h;obtain⟨b,C,d,i,e⟩:=List.map_eq_append_iff.1 h;obtain⟨p,a,g,c,f⟩:=List.map_eq_cons_iff.1 e;subst g;have:=Prod.mk.inj c;exact⟨b,p,a,d,i.symm,f.symm,this.1.symm,this.2.symm⟩
theorem j21 (a b:List (Int × Val')):MP valV a++MP valV b=MP valV (a++b):=by simp[MP]
theorem j16 {x:Nat}(h:640<=x):¬ 2*x=1152:=zO
theorem ev217 {g:Hist'}(hs:Small g) (a b:Int):Ev E 217 [.agg (histC g),.agg (jE (a,b))] (ji8 (ofH g a b)):=by
 have T:=ev254 hs a b;refine jS (af:=F217) rfl ?_;unfold ofH;cases S:opAt g a b with
 | none=>rw[S]at T;simp[F217,histC,objCells,jE];refine jJ T (by simp[histC,jE]) rfl (by simp[histC,jE]) ?_;rw[Jr (by simp[V.plain,opC])];simp[j2,opC,op0,objCells];exact WJ (p:=λ_=>True) zS rfl (Or.inl ⟨rfl,zS⟩) zS
 | some o=>
  rw[S]at T;simp only[cw,Option.any_some]at T;have c0:WG g=true:=by unfold opAt at S;cases hm:WG g;rw[hm]at S;cases S;rfl
  have g8:=juy c0;simp[F217,histC,objCells,jE];refine jJ T (by simp[histC,jE]) rfl (by simp[histC,jE]) ?_;rw[Jr (by simp[V.plain,opC])];cases hw:o.w
  ·simp[j2,opC,objCells];generalize hK:jsc E YC _ (j19 _ _)=K;have b8:∀ (s:St) (v:V),s.tm 2=.ptr 1 0 0->s.tm 3=.ptr 129 64 0->s.tm 5=.ptr 1153 576 0->s.ob 1=some ⟨0,.cells (histC g)⟩->s.ob 129=some ⟨64,.cells [.int .i64 a,.int .i64 b]⟩->s.ob 1153=some ⟨576,.cells (opC o)⟩ ->
    s.tm 7=v->IntsO s.ob (λu=>640<=u/\u<s.nx) (JA o) v->s.df=[]->s.ro=0->640<=s.nx->K .nrm s:=by
    intro s v h2 h3 h5 o1 o3 o5 h7 hv hd hr hn
    rw[<- hK]
    clear hK
    simp[h2,h3,h5,o1,o3,o5,objCells,opC,histC]
    refine jV (vs:=[.agg (histC g),.int .i64 a,.int .i64 o.key]) (by simp[histC]) rfl (sv255 hs c0 a o.key (by simp[hr])) ?_
    rintro w d8 g1 c ⟨M,U,ver,e1,e2,e3,e4,e5,e6,e7⟩
    simp only at e1 e3 e5 e6 e7
    subst e1
    simp
    refine jnf (l:=2*M+1) (u:=U) (ver:=ver) zS (by simpa using e5) ?_
    simp
    refine jQ λx j=>?_
    have b9:640<=c:=by first|omega|(simp at e7;omega)
    have h1:640<=M:=by first|omega|(simp at e2;omega)
    obtain⟨D,Q⟩:∃l,Jo g a o.key (writersH g o.key)=l:=⟨_,rfl⟩
    rw[Q]at e5 j
    have c4:∀k,(∀m,s.nx<=m->k≠2*m+1)->d8 k=s.ob k:=λk hk=>(e6 k (λm hm=>hk m (by first|omega|(simp at hm;omega)))).trans zS
    have g9:s.nx<=M:=by first|omega|(simp at e2;omega)
    have g5:x.tm 5=.ptr 1153 576 0:=by rw[j];simp[h5]
    have g7:x.tm 7=v:=by rw[j];simp[h7]
    have g0:x.tm 31=.iter (2*c+1) c:=by rw[j];simp
    have gd:x.df=[]:=by rw[j];simp[hd]
    have gr:x.ro=0:=by rw[j];simp[hr]
    have gn:c<x.nx:=by rw[j];simp
    have gf:∀k,k≠2*c+1->x.ob k=d8 k:=by intro k hk;rw[j];simp[hk]
    have pi:x.ob (2*c+1)=some ⟨c,.miter (2*M+1) U ver (MP valV D) none⟩:=by rw[j];simp
    have pm:x.ob (2*M+1)=some ⟨U,.mp ver (MP valV D)⟩:=(gf _ zO).trans e5
    have p5:x.ob 1153=some ⟨576,.cells (opC o)⟩:=(gf _ zO).trans ((c4 _ (λm hm=>by omega)).trans o5)
    have pv:IntsO x.ob (λu=>640<=u/\u≠M/\u≠c/\u<x.nx) (JA o++Y0 o []) v:=by rw[show Y0 o []=[] from rfl,aS];refine hv.frame (λu y=>?_) (λu y=>⟨y.1,zO,by first|omega|(simp at e7;omega),by first|omega|(simp at e7;omega)⟩);exact(gf _ (by first|omega|(simp at e7;omega))).trans (c4 _ (λm hm=>by omega))
    clear j e6 e5 c4
    obtain⟨J,hJ⟩:∃J:Nat->St->Prop,J=λn s=>∃ (P m':List (Int × Val')) (v:V) (b6:Option (V × V)),n=m'.length/\(P++m').Perm D/\s.tm 7=v/\IntsO s.ob (λu=>640<=u/\u≠M/\u≠c/\u<s.nx) (JA o++Y0 o P) v /\
     s.ob (2*c+1)=some ⟨c,.miter (2*M+1) U ver (MP valV m') b6⟩/\s.ob (2*M+1)=some ⟨U,.mp ver (MP valV D)⟩/\s.ob 1153=some ⟨576,.cells (opC o)⟩/\c<s.nx:=⟨_,rfl⟩
    refine Xs (n:=D.length) [(7,9),(32,50)] J rfl rfl (by rw[hJ];exact⟨[],D,v,none,rfl,zS,g7,pv,pi,pm,p5,gn⟩) ?_
    clear h7 hv g7 pv pi pm p5 gn v
    intro n s d7 f
    rw[hJ]at d7
    obtain⟨P,m',v,b6,rfl,G,h7,hv,oi,om,a0,f4⟩:=d7
    have f5:s.tm 5=.ptr 1153 576 0:=by rw[f.t 5 zS];exact g5
    have d9:s.tm 31=.iter (2*c+1) c:=by rw[f.t 31 zS];exact g0
    have fd:s.df=[]:=by rw[f.d];exact gd
    have fr:s.ro=0:=by rw[f.r];exact gr
    clear f
    have d0:(P++m').length<=40:=by rw[G.length_eq,<- Q];unfold Jo;rw[bC];have:=bD (λi=>!(i == a)) (writersH g o.key);have:=jeg g o.key;omega
    rw[au]at d0
    have g6:(Y0 o P).length<=P.length:=by unfold Y0;rw[bC];exact bD _ _
    have h0:(JA o).length<=1:=by unfold JA;split <;> simp
    simp
    refine jrk (l:=2*c+1) (u:=c) (l':=2*M+1) (u':=U) (ver:=ver) (es:=MP valV D) (left:=MP valV m') (by simp[d9]) oi om (by simp[fr]) ?_ ?_
    ·intro b7;have f1:m'=[]:=by unfold MP at b7;exact fU.1 b7
     subst f1;rw[aS]at G;have I:=jmx (g:=g) (a:=a) (o:=o) (P:=P) (by rw[Q];exact G);have d4:=I.length_eq;simp[h7];rcases hv with⟨d5,rfl⟩|⟨e8,u,rfl,f7,y⟩;rw[d5]at I;have hT:ofL g a o=[]:=List.perm_nil.1 I.symm;refine jV (vs:=[.sl none true 0 []]) zS rfl sv69n ?_;rintro w e9 f3 f8 ⟨q1,q2,q3⟩;simp[h7];exact WJ (p:=λ_=>True) (by simp[fd]) rfl (Or.inl ⟨hT,zS⟩) (by simp[fr]);refine jV (vs:=[.osl (2*u+1) u 0 (JA o++Y0 o P).length 1]) zS rfl (sv69 I (jra g a o) (by rw[au];omega) (by simpa using f7) (by simp[fr]) (λm hm=>by have:=y.2.2.2;first|omega|(simp at hm;omega)) (by simp[fr])) ?_;rintro w e9 f3 f8 e0;simp only at e0;simp[h7];refine WJ (p:=λ_=>True) (by simp[fd]) rfl (Or.inr ⟨?_,u,?_,by simpa using e0.1,trivial⟩) (by simp[fr]);intro hT;rw[hT]at I;exact e8 (List.perm_nil.1 I);rw[<- d4];simp
    ·intro A k w B f9;obtain⟨A',q,B',rfl,rfl,rfl,rfl,rfl⟩:=j1k f9;have H:((P++[q])++(A'++B')).Perm D:=by refine List.Perm.trans ?_ G;rw[aY];exact List.Perm.append_left _ (by simpa using List.perm_middle.symm)
     have nM:¬ 2*M+1=2*c+1:=zO;simp;refine jzz (l:=2*c+1) (u:=c) (l':=2*M+1) (u':=U) (ver:=ver) (es:=MP valV D) (left:=MP valV A'++MP valV B') (k:=.int .i64 q.1) (v:=valV q.2) (by simp[d9]) zS (by simp[show ¬ 2*M=2*c by omega,om]) ?_;have n5:¬ 1153=2*c+1:=zO;simp[valV,J0,j2,fr,objCells];generalize c9:jsc E YC (C.cond _ _ _) _=K2;have O:∀ (F:St) (N:Bool),N=Qo o q.2->F.tm 46=.bool N->F.tm 7=v->F.tm 8=.int .i64 q.1->IntsO F.ob (λu=>640<=u/\u≠M/\u≠c/\u<F.nx) (JA o++Y0 o P) v ->
      F.ob (2*c+1)=some ⟨c,.miter (2*M+1) U ver (MP valV (A'++B')) (some (.int .i64 q.1,valV q.2))⟩->F.ob (2*M+1)=some ⟨U,.mp ver (MP valV D)⟩->F.ob 1153=some ⟨576,.cells (opC o)⟩->c<F.nx->F.df=[]->F.ro=0->K2 .nrm F:=by
      intro F N c7 c6 h7 h8 hv oi om o5 hn hd hr
      rw[<- c9]
      have L:Y0 o (P++[q])=Y0 o P++(if N then [q.1] else []):=by unfold Y0;rw[ch,bF,c7];cases hf:Qo o q.2 <;> simp[hf]
      have h4:(A'++B').length<(A'++q::B').length:=zS
      cases N
      ·simp only[aj,if_false,aS]at L;simp[c6];exact⟨(A'++B').length,zL,by rw[hJ];exact⟨P++[q],A'++B',v,some (.int .i64 q.1,valV q.2),rfl,H,by simp[h7],by rw[L];exact hv.frame (λu _=>by simp) (λu y=>⟨y.1,y.2.1,y.2.2.1,by have:=y.2.2.2;first|omega|(simp;omega)⟩),by simp[oi],by simp[om],by simp[o5],by first|omega|(simp;omega)⟩⟩
      ·simp only[if_true]at L;simp[c6,h7,h8];refine ja (cs:=[.int .i64 q.1]) (by simp[j2]) rfl rfl ?_;simp;refine Qb (p:=λu=>640<=u/\u≠M/\u≠c/\u<F.nx) (l:=JA o++Y0 o P) (z:=q.1) (v:=v) (X:=2*(F.nx+64+64)+1) (uX:=F.nx+64+64) zS (hv.frame (λu y=>?_) (λ_ h=>h)) zS zS (by simp[hr]) (by rw[au];simp at d0;omega) (λkl c5=>?_);have:¬ 2*u=2*(F.nx+64+64):=by have:=y.2.2.2;omega
       simp[this];have nk:∀z:Nat,(∀u,640<=u->u≠M->u≠c->z≠2*u+1)->z ∉ kl:=λz hz hm=>by obtain⟨u,y,e⟩:=c5 z hm;exact hz u y.1 y.2.1 y.2.2.1 e
       have k1:=nk (2*c+1) (λu _ _ h e=>h zO);have k2:=nk (2*M+1) (λu _ h _ e=>h zO);have k3:=nk 1153 (λu h _ _ e=>by omega);obtain⟨Z,hZ⟩:∃Z,F.nx+64+64+64=Z:=⟨_,rfl⟩;have d1:¬ 2*c+1=2*Z+1:=zO;have d2:¬ 2*M+1=2*Z+1:=zO;have d3:¬ 1153=2*Z+1:=zO;have b1:¬ 2*c+1=2*(F.nx+64+64)+1:=zO;have b2:¬ 2*M+1=2*(F.nx+64+64)+1:=zO;have b3:¬ 1153=2*(F.nx+64+64)+1:=zO;have g4:∀X:Prop,X->X:=λ_ h=>h;simp only[hZ];simp;refine⟨(A'++B').length,zL,?_⟩;rw[hJ];refine⟨P++[q],A'++B',.osl (2*Z+1) Z 0 (JA o++Y0 o (P++[q])).length 1,some (.int .i64 q.1,valV q.2),rfl,H,by simp[L],Or.inr ⟨by rw[L];simp,Z,rfl,?_,zO,zO,zO,?_⟩,?_,?_,?_,?_⟩;simp only[JI,Ya];rw[jgf,if_pos rfl,L];simp
       ·first|omega|(simp;done)|(simp;omega)
       simp only[JI,Ya];rw[jjh _ _ _ _ _ _ _ k1,if_neg d1];simp only[X6,Ya,if_neg b1];exact oi;simp only[JI,Ya];rw[jjh _ _ _ _ _ _ _ k2,if_neg d2];simp only[X6,Ya,if_neg b2];exact om;simp only[JI,Ya];rw[jjh _ _ _ _ _ _ _ k3,if_neg d3];simp only[X6,Ya,if_neg b3];exact o5
       ·first|omega|(simp;done)|(simp;omega)
     clear c9;have c1:¬ 2*c=2*(s.nx+64+64+64+64+64):=zO;have c2:¬ 2*M=2*(s.nx+64+64+64+64+64):=zO;have c3:¬ 2*M=2*c:=zO;have f6:640<=s.nx+64+64+64+64+64:=bG (bG b9 (gc f4)) (by simp[aG]);have nq:=j16 f6;have b5:=j16 b9;cases b0:(o.v.kind == 2);simp[f5,a0,objCells,opC,n5,nq,b0];refine O _ (q.2.kind == o.v.kind && q.2.n == o.v.n) (by unfold Qo;rw[b0];rfl) zS (by simp[h7]) zS (hv.frame (λu y=>?_) (λu y=>⟨y.1,y.2.1,y.2.2.1,by have:=y.2.2.2;first|omega|(simp;omega)⟩)) (by simp[c1,j21,valV,J0]) (by simp[c2,c3,om]) (by simp[nq,b5,a0,opC]) (by first|omega|(simp;omega)) (by simp[fd]) (by simp[fr]);have a1:¬ 2*u=2*(s.nx+64+64+64+64+64):=by have:=y.2.2.2;omega
     have a2:¬ 2*u=2*c:=by have:=y.2.2.1;omega
     simp[a1,a2];simp[f5,a0,objCells,opC,n5,nq,b0];refine O _ true (by unfold Qo;rw[b0];rfl) zS (by simp[h7]) zS (hv.frame (λu y=>?_) (λu y=>⟨y.1,y.2.1,y.2.2.1,by have:=y.2.2.2;first|omega|(simp;omega)⟩)) (by simp[c1,j21,valV,J0]) (by simp[c2,c3,om]) (by simp[nq,b5,a0,opC]) (by first|omega|(simp;omega)) (by simp[fd]) (by simp[fr]);have a1:¬ 2*u=2*(s.nx+64+64+64+64+64):=by have:=y.2.2.2;omega
     have a2:¬ 2*u=2*c:=by have:=y.2.2.1;omega
     simp[a1,a2]
   clear hK;refine j45 λx j=>?_;have g2:x.tm 2=.ptr 1 0 0:=by rw[j];simp
   have g3:x.tm 3=.ptr 129 64 0:=by rw[j];simp
   have g5:x.tm 5=.ptr 1153 576 0:=by rw[j];simp
   have g7:x.tm 7=.sl none true 0 []:=by rw[j];simp
   have p1:x.ob 1=some ⟨0,.cells (histC g)⟩:=by rw[j];simp[histC]
   have p3:x.ob 129=some ⟨64,.cells [.int .i64 a,.int .i64 b]⟩:=by rw[j];simp
   have p5:x.ob 1153=some ⟨576,.cells (opC o)⟩:=by rw[j];simp[opC,hw]
   have gd:x.df=[]:=by rw[j];simp
   have gr:x.ro=0:=by rw[j];simp
   have gn:640<=x.nx:=by rw[j];simp
   clear j;cases c8:(o.v.kind != 1);have hk:o.v.kind=1:=by simpa using c8
   simp;exact b8 _ _ g2 g3 g5 p1 p3 p5 g7 (Or.inl ⟨by simp[JA,hk],rfl⟩) gd gr gn;have hk:¬ o.v.kind=1:=by simpa using c8
   simp[g7];refine ja (cs:=[.int .i64 (-1)]) (by simp[j2]) rfl rfl ?_;simp;refine Qb (p:=λ_=>False) (l:=[]) (z:=-1) (v:=.sl none true 0 []) (X:=2*(x.nx+64)+1) (uX:=x.nx+64) zS (Or.inl ⟨rfl,rfl⟩) zS zS (λ_ h=>h.elim) zS (λkl c5=>?_);have d6:kl=[]:=by
    cases kl with
    | nil=>rfl
    | cons k _=>obtain⟨_,h,_⟩:=c5 k zS;exact h.elim
   subst d6;have n1:¬ 1=2*(x.nx+64+64)+1:=zO;have f0:¬ 1=2*(x.nx+64)+1:=zO;have n3:¬ 129=2*(x.nx+64+64)+1:=zO;have f2:¬ 129=2*(x.nx+64)+1:=zO;have n5:¬ 1153=2*(x.nx+64+64)+1:=zO;have b5:¬ 1153=2*(x.nx+64)+1:=zO;simp;refine b8 _ (.osl (2*(x.nx+64+64)+1) (x.nx+64+64) 0 1 1) (by simp[g2]) (by simp[g3]) (by simp[g5]) ?_ ?_ ?_ zS (Or.inr ⟨by simp[JA,hk],x.nx+64+64,by simp[JA,hk],by simp[JA,hk,intC],zO,zS⟩) (by simp[gd]) (by simp[gr]) (by simp;omega);simp only[JI,Ya,X6,if_neg n1,if_neg f0];exact p1;simp only[JI,Ya,X6,if_neg n3,if_neg f2];exact p3;simp only[JI,Ya,X6,if_neg n5,if_neg b5];exact p5
  simp[j2,opC,objCells];exact WJ (p:=λ_=>True) zS rfl (Or.inl ⟨rfl,zS⟩) zS
theorem ev175 {h:Hist'}(s:Small h) (a b:Int):Ev E 175 [.agg (histC h),.agg (jE (a,b))] (.bool ((opAt h a b).any λo=>!o.w)):=by
 have m:=ev58 s;have y:=s.ts;refine jS (af:=F175) rfl ?_;obtain⟨R,c⟩:∃R,opAt h a b=R:=⟨_,rfl⟩;rw[c];unfold opAt at c;simp[F175,histC,objCells,jE];refine Js m (by simp[histC]) rfl (by simp[histC]) ?_;cases k:WG h;rw[jai k];rw[k]at c;subst c;simp;exact j4 zS zS rfl;rw[k]at c;rw[W1 k];by_cases x:a<0;have d:¬ 0<=a:=zO;rw[if_neg (by simp;omega)]at c;subst c;simp[d,objCells];exact j4 zS zS rfl;have d:0<=a:=zO;by_cases D:(h.ts.length:Int)<=a;have f:¬ (a<(h.ts.length:Int)):=zO;rw[if_neg (by simp;omega)]at c;subst c;simp[d,f,objCells];exact j4 zS zS rfl;have f:a<(h.ts.length:Int):=zO;by_cases B:b<0;have l:¬ 0<=b:=zO;rw[if_neg (by simp;omega)]at c;subst c;simp[d,f,l,objCells];exact j4 zS zS rfl;have l:0<=b:=zO;obtain⟨i,rfl⟩:∃i:Nat,a=i:=⟨a.toNat,zO⟩;have g:i<h.ts.length:=zO;rw[aZ,X4 g]at c;obtain⟨t,r⟩:∃t,h.ts[i]=t:=⟨_,rfl⟩;rw[r]at c;have e:(h.ts.flatMap js)[i*3+2]? = some (slOf t.nl opC t.ops):=by rw[jU jA h.ts g (by decide:2<3),r];rfl
 by_cases u:(t.ops.length:Int)<=b;have p:¬ (b<(t.ops.length:Int)):=zO;rw[if_neg (by simp;omega)]at c;subst c;simp[d,f,l,p,objCells,g,j7 jA,e];exact j4 zS zS rfl;have p:b<(t.ops.length:Int):=zO;obtain⟨j,rfl⟩:∃j:Nat,b=j:=⟨b.toNat,zO⟩;have n:j<t.ops.length:=zO;rw[if_pos (by simp;omega),aZ,aa n]at c;obtain⟨o,q⟩:∃o,t.ops[j]=o:=⟨_,rfl⟩;rw[q]at c;subst c;have z:(t.ops.flatMap opC)[j*4]? = some (.bool o.w):=by have:=jU jL t.ops n (by decide:0<4);rw[bj,q]at this;rw[this];rfl
 simp[d,f,l,p,objCells,g,j7 jA,e];simp[n,j7 jL,z];exact j4 zS zS rfl
def js8 (o:Op') (a:Int) (i:Nat) (t:Txn'):Bool:=(!((i:Int) == a) && (t.f != 2)) && ((JT o.key t.ops t.ops.length).2 && Qo o (JT o.key t.ops t.ops.length).1)
def Xz (ts:List Txn') (a:Int) (o:Op'):Nat->List Int
 | 0=>JA o
 | i+1=>Xz ts a o i++(match ts[i]? with|some t=>if js8 o a i t then [(i:Int)] else []|none=>[])
theorem jha {ts:List Txn'}{a:Int}{o:Op'}{i:Nat}(h:i<ts.length):Xz ts a o (i+1)=Xz ts a o i++(if js8 o a i ts[i] then [(i:Int)] else []):=by simp[Xz,aa h]
theorem jkg (ts:List Txn') (a:Int) (o:Op'):∀i,(Xz ts a o i).length<=i+1
 | 0=>by unfold Xz JA;split <;> simp
 | i+1=>by have:=jkg ts a o i;simp only[Xz,au];split;split <;> simp <;> omega;simp;omega
theorem jrg {g:Hist'}(a:WG g=true) (key:Int) {i:Nat}(h:i<g.ts.length):YE g key i=(JT key g.ts[i].ops g.ts[i].ops.length).1:=by unfold YE WH Jz;rw[a,if_pos (by simp;omega)];simp only[aZ];rw[X4 h]
theorem joq {g:Hist'}(c:WG g=true) (a:Int) (o:Op'):∀i,i<=g.ts.length->Xz g.ts a o i=JA o++(numsTo (wrB o.key) g.ts i).filter λi=>!(i == a) && Qo o (YE g o.key i)
 | 0,_=>by simp[Xz,numsTo]
 | i+1,h=>by rw[jha zO,JU zO,ch,joq c a o i zO,aY];congr 2;have b:=ja9 o.key (g.ts[i]).ops (g.ts[i]).ops.length zK;rw[bh]at b;have d:=jrg c o.key (show i<g.ts.length by omega);unfold js8 wrB;rw[b];cases k:(g.ts[i].ops.any (wkB o.key)) <;> cases j:(g.ts[i].f != 2) <;> cases e:((i:Int) == a) <;> simp[cq,e,d]
theorem jtl {g:Hist'}(b:WG g=true) (a:Int) (o:Op'):Xz g.ts a o g.ts.length=ofL g a o:=joq b a o _ zK
theorem jbe {g:Hist'}{a b:Int}{o:Op'}(h:opAt g a b=some o):∃i j:Nat,a=i/\b=j/\∃ (hi:i<g.ts.length) (d:j<(g.ts[i]).ops.length),(g.ts[i]).ops[j]=o:=by unfold opAt at h;by_cases c:(WG g && (decide (0<=a) && (decide (a<g.ts.length) && (decide (0<=b) && decide (b<((g.ts.getD a.toNat ⟨0,0,true,[]⟩).ops.length:Nat))))))=true;rw[if_pos c]at h;simp only[ai,decide_eq_true_eq]at c;obtain⟨_,k,f,l,e⟩:=c;obtain⟨i,rfl⟩:∃i:Nat,a=i:=⟨a.toNat,zO⟩;obtain⟨j,rfl⟩:∃j:Nat,b=j:=⟨b.toNat,zO⟩;have hi:i<g.ts.length:=zO;rw[aZ,X4 hi]at h e;have d:j<(g.ts[i]).ops.length:=zO;rw[aZ,aa d]at h;exact⟨i,j,rfl,rfl,hi,d,bU h⟩;rw[if_neg c]at h;cases h
theorem ev112' {g:Hist'}(hs:Small g) (a b:Int):∃v,Ev E 112 [.agg (histC g),.agg (jE (a,b))] v/\SlR v false (ofH g a b).length ((ofH g a b).flatMap intC):=by
 have B:=ev175 hs a b;refine JZ (af:=F112) rfl zQ ?_;unfold ofH;cases z:opAt g a b with
 | none=>rw[z]at B;simp[F112,histC,jE];refine jG (cs:=[]) rfl rfl rfl ?_;simp[objCells];refine jJ B (by simp[histC,jE]) rfl (by simp[histC,jE]) ?_;simp;exact slE (t:=some (192,1)) (nl:=false) (k:=0) (cs:=[]) (λr h=>h) zS zS
 | some o=>
  rw[z]at B;simp only[Option.any_some]at B;have P:WG g=true:=by unfold opAt at z;cases hm:WG g;rw[hm]at z;cases z;rfl
  have c0:=juy P;simp[F112,histC,jE];refine jG (cs:=[]) rfl rfl rfl ?_;simp[objCells];refine jJ B (by simp[histC,jE]) rfl (by simp[histC,jE]) ?_;cases X:o.w
  ·obtain⟨i,j,rfl,rfl,hi,hj,ho⟩:=jbe z;have b8:(g.ts.flatMap js)[i*3+2]? = some (slOf (g.ts[i]).nl opC (g.ts[i]).ops):=by rw[jU jA g.ts hi (by decide:2<3)];rfl
   have b0:=λob=>jh jL ob (g.ts[i]).ops hj;rw[ho]at b0;simp[objCells,hi,hj,j7 jA,j7 jL,b8,b0];refine⟨by simp[opC],by simp[X5,Qn,jap,jb6,rdOb,rdTk,lOf,Delta.wo,Delta.wt,opC];try decide,?_⟩;simp[opC];generalize hK:jsc E YC _ (Qm _ _)=K;have O:∀ (s:St) (U:Nat) (v:V),s.tm 2=.ptr 4 0 0->s.tm 3=.ptr 6 64 0->s.tm 6=.ptr 12 U 0->s.ob 4=some ⟨0,.cells (histC g)⟩->s.ob 6=some ⟨64,.cells [.int .i64 i,.int .i64 j]⟩->s.ob 12=some ⟨U,.cells (opC o)⟩ ->
    s.tm 5=v->GrowT s.tk s.nx intC 1 (JA o) v->s.df=[]->s.ro=0->s.fb=0->K .nrm s:=by
    intro s U v D h3 h6 o4 L M Z hv hd hr hb
    rw[<- hK]
    clear hK B z
    simp
    generalize (i:Int)=a at *
    refine j6 [(5,5),(7,9),(34,90)] g.ts.length (λn s=>s.tm 7=.int .i64 n/\s.ob 4=some ⟨0,.cells (histC g)⟩/\s.ob 6=some ⟨64,.cells [.int .i64 a,.int .i64 j]⟩/\s.ob 12=some ⟨U,.cells (opC o)⟩/\GrowT s.tk s.nx intC 1 (Xz g.ts a o n) (s.tm 5)) rfl rfl ⟨zS,by simp[o4],by simp[L],by simp[M],by rw[Xz];simp[Z];exact hv.mono (λ_ _ h=>h) zO⟩ ?_
    rintro n F hn ⟨I,o4,L,M,S⟩ f
    have T:F.tm 2=.ptr 4 0 0:=by rw[f.t 2 zS];simp[D]
    have f3:F.tm 3=.ptr 6 64 0:=by rw[f.t 3 zS];simp[h3]
    have f6:F.tm 6=.ptr 12 U 0:=by rw[f.t 6 zS];simp[h6]
    have fd:F.df=[]:=by rw[f.d];simp[hd]
    have fb:F.fb=0:=by rw[f.b];simp[hb]
    have fr:F.ro=0:=by rw[f.r];simp[hr]
    clear f
    by_cases c:n<g.ts.length
    ·have X:=jZ c zO;have J:=jha (a:=a) (o:=o) c;obtain⟨t,ht⟩:∃t,g.ts[n]=t:=⟨_,rfl⟩;rw[ht]at J;have b9:=hs.os t (ht▸av c);have c1:=jkg g.ts a o n;have H:(g.ts.flatMap js)[n*3+1]? = some (.int .i64 t.f):=by rw[jU jA g.ts c (by decide:1<3),ht];rfl
     have b7:(g.ts.flatMap js)[n*3+2]? = some (slOf t.nl opC t.ops):=by rw[jU jA g.ts c (by decide:2<3),ht];rfl
     have b5:=ev84 t zO o.key;simp[I,T,f6,o4,M,objCells,histC,opC,c,j7 jA,jh jA,ht,b7];refine Js b5 (by simp[js]) rfl (by simp[js]) ?_;rw[Jr (by simp[V.plain,J0])];have m:js8 o a n t=((!((n:Int) == a) && (t.f != 2)) && ((JT o.key t.ops t.ops.length).2 && Qo o (JT o.key t.ops t.ops.length).1)):=rfl;generalize (JT o.key t.ops t.ops.length).1=rv at *;generalize (JT o.key t.ops t.ops.length).2=rb at *;have p:F.ob 4=some ⟨0,.cells [slOf g.sn Jv g.ss,slOf g.kn Jv g.ks,slOf g.tn js g.ts]⟩:=o4;have e:F.ob 12=some ⟨U,.cells [.bool o.w,.int .i64 o.key,.int .i64 o.v.kind,.int .i64 o.v.n]⟩:=M;have skip:js8 o a n t=false->Xz g.ts a o (n+1)=Xz g.ts a o n:=λh=>by rw[J,h];simp
     simp[J0,objCells,fb,fr,j2,f3,L,I];refine⟨by simp[X5,Qn,jap,jb6,rdOb,rdTk,lOf,Delta.wo,Delta.wt];try decide,?_⟩;cases h1:((n:Int) != a);have y:((n:Int) == a)=true:=by simpa[bne] using h1
     have x:=skip (by rw[m,y];rfl);simp[p,L,e,I,X,c];rw[x];exact S.mono (λu _ h=>by simpa[JD] using h) zO;have y:((n:Int) == a)=false:=by simpa[bne] using h1
     cases D:(t.f != 2);have x:=skip (by rw[m,y,D];rfl);simp[D,T,p,L,e,I,X,objCells,c,j7 jA,H];rw[x];exact S.mono (λu _ h=>by simpa[JD] using h) zO;cases rb;have x:=skip (by rw[m,y,D];rfl);simp[D,T,p,L,e,I,X,objCells,c,j7 jA,H];rw[x];exact S.mono (λu _ h=>by simpa[JD] using h) zO;cases h4:(o.v.kind == 2);cases Z:(rv.kind == o.v.kind && rv.n == o.v.n);have x:=skip (by rw[m,y,D];unfold Qo;rw[h4,Z];rfl);simp[D,h4,Z,T,f6,p,L,e,I,X,objCells,c,j7 jA,H];rw[x];exact S.mono (λu _ h=>by simpa[JD] using h) zO;have Q:Qo o rv=true:=by unfold Qo;rw[h4,Z];rfl
     have q:Xz g.ts a o (n+1)=Xz g.ts a o n++[(n:Int)]:=by rw[J,m];simp[y,D,Q]
     simp[D,h4,Z,T,f6,p,e,I,objCells,c,j7 jA,H];refine jG (cs:=[.int .i64 n]) (by simp[j2]) rfl rfl ?_;simp;refine YT (f:=intC) (hi:=F.nx) (l:=Xz g.ts a o n) (a:=(n:Int)) (v:=F.tm 5) (S.mono (λu _ h=>by simp[ji,h]) zK) zS (by simp[slCells,intC]) j9 zQ rfl zO zO (λa0 N=>?_);have G:(Xz g.ts a o n).length+1=(Xz g.ts a o (n+1)).length:=by rw[q];simp
     rw[<- q,G];simp[I,X,p,L,e];exact⟨c,_,rfl,by simp[ji],zO⟩;have Q:Qo o rv=true:=by unfold Qo;rw[h4];rfl
     have q:Xz g.ts a o (n+1)=Xz g.ts a o n++[(n:Int)]:=by rw[J,m];simp[y,D,Q]
     simp[D,h4,T,f6,p,e,I,objCells,c,j7 jA,H];refine jG (cs:=[.int .i64 n]) (by simp[j2]) rfl rfl ?_;simp;refine YT (f:=intC) (hi:=F.nx) (l:=Xz g.ts a o n) (a:=(n:Int)) (v:=F.tm 5) (S.mono (λu _ h=>by simp[ji,h]) zK) zS (by simp[slCells,intC]) j9 zQ rfl zO zO (λa0 N=>?_);have G:(Xz g.ts a o n).length+1=(Xz g.ts a o (n+1)).length:=by rw[q];simp
     rw[<- q,G];simp[I,X,p,L,e];exact⟨c,_,rfl,by simp[ji],zO⟩
    ·have:n=g.ts.length:=zO;subst this;obtain⟨u,hv,_,_⟩:=S;simp[I,T,o4,objCells,histC];rw[<- jtl P];exact slE (t:=some (u,1)) (nl:=false) (k:=(Xz g.ts a o g.ts.length).length) (cs:=(Xz g.ts a o g.ts.length).flatMap intC) (λr h=>h) (by simp[fd]) (by simp[hv])
   by_cases hk:o.v.kind=1;simp[hk];refine O _ 1280 _ zS zS zS (by simp[histC]) zS (by simp[opC,hk]) (by simp;rfl) ?_ zS zS zS;exact⟨192,by simp[JA,hk],by simp[ji],zS⟩;have b6:(o.v.kind != 1)=true:=by simp[hk]
   simp[b6];refine jG (cs:=[.int .i64 (-1)]) (by simp[j2]) rfl rfl ?_;simp;refine YT (f:=intC) (hi:=576) (l:=[]) (a:=-1) (v:=.sl (some (192,1)) false 0 []) ⟨192,rfl,by simp[ji],zO⟩ zS (by simp[slCells,intC]) j9 zQ rfl zS zS (λa0 N=>?_);simp;refine O _ 1280 _ zS zS zS (by simp[histC]) zS (by simp[opC]) (by simp;rfl) ?_ zS zS zS;exact⟨1792,by simp[JA,hk],by simp[ji],zS⟩
  simp;exact slE (t:=some (192,1)) (nl:=false) (k:=0) (cs:=[]) (λr h=>h) zS zS
theorem Ji {ub:Nat}{v:V}{nl:Bool}{n:Nat}{cs:List V}{K:Delta->Prop}(a:SlR v nl n cs) (h:∀t add,K { v:=.sl t nl n cs,add:=add }):wpD (Xf ub v) K:=by obtain⟨t,add,b⟩:=jmr (ub:=ub) a;rw[b,jM];exact h t add
theorem len0 {a:Type}(l:List a):((l.length:Int) == 0)=l.isEmpty:=by cases l <;> simp <;> omega
theorem len0b {b a:Type}(l:List b) (m:List a):((l.length:Int)+m.length == 0)=(l.isEmpty && m.isEmpty):=by cases l <;> cases m <;> simp <;> omega
def Jb (g:Hist'):Bool:=WG g && ((Xg g).isEmpty && (jcm g).isEmpty)
theorem ev52 {g:Hist'}(i:Small g):Ev E 52 [.agg (histC g)] (.bool (Jb g)):=by
 have a:=jrv i;refine jS (af:=F52) rfl ?_;unfold Jb;cases b:WG g
 ·conv in (occs := *) F52=> all_goals cbv
  simp[F52,histC,objCells];refine jJ a (by simp[histC]) rfl (by simp[histC]) ?_;have c:(errH g == 0)=false:=by simp[jai b]
  simp[c];exact j4 zS zS rfl
 ·rw[W1 b]at a;obtain⟨n,j,l,h⟩:=ev104 i b;obtain⟨m,f,k,e⟩:=ev105 i b;conv in (occs := *) F52=> all_goals cbv
  simp[F52,histC,objCells];refine jJ a (by simp[histC]) rfl (by simp[histC]) ?_;simp[objCells];refine jJ j (by simp[histC]) rfl (by simp[histC]) ?_;refine Ji h λt add=>?_;have d:=len0 (Xg g);cases c:(Xg g).isEmpty;rw[c]at d;simp[d];exact j4 zS zS rfl;rw[c]at d;simp[d,objCells];refine jJ f (by simp[histC]) rfl (by simp[histC]) ?_;refine Ji e λt add=>?_;simp;exact j4 zS (by simp[len0]) rfl
theorem ev21 {g:Hist'}(b:Small g):Ev E 21 [.agg (histC g)] (.bool (Jb g)):=by
 have a:=ev58 b;refine jS (af:=F21) rfl ?_;unfold Jb;cases f:WG g;simp[F21,histC,objCells];refine Js a (by simp[histC]) rfl (by simp[histC]) ?_;have k:(errH g == 0)=false:=by simp[jai f]
 simp[k];exact j4 zS zS rfl;rw[W1 f]at a;have e:=ev59 g (by have:=b.ts;omega);obtain⟨n,d,h,c⟩:=ev60 b;have B:=bnd_of b;have m:=B.i;have o:=B.l;have j:IntKind.i64.wrap (((Xg g).length:Int)+(jcm g).length)=((Xg g).length:Int)+(jcm g).length:=jX zO zO;simp[F21,histC,objCells];refine Js a (by simp[histC]) rfl (by simp[histC]) ?_;simp[objCells];refine Js e (by simp[histC]) rfl (by simp[histC]) ?_;rw[jdy];simp[objCells];refine Js d (by simp[histC]) rfl (by simp[histC]) ?_;refine Ji c λt add=>?_;simp[j];exact j4 zS (by simp[len0b]) rfl
theorem ev32 {a b:Bool}(l m:List Int) (D:l.length<=1000000000) (G:m.length<=1000000000):Ev E 32 [slOf a intC l,slOf b intC m] (.bool (l == m)):=by
 refine jS (af:=F32) rfl ?_;have q:∀ (l:List Int) (i:Nat) (h:i<l.length),(l.flatMap intC)[i]? = some (.int .i64 l[i]):=λl i h=>by have:=jU j9 l h (by decide:0<1);rw[bz,bj]at this;rw[this];rfl
 by_cases k:l.length=m.length
 ·conv in (occs := *) F32=> all_goals cbv
  simp[F32,k];refine j6 [(4,5),(11,40)] l.length (λi s=>s.tm 5=.int .i64 i/\l.take i=m.take i) rfl rfl ⟨zS,zS⟩ ?_;rintro i s F ⟨p,o⟩ f;have n:s.tm 0=slOf a intC l:=by rw[f.t 0 zS];simp
  have w:s.tm 1=slOf b intC m:=by rw[f.t 1 zS];simp
  have r:s.df=[]:=by rw[f.d];simp
  clear f;by_cases j:i<l.length;have y:=jZ j zO;have c:i<m.length:=zO;have x:=q l i j;have u:=q m i c;cases g:(l[i] != m[i]);have B:l[i]=m[i]:=by simpa using g
  simp[p,n,w,j,c,j7 j9,x,u,g,y];rw[ay j,ay c,o,B];have z:l[i]≠m[i]:=by simpa using g
  simp[p,n,w,j,c,j7 j9,x,u,g];refine j4 (by simp[r]) ?_ rfl;have:(l == m)=false:=by rw[beq_eq_false_iff_ne];intro e;subst e;exact z rfl
  simp[this];have:i=l.length:=zO;subst this;simp[p,n];refine j4 (by simp[r]) ?_ rfl;have:l=m:=by rw[bh,k,bh]at o;exact o
  simp[this]
 ·have g:((l.length:Int) != m.length)=true:=by simp;omega
  conv in (occs := *) F32=> all_goals cbv
  simp[F32,g];refine j4 zS ?_ rfl;have:(l == m)=false:=by rw[beq_eq_false_iff_ne];intro e;subst e;exact k rfl
  simp[this]
theorem ev62 {a:Bool}(l:List Int) (w:l.length<=1000000000) (k:Int):Ev E 62 [slOf a intC l,.int .i64 k] (.bool (l.contains k)):=by
 refine jS (af:=F62) rfl ?_;obtain⟨c,r⟩:∃c,l.contains k=c:=⟨_,rfl⟩;rw[r];conv in (occs := *) F62=> all_goals cbv
 simp[F62];refine j6 [(4,30)] l.length (λi s=>s.tm 5=.int .i64 i/\(l.drop i).contains k=c) rfl rfl ⟨zS,by simpa using r⟩ ?_;rintro i s x ⟨n,g⟩ f;have m:s.tm 0=slOf a intC l:=by rw[f.t 0 zS];simp
 have p:s.tm 1=.int .i64 k:=by rw[f.t 1 zS];simp
 have o:s.df=[]:=by rw[f.d];simp
 clear f;by_cases b:i<l.length;have u:=jZ b zO;have q:=jr l b;rw[aW b,em]at g;cases j:(l[i] == k);have h:(k == l[i])=false:=by rw[beq_eq_false_iff_ne]at j ⊢;exact λe=>j e.symm
 rw[h,cp]at g;simp[n,m,p,b,j7 j9,q,j,u];simpa using g;have h:(k == l[i])=true:=by rw[beq_iff_eq]at j ⊢;exact j.symm
 rw[h,gi]at g;simp[n,m,p,b,j7 j9,q,j];exact j4 (by simp[o]) (by rw[<- g];simp) rfl;have:i=l.length:=zO;subst this;rw[dA]at g;simp[n,m];exact j4 (by simp[o]) (by rw[<- g];simp) rfl
def jhw:List Int->Int->Nat->Int
 | [],_,_=>-1
 | x::r,k,n=>if k == x then n else jhw r k (n+1)
theorem jph (k:Int):∀ (l:List Int) (n:Nat),decide (jhw l k n<0) = !l.contains k
 | [],n=>rfl
 | x::r,n=>by rw[jhw,em];cases h:(k == x);simpa using jph k r (n+1);simp
theorem ev127 {a:Bool}(l:List Int) (q:l.length<=1000000000) (k:Int):Ev E 127 [slOf a intC l,.int .i64 k] (.int .i64 (jhw l k 0)):=by
 refine jS (af:=F127) rfl ?_;conv in (occs := *) F127=> all_goals cbv
 simp[F127];refine j6 [(4,5),(8,30)] l.length (λi s=>s.tm 8=.int .i64 i/\jhw (l.drop i) k i=jhw l k 0) rfl rfl ⟨zS,zS⟩ ?_;rintro i s r ⟨h,c⟩ f;have o:s.tm 0=slOf a intC l:=by rw[f.t 0 zS];simp
 have m:s.tm 1=.int .i64 k:=by rw[f.t 1 zS];simp
 have g:s.tm 7=.int .i64 l.length:=by rw[f.t 7 zS];simp
 have j:s.df=[]:=by rw[f.d];simp
 clear f;by_cases b:i<l.length;have p:=jZ b zO;have n:=jr l b;rw[aW b,jhw]at c;cases e:(k == l[i]);rw[e]at c;simp[h,o,m,g,b,j7 j9,n,e,p];simpa using c;rw[e]at c;simp[h,o,m,g,b,j7 j9,n,e];exact j4 (by simp[j]) (by rw[<- c];simp) rfl;have:i=l.length:=zO;subst this;rw[dA,jhw]at c;simp[h,g];exact j4 (by simp[j]) (by rw[<- c];simp) rfl
theorem Wf (l:List (Int × Int)) (ob:ZO) {i:Nat}(h:i<l.length):QI ob (some 2) (.eptr (l.flatMap jE) (i*2))=some (.agg [.int .i64 (l[i]).1,.int .i64 (l[i]).2]):=jh jT ob l h
def Jt (t:Txn'):Bool:=t.f == 1
def comH (g:Hist'):List Int:=if Jb g then numsTo Jt g.ts g.ts.length else []
theorem ev71 {g:Hist'}(D:Small g):∃v,Ev E 71 [.agg (histC g)] v/\SlR v (comH g).isEmpty (comH g).length ((comH g).flatMap intC):=by
 have j:=ev52 D;have J:=D.ts;refine JZ (af:=F71) rfl zQ ?_;unfold comH;cases q:Jb g
 ·rw[q]at j;conv in (occs := *) F71=> all_goals cbv
  simp[F71,histC,objCells];refine jJ j (by simp[histC]) rfl (by simp[histC]) ?_;simp;exact slE (t:=none) (nl:=true) (k:=0) (cs:=[]) (λr h=>h) zS zS
 rw[q]at j;conv in (occs := *) F71=> all_goals cbv
 simp[F71,histC,objCells];refine jJ j (by simp[histC]) rfl (by simp[histC]) ?_;simp[objCells];refine j6 [(3,5),(12,24)] g.ts.length (λi s=>s.tm 12=.int .i64 i/\Grow s.tk 0 s.nx intC 1 (numsTo Jt g.ts i) (s.tm 3)) rfl rfl ⟨zS,by simp[numsTo];exact Grow.nil _ _ _ _ _⟩ ?_;rintro i s hi ⟨m,B⟩ f;have x:s.tm 10=slOf g.tn js g.ts:=by rw[f.t 10 zS];simp
 have n:s.tm 11=.int .i64 g.ts.length:=by rw[f.t 11 zS];simp
 have H:s.df=[]:=by rw[f.d];simp
 have F:s.fb=0:=by rw[f.b];simp
 have fr:s.ro=0:=by rw[f.r];simp
 clear f;by_cases e:i<g.ts.length;have q:=jZ e zO;have c:=JU (p:=Jt) e;obtain⟨t,w⟩:∃t,g.ts[i]=t:=⟨_,rfl⟩;rw[w]at c;have I:=JQ Jt g.ts i;cases hi:Jt t;have o:(t.f == 1)=false:=hi;rw[hi]at c;simp only[aj,if_false,aS]at c;simp[m,x,n,e,j7 jA,jh jA,w,js,objCells,F,fr,j2,o,q];rw[c];exact B.mono (λu _ _ h=>by simpa[JD] using h) zO;have o:(t.f == 1)=true:=hi;rw[hi]at c;simp only[if_true]at c;simp[m,x,n,e,j7 jA,jh jA,w,js,objCells,F,fr,j2,o];refine jG (cs:=[.int .i64 i]) (by simp[j2]) rfl rfl ?_;simp;refine YU (f:=intC) (lo:=0) (hi:=s.nx) (l:=numsTo Jt g.ts i) (a:=(i:Int)) (v:=s.tm 3) (B.mono (λu _ _ h=>by simp[ji,h]) zK) zS (by simp[slCells,intC]) j9 zQ rfl zO zO (λK G=>?_);have z:numsTo Jt g.ts (i+1)≠[]:=by rw[c];simp
 have y:(numsTo Jt g.ts i).length+1=(numsTo Jt g.ts (i+1)).length:=by rw[c];simp
 rw[<- c,y];simp[m,q];exact⟨e,.inr ⟨z,_,rfl,by simp[ji],cL _,zO⟩⟩;have:i=g.ts.length:=zO;subst this;obtain⟨t,w⟩:=B.form;simp[m,n];exact slE (t:=t) (nl:=(numsTo Jt g.ts g.ts.length).isEmpty) (k:=(numsTo Jt g.ts g.ts.length).length) (cs:=(numsTo Jt g.ts g.ts.length).flatMap intC) (λr h=>h) (by simp[H]) (by simp[w])
theorem ev84n (t:Txn') (L:t.ops.length<=1000000) (k:Int) {n:Nat}(N:n<=t.ops.length):Ev E 84 [.agg (js t),.int .i64 n,.int .i64 k] (.tup [.agg (J0 (JT k t.ops n).1),.bool (JT k t.ops n).2]):=by
 refine jS (af:=F84) rfl ?_;conv in (occs := *) F84=> all_goals cbv
 simp[F84,js,objCells,j2];refine j6 [(9,10),(12,45)] n (λi s=>s.tm 10=.int .i64 i/\s.ob 6=some ⟨0,.cells (js t)⟩/\s.ob 12=some ⟨64,.cells [.int .i64 0,.int .i64 0]⟩/\s.ob 16=some ⟨256,.cells (J0 (JT k t.ops i).1)⟩/\s.tm 9=.bool (JT k t.ops i).2) rfl rfl
  ⟨zS,by simp[js],zS,by simp[JT,J0],by simp[JT]⟩ ?_
 rintro i s M ⟨j,y,g,h,D⟩ f;have u:s.tm 1=.int .i64 n:=by rw[f.t 1 zS];simp
 have G:s.tm 2=.int .i64 k:=by rw[f.t 2 zS];simp
 have F:s.tm 3=.ptr 6 0 0:=by rw[f.t 3 zS];simp
 have I:s.tm 6=.ptr 12 64 0:=by rw[f.t 6 zS];simp
 have H:s.tm 8=.ptr 16 256 0:=by rw[f.t 8 zS];simp
 have J:s.df=[]:=by rw[f.d];simp
 have fr:s.ro=0:=by rw[f.r];simp
 clear f;by_cases p:i<n;have a:i<t.ops.length:=zO;have z:=jZ a zO;have c:=QW (k:=k) a;obtain⟨o,x⟩:∃o,t.ops[i]=o:=⟨_,rfl⟩;rw[x]at c;have B:(t.ops.flatMap opC)[i*4]? = some (.bool o.w):=by have:=jU jL t.ops a (by decide:0<4);rw[bj,x]at this;rw[this];rfl
 have a1:(t.ops.flatMap opC)[i*4+1]? = some (.int .i64 o.key):=by rw[jU jL t.ops a (by decide:1<4),x];rfl
 have a2:∀ob,QI ob (some 2) (.eptr (t.ops.flatMap opC) (i*4+2))=some (.agg (J0 o.v)):=λob=>by
  have K:i*4+4<=t.ops.length*4:=zO;rw[jcn,QX,if_pos (by rw[j3 jL];omega)];have:=YV jL t.ops i a;rw[x]at this;have e:((t.ops.flatMap opC).drop (i*4+2)).take 2=((((t.ops.flatMap opC).drop (i*4)).take 4).drop 2):=by rw[gH,dK]
  rw[e,this];rfl
 cases b:o.w;have q:wkB k o=false:=by unfold wkB;rw[b];rfl
 rw[q]at c;simp only[aj,if_false]at c;simp[j,u,F,y,objCells,js,p,a,j7 jL,B,b,z,g,h,D];exact⟨by rw[c],by rw[c]⟩;cases m:(o.key == k);have q:wkB k o=false:=by unfold wkB;rw[b,m];rfl
 rw[q]at c;simp only[aj,if_false]at c;simp[j,u,G,F,y,objCells,js,p,a,j7 jL,B,a1,b,m,z,g,h,D];exact⟨by rw[c],by rw[c]⟩;have q:wkB k o=true:=by unfold wkB;rw[b,m];rfl
 rw[q]at c;simp only[if_true]at c;simp[j,u,G,F,H,y,objCells,js,p,a,j7 jL,B,a1,a2,b,m,z,g,h,J0,fr,j2];rw[c];simp;have:i=n:=zO;subst this;simp[j,u,H,h,objCells,D,I,g,J0,fr,j2];exact J8 (by simp[J]) (l:=[.agg (J0 (JT k t.ops i).1),.bool (JT k t.ops i).2]) (by simp[jo,objCells,I,J0]) rfl rfl
theorem ev120 {g:Hist'}(p:Small g) (a b:Int):Ev E 120 [.agg (histC g),.agg (jE (a,b))] (.bool (opAt g a b).isSome):=by
 have m:=ev58 p;have s:=p.ts;refine jS (af:=F120) rfl ?_;obtain⟨R,c⟩:∃R,opAt g a b=R:=⟨_,rfl⟩;rw[c];unfold opAt at c;simp[F120,histC,objCells,jE];refine Js m (by simp[histC]) rfl (by simp[histC]) ?_;cases k:WG g;rw[jai k];rw[k]at c;subst c;simp;exact j4 zS zS rfl;rw[k]at c;rw[W1 k];by_cases r:a<0;have d:¬ 0<=a:=zO;rw[if_neg (by simp;omega)]at c;subst c;simp[d,objCells];exact j4 zS zS rfl;have d:0<=a:=zO;by_cases x:(g.ts.length:Int)<=a;have f:¬ (a<(g.ts.length:Int)):=zO;rw[if_neg (by simp;omega)]at c;subst c;simp[d,f,objCells];exact j4 zS zS rfl;have f:a<(g.ts.length:Int):=zO;by_cases w:b<0;have l:¬ 0<=b:=zO;rw[if_neg (by simp;omega)]at c;subst c;simp[d,f,l,objCells];exact j4 zS zS rfl;have l:0<=b:=zO;obtain⟨i,rfl⟩:∃i:Nat,a=i:=⟨a.toNat,zO⟩;have h:i<g.ts.length:=zO;rw[aZ,X4 h]at c;obtain⟨t,o⟩:∃t,g.ts[i]=t:=⟨_,rfl⟩;rw[o]at c;have e:(g.ts.flatMap js)[i*3+2]? = some (slOf t.nl opC t.ops):=by rw[jU jA g.ts h (by decide:2<3),o];rfl
 by_cases q:(t.ops.length:Int)<=b;have n:¬ (b<(t.ops.length:Int)):=zO;rw[if_neg (by simp;omega)]at c;subst c;simp[d,f,l,n,objCells,h,j7 jA,e];exact j4 zS zS rfl;have n:b<(t.ops.length:Int):=zO;obtain⟨j,rfl⟩:∃j:Nat,b=j:=⟨b.toNat,zO⟩;have u:j<t.ops.length:=zO;rw[if_pos (by simp;omega),aZ,aa u]at c;subst c;simp[d,f,l,n,objCells,h,j7 jA,e];exact j4 zS zS rfl
def jq0 (g:Hist') (a b:Int):Val' × Bool:=match opAt g a b with
 | some o=>JT o.key (g.ts.getD a.toNat ⟨0,0,true,[]⟩).ops b.toNat
 | none=>(⟨0,0⟩,false)
def jbc (g:Hist') (a b:Int):Bool:=match opAt g a b with
 | some o=>!o.w && !(jq0 g a b).2
 | none=>false
theorem ev121 {g:Hist'}(m:Small g) (a b:Int):Ev E 121 [.agg (histC g),.agg (jE (a,b))] (.tup [.agg (J0 (jq0 g a b).1),.bool (jq0 g a b).2]):=by
 have c:=ev120 m a b;refine jS (af:=F121) rfl ?_;unfold jq0;cases d:opAt g a b with
 | none=>rw[d]at c;simp[F121,histC,jE,objCells];refine jJ c (by simp[histC,jE]) rfl (by simp[histC,jE]) ?_;simp[objCells,j2];exact J8 zS (l:=[.agg (J0 ⟨0,0⟩),.bool false]) (by simp[jo,objCells,J0]) rfl rfl
 | some o=>
  rw[d]at c;obtain⟨i,j,rfl,rfl,e,p,q⟩:=jbe d;have r:=m.os _ (av e);have h:=ev84n g.ts[i] zO o.key (n:=j) zO;simp only[aZ];rw[X4 e];have f:(g.ts.flatMap js)[i*3+2]? = some (slOf (g.ts[i]).nl opC (g.ts[i]).ops):=by rw[jU jA g.ts e (by decide:2<3)];rfl
  have k:((g.ts[i]).ops.flatMap opC)[j*4+1]? = some (.int .i64 o.key):=by rw[jU jL (g.ts[i]).ops p (by decide:1<4),q];rfl
  simp[F121,histC,jE,objCells];refine jJ c (by simp[histC,jE]) rfl (by simp[histC,jE]) ?_;simp[objCells,e,p,j7 jA,j7 jL,jh jA,f,k];refine Js h (by simp[js]) rfl (by simp[js]) ?_;rw[Jr (by simp[V.plain,J0])];generalize (JT o.key g.ts[i].ops j).1=rv at *;generalize (JT o.key g.ts[i].ops j).2=rb at *;simp[J0,objCells,j2];exact J8 zS (l:=[.agg [.int .i64 rv.kind,.int .i64 rv.n],.bool rb]) (by simp[jo,objCells]) rfl rfl
theorem ev74 {g:Hist'}(n:Small g) (a b:Int):Ev E 74 [.agg (histC g),.agg (jE (a,b))] (.bool (jbc g a b)):=by
 have c:=ev120 n a b;have f:=ev121 n a b;refine jS (af:=F74) rfl ?_;unfold jbc;cases d:opAt g a b with
 | none=>rw[d]at c;simp[F74,histC,jE,objCells];refine Js c (by simp[histC,jE]) rfl (by simp[histC,jE]) ?_;simp;exact j4 zS zS rfl
 | some o=>
  rw[d]at c;obtain⟨i,j,rfl,rfl,k,l,p⟩:=jbe d;have e:(g.ts.flatMap js)[i*3+2]? = some (slOf (g.ts[i]).nl opC (g.ts[i]).ops):=by rw[jU jA g.ts k (by decide:2<3)];rfl
  have h:((g.ts[i]).ops.flatMap opC)[j*4]? = some (.bool o.w):=by have:=jU jL (g.ts[i]).ops l (by decide:0<4);rw[bj,p]at this;rw[this];rfl
  simp[F74,histC,jE,objCells];refine Js c (by simp[histC,jE]) rfl (by simp[histC,jE]) ?_;generalize jq0 g (i:Int) (j:Int)=ow at *;cases m:o.w;simp[objCells,k,l,j7 jA,j7 jL,e,h,m];refine jJ f (by simp[histC,jE]) rfl (by simp[histC,jE]) ?_;rw[Jr (by simp[V.plain,J0])];simp[J0,objCells,j2];exact j4 zS zS rfl;simp[objCells,k,l,j7 jA,j7 jL,e,h,m];exact j4 zS zS rfl
theorem ev136 {g:Hist'}(H:Small g) (a b:Int):Ev E 136 [.agg (histC g),.agg (jE (a,b))] (.bool (jbc g a b)):=by
 have e:=ev176 H a;refine jS (af:=F136) rfl ?_;unfold jbc;cases c:opAt g a b with
 | none=>
  simp[F136,histC,jE,objCells];refine jJ e (by simp[histC]) rfl (by simp[histC]) ?_;rw[YS rfl,jM];have p:b<0\/((Jz g a).2.length:Int)<=b:=by unfold opAt at c;unfold Jz;by_cases d:(WG g && (decide (0<=a) && decide (a<g.ts.length)))=true;rw[if_pos d];simp only[ai,decide_eq_true_eq]at d;by_cases l:b<0;exact .inl l;by_cases G:b<((g.ts.getD a.toNat ⟨0,0,true,[]⟩).ops.length:Int);rw[if_pos (by simp only[ai,decide_eq_true_eq];exact⟨d.1,d.2.1,d.2.2,zO,G⟩)]at c;rw[List.getElem?_eq_none_iff]at c;exact absurd c zO;exact .inr (Int.not_lt.1 G);rw[if_neg d];by_cases l:b<0;exact .inl l;exact .inr (by simp;omega)
  generalize Jz g a=oo at *;by_cases d:b<0;simp[objCells,d];exact j4 zS zS rfl;have l:(oo.2.length:Int)<=b:=by rcases p with h|h;exact absurd h d;exact h
  simp[objCells,d,l];exact j4 zS zS rfl
 | some o=>
  have s:WG g=true:=by unfold opAt at c;cases K:WG g;rw[K]at c;cases c;rfl
  unfold jq0;rw[c];obtain⟨i,j,rfl,rfl,z,q,F⟩:=jbe c;simp only[aZ];rw[X4 z];have x:Jz g (i:Int)=((g.ts[i]).nl,(g.ts[i]).ops):=by unfold Jz;rw[s,if_pos (by simp;omega)];simp only[aZ];rw[X4 z]
  rw[x]at e;have L:=H.os _ (av z);have r:((g.ts[i]).ops.flatMap opC)[j*4]? = some (.bool o.w):=by have:=jU jL (g.ts[i]).ops q (by decide:0<4);rw[bj,F]at this;rw[this];rfl
  have y:((g.ts[i]).ops.flatMap opC)[j*4+1]? = some (.int .i64 o.key):=by rw[jU jL (g.ts[i]).ops q (by decide:1<4),F];rfl
  have J:decide ((j:Int)<0)=false:=zS;have N:decide (((g.ts[i]).ops.length:Int)<=j)=false:=by simp;omega
  have M:((g.ts[i]).ops.length<=j)=False:=by simp;omega
  have I:(((g.ts[i]).ops.length:Int)<=j)=False:=by simp;omega
  have f:j<=(g.ts[i]).ops.length:=zO;have B:YZ 4 none (some (.int .i64 (j:Int))) (slOf (g.ts[i]).nl opC (g.ts[i]).ops)=some (slOf (g.ts[i]).nl opC ((g.ts[i]).ops.take j)):=by
   have d:=js5 (kk:=.i64) (t:=none) (nl:=(g.ts[i]).nl) (sz:=4) (cs:=(g.ts[i]).ops.flatMap opC) (n:=(g.ts[i]).ops.length) (k:=j) f (j3 jL _);refine Eq.trans d ?_;have l:((g.ts[i]).ops.flatMap opC).take (j*4)=((g.ts[i]).ops.take j).flatMap opC:=by
    conv=>lhs;rw[<- fN j (g.ts[i]).ops,bT]
    rw[eM];rw[j3 jL,ap,cP f]
   rw[l,slOf,ap,cP f]
  have u:=ev177 (g.ts[i]).nl ((g.ts[i]).ops.take j) (by rw[ap];omega) o.key;have m:(WH ((g.ts[i]).ops.take j) o.key).2=(JT o.key (g.ts[i]).ops j).2:=by unfold WH;rw[ja9 _ _ _ zK,ja9 _ _ _ f,bh]
  simp[F136,histC,jE,objCells];refine jJ e (by simp[histC]) rfl (by simp[histC]) ?_;rw[YS rfl,jM];cases D:o.w
  ·simp[objCells,J,I,q,j7 jL,r,D];simp[B,y,q,j7 jL,objCells];refine Js u zS rfl zS ?_;rw[Jr (by simp[V.plain,J0])];rw[<- m];generalize WH ((g.ts[i]).ops.take j) o.key=lw at *;simp[J0,objCells,j2];refine⟨by simp[X5,Qn,jap,jb6,rdOb,rdTk,lOf,Delta.wo,Delta.wt];try decide,?_⟩;exact j4 zS zS rfl
  simp[objCells,J,I,q,j7 jL,r,D];exact j4 zS zS rfl
def jx (g:Hist') (i:Nat):Nat->List (Int × Int)
 | 0=>[]
 | k+1=>jx g i k++(if jbc g i k then [((i:Int),(k:Int))] else [])
def XI (g:Hist'):Nat->List (Int × Int)
 | 0=>[]
 | i+1=>XI g i++(match g.ts[i]? with|some t=>if Jt t then jx g i t.ops.length else []|none=>[])
def readH (g:Hist'):List (Int × Int):=XI g g.ts.length
theorem WC (g:Hist') (i:Nat):∀k,(jx g i k).length<=k
 | 0=>dr _
 | k+1=>by have:=WC g i k;simp only[jx,au];split <;> simp <;> omega
theorem QV {g:Hist'}(a:Small g):∀i,(XI g i).length<=i*1000
 | 0=>cL _
 | i+1=>by have:=QV a i;simp only[XI,au];rw[show(i+1)*1000=i*1000+1000 by omega];split;rename_i t b;have c:=WC g i t.ops.length;have d:=a.os t (aI b);split;omega;simp only[cC];omega;simp only[cC];omega
theorem je4 {g:Hist'}{i:Nat}(h:i<g.ts.length):XI g (i+1)=XI g i++(if Jt g.ts[i] then jx g i (g.ts[i]).ops.length else []):=by simp only[XI,aa h]
theorem ev31 {g:Hist'}(D:Small g):∃v,Ev E 31 [.agg (histC g)] v/\SlR v false (readH g).length ((readH g).flatMap jE):=by
 have a0:=D.ts;refine JZ (af:=F31) rfl zQ ?_;conv in (occs := *) F31=> all_goals cbv
 simp[F31,histC];refine jG (cs:=[]) rfl rfl rfl ?_;simp;refine j6 [(3,6),(8,44)] g.ts.length (λi s=>s.tm 4=.int .i64 i/\s.ob 2=some ⟨0,.cells (histC g)⟩/\GrowT s.tk s.nx jE 2 (XI g i) (s.tm 3)) rfl rfl ⟨zS,by simp[histC],by rw[XI];exact⟨128,zS,by simp[ji],zS⟩⟩ ?_;rintro i s hi ⟨I,J,U⟩ f;have H:s.tm 1=.ptr 2 0 0:=by rw[f.t 1 zS];simp
 have N:s.df=[]:=by rw[f.d];simp
 have Z:s.fb=0:=by rw[f.b];simp
 have fr:s.ro=0:=by rw[f.r];simp
 clear f;by_cases c:i<g.ts.length;have X:=jZ c zO;simp[I,H,J,objCells,histC,c];refine j6 [(3,3),(5,6),(15,44)] (g.ts[i]).ops.length (λk m=>m.tm 5=.int .i64 k/\m.ob 2=some ⟨0,.cells (histC g)⟩/\GrowT m.tk m.nx jE 2 (XI g i++(if Jt g.ts[i] then jx g i k else [])) (m.tm 3)) rfl rfl ⟨zS,by simp[J],by simp[jx];exact U.mono (λ_ _ h=>h) zO⟩ ?_;rintro k m hk ⟨y,n,j⟩ f;have K:m.tm 1=.ptr 2 0 0:=by rw[f.t 1 zS];simp[H]
 have M:m.tm 4=.int .i64 i:=by rw[f.t 4 zS];simp[I]
 have ed:m.df=[]:=by rw[f.d];simp[N]
 have Q:m.fb=0:=by rw[f.b];simp[Z]
 have O:m.ro=0:=by rw[f.r];simp[fr]
 clear f;have G:=ev74 D (i:Int) (k:Int);have b5:=D.os _ (av c);have B:(g.ts.flatMap js)[i*3+1]? = some (.int .i64 (g.ts[i]).f):=by rw[jU jA g.ts c (by decide:1<3)];rfl
 have w:(g.ts.flatMap js)[i*3+2]? = some (slOf (g.ts[i]).nl opC (g.ts[i]).ops):=by rw[jU jA g.ts c (by decide:2<3)];rfl
 by_cases o:k<(g.ts[i]).ops.length;have p:=jZ o zO;have x:(XI g i++(if Jt g.ts[i] then jx g i k else [])).length<=1001000:=by have h1:=QV D i;have h2:=WC g i k;have:i*1000<=1000*1000:=bc _ zO;rw[au];split;omega;simp only[cC];omega
 cases F:Jt g.ts[i];have q:((g.ts[i]).f == 1)=false:=F;rw[F]at j;simp[y,K,M,n,objCells,histC,c,j7 jA,w,B,o,j2,Q,O,q,p];simpa using j.mono (λu _ h=>by simpa[JD] using h) zO;have q:((g.ts[i]).f == 1)=true:=F;rw[F]at j x;simp only[if_true]at j x;simp[y,K,M,n,objCells,histC,c,j7 jA,w,B,o,j2,Q,O,q];refine jJ G (by simp[histC,jE]) rfl (by simp[histC,jE]) ?_;cases T:jbc g i k;simp[y,p,n,histC];have e:jx g i (k+1)=jx g i k:=by rw[jx,T];simp
 rw[e];exact⟨o,j.mono (λu _ h=>by simpa[JD] using h) zO⟩;simp[objCells];have e:XI g i++jx g i (k+1)=(XI g i++jx g i k)++[((i:Int),(k:Int))]:=by rw[jx,T,aY];simp
 refine jG (cs:=jE (i,k)) (by simp[j2,jE]) rfl rfl ?_;simp;refine YT (f:=jE) (hi:=m.nx) (l:=XI g i++jx g i k) (a:=((i:Int),(k:Int))) (v:=m.tm 3) (j.mono (λu _ h=>by simp[ji,h]) zK) zS (by simp[slCells,jE]) jT zQ rfl zO zO (λb0 P=>?_);have z:(XI g i++jx g i k).length+1=(XI g i++jx g i (k+1)).length:=by rw[e,au (bs:=[_])];rfl
 rw[<- e,z];obtain⟨L,S⟩:∃L,XI g i++jx g i (k+1)=L:=⟨_,rfl⟩;rw[S];simp[y,p,n,histC,S];exact⟨o,_,rfl,by simp[ji],zO⟩;have:k=(g.ts[i]).ops.length:=zO;subst this;simp[y,K,M,n,objCells,histC,c,j7 jA,w,X];rw[je4 c];exact j.mono (λ_ _ h=>h) zO;have:i=g.ts.length:=zO;subst this;obtain⟨u,hv,_,_⟩:=U;simp[I,H,J,objCells,histC];exact slE (t:=some (u,2)) (nl:=false) (k:=(readH g).length) (cs:=(readH g).flatMap jE) (λr h=>h) (by simp[N]) (by simp[hv,readH])
def rdOf (g:Hist') (x:Int):List (Int × Int):=jx g x.toNat (g.ts.getD x.toNat ⟨0,0,true,[]⟩).ops.length
theorem jms {g:Hist'}{i:Nat}(h:i<g.ts.length):rdOf g i=jx g i (g.ts[i]).ops.length:=by unfold rdOf;rw[aZ,X4 h]
theorem je6 {g:Hist'}:∀n,n<=g.ts.length->(numsTo Jt g.ts n).flatMap (rdOf g)=XI g n
 | 0,_=>rfl
 | n+1,h=>by rw[JU zO,je4 zO,bT,je6 n zO];cases Jt g.ts[n];rfl;simp[jms (show n<g.ts.length by omega)]
def jcg (g:Hist'):List (Int × Int):=if Jb g then readH g else []
theorem jqu (g:Hist'):(comH g).flatMap (rdOf g)=jcg g:=by unfold comH jcg;split;exact je6 _ zK;rfl
theorem j6d {g:Hist'}:∀x∈comH g,0<=x/\x<g.ts.length:=by unfold comH;split;exact(QE (p:=Jt) (ts:=g.ts) _ zK).1;simp
theorem j09 (g:Hist'):(comH g).length<=g.ts.length:=by unfold comH;split;exact JQ _ _ _;simp
theorem jen {g:Hist'}(a:Small g):∀ (l:List Int),(∀x∈l,0<=x/\x<g.ts.length)->(l.flatMap (rdOf g)).length<=l.length*1000
 | [],_=>cL _
 | x::l,h=>by obtain⟨f,d⟩:=h x (aP ..);obtain⟨i,rfl⟩:∃i:Nat,x=i:=⟨x.toNat,zO⟩;have b:i<g.ts.length:=zO;have:=jen a l λy c=>h y (bf _ c);have j:=WC g i (g.ts[i]).ops.length;have e:=a.os _ (av b);rw[bl,au,jms b,bo,da];omega
theorem ev86 {g:Hist'}(J:Small g):∃v,Ev E 86 [.agg (histC g)] v/\SlR v (jcg g).isEmpty (jcg g).length ((jcg g).flatMap jE):=by
 have c0:=J.ts;obtain⟨vc,T,U⟩:=ev71 J;have c1:=j09 g;have q:=j6d (g:=g);rw[<- jqu];generalize comH g=C at *;obtain⟨L,hL⟩:∃L,C.flatMap (rdOf g)=L:=⟨_,rfl⟩;rw[hL];refine JZ (af:=F86) rfl zQ ?_;conv in (occs := *) F86=> all_goals cbv
 simp[F86,histC,objCells];refine jJ T (by simp[histC]) rfl (by simp[histC]) ?_;refine Ji U λtc b5=>?_;simp;refine j6 [(3,7),(11,36)] C.length (λi s=>s.tm 11=.int .i64 i/\s.ob 2=some ⟨0,.cells (histC g)⟩/\Grow s.tk 0 s.nx jE 2 ((C.take i).flatMap (rdOf g)) (s.tm 3)) rfl rfl ⟨zS,by simp[histC],by simp;exact Grow.nil _ _ _ _ _⟩ ?_;rintro i s hi ⟨z,o2,O⟩ f;have f1:s.tm 1=.ptr 2 0 0:=by rw[f.t 1 zS];simp
 have f9:s.tm 9=.sl tc C.isEmpty C.length (C.flatMap intC):=by rw[f.t 9 zS];simp
 have N:s.tm 10=.int .i64 C.length:=by rw[f.t 10 zS];simp
 have fd:s.df=[]:=by rw[f.d];simp
 have fb:s.fb=0:=by rw[f.b];simp
 have fr:s.ro=0:=by rw[f.r];simp
 clear f;by_cases m:i<C.length;have hw:=jZ m zO;obtain⟨x,G⟩:∃x,C[i]=x:=⟨_,rfl⟩;obtain⟨x1,x2⟩:=q x (G▸av m);obtain⟨j,rfl⟩:∃j:Nat,x=j:=⟨x.toNat,zO⟩;have Q:j<g.ts.length:=zO;have I:=jr C m;rw[G]at I;have S:(g.ts.flatMap js)[j*3+2]? = some (slOf (g.ts[j]).nl opC (g.ts[j]).ops):=by rw[jU jA g.ts Q (by decide:2<3)];rfl
 have B:JX 1 (.sl tc C.isEmpty C.length (C.flatMap intC)) (.int .i64 (i:Int))=some (.eptr (C.flatMap intC) (i*1)):=by simp only[Yh,j3 j9];rw[if_pos (by simp;omega)];rfl
 rw[bz]at B;simp[z,f1,f9,N,o2,objCells,histC,m,B,I,Q,j7 jA,S];obtain⟨P,X⟩:∃P,(C.take i).flatMap (rdOf g)=P:=⟨_,rfl⟩;have b6:P.length<=1000000:=by have h1:=jen J (C.take i) (λx G=>q x (dT G));rw[X,ap]at h1;have:min i C.length*1000<=1000*1000:=bc _ zO;omega
 have w:(C.take (i+1)).flatMap (rdOf g)=P++jx g j (g.ts[j]).ops.length:=by rw[ay m,bT,X,G];simp[jms Q]
 rw[X]at O;refine j6 [(3,3),(6,7),(22,35)] (g.ts[j]).ops.length (λk e=>e.tm 22=.int .i64 k/\e.ob 2=some ⟨0,.cells (histC g)⟩/\Grow e.tk 0 e.nx jE 2 (P++jx g j k) (e.tm 3)) rfl rfl ⟨zS,by simp[o2],by simp[jx];exact O.mono (λ_ _ _ h=>h) zO⟩ ?_;rintro k e hk ⟨p,o,y⟩ f;have e1:e.tm 1=.ptr 2 0 0:=by rw[f.t 1 zS];simp[f1]
 have e5:e.tm 5=.int .i64 j:=by rw[f.t 5 zS];simp
 have Z:e.tm 11=.int .i64 i:=by rw[f.t 11 zS];simp[z]
 have K:e.tm 21=.int .i64 (g.ts[j]).ops.length:=by rw[f.t 21 zS];simp
 have ed:e.df=[]:=by rw[f.d];simp[fd]
 have eb:e.fb=0:=by rw[f.b];simp[fb]
 have er:e.ro=0:=by rw[f.r];simp[fr]
 clear f;have a0:=ev136 J (j:Int) (k:Int);have b9:=J.os _ (av Q);have b8:=WC g j k;by_cases n:k<(g.ts[j]).ops.length;have H:=jZ n zO;simp[p,e1,e5,K,o,objCells,histC,n,j2,eb,er];refine jJ a0 (by simp[histC,jE]) rfl (by simp[histC,jE]) ?_;cases ho:jbc g j k;have c:jx g j (k+1)=jx g j k:=by rw[jx,ho];simp
 simp[p,H,o,histC];rw[c];exact⟨n,y.mono (λu _ _ h=>by simpa[JD] using h) zO⟩;have c:P++jx g j (k+1)=(P++jx g j k)++[((j:Int),(k:Int))]:=by rw[jx,ho,aY];simp
 simp[objCells];refine jG (cs:=jE (j,k)) (by simp[j2,jE]) rfl rfl ?_;simp;refine YU (f:=jE) (lo:=0) (hi:=e.nx) (l:=P++jx g j k) (a:=((j:Int),(k:Int))) (v:=e.tm 3) (y.mono (λu _ _ h=>by simp[ji,h]) zK) zS (by simp[slCells,jE]) jT zQ rfl (by rw[au];omega) (by rw[au];omega) (λb7 b0=>?_);have F:(P++jx g j k).length+1=(P++jx g j (k+1)).length:=by rw[c,au (bs:=[_])];rfl
 have D:P++jx g j (k+1)≠[]:=by rw[c];simp
 rw[<- c,F];obtain⟨M,hM⟩:∃M,P++jx g j (k+1)=M:=⟨_,rfl⟩;rw[hM]at D ⊢;simp[p,H,o,histC,hM];exact⟨n,.inr ⟨D,_,rfl,by simp[ji],cL _,zO⟩⟩;have:k=(g.ts[j]).ops.length:=zO;subst this;simp[p,Z,K,o,histC,hw];rw[w];exact⟨m,y.mono (λ_ _ _ h=>h) zO⟩;have:i=C.length:=zO;subst this;rw[bh,hL]at O;obtain⟨t,ht⟩:=O.form;simp[z,N];exact slE (t:=t) (nl:=L.isEmpty) (k:=L.length) (cs:=L.flatMap jE) (λr h=>h) (by simp[fd]) (by simp[ht])
section
variable {E:Env}{st:St}{ub:Nat}{K:List FP->St->Prop}{d:Option Nat}{nm:Bool}{r:List AOpr}
theorem jrp {i:Type}{f:i->List V}{sz b hi:Nat}{l:List i}{a:i}{v:V}{s x:A}(p:GrowT st.tk hi f sz l v) (o:eval E st.tm s=v) (q:slCells st.ob sz (eval E st.tm x)=some (f a)) (c:∀a,(f a).length=sz) (m:0<sz)
 (hp:(f a).all V.pureLeaf=true) (n:(l.length+1)*b<=140737488355328) (j:l.length+1<=140737488355328)
 (h:∀del:Option Nat,(∀u,del=some u->u<hi)->Wy E r K (eval E st.tm) (.append false sz b s x) st d ub { v:=.sl (some (ub,sz)) false (l.length+1) ((l++[a]).flatMap f),del:=del,add:=[ub] }):jF E (⟨d,.append false sz b s x,none,nm⟩::r) st ub K:=by
 have g:f a≠[]:=λe=>by have:=c a;rw[e]at this;simp at this;omega
 have k:(f a).length / sz=1:=by rw[c];exact gY m
 rw[Jq rfl];obtain⟨u,rfl,t,w⟩:=p;simp only[aop,o,q,am,if_neg g,bZ,aj,if_false];rw[if_pos ⟨by rw[j3 c],m,hp,by rw[k];exact n,by rw[k];exact j⟩,if_pos (by simp[t]),jM,k];have:=h (some u) (λy e=>by cases e;exact w);simpa using this
end
def jfi (x:Bool × List Int):List V:=[.sl none x.1 x.2.length (x.2.flatMap intC)]
@[simp] theorem jbk (x:Bool × List Int):(jfi x).length=1:=rfl
end Go.Pv.T
namespace Go.Pv.T
open Go Go.Pv
end Go.Pv.T
namespace Go.Pv.T
open Go Go.Pv
end Go.Pv.T
namespace Go.Pv.T
open Go Go.Pv
end Go.Pv.T
namespace Go.Pv.T
open Go Go.Pv
end Go.Pv.T
namespace Go.Pv.T
open Go Go.Pv
theorem jvi {Yf:YF}{f:FuncId}{q:A}{xs:List A}{st:St}{ub:Nat}{K:St->Nat->Prop}{d:Option Nat}{nm:Bool}{first captured vs:List V}{P:V × (ZO) × (Nat->Bool) × Nat->Prop}
 (i:eval E st.tm q=.fn (.func f) first captured) (k:first++xs.map (eval E st.tm)++captured=vs) (g:E.sh nm f=true)
 (l:∃r,EvS E Yf.y f vs st.ob st.tk st.ro ((st.fb+d.getD 0+1)*1024) ub r/\P r) (h:∀v c a b,P (v,c,a,b)->K (jsb st d v c a) b):j8 E Yf ⟨d,.callV q xs,none,nm⟩ st ub K:=by
 have e:jB E nm (eval E st.tm) (.callV q xs)=some (f,vs):=by simp only[jB,i,g,k,cZ,bZ,aj,if_false]
 simp only[j8,wanted,jk,i,e];obtain⟨r,j,m⟩:=l;exact .inl ⟨g,EvS.list ⟨r,j,h r.1 r.2.1 r.2.2.1 r.2.2.2 m⟩⟩
def OwnI (ob:ZO) (v:V) (l:List Int):Prop:=(v=.sl none true 0 []/\l=[])\/∃L u cs,v=.osl L u 0 l.length 1/\ob L=some ⟨u,.cells cs⟩/\l.length<=cs.length/\cs.take l.length=l.flatMap intC
theorem OwnI.at {l:List Int}{cs:List V}(b:cs.take l.length=l.flatMap intC) {i:Nat}(h:i<l.length):cs[i]? = some (.int .i64 l[i]):=by have a:=jr l h;rw[<- b,bi h]at a;exact a
theorem jpc {E:Env}{Yf:YF}{st:St}{ub:Nat}{K:St->Nat->Prop}{d:Option Nat}{nm:Bool}{sz l u off n:Nat}{zero cs:List V}{x:A}(e:eval E st.tm x=.osl l u off n sz) (c:st.ob l=some ⟨u,.cells cs⟩) (b:st.ro<=u) (g:zero.length=sz) (f:off+n*sz<=cs.length)
 (h:WR K st d ub { v:=ju,obs:=[(l,⟨u,.cells (j2 cs off (repl n zero))⟩)] }):j8 E Yf ⟨d,.clear sz zero x,none,nm⟩ st ub K:=by
 have a:objCells st.ob l u=some cs:=by simp[objCells,c]
 rw[jN _ rfl rfl];simp only[aop,e];rw[if_pos ⟨ce▸b,trivial,g⟩,a,am,if_pos f,jM];exact h
theorem jqn {L u n i:Nat}(h:i<=n):YZ 1 (some (.int .i64 (i:Int))) none (.osl L u 0 n 1)=some (.osl L u i (n - i) 1):=by have a:(i:Int)<=n:=zO;simp[YZ,Jg];omega
theorem jx5 {L u n i:Nat}(h:i<=n):YZ 1 none (some (.int .i64 (i:Int))) (.osl L u 0 n 1)=some (.osl L u 0 i 1):=by have a:(i:Int)<=n:=zO;simp[YZ,Jg,a]
theorem jcu {p:Int->Bool}{l:List Int}(h:l.findIdx? p=none):l.filter (λx=>!p x)=l:=by rw[eP];intro x a;have:=fl.1 h x a;simp[this]
theorem jgw:∀ (l:List Int) (n:Nat),(l.flatMap intC).take n=(l.take n).flatMap intC
 | [],n=>by simp
 | a::l,0=>by simp
 | a::l,n+1=>by have:=jgw l n;simp only[bl,intC,List.singleton_append,eN,this]
def DelP (L u:Nat) (l:List Int) (ob:ZO) (tk:Nat->Bool) (ub:Nat) (r:V × (ZO) × (Nat->Bool) × Nat):Prop :=
 OwnI r.2.1 r.1 l/\(∀key,key≠L->r.2.1 key=ob key)/\r.2.2.1=tk/\ub<=r.2.2.2/\(r.1=.sl none true 0 []\/∃n,r.1=.osl L u 0 n 1)
def jbn (p:Int->Bool) (l:List Int) (j:Nat):List Int:=(l.take j).filter λx=>!p x
theorem jht {p:Int->Bool}{l:List Int}{j:Nat}(h:j<l.length):jbn p l (j+1)=jbn p l j++if p l[j] then [] else [l[j]]:=by unfold jbn;rw[ay h,ch];cases a:p l[j] <;> simp[a]
theorem jzo (p:Int->Bool) (l:List Int) (j:Nat):(jbn p l j).length<=j:=by unfold jbn;have:=bD (λx=>!p x) (l.take j);rw[ap]at this;omega
end Go.Pv.T
namespace Go.Pv.T
open Go Go.Pv
end Go.Pv.T
namespace Go.Pv.T
open Go Go.Pv
theorem jkh {g:Hist'}(a:Small g):(jcg g).length<=1000000:=by unfold jcg;have:=QV a g.ts.length;have b:=a.ts;have:g.ts.length*1000<=1000*1000:=bc _ b;split;unfold readH;omega;simp
def choW (g:Hist'):List (Bool × List Int):=(jcg g).map λp=>((ofH g p.1 p.2).isEmpty,ofH g p.1 p.2)
theorem js6 (T:List Int):SlR (ji8 T) T.isEmpty T.length (T.flatMap intC):=by
 unfold ji8;cases T with
 | nil=>exact⟨none,rfl,zS⟩
 | cons a l=>exact⟨some (0,1),rfl,zS⟩
theorem ev161 {g:Hist'}(B:Small g):∃v,Ev E 161 [.agg (histC g)] v/\SlR v (choW g).isEmpty (choW g).length ((choW g).flatMap jfi):=by
 obtain⟨vr,G,n⟩:=ev86 B;have y:=jkh B;obtain⟨L,O⟩:∃L,jcg g=L:=⟨_,rfl⟩;obtain⟨C,H⟩:∃C,choW g=C:=⟨_,rfl⟩;have j:C=L.map λp=>((ofH g p.1 p.2).isEmpty,ofH g p.1 p.2):=by rw[<- H,<- O];rfl
 have z:C.length=L.length:=by rw[j];simp
 rw[H];rw[O]at n y;refine JZ (af:=F161) rfl zQ ?_;conv in (occs := *) F161=> all_goals cbv
 simp[F161,histC,objCells];refine jJ G (by simp[histC]) rfl (by simp[histC]) ?_;refine Ji n λK Q=>?_;simp;refine j6 [(3,5),(9,20)] L.length (λi s=>s.tm 9=.int .i64 i/\s.ob 2=some ⟨0,.cells (histC g)⟩/\Grow s.tk 0 s.nx jfi 1 (C.take i) (s.tm 3)) rfl rfl ⟨zS,by simp[histC],by simp;exact Grow.nil _ _ _ _ _⟩ ?_;rintro i s hi ⟨F,P,D⟩ f;have f1:s.tm 1=.ptr 2 0 0:=by rw[f.t 1 zS];simp
 have Z:s.tm 7=.sl K L.isEmpty L.length (L.flatMap jE):=by rw[f.t 7 zS];simp
 have I:s.tm 8=.int .i64 L.length:=by rw[f.t 8 zS];simp
 have S:s.df=[]:=by rw[f.d];simp
 have fb:s.fb=0:=by rw[f.b];simp
 have fr:s.ro=0:=by rw[f.r];simp
 clear f;by_cases e:i<L.length;have hw:=jZ e zO;have x:JX 2 (.sl K L.isEmpty L.length (L.flatMap jE)) (.int .i64 (i:Int))=some (.eptr (L.flatMap jE) (i*2)):=by simp only[Yh,j3 jT];rw[if_pos (by simp;omega)];rfl
 have hp:=λob=>Wf L ob e;have q:C[i]? = some ((ofH g (L[i]).1 (L[i]).2).isEmpty,ofH g (L[i]).1 (L[i]).2):=by rw[j,aX,aa e];rfl
 have w:=ev217 B (L[i]).1 (L[i]).2;generalize (L[i]).1=a at *;generalize (L[i]).2=b at *;obtain⟨T,hT⟩:∃T,ofH g a b=T:=⟨_,rfl⟩;rw[hT]at w q;simp[F,f1,Z,I,P,objCells,histC,e,x,hp,j2,fb,fr];refine jJ w (by simp[histC,jE]) rfl (by simp[histC,jE]) ?_;refine Ji (js6 T) λt add=>?_;simp;have c:C.take (i+1)=C.take i++[(T.isEmpty,T)]:=by rw[ge,q];rfl
 have a0:i<C.length:=zO;have X:(C.take i).length=i:=by rw[ap];omega
 refine jG (cs:=[.sl t T.isEmpty T.length (T.flatMap intC)]) (by simp[j2]) rfl (by simp[V.strip1,V.pureLeaf]) ?_;simp[V.strip1];refine YU (f:=jfi) (lo:=0) (hi:=s.nx) (l:=C.take i) (a:=(T.isEmpty,T)) (v:=s.tm 3) (D.mono (λu _ _ h=>by simp[ji,h]) zK) zS (by simp[slCells,jfi]) jbk zQ (by simp[jfi,V.pureLeaf]) zO zO (λb0 N=>?_);have m:C.take (i+1)≠[]:=by rw[c];simp
 have o:(C.take i).length+1=(C.take (i+1)).length:=by rw[c,au];rfl
 rw[<- c,o];obtain⟨M,J⟩:∃M,C.take (i+1)=M:=⟨_,rfl⟩;rw[J]at m ⊢;simp[F,hw,P,histC,J];exact⟨e,.inr ⟨m,_,rfl,by simp[ji],cL _,zO⟩⟩;have:i=L.length:=zO;subst this;rw[<- z,bh]at D;obtain⟨t,U⟩:=D.form;simp[F,I];exact slE (t:=t) (nl:=C.isEmpty) (k:=C.length) (cs:=C.flatMap jfi) (λr h=>h) (by simp[S]) (by simp[U])
def choR (g:Hist'):List (Bool × List Int):=(readH g).map λp=>(false,ofH g p.1 p.2)
theorem ja8 {g:Hist'}(a:Small g):(readH g).length<=1000000:=by have:=QV a g.ts.length;have b:=a.ts;have:g.ts.length*1000<=1000*1000:=bc _ b;unfold readH;omega
theorem ev61 {g:Hist'}(D:Small g):∃v,Ev E 61 [.agg (histC g)] v/\SlR v false (choR g).length ((choR g).flatMap jfi):=by
 obtain⟨vr,G,m⟩:=ev31 D;have x:=ja8 D;obtain⟨L,N⟩:∃L,readH g=L:=⟨_,rfl⟩;obtain⟨C,H⟩:∃C,choR g=C:=⟨_,rfl⟩;have j:C=L.map λp=>(false,ofH g p.1 p.2):=by rw[<- H,<- N];rfl
 have B:C.length=L.length:=by rw[j];simp
 rw[H];rw[N]at m x;refine JZ (af:=F61) rfl zQ ?_;conv in (occs := *) F61=> all_goals cbv
 simp[F61,histC,objCells];refine jJ G (by simp[histC]) rfl (by simp[histC]) ?_;refine Ji m λJ P=>?_;simp;refine jG (cs:=[]) rfl rfl rfl ?_;simp;refine j6 [(4,5),(9,24)] L.length (λi s=>s.tm 5=.int .i64 i/\s.ob 2=some ⟨0,.cells (histC g)⟩/\GrowT s.tk s.nx jfi 1 (C.take i) (s.tm 4)) rfl rfl ⟨zS,by simp[histC],⟨256,zS,by simp[ji],zS⟩⟩ ?_;rintro i s hi ⟨y,O,F⟩ f;have X:s.tm 1=.ptr 2 0 0:=by rw[f.t 1 zS];simp
 have Q:s.tm 3=.sl J false L.length (L.flatMap jE):=by rw[f.t 3 zS];simp
 have S:s.df=[]:=by rw[f.d];simp
 clear f;by_cases c:i<L.length;have hw:=jZ c zO;have w:JX 2 (.sl J false L.length (L.flatMap jE)) (.int .i64 (i:Int))=some (.eptr (L.flatMap jE) (i*2)):=by simp only[Yh,j3 jT];rw[if_pos (by simp;omega)];rfl
 have hp:=λob=>Wf L ob c;have q:C[i]? = some (false,ofH g (L[i]).1 (L[i]).2):=by rw[j,aX,aa c];rfl
 obtain⟨vo,z,o⟩:=ev112' D (L[i]).1 (L[i]).2;generalize (L[i]).1=a at *;generalize (L[i]).2=b at *;obtain⟨T,Z⟩:∃T,ofH g a b=T:=⟨_,rfl⟩;rw[Z]at o q;have e:C.take (i+1)=C.take i++[(false,T)]:=by rw[ge,q];rfl
 have a0:i<C.length:=zO;have U:(C.take i).length=i:=by rw[ap];omega
 simp[y,X,Q,O,objCells,histC,c,w,hp];refine Js z (by simp[histC,jE]) rfl (by simp[histC,jE]) ?_;refine Ji o λt add=>?_;simp;refine jro (cs:=[.sl t false T.length (T.flatMap intC)]) (by simp[j2]) rfl (by simp[V.strip1,V.pureLeaf]) ?_;simp[V.strip1];refine jrp (f:=jfi) (hi:=s.nx) (l:=C.take i) (a:=(false,T)) (v:=s.tm 4) (F.mono (λu _ h=>by simp[ji,h]) zK) zS (by simp[slCells,jfi]) jbk zQ (by simp[jfi,V.pureLeaf]) zO zO (λb0 K=>?_);have n:(C.take i).length+1=(C.take (i+1)).length:=by rw[e,au];rfl
 rw[<- e,n];obtain⟨M,I⟩:∃M,C.take (i+1)=M:=⟨_,rfl⟩;rw[I];simp[y,hw,O,histC,I];exact⟨c,_,rfl,by simp[ji],zO⟩;have:i=L.length:=zO;subst this;rw[<- B,bh]at F;obtain⟨u,hv,_,_⟩:=F;simp[y,Q];exact slE (t:=some (u,1)) (nl:=false) (k:=C.length) (cs:=C.flatMap jfi) (λr h=>h) (by simp[S]) (by simp[hv])
def jb5:List (Bool × List Int)->List Int->Bool
 | [],_=>true
 | _::_,[]=>false
 | c::cs,m::ms=>c.2.contains m && jb5 cs ms
def jaj (g:Hist') (M:List Int):Bool:=Jb g && (M.length == (choR g).length && jb5 (choR g) M)
theorem j18 (C:List (Bool × List Int)) {i:Nat}(h:i<C.length):(C.flatMap jfi)[i]? = some (.sl none (C[i]).1 (C[i]).2.length ((C[i]).2.flatMap intC)):=by have:=jU jbk C h (by decide:0<1);rw[bz,bj]at this;rw[this];rfl
theorem jum {g:Hist'}(c:WG g=true) (a b:Int):(ofH g a b).length<=41:=by unfold ofH;split;split;simp;exact j4h (juy c) a _;simp
theorem ev22 {g:Hist'}(y:Small g) {b:Bool}(M:List Int) (_:M.length<=1000000000):Ev E 22 [.agg (histC g),slOf b intC M] (.bool (jaj g M)):=by
 have h:=ev21 y;refine jS (af:=F22) rfl ?_;unfold jaj;cases l:Jb g
 ·rw[l]at h;conv in (occs := *) F22=> all_goals cbv
  simp[F22,histC,objCells];refine jJ h (by simp[histC]) rfl (by simp[histC]) ?_;simp;exact j4 zS zS rfl
 rw[l]at h;obtain⟨U,q,r⟩:=ev61 y;have w:=ja8 y;have Q:(choR g).length<=1000000:=by unfold choR;rw[bC];exact w
 have z:∀x∈choR g,x.2.length<=41:=by
  intro x I;unfold choR at I;obtain⟨p,_,rfl⟩:=aJ.1 I;have S:WG g=true:=by unfold Jb at l;simp only[ai]at l;exact l.1
  exact jum S _ _
 generalize choR g=C at *;conv in (occs := *) F22=> all_goals cbv
 simp[F22,histC,objCells];refine jJ h (by simp[histC]) rfl (by simp[histC]) ?_;simp[objCells];refine jJ q (by simp[histC]) rfl (by simp[histC]) ?_;refine Ji r λF H=>?_;by_cases P:M.length=C.length;obtain⟨R,J⟩:∃R,jb5 C M=R:=⟨_,rfl⟩;rw[J];simp[P];refine j6 [(4,4),(6,6),(17,32)] C.length (λi s=>s.tm 6=.int .i64 i/\jb5 (C.drop i) (M.drop i)=R) rfl rfl ⟨zS,by simpa using J⟩ ?_;rintro i s T ⟨B,j⟩ f;have N:s.tm 1=slOf b intC M:=by rw[f.t 1 zS];simp
 have G:s.tm 5=.sl F false C.length (C.flatMap jfi):=by rw[f.t 5 zS];simp
 have D:s.df=[]:=by rw[f.d];simp
 clear f;by_cases c:i<C.length;have n:=jZ c zO;have e:i<M.length:=zO;have O:=j18 C c;have L:=jr M e;have k:JX 1 (.sl F false C.length (C.flatMap jfi)) (.int .i64 (i:Int))=some (.eptr (C.flatMap jfi) (i*1)):=by simp only[Yh,j3 jbk];rw[if_pos (by simp;omega)];rfl
 rw[bz]at k;rw[aW c,aW e,jb5]at j;have u:=ev62 (a:=(C[i]).1) (C[i]).2 (by have:=z _ (av c);omega) M[i];simp[B,N,G,c,e,k,j7 j9,O,L];refine Js u (by simp[slOf]) rfl (by simp[slOf]) ?_;cases K:(C[i]).2.contains M[i];rw[K,bZ]at j;simp;exact j4 (by simp[D]) (by simp[<- j]) rfl;rw[K,co]at j;simp[B,n];exact⟨c,j⟩;have:i=C.length:=zO;subst this;rw[dA,jb5]at j;simp[B,G];exact j4 (by simp[D]) (by simp[<- j]) rfl;have o:((M.length:Int) != C.length)=true:=by simp;omega
 have m:(M.length == C.length)=false:=by simp;omega
 simp[o];exact j4 zS (by simp[m]) rfl
theorem kD_own {st:St}{ub:Nat}{K:List FP->St->Prop}{d:Option Nat}{nm:Bool}{r:List AOpr}{f:FuncId}{xs:List A}{vs a:List V}{v:V}{δ:Delta}(j:xs.map (eval E st.tm)=vs) (i:E.sh nm f=true) (b:E.tw f=true)
 (k:vs.mapM (WL st.ob)=some a) (c:Ev E f a v) (g:Qj (jH d nm st.fb ub) ub v=some δ)
 (h:jF E r (st.app d δ) (ub+64) (kFp { wo:=δ.wo,all:=true,seen:=λl=>(st.ob l).isSome,nw:=true } K)):jF E (⟨d,.call f xs,none,nm⟩::r) st ub K:=by
 have e:jB E nm (eval E st.tm) (.call f xs)=some (f,vs):=by simp only[jB,i,j,cZ,bZ,aj,if_false]
 simp only[jF,wanted,e];exact .inr (.inl ⟨i,b,a,v,k,c,δ,by rw[name_eq'];exact g,h⟩)
where
 name_eq':∀ {d:Option Nat}{op:AOp}{nm:Bool}{fb ub:Nat},AOpr.name ⟨d,op,none,nm⟩ fb ub=jH d nm fb ub:=by
  intro d op nm fb ub;cases nm <;> rfl
end Go.Pv.T
namespace Go.Pv.T
open Go Go.Pv
end Go.Pv.T
namespace Go.Pv.T
open Go Go.Pv
end Go.Pv.T
namespace Go.Pv.T
open Go Go.Pv
end Go.Pv.T
namespace Go.Pv.T
open Go Go.Pv
theorem Wr {f:FuncId}{af:AF}{args:List V}{ob:ZO}{tk:Nat->Bool}{base ub:Nat}{P:V->Prop}(b:E.fs f=some af) (g:af.body.one=true) (h:wpC E YC af.body (Jy args ob (λ_=>false) ub base ub) (Qm af.res P)) (i:E.fz f=false:=by rfl):∃r,EvO E f args ob tk base ub r/\P r:=by obtain⟨n,x,d,r,c,e⟩:=jkp g h λ_=>rfl;refine⟨r,⟨n+1,?_⟩,e⟩;simp only[callers,b,am,i,aj,if_false];rw[show je E (callers E n) noY n af.body (Jy args ob (λ_=>false) ub base ub)=some [x] from d];exact jiw (cV _ _) (λy a=>by rw[ae]at a;subst a;exact c)
def TupS (l:List V) (v:V):Prop:=∃vs,v=.tup vs/\vs.map V.strip1=l/\∀p∈vs.flatMap V.toks,p<64
def noAgg:V->Bool
 | .agg _=>false
 | _=>true
theorem jth {ub:Nat}{v:V}{l:List V}{K:Delta->Prop}(j:TupS l v) (f:l.all noAgg=true) (h:∀ws add,ws.map V.strip1=l->K { v:=.tup ws,add:=add }):wpD (Xf ub v) K:=by
 obtain⟨a,rfl,b,g⟩:=j;have e:Xf ub (.tup a)=some { v:=.tup (a.map (jcq ub)),add:=(a.flatMap V.toks).map (ub + ·) }:=by rw[Xf,if_pos (by simpa only[toksRes,aw,dp] using g)];rfl
 rw[e,jM];refine h _ _ ?_;rw[<- b,cU];refine dx λw c=>?_;have i:noAgg w.strip1=true:=aw.1 f _ (by rw[<- b];exact aJ.2 ⟨w,c,rfl⟩);cases w with
 | agg=>cases i
 | sl t k n cs=>cases t <;> rfl
 | _=>rfl
theorem jay {w:V}{nl:Bool}{n:Nat}{cs:List V}(h:w.strip1=.sl none nl n cs):∃t,w=.sl t nl n cs:=by cases w <;> simp[V.strip1]at h;obtain⟨rfl,rfl,rfl⟩:=h;exact⟨_,rfl⟩
theorem jeq {w:V}{b:Bool}(h:w.strip1=.bool b):w=.bool b:=by cases w <;> simp[V.strip1]at h;subst h;rfl
theorem jqj {w:V}{k:IntKind}{b:Int}(h:w.strip1=.int k b):w=.int k b:=by cases w <;> simp[V.strip1]at h;obtain⟨rfl,rfl⟩:=h;rfl
theorem map2 {e c:Type}{f:e->c}{ws:List e}{a b:c}(h:ws.map f=[a,b]):∃x y,ws=[x,y]/\f x=a/\f y=b:=by
 match ws with
 | [x,y]=>simp only[bt,cm,gD,and_true]at h;exact⟨x,y,rfl,h.1,h.2⟩
 | []=>simp at h
 | [_]=>simp at h
 | _::_::_::_=>simp at h
theorem map3 {g e:Type}{f:g->e}{ws:List g}{a b c:e}(h:ws.map f=[a,b,c]):∃x y z,ws=[x,y,z]/\f x=a/\f y=b/\f z=c:=by
 match ws with
 | [x,y,z]=>simp only[bt,cm,gD,and_true]at h;exact⟨x,y,z,rfl,h.1,h.2.1,h.2.2⟩
 | []=>simp at h
 | [_]=>simp at h
 | [_,_]=>simp at h
 | _::_::_::_::_=>simp at h
theorem j1x {ub:Nat}{v:V}{a1 a2 b:Bool}{f g:Nat}{i e:List V}{K:Delta->Prop}(m:TupS [.sl none a1 f i,.sl none a2 g e,.bool b] v)
 (h:∀c a add,K { v:=.tup [.sl c a1 f i,.sl a a2 g e,.bool b],add:=add }):wpD (Xf ub v) K:=by
 refine jth m rfl λws add j=>?_;obtain⟨x,y,z,rfl,n,k,l⟩:=map3 j;obtain⟨c,rfl⟩:=jay n;obtain⟨a,rfl⟩:=jay k;obtain rfl:=jeq l;exact h c a add
theorem j30 {ub:Nat}{v:V}{a1 b:Bool}{c:Nat}{e:List V}{K:Delta->Prop}(i:TupS [.sl none a1 c e,.bool b] v)
 (h:∀a add,K { v:=.tup [.sl a a1 c e,.bool b],add:=add }):wpD (Xf ub v) K:=by
 refine jth i rfl λws add f=>?_;obtain⟨x,z,rfl,j,g⟩:=map2 f;obtain⟨a,rfl⟩:=jay j;obtain rfl:=jeq g;exact h a add
theorem jti {ub:Nat}{v:V}{a1:Bool}{k:IntKind}{b:Int}{c:Nat}{e:List V}{K:Delta->Prop}(i:TupS [.sl none a1 c e,.int k b] v)
 (h:∀a add,K { v:=.tup [.sl a a1 c e,.int k b],add:=add }):wpD (Xf ub v) K:=by
 refine jth i rfl λws add f=>?_;obtain⟨x,z,rfl,j,g⟩:=map2 f;obtain⟨a,rfl⟩:=jay j;obtain rfl:=jqj g;exact h a add
def j60 (st:St) (v w:V):Prop:=∀keep i,∃a,XS st keep i v=some a/\a.strip1=w/\(a.toks=[]\/a.toks=[i])
def jp4 (st:St):List V->List V->Prop
 | [],[]=>True
 | v::vs,w::ws=>j60 st v w/\jp4 st vs ws
 | _,_=>False
theorem jp {st:St}{v:V}(h:v.pureLeaf=true):j60 st v v:=by
 intro keep i;refine⟨v,?_,Xt h,.inl ?_⟩;cases v with
 | agg=>cases h
 | fn=>cases h
 | _=>exact Y2 (st:=st) (keep:=keep) (i:=i) h
 cases v with
 | agg=>cases h
 | _=>exact jn6 h
theorem YP {st:St}{v:V}{nl:Bool}{n:Nat}{cs:List V}(c:v.leaf=true) (h:jc2 st v nl n cs):j60 st v (.sl none nl n cs):=by
 intro keep i;obtain⟨a,b,e⟩:=h keep i;refine⟨.sl a nl n cs,?_,rfl,?_⟩;rw[<- b];cases v with
 | agg=>cases c
 | fn=>simp only[jm,JH]at b;split at b <;> cases b
 | _=>rfl
 rcases e with rfl|⟨z,rfl⟩;exact .inl rfl;exact .inr rfl
theorem WD {st:St}{keep:Bool}:∀ {vs ls:List V}{i:Nat},jp4 st vs ls->∃b,JK st keep i vs=some b/\b.map V.strip1=ls/\(∀p∈b.flatMap V.toks,i<=p/\p<i+16*vs.length)/\nodup (b.flatMap V.toks)=true
 | [],[],i,_=>⟨[],rfl,rfl,zS,rfl⟩
 | v::vs,w::ws,i,h=>by obtain⟨a,n,k,e⟩:=h.1 keep i;obtain⟨b,j,l,f,g⟩:=WD (keep:=keep) (i:=i+16) h.2;refine⟨a::b,by simp only[JK,n,am,j,aU],by rw[bt,k,l],λp c=>?_,?_⟩;rw[bl,aO]at c;simp only[bo];rcases c with c|c;rcases e with e|e <;> rw[e]at c <;> simp at c;omega;have:=f p c;omega;rw[bl];rcases e with e|e <;> rw[e];exact g;simp only[List.singleton_append,nodup,ai,g,and_true,bJ];rw[gj];intro o;obtain⟨p,c,m⟩:=bx.1 o;have:=bm m;have:=f p c;omega
 | [],_::_,_,h=>h.elim
 | _::_,[],_,h=>h.elim
theorem jon (st:St):∀a:List Nat,(a.map ARes.t).mapM (jo st)=some (a.map st.tm)
 | []=>rfl
 | n::a=>by rw[bt,bL,jon st a];rfl
theorem jsa {ns:List Nat}{st:St}{vs ls:List V}{P:V->Prop}(n:∀r,TupS ls r->P r) (f:st.df=[]) (h:ns.map st.tm=vs) (u:2<=vs.length) (x:vs.length<=4) (g:jp4 st vs ls):Qm (ns.map .t) P .ret st:=by
 obtain⟨c,k,j,o,s⟩:=WD (keep:=nodup (vs.flatMap V.toks)) (i:=0) g;have e:2<=c.length:=by
  have m:=congrArg List.length j;have:∀ {vs ls:List V},jp4 st vs ls->vs.length=ls.length:=by
   intro vs;induction vs with
   | nil=>intro ls h;cases ls with|nil=>rfl|cons=>exact h.elim
   | cons v vs q=>intro ls h;cases ls with|nil=>exact h.elim|cons w ws=>rw[bo,bo,q h.2]
  have:=this g;simp only[bC]at m;omega
 refine⟨.tup c,?_,n _ ⟨c,rfl,j,λp l=>by have:=o p l;omega⟩⟩;simp only[jas,YJ f,YD f,if_true,jon,h,am,Yd,k,s];match c,e with
 | a::b::r,_=>rfl
theorem ev25 (b:Bool) (l:List Int) (c:l.length<=1000000000):∃v,Ev E 25 [slOf b intC l] v/\SlR v false l.length (l.flatMap intC):=by
 refine JZ (af:=F25) rfl zQ ?_;conv in (occs := *) F25=> all_goals cbv
 simp[F25];refine jG (cs:=[]) rfl rfl rfl ?_;simp;refine jgo (f:=intC) (l:=l) (u:=64) zS (by simp[ji]) (by simp[jc5 j9]) j9 zQ (by simp[intC,V.pureLeaf]) zO zO (λt a add _ _=>?_);simp;exact slE (t:=t) (nl:=false) (k:=l.length) (cs:=l.flatMap intC) (λr h=>h) zS zS
section
variable {E:Env}{Yf:YF}{st:St}{ub:Nat}{K:St->Nat->Prop}{d:Option Nat}{nm:Bool}
theorem jd5 {sz a n:Nat}{zero:List V}{x y:A}(b:eval E st.tm x=.int .i64 (n:Int)) (f:eval E st.tm y=.int .i64 (n:Int)) (e:n*a<=140737488355328) (i:n<=140737488355328) (g:zero.length=sz) (c:0<sz)
 (h:WR K st d ub { v:=.osl (jH d nm st.fb ub) ub 0 n sz,obs:=[(jH d nm st.fb ub,⟨ub,.cells (repl n zero)⟩)] }):j8 E Yf ⟨d,.mkSl true sz a zero x y,none,nm⟩ st ub K:=by
 rw[jN _ rfl rfl];simp only[aop,b,f];rw[if_pos (by refine⟨zO,zO,?_,zO,g,c⟩;rw[<- fM];exact gh.2 e),if_neg zS,Jj,jM];simp only[aZ,Jx];exact h
end
def Upto (n i:Nat) (J:List Int) (cs:List V):Prop:=cs.length=n/\(∀j,j<i->cs[j]? = (J.flatMap intC)[j]?)/\cs.all V.pureLeaf=true
theorem Upto.set {n i:Nat}{J:List Int}{cs:List V}(h:Upto n i J cs) (hi:i<n) {x:Int}(m:J[i]? = some x):Upto n (i+1) J (j2 cs i [.int .i64 x]):=by
 obtain⟨g,f,k⟩:=h;have l:j2 cs i [.int .i64 x]=cs.set i (.int .i64 x):=by unfold j2;rw[cH,if_pos zO,aY];rfl
 rw[l];refine⟨by rw[dE];exact g,λj o=>?_,?_⟩;by_cases a:j=i;subst a;have c:=(ak.1 m);rw[dz zO,jr J c.1,c.2];rw[cN (λe=>a e.symm)];exact f j zO;refine aw.2 λy b=>?_;rcases List.mem_or_eq_of_mem_set b with b|rfl
 exact aw.1 k y b;rfl
theorem Upto.whole {n:Nat}{J:List Int}{cs:List V}(h:Upto n n J cs) (b:J.length=n):cs=J.flatMap intC:=by apply dj;intro j;by_cases a:j<n;exact h.2.1 j a;rw[cX (by rw[h.1];omega),cX (by rw[j3 j9];omega)]
theorem Upto.zero (n:Nat) (J:List Int):Upto n 0 J (repl n [.int .i64 0]):=by refine⟨by simp[repl],λj b=>by omega,?_⟩;refine aw.2 λy a=>?_;simp only[repl,aJ]at a;obtain⟨i,_,rfl⟩:=a;simp[V.pureLeaf,Nat.mod_one]
theorem j2a {st:St}{ub:Nat}{K:List FP->St->Prop}{d:Option Nat}{nm:Bool}{r:List AOpr}{f:FuncId}{xs:List A}{vs:List V}{v:V}{δ:Delta}(i:xs.map (eval E st.tm)=vs) (g:E.sh nm f=false) (hp:(vs.all λv=>v.strip.pureTop)=false)
 (a:EvO E f vs st.ob st.tk ((st.fb+d.getD 0+1)*1024) (ub+64*(r.length+1)) v) (e:Xf ub v=some δ)
 (h:jF E r (st.app d δ) (ub+64) (kFp { wt:=δ.wt,all:=true,seen:=λl=>(st.ob l).isSome } K)):jF E (⟨d,.call f xs,none,nm⟩::r) st ub K:=by
 have b:(xs.all λx=>(eval E st.tm x).strip.pureTop)=false:=by rw[<- i,dF]at hp;exact hp
 have c:jB E nm (eval E st.tm) (.call f xs)=some (f,vs):=by simp only[jB,g,i,b,cG,dC,aj,if_false]
 simp only[jF,wanted,c];exact .inl ⟨g,v,a,δ,e,h⟩
def blC (b:Bool):List V:=[.bool b]
@[simp] theorem jnw (b:Bool):(blC b).length=1:=rfl
theorem bl_at (l:List Bool) {i:Nat}(h:i<l.length):(l.flatMap blC)[i]? = some (.bool l[i]):=by have:=jU jnw l h (by decide:0<1);simpa[blC] using this
end Go.Pv.T
namespace Go.Pv.T
open Go Go.Pv Go.Sort
@[simp] theorem cellV_lf (v:Val'):(jcy v).leaf=true:=by unfold jcy;split;rfl;split <;> rfl
def lessV (a b:Val'):Bool:=if a.kind=b.kind then (a.kind == 1 && decide (a.n<b.n)) else decide (a.kind<b.kind)
def cmpV (a b:Val'):Int:=if jqe a && jqe b && lessV a b then -1 else if jqe b && jqe a && lessV b a then 1 else 0
abbrev VV:Type:={ v:Val' // jqe v=true }
instance:Inhabited VV:=⟨⟨⟨0,0⟩,rfl⟩⟩
def vvC (v:VV):List V:=J0 v.1
@[simp] theorem j29 (v:VV):(vvC v).length=2:=rfl
@[simp] theorem vvC_leaf (v:VV):∀x∈vvC v,x.leaf=true:=by intro x a;simp only[vvC,J0,br,dc,or_false]at a;rcases a with rfl|rfl <;> rfl
@[simp] theorem j7p (v:VV):(vvC v).all V.leaf=true:=rfl
@[simp] theorem j63 (v:VV):(vvC v).map V.strip1=vvC v:=rfl
@[simp] theorem vvC_pure (v:VV):(vvC v).all V.pureLeaf=true:=rfl
def ltVV (a b:VV):Bool:=decide (cmpV a.1 b.1<0)
@[simp] theorem ltVV_fold (a b:VV):decide (cmpV a.1 b.1<0)=ltVV a b:=rfl
@[simp] theorem arrV_len (d:Array VV):(arr vvC d).length=d.size*2:=jwz (sz:=2) j29 d
end Go.Pv.T
namespace Go.Pv.T.Vs
open Go Go.Pv Go.Pv.T Go.Sort
end Go.Pv.T.Vs
namespace Go.Pv.T.Vs
open Go Go.Pv Go.Pv.T Go.Sort
end Go.Pv.T.Vs
namespace Go.Pv.T.Vs
open Go Go.Pv Go.Pv.T Go.Sort
end Go.Pv.T.Vs
namespace Go.Pv.T.Vs
open Go Go.Pv Go.Pv.T Go.Sort
end Go.Pv.T.Vs
namespace Go.Pv.T.Vs
open Go Go.Pv Go.Pv.T Go.Sort
end Go.Pv.T.Vs
namespace Go.Pv.T.Vs
open Go Go.Pv Go.Pv.T Go.Sort
end Go.Pv.T.Vs
namespace Go.Pv.T.Vs
open Go Go.Pv Go.Pv.T Go.Sort
end Go.Pv.T.Vs
namespace Go.Pv.T.Vs
open Go Go.Pv Go.Pv.T Go.Sort
end Go.Pv.T.Vs
namespace Go.Pv.T.Vs
open Go Go.Pv Go.Pv.T Go.Sort
end Go.Pv.T.Vs
namespace Go.Pv.T.Vs
open Go Go.Pv Go.Pv.T Go.Sort
end Go.Pv.T.Vs
namespace Go.Pv.T.Vs
open Go Go.Pv Go.Pv.T Go.Sort
end Go.Pv.T.Vs
namespace Go.Pv.T
open Go Go.Pv
@[simp] theorem QS (v:Val'):(J0 v).length=2:=rfl
theorem j1o (a b:Val'):(a == b)=(a.kind == b.kind && a.n == b.n):=by obtain⟨a1,a2⟩:=a;obtain⟨b1,b2⟩:=b;rw[bB];simp
theorem jzj (ob:ZO) (l:List Val') {i:Nat}(h:i<l.length):QI ob (some 2) (.eptr (l.flatMap J0) (i*2))=some (.agg (J0 l[i])):=jh QS ob l h
def idxJ:List (Bool × List Int)->List Int->List Int
 | c::cs,m::ms=>jhw c.2 m 0::idxJ cs ms
 | _,_=>[]
theorem jpg:∀ (C:List (Bool × List Int)) (M:List Int),C.length=M.length->(idxJ C M).length=C.length
 | [],[],_=>rfl
 | c::cs,m::ms,h=>by simp only[idxJ,bo]at h ⊢;rw[jpg cs ms zO]
 | [],_::_,h=>by simp at h
 | _::_,[],h=>by simp at h
theorem jv3:∀ (C:List (Bool × List Int)) (M:List Int) (i:Nat) (h:i<C.length) (a:i<M.length),(idxJ C M)[i]? = some (jhw (C[i]).2 M[i] 0)
 | c::cs,m::ms,0,_,_=>rfl
 | c::cs,m::ms,i+1,h,a=>by simp only[idxJ,bO,ia];exact jv3 cs ms i (by simpa using h) (by simpa using a)
 | [],_,_,h,_=>by simp at h
 | _::_,[],_,_,h=>by simp at h
def YB (g:Hist') (M:List Int):Option (List Int):=if Jb g && ((choW g).length == M.length && (idxJ (choW g) M).all λx=>decide (0<=x)) then some (idxJ (choW g) M) else none
def jn1 (g:Hist') (r:Option (List Int)) (v:V):Prop:=match r with
 | some J=>TupS [.sl none (choW g).isEmpty (choW g).length ((choW g).flatMap jfi),.sl none false J.length (J.flatMap intC),.bool true] v
 | none=>TupS [.sl none true 0 [],.sl none true 0 [],.bool false] v
theorem j1a {g:Hist'}(a:Small g):(choW g).length<=1000000:=by unfold choW;rw[bC];exact jkh a
theorem j6i {g:Hist'}(_:Small g):∀x∈choW g,x.1=x.2.isEmpty/\x.2.length<=41:=by
 intro x a;unfold choW jcg at a;split at a;rename_i b;obtain⟨p,_,rfl⟩:=aJ.1 a;have c:WG g=true:=by unfold Jb at b;simp only[ai]at b;exact b.1
 exact⟨rfl,jum c _ _⟩;simp at a
theorem ev106 {g:Hist'}(hs:Small g) {b:Bool}(M:List Int) (hM:M.length<=1000000):∃v,Ev E 106 [.agg (histC g),slOf b intC M] v/\jn1 g (YB g M) v:=by
 obtain⟨vc,b0,K⟩:=ev161 hs;have b8:=ev52 hs;have b7:=j1a hs;have I:=j6i hs;have w:∀ {p:St}{P:V->Prop},p.df=[]->p.tm 4=.sl none true 0 []->p.tm 5=.sl none true 0 []->p.tm 6=.bool false->YB g M=none->Qm [.t 4,.t 5,.t 6] (jn1 g (YB g M)) .ret p:=by intro p _ hd h4 h5 h6 hp;rw[hp];exact jsa (ns:=[4,5,6]) (vs:=[.sl none true 0 [],.sl none true 0 [],.bool false]) (λr h=>h) hd (by simp[h4,h5,h6]) zS zS ⟨jp rfl,jp rfl,jp rfl,trivial⟩
 refine JZ (af:=F106) rfl zQ ?_;obtain⟨P,hP⟩:∃P,jn1 g (YB g M)=P:=⟨_,rfl⟩;have D:=λp h1 h2 h3 h4 h5=>hP▸@w p (λ_=>True) h1 h2 h3 h4 h5;rw[hP];obtain⟨C,hC⟩:∃C,choW g=C:=⟨_,rfl⟩;rw[hC]at K b7 I;conv in (occs := *) F106=> all_goals cbv
 simp[F106,histC,objCells];refine jJ b0 (by simp[histC]) rfl (by simp[histC]) ?_;refine Ji K λtc c1=>?_;simp[objCells];refine jJ b8 (by simp[histC]) rfl (by simp[histC]) ?_;cases hw:Jb g;simp;exact D _ zS zS zS zS (by simp[YB,hw]);by_cases B:¬ C.length=M.length;have q:((C.length:Int) != M.length)=true:=by simp;omega
 simp[q];exact D _ zS zS zS zS (by simp[YB,hC,B]);have B:C.length=M.length:=dm B;have q:((C.length:Int) != M.length)=false:=by simp;omega
 simp[q];refine jd5 (n:=M.length) zS zS zO zO rfl zQ ?_;simp;obtain⟨J,hJ⟩:∃J,idxJ C M=J:=⟨_,rfl⟩;have S:J.length=M.length:=by rw[<- hJ,jpg C M B];exact B
 have o:=jv3 C M;rw[hJ]at o;have e:YB g M=if J.all (λx=>decide (0<=x)) then some J else none:=by unfold YB;rw[hC,hJ,hw,B];simp
 refine j6 [(4,6),(9,10),(28,47)] C.length (λi s=>s.tm 28=.int .i64 i/\(∃cs,s.ob 2433=some ⟨1216,.cells cs⟩/\Upto M.length i J cs)/\(J.take i).all (λx=>decide (0<=x))=true) rfl rfl ⟨zS,⟨_,zS,Upto.zero _ _⟩,zS⟩ ?_;rintro i s hi ⟨z,⟨cs,T,F⟩,k⟩ f;have f1:s.tm 1=slOf b intC M:=by rw[f.t 1 zS];simp
 have f7:s.tm 7=.sl tc C.isEmpty C.length (C.flatMap jfi):=by rw[f.t 7 zS];simp
 have f8:s.tm 8=.osl 2433 1216 0 M.length 1:=by rw[f.t 8 zS];simp
 have b5:s.tm 26=.sl tc C.isEmpty C.length (C.flatMap jfi):=by rw[f.t 26 zS];simp
 have N:s.tm 27=.int .i64 C.length:=by rw[f.t 27 zS];simp
 have fd:s.df=[]:=by rw[f.d];simp
 have fr:s.ro=0:=by rw[f.r];simp
 clear f;by_cases j:i<C.length;have a0:=jZ j zO;have c:i<M.length:=zO;have h1:=j18 C j;have h2:=jr M c;have H:JX 1 (.sl tc C.isEmpty C.length (C.flatMap jfi)) (.int .i64 (i:Int))=some (.eptr (C.flatMap jfi) (i*1)):=by simp only[Yh,j3 jbk];rw[if_pos (by simp;omega)];rfl
 rw[bz]at H;have b6:=j5p (l:=2433) (u:=1216) (n:=M.length) (kk:=.i64) (X:=(i:Int)) rfl c;have Z:=ev127 (a:=(C[i]).1) (C[i]).2 (by have:=(I _ (av j)).2;omega) M[i];have m:=o i j c;generalize jhw (C[i]).2 M[i] 0=x at *;have O:=F.set c m;have Q:(j2 cs i [.int .i64 x])[i]? = some (.int .i64 x):=by rw[O.2.1 i zO];have L:=ak.1 m;rw[jr J L.1,L.2]
 have c0:=F.1;have b9:i+1<=M.length:=c;simp[z,f1,f8,b5,N,j,c,H,j7 j9,h1,h2];refine jJ Z (by simp[slOf]) rfl (by simp[slOf]) ?_;simp[b6,T,objCells,fr,c0,b9,f8,Q];by_cases hx:x<0;simp[hx];refine D _ (by simp[fd]) zS zS zS ?_;rw[e];have hm:x∈J:=aI m;rw[if_neg];rw[aw];intro h;have:=h x hm;simp at this;omega;simp[hx,z,a0];refine⟨j,O,λy G=>?_⟩;rw[ge,m,aO]at G;rcases G with G|G;simpa using aw.1 k y G;simp at G;omega;have:i=C.length:=zO;subst this;simp[z,N];rw[aK zO]at k;rw[B]at F;have U:=F.whole S;rw[<- hP,e,if_pos k];subst U;refine jsa (ns:=[4,5,6]) (vs:=[.sl tc C.isEmpty C.length (C.flatMap jfi),.osl 2433 1216 0 M.length 1,.bool true]) (λr h=>h) (by simp[fd]) (by simp[f7,f8]) zS zS ⟨?_,?_,jp rfl,trivial⟩;rw[hC];exact YP rfl (JR _ _ _ _ _);rw[S];exact YP rfl (ja2 (by simp[T]) F.1 (by simp[fr]) F.2.2)
theorem ev53 {g:Hist'}(i:Small g) {b:Bool}(M:List Int) (h:M.length<=1000000):Ev E 53 [.agg (histC g),slOf b intC M] (.bool (YB g M).isSome):=by
 obtain⟨v,d,a⟩:=ev106 i (b:=b) M h;refine jS (af:=F53) rfl ?_;conv in (occs := *) F53=> all_goals cbv
 simp[F53,histC,objCells];refine jJ d (by simp[histC,slOf]) rfl (by simp[histC,slOf]) ?_;cases c:YB g M with
 | none=>rw[c]at a;refine j1x a λf e add=>?_;simp;exact j4 zS zS rfl
 | some J=>rw[c]at a;refine j1x a λf e add=>?_;simp;exact j4 zS zS rfl
theorem jl0:∀ (C D:List (Bool × List Int)) (M:List Int),C.map (·.2)=D.map (·.2)->jb5 D M=((idxJ C M).all (λx=>decide (0<=x)) && decide (C.length<=M.length))
 | [],[],M,_=>by cases M <;> simp[jb5,idxJ]
 | c::C,d::D,[],_=>by simp[jb5]
 | c::C,d::D,m::M,h=>by
  simp only[bt,gD]at h;have a:=jl0 C D M h.2;have e:=jph m c.2 0;have b:decide (0<=jhw c.2 m 0)=c.2.contains m:=by
   have:decide (0<=jhw c.2 m 0) = !decide (jhw c.2 m 0<0):=by by_cases h:jhw c.2 m 0<0;simp[h];simp[h];omega
   rw[this,e,Bool.not_not]
  simp only[jb5,idxJ,cQ,a,b,<- h.1,bo,Nat.add_le_add_iff_right];rw[eY]
 | [],_::_,_,h=>by simp at h
 | _::_,[],_,h=>by simp at h
theorem jwr {g:Hist'}(a:Jb g=true):(choW g).map (·.2)=(choR g).map (·.2):=by unfold choW choR jcg;rw[if_pos a];simp[cU,Function.comp_def]
theorem j6h {g:Hist'}(a:Jb g=true):(choW g).length=(choR g).length:=by have:=congrArg List.length (jwr a);simpa using this
theorem is_eq (g:Hist') (M:List Int):(YB g M).isSome=jaj g M:=by
 unfold YB jaj;cases d:Jb g;simp;rw[jl0 _ _ M (jwr d),j6h d];by_cases b:M.length=(choR g).length;have a:((choR g).length == M.length)=true:=by simp[b]
 have c:(M.length == (choR g).length)=true:=by simp[b]
 rw[a,c];simp only[co,b,dr,decide_true,ec];split;rename_i h;simp[h];rename_i h;simp only[cJ];simpa using h;have a:((choR g).length == M.length)=false:=by simp;omega
 have c:(M.length == (choR g).length)=false:=by simp;omega
 rw[a,c];simp
@[simp] theorem eqVV_bool (ob:ZO) (neg a b:Bool):jxa ob neg .bool (.bool a) (.bool b)=some (.bool (xor neg (a == b))):=rfl
theorem jmq {ub:Nat}{r:V}{g:Hist'}{K:Delta->Prop}(h:jr8 r g)
 (e:∀a b c add,K { v:=.agg [.sl a g.sn g.ss.length (g.ss.flatMap Jv),.sl b g.kn g.ks.length (g.ks.flatMap Jv),.sl c g.tn g.ts.length (g.ts.flatMap js)],add:=add }):wpD (Xf ub r) K:=by
 obtain⟨a,b,c,add,d⟩:=jqt (ub:=ub) h;rw[d,jM];exact e a b c add
theorem jax {c:Type}{f:c->List V}{k:Nat}(b:∀a,(f a).length=k):∀ (l:List c) (n:Nat),(l.flatMap f).take (n*k)=(l.take n).flatMap f
 | [],n=>by simp
 | a::l,0=>by simp
 | a::l,n+1=>by rw[bl,eN,bl,da,fH,<- b a,eT,b a,jax b l n]
section
variable {E:Env}{st:St}{ub:Nat}{K:List FP->St->Prop}{d:Option Nat}{nm:Bool}{r:List AOpr}
theorem nbeq {a b:Nat}(h:a≠b):a.beq b=false:=by cases e:a.beq b;rfl;exact absurd (bm e) h
@[simp] theorem j3a (v:Val'):(J0 v).map V.strip1=J0 v:=rfl
end
theorem j3m {c:Type}{f:c->List V}{sz:Nat}(b:∀a,(f a).length=sz) (t:Option (Nat × Nat)) (nl:Bool) (l:List c) {k:Nat}(i:k<=l.length):YZ sz none (some (.int .i64 (k:Int))) (.sl t nl l.length (l.flatMap f))=some (.sl none nl (l.take k).length ((l.take k).flatMap f)):=by
 have h:(l.take k).length=k:=by rw[ap];omega
 have e:=jax b l k;have g:(k:Int)<=l.length:=zO;simp[YZ,Jg,j3 b,h,e,g]
theorem jg3 {L u n i:Nat}(h:i<=n):YZ 2 (some (.int .i64 (i:Int))) none (.osl L u 0 n 2)=some (.osl L u (i*2) (n - i) 2):=by have a:(i:Int)<=n:=zO;simp[YZ,Jg];omega
theorem jx7 {L u n i:Nat}(h:i<=n):YZ 2 none (some (.int .i64 (i:Int))) (.osl L u 0 n 2)=some (.osl L u 0 i 2):=by have a:(i:Int)<=n:=zO;simp[YZ,Jg,a]
theorem idx2 {l u off n x:Nat}{kk:IntKind}{X:Int}(a:X=(x:Nat)) (b:x<n):JX 2 (.osl l u off n 2) (.int kk X)=some (.ptr l u (off+x*2)):=by subst a;have:(x:Int)<n:=zO;simp[JX,this]
theorem ld2 {ob:ZO}{l u:Nat}{M:List Val'}{x:Nat}(a:ob l=some ⟨u,.cells (M.flatMap J0)⟩) (b:x<M.length):QI ob (some 2) (.ptr l u (x*2))=some (.agg (J0 M[x])):=by have h:=jzj ob M b;rw[<- h];simp only[QI,objCells,a,if_true,am]
theorem st2 {M:List Val'}{x:Nat}(a:x<M.length) (v:Val'):j2 (M.flatMap J0) (x*2) (J0 v)=(M.set x v).flatMap J0:=Qd QS v M x a
def JM (T:List Val'):Nat->List Val'
 | 0=>[]
 | j+1=>JM T j++(if 0<j/\T[j - 1]? = T[j]? then [] else T[j]?.toList)
theorem jh4 (T:List Val'):∀j,j<=T.length->(JM T j).length<=j
 | 0,_=>by simp[JM]
 | j+1,h=>by have:=jh4 T j zO;simp only[JM,au,aa (show j<T.length by omega)];split <;> simp <;> omega
theorem jlo {T:List Val'}{j:Nat}(a:0<j) (h:j<T.length) (b:T[j]=T[j - 1]):JM T (j+1)=JM T j:=by simp only[JM];rw[if_pos ⟨a,by rw[aa zO,aa h,b]⟩,aS]
theorem jf6 {T:List Val'}{j:Nat}(h:j<T.length) (c:0<j->T[j]≠T[j - 1]):JM T (j+1)=JM T j++[T[j]]:=by simp only[JM];rw[if_neg,aa h];rfl;rintro⟨b,a⟩;rw[aa zO,aa h]at a;exact c b (bU a).symm
def CompP (l u n:Nat) (C:List Val') (ob:ZO) (tk:Nat->Bool) (ub:Nat) (r:V × (ZO) × (Nat->Bool) × Nat):Prop :=
 r.1=.osl l u 0 C.length 2/\(∃cs,r.2.1 l=some ⟨u,.cells cs⟩/\cs.length=n*2/\C.length<=n/\cs.take (C.length*2)=C.flatMap J0)/\(∀key,key≠l->r.2.1 key=ob key)/\r.2.2.1=tk/\ub<=r.2.2.2
end Go.Pv.T
namespace Go.Pv.T
open Go Go.Pv
end Go.Pv.T
namespace Go.Pv.T
open Go Go.Pv
end Go.Pv.T
namespace Go.Pv.T
open Go Go.Pv
end Go.Pv.T
namespace Go.Pv.T
open Go Go.Pv
@[simp] theorem j64 (v:Val'):(J0 v).all V.leaf=true:=rfl
theorem jg4 {st:St}{L u n sz:Nat}{cs c:List V}(f:st.ob L=some ⟨u,.cells cs⟩) (e:st.ro<=u) (p:n*sz<=cs.length) (g:cs.take (n*sz)=c) (hp:c.all V.pureLeaf=true):jc2 st (.osl L u 0 n sz) false n c:=by
 have b:objCells st.ob L u=some cs:=by simp[objCells,f]
 have m:∀ (k:Nat) (l:List V),l.all V.pureLeaf=true->l.mapM (JH st (k+1))=some l:=by
  intro k l;induction l with
  | nil=>intro _;rfl
  | cons a l o=>
   intro h;simp only[cQ,ai]at h;rw[bL,o h.2];have:JH st (k+1) a=some a:=by
    have:=Y2 (st:=st) (keep:=false) (i:=0) h.1;cases a with
    | sl t q n cs=>cases t with
     | none=>rfl
     | some t=>cases h.1
    | osl=>cases h.1
    | _=>simp only[JH,h.1,if_true]
   rw[this];rfl
 have j:JH st 6 (.osl L u 0 n sz)=some (.sl none false n c):=by show((objCells st.ob L u).bind λcs=>if Nat.ble st.ro u=true/\0+n*sz<=cs.length then (((cs.drop 0).take (n*sz)).mapM (JH st 5)).map λd=>V.sl none false n d else none)=_;rw[b,am,if_pos ⟨ce▸e,zO⟩,dt,g,m 4 c hp];rfl
 intro keep i;refine⟨_,by simp only[jm,j,am,b,aU];rfl,?_⟩;split;exact .inr ⟨_,rfl⟩;exact .inl rfl
end Go.Pv.T
namespace Go.Pv.T
open Go Go.Pv
end Go.Pv.T
namespace Go.Pv.T
open Go Go.Pv
end Go.Pv.T
namespace Go.Pv.T
open Go Go.Pv
end Go.Pv.T
namespace Go.Pv.T
open Go Go.Pv
end Go.Pv.T
namespace Go.Pv.T
open Go Go.Pv
end Go.Pv.T
namespace Go.Pv.T
open Go Go.Pv
section
end
theorem jut {c:Type}(k0:Int) (b:c) (m:List (Int × c)) (k:Int) (a:c):jjo ((k0,b)::m) k a=if k=k0 then (k,a)::m else (k0,b)::jjo m k a:=by unfold jjo;rw[Jd];by_cases h:k=k0;simp[h];rw[if_neg h,if_neg h];cases Jd m k <;> simp
theorem QG {f:Type}(k:Int) (a:f) (c:Int):∀m:List (Int × f),(Jd (jjo m k a) c).map (·.2)=if c=k then some a else (Jd m c).map (·.2)
 | []=>by by_cases h:c=k <;> simp[jjo,Jd,h]
 | (k0,b)::m=>by rw[jut];have g:=QG k a c m;by_cases h:k=k0;subst h;rw[if_pos rfl,Jd,Jd];by_cases d:c=k <;> simp[d];rw[if_neg h,Jd,Jd];by_cases d:c=k0;subst d;simp[show ¬ c=k from λe=>h e.symm];rw[if_neg d,if_neg d];simp only[Option.map_map];have e:((λx:Nat × f=>x.2) ∘ λp:Nat × f=>(p.1+1,p.2))=λx=>x.2:=rfl;rw[e];exact g
theorem jhn {a:Type}{k:a->a}{y:a}:∀ {l:List a}{i:Nat},y∈l.modify i k->y∈l\/∃x,l[i]? = some x/\y=k x
 | [],i,h=>by simp at h
 | x::l,0,h=>by rw[fD]at h;simp only[if_true,br]at h;rcases h with rfl|h;exact .inr ⟨x,rfl,rfl⟩;exact .inl (bf _ h)
 | x::l,i+1,h=>by rw[fD]at h;simp only[Nat.add_one_ne_zero,if_false,eV,br]at h;rcases h with rfl|h;exact .inl (aP ..);rcases jhn h with h|⟨z,c,b⟩;exact .inl (bf _ h);exact .inr ⟨z,by simpa using c,b⟩
section
variable {g:Hist'}{cs:List Bool}{lo:List Val'}
theorem readIn_mem {i:Nat}{p:Int × Int}:∀ {n:Nat},p∈jx g i n ↔ ∃k:Nat,k<n/\p=((i:Int),(k:Int))/\jbc g i k=true
 | 0=>by simp[jx]
 | n+1=>by simp only[jx,aO,readIn_mem (n:=n)];constructor;rintro(⟨k,c,b⟩|h);exact⟨k,zO,b⟩;split at h;rename_i a;exact⟨n,zO,by simpa using h,a⟩;simp at h;rintro⟨k,c,b,a⟩;rcases aQ.1 c with h|h;exact .inl ⟨k,h,b,a⟩;subst h;right;simp[a,b]
end
section
end
def hd1 (c:Bool × List Int):Int:=c.2.headD 0
end Go.Pv.T
namespace Go.Pv.T
open Go Go.Pv
end Go.Pv.T
namespace Go.Pv.T
open Go Go.Pv
theorem ev39 (h:Hist') (r:h.ts.length<=1000):Ev E 39 [.agg (histC h)] (.sl (some (0,1)) false (numsTo Jt h.ts h.ts.length).length ((numsTo Jt h.ts h.ts.length).flatMap intC)):=by
 refine jS (af:=F39) rfl ?_;conv in (occs := *) F39=> all_goals cbv
 simp[F39,histC];refine jG (cs:=[]) rfl rfl rfl ?_;simp;refine YN (n:=h.ts.length) (λk s=>∃i u,k=h.ts.length - i/\i<=h.ts.length/\s.df=[]/\s.fb=0/\s.ro=0/\s.tm 1=.ptr 2 0 0/\s.ob 2=some ⟨0,.cells (histC h)⟩/\s.tm 4=.int .i64 i/\s.tk u=true /\
  s.tm 3=.sl (some (u,1)) false (numsTo Jt h.ts i).length ((numsTo Jt h.ts i).flatMap intC))
  ⟨0,128,by simp[numsTo,histC]⟩ ?_
 rintro k s ⟨i,u,rfl,q,j,b,c,e,g,d,l,m⟩;by_cases a:i<h.ts.length;simp[e,g,d,objCells,histC,a,j7 jA,jU jA,js];have p:=JQ Jt h.ts i;cases o:h.ts[i].f == 1;simp[d];refine⟨h.ts.length - (i+1),zO,i+1,⟨rfl,zO,j,b,c,e,by simpa[histC] using g,by rw[jX zO zO];simp,u,l,?_⟩⟩;rw[m,JU a,Jt,o];simp;simp[m,d];refine jG (cs:=[.int .i64 i]) (by simp[j2]) rfl rfl ?_;simp;refine J1 (u:=u) (nl:=false) (n:=(numsTo Jt h.ts i).length) (cs:=(numsTo Jt h.ts i).flatMap intC) (ys:=[.int .i64 i]) zS (by simp[ji,l]) (by simp[slCells]) zS (by rw[j3 j9]) zQ rfl (by simp;omega) (by simp;omega) ?_;simp[d,j,b,c,e,g,histC];refine⟨h.ts.length - (i+1),zO,i+1,rfl,zO,by rw[jX zO zO];simp,Or.inl ?_⟩;rw[JU a,Jt,o];simp[intC];have:i=h.ts.length:=zO;subst this;simp[e,g,d,objCells,histC];exact QO (u:=u) (by simpa using j) (by simp[m]) (by simpa using l)
def YH (f:Nat->Bool):Nat->List Int
 | 0=>[]
 | k+1=>YH f k++(if f k then [(k:Int)] else [])
theorem jf3 (f:Nat->Bool):∀n,(YH f n).length<=n
 | 0=>dr _
 | n+1=>by have:=jf3 f n;simp only[YH,au];split <;> simp <;> omega
theorem filTo_mem {f:Nat->Bool}{x:Int}:∀ {n:Nat},x∈YH f n ↔ ∃k:Nat,k<n/\x=k/\f k=true
 | 0=>by simp[YH]
 | n+1=>by rw[YH,aO,filTo_mem];constructor;rintro(⟨k,d,a,b⟩|h);exact⟨k,zO,a,b⟩;cases c:f n;simp[c]at h;simp[c]at h;exact⟨n,zO,h,c⟩;rintro⟨k,d,a,b⟩;rcases cu k n with h|h;exact .inl ⟨k,h,a,b⟩;have:k=n:=zO;subst this;exact .inr (by simp[b,a])
theorem jf4 {f a:Nat->Bool}:∀ {n:Nat},(∀k,k<n->f k=a k)->YH f n=YH a n
 | 0,_=>rfl
 | n+1,h=>by rw[YH,YH,jf4 λk b=>h k zO,h n zO]
def XP (g:Hist') (a:Nat):Bool:=match g.ts[a]? with|some t=>Jt t|none=>false
def sesAt (g:Hist') (a:Nat):Int:=match g.ts[a]? with|some t=>t.s|none=>0
def joa (p:Txn'->Bool) (ts:List Txn') (a:Nat):Bool:=match ts[a]? with|some t=>p t|none=>false
theorem QY (p:Txn'->Bool) (ts:List Txn'):∀n,numsTo p ts n=YH (joa p ts) n
 | 0=>rfl
 | n+1=>by rw[numsTo,YH,QY p ts n];congr 1;unfold joa;cases ts[n]? <;> rfl
theorem Yu {g:Hist'}{a:Nat}(h:XP g a=true):a<g.ts.length:=by
 unfold XP at h;cases b:g.ts[a]? with
 | none=>rw[b]at h;cases h
 | some t=>exact(ak.1 b).1
def comL (g:Hist'):List Int:=numsTo Jt g.ts g.ts.length
theorem comL_mem {g:Hist'}{x:Int}:x∈comL g ↔ ∃k:Nat,x=k/\XP g k=true:=by rw[comL,QY,filTo_mem];exact⟨λ⟨k,_,b,a⟩=>⟨k,b,a⟩,λ⟨k,b,a⟩=>⟨k,Yu a,b,a⟩⟩
theorem jwo {g:Hist'}(h:Jb g=true):comH g=comL g:=by rw[comH,if_pos h];rfl
def j5s (R:List (Int × Int)) (M:List Int) (a b:Nat):Bool:=(R.zip M).any λx=>x.2 == (a:Int) && x.1.1 == (b:Int)
def jdq (g:Hist') (M:List Int) (a b:Nat):Bool:=XP g a && XP g b && ((decide (a<b) && sesAt g a == sesAt g b) || j5s (readH g) M a b)
def war (r:Nat->Nat->Bool):Nat->Nat->Nat->Bool
 | 0,b,a=>r a b
 | k+1,b,a=>war r k b a || (war r k b k && war r k k a)
theorem jau {r:Nat->Nat->Bool}:∀ {K k:Nat},k<K->∀ {b a:Nat},war r K b k=true->war r K k a=true->war r K b a=true
 | K+1,k,hk,b,a,c,d=>by simp only[war,bA,ai]at c d ⊢;rcases cu k K with hlt|hge;rcases c with c|⟨c,f⟩ <;> rcases d with d|⟨d,e⟩;exact .inl (jau hlt c d);exact .inr ⟨jau hlt c d,e⟩;exact .inr ⟨c,jau hlt f d⟩;exact .inr ⟨c,e⟩;have:k=K:=zO;subst this;rcases c with c|⟨c,f⟩ <;> rcases d with d|⟨d,e⟩;exact .inr ⟨c,d⟩;exact .inr ⟨c,e⟩;exact .inr ⟨c,d⟩;exact .inr ⟨c,e⟩
theorem jme {r:Nat->Nat->Bool}{b a:Nat}(h:r a b=true):∀K,war r K b a=true
 | 0=>h
 | K+1=>by simp[war,jme h K]
theorem jn4 {r:Nat->Nat->Bool}{p:Nat->Prop}{q:Nat->Prop}(d:∀a b,q b->r a b=true->p a) (c:∀b,p b->q b):∀ (K:Nat) {b a:Nat},q b->war r K b a=true->p a
 | 0,b,a,hb,h=>d a b hb h
 | K+1,b,a,hb,h=>by simp only[war,bA,ai]at h;rcases h with h|⟨h,e⟩;exact jn4 d c K hb h;exact jn4 d c K (c _ (jn4 d c K hb h)) e
def farB (g:Hist') (M:List Int) (t a:Nat):Bool:=war (jdq g M) g.ts.length t a
theorem jj0 {g:Hist'}{M:List Int}{a b:Nat}(h:jdq g M a b=true):XP g a=true/\XP g b=true:=by simp only[jdq,ai]at h;exact h.1
def atO (O:List Int) (t:Int):Int:=jhw O t 0
def jgn (g:Hist') (p:Int × Int):Int:=match opAt g p.1 p.2 with|some o=>o.key|none=>0
def W3 (g:Hist') (t key:Int):Bool:=(WH (Jz g t).2 key).2
def rcB (R:List (Int × Int)) (M:List Int) (p:Int × Int) (t:Int):Bool:=(R.zip M).any λx=>x.1.1 == p.1 && (decide (x.1.2<p.2) && x.2 == t)
def jcc (g:Hist') (lvl:Int) (M O:List Int) (p:Int × Int) (t:Nat):Bool :=
 if lvl=1 then rcB (readH g) M p t else if lvl=2 then farB g M p.1.toNat t else if lvl=3 then XP g t && decide (atO O t<atO O p.1) else false
def jcd (g:Hist') (lvl:Int) (M O:List Int) (p:Int × Int):List Int:=YH (jcc g lvl M O p) g.ts.length
theorem com_f {g:Hist'}(c:Jb g=true) {a:Nat}{t:Txn'}(b:g.ts[a]? = some t) (i:t.f≠2):XP g a=true:=by
 unfold Jb at c;simp only[ai,gq]at c;obtain⟨d,h,_⟩:=c;have j:t.f≠3:=λe=>by
  have:((a:Nat):Int)∈Xg g:=by rw[Xg,QY,filTo_mem];exact⟨a,(ak.1 b).1,rfl,by simp[joa,b,XC,e]⟩
  rw[h]at this;cases this
 unfold WG at d;simp only[ai,aw]at d;have:=d.2.1 t (aI b);simp only[jdv,ai,decide_eq_true_eq]at this;simp only[XP,b,Jt,beq_iff_eq];omega
theorem of_com {g:Hist'}(f:Jb g=true) {a b x:Int}(h:x∈ofH g a b):x = -1\/x∈comL g:=by
 unfold ofH at h;split at h;split at h;cases h;rw[ofL,aO]at h;rcases h with h|h;unfold JA at h;split at h;cases h;exact .inl (by simpa using h);have d:=(bV.1 h).1;rw[writersH,QY,filTo_mem]at d;obtain⟨k,d,i,c⟩:=d;refine .inr (comL_mem.2 ⟨k,i,?_⟩);unfold joa at c;cases e:g.ts[k]? with
 | none=>rw[e]at c;cases c
 | some t=>rw[e]at c;simp only[wrB,ai,bne_iff_ne,ne_eq]at c;exact com_f f e c.1
 cases h
theorem jl1:∀ {C:List (Bool × List Int)}{M:List Int}{i:Nat}{c:Bool × List Int},jb5 C M=true->C[i]? = some c->∃m,M[i]? = some m/\m∈c.2
 | [],_,_,_,_,hc=>by simp at hc
 | _::_,[],_,_,h,_=>by simp[jb5]at h
 | d::C,m::M,0,c,h,hc=>by simp only[jb5,ai]at h;simp at hc;subst hc;exact⟨m,rfl,by simpa using h.1⟩
 | d::C,m::M,i+1,c,h,hc=>by simp only[jb5,ai]at h;simpa using jl1 h.2 (by simpa using hc)
section
variable {g:Hist'}{M O:List Int}
theorem jzh (h:jaj g M=true) {i:Nat}{p:Int × Int}(hp:(readH g)[i]? = some p):∃m,M[i]? = some m/\m∈ofH g p.1 p.2:=by unfold jaj at h;simp only[ai]at h;exact jl1 (c:=(false,ofH g p.1 p.2)) h.2.2 (by simp[choR,hp])
theorem W2 (h:jaj g M=true):M.length=(readH g).length:=by unfold jaj at h;simp only[ai,beq_iff_eq]at h;simpa[choR] using h.2.1
theorem jfh (h:jaj g M=true):Jb g=true:=by unfold jaj at h;simp only[ai]at h;exact h.1
theorem j4l (h:jaj g M=true) {m:Int}(d:m∈M):m = -1\/m∈comL g:=by
 obtain⟨i,c,e⟩:=bH d;have a:i<(readH g).length:=by rw[<- W2 h];exact c
 obtain⟨j,b,f⟩:=jzh h (aa a);rw[aa c]at b;cases b;rw[<- e];exact of_com (jfh h) f
theorem je5 {p:Int × Int}:∀ {n:Nat},p∈XI g n->∃ (i k:Nat) (t:Txn'),p=((i:Int),(k:Int))/\g.ts[i]? = some t/\Jt t=true/\k<t.ops.length/\jbc g i k=true
 | 0,h=>by simp[XI]at h
 | n+1,h=>by
  rw[XI,aO]at h;rcases h with h|h;exact je5 h;cases a:g.ts[n]? with
  | none=>rw[a]at h;cases h
  | some t=>rw[a]at h;simp only at h;split at h;rename_i e;obtain⟨k,c,b,d⟩:=readIn_mem.1 h;exact⟨n,k,t,b,a,e,c,d⟩;cases h
theorem jyi {p:Int × Int}(h:p∈readH g):p.1∈comL g:=by obtain⟨i,k,t,rfl,a,b,_⟩:=je5 h;exact comL_mem.2 ⟨i,rfl,by simp[XP,a,b]⟩
/-! Orders -/
theorem j6c (g:Hist'):(comL g).Pairwise (· < ·):=(QE (p:=Jt) (ts:=g.ts) g.ts.length zK).2
/-! Where each stands -/
/-! Sessions -/
/-! What reads see -/
/-! Levels -/
end
section
end
section
end
end Go.Pv.T
namespace Go.Pv.T
section
variable {nx:Nat->Nat->Bool}{C:List Nat}{most:Int}
theorem jnc:∀ {O C:List Nat},O.Nodup->(∀x∈O,x∈C)->O.length<=C.length
 | [],_,_,_=>Nat.zero_le _
 | x::r,C,hn,hs=>by rw[List.nodup_cons]at hn;have a:=hs x (List.mem_cons_self ..);have:=jnc (O:=r) (C:=C.erase x) hn.2 λy b=>(List.mem_erase_of_ne λ(e:y=x)=>hn.1 (e▸b)).2 (hs y (List.mem_cons_of_mem _ b));rw[List.length_erase_of_mem a]at this;have c:0<C.length:=List.length_pos_of_mem a;simp only[List.length_cons];omega
end
end Go.Pv.T
namespace Go.Pv.T
open Go Go.Pv
def ints (L:List Nat):List Int:=L.map λa:Nat=>(a:Int)
section
end
def XX (n:Nat) (p:Nat->Nat->Bool) (D:List Nat) (a:Nat):Bool:=!D.contains a && (List.range n).all λx=>!p x a || D.contains x
def XY (n:Nat) (p:Nat->Nat->Bool):Nat->List Nat->Option (List Nat)
 | 0,D=>some D
 | k+1,D=>match (List.range n).find? (XX n p D) with
  | none=>none
  | some a=>XY n p k (D++[a])
def cntP (n:Nat) (p:Nat->Nat->Bool) (D:List Nat) (b:Nat):Nat:=((List.range n).filter λx=>p x b && !D.contains x).length
structure AhOk (n:Nat) (p:Nat->Nat->Bool) (D:List Nat) (A:List Int):Prop where
 l:A.length=n
 d:∀b,b<n->b∈D->A.getD b 0 = -1
 c:∀b,b<n->b ∉ D->A.getD b 0=cntP n p D b
 k:∀b x,b∈D->x<n->p x b=true->x∈D
theorem j0r {n:Nat}{p:Nat->Nat->Bool}{D:List Nat}{a:Nat}(h:a ∉ D):XX n p D a=true ↔ cntP n p D a=0:=by
 unfold XX cntP;rw[dI,ib];have:D.contains a=false:=by simpa using h
 rw[this,cG,co,aw];constructor;intro b x c;have:=b x c;cases d:p x a <;> simp_all;intro b x c;have:=b x c;cases d:p x a <;> simp_all
theorem AhOk.free {n:Nat}{p:Nat->Nat->Bool}{D:List Nat}{A:List Int}(h:AhOk n p D A) {a:Nat}(e:a<n):XX n p D a=decide (A.getD a 0=0):=by
 rw[bB,decide_eq_true_eq];by_cases b:a∈D;have g:=h.d a e b;have:XX n p D a=false:=by simp[XX,b]
 rw[this];constructor;exact λh=>(by cases h);intro f;omega;rw[j0r b,h.c a e b];omega
theorem AhOk.find {n:Nat}{p:Nat->Nat->Bool}{D:List Nat}{A:List Int}(h:AhOk n p D A):(List.range n).find? (XX n p D)=(List.range n).find? λa=>decide (A.getD a 0=0):=by
 have:∀l:List Nat,(∀a∈l,a<n)->l.find? (XX n p D)=l.find? λa=>decide (A.getD a 0=0):=by
  intro l;induction l with
  | nil=>intro _;rfl
  | cons a l e=>intro c;rw[List.find?_cons,List.find?_cons,h.free (c a (aP ..)),e λb f=>c b (bf _ f)]
 exact this _ λa d=>aH.1 d
def decL (A:List Int) (bs:List Nat):List Int:=bs.foldl (λA b=>A.set b (A.getD b 0 - 1)) A
theorem jwk (A:List Int) (bs:List Nat) (b:Nat):decL A (bs++[b])=(decL A bs).set b ((decL A bs).getD b 0 - 1):=by simp[decL]
theorem jpv (A:List Int):∀a:List Nat,(decL A a).length=A.length:=by
 intro a;induction a generalizing A with
 | nil=>rfl
 | cons b a c=>rw[show decL A (b::a)=decL (A.set b (A.getD b 0 - 1)) a from rfl,c,dE]
theorem jd7 (A:List Int) {b:Nat}(a:b<A.length) (x:Int) (c:Nat):(A.set b x).getD c 0=if c=b then x else A.getD c 0:=by rw[ag,ag,List.getElem?_set];by_cases h:b=c;subst h;simp[a];rw[if_neg h,if_neg (dV h)]
theorem jwl (A:List Int):∀ (bs:List Nat),bs.Nodup->(∀b∈bs,b<A.length)->∀c,(decL A bs).getD c 0=A.getD c 0 - if c∈bs then 1 else 0:=by
 intro bs;induction bs generalizing A with
 | nil=>intro _ _ c;simp[decL]
 | cons b bs g=>intro e f c;rw[dN]at e;have d:=f b (aP ..);rw[show decL A (b::bs)=decL (A.set b (A.getD b 0 - 1)) bs from rfl,g _ e.2 (λx i=>by rw[dE];exact f x (bf _ i)),jd7 A d];by_cases h:c=b;subst h;rw[if_pos rfl,if_neg e.1,if_pos (aP ..)];omega;rw[if_neg h];by_cases a:c∈bs;rw[if_pos a,if_pos (bf _ a)];rw[if_neg a,if_neg (by simp[h,a])]
theorem j6f (n:Nat) (p:Nat->Nat->Bool) (D:List Nat) (b:Nat):cntP n p D b<=n:=bG (bD _ _) zS
theorem j6e {n:Nat}{p:Nat->Nat->Bool}{D:List Nat}{a:Nat}(j:a<n) (i:a ∉ D) (b:Nat):cntP n p D b=cntP n p (D++[a]) b+if p a b=true then 1 else 0:=by
 have d:∀l:List Nat,l.Nodup->(l.filter λx=>p x b && !D.contains x).length=(l.filter λx=>p x b && !(D++[a]).contains x).length+if a∈l/\p a b=true then 1 else 0:=by
  intro l;induction l with
  | nil=>intro _;simp
  | cons x l c=>
   intro f;rw[dN]at f;have c:=c f.2;by_cases e:x=a;subst e;have g:D.contains x=false:=by simpa using i
   have h:(D++[x]).contains x=true:=zS;rw[cq,cq,g,h];rw[if_neg (by simp[f.1])]at c;cases k:p x b;simp only[bZ,aj,if_false,and_false];exact c;simp only[co,cG,cZ,if_true,aj,if_false,bo,c,br,true_or,and_self,bj];have g:(D++[a]).contains x=D.contains x:=by rw[bB];simp[e]
   rw[cq,cq,g];have h:(a∈x::l/\p a b=true) ↔ (a∈l/\p a b=true):=by simp[dV e]
   simp only[h];split;simp only[bo,c];omega;exact c
 have:=d (List.range n) gp;unfold cntP;rw[this];simp[j]
theorem AhOk.rng {n:Nat}{p:Nat->Nat->Bool}{D:List Nat}{A:List Int}(h:AhOk n p D A) (b:Nat):-1<=A.getD b 0/\A.getD b 0<=n:=by by_cases e:b<n;by_cases a:b∈D;rw[h.d b e a];omega;rw[h.c b e a];have:=j6f n p D b;omega;rw[ag,cX (by rw[h.l];omega)];simp
theorem AhOk.next {n:Nat}{p:Nat->Nat->Bool}{D:List Nat}{A:List Int}(h:AhOk n p D A) {a:Nat}(s:a<n) (q:XX n p D a=true) {bs:List Nat}(j:∀b,b∈bs ↔ b<n/\p a b=true) (F:bs.Nodup):AhOk n p (D++[a]) (decL (A.set a (-1)) bs):=by
 unfold XX at q;simp only[ai,bJ,aw,aH]at q;have t:a ∉ D:=by simpa using q.1
 have m:∀x,x<n->p x a=true->x∈D:=λx r f=>by have:=q.2 x r;simpa[f] using this
 have w:∀b,b∈D->p a b=false:=λb g=>by cases f:p a b;rfl;exact absurd (h.k b a g s f) t
 have y:p a a=false:=by cases f:p a a;rfl;exact absurd (m a s f) t
 have B:(A.set a (-1)).length=n:=by rw[dE,h.l]
 have o:∀c,(decL (A.set a (-1)) bs).getD c 0=(if c=a then -1 else A.getD c 0) - if c∈bs then 1 else 0:=λc=>by rw[jwl _ bs F (λb g=>by rw[B];exact((j b).1 g).1),jd7 A (by rw[h.l];exact s)]
 refine⟨by rw[jpv,B],λb g i=>?_,λb g i=>?_,λb x g r f=>?_⟩;rw[o];rw[aO,ae]at i;have z:b ∉ bs:=λu=>by have:=((j b).1 u).2;rcases i with i|rfl;rw[w b i]at this;cases this;rw[y]at this;cases this
 rw[if_neg z];by_cases e:b=a;rw[if_pos e];omega;rw[if_neg e,h.d b g (i.resolve_right e)];omega;rw[aO,ae,not_or]at i;rw[o,if_neg i.2,h.c b g i.1,j6e s t b];by_cases f:p a b=true;rw[if_pos f,if_pos ((j b).2 ⟨g,f⟩)];omega;rw[if_neg f,if_neg λu=>f ((j b).1 u).2];omega;rw[aO,ae]at g ⊢;rcases g with g|rfl;exact .inl (h.k b x g r f);exact .inl (m x r f)
end Go.Pv.T
namespace Go.Pv
open Go
section
end
section
end
section
variable {α:Type}
def MK (q:IntKind) (f:α->V) (m:List (Int × α)):List (V × V):=m.map λp=>(.int q p.1,f p.2)
@[simp] theorem MK_length (q:IntKind) (f:α->V) (m:List (Int × α)):(MK q f m).length=m.length:=by simp[MK]
end
section
variable {α:Type}{f:α->V}{E:Env}{Yf:YF}{st:St}{ub:Nat}{K:St->Nat->Prop}{d:Option Nat}{nm:Bool}{x y z:A}{l u ver:Nat}{k:Int}{q:IntKind}
section
variable {r:List AOpr}{K':List FP->St->Prop}
theorem j2b {f:FuncId}{xs:List A}{cs:List V}(e:xs.map (eval E st.tm)=[.sl none true 0 []]) (c:E.sh nm f=true) (b:E.tw f=false) (g:E.nw f=some cs)
 (h:jF E r (st.app d { v:=.ptr (jH d nm st.fb ub) ub 0,obs:=[(jH d nm st.fb ub,⟨ub,.cells cs⟩)] }) (ub+64) (kFp { wo:=[jH d nm st.fb ub],nw:=true } K')):jF E (⟨d,.call f xs,none,nm⟩::r) st ub K':=by
 have a:jB E nm (eval E st.tm) (.call f xs)=some (f,[.sl none true 0 []]):=by simp only[jB,c,e,cZ,bZ,aj,if_false]
 simp only[jF,wanted,a];refine .inr (.inr ⟨c,b,{ v:=.ptr (jH d nm st.fb ub) ub 0,obs:=[(jH d nm st.fb ub,⟨ub,.cells cs⟩)] },?_,h⟩);simp only[mkD,g];cases nm <;> rfl
end
end
def jm8:List FP->Bool
 | []=>true
 | f::r=>(r.all λg=>(!f.nw || QF f g) && (!g.nw || QF g f)) && jm8 r
theorem jo1:∀ {fs:List FP},jm8 fs=true->∀ {i j:Nat}{f g:FP},fs[i]? = some f->fs[j]? = some g->i≠j->f.nw=true->QF f g=true
 | [],_,i,j,f,g,hi,_,_,_=>by simp at hi
 | f0::r,h,i,j,f,g,hi,hj,hne,hn=>by
  simp only[jm8,ai,aw,bA,bJ]at h;cases i with
  | zero=>
   cases j with
   | zero=>exact absurd rfl hne
   | succ j=>simp only[aD,ab,bO]at hi hj;subst hi;rcases(h.1 g (aI hj)).1 with h|h;rw[hn]at h;cases h;exact h
  | succ i=>
   cases j with
   | zero=>simp only[aD,ab,bO]at hi hj;subst hj;rcases(h.1 f (aI hi)).2 with h|h;rw[hn]at h;cases h;exact h
   | succ j=>simp only[bO]at hi hj;exact jo1 h.2 hi hj (λe=>hne (by rw[e])) hn
theorem jzc {fs:List FP}(h:jm8 fs=true):jah fs=true:=by
 unfold jah jur;rw[bA];refine .inr ?_;rw[aw];intro i a;rw[aH]at a;have m:fs[i]? = some (fs.getD i {}):=by rw[ag,aa a];rfl
 cases g:(fs.getD i {}).nw;rfl;rw[cZ,cp,aw];intro j b;rw[aH]at b;have c:fs[j]? = some (fs.getD j {}):=by rw[ag,aa b];rfl
 by_cases e:i=j;subst e;simp;rw[jo1 h m c e g,ie]
theorem juq:jm8 []=true:=rfl
theorem jrd (f:FP) (r:List FP):jm8 (f::r)=((r.all λg=>(!f.nw || QF f g) && (!g.nw || QF g f)) && jm8 r):=rfl
end Go.Pv
namespace Go.Pv.T
open Go Go.Pv
end Go.Pv.T
namespace Go.Pv.T
open Go Go.Pv
theorem ev63 {a:Bool}(l:List Int) (r:l.length<=1000000000) (k:Int):Ev E 63 [slOf a intC l,.int .i64 k] (.int .i64 (atO l k)):=by
 refine jS (af:=F63) rfl ?_;unfold atO;conv in (occs := *) F63=> all_goals cbv
 simp[F63];refine j6 [(4,18)] l.length (λi s=>s.tm 5=.int .i64 i/\jhw (l.drop i) k i=jhw l k 0) rfl rfl ⟨zS,zS⟩ ?_;rintro i s u ⟨m,c⟩ f;have j:s.tm 0=slOf a intC l:=by rw[f.t 0 zS];simp
 have o:s.tm 1=.int .i64 k:=by rw[f.t 1 zS];simp
 have n:s.df=[]:=by rw[f.d];simp
 clear f;by_cases b:i<l.length;have q:=jZ b zO;have p:=jr l b;rw[aW b,jhw]at c;cases h:(l[i] == k);have g:(k == l[i])=false:=by rw[beq_eq_false_iff_ne]at h ⊢;exact λe=>h e.symm
 rw[g]at c;simp only[aj,if_false]at c;simp[m,j,o,b,j7 j9,p,h,q];exact c;have g:(k == l[i])=true:=by rw[beq_iff_eq]at h ⊢;exact h.symm
 rw[g]at c;simp only[if_true]at c;simp[m,j,o,b,j7 j9,p,h];exact j4 (by simp[n]) (by rw[<- c];simp) rfl;have:i=l.length:=zO;subst this;rw[dA,jhw]at c;simp[m,j];exact j4 (by simp[n]) (by rw[<- c];simp) rfl
theorem ev64 {g:Hist'}(h:Small g) (i key:Int):Ev E 64 [.agg (histC g),.int .i64 i,.int .i64 key] (.tup [.agg (J0 (WH (Jz g i).2 key).1),.bool (WH (Jz g i).2 key).2]):=by
 have a:=ev58 h;refine jS (af:=F64) rfl ?_;cases d:WG g;rw[jai d]at a;have b:Jz g i=(true,[]):=by unfold Jz;rw[d];rfl
 rw[b];simp[F64,histC,objCells];refine jJ a (by simp[histC]) rfl (by simp[histC]) ?_;simp[objCells,j2];exact J8 zS (l:=[.agg (J0 ⟨0,0⟩),.bool false]) (by simp[jo,objCells,J0]) rfl rfl;rw[W1 d]at a;by_cases m:0<=i;by_cases k:i<g.ts.length;obtain⟨n,rfl⟩:∃n:Nat,i=n:=⟨i.toNat,zO⟩;have c:n<g.ts.length:=zO;have b:(Jz g (n:Int)).2=(g.ts[n]).ops:=by unfold Jz;simp[d,c,ag]
 rw[b,WH];have j:=h.os _ (av c);have f:=ev84 g.ts[n] zO key;have e:(g.ts.flatMap js)[n*3+2]? = some (slOf (g.ts[n]).nl opC (g.ts[n]).ops):=by rw[jU jA g.ts c (by decide:2<3)];rfl
 simp[F64,histC,objCells];refine jJ a (by simp[histC]) rfl (by simp[histC]) ?_;simp[objCells,c,Nat.not_le.2 c,show ¬ ((n:Int)<0) by omega,j7 jA,jh jA,e];refine Js f (by simp[js]) rfl (by simp[js]) ?_;rw[Jr (by simp[V.plain,J0])];generalize (JT key g.ts[n].ops g.ts[n].ops.length).1=rv at *;generalize (JT key g.ts[n].ops g.ts[n].ops.length).2=rb at *;simp[J0,objCells,j2];exact J8 zS (l:=[.agg [.int .i64 rv.kind,.int .i64 rv.n],.bool rb]) (by simp[jo,objCells]) rfl rfl;have b:Jz g i=(true,[]):=by unfold Jz;simp[k]
 rw[b];simp[F64,histC,objCells];refine jJ a (by simp[histC]) rfl (by simp[histC]) ?_;simp[objCells,j2,show ¬ i<0 by omega,show(g.ts.length:Int)<=i by omega];exact J8 zS (l:=[.agg (J0 ⟨0,0⟩),.bool false]) (by simp[jo,objCells,J0]) rfl rfl;have b:Jz g i=(true,[]):=by unfold Jz;simp[m]
 rw[b];simp[F64,histC,objCells];refine jJ a (by simp[histC]) rfl (by simp[histC]) ?_;simp[objCells,j2,show i<0 by omega];exact J8 zS (l:=[.agg (J0 ⟨0,0⟩),.bool false]) (by simp[jo,objCells,J0]) rfl rfl
theorem jjd {g:Hist'}{a:Nat}(h:a<g.ts.length):XP g a=((g.ts[a]).f == 1):=by simp[XP,Jt,h]
theorem joi {g:Hist'}{a:Nat}(h:a<g.ts.length):sesAt g a=(g.ts[a]).s:=by simp[sesAt,h]
theorem jtw (l:List (Int × Int)) {i:Nat}(h:i<l.length):(l.flatMap jE)[i*2]? = some (.int .i64 (l[i]).1)/\(l.flatMap jE)[i*2+1]? = some (.int .i64 (l[i]).2):=by have a:=jU jT l h (by decide:0<2);have b:=jU jT l h (by decide:1<2);rw[bj]at a;exact⟨a.trans rfl,b.trans rfl⟩
theorem ev122 {g:Hist'}(O:Small g) {nl:Bool}{M:List Int}(hM:M.length=(readH g).length) {a b:Nat}(o:a<g.ts.length) (q:b<g.ts.length) :
 Ev E 122 [.agg (histC g),slOf false jE (readH g),slOf nl intC M,.int .i64 (a:Int),.int .i64 (b:Int)] (.bool (jdq g M a b)):=by
 have T:=ja8 O;have a0:=O.ts;refine jS (af:=F122) rfl ?_;unfold jdq;rw[jjd o,jjd q,joi o,joi q];generalize readH g=R at *;have G:(g.ts.flatMap js)[a*3+1]? = some (.int .i64 (g.ts[a]).f):=by rw[jU jA g.ts o (by decide:1<3)];rfl
 have P:(g.ts.flatMap js)[b*3+1]? = some (.int .i64 (g.ts[b]).f):=by rw[jU jA g.ts q (by decide:1<3)];rfl
 have sa:(g.ts.flatMap js)[a*3]? = some (.int .i64 (g.ts[a]).s):=by have:=jU jA g.ts o (by decide:0<3);rw[bj]at this;rw[this];rfl
 have sb:(g.ts.flatMap js)[b*3]? = some (.int .i64 (g.ts[b]).s):=by have:=jU jA g.ts q (by decide:0<3);rw[bj]at this;rw[this];rfl
 have z:∀ {x:Int}{c:Bool},(x == 1)=c->(x != 1) = !c:=λh=>by rw[<- h];rfl
 cases r:((g.ts[a]).f == 1);simp[F122,histC,objCells,o,j7 jA,G,z r];exact j4 zS zS rfl;cases w:((g.ts[b]).f == 1);simp[F122,histC,objCells,o,q,j7 jA,G,P,z r,z w];exact j4 zS zS rfl;obtain⟨c,J⟩:∃c,j5s R M a b=c:=⟨_,rfl⟩;rw[J];unfold j5s at J;simp[F122,histC,objCells,o,q,j7 jA,G,P,z r,z w];generalize B:jsc E YC _ _=KK;have p:∀n:St,n.tm 1=slOf false jE R->n.tm 2=slOf nl intC M->n.tm 3=.int .i64 (a:Int)->n.tm 4=.int .i64 (b:Int)->n.df=[]->n.tm 45=.bool (decide (a<b) && (g.ts[a]).s == (g.ts[b]).s)->KK .nrm n:=by
  intro n Z S U X K y;rw[<- B];clear B;generalize (decide (a<b) && (g.ts[a]).s == (g.ts[b]).s)=c0 at *;cases c0;simp only[cp];simp[y];refine j6 [(10,11),(46,66)] R.length (λi s=>s.tm 11=.int .i64 i/\((R.drop i).zip (M.drop i)).any (λx=>x.2 == (a:Int) && x.1.1 == (b:Int))=c) rfl rfl ⟨zS,by simpa using J⟩ ?_;rintro i s hi ⟨m,l⟩ f;have D:s.tm 1=slOf false jE R:=by rw[f.t 1 zS];simp[Z]
  have H:s.tm 2=slOf nl intC M:=by rw[f.t 2 zS];simp[S]
  have I:s.tm 3=.int .i64 (a:Int):=by rw[f.t 3 zS];simp[U]
  have Q:s.tm 4=.int .i64 (b:Int):=by rw[f.t 4 zS];simp[X]
  have L:s.df=[]:=by rw[f.d];simp[K]
  clear f;by_cases j:i<R.length;have N:=jZ j zO;have e:i<M.length:=zO;have r:=jr M e;have w:=(jtw R j).1;rw[aW j,aW e,fZ,bu]at l;cases u:(M[i] == (a:Int));rw[u,bZ,cp]at l;simp[m,D,H,I,j,e,j7 j9,r,u,N];exact l;cases F:((R[i]).1 == (b:Int));rw[u,F,co,cp]at l;simp[m,D,H,I,Q,j,e,j7 j9,j7 jT,r,w,u,F,N];exact l;rw[u,F,co,gi]at l;simp[m,D,H,I,Q,j,e,j7 j9,j7 jT,r,w,u,F];exact j4 (by simp[L]) (by simp[<- l]) rfl;have:i=R.length:=zO;subst this;rw[dA]at l;simp[m,D];exact j4 (by simp[L]) (by simp[<- l]) rfl;simp[y];exact j4 (by simp[K]) zS rfl
 by_cases k:a<b;simp[k,objCells,o,q,j7 jA,sa,sb];exact p _ zS zS zS zS zS (by simp[k]);simp[k];exact p _ zS zS zS zS zS (by simp[k])
theorem jpz (l:List Bool) {i:Nat}(h:i<l.length):(l.map V.bool)[i]? = some (.bool l[i]):=by simp[h]
theorem jqk (bs:List Bool) (k:Nat) (b:Bool) (h:k<bs.length):j2 (bs.map V.bool) k [.bool b]=(bs.set k b).map V.bool:=by unfold j2;rw[dM,cH,if_pos (by simpa using h)];simp
theorem jva {Yf:YF}{f:FuncId}{xs:List A}{st:St}{ub:Nat}{K:St->Nat->Prop}{d:Option Nat}{nm:Bool}{vs:List V}{P:V->Prop}(b:xs.map (eval E st.tm)=vs) (a:E.sh nm f=false) (hp:(vs.all λv=>v.strip.pureTop)=false)
 (c:∃v,EvO E f vs st.ob st.tk ((st.fb+d.getD 0+1)*1024) ub v/\P v) (h:∀v,P v->wpD (Xf ub v) (WR K st d ub)):j8 E Yf ⟨d,.call f xs,none,nm⟩ st ub K:=by
 obtain⟨v,e,g⟩:=c;exact jb b a hp e (h v g)
section
variable (g:Hist') (M:List Int) (t:Nat)
def jf2 (bs:List Bool) (a b:Nat):Bool:=!bs.getD a false && ((b == t || bs.getD b false) && jdq g M a b)
def FarS (bs:List Bool):Prop:=bs.length=g.ts.length/\∀a,bs.getD a false=true->farB g M t a=true
def FarR (bs0:List Bool) (i j:Nat) (bs:List Bool) (more:Bool):Prop:=FarS g M t bs/\(more=false->bs=bs0/\∀a b,(a<i\/a=i/\b<j)->b<g.ts.length->jf2 g M t bs0 a b=false) /\
 (more=true->bs.count false+1<=bs0.count false)
end
section
variable {g:Hist'}{M:List Int}{t:Nat}
theorem FarS.fire {bs:List Bool}(h:FarS g M t bs) (j:t<g.ts.length) {a b:Nat}(i:b<g.ts.length) (c:jf2 g M t bs a b=true):FarS g M t (bs.set a true):=by refine⟨by simp[h.1],λx f=>?_⟩;unfold jf2 at c;simp only[ai,bA,beq_iff_eq]at c;by_cases d:x=a;subst d;rcases c.2.1 with rfl|h2;exact jme c.2.2 _;exact jau i (h.2 b h2) (jme c.2.2 _);refine h.2 x ?_;rw[ag,cN (λe=>d e.symm)]at f;simpa[ag] using f
theorem jrz {bs:List Bool}{a:Nat}(b:a<bs.length) (c:bs.getD a false=false):(bs.set a true).count false+1=bs.count false:=by
 have e:bs[a]=false:=by simpa[ag,b] using c
 have d:0<bs.count false:=ek.2 (e▸av b);rw[eW b,e];simp;omega
theorem FarR.next {e bs:List Bool}{i j:Nat}{m:Bool}(h:FarR g M t e i j bs m) (r:t<g.ts.length) (hi:i<g.ts.length) (s:j<g.ts.length) :
 FarR g M t e i (j+1) (if jf2 g M t bs i j then bs.set i true else bs) (m || jf2 g M t bs i j):=by
 obtain⟨l,n,o⟩:=h;cases d:jf2 g M t bs i j;simp only[bq,aj,if_false];refine⟨l,λk=>?_,o⟩;obtain⟨rfl,q⟩:=n k;refine⟨rfl,λa b c p=>?_⟩;rcases c with c|⟨rfl,c⟩;exact q a b (.inl c) p;rcases aQ.1 c with h|h;exact q a b (.inr ⟨rfl,h⟩) p;subst h;exact d;simp only[ie,if_true];have f:bs.getD i false=false:=by unfold jf2 at d;simp only[ai,bJ]at d;exact d.1
 have u:=jrz (by rw[l.1];exact hi) f;refine⟨l.fire r s d,λk=>(by cases k),λ_=>?_⟩;cases m;rw[(n rfl).1]at u ⊢;omega;have:=o rfl;omega
theorem FarR.row {d bs:List Bool}{i:Nat}{m:Bool}(h:FarR g M t d i g.ts.length bs m):FarR g M t d (i+1) 0 bs m:=by refine⟨h.1,λe=>⟨(h.2.1 e).1,λa b c f=>(h.2.1 e).2 a b ?_ f⟩,h.2.2⟩;rcases c with c|⟨_,c⟩;rcases aQ.1 c with h1|h1;exact .inl h1;exact .inr ⟨h1,f⟩;omega
theorem j5x {bs:List Bool}(j:FarS g M t bs) (o:t<g.ts.length) (h:∀a b,a<g.ts.length->b<g.ts.length->jf2 g M t bs a b=false):bs=(List.range g.ts.length).map (farB g M t):=by
 apply dJ;simp[j.1];intro a k n;have m:a<g.ts.length:=by rw[<- j.1];exact k
 rw[List.getElem_map,List.getElem_range];have l:bs.getD a false=bs[a]:=by simp[ag,k]
 cases f:farB g M t a;cases e:bs[a];rfl;rw[j.2 a (by rw[l,e])]at f;cases f;have:=jn4 (r:=jdq g M) (p:=λa=>bs.getD a false=true/\a<g.ts.length) (q:=λb=>b=t\/bs.getD b false=true/\b<g.ts.length) (λa b e d=>by
  have c:=Yu (jj0 d).1;have i:=Yu (jj0 d).2;have:=h a b c i;unfold jf2 at this;rw[d,ec]at this;rcases e with rfl|⟨e,_⟩;simp at this;exact⟨by simpa[ag] using this,c⟩;rw[e]at this;simp at this;exact⟨by simpa[ag] using this,c⟩) (λb e=>.inr e) g.ts.length (b:=t) (.inl rfl) f
 rw[l]at this;exact this.1
end
theorem j6n (bs:List Bool):bs.map V.bool=bs.flatMap blC:=by induction bs <;> simp_all [blC]
theorem bl_end {st:St}{q l u n:Nat}{bs:List Bool}{P:V->Prop}(o:∀r,SlR r false n (bs.flatMap blC)->P r) (k:st.df=[]) (x:st.tm q=.osl l u 0 n 1) (d:st.ob l=some ⟨u,.cells (bs.flatMap blC)⟩) (m:bs.length=n) (_:0<n) (z:st.ro=0):Qm [.t q] P .ret st:=by
 have e:(bs.flatMap blC).length=n:=by rw[j3 jnw,bz,m]
 have a:objCells st.ob l u=some (bs.flatMap blC):=by simp[objCells,d]
 have j:(bs.flatMap blC).mapM (JH st 5)=some (bs.flatMap blC):=by
  clear a d e m o;induction bs with
  | nil=>rfl
  | cons b bs y=>rw[bl];show(V.bool b::bs.flatMap blC).mapM (JH st 5)=_;rw[bL,y];rfl
 have s:JH st 6 (.osl l u 0 n 1)=some (.sl none false n (bs.flatMap blC)):=by show((objCells st.ob l u).bind λcs=>if Nat.ble st.ro u=true/\0+n*1<=cs.length then (((cs.drop 0).take (n*1)).mapM (JH st 5)).map λf=>V.sl none false n f else none)=_;rw[a,am,if_pos ⟨ce▸zO,zO⟩,dt,bz,aK zO,j];rfl
 have d:∃t:Option (Nat × Nat),jm st true 0 (.osl l u 0 n 1)=some (.sl t false n (bs.flatMap blC))/\∀p∈t.toList,p.1<64:=by simp only[jm,s,am,a,aU];refine⟨_,rfl,λp c=>?_⟩;split at c;simp at c;subst c;decide;simp at c
 obtain⟨t,i,h⟩:=d;have g:[ARes.t q].mapM (jo st)=some [.osl l u 0 n 1]:=by simp[jo,x]
 refine⟨.sl t false n (bs.flatMap blC),?_,o _ ⟨t,rfl,h⟩⟩;simp only[jas,YJ k,YD k,if_true,g,am,Yd];have w:nodup ([V.osl l u 0 n 1].flatMap V.toks)=true:=rfl;rw[w];simp only[JK,XS,i,am,aU];cases t <;> rfl
theorem ev75 {g:Hist'}(hs:Small g) {nl:Bool}{M:List Int}(hM:M.length=(readH g).length) {t:Nat}(ht:t<g.ts.length) :
 ∃v,Ev E 75 [.agg (histC g),slOf false jE (readH g),slOf nl intC M,.int .i64 (t:Int)] v/\SlR v false g.ts.length (((List.range g.ts.length).map (farB g M t)).flatMap blC):=by
 have d5:=hs.ts;have d1:0<g.ts.length:=zO;refine JZ (af:=F75) rfl zQ ?_;conv in (occs := *) F75=> all_goals cbv
 simp[F75,histC,objCells];refine jpb (n:=g.ts.length) zS zS zO zO zO rfl zQ ?_;simp[jcf];refine jQ λO q=>?_;have g1:O.tm 1=slOf false jE (readH g):=by rw[q];simp
 have g2:O.tm 2=slOf nl intC M:=by rw[q];simp
 have g3:O.tm 3=.int .i64 (t:Int):=by rw[q];simp
 have g4:O.tm 4=.ptr 8 0 0:=by rw[q];simp
 have g9:O.tm 9=.osl 32 320 0 g.ts.length 1:=by rw[q];simp
 have d2:O.tm 10=.bool true:=by rw[q];simp
 have p8:O.ob 8=some ⟨0,.cells (histC g)⟩:=by rw[q];simp[histC]
 have d0:O.ob 32=some ⟨320,.cells ((List.replicate g.ts.length false).map V.bool)⟩:=by rw[q];simp
 have gd:O.df=[]:=by rw[q];simp
 have gr:O.ro=0:=by rw[q];simp
 have gb:O.fb=0:=by rw[q];simp
 clear q;obtain⟨J,hJ⟩:∃J:Nat->St->Prop,J=λk s=>∃bs m,FarS g M t bs/\(m=false->∀a b,a<g.ts.length->b<g.ts.length->jf2 g M t bs a b=false)/\bs.count false+(if m then 1 else 0)<=k /\
  s.tm 1=slOf false jE (readH g)/\s.tm 2=slOf nl intC M/\s.tm 3=.int .i64 (t:Int)/\s.tm 4=.ptr 8 0 0/\s.tm 9=.osl 32 320 0 g.ts.length 1/\s.tm 10=.bool m/\s.ob 8=some ⟨0,.cells (histC g)⟩/\s.ob 32=some ⟨320,.cells (bs.map V.bool)⟩/\s.df=[]/\s.ro=0/\s.fb=0:=⟨_,rfl⟩
 refine YN (n:=g.ts.length+1) J (by
  rw[hJ];exact⟨List.replicate g.ts.length false,true,⟨zS,λa h=>by simp[ag,gU]at h;split at h <;> cases h⟩,(λh=>by cases h),zS,g1,g2,g3,g4,g9,d2,p8,d0,gd,gr,gb⟩) ?_
 intro k s c6;rw[hJ]at c6;obtain⟨P,m,hF,d3,hk,s1,s2,s3,s4,s9,c2,o8,b5,sd,sr,sb⟩:=c6;cases m;simp[c2];have c7:=j5x hF ht (d3 rfl);rw[c7,j6n]at b5;refine bl_end (l:=32) (u:=320) (n:=g.ts.length) (bs:=(List.range g.ts.length).map (farB g M t)) (λr h=>h) (by simp[sd]) (by simp[s9]) (by simpa using b5) zS d1 (by simp[sr]);simp only[if_true]at hk;simp[c2];obtain⟨I,hI⟩:∃I:Nat->St->Prop,I=λi s=>s.tm 11=.int .i64 i/\∃bs m,FarR g M t P i 0 bs m/\s.tm 10=.bool m/\s.ob 8=some ⟨0,.cells (histC g)⟩/\s.ob 32=some ⟨320,.cells (bs.map V.bool)⟩:=⟨_,rfl⟩;refine j6 [(10,12),(18,58)] g.ts.length I rfl rfl (by
  rw[hI];exact⟨zS,P,false,⟨hF,λ_=>⟨rfl,λa b h _=>by omega⟩,λh=>by cases h⟩,zS,by simpa using o8,by simpa using b5⟩) ?_
 intro i w hi c0 f;rw[hI]at c0;obtain⟨a0,c1,m1,hR,c5,v8,b9⟩:=c0;have f1:w.tm 1=slOf false jE (readH g):=by rw[f.t 1 zS];simp[s1]
 have f2:w.tm 2=slOf nl intC M:=by rw[f.t 2 zS];simp[s2]
 have f3:w.tm 3=.int .i64 (t:Int):=by rw[f.t 3 zS];simp[s3]
 have f4:w.tm 4=.ptr 8 0 0:=by rw[f.t 4 zS];simp[s4]
 have f9:w.tm 9=.osl 32 320 0 g.ts.length 1:=by rw[f.t 9 zS];simp[s9]
 have fd:w.df=[]:=by rw[f.d];simp[sd]
 have fr:w.ro=0:=by rw[f.r];simp[sr]
 have fb:w.fb=0:=by rw[f.b];simp[sb]
 clear f;by_cases L:i<g.ts.length;simp[a0,f4,v8,objCells,histC,L];obtain⟨I2,b0⟩:∃I2:Nat->St->Prop,I2=λj s=>s.tm 12=.int .i64 j/\∃bs m,FarR g M t P i j bs m/\s.tm 10=.bool m/\s.ob 8=some ⟨0,.cells (histC g)⟩/\s.ob 32=some ⟨320,.cells (bs.map V.bool)⟩:=⟨_,rfl⟩;refine j6 [(10,10),(12,12),(25,58)] g.ts.length I2 rfl rfl (by
  rw[b0];exact⟨zS,c1,m1,hR,by simpa using c5,by simpa using v8,by simpa using b9⟩) ?_
 intro j x hj c3 f;rw[b0]at c3;obtain⟨z,bs,m,b8,S,H,o⟩:=c3;have x1:x.tm 1=slOf false jE (readH g):=by rw[f.t 1 zS];simp[f1]
 have x2:x.tm 2=slOf nl intC M:=by rw[f.t 2 zS];simp[f2]
 have x3:x.tm 3=.int .i64 (t:Int):=by rw[f.t 3 zS];simp[f3]
 have x4:x.tm 4=.ptr 8 0 0:=by rw[f.t 4 zS];simp[f4]
 have x9:x.tm 9=.osl 32 320 0 g.ts.length 1:=by rw[f.t 9 zS];simp[f9]
 have D:x.tm 11=.int .i64 (i:Int):=by rw[f.t 11 zS];simp[a0]
 have xd:x.df=[]:=by rw[f.d];simp[fd]
 have xr:x.ro=0:=by rw[f.r];simp[fr]
 have xb:x.fb=0:=by rw[f.b];simp[fb]
 clear f;by_cases e:j<g.ts.length;have hw:=jZ e zO;have B:=b8.next ht L e;have d4:bs.length=g.ts.length:=b8.1.1;have G:=j5p (l:=32) (u:=320) (n:=g.ts.length) (kk:=.i64) (X:=(i:Int)) rfl L;have b6:=j5p (l:=32) (u:=320) (n:=g.ts.length) (kk:=.i64) (X:=(j:Int)) rfl e;have K:=jpz bs (i:=i) zO;have b7:=jpz bs (i:=j) zO;have c9:bs.getD i false=bs[i]:=by simp[ag,show i<bs.length by omega]
 have c8:bs.getD j false=bs[j]:=by simp[ag,show j<bs.length by omega]
 have F:=ev122 hs (nl:=nl) hM L e;have N:((j:Int) == (t:Int))=(j == t):=by rw[bB];simp;omega
 unfold jf2 at B;rw[c9,c8]at B;have c4:=jqk bs i true zO;have p:∀ (x':St) (T:List Bool) (m':Bool),FarR g M t P i (j+1) T m'->x'.tm 12=.int .i64 ((j+1:Nat):Int)->x'.tm 10=.bool m'->x'.ob 8=some ⟨0,.cells (histC g)⟩->x'.ob 32=some ⟨320,.cells (T.map V.bool)⟩->I2 (j+1) x':=λx' T m' a1 a2 a3 a4 a5=>by rw[b0];exact⟨a2,T,m',a1,a3,a4,a5⟩
 cases Z:bs[i];have Q:∀c:Bool,jdq g M i j=c->((j == t) || bs[j])=true->FarR g M t P i (j+1) (if c then bs.set i true else bs) (m || c):=λc hc hq=>by rw[Z,hc,hq]at B;simpa using B
 cases U:(j == t);cases cj:bs[j];rw[Z,U,cj]at B;simp at B;simp[z,x4,x3,x9,D,H,o,objCells,histC,e,G,b6,K,b7,Z,cj,N,U,hw];exact p _ bs m B zS (by simp[S]) (by simp[H,histC]) (by simp[o]);rw[U,cj]at Q;cases cs:jdq g M i j;have y:=Q false cs rfl;rw[cs]at F;simp at y;simp[z,x4,x3,x9,D,x1,x2,H,o,objCells,histC,e,G,b6,K,b7,Z,cj,N,U];refine jJ F (by simp[histC]) rfl (by simp[histC]) ?_;simp[hw,z,e];exact p _ bs m y zS (by simp[S]) (by simp[H,histC]) (by simp[o]);have y:=Q true cs rfl;rw[cs]at F;simp at y;simp[z,x4,x3,x9,D,x1,x2,H,o,objCells,histC,e,G,b6,K,b7,Z,cj,N,U];refine jJ F (by simp[histC]) rfl (by simp[histC]) ?_;simp[hw,z,e,x9,D,G,o,objCells,c4,xr];exact⟨zO,p _ (bs.set i true) true y zS zS (by simp[H,histC]) (by simp[dM])⟩;cases cs:jdq g M i j;have y:=Q false cs (by rw[U];rfl);rw[cs]at F;simp at y;simp[z,x4,x3,x9,D,x1,x2,H,o,objCells,histC,e,G,K,Z,N,U];refine jJ F (by simp[histC]) rfl (by simp[histC]) ?_;simp[hw,z,e];exact p _ bs m y zS (by simp[S]) (by simp[H,histC]) (by simp[o]);have y:=Q true cs (by rw[U];rfl);rw[cs]at F;simp at y;simp[z,x4,x3,x9,D,x1,x2,H,o,objCells,histC,e,G,K,Z,N,U];refine jJ F (by simp[histC]) rfl (by simp[histC]) ?_;simp[hw,z,e,x9,D,G,o,objCells,c4,xr];exact⟨zO,p _ (bs.set i true) true y zS zS (by simp[H,histC]) (by simp[dM])⟩;rw[Z]at B;simp at B;simp[z,x4,x9,D,H,o,objCells,histC,e,G,K,Z,hw];exact p _ bs m B zS (by simp[S]) (by simp[H,histC]) (by simp[o]);have:j=g.ts.length:=zO;subst this;have hw:=jZ L zO;simp[z,x4,H,objCells,histC,D,hw,L];rw[hI];exact⟨zS,bs,m,b8.row,by simpa using S,by simpa[histC] using H,by simpa using o⟩;have:i=g.ts.length:=zO;subst this;simp[a0,f4,v8,objCells,histC];refine⟨k - 1,zO,?_⟩;rw[hJ];refine⟨c1,m1,hR.1,λhm a b ha hb=>?_,?_,by simpa using f1,by simpa using f2,by simpa using f3,by simpa using f4,by simpa using f9,by simpa using c5,by simpa[histC] using v8,by simpa using b9,by simp[fd],by simp[fr],by simp[fb]⟩;rw[(hR.2.1 hm).1];exact(hR.2.1 hm).2 a b (.inl ha) hb;cases m1;rw[(hR.2.1 rfl).1];simp;omega;have:=hR.2.2 rfl;simp;omega
end Go.Pv.T
