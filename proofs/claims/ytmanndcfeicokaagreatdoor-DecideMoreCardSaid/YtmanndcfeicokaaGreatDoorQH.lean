/- Part. -/
import Derived.Test.YtmanndcfeicokaaGreatDoorQG
import Derived.Sort.AssemblyPlain
import Derived.Laws.Bits64
set_option maxRecDepth 100000
set_option maxHeartbeats 8000000
set_option linter.all false
namespace Go.Pv.T
open Go Go.Pv
def JD (k:Int) (ops:List Op'):Nat->Val'×Bool
 |0=>(⟨0,0⟩,false)
 |i+1=>match ops[i]? with
  |some o=>if wkB k o then (o.v,true) else JD k ops i
  |none=>JD k ops i
def Qi {k:Int}{ops:List Op'}{i:Nat}(h:i<ops.length):JD k ops (i+1)=if wkB k ops[i] then (ops[i].v,true) else JD k ops i:=by simp[JD,aa h]
def jbp (k:Int) (ops:List Op'):∀i,i<=ops.length->(JD k ops i).2=(ops.take i).any (wkB k)
 |0,_=>by simp[JD]
 |i+1,h=>by rw[Qi zO,aw zO,eD,<- jbp k ops i zO];cases a:wkB k ops[i]<;>simp[a]
def ev107 (t:Txn') (J:t.ops.length<=1000000) (k:Int):Ev E 107 [.agg (jt t),.int .i64 t.ops.length,.int .i64 k] (.tup [.agg (J9 (JD k t.ops t.ops.length).1),.bool (JD k t.ops t.ops.length).2]):=by
 refine jV rfl ?_;conv in(occs:=*)F107=>all_goals cbv
 simp[jt,j0,j2];refine j7 [(9,10),(12,45)] t.ops.length (λi s=>s.tm 10=.int .i64 i/\s.ob 6=some ⟨0,.cells (jt t)⟩/\s.ob 12=some ⟨64,.cells [.int .i64 0,.int .i64 0]⟩/\s.ob 16=some ⟨256,.cells (J9 (JD k t.ops i).1)⟩/\s.tm 9=.bool (JD k t.ops i).2) rfl rfl
  ⟨zS,by simp[jt],zS,by simp[JD,J9],by simp[JD]⟩ ?_
 rintro i s K ⟨m,x,g,h,z⟩ f;have q:s.tm 1=.int .i64 t.ops.length:=by rw[f.t 1 zS];simp
 have G:s.tm 2=.int .i64 k:=by rw[f.t 2 zS];simp
 have B:s.tm 3=.ptr 6 0 0:=by rw[f.t 3 zS];simp
 have F:s.tm 6=.ptr 12 64 0:=by rw[f.t 6 zS];simp
 have D:s.tm 8=.ptr 16 256 0:=by rw[f.t 8 zS];simp
 have H:s.df=[]:=by rw[f.d];simp
 have fr:s.ro=0:=by rw[f.r];simp
 clear f;by_cases a:i<t.ops.length;have u:=jc a zO;have c:=Qi (k:=k) a;obtain⟨o,p⟩:∃o,t.ops[i]=o:=⟨_,rfl⟩;rw[p]at c;have y:(t.ops.flatMap yP)[i*4]? = some (.bool o.w):=by have:=jk jH t.ops a (by decide:0<4);rw[br,p]at this;rw[this];rfl
 have a1:(t.ops.flatMap yP)[i*4+1]? = some (.int .i64 o.key):=by rw[jk jH t.ops a (by decide:1<4),p];rfl
 have a2:∀ob,WG ob (some 2) (.eptr (t.ops.flatMap yP) (i*4+2))=some (.agg (J9 o.v)):=λob=>by
  have I:i*4+4<=t.ops.length*4:=zO;rw[jc3,WB,zb (by rw[j3 jH];omega)];have:=Xs jH t.ops i a;rw[p]at this;have e:((t.ops.flatMap yP).drop (i*4+2)).take 2=((((t.ops.flatMap yP).drop (i*4)).take 4).drop 2):=by rw[gH,dE]
  rw[e,this];rfl
 cases b:o.w;have n:wkB k o=false:=by unfold wkB;rw[b];rfl
 rw[n]at c;simp only[ak,zc]at c;simp[m,q,B,x,j0,jt,a,j6 jH,y,b,u,g,h,z];exact⟨by rw[c],by rw[c]⟩;cases j:(o.key==k);have n:wkB k o=false:=by unfold wkB;rw[b,j];rfl
 rw[n]at c;simp only[ak,zc]at c;simp[m,q,G,B,x,j0,jt,a,j6 jH,y,a1,b,j,u,g,h,z];exact⟨by rw[c],by rw[c]⟩;have n:wkB k o=true:=by unfold wkB;rw[b,j];rfl
 rw[n]at c;simp only[zd]at c;simp[m,q,G,B,D,x,j0,jt,a,j6 jH,y,a1,a2,b,j,u,g,h,J9,fr,j2];rw[c];simp;have:i=t.ops.length:=zO;subst this;simp[m,q,D,h,j0,z,F,g,J9,fr,j2];exact JS (by simp[H]) (l:=[.agg (J9 (JD k t.ops t.ops.length).1),.bool (JD k t.ops t.ops.length).2]) (by simp[jy,j0,F,J9]) rfl rfl
section
end
def jue {st:St}{L u n:Nat}{cs:List V}(e:st.ob L=some ⟨u,.cells cs⟩) (j:cs.length=n) (d:st.ro<=u) (hp:cs.all V.pureLeaf=true):JU st 6 (.osl L u 0 n 1)=some (.sl none false n cs):=by
 have b:j0 st.ob L u=some cs:=by simp[j0,e]
 have f:∀(k:Nat) (l:List V),l.all V.pureLeaf=true->l.mapM (JU st (k+1))=some l:=by
  intro k l;induction l with
  |nil=>intro _;rfl
  |cons a l g=>
   intro h;simp only[bW,aj]at h;rw[bJ,g h.2];have:JU st (k+1) a=some a:=by
    have:=Y6 (st:=st) (keep:=false) (i:=0) h.1;cases a with
    |sl t m n cs=>cases t with
     |none=>rfl
     |some t=>cases h.1
    |osl=>cases h.1
    |_=>simp only[JU,h.1,zd]
   rw[this];rfl
 show((j0 st.ob L u).bind λcs=>if Nat.ble st.ro u=true/\0+n*1<=cs.length then (((cs.drop 0).take (n*1)).mapM (JU st 5)).map λc=>V.sl none false n c else none)=_;rw[b,am,zb ⟨bT▸d,zO⟩,dq,bE,aM zO,f 4 cs hp];rfl
def jeq {st:St}{L u n:Nat}{cs:List V}(c:st.ob L=some ⟨u,.cells cs⟩) (d:cs.length=n) (b:st.ro<=u) (hp:cs.all V.pureLeaf=true):jci st (.osl L u 0 n 1) false n cs:=by
 intro keep i;have a:j0 st.ob L u=some cs:=by simp[j0,c]
 have e:=jue c d b hp;refine⟨_,by simp only[jr,e,am,a,aO];rfl,?_⟩;split;exact .inr ⟨_,rfl⟩;exact .inl rfl
end Go.Pv.T
namespace Go.Pv.T
open Go Go.Pv
end Go.Pv.T
namespace Go.Pv.T
open Go Go.Pv
end Go.Pv.T
namespace Go.Pv.T
open Go Go.Pv
def jsp (l:List Int):(l.flatMap ye).all V.pureLeaf=true:=by rw[ap];intro y c;obtain⟨a,_,b⟩:=ct.1 c;simp[ye]at b;subst b;rfl
def ju1 {l:List Txn'}(h:∀t∈l,t.ops.length<=1000):rcT l<=l.length*1000:=by
 induction l with
 |nil=>simp[rcT,rc]
 |cons t l a=>
  have e:=a (λt b=>h t (aQ _ b));have c:=h t (aJ ..);have d:=rc_le t.ops;have:rcT (t::l)=rc t.ops+rcT l:=by rw[rcT,ba,rc_app];rfl
  rw[this,bg,cX];omega
structure Bnd (g:Hist'):Prop where
 i:(Xg g).length<=1000
 l:(jc0 g).length<=1000000
 r:rcT g.ts<=1000000
 m:mostH g<=1000
 t:g.ts.length<=1000
def bnd_of {g:Hist'}(a:Small g):Bnd g:=by have b:=a.ts;refine⟨?_,?_,?_,jk3 a _,b⟩;have:=JX X9 g.ts g.ts.length;show(yq X9 g.ts g.ts.length).length<=1000;omega;have:=jcy a.os g.ts.length;show(jfe g.ts g.ts.length).length<=1000000;have:g.ts.length*1000<=1000*1000:=aW _ b;omega;have:=ju1 a.os;have:g.ts.length*1000<=1000*1000:=aW _ b;omega
def jzt {ub n:Nat}{cs:List V}:Xd ub (.sl (some (0,1)) false n cs)=some { v:=.sl (some (ub,1)) false n cs,add:=[ub] }:=by rw[Xd,zb (by rfl)];rfl
end Go.Pv.T
namespace Go.Pv.T
open Go Go.Pv
end Go.Pv.T
namespace Go.Pv.T
open Go Go.Pv
end Go.Pv.T
namespace Go.Pv.T
open Go Go.Pv
def WS (n:Nat) (l:List (List UInt8)):List (List UInt8):=(l.take n).map (·.take 100)
def fewT (t:Txn'):Txn':={ t with nl:=false,ops:=t.ops.take 25 }
def j8v (h:Hist'):Hist':={ sn:=(WS 25 h.ss).isEmpty,ss:=WS 25 h.ss,kn:=(WS 45 h.ks).isEmpty,ks:=WS 45 h.ks,tn:=((h.ts.take 45).map fewT).isEmpty,ts:=(h.ts.take 45).map fewT }
def juf (h:Hist'):Small (j8v h):=by refine⟨?_,?_,?_,?_,?_,?_⟩;show(WS 25 h.ss).length<=1000;simp[WS];omega;intro s b;obtain⟨a,_,rfl⟩:=aI.1 (show s∈WS 25 h.ss from b);simp;omega;show(WS 45 h.ks).length<=1000;simp[WS];omega;intro s b;obtain⟨a,_,rfl⟩:=aI.1 (show s∈WS 45 h.ks from b);simp;omega;show((h.ts.take 45).map fewT).length<=1000;simp;omega;intro t c;obtain⟨a,_,rfl⟩:=aI.1 (show t∈(h.ts.take 45).map fewT from c);simp[fewT];omega
def jlq {n i:Nat}{l:List (List UInt8)}(hi:i<l.length) (_:i<n):WS (i+1) l=WS i l++[(l[i]).take 100]:=by rw[WS,aw hi,bw];rfl
def jqi {n:Nat}{l:List (List UInt8)}{i:Nat}(hi:i<=l.length) (b:i<=n) (h:¬(i<l.length/\i<n)):WS i l=WS n l:=by unfold WS;congr 1;by_cases a:i<l.length;have:i=n:=zO;rw[this];rw[aM zO,aM zO]
def tlC:C->C
 | .seq _ b=>b
 |c=>c
def hdC:C->C
 | .seq a _=>a
 |c=>c
def ji2 (n m:Nat):ja2 false [.int .i64 (n:Int),.int .i64 (m:Int)]=some (.int .i64 ((min n m:Nat):Int)):=by simp only[ja2,Wl];by_cases h:n<=m;rw[cq h];simp[jfd];omega;rw[fo (Nat.le_of_not_le h)];simp[jfd];omega
def jel (c:List UInt8):c.take (min c.length 100)=c.take 100:=by rcases gW c.length 100 with h'|h';rw[cq h',aM zK,aM h'];rw[fo h']
def jqh (n:Nat) (l:List (List UInt8)):(WS n l).length<=n:=by simp[WS];omega
def joy {l:List UInt8}{kk:IntKind}{k:Nat}(h:k<=l.length):Xf none (some (.int kk (k:Int))) (.str l)=some (.str (l.take k)):=by simp[Xf,JT,h]
def jmn {cs:List V}{kk:IntKind}{t:Option (Nat×Nat)}{nl:Bool}{sz n k:Nat}(h:k<=n) (a:cs.length=n*sz):YY sz none (some (.int kk (k:Int))) (.sl t nl n cs)=some (.sl none nl k (cs.take (k*sz))):=by simp[YY,JT,h,a]
end Go.Pv.T
namespace Go.Pv.T
open Go Go.Pv
end Go.Pv.T
namespace Go.Pv.T
open Go Go.Pv
def j68 {h:Hist'}{i:Nat}(hi:i<=h.ts.length) (c:i<=45) (b:¬(i<h.ts.length/\i<45)):(h.ts.take i).map fewT=(h.ts.take 45).map fewT:=by congr 1;by_cases a:i<h.ts.length;have:i=45:=zO;rw[this];rw[aM zO,aM zO]
def jy9 (l:List Op') (k:Nat):(l.flatMap yP).take (k*4)=(l.take k).flatMap yP:=by
 induction l generalizing k with
 |nil=>simp
 |cons a l b=>
  cases k with
  |zero=>simp
  |succ k=>rw[ba,eG,ba,cX,<- b k];show(V.bool a.w::V.int .i64 a.key::V.int .i64 a.v.kind::V.int .i64 a.v.n::l.flatMap yP).take (k*4+4)=_;simp[yP]
def kE1 {st:St}{p l u:Nat}{x y z:V}{g:Hist'}(a:st.df=[]) (hp:st.tm p=.ptr l u 0) (b:st.ob l=some ⟨u,.cells [x,y,z]⟩)
 (e:jci st x g.sn g.ss.length (g.ss.flatMap Jj)) (c:jci st y g.kn g.ks.length (g.ks.flatMap Jj)) (d:jci st z g.tn g.ts.length (g.ts.flatMap jt)):Q5 [.cell p (some 3)] (λr=>jtj r g) .ret st:=endH1 a hp b e c d
def j94 {Yf:YF}(nl:Bool) (ops:List Op') (hm:ops.length<=1000000) {l u lh uh:Nat}{ob0:ZO}{tk0:Nat->Bool}{ro base ub0:Nat}(J:Nat->(ZO)->(Nat->Bool)->Nat->Prop) (P:V×(ZO)×(Nat->Bool)×Nat->Prop)
 (m:∀k ob g h b c,J k ob h b->b<=c->Fr b ob g->J k g h c) (n:∀k ob h b,J k ob h b->ob lh=some ⟨uh,.cells [yj nl yP ops]⟩) (N:ro<=ub0)
 (p:∀k (_:k<ops.length) ob h b,J k ob h b->ro<=b->∃r,EvY Yf l u [.int .i64 (ops.length-1-k:Nat),.agg (yP (ops.getD (ops.length-1-k) ⟨false,0,0,0⟩))] ob h ro b r/\ro<=r.2.2.2 /\
  ((r.1=.bool true/\J (k+1) r.2.1 r.2.2.1 r.2.2.2)\/(r.1=.bool false/\∀g c,r.2.2.2<=c->Fr r.2.2.2 r.2.1 g->P (.tup [],g,r.2.2.1,c))))
 (w:∀ob h b,J ops.length ob h b->P (.tup [],ob,h,b)) (M:J 0 ob0 tk0 ub0):∃r,EvS E Yf.y 217 [.yld l u,.ptr lh uh 0] ob0 tk0 ro base ub0 r/\P r:=by
 refine J7 rfl zQ ?_;show wpC E Yf S217.body _ (Jd S217.res P);have hh:=n 0 ob0 tk0 ub0 M;have Q:IntKind.i64.wrap ((ops.length:Int)-1)=(ops.length:Int)-1:=ji zO zO;conv in(occs:=*)S217=>all_goals cbv
 simp[j0,hh,Q];refine j7 [(3,3),(7,18)] ops.length (λk s=>s.tm 3=.int .i64 ((ops.length:Int)-1-k)/\ro<=s.nx/\J k s.ob s.tk s.nx) rfl rfl ⟨zS,by simp;omega,m _ _ _ _ _ _ M zP (Fr.refl _ _)⟩ ?_;rintro k s hk ⟨B,a0,I⟩ f;have U:s.tm 0=.yld l u:=by rw[f.t 0 zS];simp
 have Z:s.tm 1=.ptr lh uh 0:=by rw[f.t 1 zS];simp
 have L:s.df=[]:=by rw[f.d];simp
 have fr:s.ro=ro:=by rw[f.r];simp
 clear f;have hc:=n _ _ _ _ I;by_cases v:k<ops.length;obtain⟨j,hj⟩:∃j,j=ops.length-1-k:=⟨_,rfl⟩;have z:j<ops.length:=zO;have e:(ops.length:Int)-1-k=(j:Int):=zO;rw[e]at B;have w2:IntKind.i64.wrap ((j:Int)-1)=(ops.length:Int)-1-(k+1):=by rw[ji zO zO];omega
 have D:ops.getD j ⟨false,0,0,0⟩=ops[j]:=by rw[aC,aa z];rfl
 simp[B,U,Z,j0,hc,z,j6 jH,jh jH];refine jov λi a=>?_;have F:i.tm 11=.yld l u:=by rw[a];simp
 have K:i.tm 12=.int .i64 j:=by rw[a];simp
 have H:i.tm 16=.agg (yP ops[j]):=by rw[a];simp
 have e3:i.tm 3=.int .i64 j:=by rw[a];simp[B]
 have ed:i.df=[]:=by rw[a];simp[L]
 have S:i.ro=ro:=by rw[a];simp[fr]
 have et:i.tk=s.tk:=by rw[a];simp
 have eo:i.ob=s.ob:=by rw[a];simp
 clear a;obtain⟨r,O,b0,o⟩:=p k v i.ob s.tk (s.nx+64+64+64+64+64+64+64+64) (m _ _ _ _ _ _ I zO (by rw[eo];exact Fr.refl _ _)) zO;rw[<- hj,D]at O;refine jjw (l:=l) (u:=u) (zU F) ⟨r,by simpa[K,H,et,S] using O,?_⟩;rcases o with⟨q,G⟩|⟨q,hP⟩;simp[q,put,yf,e3,w2];exact⟨v,zO,m _ _ _ _ _ _ G zO (Fr.refl _ _)⟩;simp[q,put];refine⟨(.tup [],r.2.1,r.2.2.1,r.2.2.2+64),?_,hP _ _ zO (Fr.refl _ _)⟩;simp[endS,ed];have:k=ops.length:=zO;subst this;obtain⟨X,T⟩:∃x:Int,x=(ops.length:Int)-1-ops.length:=⟨_,rfl⟩;rw[<- T]at B;have c1:¬0<=X:=zO;simp[B,c1];refine⟨(.tup [],s.ob,s.tk,s.nx+64+64),?_,w _ _ _ (m _ _ _ _ _ _ I zO (Fr.refl _ _))⟩;simp[endS,L]
def j2t:C:=.region [⟨some 7,.alloc [(.bool false),(.int .i64 0),(.int .i64 0),(.int .i64 0)],none,false⟩,⟨none,.store 4 (.t 7) (.t 11),none,false⟩]
def jtk:C:=.block 1 (.seq (.region [⟨some 12,.fieldAddr 0 (.t 7),none,false⟩,⟨some 13,.load none (.t 12),none,false⟩,⟨some 14,.mov (.t 13),none,false⟩,⟨some 15,.fieldAddr 1 (.t 7),(some (14,true)),false⟩,⟨some 16,.load none (.t 15),(some (14,true)),false⟩,⟨some 17,.load none (.t 3),(some (14,true)),false⟩,⟨some 18,.bin .eql (.t 16) (.t 17),(some (14,true)),false⟩,⟨some 19,.pick (.t 14) (.t 18) (.c (.bool false)),none,false⟩])
 (.cond (.t 19) (.seq (.region [⟨some 20,.fieldAddr 2 (.t 7),none,false⟩,⟨some 21,.load (some 2) (.t 20),none,false⟩,⟨none,.store 2 (.t 4) (.t 21),none,false⟩,⟨none,.store 1 (.t 5) (.c (.bool true)),none,false⟩]) (.ret)) (.skip)))
def jzw (nl:Bool) (ops:List Op') (x:ops.length<=1000000) (d:Int) {st:St}{lh uh:Nat}(U:Nat) (hU:st.nx=U) (d2:64<=U) (h9:st.tm 9=.fn (.func 217) [] [.ptr lh uh 0]) (hl:∃m,lh=2*m+1/\m<U)
 (h3:st.tm 3=.ptr 6 0 0) (h4:st.tm 4=.ptr 8 64 0) (h5:st.tm 5=.ptr 10 128 0) (b0:st.ro=0) (a0:st.fb=0) (o6:st.ob 6=some ⟨0,.cells [.int .i64 d]⟩) (o8:st.ob 8=some ⟨64,.cells [.int .i64 0,.int .i64 0]⟩) (c6:st.ob 10=some ⟨128,.cells [.bool false]⟩)
 (oh:st.ob lh=some ⟨uh,.cells [yj nl yP ops]⟩) {Q:Ex->St->Prop}
 (hQ:∀(e:Ex) (ob:ZO) (tk:Nat->Bool) (ub:Nat) (v:Val') (b:Bool),ob 8=some ⟨64,.cells (J9 v)⟩->ob 10=some ⟨128,.cells [.bool b]⟩->ob (2*U+3)=some ⟨U+1,.dfr⟩->U+64<=ub ->
  JD d ops ops.length=(v,b)->(e=.nrm/\v=⟨0,0⟩/\b=false\/e=.ret)->Q e { st with ob:=ob,tk:=tk,nx:=ub,df:=(2*U+3,U+1)::st.df }) :
 wpC E YO (.rangeFunc (.t 9) [10,11] j2t jtk) st Q:=by
 obtain⟨m,rfl,c9⟩:=hl;subst hU;refine WX (g:=217) (first:=[]) (captured:=[.ptr (2*m+1) uh 0]) (zU h9) ?_;have e1:¬2*m+1=2*st.nx+1:=zO;have e2:¬2*m+1=2*st.nx+3:=zO;have b9:¬2*m=2*st.nx:=zO;have c1:¬2*m=2*st.nx+2:=zO;have:=j94 (Yf:=jg0 E YO j2t jtk st [10,11] (2*st.nx+1) st.nx) nl ops x (l:=2*st.nx+1) (u:=st.nx) (lh:=2*m+1) (uh:=uh)
  (ob0:=upd (upd st.ob (2*st.nx+3) (some ⟨st.nx+1,.dfr⟩)) (2*st.nx+1) (some ⟨st.nx,.loop .ready none⟩)) (tk0:=st.tk) (ro:=st.ro) (base:=(st.fb+1023)*1024) (ub0:=st.nx+64)
  (λk ob tk ub=>JD d ops ops.length=JD d ops (ops.length-k)/\ob (2*st.nx+1)=some ⟨st.nx,.loop .ready none⟩/\ob (2*st.nx+3)=some ⟨st.nx+1,.dfr⟩/\ob 6=some ⟨0,.cells [.int .i64 d]⟩/\ob 8=some ⟨64,.cells [.int .i64 0,.int .i64 0]⟩/\ob 10=some ⟨128,.cells [.bool false]⟩/\ob (2*m+1)=some ⟨uh,.cells [yj nl yP ops]⟩/\st.nx+64<=ub)
  (λr=>∃s z,r.2.1 (2*st.nx+1)=some ⟨st.nx,.loop s z⟩/\s≠.busy/\st.ro<=st.nx/\Q (z.getD .nrm) { st with ob:=λk=>if Nat.beq (2*st.nx+1) k then none else r.2.1 k,tk:=r.2.2.1,nx:=r.2.2.2,df:=(2*st.nx+3,st.nx+1)::st.df })
  ?_ ?_ zO ?_ ?_ ?_
 obtain⟨r,hr,hP⟩:=this;exact⟨r,hr,hP⟩;rintro k ob i tk ub b7 ⟨p,J,N,T,M,L,K,g8⟩ d0 H;have f:∀n,(∀m,ub<=m->n≠2*m+1)->i n=ob n:=H;exact⟨p,by rw[f _ (λm x=>by omega)];exact J,by rw[f _ (λm x=>by omega)];exact N,by rw[f _ (λm x=>by omega)];exact T,by rw[f _ (λm x=>by omega)];exact M,by rw[f _ (λm x=>by omega)];exact L,by rw[f _ (λm x=>by omega)];exact K,zO⟩;rintro k ob tk ub ⟨p,J,N,T,M,L,K,g8⟩;exact K
 ·rintro k hk ob tk ub ⟨p,J,N,T,M,L,K,g8⟩ d1;obtain⟨j,hj⟩:∃j,j=ops.length-1-k:=⟨_,rfl⟩;have P:j<ops.length:=zO;have c0:ops.getD j ⟨false,0,0,0⟩=ops[j]:=by rw[aC,aa P];rfl
  have B:=Qi (k:=d) P;rw[<- hj,c0];obtain⟨o,ho⟩:∃o,ops[j]=o:=⟨_,rfl⟩;rw[ho]at B ⊢;rw[show ops.length-k=j+1 by omega]at p;rw[B]at p;refine jga (asg:=j2t) (bd:=jtk) (xs:=[.int .i64 (j:Nat),.agg (yP o)]) rfl zO J zQ zQ ?_;simp[j2t,jes,j0,a0,yP,b0,j2];refine⟨by rw[za zO,za zO];exact J,jf λc a=>?_⟩;have f3:c.tm 3=.ptr 6 0 0:=by rw[a];simp[yf,h3]
  have f4:c.tm 4=.ptr 8 64 0:=by rw[a];simp[yf,h4]
  have f5:c.tm 5=.ptr 10 128 0:=by rw[a];simp[yf,h5]
  have f7:c.tm 7=.ptr 14 ub 0:=by rw[a];simp
  have n6:¬6=2*st.nx+1:=zO;have Z:¬8=2*st.nx+1:=zO;have q:¬10=2*st.nx+1:=zO;have c5:¬14=2*st.nx+1:=zO;have n3:¬2*st.nx+3=2*st.nx+1:=zO;have X:¬2*st.nx+3=14:=zO;have O:¬2*m+1=14:=zO;have p6:c.ob 6=some ⟨0,.cells [.int .i64 d]⟩:=by rw[a];simp[yf,n6,T]
  have p8:c.ob 8=some ⟨64,.cells [.int .i64 0,.int .i64 0]⟩:=by rw[a];simp[yf,Z,M]
  have F:c.ob 10=some ⟨128,.cells [.bool false]⟩:=by rw[a];simp[yf,q,L]
  have I:c.ob 14=some ⟨ub,.cells (yP o)⟩:=by rw[a];simp[yf,c5,yP]
  have p3:c.ob (2*st.nx+3)=some ⟨st.nx+1,.dfr⟩:=by rw[a];simp[yf,X,N]
  have p1:c.ob (2*st.nx+1)=some ⟨st.nx,.loop .busy none⟩:=by rw[a];simp
  have ph:c.ob (2*m+1)=some ⟨uh,.cells [yj nl yP ops]⟩:=by rw[a];simp[yf,b9,O,K]
  have fr:c.ro=0:=by rw[a]
  have fn:ub<=c.nx:=by rw[a];simp;omega
  clear a;have c3:¬2*st.nx+1=8:=zO;have S:¬2*st.nx+1=10:=zO;have c8:¬2*st.nx+3=8:=zO;have b5:¬2*st.nx+3=10:=zO;have skip:wkB d o=false->JD d ops ops.length=JD d ops (ops.length-(k+1)):=λD=>by rw[D]at p;rw[p,show ops.length-(k+1)=j by omega];rfl
  have done:wkB d o=false->(c4:True)->JD d ops ops.length=JD d ops (ops.length-(k+1))/\upd c.ob (2*st.nx+1) (some ⟨st.nx,.loop .ready none⟩) (2*st.nx+3)=some ⟨st.nx+1,.dfr⟩:=λD _=>⟨skip D,by rw[yf,za n3];exact p3⟩;cases h:o.w;have D:=skip (by unfold wkB;rw[h];rfl);simp[jtk,f7,I,j0,yP,h,p1,We];exact⟨D,by rw[yf,za n3];exact p3,by rw[yf,za n6];exact p6,by rw[yf,za Z];exact p8,by rw[yf,za q];exact F,by rw[yf,za e1];exact ph,zO⟩;cases y:(o.key==d);have D:=skip (by unfold wkB;rw[h,y];rfl);simp[jtk,f7,I,j0,yP,h,f3,p6,y,p1,We];exact⟨D,by rw[yf,za n3];exact p3,by rw[yf,za n6];exact p6,by rw[yf,za Z];exact p8,by rw[yf,za q];exact F,by rw[yf,za e1];exact ph,zO⟩;have c7:wkB d o=true:=by unfold wkB;rw[h,y];rfl
  rw[c7]at p;simp only[zd]at p;simp[jtk,f7,I,j0,yP,h,f3,p6,y,f4,f5,p8,F,fr,j2,c3,S,p1,We];intro i b7 d4 H;have fk:∀n,(∀m,c.nx+64+64+64+64+64+64+64+64+64+64+64+64<=m->n≠2*m+1)->i n=_:=H;have G:∀{k:Nat},k≠2*st.nx+1->(if 2*st.nx+1=k then none else i k)=i k:=λhk=>za λe=>hk e.symm;refine⟨.done,some .ret,?_,zS,?_⟩;rw[fk _ (λm x=>by omega)];simp;have:=hQ .ret (λk=>if 2*st.nx+1=k then none else i k) c.tk b7 o.v true (by rw[G Z,fk _ (λm x=>by omega)];simp[yf,Z,J9]) (by rw[G q,fk _ (λm x=>by omega)];simp[yf,q])
   (by rw[G n3,fk _ (λm x=>by omega)];simp[yf,c8,b5,p3]) zO p (Or.inr rfl)
  rw[b0,a0]at this;simpa[jn] using this
 rintro ob tk ub ⟨p,J,N,T,M,L,K,g8⟩;refine⟨.ready,none,J,zS,zO,?_⟩;rw[fX]at p;exact hQ .nrm _ _ _ ⟨0,0⟩ false ((j3x ob zO).trans M) ((j3x ob zO).trans L) ((j3x ob zO).trans N) g8 p (Or.inl ⟨rfl,rfl,rfl⟩);have d3:¬2*st.nx+3=2*st.nx+1:=zO;have a6:¬6=2*st.nx+1:=zO;have b6:¬6=2*st.nx+3:=zO;have a8:¬8=2*st.nx+1:=zO;have b8:¬8=2*st.nx+3:=zO;have a10:¬10=2*st.nx+1:=zO;have c2:¬10=2*st.nx+3:=zO;exact⟨by rw[Nat.sub_zero],zS,by simp[yf],by simp[yf,a6,b6,o6],by simp[yf,a8,b8,o8],by simp[yf,a10,c2,c6],by simp[yf,b9,c1,oh],zO⟩
end Go.Pv.T
namespace Go.Pv.T
open Go Go.Pv
end Go.Pv.T
namespace Go.Pv.T
open Go Go.Pv
def jcx {g:Hist'}(a:Yp g=false):errH g=4:=by unfold errH;rw[a];rfl
end Go.Pv.T
namespace Go.Pv.T
open Go Go.Pv Go.Sort
def arr {α:Type}(f:α->List V) (d:Array α):List V:=d.toList.flatMap f
def jyb {α:Type}{f:α->List V}{sz:Nat}(b:∀a,(f a).length=sz) (d:Array α):(arr f d).length=d.size*sz:=by unfold arr;rw[j3 b,aK]
def Qp {α:Type}{f:α->List V}{sz:Nat}(b:∀a,(f a).length=sz) (a:α):∀(l:List α) (i:Nat),i<l.length->j2 (l.flatMap f) (i*sz) (f a)=(l.set i a).flatMap f
 |[],_,h=>by simp at h
 |x::l,0,_=>by simp[j2,b]
 |x::l,i+1,h=>by
  have c:=Qp b a l i (zU h);have e:(i+1)*sz=(f x).length+i*sz:=by rw[b,cX,fG]
  unfold j2 at c ⊢;rw[List.set_cons_succ,ba,ba,<- c,e,eK,aG,gC];simp
section
variable {α:Type}[Inhabited α] {f:α->List V}{sz:Nat}{d:Array α}
def idxA {l u n:Nat}{kk:IntKind}{x:Int}(b:0<=x) (a:x<n):J0 sz (.osl l u 0 n sz) (.int kk x)=some (.ptr l u (x.toNat*sz)):=by simp[J0,b,a]
end
@[simp] theorem arrI_len (d:Array Int):(arr ye d).length=d.size:=by rw[jyb (sz:=1) jA,bE]
def At (l u:Nat) (cs:List V) (ob:ZO) (tk:Nat->Bool) (ub:Nat) (ob':ZO) (tk':Nat->Bool) (ub':Nat):Prop :=
 ob' l=some ⟨u,.cells cs⟩/\(∀key,key≠l->(∀m,ub<=m->key≠2*m+1)->ob' key=ob key)/\tk'=tk/\ub<=ub'
def jec {st:St}{P:V×(ZO)×(Nat->Bool)×Nat->Prop}{e:Ex}(b:e=.nrm\/e=.ret) (a:st.df=[]) (h:P (.tup [],st.ob,st.tk,st.nx)):Jd [] P e st:=by refine⟨_,?_,h⟩;rcases b with rfl|rfl<;>simp[endS,a]
def j83 {x:Int}(a:-1000000000<=x) (b:x<=1000000000):IntKind.i64.wrap x=x:=ji zO zO
def j8u {l u n x:Nat}{kk:IntKind}{X:Int}(a:X=(x:Nat)) (b:x<n):J0 1 (.osl l u 0 n 1) (.int kk X)=some (.ptr l u x):=by subst a;have:=idxA (sz:=1) (l:=l) (u:=u) (n:=n) (kk:=kk) (x:=(x:Int)) zO zO;simpa using this
def At.swap {l u:Nat}{k:Array Int}{cs:List V}{ob:ZO}{tk:Nat->Bool}{ub:Nat}{e:ZO}{f:Nat->Bool}{j:Nat}{d:ZO}{g:Nat->Bool}{i:Nat}(h:At l u (arr ye k) ob tk ub e f j)
 (p:d l=some ⟨u,.cells cs⟩) (m:∀c,c≠l->d c=e c) (n:g=f) (o:j<=i):At l u cs ob tk ub d g i :=
 ⟨p,λc a b=>(m c a).trans (h.2.1 c a b),n.trans h.2.2.1,bH h.2.2.2 o⟩
def jrm (st:St) (d:Option Nat) (v:V) (ob:ZO) (tk:Nat->Bool):St:={ st with tm:=put st.tm d v,ob:=ob,tk:=tk }
section
variable {st:St}{d:Option Nat}{v:V}{ob:ZO}{tk:Nat->Bool}
@[simp] theorem retS_tm (e n:Nat):(jrm st (some e) v ob tk).tm n=if n=e then v else st.tm n:=by simp[jrm,put,yf]
@[simp] theorem retS_tm0 (n:Nat):(jrm st none v ob tk).tm n=st.tm n:=rfl
@[simp] theorem jio:(jrm st d v ob tk).ob=ob:=rfl
@[simp] theorem retS_tk:(jrm st d v ob tk).tk=tk:=rfl
@[simp] theorem retS_ro:(jrm st d v ob tk).ro=st.ro:=rfl
@[simp] theorem retS_nx:(jrm st d v ob tk).nx=st.nx:=rfl
@[simp] theorem retS_fb:(jrm st d v ob tk).fb=st.fb:=rfl
@[simp] theorem retS_df:(jrm st d v ob tk).df=st.df:=rfl
end
@[simp] theorem j0k (l u o:Nat):jby (.ptr l u o)=some (.ptr l u o):=rfl
def jK {Yf:YF}{f:FuncId}{xs:List A}{st:St}{ub:Nat}{K:St->Nat->Prop}{d:Option Nat}{nm:Bool}{vs:List V}{P:V×(ZO)×(Nat->Bool)×Nat->Prop}(i:xs.map (yc E st.tm)=vs) (g:E.sh nm f=true)
 (j:∃r,EvS E Yf.y f vs st.ob st.tk st.ro ((st.fb+d.getD 0+1)*1024) ub r/\P r) (h:∀v c a b,P (v,c,a,b)->K (jrm st d v c a) b):j5 E Yf ⟨d,.call f xs,none,nm⟩ st ub K:=by
 obtain⟨r,e,k⟩:=j;exact jb3 i g ⟨r,e,h r.1 r.2.1 r.2.2.1 r.2.2.2 k⟩
def jca {st:St}{x y:Nat}{P:V×(ZO)×(Nat->Bool)×Nat->Prop}(a:st.df=[]) (h:P (.tup [st.tm x,st.tm y],st.ob,st.tk,st.nx)):Jd [.t x,.t y] P .ret st:=⟨_,by simp[endS,a,jy],h⟩
def JQ {st:St}{x:Nat}{P:V×(ZO)×(Nat->Bool)×Nat->Prop}(a:st.df=[]) (h:P (st.tm x,st.ob,st.tk,st.nx)):Jd [.t x] P .ret st:=⟨_,by simp[endS,a,jy],h⟩
def At.refl {l u:Nat}{cs:List V}{ob:ZO}{tk:Nat->Bool}{ub:Nat}(h:ob l=some ⟨u,.cells cs⟩):At l u cs ob tk ub ob tk ub:=⟨h,λ_ _ _=>rfl,rfl,zK⟩
def At.trans {l u:Nat}{cs f:List V}{ob g j:ZO}{tk i k:Nat->Bool}{ub o c n:Nat}(h:At l u cs ob tk ub g i o) (p:At l u f g i c j k n) (q:o<=c):At l u f ob tk ub j k n :=
 ⟨p.1,λe a b=>(p.2.1 e a (λm r=>b m (by have:=h.2.2.2;omega))).trans (h.2.1 e a b),p.2.2.1.trans h.2.2.1,by have:=h.2.2.2;have:=p.2.2.2;omega⟩
def At.same {l u:Nat}{cs:List V}{ob e a:ZO}{tk f b:Nat->Bool}{ub g c:Nat}(h:At l u cs ob tk ub e f g) (j:a=e) (i:b=f) (k:g<=c):At l u cs ob tk ub a b c:=by subst j i;exact⟨h.1,h.2.1,h.2.2.1,bH h.2.2.2 k⟩
end Go.Pv.T
namespace Go.Pv.T
open Go Go.Pv Go.Sort
end Go.Pv.T
namespace Go.Pv.T
open Go Go.Pv Go.Sort
def j6i {Yf:YF}{a b:C}{st:St}{Q:Ex->St->Prop}{c:Bool}(h:∀s,s=st->kIf E Yf a b s Q c):kIf E Yf a b st Q c:=h st rfl
end Go.Pv.T
namespace Go.Pv.T
open Go Go.Pv Go.Sort
end Go.Pv.T
namespace Go.Pv.T
open Go Go.Pv Go.Sort
end Go.Pv.T
namespace Go.Pv.T
open Go Go.Pv Go.Sort
end Go.Pv.T
namespace Go.Pv.T
open Go Go.Pv Go.Sort
@[simp] theorem convV_int (k a:IntKind) (n:Int):Xb k (.int a n)=some (.int k (k.wrap n)):=rfl
end Go.Pv.T
namespace Go.Pv.T
open Go Go.Pv Go.Sort
end Go.Pv.T
namespace Go.Pv.T
open Go Go.Pv Go.Sort
end Go.Pv.T
namespace Go.Pv.T
open Go Go.Pv Go.Sort
def j9g {Yf:YF}{ob:ZO}{tk:Nat->Bool}{ro base ub:Nat}:∃r,EvS E Yf.y 167 [.sl none true 0 []] ob tk ro base ub r/\r.2.1=ob/\r.2.2.1=tk/\ub<=r.2.2.2 :=
 ⟨(.tup [],ob,tk,ub),jjs (m:=none) rfl rfl rfl,rfl,rfl,zK⟩
def jlj:∀L:List Int,(L.flatMap ye).mapM int64? = some L
 |[]=>rfl
 |x::L=>by rw[ba];show(V.int .i64 x::L.flatMap ye).mapM int64? = _;simp only[bJ,jlj L];rfl
def sv167 {Yf:YF}{l u:Nat}{L T:List Int}(hp:L.Perm T) (f:T.Pairwise (·<=·)) (j:L.length<=1000000000) {ob:ZO}{tk:Nat->Bool}{ro base ub:Nat}(e:ob l=some ⟨u,.cells (L.flatMap ye)⟩) (b:ro<=u) (_:∀m,ub<=m->l≠2*m+1) (_:ro<=ub) :
 ∃r,EvS E Yf.y 167 [.osl l u 0 L.length 1] ob tk ro base ub r/\At l u (T.flatMap ye) ob tk ub r.2.1 r.2.2.1 r.2.2.2:=by
 have g:jmm L=T:=jis ((Qf L).trans hp) (jij L) f;have c:(L.flatMap ye).length=L.length:=by rw[j3 jA,bE]
 have a:∀T:List Int,T.map (V.int .i64)=T.flatMap ye:=λT=>by induction T<;>simp_all [ye]
 refine⟨(.tup [],upd ob l (some ⟨u,.cells (T.flatMap ye)⟩),tk,ub),jjs (m:=none) rfl ?_ rfl,zS,λd h _=>by simp[JG _ _ h],rfl,zK⟩;have i:j0 ob l u=some (L.flatMap ye):=by simp[j0,e]
 simp only[jrc,jj5,jge,jow,Q0,i,am,bE,zd];rw[zb ⟨bT▸b,trivial,zO,j⟩,dq,aM zO,jlj,am,g,a];have:(T.flatMap ye).length=(L.flatMap ye).length:=by rw[j3 jA,j3 jA,hp.length_eq]
 rw[j2,eN,dK,bB zO,aU]
end Go.Pv.T
namespace Go.Pv.T
open Go Go.Pv
def sv164 {Yf:YF}{b:V}(d:b.cells=[b]) (c:b.leaf=true) {ob:ZO}{tk:Nat->Bool}{ro base ub:Nat}:∃r,EvS E Yf.y 164 [b] ob tk ro base ub r /\
 r.1=.fn (.func 217) [] [.ptr (2*ub+1) ub 0]/\(∀a,r.2.1 a=if a=2*ub+1 then some ⟨ub,.cells [b]⟩ else ob a)/\r.2.2.1=tk/\r.2.2.2=ub+256:=by
 refine J7 rfl zQ ?_;show wpC E Yf S164.body _ (Jd S164.res _);conv in(occs:=*)S164=>all_goals cbv
 simp[d,c];exact JQ zS ⟨zS,λa=>by simp,by simp[jn],zS⟩
def Q4 (ops:List Op') (key:Int):Val'×Bool:=JD key ops ops.length
def j7h (nl:Bool) (ops:List Op') (H:ops.length<=1000000) (key:Int):Ev E 111 [yj nl yP ops,.int .i64 key] (.tup [.agg (J9 (Q4 ops key).1),.bool (Q4 ops key).2]):=by
 refine jV rfl ?_;conv in(occs:=*)F111=>all_goals cbv
 simp;refine jK (vs:=[yj nl yP ops]) zS rfl (sv164 zS zS) ?_;rintro v F t B ⟨p,f,I,q⟩;simp only at p f I q;subst p q;simp;refine jf λc a=>?_;have K:c.tm 3=.ptr 6 0 0:=by rw[a];simp
 have i:c.tm 4=.ptr 8 64 0:=by rw[a];simp
 have j:c.tm 5=.ptr 10 128 0:=by rw[a];simp
 have s:c.tm 9=.fn (.func 217) [] [.ptr 513 256 0]:=by rw[a];simp
 have o:c.df=[]:=by rw[a];simp
 have y:c.fb=0:=by rw[a];simp
 have m:c.ro=0:=by rw[a];simp
 have G:c.nx=512:=by rw[a];simp
 have x:c.ob 6=some ⟨0,.cells [.int .i64 key]⟩:=by rw[a];simp only[JJ,jio];rw[f];simp
 have z:c.ob 8=some ⟨64,.cells [.int .i64 0,.int .i64 0]⟩:=by rw[a];simp only[JJ,jio];rw[f];simp
 have k:c.ob 10=some ⟨128,.cells [.bool false]⟩:=by rw[a];simp only[JJ,jio];rw[f];simp
 have J:c.ob 513=some ⟨256,.cells [yj nl yP ops]⟩:=by rw[a];simp only[JJ,jio];rw[f];simp
 clear a f;refine jzw nl ops H key 512 G zO s ⟨256,rfl,zO⟩ K i j m y x z k J ?_;intro e ob L M v b r h n w g d;have D:Q4 ops key=(v,b):=g;rw[D];rcases d with⟨rfl,rfl,rfl⟩|rfl;simp[i,j,j0,r,h,m,j2,J9];refine Qa (l:=1027) (u:=513) (by simp[o]) (by simp[n]) zS (JS rfl (l:=[.agg (J9 ⟨0,0⟩),.bool false]) (by simp[jy,j0,i,j,J9]) rfl rfl);simp;refine Qa (l:=1027) (u:=513) (by simp[o]) (by simp[n]) (by simp[m]) (JS rfl (l:=[.agg (J9 v),.bool b]) (by simp[jy,j0,i,j,r,h,J9]) rfl rfl)
def Xk (h:Hist') (i:Int):Bool×List Op':=if Yp h&&(decide (0<=i)&&decide (i<h.ts.length)) then ((h.ts.getD i.toNat ⟨0,0,true,[]⟩).nl,(h.ts.getD i.toNat ⟨0,0,true,[]⟩).ops) else (true,[])
def j7i {h:Hist'}(k:Small h) (i:Int):Ev E 110 [.agg (ya h),.int .i64 i] (yj (Xk h i).1 yP (Xk h i).2):=by
 have f:=j8w k;have l:=k.ts;refine jV rfl ?_;obtain⟨R,a⟩:∃R,Xk h i=R:=⟨_,rfl⟩;rw[a];unfold Xk at a;conv in(occs:=*)F110=>all_goals cbv
 simp[ya,j0];refine jQ f zI rfl zI ?_;cases b:Yp h;rw[jcx b];rw[b]at a;subst a;simp;exact j4 rfl (by simp[yj]) rfl;rw[b]at a;rw[Wm b];by_cases c:i<0;rw[za zP]at a;subst a;simp[c];exact j4 rfl (by simp[yj]) rfl;by_cases g:(h.ts.length:Int)<=i;rw[za zP]at a;subst a;simp[c,g,j0];exact j4 rfl (by simp[yj]) rfl;rw[zb zP]at a;obtain⟨j,rfl⟩:∃j:Nat,i=j:=⟨i.toNat,zO⟩;have d:j<h.ts.length:=zO;have e:(h.ts.flatMap jt)[j*3+2]? = some (yj (h.ts[j]).nl yP (h.ts[j]).ops):=by rw[jk j9 h.ts d (by decide:2<3)];rfl
 rw[bh,X1 d]at a;subst a;simp[c,g,j0,d,j6 j9,e];exact j4 rfl zS rfl
def jkp {h:Hist'}(b:Small h) (i:Int):(Xk h i).2.length<=1000:=by unfold Xk;split;rename_i c;simp only[aj,ze]at c;have a:i.toNat<h.ts.length:=zO;rw[X1 a];exact b.os _ (av a);simp
def j7g {h:Hist'}(c:Small h) (i key:Int):Ev E 169 [.agg (ya h),.int .i64 i,.int .i64 key] (.tup [.agg (J9 (Q4 (Xk h i).2 key).1),.bool (Q4 (Xk h i).2 key).2]):=by
 have b:=j7i c i;have a:=j7h (Xk h i).1 (Xk h i).2 (by have:=jkp c i;omega) key;refine jV rfl ?_;generalize (Xk h i).1=nl at *;generalize (Xk h i).2=ops at *;obtain⟨R,d⟩:∃R,Q4 ops key=R:=⟨_,rfl⟩;rw[d]at a ⊢;conv in(occs:=*)F169=>all_goals cbv
 simp[ya,j0];refine jQ b zI rfl zI ?_;rw[JI (show(yj nl yP ops).plain=true from rfl)];simp;refine jQ a zS rfl zS ?_;rw[Jn (by simp[V.plain,J9])];simp[j0,j2,J9];exact JS zS (l:=[.agg (J9 R.1),.bool R.2]) (by simp[jy,j0,J9]) rfl rfl
def opAt (h:Hist') (a b:Int):Option Op' :=
 if Yp h&&(decide (0<=a)&&(decide (a<h.ts.length)&&(decide (0<=b)&&decide (b<((h.ts.getD a.toNat ⟨0,0,true,[]⟩).ops.length:Nat))))) then (h.ts.getD a.toNat ⟨0,0,true,[]⟩).ops[b.toNat]? else none
def op0:Op':=⟨false,0,0,0⟩
def ev165 {h:Hist'}(v:Small h) (a b:Int):Ev E 165 [.agg (ya h),.agg (jD (a,b))] (.tup [.agg (yP ((opAt h a b).getD op0)),.bool ((opAt h a b).any λo=>!o.w)]):=by
 have x:=j8w v;have I:=v.ts;refine jV rfl ?_;obtain⟨R,c⟩:∃R,opAt h a b=R:=⟨_,rfl⟩;rw[c];unfold opAt at c;conv in(occs:=*)F165=>all_goals cbv
 simp[ya,j0,jD];generalize u:jyl E YO (C.seq (C.draw _ _) _) (j3d _ _)=K;have d:∀s:St,j3d [.cell 4 (some 4),.t 5] (.tup [.agg (yP (R.getD op0)),.bool (R.any λo=>!o.w)]) .ret s->K .ret s:=λs h=>by rw[<- u,jp0];exact h
 refine YI x zI rfl zI ?_;cases n:Yp h;rw[jcx n];rw[n]at c;subst c;simp[j0,j2];exact d _ (JS zS (l:=[.agg (yP op0),.bool false]) (by simp[jy,j0,yP,op0]) rfl rfl);rw[n]at c;rw[Wm n];by_cases k:a<0;rw[za zP]at c;subst c;simp[k,j0,j2];exact d _ (JS zS (l:=[.agg (yP op0),.bool false]) (by simp[jy,j0,yP,op0]) rfl rfl);by_cases m:(h.ts.length:Int)<=a;rw[za zP]at c;subst c;simp[k,m,j0,j2];exact d _ (JS zS (l:=[.agg (yP op0),.bool false]) (by simp[jy,j0,yP,op0]) rfl rfl);obtain⟨i,rfl⟩:∃i:Nat,a=i:=⟨a.toNat,zO⟩;have f:i<h.ts.length:=zO;rw[bh,X1 f]at c;obtain⟨t,p⟩:∃t,h.ts[i]=t:=⟨_,rfl⟩;rw[p]at c;have Q:=v.os t (p▸av f);have e:(h.ts.flatMap jt)[i*3+2]? = some (yj t.nl yP t.ops):=by rw[jk j9 h.ts f (by decide:2<3),p];rfl
 by_cases q:b<0;rw[za zP]at c;subst c;simp[k,m,q,j0,j2];exact d _ (JS zS (l:=[.agg (yP op0),.bool false]) (by simp[jy,j0,yP,op0]) rfl rfl);by_cases B:(t.ops.length:Int)<=b;rw[za zP]at c;subst c;simp[k,m,q,B,j0,j2,f,j6 j9,e];exact d _ (JS zS (l:=[.agg (yP op0),.bool false]) (by simp[jy,j0,yP,op0]) rfl rfl);obtain⟨j,rfl⟩:∃j:Nat,b=j:=⟨b.toNat,zO⟩;have z:j<t.ops.length:=zO;rw[zb zP,bh,aa z]at c;obtain⟨o,y⟩:∃o,t.ops[j]=o:=⟨_,rfl⟩;rw[y]at c;subst c;have O:¬t.ops.length<=j:=zO;have L:¬h.ts.length<=i:=zO;have g:∀s:St,s.tm 2=.ptr 4 0 0->s.tm 3=.ptr 6 64 0->s.tm 4=.ptr 8 128 0->s.ob 4=some ⟨0,.cells (ya h)⟩->s.ob 6=some ⟨64,.cells [.int .i64 i,.int .i64 j]⟩->s.ob 8=some ⟨128,.cells [.bool false,.int .i64 0,.int .i64 0,.int .i64 0]⟩->s.df=[]->s.ro=0->s.fb=0->K .nrm s:=by intro s F H r P G M J D N;rw[<- u,ji7];simp[F,H,P,G,j0,ya,f,j6 j9,e,z,j6 jH,jh jH,y,yP,j2,N,D];refine⟨by simp[Jp,Q7,Qt,ja7,yx,yy,yO,Delta.wo,Delta.wt];try decide,?_⟩;simp[r,M,j0,D,j2];refine⟨by simp[Jp,Q7,Qt,ja7,yx,yy,yO,Delta.wo,Delta.wt,r];try decide,?_⟩;exact JS (by simp[J]) (l:=[.agg (yP o),.bool !o.w]) (by simp[jy,j0,yP,r]) rfl (by simp[j4i,yP])
 clear u;simp[k,m,q,B,j0,f,j6 j9,e];exact g _ zS zS zS zI zS zS zS zS zS
def valV (v:Val'):V:=.agg (J9 v)
def XZ (g:Hist') (key i:Int):Val':=(Q4 (Xk g i).2 key).1
def Jl (g:Hist') (a key:Int) (W:List Int):List (Int×Val'):=(W.filter λi=>!(i==a)).map λi=>(i,XZ g key i)
def QR {p:Txn'->Bool}{ts:List Txn'}:∀n,n<=ts.length->(∀x∈yq p ts n,0<=x/\x<n)/\(yq p ts n).Pairwise (· < ·)
 |0,_=>by simp[yq]
 |n+1,h=>by have a:=QR (p:=p) (ts:=ts) n zO;have e:=Jw (p:=p) (show n<ts.length by omega);rw[e];cases d:p ts[n];simp only[ak,zc,aU];exact⟨λx b=>by have:=a.1 x b;omega,a.2⟩;simp only[zd];refine⟨λx b=>?_,?_⟩;rcases aP.1 b with h|h;have:=a.1 x h;omega;rw[ae]at h;omega;rw[List.pairwise_append];refine⟨a.2,ft _ _,λx b y c=>?_⟩;rw[ae]at c;have:=a.1 x b;omega
def j0n {b:Type}{m:List (Int×b)}{k:Int}{a:b}(h:k ∉ m.map (·.1)):W6 m k a=m++[(k,a)]:=by unfold W6;rw[mfind_none.2 h]
def jit {g:Hist'}{a key:Int}{W:List Int}{i:Nat}(hi:i<W.length):Jl g a key (W.take (i+1))=Jl g a key (W.take i)++(if W[i]=a then [] else [(W[i],XZ g key W[i])]):=by unfold Jl;rw[aw hi,cg,bw];by_cases h:W[i]=a<;>simp[h]
def jko {g:Hist'}{a key:Int}{W:List Int}(d:W.Pairwise (· < ·)) {i:Nat}(hi:i<W.length):W[i] ∉ (Jl g a key (W.take i)).map (·.1):=by intro h;unfold Jl at h;rw[dl]at h;obtain⟨x,f,c⟩:=aI.1 h;have b:=(bA.1 f).1;simp only[Function.comp]at c;obtain⟨j,e,rfl⟩:=bo b;rw[ai]at e;rw[dN]at c;have:=cL.1 d j i zO hi zO;omega
def OthR (g:Hist') (a key:Int) (W:List Int) (ob:ZO) (ub:Nat) (r:V×(ZO)×(Nat->Bool)×Nat):Prop :=
 ∃M U ver:Nat,r.1=.map (2*M+1) U/\ub<=M/\M<r.2.2.2/\ub<=U/\r.2.1 (2*M+1)=some ⟨U,.mp ver (MP valV (Jl g a key W))⟩/\(∀k,(∀m,ub<=m->k≠2*m+1)->r.2.1 k=ob k)/\ub<=r.2.2.2
def sv166 {Yf:YF}{g:Hist'}(Q:Small g) (hm:Yp g=true) (a key:Int) {ob:ZO}{tk:Nat->Bool}{ro base ub:Nat}(a0:ro<=ub) :
 ∃r,EvS E Yf.y 166 [.agg (ya g),.int .i64 a,.int .i64 key] ob tk ro base ub r/\OthR g a key (yM g key) ob ub r:=by
 refine J7 rfl zQ ?_;show wpC E Yf S166.body _ (Jd S166.res _);obtain⟨vw,O,H⟩:=ev218 Q hm key;obtain⟨W,N⟩:∃W,yM g key=W:=⟨_,rfl⟩;have b0:W.length<=1000:=by have h1:=JX (wrB key) g.ts g.ts.length;have T:=Q.ts;rw[<- N];unfold yM;omega
 have I:W.Pairwise (· < ·):=by rw[<- N];exact(QR _ zK).2
 rw[N]at H ⊢;have S:¬2*ub=2*(ub+64+64):=zO;have n2:¬2*(ub+64+64)=2*ub:=zO;conv in(occs:=*)S166=>all_goals cbv
 simp[ya,j0,S];refine jQ O zI rfl zI ?_;obtain⟨nl,H⟩:=H;obtain⟨t,add,p⟩:=jip (ub:=ub+64+64+64+64+64+64) H;rw[p];simp;refine jf λe b=>?_;obtain⟨M,G⟩:∃M,M=ub+64+64:=⟨_,rfl⟩;have g1:e.tm 1=.int .i64 a:=by rw[b];simp
 have g2:e.tm 2=.int .i64 key:=by rw[b];simp
 have g3:e.tm 3=.ptr (2*ub+1) ub 0:=by rw[b];simp
 have g7:e.tm 7=.map (2*M+1) M:=by rw[b,G];simp
 have P:e.tm 13=.sl t nl W.length (W.flatMap ye):=by rw[b];simp
 have L:e.tm 14=.int .i64 W.length:=by rw[b];simp
 have K:e.tm 15=.int .i64 0:=by rw[b];simp
 have gd:e.df=[]:=by rw[b];simp
 have gr:e.ro=ro:=by rw[b];simp
 have gn:M<e.nx:=by rw[b,G];simp
 have ph:e.ob (2*ub+1)=some ⟨ub,.cells (ya g)⟩:=by rw[b];simp[S,ya]
 have pm:e.ob (2*M+1)=some ⟨M,.mp 0 []⟩:=by rw[b,G];simp
 have pf:∀k,(∀m,ub<=m->k≠2*m+1)->e.ob k=ob k:=by intro k B;have h1:=B ub zO;have T:=B (ub+64+64) zO;rw[b];simp[h1,T]
 clear b p;have b5:ub<M:=zO;clear G S n2;refine j7 [(9,9),(15,31)] W.length (λi s=>s.tm 15=.int .i64 i/\M<s.nx/\s.ob (2*ub+1)=some ⟨ub,.cells (ya g)⟩/\(∀k,(∀m,ub<=m->k≠2*m+1)->s.ob k=ob k)/\∃ver,s.ob (2*M+1)=some ⟨M,.mp ver (MP valV (Jl g a key (W.take i)))⟩) rfl rfl
  ⟨by simp[K],gn,ph,pf,0,by simp[pm,Jl,MP]⟩ ?_
 rintro i s hi ⟨n,hn,oh,of,ver,om⟩ f;have X:=(f.t 1 zS).trans g1;have f2:=(f.t 2 zS).trans g2;have f3:=(f.t 3 zS).trans g3;have U:=(f.t 7 zS).trans g7;have F:=(f.t 13 zS).trans P;have q:=(f.t 14 zS).trans L;have fd:=f.d.trans gd;have fr:=f.r.trans gr;clear f;by_cases c:i<W.length;have Z:=jc c zO;obtain⟨x,hx⟩:∃x,W[i]=x:=⟨_,rfl⟩;have hI:J0 1 (.sl t nl W.length (W.flatMap ye)) (.int .i64 (i:Int))=some (.eptr (W.flatMap ye) i):=by simp[J0,c,j3 jA]
 have v:∀ob,WG ob none (.eptr (W.flatMap ye) i)=some (.int .i64 x):=λob=>by have h:=jk jA W c (by decide:0<1);rw[hx,bE,br]at h;rw[jc3];simpa[Xj,ye] using h
 have j:=jit (g:=g) (a:=a) (key:=key) c;have w:=jko (g:=g) (a:=a) (key:=key) I c;rw[hx]at j w;by_cases o:x=a;rw[zb o,aU]at j;subst o;simp[n,F,q,c,hI,v,X,Z];exact⟨zO,oh,of,ver,by rw[j];exact om⟩;rw[za o]at j;have D:(x != a)=true:=by simpa using o
 have z:=j7g Q x key;simp[n,F,q,c,hI,v,X,D,f2,f3,oh,j0,U,ya];refine jQ z zI rfl zI ?_;rw[Jn (by simp[V.plain,J9])];have b6:valV (Q4 (Xk g x).2 key).1=valV (XZ g key x):=rfl;simp;refine jb2 (f:=valV) (a:=XZ g key x) (ver:=ver) (l:=2*M+1) (u:=M) (k:=x) (Jl g a key (W.take i)) zS zS (by simp[valV,XZ,J9]) (zU om) (by simp[fr];omega) ?_;rw[j0n w,<- j];have nM:¬2*ub+1=2*M+1:=zO;have J:¬2*ub=2*M:=zO;simp[n,Z,J,oh,ya];refine⟨c,zO,λk B=>?_⟩;have:=B M zO;rw[za this];exact of k B;have:i=W.length:=zO;subst this;rw[bf]at om;simp[n,q,U];exact JQ (by simp[fd]) ⟨M,M,ver,zS,zO,by simp;omega,zO,zU om,zU of,by simp;omega⟩
end Go.Pv.T
