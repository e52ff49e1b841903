/- Part. -/
import Derived.Test.YtmanndcfeicokaaGreatDoorTAG
import Derived.Sort.AssemblyPlain
import Derived.Laws.Bits64
set_option maxRecDepth 100000
set_option maxHeartbeats 8000000
set_option linter.all false
namespace Go.Pv.T
open Go Go.Pv
def JD (k:Int) (ops:List Op'):Nat->Val'×Bool
 |0=>(⟨0,0⟩,false)
 |i+1=>match ops[i]? with
  |some o=>if wkB k o then (o.v,true) else JD k ops i
  |none=>JD k ops i
def jan {k:Int}{ops:List Op'}{i:Nat}(h:i<ops.length):JD k ops (i+1)=if wkB k ops[i] then (ops[i].v,true) else JD k ops i:=by simp[JD,aa h]
def jch (k:Int) (ops:List Op'):∀i,i<=ops.length->(JD k ops i).2=(ops.take i).any (wkB k)
 |0,_=>by simp[JD]
 |i+1,h=>by rw[jan zO,ay zO,eW,<- jch k ops i zO];cases a:wkB k ops[i]<;>simp[a]
def ev107 (t:Txn') (J:t.ops.length<=1000000) (k:Int):Ev E 107 [.agg (jl t),.int .i64 t.ops.length,.int .i64 k] (.tup [.agg (J4 (JD k t.ops t.ops.length).1),.bool (JD k t.ops t.ops.length).2]):=by
 refine jQ rfl ?_;conv in(occs:=*)F107=>all_goals cbv
 simp[jl,j0,j6];refine j9 [(9,10),(12,45)] t.ops.length (λi s=>s.tm 10=.int .i64 i/\s.ob 6=some ⟨0,.cells (jl t)⟩/\s.ob 12=some ⟨64,.cells [.int .i64 0,.int .i64 0]⟩/\s.ob 16=some ⟨256,.cells (J4 (JD k t.ops i).1)⟩/\s.tm 9=.bool (JD k t.ops i).2) rfl rfl
  ⟨zS,by simp[jl],zS,by simp[JD,J4],by simp[JD]⟩ ?_
 rintro i s K ⟨m,x,g,h,z⟩ f;have q:s.tm 1=.int .i64 t.ops.length:=by rw[f.t 1 zS];simp
 have G:s.tm 2=.int .i64 k:=by rw[f.t 2 zS];simp
 have B:s.tm 3=.ptr 6 0 0:=by rw[f.t 3 zS];simp
 have F:s.tm 6=.ptr 12 64 0:=by rw[f.t 6 zS];simp
 have D:s.tm 8=.ptr 16 256 0:=by rw[f.t 8 zS];simp
 have H:s.df=[]:=by rw[f.d];simp
 have fr:s.ro=0:=by rw[f.r];simp
 clear f;by_cases a:i<t.ops.length;have u:=jb a zO;have c:=jan (k:=k) a;obtain⟨o,p⟩:∃o,t.ops[i]=o:=⟨_,rfl⟩;rw[p]at c;have y:(t.ops.flatMap yQ)[i*4]? = some (.bool o.w):=by have:=jZ jH t.ops a (by decide:0<4);rw[bp,p]at this;rw[this];rfl
 have a1:(t.ops.flatMap yQ)[i*4+1]? = some (.int .i64 o.key):=by rw[jZ jH t.ops a (by decide:1<4),p];rfl
 have a2:∀ob,W3 ob (some 2) (.eptr (t.ops.flatMap yQ) (i*4+2))=some (.agg (J4 o.v)):=λob=>by
  have I:i*4+4<=t.ops.length*4:=zO;rw[jdx,Wo,zb (by rw[j4 jH];omega)];have:=Xp jH t.ops i a;rw[p]at this;have e:((t.ops.flatMap yQ).drop (i*4+2)).take 2=((((t.ops.flatMap yQ).drop (i*4)).take 4).drop 2):=by rw[gp,dI]
  rw[e,this];rfl
 cases b:o.w;have n:wkB k o=false:=by unfold wkB;rw[b];rfl
 rw[n]at c;simp only[ah,zc]at c;simp[m,q,B,x,j0,jl,a,j7 jH,y,b,u,g,h,z];exact⟨by rw[c],by rw[c]⟩;cases j:(o.key==k);have n:wkB k o=false:=by unfold wkB;rw[b,j];rfl
 rw[n]at c;simp only[ah,zc]at c;simp[m,q,G,B,x,j0,jl,a,j7 jH,y,a1,b,j,u,g,h,z];exact⟨by rw[c],by rw[c]⟩;have n:wkB k o=true:=by unfold wkB;rw[b,j];rfl
 rw[n]at c;simp only[zd]at c;simp[m,q,G,B,D,x,j0,jl,a,j7 jH,y,a1,a2,b,j,u,g,h,J4,fr,j6];rw[c];simp;have:i=t.ops.length:=zO;subst this;simp[m,q,D,h,j0,z,F,g,J4,fr,j6];exact JM (by simp[H]) (l:=[.agg (J4 (JD k t.ops t.ops.length).1),.bool (JD k t.ops t.ops.length).2]) (by simp[jv,j0,F,J4]) rfl rfl
section
variable {E:Env}{Yf:YF}{st:St}{ub:Nat}{K:St->Nat->Prop}{d:Option Nat}{nm:Bool}
def j3x {sz a n:Nat}{zero:List V}{x y:A}(b:ye E st.tm x=.int .i64 (n:Int)) (g:ye E st.tm y=.int .i64 (n:Int)) (c:0<n) (f:n*a<=140737488355328) (j:n<=140737488355328) (i:zero.length=sz) (e:0<sz)
 (h:QW K st d ub { v:=.osl (jI d nm st.fb ub) ub 0 n sz,obs:=[(jI d nm st.fb ub,⟨ub,.cells (ja8 n zero)⟩)] }):jB E Yf ⟨d,.mkSl false sz a zero x y,none,nm⟩ st ub K:=by
 rw[jR _ rfl rfl];simp only[yS,b,g];rw[zb (by refine⟨zO,zO,?_,zO,i,e⟩;rw[<- fZ];exact gV.2 f),za (by intro h;omega),Jo,jJ];simp only[aX,Jm];exact h
end
def jw3 {st:St}{L u n:Nat}{cs:List V}(f:st.ob L=some ⟨u,.cells cs⟩) (m:cs.length=n) (e:st.ro<=u) (hp:cs.all V.pureLeaf=true):Ja st 6 (.osl L u 0 n 1)=some (.sl none false n cs):=by
 have b:j0 st.ob L u=some cs:=by simp[j0,f]
 have g:∀(k:Nat) (l:List V),l.all V.pureLeaf=true->l.mapM (Ja st (k+1))=some l:=by
  intro k l;induction l with
  |nil=>intro _;rfl
  |cons a l j=>
   intro h;simp only[bH,ab]at h;rw[bP,j h.2];have:Ja st (k+1) a=some a:=by
    have:=YT (st:=st) (keep:=false) (i:=0) h.1;cases a with
    |sl t o n cs=>cases t with
     |none=>rfl
     |some t=>cases h.1
    |osl=>cases h.1
    |_=>simp only[Ja,h.1,zd]
   rw[this];rfl
 show((j0 st.ob L u).bind λcs=>if Nat.ble st.ro u=true/\0+n*1<=cs.length then (((cs.drop 0).take (n*1)).mapM (Ja st 5)).map λc=>V.sl none false n c else none)=_;rw[b,ap,zb ⟨bY▸e,zO⟩,dy,bB,aJ zO,g 4 cs hp];rfl
def jfu {st:St}{L u n:Nat}{cs:List V}(c:st.ob L=some ⟨u,.cells cs⟩) (e:cs.length=n) (b:st.ro<=u) (hp:cs.all V.pureLeaf=true):jde st (.osl L u 0 n 1) false n cs:=by
 intro keep i;have a:j0 st.ob L u=some cs:=by simp[j0,c]
 have f:=jw3 c e b hp;refine⟨_,by simp only[jw,f,ap,a,aU];rfl,?_⟩;split;exact .inr ⟨_,rfl⟩;exact .inl rfl
end Go.Pv.T
namespace Go.Pv.T
open Go Go.Pv
end Go.Pv.T
namespace Go.Pv.T
open Go Go.Pv
end Go.Pv.T
namespace Go.Pv.T
open Go Go.Pv
def ju9 (l:List Int):(l.flatMap yf).all V.pureLeaf=true:=by rw[av];intro y c;obtain⟨a,_,b⟩:=ci.1 c;simp[yf]at b;subst b;rfl
def jxr {l:List Txn'}(h:∀t∈l,t.ops.length<=1000):rcT l<=l.length*1000:=by
 induction l with
 |nil=>simp[rcT,rc]
 |cons t l a=>
  have e:=a (λt b=>h t (aS _ b));have c:=h t (aK ..);have d:=rc_le t.ops;have:rcT (t::l)=rc t.ops+rcT l:=by rw[rcT,aZ,rc_app];rfl
  rw[this,bh,cJ];omega
structure Bnd (g:Hist'):Prop where
 i:(Y3 g).length<=1000
 l:(jdu g).length<=1000000
 r:rcT g.ts<=1000000
 m:mostH g<=1000
 t:g.ts.length<=1000
def bnd_of {g:Hist'}(a:Small g):Bnd g:=by have b:=a.ts;refine⟨?_,?_,?_,jm4 a _,b⟩;have:=Jh XS g.ts g.ts.length;show(yt XS g.ts g.ts.length).length<=1000;omega;have:=jds a.os g.ts.length;show(jgo g.ts g.ts.length).length<=1000000;have:g.ts.length*1000<=1000*1000:=bf _ b;omega;have:=jxr a.os;have:g.ts.length*1000<=1000*1000:=bf _ b;omega
def jrd {ub n:Nat}{cs:List V}:Xt ub (.sl (some (0,1)) false n cs)=some { v:=.sl (some (ub,1)) false n cs,add:=[ub] }:=by rw[Xt,zb (by rfl)];rfl
end Go.Pv.T
namespace Go.Pv.T
open Go Go.Pv
end Go.Pv.T
namespace Go.Pv.T
open Go Go.Pv
end Go.Pv.T
namespace Go.Pv.T
open Go Go.Pv
def Wz (n:Nat) (l:List (List UInt8)):List (List UInt8):=(l.take n).map (·.take 100)
def fewT (t:Txn'):Txn':={ t with nl:=false,ops:=t.ops.take 25 }
def fewH (h:Hist'):Hist':={ sn:=(Wz 25 h.ss).isEmpty,ss:=Wz 25 h.ss,kn:=(Wz 45 h.ks).isEmpty,ks:=Wz 45 h.ks,tn:=((h.ts.take 45).map fewT).isEmpty,ts:=(h.ts.take 45).map fewT }
def jw4 (h:Hist'):Small (fewH h):=by refine⟨?_,?_,?_,?_,?_,?_⟩;show(Wz 25 h.ss).length<=1000;simp[Wz];omega;intro s b;obtain⟨a,_,rfl⟩:=aE.1 (show s∈Wz 25 h.ss from b);simp;omega;show(Wz 45 h.ks).length<=1000;simp[Wz];omega;intro s b;obtain⟨a,_,rfl⟩:=aE.1 (show s∈Wz 45 h.ks from b);simp;omega;show((h.ts.take 45).map fewT).length<=1000;simp;omega;intro t c;obtain⟨a,_,rfl⟩:=aE.1 (show t∈(h.ts.take 45).map fewT from c);simp[fewT];omega
def jnr {n i:Nat}{l:List (List UInt8)}(hi:i<l.length) (_:i<n):Wz (i+1) l=Wz i l++[(l[i]).take 100]:=by rw[Wz,ay hi,bA];rfl
def jsx {n:Nat}{l:List (List UInt8)}{i:Nat}(hi:i<=l.length) (b:i<=n) (h:¬(i<l.length/\i<n)):Wz i l=Wz n l:=by unfold Wz;congr 1;by_cases a:i<l.length;have:i=n:=zO;rw[this];rw[aJ zO,aJ zO]
def tlC:C->C
 | .seq _ b=>b
 |c=>c
def hdC:C->C
 | .seq a _=>a
 |c=>c
def jkw (n m:Nat):jbx false [.int .i64 (n:Int),.int .i64 (m:Int)]=some (.int .i64 ((min n m:Nat):Int)):=by simp only[jbx,QK];by_cases h:n<=m;rw[cC h];simp[jgn];omega;rw[fK (Nat.le_of_not_le h)];simp[jgn];omega
def jfo (c:List UInt8):c.take (min c.length 100)=c.take 100:=by rcases iA c.length 100 with h'|h';rw[cC h',aJ zK,aJ h'];rw[fK h']
def jsw (n:Nat) (l:List (List UInt8)):(Wz n l).length<=n:=by simp[Wz];omega
def jq8 {l:List UInt8}{kk:IntKind}{k:Nat}(h:k<=l.length):Y1 none (some (.int kk (k:Int))) (.str l)=some (.str (l.take k)):=by simp[Y1,Js,h]
def joz {cs:List V}{kk:IntKind}{t:Option (Nat×Nat)}{nl:Bool}{sz n k:Nat}(h:k<=n) (a:cs.length=n*sz):Y5 sz none (some (.int kk (k:Int))) (.sl t nl n cs)=some (.sl none nl k (cs.take (k*sz))):=by simp[Y5,Js,h,a]
end Go.Pv.T
namespace Go.Pv.T
open Go Go.Pv
end Go.Pv.T
namespace Go.Pv.T
open Go Go.Pv
def few_end {h:Hist'}{i:Nat}(hi:i<=h.ts.length) (c:i<=45) (b:¬(i<h.ts.length/\i<45)):(h.ts.take i).map fewT=(h.ts.take 45).map fewT:=by congr 1;by_cases a:i<h.ts.length;have:i=45:=zO;rw[this];rw[aJ zO,aJ zO]
def j15 (l:List Op') (k:Nat):(l.flatMap yQ).take (k*4)=(l.take k).flatMap yQ:=by
 induction l generalizing k with
 |nil=>simp
 |cons a l b=>
  cases k with
  |zero=>simp
  |succ k=>rw[aZ,eZ,aZ,cJ,<- b k];show(V.bool a.w::V.int .i64 a.key::V.int .i64 a.v.kind::V.int .i64 a.v.n::l.flatMap yQ).take (k*4+4)=_;simp[yQ]
def kE1 {st:St}{p l u:Nat}{x y z:V}{g:Hist'}(a:st.df=[]) (hp:st.tm p=.ptr l u 0) (b:st.ob l=some ⟨u,.cells [x,y,z]⟩)
 (e:jde st x g.sn g.ss.length (g.ss.flatMap Jp)) (c:jde st y g.kn g.ks.length (g.ks.flatMap Jp)) (d:jde st z g.tn g.ts.length (g.ts.flatMap jl)):Ws [.cell p (some 3)] (λr=>jv2 r g) .ret st:=endH1 a hp b e c d
def run217 {Yf:YF}(nl:Bool) (ops:List Op') (hm:ops.length<=1000000) {l u lh uh:Nat}{ob0:ZO}{tk0:Nat->Bool}{ro base ub0:Nat}(J:Nat->(ZO)->(Nat->Bool)->Nat->Prop) (P:V×(ZO)×(Nat->Bool)×Nat->Prop)
 (m:∀k ob g h b c,J k ob h b->b<=c->Fr b ob g->J k g h c) (n:∀k ob h b,J k ob h b->ob lh=some ⟨uh,.cells [yl nl yQ ops]⟩) (N:ro<=ub0)
 (p:∀k (_:k<ops.length) ob h b,J k ob h b->ro<=b->∃r,EvY Yf l u [.int .i64 (ops.length-1-k:Nat),.agg (yQ (ops.getD (ops.length-1-k) ⟨false,0,0,0⟩))] ob h ro b r/\ro<=r.2.2.2 /\
  ((r.1=.bool true/\J (k+1) r.2.1 r.2.2.1 r.2.2.2)\/(r.1=.bool false/\∀g c,r.2.2.2<=c->Fr r.2.2.2 r.2.1 g->P (.tup [],g,r.2.2.1,c))))
 (w:∀ob h b,J ops.length ob h b->P (.tup [],ob,h,b)) (M:J 0 ob0 tk0 ub0):∃r,EvS E Yf.y 217 [.yld l u,.ptr lh uh 0] ob0 tk0 ro base ub0 r/\P r:=by
 refine JI rfl zQ ?_;show wpC E Yf S217.body _ (Jw S217.res P);have hh:=n 0 ob0 tk0 ub0 M;have Q:IntKind.i64.wrap ((ops.length:Int)-1)=(ops.length:Int)-1:=jk zO zO;conv in(occs:=*)S217=>all_goals cbv
 simp[j0,hh,Q];refine j9 [(3,3),(7,18)] ops.length (λk s=>s.tm 3=.int .i64 ((ops.length:Int)-1-k)/\ro<=s.nx/\J k s.ob s.tk s.nx) rfl rfl ⟨zS,by simp;omega,m _ _ _ _ _ _ M zP (Fr.refl _ _)⟩ ?_;rintro k s hk ⟨B,a0,I⟩ f;have U:s.tm 0=.yld l u:=by rw[f.t 0 zS];simp
 have Z:s.tm 1=.ptr lh uh 0:=by rw[f.t 1 zS];simp
 have L:s.df=[]:=by rw[f.d];simp
 have fr:s.ro=ro:=by rw[f.r];simp
 clear f;have hc:=n _ _ _ _ I;by_cases v:k<ops.length;obtain⟨j,hj⟩:∃j,j=ops.length-1-k:=⟨_,rfl⟩;have z:j<ops.length:=zO;have e:(ops.length:Int)-1-k=(j:Int):=zO;rw[e]at B;have w2:IntKind.i64.wrap ((j:Int)-1)=(ops.length:Int)-1-(k+1):=by rw[jk zO zO];omega
 have D:ops.getD j ⟨false,0,0,0⟩=ops[j]:=by rw[am,aa z];rfl
 simp[B,U,Z,j0,hc,z,j7 jH,jd jH];refine jq5 λi a=>?_;have F:i.tm 11=.yld l u:=by rw[a];simp
 have K:i.tm 12=.int .i64 j:=by rw[a];simp
 have H:i.tm 16=.agg (yQ ops[j]):=by rw[a];simp
 have e3:i.tm 3=.int .i64 j:=by rw[a];simp[B]
 have ed:i.df=[]:=by rw[a];simp[L]
 have S:i.ro=ro:=by rw[a];simp[fr]
 have et:i.tk=s.tk:=by rw[a];simp
 have eo:i.ob=s.ob:=by rw[a];simp
 clear a;obtain⟨r,O,b0,o⟩:=p k v i.ob s.tk (s.nx+64+64+64+64+64+64+64+64) (m _ _ _ _ _ _ I zO (by rw[eo];exact Fr.refl _ _)) zO;rw[<- hj,D]at O;refine jlt (l:=l) (u:=u) (zU F) ⟨r,by simpa[K,H,et,S] using O,?_⟩;rcases o with⟨q,G⟩|⟨q,hP⟩;simp[q,put,yg,e3,w2];exact⟨v,zO,m _ _ _ _ _ _ G zO (Fr.refl _ _)⟩;simp[q,put];refine⟨(.tup [],r.2.1,r.2.2.1,r.2.2.2+64),?_,hP _ _ zO (Fr.refl _ _)⟩;simp[endS,ed];have:k=ops.length:=zO;subst this;obtain⟨X,T⟩:∃x:Int,x=(ops.length:Int)-1-ops.length:=⟨_,rfl⟩;rw[<- T]at B;have c1:¬0<=X:=zO;simp[B,c1];refine⟨(.tup [],s.ob,s.tk,s.nx+64+64),?_,w _ _ _ (m _ _ _ _ _ _ I zO (Fr.refl _ _))⟩;simp[endS,L]
def j5v:C:=.region [⟨some 7,.alloc [(.bool false),(.int .i64 0),(.int .i64 0),(.int .i64 0)],none,false⟩,⟨none,.store 4 (.t 7) (.t 11),none,false⟩]
def jv3:C:=.block 1 (.seq (.region [⟨some 12,.fieldAddr 0 (.t 7),none,false⟩,⟨some 13,.load none (.t 12),none,false⟩,⟨some 14,.mov (.t 13),none,false⟩,⟨some 15,.fieldAddr 1 (.t 7),(some (14,true)),false⟩,⟨some 16,.load none (.t 15),(some (14,true)),false⟩,⟨some 17,.load none (.t 3),(some (14,true)),false⟩,⟨some 18,.bin .eql (.t 16) (.t 17),(some (14,true)),false⟩,⟨some 19,.pick (.t 14) (.t 18) (.c (.bool false)),none,false⟩])
 (.cond (.t 19) (.seq (.region [⟨some 20,.fieldAddr 2 (.t 7),none,false⟩,⟨some 21,.load (some 2) (.t 20),none,false⟩,⟨none,.store 2 (.t 4) (.t 21),none,false⟩,⟨none,.store 1 (.t 5) (.c (.bool true)),none,false⟩]) (.ret)) (.skip)))
def j2t (nl:Bool) (ops:List Op') (x:ops.length<=1000000) (d:Int) {st:St}{lh uh:Nat}(U:Nat) (hU:st.nx=U) (d2:64<=U) (h9:st.tm 9=.fn (.func 217) [] [.ptr lh uh 0]) (hl:∃m,lh=2*m+1/\m<U)
 (h3:st.tm 3=.ptr 6 0 0) (h4:st.tm 4=.ptr 8 64 0) (h5:st.tm 5=.ptr 10 128 0) (b0:st.ro=0) (a0:st.fb=0) (o6:st.ob 6=some ⟨0,.cells [.int .i64 d]⟩) (o8:st.ob 8=some ⟨64,.cells [.int .i64 0,.int .i64 0]⟩) (c6:st.ob 10=some ⟨128,.cells [.bool false]⟩)
 (oh:st.ob lh=some ⟨uh,.cells [yl nl yQ ops]⟩) {Q:Ex->St->Prop}
 (hQ:∀(e:Ex) (ob:ZO) (tk:Nat->Bool) (ub:Nat) (v:Val') (b:Bool),ob 8=some ⟨64,.cells (J4 v)⟩->ob 10=some ⟨128,.cells [.bool b]⟩->ob (2*U+3)=some ⟨U+1,.dfr⟩->U+64<=ub ->
  JD d ops ops.length=(v,b)->(e=.nrm/\v=⟨0,0⟩/\b=false\/e=.ret)->Q e { st with ob:=ob,tk:=tk,nx:=ub,df:=(2*U+3,U+1)::st.df }) :
 wpC E YU (.rangeFunc (.t 9) [10,11] j5v jv3) st Q:=by
 obtain⟨m,rfl,c9⟩:=hl;subst hU;refine Q5 (g:=217) (first:=[]) (captured:=[.ptr (2*m+1) uh 0]) (zU h9) ?_;have e1:¬2*m+1=2*st.nx+1:=zO;have e2:¬2*m+1=2*st.nx+3:=zO;have b9:¬2*m=2*st.nx:=zO;have c1:¬2*m=2*st.nx+2:=zO;have:=run217 (Yf:=jik E YU j5v jv3 st [10,11] (2*st.nx+1) st.nx) nl ops x (l:=2*st.nx+1) (u:=st.nx) (lh:=2*m+1) (uh:=uh)
  (ob0:=upd (upd st.ob (2*st.nx+3) (some ⟨st.nx+1,.dfr⟩)) (2*st.nx+1) (some ⟨st.nx,.loop .ready none⟩)) (tk0:=st.tk) (ro:=st.ro) (base:=(st.fb+1023)*1024) (ub0:=st.nx+64)
  (λk ob tk ub=>JD d ops ops.length=JD d ops (ops.length-k)/\ob (2*st.nx+1)=some ⟨st.nx,.loop .ready none⟩/\ob (2*st.nx+3)=some ⟨st.nx+1,.dfr⟩/\ob 6=some ⟨0,.cells [.int .i64 d]⟩/\ob 8=some ⟨64,.cells [.int .i64 0,.int .i64 0]⟩/\ob 10=some ⟨128,.cells [.bool false]⟩/\ob (2*m+1)=some ⟨uh,.cells [yl nl yQ ops]⟩/\st.nx+64<=ub)
  (λr=>∃s z,r.2.1 (2*st.nx+1)=some ⟨st.nx,.loop s z⟩/\s≠.busy/\st.ro<=st.nx/\Q (z.getD .nrm) { st with ob:=λk=>if Nat.beq (2*st.nx+1) k then none else r.2.1 k,tk:=r.2.2.1,nx:=r.2.2.2,df:=(2*st.nx+3,st.nx+1)::st.df })
  ?_ ?_ zO ?_ ?_ ?_
 obtain⟨r,hr,hP⟩:=this;exact⟨r,hr,hP⟩;rintro k ob i tk ub b7 ⟨p,J,N,T,M,L,K,g8⟩ d0 H;have f:∀n,(∀m,ub<=m->n≠2*m+1)->i n=ob n:=H;exact⟨p,by rw[f _ (λm x=>by omega)];exact J,by rw[f _ (λm x=>by omega)];exact N,by rw[f _ (λm x=>by omega)];exact T,by rw[f _ (λm x=>by omega)];exact M,by rw[f _ (λm x=>by omega)];exact L,by rw[f _ (λm x=>by omega)];exact K,zO⟩;rintro k ob tk ub ⟨p,J,N,T,M,L,K,g8⟩;exact K
 ·rintro k hk ob tk ub ⟨p,J,N,T,M,L,K,g8⟩ d1;obtain⟨j,hj⟩:∃j,j=ops.length-1-k:=⟨_,rfl⟩;have P:j<ops.length:=zO;have c0:ops.getD j ⟨false,0,0,0⟩=ops[j]:=by rw[am,aa P];rfl
  have B:=jan (k:=d) P;rw[<- hj,c0];obtain⟨o,ho⟩:∃o,ops[j]=o:=⟨_,rfl⟩;rw[ho]at B ⊢;rw[show ops.length-k=j+1 by omega]at p;rw[B]at p;refine jhu (asg:=j5v) (bd:=jv3) (xs:=[.int .i64 (j:Nat),.agg (yQ o)]) rfl zO J zQ zQ ?_;simp[j5v,jfw,j0,a0,yQ,b0,j6];refine⟨by rw[za zO,za zO];exact J,jg λc a=>?_⟩;have f3:c.tm 3=.ptr 6 0 0:=by rw[a];simp[yg,h3]
  have f4:c.tm 4=.ptr 8 64 0:=by rw[a];simp[yg,h4]
  have f5:c.tm 5=.ptr 10 128 0:=by rw[a];simp[yg,h5]
  have f7:c.tm 7=.ptr 14 ub 0:=by rw[a];simp
  have n6:¬6=2*st.nx+1:=zO;have Z:¬8=2*st.nx+1:=zO;have q:¬10=2*st.nx+1:=zO;have c5:¬14=2*st.nx+1:=zO;have n3:¬2*st.nx+3=2*st.nx+1:=zO;have X:¬2*st.nx+3=14:=zO;have O:¬2*m+1=14:=zO;have p6:c.ob 6=some ⟨0,.cells [.int .i64 d]⟩:=by rw[a];simp[yg,n6,T]
  have p8:c.ob 8=some ⟨64,.cells [.int .i64 0,.int .i64 0]⟩:=by rw[a];simp[yg,Z,M]
  have F:c.ob 10=some ⟨128,.cells [.bool false]⟩:=by rw[a];simp[yg,q,L]
  have I:c.ob 14=some ⟨ub,.cells (yQ o)⟩:=by rw[a];simp[yg,c5,yQ]
  have p3:c.ob (2*st.nx+3)=some ⟨st.nx+1,.dfr⟩:=by rw[a];simp[yg,X,N]
  have p1:c.ob (2*st.nx+1)=some ⟨st.nx,.loop .busy none⟩:=by rw[a];simp
  have ph:c.ob (2*m+1)=some ⟨uh,.cells [yl nl yQ ops]⟩:=by rw[a];simp[yg,b9,O,K]
  have fr:c.ro=0:=by rw[a]
  have fn:ub<=c.nx:=by rw[a];simp;omega
  clear a;have c3:¬2*st.nx+1=8:=zO;have S:¬2*st.nx+1=10:=zO;have c8:¬2*st.nx+3=8:=zO;have b5:¬2*st.nx+3=10:=zO;have skip:wkB d o=false->JD d ops ops.length=JD d ops (ops.length-(k+1)):=λD=>by rw[D]at p;rw[p,show ops.length-(k+1)=j by omega];rfl
  have done:wkB d o=false->(c4:True)->JD d ops ops.length=JD d ops (ops.length-(k+1))/\upd c.ob (2*st.nx+1) (some ⟨st.nx,.loop .ready none⟩) (2*st.nx+3)=some ⟨st.nx+1,.dfr⟩:=λD _=>⟨skip D,by rw[yg,za n3];exact p3⟩;cases h:o.w;have D:=skip (by unfold wkB;rw[h];rfl);simp[jv3,f7,I,j0,yQ,h,p1,QB];exact⟨D,by rw[yg,za n3];exact p3,by rw[yg,za n6];exact p6,by rw[yg,za Z];exact p8,by rw[yg,za q];exact F,by rw[yg,za e1];exact ph,zO⟩;cases y:(o.key==d);have D:=skip (by unfold wkB;rw[h,y];rfl);simp[jv3,f7,I,j0,yQ,h,f3,p6,y,p1,QB];exact⟨D,by rw[yg,za n3];exact p3,by rw[yg,za n6];exact p6,by rw[yg,za Z];exact p8,by rw[yg,za q];exact F,by rw[yg,za e1];exact ph,zO⟩;have c7:wkB d o=true:=by unfold wkB;rw[h,y];rfl
  rw[c7]at p;simp only[zd]at p;simp[jv3,f7,I,j0,yQ,h,f3,p6,y,f4,f5,p8,F,fr,j6,c3,S,p1,QB];intro i b7 d4 H;have fk:∀n,(∀m,c.nx+64+64+64+64+64+64+64+64+64+64+64+64<=m->n≠2*m+1)->i n=_:=H;have G:∀{k:Nat},k≠2*st.nx+1->(if 2*st.nx+1=k then none else i k)=i k:=λhk=>za λe=>hk e.symm;refine⟨.done,some .ret,?_,zS,?_⟩;rw[fk _ (λm x=>by omega)];simp;have:=hQ .ret (λk=>if 2*st.nx+1=k then none else i k) c.tk b7 o.v true (by rw[G Z,fk _ (λm x=>by omega)];simp[yg,Z,J4]) (by rw[G q,fk _ (λm x=>by omega)];simp[yg,q])
   (by rw[G n3,fk _ (λm x=>by omega)];simp[yg,c8,b5,p3]) zO p (Or.inr rfl)
  rw[b0,a0]at this;simpa[jq] using this
 rintro ob tk ub ⟨p,J,N,T,M,L,K,g8⟩;refine⟨.ready,none,J,zS,zO,?_⟩;rw[fU]at p;exact hQ .nrm _ _ _ ⟨0,0⟩ false ((j60 ob zO).trans M) ((j60 ob zO).trans L) ((j60 ob zO).trans N) g8 p (Or.inl ⟨rfl,rfl,rfl⟩);have d3:¬2*st.nx+3=2*st.nx+1:=zO;have a6:¬6=2*st.nx+1:=zO;have b6:¬6=2*st.nx+3:=zO;have a8:¬8=2*st.nx+1:=zO;have b8:¬8=2*st.nx+3:=zO;have a10:¬10=2*st.nx+1:=zO;have c2:¬10=2*st.nx+3:=zO;exact⟨by rw[Nat.sub_zero],zS,by simp[yg],by simp[yg,a6,b6,o6],by simp[yg,a8,b8,o8],by simp[yg,a10,c2,c6],by simp[yg,b9,c1,oh],zO⟩
end Go.Pv.T
namespace Go.Pv.T
open Go Go.Pv
end Go.Pv.T
namespace Go.Pv.T
open Go Go.Pv
def Qw {g:Hist'}(a:Yr g=false):errH g=4:=by unfold errH;rw[a];rfl
end Go.Pv.T
namespace Go.Pv.T
open Go Go.Pv Go.Sort
def arr {α:Type}(f:α->List V) (d:Array α):List V:=d.toList.flatMap f
def j08 {α:Type}{f:α->List V}{sz:Nat}(b:∀a,(f a).length=sz) (d:Array α):(arr f d).length=d.size*sz:=by unfold arr;rw[j4 b,aL]
def jaw {α:Type}{f:α->List V}{sz:Nat}(b:∀a,(f a).length=sz) (a:α):∀(l:List α) (i:Nat),i<l.length->j6 (l.flatMap f) (i*sz) (f a)=(l.set i a).flatMap f
 |[],_,h=>by simp at h
 |x::l,0,_=>by simp[j6,b]
 |x::l,i+1,h=>by
  have c:=jaw b a l i (zU h);have e:(i+1)*sz=(f x).length+i*sz:=by rw[b,cJ,fl]
  unfold j6 at c ⊢;rw[List.set_cons_succ,aZ,aZ,<- c,e,fm,aI,fo];simp
section
variable {α:Type}[Inhabited α] {f:α->List V}{sz:Nat}{d:Array α}
def idxA {l u n:Nat}{kk:IntKind}{x:Int}(b:0<=x) (a:x<n):ju sz (.osl l u 0 n sz) (.int kk x)=some (.ptr l u (x.toNat*sz)):=by simp[ju,b,a]
end
@[simp] theorem arrI_len (d:Array Int):(arr yf d).length=d.size:=by rw[j08 (sz:=1) j8,bB]
def At (l u:Nat) (cs:List V) (ob:ZO) (tk:Nat->Bool) (ub:Nat) (ob':ZO) (tk':Nat->Bool) (ub':Nat):Prop :=
 ob' l=some ⟨u,.cells cs⟩/\(∀key,key≠l->(∀m,ub<=m->key≠2*m+1)->ob' key=ob key)/\tk'=tk/\ub<=ub'
def jfe {st:St}{P:V×(ZO)×(Nat->Bool)×Nat->Prop}{e:Ex}(b:e=.nrm\/e=.ret) (a:st.df=[]) (h:P (.tup [],st.ob,st.tk,st.nx)):Jw [] P e st:=by refine⟨_,?_,h⟩;rcases b with rfl|rfl<;>simp[endS,a]
def wrapN {x:Int}(a:-1000000000<=x) (b:x<=1000000000):IntKind.i64.wrap x=x:=jk zO zO
def j6j {l u n x:Nat}{kk:IntKind}{X:Int}(a:X=(x:Nat)) (b:x<n):ju 1 (.osl l u 0 n 1) (.int kk X)=some (.ptr l u x):=by subst a;have:=idxA (sz:=1) (l:=l) (u:=u) (n:=n) (kk:=kk) (x:=(x:Int)) zO zO;simpa using this
def At.swap {l u:Nat}{k:Array Int}{cs:List V}{ob:ZO}{tk:Nat->Bool}{ub:Nat}{e:ZO}{f:Nat->Bool}{j:Nat}{d:ZO}{g:Nat->Bool}{i:Nat}(h:At l u (arr yf k) ob tk ub e f j)
 (p:d l=some ⟨u,.cells cs⟩) (m:∀c,c≠l->d c=e c) (n:g=f) (o:j<=i):At l u cs ob tk ub d g i :=
 ⟨p,λc a b=>(m c a).trans (h.2.1 c a b),n.trans h.2.2.1,bL h.2.2.2 o⟩
def jt6 (st:St) (d:Option Nat) (v:V) (ob:ZO) (tk:Nat->Bool):St:={ st with tm:=put st.tm d v,ob:=ob,tk:=tk }
section
variable {st:St}{d:Option Nat}{v:V}{ob:ZO}{tk:Nat->Bool}
@[simp] theorem retS_tm (e n:Nat):(jt6 st (some e) v ob tk).tm n=if n=e then v else st.tm n:=by simp[jt6,put,yg]
@[simp] theorem retS_tm0 (n:Nat):(jt6 st none v ob tk).tm n=st.tm n:=rfl
@[simp] theorem jkg:(jt6 st d v ob tk).ob=ob:=rfl
@[simp] theorem retS_tk:(jt6 st d v ob tk).tk=tk:=rfl
@[simp] theorem retS_ro:(jt6 st d v ob tk).ro=st.ro:=rfl
@[simp] theorem retS_nx:(jt6 st d v ob tk).nx=st.nx:=rfl
@[simp] theorem retS_fb:(jt6 st d v ob tk).fb=st.fb:=rfl
@[simp] theorem retS_df:(jt6 st d v ob tk).df=st.df:=rfl
end
@[simp] theorem j3h (l u o:Nat):jcq (.ptr l u o)=some (.ptr l u o):=rfl
def jP {Yf:YF}{f:FuncId}{xs:List A}{st:St}{ub:Nat}{K:St->Nat->Prop}{d:Option Nat}{nm:Bool}{vs:List V}{P:V×(ZO)×(Nat->Bool)×Nat->Prop}(i:xs.map (ye E st.tm)=vs) (g:E.sh nm f=true)
 (j:∃r,EvS E Yf.y f vs st.ob st.tk st.ro ((st.fb+d.getD 0+1)*1024) ub r/\P r) (h:∀v c a b,P (v,c,a,b)->K (jt6 st d v c a) b):jB E Yf ⟨d,.call f xs,none,nm⟩ st ub K:=by
 obtain⟨r,e,k⟩:=j;exact jcv i g ⟨r,e,h r.1 r.2.1 r.2.2.1 r.2.2.2 k⟩
def jc3 {st:St}{x y:Nat}{P:V×(ZO)×(Nat->Bool)×Nat->Prop}(a:st.df=[]) (h:P (.tup [st.tm x,st.tm y],st.ob,st.tk,st.nx)):Jw [.t x,.t y] P .ret st:=⟨_,by simp[endS,a,jv],h⟩
def Jj {st:St}{x:Nat}{P:V×(ZO)×(Nat->Bool)×Nat->Prop}(a:st.df=[]) (h:P (st.tm x,st.ob,st.tk,st.nx)):Jw [.t x] P .ret st:=⟨_,by simp[endS,a,jv],h⟩
def At.refl {l u:Nat}{cs:List V}{ob:ZO}{tk:Nat->Bool}{ub:Nat}(h:ob l=some ⟨u,.cells cs⟩):At l u cs ob tk ub ob tk ub:=⟨h,λ_ _ _=>rfl,rfl,zK⟩
def At.trans {l u:Nat}{cs f:List V}{ob g j:ZO}{tk i k:Nat->Bool}{ub o c n:Nat}(h:At l u cs ob tk ub g i o) (p:At l u f g i c j k n) (q:o<=c):At l u f ob tk ub j k n :=
 ⟨p.1,λe a b=>(p.2.1 e a (λm r=>b m (by have:=h.2.2.2;omega))).trans (h.2.1 e a b),p.2.2.1.trans h.2.2.1,by have:=h.2.2.2;have:=p.2.2.2;omega⟩
def At.same {l u:Nat}{cs:List V}{ob e a:ZO}{tk f b:Nat->Bool}{ub g c:Nat}(h:At l u cs ob tk ub e f g) (j:a=e) (i:b=f) (k:g<=c):At l u cs ob tk ub a b c:=by subst j i;exact⟨h.1,h.2.1,h.2.2.1,bL h.2.2.2 k⟩
end Go.Pv.T
namespace Go.Pv.T
open Go Go.Pv Go.Sort
end Go.Pv.T
namespace Go.Pv.T
open Go Go.Pv Go.Sort
def j9l {Yf:YF}{a b:C}{st:St}{Q:Ex->St->Prop}{c:Bool}(h:∀s,s=st->kIf E Yf a b s Q c):kIf E Yf a b st Q c:=h st rfl
end Go.Pv.T
namespace Go.Pv.T
open Go Go.Pv Go.Sort
end Go.Pv.T
namespace Go.Pv.T
open Go Go.Pv Go.Sort
end Go.Pv.T
namespace Go.Pv.T
open Go Go.Pv Go.Sort
end Go.Pv.T
namespace Go.Pv.T
open Go Go.Pv Go.Sort
@[simp] theorem convV_int (k a:IntKind) (n:Int):Xy k (.int a n)=some (.int k (k.wrap n)):=rfl
end Go.Pv.T
namespace Go.Pv.T
open Go Go.Pv Go.Sort
end Go.Pv.T
namespace Go.Pv.T
open Go Go.Pv Go.Sort
end Go.Pv.T
namespace Go.Pv.T
open Go Go.Pv Go.Sort
def sv167n {Yf:YF}{ob:ZO}{tk:Nat->Bool}{ro base ub:Nat}:∃r,EvS E Yf.y 167 [.sl none true 0 []] ob tk ro base ub r/\r.2.1=ob/\r.2.2.1=tk/\ub<=r.2.2.2 :=
 ⟨(.tup [],ob,tk,ub),jlp (m:=none) rfl rfl rfl,rfl,rfl,zK⟩
def jnk:∀L:List Int,(L.flatMap yf).mapM int64? = some L
 |[]=>rfl
 |x::L=>by rw[aZ];show(V.int .i64 x::L.flatMap yf).mapM int64? = _;simp only[bP,jnk L];rfl
def sv167 {Yf:YF}{l u:Nat}{L T:List Int}(hp:L.Perm T) (f:T.Pairwise (·<=·)) (j:L.length<=1000000000) {ob:ZO}{tk:Nat->Bool}{ro base ub:Nat}(e:ob l=some ⟨u,.cells (L.flatMap yf)⟩) (b:ro<=u) (_:∀m,ub<=m->l≠2*m+1) (_:ro<=ub) :
 ∃r,EvS E Yf.y 167 [.osl l u 0 L.length 1] ob tk ro base ub r/\At l u (T.flatMap yf) ob tk ub r.2.1 r.2.2.1 r.2.2.2:=by
 have g:jox L=T:=jkm ((jak L).trans hp) (jkb L) f;have c:(L.flatMap yf).length=L.length:=by rw[j4 j8,bB]
 have a:∀T:List Int,T.map (V.int .i64)=T.flatMap yf:=λT=>by induction T<;>simp_all [yf]
 refine⟨(.tup [],upd ob l (some ⟨u,.cells (T.flatMap yf)⟩),tk,ub),jlp (m:=none) rfl ?_ rfl,zS,λd h _=>by simp[JQ _ _ h],rfl,zK⟩;have i:j0 ob l u=some (L.flatMap yf):=by simp[j0,e]
 simp only[jtx,jl2,jhx,jq6,QZ,i,ap,bB,zd];rw[zb ⟨bY▸b,trivial,zO,j⟩,dy,aJ zO,jnk,ap,g,a];have:(T.flatMap yf).length=(L.flatMap yf).length:=by rw[j4 j8,j4 j8,hp.length_eq]
 rw[j6,eK,dq,bM zO,aP]
end Go.Pv.T
namespace Go.Pv.T
open Go Go.Pv
def sv164 {Yf:YF}{b:V}(d:b.cells=[b]) (c:b.leaf=true) {ob:ZO}{tk:Nat->Bool}{ro base ub:Nat}:∃r,EvS E Yf.y 164 [b] ob tk ro base ub r /\
 r.1=.fn (.func 217) [] [.ptr (2*ub+1) ub 0]/\(∀a,r.2.1 a=if a=2*ub+1 then some ⟨ub,.cells [b]⟩ else ob a)/\r.2.2.1=tk/\r.2.2.2=ub+256:=by
 refine JI rfl zQ ?_;show wpC E Yf S164.body _ (Jw S164.res _);conv in(occs:=*)S164=>all_goals cbv
 simp[d,c];exact Jj zS ⟨zS,λa=>by simp,by simp[jq],zS⟩
def W4 (ops:List Op') (key:Int):Val'×Bool:=JD key ops ops.length
def ev111 (nl:Bool) (ops:List Op') (H:ops.length<=1000000) (key:Int):Ev E 111 [yl nl yQ ops,.int .i64 key] (.tup [.agg (J4 (W4 ops key).1),.bool (W4 ops key).2]):=by
 refine jQ rfl ?_;conv in(occs:=*)F111=>all_goals cbv
 simp;refine jP (vs:=[yl nl yQ ops]) zS rfl (sv164 zS zS) ?_;rintro v F t B ⟨p,f,I,q⟩;simp only at p f I q;subst p q;simp;refine jg λc a=>?_;have K:c.tm 3=.ptr 6 0 0:=by rw[a];simp
 have i:c.tm 4=.ptr 8 64 0:=by rw[a];simp
 have j:c.tm 5=.ptr 10 128 0:=by rw[a];simp
 have s:c.tm 9=.fn (.func 217) [] [.ptr 513 256 0]:=by rw[a];simp
 have o:c.df=[]:=by rw[a];simp
 have y:c.fb=0:=by rw[a];simp
 have m:c.ro=0:=by rw[a];simp
 have G:c.nx=512:=by rw[a];simp
 have x:c.ob 6=some ⟨0,.cells [.int .i64 key]⟩:=by rw[a];simp only[JU,jkg];rw[f];simp
 have z:c.ob 8=some ⟨64,.cells [.int .i64 0,.int .i64 0]⟩:=by rw[a];simp only[JU,jkg];rw[f];simp
 have k:c.ob 10=some ⟨128,.cells [.bool false]⟩:=by rw[a];simp only[JU,jkg];rw[f];simp
 have J:c.ob 513=some ⟨256,.cells [yl nl yQ ops]⟩:=by rw[a];simp only[JU,jkg];rw[f];simp
 clear a f;refine j2t nl ops H key 512 G zO s ⟨256,rfl,zO⟩ K i j m y x z k J ?_;intro e ob L M v b r h n w g d;have D:W4 ops key=(v,b):=g;rw[D];rcases d with⟨rfl,rfl,rfl⟩|rfl;simp[i,j,j0,r,h,m,j6,J4];refine jag (l:=1027) (u:=513) (by simp[o]) (by simp[n]) zS (JM rfl (l:=[.agg (J4 ⟨0,0⟩),.bool false]) (by simp[jv,j0,i,j,J4]) rfl rfl);simp;refine jag (l:=1027) (u:=513) (by simp[o]) (by simp[n]) (by simp[m]) (JM rfl (l:=[.agg (J4 v),.bool b]) (by simp[jv,j0,i,j,r,h,J4]) rfl rfl)
def Jv (h:Hist') (i:Int):Bool×List Op':=if Yr h&&(decide (0<=i)&&decide (i<h.ts.length)) then ((h.ts.getD i.toNat ⟨0,0,true,[]⟩).nl,(h.ts.getD i.toNat ⟨0,0,true,[]⟩).ops) else (true,[])
def ev110 {h:Hist'}(k:Small h) (i:Int):Ev E 110 [.agg (ya h),.int .i64 i] (yl (Jv h i).1 yQ (Jv h i).2):=by
 have f:=ev53 k;have l:=k.ts;refine jQ rfl ?_;obtain⟨R,a⟩:∃R,Jv h i=R:=⟨_,rfl⟩;rw[a];unfold Jv at a;conv in(occs:=*)F110=>all_goals cbv
 simp[ya,j0];refine jL f zI rfl zI ?_;cases b:Yr h;rw[Qw b];rw[b]at a;subst a;simp;exact j5 rfl (by simp[yl]) rfl;rw[b]at a;rw[W2 b];by_cases c:i<0;rw[za zP]at a;subst a;simp[c];exact j5 rfl (by simp[yl]) rfl;by_cases g:(h.ts.length:Int)<=i;rw[za zP]at a;subst a;simp[c,g,j0];exact j5 rfl (by simp[yl]) rfl;rw[zb zP]at a;obtain⟨j,rfl⟩:∃j:Nat,i=j:=⟨i.toNat,zO⟩;have d:j<h.ts.length:=zO;have e:(h.ts.flatMap jl)[j*3+2]? = some (yl (h.ts[j]).nl yQ (h.ts[j]).ops):=by rw[jZ jA h.ts d (by decide:2<3)];rfl
 rw[aX,JN d]at a;subst a;simp[c,g,j0,d,j7 jA,e];exact j5 rfl zS rfl
def jmp {h:Hist'}(b:Small h) (i:Int):(Jv h i).2.length<=1000:=by unfold Jv;split;rename_i c;simp only[ab,ze]at c;have a:i.toNat<h.ts.length:=zO;rw[JN a];exact b.os _ (au a);simp
def ev169 {h:Hist'}(c:Small h) (i key:Int):Ev E 169 [.agg (ya h),.int .i64 i,.int .i64 key] (.tup [.agg (J4 (W4 (Jv h i).2 key).1),.bool (W4 (Jv h i).2 key).2]):=by
 have b:=ev110 c i;have a:=ev111 (Jv h i).1 (Jv h i).2 (by have:=jmp c i;omega) key;refine jQ rfl ?_;generalize (Jv h i).1=nl at *;generalize (Jv h i).2=ops at *;obtain⟨R,d⟩:∃R,W4 ops key=R:=⟨_,rfl⟩;rw[d]at a ⊢;conv in(occs:=*)F169=>all_goals cbv
 simp[ya,j0];refine jL b zI rfl zI ?_;rw[JT (show(yl nl yQ ops).plain=true from rfl)];simp;refine jL a zS rfl zS ?_;rw[JW (by simp[V.plain,J4])];simp[j0,j6,J4];exact JM zS (l:=[.agg (J4 R.1),.bool R.2]) (by simp[jv,j0,J4]) rfl rfl
def opAt (h:Hist') (a b:Int):Option Op' :=
 if Yr h&&(decide (0<=a)&&(decide (a<h.ts.length)&&(decide (0<=b)&&decide (b<((h.ts.getD a.toNat ⟨0,0,true,[]⟩).ops.length:Nat))))) then (h.ts.getD a.toNat ⟨0,0,true,[]⟩).ops[b.toNat]? else none
def op0:Op':=⟨false,0,0,0⟩
def ev165 {h:Hist'}(v:Small h) (a b:Int):Ev E 165 [.agg (ya h),.agg (jE (a,b))] (.tup [.agg (yQ ((opAt h a b).getD op0)),.bool ((opAt h a b).any λo=>!o.w)]):=by
 have x:=ev53 v;have I:=v.ts;refine jQ rfl ?_;obtain⟨R,c⟩:∃R,opAt h a b=R:=⟨_,rfl⟩;rw[c];unfold opAt at c;conv in(occs:=*)F165=>all_goals cbv
 simp[ya,j0,jE];generalize u:juz E YU (C.seq (C.draw _ _) _) (j6e _ _)=K;have d:∀s:St,j6e [.cell 4 (some 4),.t 5] (.tup [.agg (yQ (R.getD op0)),.bool (R.any λo=>!o.w)]) .ret s->K .ret s:=λs h=>by rw[<- u,jsd];exact h
 refine Jb x zI rfl zI ?_;cases n:Yr h;rw[Qw n];rw[n]at c;subst c;simp[j0,j6];exact d _ (JM zS (l:=[.agg (yQ op0),.bool false]) (by simp[jv,j0,yQ,op0]) rfl rfl);rw[n]at c;rw[W2 n];by_cases k:a<0;rw[za zP]at c;subst c;simp[k,j0,j6];exact d _ (JM zS (l:=[.agg (yQ op0),.bool false]) (by simp[jv,j0,yQ,op0]) rfl rfl);by_cases m:(h.ts.length:Int)<=a;rw[za zP]at c;subst c;simp[k,m,j0,j6];exact d _ (JM zS (l:=[.agg (yQ op0),.bool false]) (by simp[jv,j0,yQ,op0]) rfl rfl);obtain⟨i,rfl⟩:∃i:Nat,a=i:=⟨a.toNat,zO⟩;have f:i<h.ts.length:=zO;rw[aX,JN f]at c;obtain⟨t,p⟩:∃t,h.ts[i]=t:=⟨_,rfl⟩;rw[p]at c;have Q:=v.os t (p▸au f);have e:(h.ts.flatMap jl)[i*3+2]? = some (yl t.nl yQ t.ops):=by rw[jZ jA h.ts f (by decide:2<3),p];rfl
 by_cases q:b<0;rw[za zP]at c;subst c;simp[k,m,q,j0,j6];exact d _ (JM zS (l:=[.agg (yQ op0),.bool false]) (by simp[jv,j0,yQ,op0]) rfl rfl);by_cases B:(t.ops.length:Int)<=b;rw[za zP]at c;subst c;simp[k,m,q,B,j0,j6,f,j7 jA,e];exact d _ (JM zS (l:=[.agg (yQ op0),.bool false]) (by simp[jv,j0,yQ,op0]) rfl rfl);obtain⟨j,rfl⟩:∃j:Nat,b=j:=⟨b.toNat,zO⟩;have z:j<t.ops.length:=zO;rw[zb zP,aX,aa z]at c;obtain⟨o,y⟩:∃o,t.ops[j]=o:=⟨_,rfl⟩;rw[y]at c;subst c;have O:¬t.ops.length<=j:=zO;have L:¬h.ts.length<=i:=zO;have g:∀s:St,s.tm 2=.ptr 4 0 0->s.tm 3=.ptr 6 64 0->s.tm 4=.ptr 8 128 0->s.ob 4=some ⟨0,.cells (ya h)⟩->s.ob 6=some ⟨64,.cells [.int .i64 i,.int .i64 j]⟩->s.ob 8=some ⟨128,.cells [.bool false,.int .i64 0,.int .i64 0,.int .i64 0]⟩->s.df=[]->s.ro=0->s.fb=0->K .nrm s:=by intro s F H r P G M J D N;rw[<- u,jk2];simp[F,H,P,G,j0,ya,f,j7 jA,e,z,j7 jH,jd jH,y,yQ,j6,N,D];refine⟨by simp[Jc,W6,QR,Qe,yy,yz,yP,Delta.wo,Delta.wt];try decide,?_⟩;simp[r,M,j0,D,j6];refine⟨by simp[Jc,W6,QR,Qe,yy,yz,yP,Delta.wo,Delta.wt,r];try decide,?_⟩;exact JM (by simp[J]) (l:=[.agg (yQ o),.bool !o.w]) (by simp[jv,j0,yQ,r]) rfl (by simp[j7k,yQ])
 clear u;simp[k,m,q,B,j0,f,j7 jA,e];exact g _ zS zS zS zI zS zS zS zS zS
def valV (v:Val'):V:=.agg (J4 v)
def Xw (g:Hist') (key i:Int):Val':=(W4 (Jv g i).2 key).1
def X3 (g:Hist') (a key:Int) (W:List Int):List (Int×Val'):=(W.filter λi=>!(i==a)).map λi=>(i,Xw g key i)
def Qv {p:Txn'->Bool}{ts:List Txn'}:∀n,n<=ts.length->(∀x∈yt p ts n,0<=x/\x<n)/\(yt p ts n).Pairwise (· < ·)
 |0,_=>by simp[yt]
 |n+1,h=>by have a:=Qv (p:=p) (ts:=ts) n zO;have e:=Jk (p:=p) (show n<ts.length by omega);rw[e];cases d:p ts[n];simp only[ah,zc,aP];exact⟨λx b=>by have:=a.1 x b;omega,a.2⟩;simp only[zd];refine⟨λx b=>?_,?_⟩;rcases aQ.1 b with h|h;have:=a.1 x h;omega;rw[ag]at h;omega;rw[List.pairwise_append];refine⟨a.2,fN _ _,λx b y c=>?_⟩;rw[ag]at c;have:=a.1 x b;omega
def j3j {b:Type}{m:List (Int×b)}{k:Int}{a:b}(h:k ∉ m.map (·.1)):Wi m k a=m++[(k,a)]:=by unfold Wi;rw[mfind_none.2 h]
def jkn {g:Hist'}{a key:Int}{W:List Int}{i:Nat}(hi:i<W.length):X3 g a key (W.take (i+1))=X3 g a key (W.take i)++(if W[i]=a then [] else [(W[i],Xw g key W[i])]):=by unfold X3;rw[ay hi,cl,bA];by_cases h:W[i]=a<;>simp[h]
def jmo {g:Hist'}{a key:Int}{W:List Int}(d:W.Pairwise (· < ·)) {i:Nat}(hi:i<W.length):W[i] ∉ (X3 g a key (W.take i)).map (·.1):=by intro h;unfold X3 at h;rw[dl]at h;obtain⟨x,f,c⟩:=aE.1 h;have b:=(bu.1 f).1;simp only[Function.comp]at c;obtain⟨j,e,rfl⟩:=ba b;rw[ai]at e;rw[dB]at c;have:=cB.1 d j i zO hi zO;omega
def OthR (g:Hist') (a key:Int) (W:List Int) (ob:ZO) (ub:Nat) (r:V×(ZO)×(Nat->Bool)×Nat):Prop :=
 ∃M U ver:Nat,r.1=.map (2*M+1) U/\ub<=M/\M<r.2.2.2/\ub<=U/\r.2.1 (2*M+1)=some ⟨U,.mp ver (MP valV (X3 g a key W))⟩/\(∀k,(∀m,ub<=m->k≠2*m+1)->r.2.1 k=ob k)/\ub<=r.2.2.2
def sv166 {Yf:YF}{g:Hist'}(Q:Small g) (hm:Yr g=true) (a key:Int) {ob:ZO}{tk:Nat->Bool}{ro base ub:Nat}(a0:ro<=ub) :
 ∃r,EvS E Yf.y 166 [.agg (ya g),.int .i64 a,.int .i64 key] ob tk ro base ub r/\OthR g a key (yN g key) ob ub r:=by
 refine JI rfl zQ ?_;show wpC E Yf S166.body _ (Jw S166.res _);obtain⟨vw,O,H⟩:=ev218 Q hm key;obtain⟨W,N⟩:∃W,yN g key=W:=⟨_,rfl⟩;have b0:W.length<=1000:=by have h1:=Jh (wrB key) g.ts g.ts.length;have T:=Q.ts;rw[<- N];unfold yN;omega
 have I:W.Pairwise (· < ·):=by rw[<- N];exact(Qv _ zK).2
 rw[N]at H ⊢;have S:¬2*ub=2*(ub+64+64):=zO;have n2:¬2*(ub+64+64)=2*ub:=zO;conv in(occs:=*)S166=>all_goals cbv
 simp[ya,j0,S];refine jL O zI rfl zI ?_;obtain⟨nl,H⟩:=H;obtain⟨t,add,p⟩:=jkh (ub:=ub+64+64+64+64+64+64) H;rw[p];simp;refine jg λe b=>?_;obtain⟨M,G⟩:∃M,M=ub+64+64:=⟨_,rfl⟩;have g1:e.tm 1=.int .i64 a:=by rw[b];simp
 have g2:e.tm 2=.int .i64 key:=by rw[b];simp
 have g3:e.tm 3=.ptr (2*ub+1) ub 0:=by rw[b];simp
 have g7:e.tm 7=.map (2*M+1) M:=by rw[b,G];simp
 have P:e.tm 13=.sl t nl W.length (W.flatMap yf):=by rw[b];simp
 have L:e.tm 14=.int .i64 W.length:=by rw[b];simp
 have K:e.tm 15=.int .i64 0:=by rw[b];simp
 have gd:e.df=[]:=by rw[b];simp
 have gr:e.ro=ro:=by rw[b];simp
 have gn:M<e.nx:=by rw[b,G];simp
 have ph:e.ob (2*ub+1)=some ⟨ub,.cells (ya g)⟩:=by rw[b];simp[S,ya]
 have pm:e.ob (2*M+1)=some ⟨M,.mp 0 []⟩:=by rw[b,G];simp
 have pf:∀k,(∀m,ub<=m->k≠2*m+1)->e.ob k=ob k:=by intro k B;have h1:=B ub zO;have T:=B (ub+64+64) zO;rw[b];simp[h1,T]
 clear b p;have b5:ub<M:=zO;clear G S n2;refine j9 [(9,9),(15,31)] W.length (λi s=>s.tm 15=.int .i64 i/\M<s.nx/\s.ob (2*ub+1)=some ⟨ub,.cells (ya g)⟩/\(∀k,(∀m,ub<=m->k≠2*m+1)->s.ob k=ob k)/\∃ver,s.ob (2*M+1)=some ⟨M,.mp ver (MP valV (X3 g a key (W.take i)))⟩) rfl rfl
  ⟨by simp[K],gn,ph,pf,0,by simp[pm,X3,MP]⟩ ?_
 rintro i s hi ⟨n,hn,oh,of,ver,om⟩ f;have X:=(f.t 1 zS).trans g1;have f2:=(f.t 2 zS).trans g2;have f3:=(f.t 3 zS).trans g3;have U:=(f.t 7 zS).trans g7;have F:=(f.t 13 zS).trans P;have q:=(f.t 14 zS).trans L;have fd:=f.d.trans gd;have fr:=f.r.trans gr;clear f;by_cases c:i<W.length;have Z:=jb c zO;obtain⟨x,hx⟩:∃x,W[i]=x:=⟨_,rfl⟩;have hI:ju 1 (.sl t nl W.length (W.flatMap yf)) (.int .i64 (i:Int))=some (.eptr (W.flatMap yf) i):=by simp[ju,c,j4 j8]
 have v:∀ob,W3 ob none (.eptr (W.flatMap yf) i)=some (.int .i64 x):=λob=>by have h:=jZ j8 W c (by decide:0<1);rw[hx,bB,bp]at h;rw[jdx];simpa[Xz,yf] using h
 have j:=jkn (g:=g) (a:=a) (key:=key) c;have w:=jmo (g:=g) (a:=a) (key:=key) I c;rw[hx]at j w;by_cases o:x=a;rw[zb o,aP]at j;subst o;simp[n,F,q,c,hI,v,X,Z];exact⟨zO,oh,of,ver,by rw[j];exact om⟩;rw[za o]at j;have D:(x != a)=true:=by simpa using o
 have z:=ev169 Q x key;simp[n,F,q,c,hI,v,X,D,f2,f3,oh,j0,U,ya];refine jL z zI rfl zI ?_;rw[JW (by simp[V.plain,J4])];have b6:valV (W4 (Jv g x).2 key).1=valV (Xw g key x):=rfl;simp;refine jcu (f:=valV) (a:=Xw g key x) (ver:=ver) (l:=2*M+1) (u:=M) (k:=x) (X3 g a key (W.take i)) zS zS (by simp[valV,Xw,J4]) (zU om) (by simp[fr];omega) ?_;rw[j3j w,<- j];have nM:¬2*ub+1=2*M+1:=zO;have J:¬2*ub=2*M:=zO;simp[n,Z,J,oh,ya];refine⟨c,zO,λk B=>?_⟩;have:=B M zO;rw[za this];exact of k B;have:i=W.length:=zO;subst this;rw[bk]at om;simp[n,q,U];exact Jj (by simp[fd]) ⟨M,M,ver,zS,zO,by simp;omega,zO,zU om,zU of,by simp;omega⟩
end Go.Pv.T
