/- Part. -/
import Derived.Test.YtmanndcfeicokaaGreatDoorRH
set_option maxRecDepth 100000
set_option maxHeartbeats 8000000
set_option linter.all false
namespace Go.Pv.T
open Go Go.Pv
def TupS (l:List V) (v:V):Prop:=∃vs,v=.tup vs/\vs.map V.strip1=l/\∀p∈vs.flatMap V.toks,p<64
def noAgg:V->Bool
 | .agg _=>false
 |_=>true
def jl4 {ub:Nat}{v:V}{l:List V}{K:Delta->Prop}(j:TupS l v) (f:l.all noAgg=true) (h:∀ws add,ws.map V.strip1=l->K { v:=.tup ws,add:=add }):wpD (Xq ub v) K:=by
 obtain⟨a,rfl,b,g⟩:=j;have e:Xq ub (.tup a)=some { v:=.tup (a.map (QR ub)),add:=(a.flatMap V.toks).map (ub + ·) }:=by rw[Xq,zb (by simpa only[yy,aw,dr] using g)];rfl
 rw[e,jG];refine h _ _ ?_;rw[<- b,cM];refine dw λw c=>?_;have i:noAgg w.strip1=true:=aw.1 f _ (by rw[<- b];exact aI.2 ⟨w,c,rfl⟩);cases w with
 |agg=>cases i
 |sl t k n cs=>cases t<;>rfl
 |_=>rfl
def Wq {w:V}{nl:Bool}{n:Nat}{cs:List V}(h:w.strip1=.sl none nl n cs):∃t,w=.sl t nl n cs:=by cases w<;>simp[V.strip1]at h;obtain⟨rfl,rfl,rfl⟩:=h;exact⟨_,rfl⟩
def jfr {w:V}{b:Bool}(h:w.strip1=.bool b):w=.bool b:=by cases w<;>simp[V.strip1]at h;subst h;rfl
def Wr {w:V}{k:IntKind}{b:Int}(h:w.strip1=.int k b):w=.int k b:=by cases w<;>simp[V.strip1]at h;obtain⟨rfl,rfl⟩:=h;rfl
def map2 {e c:Type}{f:e->c}{ws:List e}{a b:c}(h:ws.map f=[a,b]):∃x y,ws=[x,y]/\f x=a/\f y=b:=by
 match ws with
 |[x,y]=>simp only[aZ,cm,dT,and_true]at h;exact⟨x,y,rfl,h.1,h.2⟩
 |[]=>simp at h
 |[_]=>simp at h
 |_::_::_::_=>simp at h
def map3 {g e:Type}{f:g->e}{ws:List g}{a b c:e}(h:ws.map f=[a,b,c]):∃x y z,ws=[x,y,z]/\f x=a/\f y=b/\f z=c:=by
 match ws with
 |[x,y,z]=>simp only[aZ,cm,dT,and_true]at h;exact⟨x,y,z,rfl,h.1,h.2.1,h.2.2⟩
 |[]=>simp at h
 |[_]=>simp at h
 |[_,_]=>simp at h
 |_::_::_::_::_=>simp at h
def jre {ub:Nat}{v:V}{a1 a2 b:Bool}{n1 f:Nat}{c1 e:List V}{K:Delta->Prop}(k:TupS [.sl none a1 n1 c1,.sl none a2 f e,.bool b] v)
 (h:∀c a add,K { v:=.tup [.sl c a1 n1 c1,.sl a a2 f e,.bool b],add:=add }):wpD (Xq ub v) K:=by
 refine jl4 k rfl λws add g=>?_;obtain⟨x,y,z,rfl,l,i,j⟩:=map3 g;obtain⟨c,rfl⟩:=Wq l;obtain⟨a,rfl⟩:=Wq i;obtain rfl:=jfr j;exact h c a add
def jj3 {ub:Nat}{v:V}{a1 b:Bool}{n1:Nat}{c1:List V}{K:Delta->Prop}(f:TupS [.sl none a1 n1 c1,.bool b] v)
 (h:∀a add,K { v:=.tup [.sl a a1 n1 c1,.bool b],add:=add }):wpD (Xq ub v) K:=by
 refine jl4 f rfl λws add c=>?_;obtain⟨x,z,rfl,g,e⟩:=map2 c;obtain⟨a,rfl⟩:=Wq g;obtain rfl:=jfr e;exact h a add
def jw6 {ub:Nat}{v:V}{a1:Bool}{k:IntKind}{b:Int}{n1:Nat}{c1:List V}{K:Delta->Prop}(f:TupS [.sl none a1 n1 c1,.int k b] v)
 (h:∀a add,K { v:=.tup [.sl a a1 n1 c1,.int k b],add:=add }):wpD (Xq ub v) K:=by
 refine jl4 f rfl λws add c=>?_;obtain⟨x,z,rfl,g,e⟩:=map2 c;obtain⟨a,rfl⟩:=Wq g;obtain rfl:=Wr e;exact h a add
def j5j (st:St) (v w:V):Prop:=∀keep i,∃a,XF st keep i v=some a/\a.strip1=w/\(a.toks=[]\/a.toks=[i])
def jtf (st:St):List V->List V->Prop
 |[],[]=>True
 |v::vs,w::ws=>j5j st v w/\jtf st vs ws
 |_,_=>False
def jM {st:St}{v:V}(h:v.pureLeaf=true):j5j st v v:=by
 intro keep i;refine⟨v,?_,YI h,.inl ?_⟩;cases v with
 |agg=>cases h
 |fn=>cases h
 |_=>exact YS (st:=st) (keep:=keep) (i:=i) h
 cases v with
 |agg=>cases h
 |_=>exact jqx h
def XP {st:St}{v:V}{nl:Bool}{n:Nat}{cs:List V}(c:v.leaf=true) (h:jdd st v nl n cs):j5j st v (.sl none nl n cs):=by
 intro keep i;obtain⟨a,b,e⟩:=h keep i;refine⟨.sl a nl n cs,?_,rfl,?_⟩;rw[<- b];cases v with
 |agg=>cases c
 |fn=>simp only[jt,JY]at b;split at b<;>cases b
 |_=>rfl
 rcases e with rfl|⟨z,rfl⟩;exact .inl rfl;exact .inr rfl
def Wv {st:St}{keep:Bool}:∀{vs ls:List V}{i:Nat},jtf st vs ls->∃b,Jd st keep i vs=some b/\b.map V.strip1=ls/\(∀p∈b.flatMap V.toks,i<=p/\p<i+16*vs.length)/\yJ (b.flatMap V.toks)=true
 |[],[],i,_=>⟨[],rfl,rfl,zS,rfl⟩
 |v::vs,w::ws,i,h=>by obtain⟨a,n,k,e⟩:=h.1 keep i;obtain⟨b,j,l,f,g⟩:=Wv (keep:=keep) (i:=i+16) h.2;refine⟨a::b,by simp only[Jd,n,ah,j,aU],by rw[aZ,k,l],λp c=>?_,?_⟩;rw[bk,aQ]at c;simp only[bg];rcases c with c|c;rcases e with e|e<;>rw[e]at c<;>simp at c;omega;have:=f p c;omega;rw[bk];rcases e with e|e<;>rw[e];exact g;simp only[ga,yJ,aj,g,and_true,cp];rw[ep];intro o;obtain⟨p,c,m⟩:=ce.1 o;have:=br m;have:=f p c;omega
 |[],_::_,_,h=>h.elim
 |_::_,[],_,h=>h.elim
def jri (st:St):∀a:List Nat,(a.map ARes.t).mapM (ju st)=some (a.map st.tm)
 |[]=>rfl
 |n::a=>by rw[aZ,bR,jri st a];rfl
def jhy {ns:List Nat}{st:St}{vs ls:List V}{P:V->Prop}(n:∀r,TupS ls r->P r) (f:st.df=[]) (h:ns.map st.tm=vs) (u:2<=vs.length) (x:vs.length<=4) (g:jtf st vs ls):WQ (ns.map .t) P .ret st:=by
 obtain⟨c,k,j,o,s⟩:=Wv (keep:=yJ (vs.flatMap V.toks)) (i:=0) g;have e:2<=c.length:=by
  have m:=zg List.length j;have:∀{vs ls:List V},jtf st vs ls->vs.length=ls.length:=by
   intro vs;induction vs with
   |nil=>intro ls h;cases ls with|nil=>rfl|cons=>exact h.elim
   |cons v vs q=>intro ls h;cases ls with|nil=>exact h.elim|cons w ws=>rw[bg,bg,q h.2]
  have:=this g;simp only[bt]at m;omega
 refine⟨.tup c,?_,n _ ⟨c,rfl,j,λp l=>by have:=o p l;omega⟩⟩;simp only[jb4,Yk f,Yg f,zd,jri,h,ah,W6,k,s];match c,e with
 |a::b::r,_=>rfl
section
variable {E:Env}{Yf:YF}{st:St}{ub:Nat}{K:St->Nat->Prop}{d:Option Nat}{nm:Bool}
def jkp {sz a n:Nat}{zero:List V}{x y:A}(b:ye E st.tm x=.int .i64 (n:Int)) (f:ye E st.tm y=.int .i64 (n:Int)) (e:n*a<=140737488355328) (i:n<=140737488355328) (g:zero.length=sz) (c:0<sz)
 (h:QP K st d ub { v:=.osl (jI d nm st.fb ub) ub 0 n sz,obs:=[(jI d nm st.fb ub,⟨ub,.cells (ja6 n zero)⟩)] }):j8 E Yf ⟨d,.mkSl true sz a zero x y,none,nm⟩ st ub K:=by
 rw[jU _ rfl rfl];simp only[yU,b,f];rw[zb (by refine⟨zO,zO,?_,zO,g,c⟩;rw[<- fZ];exact gN.2 e),za zS,Jo,jG];simp only[ba,Je];exact h
end
def Upto (n i:Nat) (J:List Int) (cs:List V):Prop:=cs.length=n/\(∀j,j<i->cs[j]? = (J.flatMap yf)[j]?)/\cs.all V.pureLeaf=true
def Upto.set {n i:Nat}{J:List Int}{cs:List V}(h:Upto n i J cs) (hi:i<n) {x:Int}(m:J[i]? = some x):Upto n (i+1) J (j2 cs i [.int .i64 x]):=by
 obtain⟨g,f,k⟩:=h;have l:j2 cs i [.int .i64 x]=cs.set i (.int .i64 x):=by unfold j2;rw[cN,zb zO,aY];rfl
 rw[l];refine⟨by rw[dL];exact g,λj o=>?_,?_⟩;by_cases a:j=i;subst a;have c:=(ak.1 m);rw[dM zO,jn J c.1,c.2];rw[cU (λe=>a e.symm)];exact f j zO;refine aw.2 λy b=>?_;rcases List.mem_or_eq_of_mem_set b with b|rfl
 exact aw.1 k y b;rfl
def Upto.whole {n:Nat}{J:List Int}{cs:List V}(h:Upto n n J cs) (b:J.length=n):cs=J.flatMap yf:=by apply de;intro j;by_cases a:j<n;exact h.2.1 j a;rw[cG (by rw[h.1];omega),cG (by rw[j1 j6];omega)]
def Upto.zero (n:Nat) (J:List Int):Upto n 0 J (ja6 n [.int .i64 0]):=by refine⟨by simp[ja6],λj b=>by omega,?_⟩;refine aw.2 λy a=>?_;simp only[ja6,aI]at a;obtain⟨i,_,rfl⟩:=a;simp[V.pureLeaf,Nat.mod_one]
def jcy {st:St}{ub:Nat}{K:List FP->St->Prop}{d:Option Nat}{nm:Bool}{r:List AOpr}{f:FuncId}{xs:List A}{vs:List V}{v:V}{δ:Delta}(i:xs.map (ye E st.tm)=vs) (g:E.sh nm f=false) (hp:(vs.all λv=>v.strip.pureTop)=false)
 (a:EvO E f vs st.ob st.tk ((st.fb+d.getD 0+1)*1024) (ub+64*(r.length+1)) v) (e:Xq ub v=some δ)
 (h:jE E r (st.app d δ) (ub+64) (kFp { wt:=δ.wt,all:=true,seen:=λl=>(st.ob l).isSome } K)):jE E (⟨d,.call f xs,none,nm⟩::r) st ub K:=by
 have b:(xs.all λx=>(ye E st.tm x).strip.pureTop)=false:=by rw[<- i,dN]at hp;exact hp
 have c:jA E nm (ye E st.tm) (.call f xs)=some (f,vs):=by simp only[jA,g,i,b,co,du,ag,zc]
 simp only[jE,yK,c];exact .inl ⟨g,v,a,δ,e,h⟩
def j9j {st:St}{ub:Nat}{K:List FP->St->Prop}{d:Option Nat}{nm:Bool}{r:List AOpr}{f:FuncId}{xs:List A}{vs:List V}{l:List Int}(e:xs.map (ye E st.tm)=vs) (c:E.sh nm f=false) (hp:(vs.all λv=>v.strip.pureTop)=false)
 (i:∃v,EvO E f vs st.ob st.tk ((st.fb+d.getD 0+1)*1024) (ub+64*(r.length+1)) v/\j09 l v)
 (h:∀t a add,jE E r (st.app d { v:=.sl t a l.length (l.flatMap yf),add:=add }) (ub+64) (kFp { wt:=add,all:=true,seen:=λl=>(st.ob l).isSome } K)):jE E (⟨d,.call f xs,none,nm⟩::r) st ub K:=by
 obtain⟨v,g,a,j⟩:=i;obtain⟨t,add,b⟩:=jj5 (ub:=ub) j;exact jcy e c hp g b (h t a add)
def blC (b:Bool):List V:=[.bool b]
@[simp] theorem jqg (b:Bool):(blC b).length=1:=rfl
def bl_at (l:List Bool) {i:Nat}(h:i<l.length):(l.flatMap blC)[i]? = some (.bool l[i]):=by have:=jO jqg l h (by decide:0<1);simpa[blC] using this
end Go.Pv.T
namespace Go.Pv.T
open Go Go.Pv Go.Sort
@[simp] theorem cellV_lf (v:Val'):(jd9 v).leaf=true:=by unfold jd9;split;rfl;split<;>rfl
def lessV (a b:Val'):Bool:=if a.kind=b.kind then (a.kind==1&&decide (a.n<b.n)) else decide (a.kind<b.kind)
def cmpV (a b:Val'):Int:=if jtq a&&jtq b&&lessV a b then -1 else if jtq b&&jtq a&&lessV b a then 1 else 0
abbrev VV:Type:={ v:Val' // jtq v=true }
instance:Inhabited VV:=⟨⟨⟨0,0⟩,rfl⟩⟩
def vvC (v:VV):List V:=J7 v.1
@[simp] theorem j65 (v:VV):(vvC v).length=2:=rfl
@[simp] theorem vvC_leaf (v:VV):∀x∈vvC v,x.leaf=true:=by intro x a;simp only[vvC,J7,bD,dh,or_false]at a;rcases a with rfl|rfl<;>rfl
@[simp] theorem vvC_leafs (v:VV):(vvC v).all V.leaf=true:=rfl
@[simp] theorem vvC_strip1 (v:VV):(vvC v).map V.strip1=vvC v:=rfl
@[simp] theorem vvC_pure (v:VV):(vvC v).all V.pureLeaf=true:=rfl
def ltVV (a b:VV):Bool:=decide (cmpV a.1 b.1<0)
@[simp] theorem ltVV_fold (a b:VV):decide (cmpV a.1 b.1<0)=ltVV a b:=rfl
@[simp] theorem arrV_len (d:Array VV):(arr vvC d).length=d.size*2:=j0x (sz:=2) j65 d
end Go.Pv.T
namespace Go.Pv.T.Vs
open Go Go.Pv Go.Pv.T Go.Sort
end Go.Pv.T.Vs
namespace Go.Pv.T.Vs
open Go Go.Pv Go.Pv.T Go.Sort
end Go.Pv.T.Vs
namespace Go.Pv.T.Vs
open Go Go.Pv Go.Pv.T Go.Sort
end Go.Pv.T.Vs
namespace Go.Pv.T.Vs
open Go Go.Pv Go.Pv.T Go.Sort
end Go.Pv.T.Vs
namespace Go.Pv.T.Vs
open Go Go.Pv Go.Pv.T Go.Sort
end Go.Pv.T.Vs
namespace Go.Pv.T.Vs
open Go Go.Pv Go.Pv.T Go.Sort
end Go.Pv.T.Vs
namespace Go.Pv.T.Vs
open Go Go.Pv Go.Pv.T Go.Sort
end Go.Pv.T.Vs
namespace Go.Pv.T.Vs
open Go Go.Pv Go.Pv.T Go.Sort
end Go.Pv.T.Vs
namespace Go.Pv.T.Vs
open Go Go.Pv Go.Pv.T Go.Sort
end Go.Pv.T.Vs
namespace Go.Pv.T.Vs
open Go Go.Pv Go.Pv.T Go.Sort
end Go.Pv.T.Vs
namespace Go.Pv.T.Vs
open Go Go.Pv Go.Pv.T Go.Sort
end Go.Pv.T.Vs
namespace Go.Pv.T
open Go Go.Pv
@[simp] theorem jaf (v:Val'):(J7 v).length=2:=rfl
def j5p (a b:Val'):(a==b)=(a.kind==b.kind&&a.n==b.n):=by obtain⟨a1,a2⟩:=a;obtain⟨b1,b2⟩:=b;rw[bz];simp
def j3i (ob:ZO) (l:List Val') {i:Nat}(h:i<l.length):W9 ob (some 2) (.eptr (l.flatMap J7) (i*2))=some (.agg (J7 l[i])):=jd jaf ob l h
def idxJ:List (Bool×List Int)->List Int->List Int
 |c::cs,m::ms=>yH c.2 m 0::idxJ cs ms
 |_,_=>[]
def jku:∀(C:List (Bool×List Int)) (M:List Int),C.length=M.length->(idxJ C M).length=C.length
 |[],[],_=>rfl
 |c::cs,m::ms,h=>by simp only[idxJ,bg]at h ⊢;rw[jku cs ms zO]
 |[],_::_,h=>by simp at h
 |_::_,[],h=>by simp at h
def jkv:∀(C:List (Bool×List Int)) (M:List Int) (i:Nat) (h:i<C.length) (a:i<M.length),(idxJ C M)[i]? = some (yH (C[i]).2 M[i] 0)
 |c::cs,m::ms,0,_,_=>rfl
 |c::cs,m::ms,i+1,h,a=>by simp only[idxJ,bZ,iy];exact jkv cs ms i (zU h) (zU a)
 |[],_,_,h,_=>by simp at h
 |_::_,[],_,_,h=>by simp at h
def jkx (k:Int):∀(l:List Int) (n:Nat),yH l k n<(n+l.length:Nat)
 |[],n=>by simp only[yH,cC];omega
 |x::r,n=>by rw[yH];split;simp only[bg];omega;have:=jkx k r (n+1);simp only[bg];omega
def XB (g:Hist') (M:List Int):Option (List Int):=if jP g&&((yx g).length==M.length&&(idxJ (yx g) M).all λx=>decide (0<=x)) then some (idxJ (yx g) M) else none
def jlb (g:Hist') (r:Option (List Int)) (v:V):Prop:=match r with
 |some J=>TupS [.sl none (yx g).isEmpty (yx g).length ((yx g).flatMap Ye),.sl none false J.length (J.flatMap yf),.bool true] v
 |none=>TupS [.sl none true 0 [],.sl none true 0 [],.bool false] v
def js2 {g:Hist'}(a:Small g):(yx g).length<=1000000:=by unfold yx;rw[bt];exact jl7 a
def jqd {g:Hist'}(_:Small g):∀x∈yx g,x.1=x.2.isEmpty/\x.2.length<=41:=by
 intro x a;unfold yx jbq at a;split at a;rename_i b;obtain⟨p,_,rfl⟩:=aI.1 a;have c:Yt g=true:=by unfold jP at b;simp only[aj]at b;exact b.1
 exact⟨rfl,jpc c _ _⟩;simp at a
def ev98 {g:Hist'}(hs:Small g) {b:Bool}(M:List Int) (hM:M.length<=1000000):∃v,Ev E 98 [.agg (yb g),yl b yf M] v/\jlb g (XB g M) v:=by
 obtain⟨vc,b0,K⟩:=ev73 hs;have b8:=ev30 hs;have b7:=js2 hs;have I:=jqd hs;have w:∀{p:St}{P:V->Prop},p.df=[]->p.tm 4=.sl none true 0 []->p.tm 5=.sl none true 0 []->p.tm 6=.bool false->XB g M=none->WQ [.t 4,.t 5,.t 6] (jlb g (XB g M)) .ret p:=by intro p _ hd h4 h5 h6 hp;rw[hp];exact jhy (ns:=[4,5,6]) (vs:=[.sl none true 0 [],.sl none true 0 [],.bool false]) (λr h=>h) hd (by simp[h4,h5,h6]) zS zS ⟨jM rfl,jM rfl,jM rfl,trivial⟩
 refine JX rfl zQ ?_;obtain⟨P,hP⟩:∃P,jlb g (XB g M)=P:=⟨_,rfl⟩;have D:=λp h1 h2 h3 h4 h5=>hP▸@w p (λ_=>True) h1 h2 h3 h4 h5;rw[hP];obtain⟨C,hC⟩:∃C,yx g=C:=⟨_,rfl⟩;rw[hC]at K b7 I;conv in(occs:=*)F98=>all_goals cbv
 simp[yb,ya];refine jH b0 zI rfl zI ?_;refine Jw K λtc c1=>?_;simp[ya];refine jH b8 zI rfl zI ?_;cases hw:jP g;simp;exact D _ zS zS zS zS (by simp[XB,hw]);by_cases B:¬C.length=M.length;have q:((C.length:Int) != M.length)=true:=by simp;omega
 simp[q];exact D _ zS zS zS zS (by simp[XB,hC,B]);have B:C.length=M.length:=fH B;have q:((C.length:Int) != M.length)=false:=by simp;omega
 simp[q];refine jkp (n:=M.length) zS zS zO zO rfl zQ ?_;simp;obtain⟨J,hJ⟩:∃J,idxJ C M=J:=⟨_,rfl⟩;have S:J.length=M.length:=by rw[<- hJ,jku C M B];exact B
 have o:=jkv C M;rw[hJ]at o;have e:XB g M=if J.all (λx=>decide (0<=x)) then some J else none:=by unfold XB;rw[hC,hJ,hw,B];simp
 refine j5 [(4,6),(9,10),(28,47)] C.length (λi s=>s.tm 28=.int .i64 i/\(∃cs,s.ob 2433=some ⟨1216,.cells cs⟩/\Upto M.length i J cs)/\(J.take i).all (λx=>decide (0<=x))=true) rfl rfl ⟨zS,⟨_,zS,Upto.zero _ _⟩,zS⟩ ?_;rintro i s hi ⟨z,⟨cs,T,F⟩,k⟩ f;have f1:s.tm 1=yl b yf M:=by rw[f.t 1 zS];simp
 have f7:s.tm 7=.sl tc C.isEmpty C.length (C.flatMap Ye):=by rw[f.t 7 zS];simp
 have f8:s.tm 8=.osl 2433 1216 0 M.length 1:=by rw[f.t 8 zS];simp
 have b5:s.tm 26=.sl tc C.isEmpty C.length (C.flatMap Ye):=by rw[f.t 26 zS];simp
 have N:s.tm 27=.int .i64 C.length:=by rw[f.t 27 zS];simp
 have fd:s.df=[]:=by rw[f.d];simp
 have fr:s.ro=0:=by rw[f.r];simp
 clear f;by_cases j:i<C.length;have a0:=jR j zO;have c:i<M.length:=zO;have h1:=jem C j;have h2:=jn M c;have H:jv 1 (.sl tc C.isEmpty C.length (C.flatMap Ye)) (.int .i64 (i:Int))=some (.eptr (C.flatMap Ye) (i*1)):=by simp only[J1,j1 Xx];rw[zb zP];rfl
 rw[bx]at H;have b6:=j4j (l:=2433) (u:=1216) (n:=M.length) (kk:=.i64) (X:=(i:Int)) rfl c;have Z:=ev148 (a:=(C[i]).1) (C[i]).2 (by have:=(I _ (au j)).2;omega) M[i];have m:=o i j c;generalize yH (C[i]).2 M[i] 0=x at *;have O:=F.set c m;have Q:(j2 cs i [.int .i64 x])[i]? = some (.int .i64 x):=by rw[O.2.1 i zO];have L:=ak.1 m;rw[jn J L.1,L.2]
 have c0:=F.1;have b9:i+1<=M.length:=c;simp[z,f1,f8,b5,N,j,c,H,j4 j6,h1,h2];refine jH Z (by simp[yl]) rfl (by simp[yl]) ?_;simp[b6,T,ya,fr,c0,b9,f8,Q];by_cases hx:x<0;simp[hx];refine D _ (by simp[fd]) zS zS zS ?_;rw[e];have hm:x∈J:=aJ m;rw[za];rw[aw];intro h;have:=h x hm;simp at this;omega;simp[hx,z,a0];refine⟨j,O,λy G=>?_⟩;rw[gE,m,aQ]at G;rcases G with G|G;simpa using aw.1 k y G;simp at G;omega;have:i=C.length:=zO;subst this;simp[z,N];rw[aH zO]at k;rw[B]at F;have U:=F.whole S;rw[<- hP,e,zb k];subst U;refine jhy (ns:=[4,5,6]) (vs:=[.sl tc C.isEmpty C.length (C.flatMap Ye),.osl 2433 1216 0 M.length 1,.bool true]) (λr h=>h) (by simp[fd]) (by simp[f7,f8]) zS zS ⟨?_,?_,jM rfl,trivial⟩;rw[hC];exact XP rfl (ja _ _ _ _ _);rw[S];exact XP rfl (jce (by simp[T]) F.1 (by simp[fr]) F.2.2)
def ev114 {g:Hist'}(i:Small g) {b:Bool}(M:List Int) (h:M.length<=1000000):Ev E 114 [.agg (yb g),yl b yf M] (.bool (XB g M).isSome):=by
 obtain⟨v,d,a⟩:=ev98 i (b:=b) M h;refine jT rfl ?_;conv in(occs:=*)F114=>all_goals cbv
 simp[yb,ya];refine jH d zH rfl zH ?_;cases c:XB g M with
 |none=>rw[c]at a;refine jre a λf e add=>?_;simp;exact j3 zS zS rfl
 |some J=>rw[c]at a;refine jre a λf e add=>?_;simp;exact j3 zS zS rfl
def jn5:∀(C D:List (Bool×List Int)) (M:List Int),C.map (·.2)=D.map (·.2)->jdc D M=((idxJ C M).all (λx=>decide (0<=x))&&decide (C.length<=M.length))
 |[],[],M,_=>by cases M<;>simp[jdc,idxJ]
 |c::C,d::D,[],_=>by simp[jdc]
 |c::C,d::D,m::M,h=>by
  simp only[aZ,dT]at h;have a:=jn5 C D M h.2;have e:=jkw m c.2 0;have b:decide (0<=yH c.2 m 0)=c.2.contains m:=by
   have:decide (0<=yH c.2 m 0) = !decide (yH c.2 m 0<0):=by by_cases h:yH c.2 m 0<0;simp[h];simp[h];omega
   rw[this,e,Bool.not_not]
  simp only[jdc,idxJ,bN,a,b,<- h.1,bg,Nat.add_le_add_iff_right];rw[fy]
 |[],_::_,_,h=>by simp at h
 |_::_,[],_,h=>by simp at h
def jb0 {g:Hist'}(a:jP g=true):(yx g).map (·.2)=(choR g).map (·.2):=by unfold yx choR jbq;rw[zb a];simp[cM,Function.comp_def]
def j0o {g:Hist'}(a:jP g=true):(yx g).length=(choR g).length:=by have:=zg List.length (jb0 a);simpa using this
def jzu (g:Hist') (M:List Int):(XB g M).isSome=WM g M:=by
 unfold XB WM;cases d:jP g;simp;rw[jn5 _ _ M (jb0 d),j0o d];by_cases b:M.length=(choR g).length;have a:((choR g).length==M.length)=true:=by simp[b]
 have c:(M.length==(choR g).length)=true:=by simp[b]
 rw[a,c];simp only[bO,b,dG,decide_true,ek];split;rename_i h;simp[h];rename_i h;simp only[cQ];simpa using h;have a:((choR g).length==M.length)=false:=by simp;omega
 have c:(M.length==(choR g).length)=false:=by simp;omega
 rw[a,c];simp
@[simp] theorem eqVV_bool (ob:ZO) (neg a b:Bool):j07 ob neg .bool (.bool a) (.bool b)=some (.bool (xor neg (a==b))):=rfl
def jw7 {ub:Nat}{r:V}{g:Hist'}{K:Delta->Prop}(h:jvw r g)
 (e:∀a b c add,K { v:=.agg [.sl a g.sn g.ss.length (g.ss.flatMap X2),.sl b g.kn g.ks.length (g.ks.flatMap X2),.sl c g.tn g.ts.length (g.ts.flatMap jf)],add:=add }):wpD (Xq ub r) K:=by
 obtain⟨a,b,c,add,d⟩:=jt8 (ub:=ub) h;rw[d,jG];exact e a b c add
def jca {c:Type}{f:c->List V}{k:Nat}(b:∀a,(f a).length=k):∀(l:List c) (n:Nat),(l.flatMap f).take (n*k)=(l.take n).flatMap f
 |[],n=>by simp
 |a::l,0=>by simp
 |a::l,n+1=>by rw[bk,eE,bk,cW,fV,<- b a,fm,b a,jca b l n]
section
variable {E:Env}{st:St}{ub:Nat}{K:List FP->St->Prop}{d:Option Nat}{nm:Bool}{r:List AOpr}
def nbeq {a b:Nat}(h:a≠b):a.beq b=false:=by cases e:a.beq b;rfl;exact zf (br e) h
@[simp] theorem j67 (v:Val'):(J7 v).map V.strip1=J7 v:=rfl
end
def j7m {c:Type}{f:c->List V}{sz:Nat}(b:∀a,(f a).length=sz) (t:Option (Nat×Nat)) (nl:Bool) (l:List c) {k:Nat}(i:k<=l.length):W1 sz none (some (.int .i64 (k:Int))) (.sl t nl l.length (l.flatMap f))=some (.sl none nl (l.take k).length ((l.take k).flatMap f)):=by
 have h:(l.take k).length=k:=by rw[ai];omega
 have e:=jca b l k;have g:(k:Int)<=l.length:=zO;simp[W1,X0,j1 b,h,e,g]
def jh7 {L u n i:Nat}(h:i<=n):W1 2 (some (.int .i64 (i:Int))) none (.osl L u 0 n 2)=some (.osl L u (i*2) (n-i) 2):=by have a:(i:Int)<=n:=zO;simp[W1,X0];omega
def j14 {L u n i:Nat}(h:i<=n):W1 2 none (some (.int .i64 (i:Int))) (.osl L u 0 n 2)=some (.osl L u 0 i 2):=by have a:(i:Int)<=n:=zO;simp[W1,X0,a]
def idx2 {l u off n x:Nat}{kk:IntKind}{X:Int}(a:X=(x:Nat)) (b:x<n):jv 2 (.osl l u off n 2) (.int kk X)=some (.ptr l u (off+x*2)):=by subst a;have:(x:Int)<n:=zO;simp[jv,this]
def ld2 {ob:ZO}{l u:Nat}{M:List Val'}{x:Nat}(a:ob l=some ⟨u,.cells (M.flatMap J7)⟩) (b:x<M.length):W9 ob (some 2) (.ptr l u (x*2))=some (.agg (J7 M[x])):=by have h:=j3i ob M b;rw[<- h];simp only[W9,ya,a,zd,ah]
def st2 {M:List Val'}{x:Nat}(a:x<M.length) (v:Val'):j2 (M.flatMap J7) (x*2) (J7 v)=(M.set x v).flatMap J7:=jau jaf v M x a
def Jf (T:List Val'):Nat->List Val'
 |0=>[]
 |j+1=>Jf T j++(if 0<j/\T[j-1]? = T[j]? then [] else T[j]?.toList)
def jjf (T:List Val'):∀j,j<=T.length->(Jf T j).length<=j
 |0,_=>by simp[Jf]
 |j+1,h=>by have:=jjf T j zO;simp only[Jf,ap,aa (show j<T.length by omega)];split<;>simp<;>omega
def jns {T:List Val'}{j:Nat}(a:0<j) (h:j<T.length) (b:T[j]=T[j-1]):Jf T (j+1)=Jf T j:=by simp only[Jf];rw[zb ⟨a,by rw[aa zO,aa h,b]⟩,aL]
def jg8 {T:List Val'}{j:Nat}(h:j<T.length) (c:0<j->T[j]≠T[j-1]):Jf T (j+1)=Jf T j++[T[j]]:=by simp only[Jf];rw[za,aa h];rfl;rintro⟨b,a⟩;rw[aa zO,aa h]at a;exact c b (cu a).symm
def CompP (l u n:Nat) (C:List Val') (ob:ZO) (tk:Nat->Bool) (ub:Nat) (r:V×(ZO)×(Nat->Bool)×Nat):Prop :=
 r.1=.osl l u 0 C.length 2/\(∃cs,r.2.1 l=some ⟨u,.cells cs⟩/\cs.length=n*2/\C.length<=n/\cs.take (C.length*2)=C.flatMap J7)/\(∀key,key≠l->r.2.1 key=ob key)/\r.2.2.1=tk/\ub<=r.2.2.2
end Go.Pv.T
namespace Go.Pv.T
open Go Go.Pv
end Go.Pv.T
namespace Go.Pv.T
open Go Go.Pv
end Go.Pv.T
namespace Go.Pv.T
open Go Go.Pv
end Go.Pv.T
namespace Go.Pv.T
open Go Go.Pv
@[simp] theorem valC_leafs (v:Val'):(J7 v).all V.leaf=true:=rfl
def jh8 {st:St}{L u n sz:Nat}{cs c:List V}(f:st.ob L=some ⟨u,.cells cs⟩) (e:st.ro<=u) (p:n*sz<=cs.length) (g:cs.take (n*sz)=c) (hp:c.all V.pureLeaf=true):jdd st (.osl L u 0 n sz) false n c:=by
 have b:ya st.ob L u=some cs:=by simp[ya,f]
 have m:∀(k:Nat) (l:List V),l.all V.pureLeaf=true->l.mapM (JY st (k+1))=some l:=by
  intro k l;induction l with
  |nil=>intro _;rfl
  |cons a l o=>
   intro h;simp only[bN,aj]at h;rw[bR,o h.2];have:JY st (k+1) a=some a:=by
    have:=YS (st:=st) (keep:=false) (i:=0) h.1;cases a with
    |sl t q n cs=>cases t with
     |none=>rfl
     |some t=>cases h.1
    |osl=>cases h.1
    |_=>simp only[JY,h.1,zd]
   rw[this];rfl
 have j:JY st 6 (.osl L u 0 n sz)=some (.sl none false n c):=by show((ya st.ob L u).bind λcs=>if Nat.ble st.ro u=true/\0+n*sz<=cs.length then (((cs.drop 0).take (n*sz)).mapM (JY st 5)).map λd=>V.sl none false n d else none)=_;rw[b,ah,zb ⟨bT▸e,zO⟩,dt,g,m 4 c hp];rfl
 intro keep i;refine⟨_,by simp only[jt,j,ah,b,aU];rfl,?_⟩;split;exact .inr ⟨_,rfl⟩;exact .inl rfl
end Go.Pv.T
namespace Go.Pv.T
open Go Go.Pv
end Go.Pv.T
namespace Go.Pv.T
open Go Go.Pv
end Go.Pv.T
namespace Go.Pv.T
open Go Go.Pv
end Go.Pv.T
namespace Go.Pv.T
open Go Go.Pv
end Go.Pv.T
namespace Go.Pv.T
open Go Go.Pv
end Go.Pv.T
namespace Go.Pv.T
open Go Go.Pv
section
end
def jyk {c:Type}(k0:Int) (b:c) (m:List (Int×c)) (k:Int) (a:c):Wm ((k0,b)::m) k a=if k=k0 then (k,a)::m else (k0,b)::Wm m k a:=by unfold Wm;rw[jz];by_cases h:k=k0;simp[h];rw[za h,za h];cases jz m k<;>simp
def W7 {f:Type}(k:Int) (a:f) (c:Int):∀m:List (Int×f),(jz (Wm m k a) c).map (·.2)=if c=k then some a else (jz m c).map (·.2)
 |[]=>by by_cases h:c=k<;>simp[Wm,jz,h]
 |(k0,b)::m=>by rw[jyk];have g:=W7 k a c m;by_cases h:k=k0;subst h;rw[zb rfl,jz,jz];by_cases d:c=k<;>simp[d];rw[za h,jz,jz];by_cases d:c=k0;subst d;simp[show ¬c=k from λe=>h e.symm];rw[za d,za d];simp only[ig];have e:((λx:Nat×f=>x.2) ∘ λp:Nat×f=>(p.1+1,p.2))=λx=>x.2:=rfl;rw[e];exact g
def jiw {a:Type}{k:a->a}{y:a}:∀{l:List a}{i:Nat},y∈l.modify i k->y∈l\/∃x,l[i]? = some x/\y=k x
 |[],i,h=>by simp at h
 |x::l,0,h=>by rw[fR]at h;simp only[zd,bD]at h;rcases h with rfl|h;exact .inr ⟨x,rfl,rfl⟩;exact .inl (aV _ h)
 |x::l,i+1,h=>by rw[fR]at h;simp only[Nat.add_one_ne_zero,zc,ft,bD]at h;rcases h with rfl|h;exact .inl (aM ..);rcases jiw h with h|⟨z,c,b⟩;exact .inl (aV _ h);exact .inr ⟨z,zU c,b⟩
section
variable {g:Hist'}{cs:List Bool}{lo:List Val'}
def readIn_mem {i:Nat}{p:Int×Int}:∀{n:Nat},p∈JB g i n ↔ ∃k:Nat,k<n/\p=((i:Int),(k:Int))/\jcl g i k=true
 |0=>by simp[JB]
 |n+1=>by simp only[JB,aQ,readIn_mem (n:=n)];constructor;rintro(⟨k,c,b⟩|h);exact⟨k,zO,b⟩;split at h;rename_i a;exact⟨n,zO,zU h,a⟩;simp at h;rintro⟨k,c,b,a⟩;rcases bj.1 c with h|h;exact .inl ⟨k,h,b,a⟩;subst h;right;simp[a,b]
end
section
end
abbrev Cs':=List (Bool×List Int)
def hd1 (c:Bool×List Int):Int:=c.2.headD 0
def X7:Cs'->List Int->Option (List Int)
 |c::cs,m::ms=>match X7 cs ms with
  |some r=>some (m::r)
  |none=>if yH c.2 m 0+1<c.2.length then some (c.2.getD (yH c.2 m 0+1).toNat 0::cs.map hd1) else none
 |_,_=>none
def jir:∀(C:Cs') (M:List Int) (i:Nat) (r:List Int),i<=C.length->C.length=M.length->X7 (C.drop i) (M.drop i)=some r->X7 C M=some (M.take i++r)
 |C,M,0,r,_,_,h=>by simpa using h
 |c::cs,m::ms,i+1,r,h1,h2,h=>by have:=jir cs ms i r (zU h1) (zU h2) (zU h);simp[X7,this]
 |[],_,_+1,_,h,_,_=>by simp at h
 |_::_,[],_+1,_,_,h,_=>by simp at h
def jh (C:Cs'):Bool:=C.all λc=>!c.2.isEmpty
def QY (g:Hist'):Int×List Int:=if jP g then (if jh (yx g) then (0,(yx g).map hd1) else (3,[])) else (4,[])
def jv0 (n:Int):Int:=if 1000000<n then 1000000 else n
def XV:Cs'->Int->Int
 |[],n=>n
 |c::cs,n=>XV cs (jv0 (n*c.2.length))
def yG:Cs'->List (List Int)
 |[]=>[[]]
 |c::cs=>c.2.flatMap λx=>(yG cs).map (x::·)
def stepA (c:Bool×List Int) (out:List (List Int)):List (List Int):=out.flatMap λo=>c.2.map λx=>o++[x]
def allF:Cs'->Nat->List (List Int)->List (List Int)
 |[],_,out=>out
 |c::cs,most,out=>allF cs most ((stepA c out).take most)
def jtb:∀(C:Cs') (n:Nat),allF C n []=[]
 |[],_=>rfl
 |c::cs,n=>by simp[allF,stepA,jtb cs n]
def jta:∀(C:Cs') (o:List Int),allF C 1 [o]=if jh C then [o++C.map hd1] else []
 |[],o=>by simp[allF,jh]
 |c::cs,o=>by
  obtain⟨b,l⟩:=c;cases l with
  |nil=>simp[allF,stepA,jtb,jh]
  |cons x l=>have:=jta cs (o++[x]);simp only[allF,stepA,bk,gV,aL,aZ,eE,dP,this];simp only[jh,bN,List.isEmpty_cons,co,bO,hd1,List.headD_cons,aY,ga]
def jf9:∀C:Cs',(yG C).length=(C.map λc=>c.2.length).foldr (· * ·) 1
 |[]=>rfl
 |c::cs=>by
  have:=jf9 cs;simp only[yG,aZ,List.foldr_cons,<- this];generalize yG cs=L;induction c.2 with
  |nil=>simp
  |cons x l a=>simp only[bk,ap,bt,a,bg,cW];omega
def jhr (c:Bool×List Int) (cs:Cs'):(yG (c::cs)).length=c.2.length*(yG cs).length:=by rw[jf9,jf9];rfl
def jxl {c:Bool×List Int}(h:(!c.2.isEmpty)=true):1<=c.2.length:=by
 cases a:c.2 with
 |nil=>rw[a]at h;simp at h
 |cons=>simp
def jnr:∀{C:Cs'}{n:Int},jh C=true->0<=n->n<=1000000->n<=XV C n/\XV C n<=1000000
 |[],n,_,_,h=>⟨dI _,h⟩
 |c::cs,n,h,h0,h1=>by
  simp only[jh,bN,aj]at h;have d:=jxl h.1;have b:n<=n*c.2.length:=by have:n*1<=n*(c.2.length:Int):=ib zO h0;omega
  have a:n<=jv0 (n*c.2.length)/\jv0 (n*c.2.length)<=1000000:=by unfold jv0;split<;>omega
  have:=jnr (C:=cs) h.2 (by omega:0<=jv0 (n*c.2.length)) a.2;simp only[XV];omega
def jg7:∀{C:Cs'}{n:Int},jh C=true->1<=n->n<=1000000->XV C n<=300->XV C n=n*(yG C).length
 |[],n,_,_,_,_=>by simp[XV,yG]
 |c::cs,n,h,h0,h1,h3=>by
  have a:=h;simp only[jh,bN,aj]at a;have e:=jxl a.1;have d:n<=n*c.2.length:=by have:n*1<=n*(c.2.length:Int):=ib zO zO;omega
  by_cases b:1000000<n*c.2.length;exfalso;simp only[XV,jv0,b,zd]at h3;have:=(jnr (C:=cs) a.2 (n:=1000000) zO zO).1;omega;simp only[XV,jv0,b,zc]at h3 ⊢;rw[jg7 a.2 zO zO h3,jhr];push_cast;rw[Int.mul_assoc]
def steps (f:List Int->Option (List Int)):List (List Int)->Prop
 |[]=>True
 |[x]=>f x=none
 |x::y::r=>f x=some y/\steps f (y::r)
def jq4 {f:List Int->Option (List Int)}:∀{L:List (List Int)}{i:Nat},steps f L->(h:i<L.length)->f L[i]=L[i+1]?
 |[x],0,h,_=>h
 |x::y::r,0,h,_=>h.1
 |x::y::r,i+1,h,hi=>by have:=jq4 (L:=y::r) (i:=i) h.2 (zU hi);simpa using this
 |[x],i+1,_,hi=>by simp at hi
 |[],_,_,hi=>by simp at hi
def jsn (k:Int) (b:List Int):∀(a:List Int) (n:Nat),k ∉ a->yH (a++k::b) k n=(n+a.length:Nat)
 |[],n,_=>by simp[yH]
 |x::a,n,h=>by have c:¬k=x:=λe=>h (by simp[e]);have:=jsn k b a (n+1) (λe=>h (aV _ e));simp only[cZ,yH,zh,c,zc,this,bg];congr 1;omega
def jan:∀{C:Cs'},jh C=true->∃r,yG C=C.map hd1::r
 |[],_=>⟨[],rfl⟩
 |c::cs,h=>by
  simp only[jh,bN,aj]at h;obtain⟨r,b⟩:=jan (C:=cs) h.2;cases a:c.2 with
  |nil=>rw[a]at h;simp at h
  |cons x l=>simp only[yG,a,b,bk,aZ,cZ,hd1,List.headD_cons];exact⟨_,rfl⟩
def jh3:∀{C:Cs'},jh C=true->(∀c∈C,c.2.Nodup)->steps (X7 C) (yG C)
 |[],_,_=>rfl
 |c::cs,h,hd=>by
  have n:=h
  simp only[jh,bN,aj]at n
  have v:=jh3 (C:=cs) n.2 (λx B=>hd x (aV _ B))
  obtain⟨L,u⟩:∃L,yG cs=L:=⟨_,rfl⟩
  obtain⟨G,k⟩:=jan (C:=cs) n.2
  rw[u]at v k
  -- what is behind one member of the first list
  have j:∀(S:List (List Int)),S≠[]->steps (X7 cs) S->∀(x:Int) (b a:List Int) (R:List (List Int)),c.2=b++x::a->steps (X7 (c::cs)) R->(a=[]->R=[])->(∀y p,a=y::p->∃w,R=(y::cs.map hd1)::w) ->
   steps (X7 (c::cs)) (S.map (x::·)++R):=by
   intro S
   induction S with
   |nil=>intro h;exact zf rfl h
   |cons s S i=>
    intro _ q x b a R f z t r
    have o:x ∉ b:=by
     have:=hd c (aM ..)
     rw[f,dc]at this
     exact λD=>this.2.2 x D x (aM ..) rfl
    have l:yH c.2 x 0=(b.length:Nat):=by rw[f,jsn x a b 0 o];simp
    cases S with
    |nil=>
     have m:X7 cs s=none:=q
     have d:c.2.length=b.length+1+a.length:=by rw[f];simp;omega
     cases a with
     |nil=>
      rw[t rfl]
      show X7 (c::cs) (x::s)=none
      simp only[X7,m,l]
      rw[za (by simp at d;omega)]
     |cons y p=>
      obtain⟨w,rfl⟩:=r y p rfl
      refine⟨?_,z⟩
      simp only[X7,m,l]
      rw[zb (by simp at d;omega)]
      have:(((b.length:Nat):Int)+1).toNat=b.length+1:=zO
      rw[this,f]
      simp
    |cons F S=>
     refine⟨?_,i zS q.2 x b a R f z t r⟩
     simp only[X7,q.1]
  have g:∀(a b:List Int),c.2=b++a->steps (X7 (c::cs)) (a.flatMap λx=>L.map (x::·)):=by
   intro a
   induction a with
   |nil=>intro b _;exact trivial
   |cons x a i=>
    intro b f
    rw[bk]
    refine j L (by rw[k];simp) v x b a _ f (i (b++[x]) (by rw[f];simp)) (λe=>by rw[e];rfl) (λy p e=>?_)
    rw[e,bk,k]
    exact⟨_,rfl⟩
  have:=g c.2 [] rfl
  rw[yG,u]
  exact this
def jrr:∀{C:Cs'}{M:List Int},M∈yG C->C.length=M.length/\(idxJ C M).all (λx=>decide (0<=x))=true
 |[],M,h=>by simp only[yG,ae]at h;subst h;exact⟨rfl,rfl⟩
 |c::cs,M,h=>by
  simp only[yG,cq,aI]at h;obtain⟨x,f,m,a,rfl⟩:=h;obtain⟨d,b⟩:=jrr a;refine⟨by simp[d],?_⟩;simp only[idxJ,bN,b,ek,ze];have:=jkw x c.2 0;have e:c.2.contains x=true:=by simpa using f
  rw[e]at this;simpa using this
def jyd (g:Hist') (a b:Int):(ofH g a b).Nodup:=by unfold ofH;split;split;simp;rename_i o _ _;have h:=jhx g o.key;unfold ofL JQ;have d:((yP g o.key).filter λi=>!(i==a)&&Qc o (Xy g o.key i)).Pairwise (· < ·):=h.1.filter _;have c:((yP g o.key).filter λi=>!(i==a)&&Qc o (Xy g o.key i)).Nodup:=d.imp (λh e=>by omega);split;simpa using c;refine dc.2 ⟨zS,c,?_⟩;intro x j y f e;have:=h.2 y (bK.1 f).1;simp at j;omega;simp
def min6 (n:Int):jbv false [.int .i64 n,.int .i64 1000000]=some (.int .i64 (jv0 n)):=by by_cases h:(1000000:Int)<n<;>simp[jbv,QN,jgi,jv0,h]
def cap6_lt {n:Int}(h:0<=n):0<=jv0 n/\jv0 n<=1000000:=by unfold jv0;split<;>omega
def mul_lt {n:Int}{k:Nat}(b:0<=n) (a:n<=1000000) (c:k<=41):0<=n*(k:Int)/\n*(k:Int)<=41000000:=by have e:=Int.mul_nonneg b (show(0:Int)<=k by omega);have d:n*(k:Int)<=1000000*41:=Int.mul_le_mul a zO zO zO;omega
def jqe {g:Hist'}(a:jP g=true):∀x∈choR g,x.2.length<=41:=by
 intro x b;unfold choR at b;obtain⟨p,_,rfl⟩:=aI.1 b;have c:Yt g=true:=by unfold jP at a;simp only[aj]at a;exact a.1
 exact jpc c _ _
def jk3 {g:Hist'}(a:Small g):(choR g).length<=1000000:=by unfold choR;rw[bt];exact YP a
def jje:∀{C D:Cs'}(n:Int),C.map (·.2)=D.map (·.2)->XV C n=XV D n
 |[],[],_,_=>rfl
 |c::C,d::D,n,h=>by simp only[aZ,dT]at h;simp only[XV,h.1];exact jje _ h.2
 |[],_::_,_,h=>by simp at h
 |_::_,[],_,h=>by simp at h
def jc4 (C:Cs') (i:Nat):List Int:=(C.take i).map hd1
def jth (r:Int×List Int) (v:V):Prop:=TupS [.sl none r.2.isEmpty r.2.length (r.2.flatMap yf),.int .i64 r.1] v
def ev16 (h:Hist') (r:h.ts.length<=1000):Ev E 16 [.agg (yb h)] (.sl (some (0,1)) false (yu Jq h.ts h.ts.length).length ((yu Jq h.ts h.ts.length).flatMap yf)):=by
 refine jT rfl ?_;conv in(occs:=*)F16=>all_goals cbv
 simp[yb];refine jF (cs:=[]) rfl rfl rfl ?_;simp;refine Yq (n:=h.ts.length) (λk s=>∃i u,k=h.ts.length-i/\i<=h.ts.length/\s.df=[]/\s.fb=0/\s.ro=0/\s.tm 1=.ptr 2 0 0/\s.ob 2=some ⟨0,.cells (yb h)⟩/\s.tm 4=.int .i64 i/\s.tk u=true /\
  s.tm 3=.sl (some (u,1)) false (yu Jq h.ts i).length ((yu Jq h.ts i).flatMap yf))
  ⟨0,128,by simp[yu,yb]⟩ ?_
 rintro k s ⟨i,u,rfl,q,j,b,c,e,g,d,l,m⟩;by_cases a:i<h.ts.length;simp[e,g,d,ya,yb,a,j4 j7,jO j7,jf];have p:=Jk Jq h.ts i;cases o:h.ts[i].f==1;simp[d];refine⟨h.ts.length-(i+1),zO,i+1,⟨rfl,zO,j,b,c,e,by simpa[yb] using g,by rw[jg zO zO];simp,u,l,?_⟩⟩;rw[m,Jn a,Jq,o];simp;simp[m,d];refine jF (cs:=[.int .i64 i]) (by simp[j2]) rfl rfl ?_;simp;refine Jm (u:=u) (nl:=false) (n:=(yu Jq h.ts i).length) (cs:=(yu Jq h.ts i).flatMap yf) (ys:=[.int .i64 i]) zS (by simp[jb,l]) (by simp[yp]) zS (by rw[j1 j6]) zQ rfl zP zP ?_;simp[d,j,b,c,e,g,yb];refine⟨h.ts.length-(i+1),zO,i+1,rfl,zO,by rw[jg zO zO];simp,Or.inl ?_⟩;rw[Jn a,Jq,o];simp[yf];have:i=h.ts.length:=zO;subst this;simp[e,g,d,ya,yb];exact jab (u:=u) (zU j) (by simp[m]) (zU l)
def jec (f:Nat->Bool):Nat->Bool
 |0=>true
 |k+1=>jec f k&&f k
def andTo_iff {f:Nat->Bool}:∀{n:Nat},jec f n=true ↔ ∀k,k<n->f k=true
 |0=>by simp[jec]
 |n+1=>by rw[jec,aj,andTo_iff];constructor;rintro⟨h,b⟩ k a;rcases cJ k n with h1|h1;exact h k h1;have:k=n:=zO;exact this▸b;exact λh=>⟨λk a=>h k zO,h n zO⟩
def jqm {f:Nat->Bool}{k n:Nat}(a:k<n) (h:f k=false):jec f n=false:=by
 cases e:jec f n with
 |false=>rfl
 |true=>rw[andTo_iff.1 e k a]at h;cases h
def YC (f:Nat->Bool):Nat->List Int
 |0=>[]
 |k+1=>YC f k++(if f k then [(k:Int)] else [])
def jg3 (f:Nat->Bool):∀n,(YC f n).length<=n
 |0=>dG _
 |n+1=>by have:=jg3 f n;simp only[YC,ap];split<;>simp<;>omega
def filTo_mem {f:Nat->Bool}{x:Int}:∀{n:Nat},x∈YC f n ↔ ∃k:Nat,k<n/\x=k/\f k=true
 |0=>by simp[YC]
 |n+1=>by rw[YC,aQ,filTo_mem];constructor;rintro(⟨k,d,a,b⟩|h);exact⟨k,zO,a,b⟩;cases c:f n;simp[c]at h;simp[c]at h;exact⟨n,zO,h,c⟩;rintro⟨k,d,a,b⟩;rcases cJ k n with h|h;exact .inl ⟨k,h,a,b⟩;have:k=n:=zO;subst this;exact .inr (by simp[b,a])
def jg4 {f a:Nat->Bool}:∀{n:Nat},(∀k,k<n->f k=a k)->YC f n=YC a n
 |0,_=>rfl
 |n+1,h=>by rw[YC,YC,jg4 λk b=>h k zO,h n zO]
def Ju (g:Hist') (a:Nat):Bool:=match g.ts[a]? with|some t=>Jq t|none=>false
def yE (g:Hist') (a:Nat):Int:=match g.ts[a]? with|some t=>t.s|none=>0
def jq1 (p:Txn'->Bool) (ts:List Txn') (a:Nat):Bool:=match ts[a]? with|some t=>p t|none=>false
def Ww (p:Txn'->Bool) (ts:List Txn'):∀n,yu p ts n=YC (jq1 p ts) n
 |0=>rfl
 |n+1=>by rw[yu,YC,Ww p ts n];congr 1;unfold jq1;cases ts[n]?<;>rfl
def XG {g:Hist'}{a:Nat}(h:Ju g a=true):a<g.ts.length:=by
 unfold Ju at h;cases b:g.ts[a]? with
 |none=>rw[b]at h;cases h
 |some t=>exact(ak.1 b).1
def ym (g:Hist'):List Int:=yu Jq g.ts g.ts.length
def comL_mem {g:Hist'}{x:Int}:x∈ym g ↔ ∃k:Nat,x=k/\Ju g k=true:=by rw[ym,Ww,filTo_mem];exact⟨λ⟨k,_,b,a⟩=>⟨k,b,a⟩,λ⟨k,b,a⟩=>⟨k,XG a,b,a⟩⟩
def jha {g:Hist'}(h:jP g=true):comH g=ym g:=by rw[comH,zb h];rfl
def j90 (R:List (Int×Int)) (M:List Int) (a b:Nat):Bool:=(R.zip M).any λx=>x.2==(a:Int)&&x.1.1==(b:Int)
def jez (g:Hist') (M:List Int) (a b:Nat):Bool:=Ju g a&&Ju g b&&((decide (a<b)&&yE g a==yE g b)||j90 (yi g) M a b)
def war (r:Nat->Nat->Bool):Nat->Nat->Nat->Bool
 |0,b,a=>r a b
 |k+1,b,a=>war r k b a||(war r k b k&&war r k k a)
def jb7 {r:Nat->Nat->Bool}:∀{K k:Nat},k<K->∀{b a:Nat},war r K b k=true->war r K k a=true->war r K b a=true
 |K+1,k,hk,b,a,c,d=>by simp only[war,bG,aj]at c d ⊢;rcases cJ k K with hlt|hge;rcases c with c|⟨c,f⟩<;>rcases d with d|⟨d,e⟩;exact .inl (jb7 hlt c d);exact .inr ⟨jb7 hlt c d,e⟩;exact .inr ⟨c,jb7 hlt f d⟩;exact .inr ⟨c,e⟩;have:k=K:=zO;subst this;rcases c with c|⟨c,f⟩<;>rcases d with d|⟨d,e⟩;exact .inr ⟨c,d⟩;exact .inr ⟨c,e⟩;exact .inr ⟨c,d⟩;exact .inr ⟨c,e⟩
def jol {r:Nat->Nat->Bool}{b a:Nat}(h:r a b=true):∀K,war r K b a=true
 |0=>h
 |K+1=>by simp[war,jol h K]
def jqs {r:Nat->Nat->Bool}{p:Nat->Prop}{q:Nat->Prop}(d:∀a b,q b->r a b=true->p a) (c:∀b,p b->q b):∀(K:Nat) {b a:Nat},q b->war r K b a=true->p a
 |0,b,a,hb,h=>d a b hb h
 |K+1,b,a,hb,h=>by simp only[war,bG,aj]at h;rcases h with h|⟨h,e⟩;exact jqs d c K hb h;exact jqs d c K (c _ (jqs d c K hb h)) e
def farB (g:Hist') (M:List Int) (t a:Nat):Bool:=war (jez g M) g.ts.length t a
def jlq {g:Hist'}{M:List Int}{a b:Nat}(h:jez g M a b=true):Ju g a=true/\Ju g b=true:=by simp only[jez,aj]at h;exact h.1
def atO (O:List Int) (t:Int):Int:=yH O t 0
def Wx (g:Hist') (p:Int×Int):Int:=match opAt g p.1 p.2 with|some o=>o.key|none=>0
def Jp (g:Hist') (t key:Int):Bool:=(Yu (Js g t).2 key).2
def rcB (R:List (Int×Int)) (M:List Int) (p:Int×Int) (t:Int):Bool:=(R.zip M).any λx=>x.1.1==p.1&&(decide (x.1.2<p.2)&&x.2==t)
def jdm (g:Hist') (lvl:Int) (M O:List Int) (p:Int×Int) (t:Nat):Bool :=
 if lvl=1 then rcB (yi g) M p t else if lvl=2 then farB g M p.1.toNat t else if lvl=3 then Ju g t&&decide (atO O t<atO O p.1) else false
def jdn (g:Hist') (lvl:Int) (M O:List Int) (p:Int×Int):List Int:=YC (jdm g lvl M O p) g.ts.length
def com_f {g:Hist'}(c:jP g=true) {a:Nat}{t:Txn'}(b:g.ts[a]? = some t) (i:t.f≠2):Ju g a=true:=by
 unfold jP at c;simp only[aj,dC]at c;obtain⟨d,h,_⟩:=c;have j:t.f≠3:=λe=>by
  have:((a:Nat):Int)∈Y5 g:=by rw[Y5,Ww,filTo_mem];exact⟨a,(ak.1 b).1,rfl,by simp[jq1,b,XU,e]⟩
  rw[h]at this;cases this
 unfold Yt at d;simp only[aj,aw]at d;have:=d.2.1 t (aJ b);simp only[je2,aj,ze]at this;simp only[Ju,b,Jq,zh];omega
def of_com {g:Hist'}(f:jP g=true) {a b x:Int}(h:x∈ofH g a b):x = -1\/x∈ym g:=by
 unfold ofH at h;split at h;split at h;cases h;rw[ofL,aQ]at h;rcases h with h|h;unfold JQ at h;split at h;cases h;exact .inl (zU h);have d:=(bK.1 h).1;rw[yP,Ww,filTo_mem]at d;obtain⟨k,d,i,c⟩:=d;refine .inr (comL_mem.2 ⟨k,i,?_⟩);unfold jq1 at c;cases e:g.ts[k]? with
 |none=>rw[e]at c;cases c
 |some t=>rw[e]at c;simp only[wrB,aj,bne_iff_ne,ne_eq]at c;exact com_f f e c.1
 cases h
def jn6:∀{C:List (Bool×List Int)}{M:List Int}{i:Nat}{c:Bool×List Int},jdc C M=true->C[i]? = some c->∃m,M[i]? = some m/\m∈c.2
 |[],_,_,_,_,hc=>by simp at hc
 |_::_,[],_,_,h,_=>by simp[jdc]at h
 |d::C,m::M,0,c,h,hc=>by simp only[jdc,aj]at h;simp at hc;subst hc;exact⟨m,rfl,zU h.1⟩
 |d::C,m::M,i+1,c,h,hc=>by simp only[jdc,aj]at h;simpa using jn6 h.2 (zU hc)
section
variable {g:Hist'}{M O:List Int}
def j3f (h:WM g M=true) {i:Nat}{p:Int×Int}(hp:(yi g)[i]? = some p):∃m,M[i]? = some m/\m∈ofH g p.1 p.2:=by unfold WM at h;simp only[aj]at h;exact jn6 (c:=(false,ofH g p.1 p.2)) h.2.2 (by simp[choR,hp])
def Xi (h:WM g M=true):M.length=(yi g).length:=by unfold WM at h;simp only[aj,zh]at h;simpa[choR] using h.2.1
def YV (h:WM g M=true):jP g=true:=by unfold WM at h;simp only[aj]at h;exact h.1
def jpl (h:WM g M=true) {m:Int}(d:m∈M):m = -1\/m∈ym g:=by
 obtain⟨i,c,e⟩:=bA d;have a:i<(yi g).length:=by rw[<- Xi h];exact c
 obtain⟨j,b,f⟩:=j3f h (aa a);rw[aa c]at b;cases b;rw[<- e];exact of_com (YV h) f
def jf6 {p:Int×Int}:∀{n:Nat},p∈XH g n->∃(i k:Nat) (t:Txn'),p=((i:Int),(k:Int))/\g.ts[i]? = some t/\Jq t=true/\k<t.ops.length/\jcl g i k=true
 |0,h=>by simp[XH]at h
 |n+1,h=>by
  rw[XH,aQ]at h;rcases h with h|h;exact jf6 h;cases a:g.ts[n]? with
  |none=>rw[a]at h;cases h
  |some t=>rw[a]at h;simp only at h;split at h;rename_i e;obtain⟨k,c,b,d⟩:=readIn_mem.1 h;exact⟨n,k,t,b,a,e,c,d⟩;cases h
def jrm {p:Int×Int}(h:p∈yi g):p.1∈ym g:=by obtain⟨i,k,t,rfl,a,b,_⟩:=jf6 h;exact comL_mem.2 ⟨i,rfl,by simp[Ju,a,b]⟩
/-! Orders -/
def j0l (g:Hist'):(ym g).Pairwise (· < ·):=(Qq (p:=Jq) (ts:=g.ts) g.ts.length zK).2
/-! Where each stands -/
/-! Sessions -/
/-! What reads see -/
/-! Levels -/
end
section
end
def jyz (ops:List Op') (key:Int):(Yu ops key).2=ops.any (wkB key):=by have:=Qm key ops ops.length zK;rwa [bh]at this
section
end
end Go.Pv.T
namespace Go.Pv.T
open Go Go.Pv
end Go.Pv.T
namespace Go.Pv.T
open Go Go.Pv
def ev66 {a:Bool}(l:List Int) (r:l.length<=1000000000) (k:Int):Ev E 66 [yl a yf l,.int .i64 k] (.int .i64 (atO l k)):=by
 refine jT rfl ?_;unfold atO;conv in(occs:=*)F66=>all_goals cbv
 simp;refine j5 [(4,18)] l.length (λi s=>s.tm 5=.int .i64 i/\yH (l.drop i) k i=yH l k 0) rfl rfl ⟨zS,zS⟩ ?_;rintro i s u ⟨m,c⟩ f;have j:s.tm 0=yl a yf l:=by rw[f.t 0 zS];simp
 have o:s.tm 1=.int .i64 k:=by rw[f.t 1 zS];simp
 have n:s.df=[]:=by rw[f.d];simp
 clear f;by_cases b:i<l.length;have q:=jR b zO;have p:=jn l b;rw[aP b,yH]at c;cases h:(l[i]==k);have g:(k==l[i])=false:=by rw[zk]at h ⊢;exact λe=>h e.symm
 rw[g]at c;simp only[ag,zc]at c;simp[m,j,o,b,j4 j6,p,h,q];exact c;have g:(k==l[i])=true:=by rw[zh]at h ⊢;exact h.symm
 rw[g]at c;simp only[zd]at c;simp[m,j,o,b,j4 j6,p,h];exact j3 (by simp[n]) (by rw[<- c];simp) rfl;have:i=l.length:=zO;subst this;rw[dk,yH]at c;simp[m,j];exact j3 (by simp[n]) (by rw[<- c];simp) rfl
def ev68 {g:Hist'}(h:Small g) (i key:Int):Ev E 68 [.agg (yb g),.int .i64 i,.int .i64 key] (.tup [.agg (J7 (Yu (Js g i).2 key).1),.bool (Yu (Js g i).2 key).2]):=by
 have a:=ev48 h;refine jT rfl ?_;cases d:Yt g
 ·rw[Qs d]at a;have b:Js g i=(true,[]):=by unfold Js;rw[d];rfl
  rw[b];conv in(occs:=*)F68=>all_goals cbv
  simp[yb,ya];refine jH a zI rfl zI ?_;simp[ya,j2];exact JI zS (l:=[.agg (J7 ⟨0,0⟩),.bool false]) (by simp[ju,ya,J7]) rfl rfl
 ·rw[W8 d]at a;by_cases m:0<=i
  ·by_cases k:i<g.ts.length
   ·obtain⟨n,rfl⟩:∃n:Nat,i=n:=⟨i.toNat,zO⟩;have c:n<g.ts.length:=zO;have b:(Js g (n:Int)).2=(g.ts[n]).ops:=by unfold Js;simp[d,c,ay]
    rw[b,Yu];have j:=h.os _ (au c);have f:=ev107 g.ts[n] zO key;have e:(g.ts.flatMap jf)[n*3+2]? = some (yl (g.ts[n]).nl yS (g.ts[n]).ops):=by rw[jO j7 g.ts c (by decide:2<3)];rfl
    conv in(occs:=*)F68=>all_goals cbv
    simp[yb,ya];refine jH a zI rfl zI ?_;simp[ya,c,Nat.not_le.2 c,show ¬((n:Int)<0) by omega,j4 j7,jd j7,e];refine X5 f (by simp[jf]) rfl (by simp[jf]) ?_;rw[Jc (by simp[V.plain,J7])];generalize (JH key g.ts[n].ops g.ts[n].ops.length).1=rv at *;generalize (JH key g.ts[n].ops g.ts[n].ops.length).2=rb at *;simp[J7,ya,j2];exact JI zS (l:=[.agg [.int .i64 rv.kind,.int .i64 rv.n],.bool rb]) (by simp[ju,ya]) rfl rfl
   ·have b:Js g i=(true,[]):=by unfold Js;simp[k]
    rw[b];conv in(occs:=*)F68=>all_goals cbv
    simp[yb,ya];refine jH a zI rfl zI ?_;simp[ya,j2,show ¬i<0 by omega,show(g.ts.length:Int)<=i by omega];exact JI zS (l:=[.agg (J7 ⟨0,0⟩),.bool false]) (by simp[ju,ya,J7]) rfl rfl
  ·have b:Js g i=(true,[]):=by unfold Js;simp[m]
   rw[b];conv in(occs:=*)F68=>all_goals cbv
   simp[yb,ya];refine jH a zI rfl zI ?_;simp[ya,j2,show i<0 by omega];exact JI zS (l:=[.agg (J7 ⟨0,0⟩),.bool false]) (by simp[ju,ya,J7]) rfl rfl
def jk1 {g:Hist'}{a:Nat}(h:a<g.ts.length):Ju g a=((g.ts[a]).f==1):=by simp[Ju,Jq,h]
def jra {g:Hist'}{a:Nat}(h:a<g.ts.length):yE g a=(g.ts[a]).s:=by simp[yE,h]
def jxm (l:List (Int×Int)) {i:Nat}(h:i<l.length):(l.flatMap jC)[i*2]? = some (.int .i64 (l[i]).1)/\(l.flatMap jC)[i*2+1]? = some (.int .i64 (l[i]).2):=by have a:=jO jS l h (by decide:0<2);have b:=jO jS l h (by decide:1<2);rw[bl]at a;exact⟨a.trans rfl,b.trans rfl⟩
def ev163 {g:Hist'}(N:Small g) {nl:Bool}{M:List Int}(hM:M.length=(yi g).length) {a b:Nat}(o:a<g.ts.length) (q:b<g.ts.length) :
 Ev E 163 [.agg (yb g),yl false jC (yi g),yl nl yf M,.int .i64 (a:Int),.int .i64 (b:Int)] (.bool (jez g M a b)):=by
 have S:=YP N;have Z:=N.ts;refine jT rfl ?_;unfold jez;rw[jk1 o,jk1 q,jra o,jra q];generalize yi g=R at *;have F:(g.ts.flatMap jf)[a*3+1]? = some (.int .i64 (g.ts[a]).f):=by rw[jO j7 g.ts o (by decide:1<3)];rfl
 have O:(g.ts.flatMap jf)[b*3+1]? = some (.int .i64 (g.ts[b]).f):=by rw[jO j7 g.ts q (by decide:1<3)];rfl
 have sa:(g.ts.flatMap jf)[a*3]? = some (.int .i64 (g.ts[a]).s):=by have:=jO j7 g.ts o (by decide:0<3);rw[bl]at this;rw[this];rfl
 have sb:(g.ts.flatMap jf)[b*3]? = some (.int .i64 (g.ts[b]).s):=by have:=jO j7 g.ts q (by decide:0<3);rw[bl]at this;rw[this];rfl
 have y:∀{x:Int}{c:Bool},(x==1)=c->(x != 1) = !c:=λh=>by rw[<- h];rfl
 cases r:((g.ts[a]).f==1)
 ·conv in(occs:=*)F163=>all_goals cbv
  simp[yb,ya,o,j4 j7,F,y r];exact j3 zS zS rfl
 cases v:((g.ts[b]).f==1)
 ·conv in(occs:=*)F163=>all_goals cbv
  simp[yb,ya,o,q,j4 j7,F,O,y r,y v];exact j3 zS zS rfl
 obtain⟨c,I⟩:∃c,j90 R M a b=c:=⟨_,rfl⟩;rw[I];unfold j90 at I;conv in(occs:=*)F163=>all_goals cbv
 simp[yb,ya,o,q,j4 j7,F,O,y r,y v];generalize z:jvy E YT _ _=KK;have p:∀n:St,n.tm 1=yl false jC R->n.tm 2=yl nl yf M->n.tm 3=.int .i64 (a:Int)->n.tm 4=.int .i64 (b:Int)->n.df=[]->n.tm 45=.bool (decide (a<b)&&(g.ts[a]).s==(g.ts[b]).s)->KK .nrm n:=by
  intro n X Q T U J w;rw[<- z];clear z;generalize (decide (a<b)&&(g.ts[a]).s==(g.ts[b]).s)=c0 at *;cases c0;simp only[bS];simp[w];refine j5 [(10,11),(46,66)] R.length (λi s=>s.tm 11=.int .i64 i/\((R.drop i).zip (M.drop i)).any (λx=>x.2==(a:Int)&&x.1.1==(b:Int))=c) rfl rfl ⟨zS,zU I⟩ ?_;rintro i s hi ⟨m,l⟩ f;have B:s.tm 1=yl false jC R:=by rw[f.t 1 zS];simp[X]
  have G:s.tm 2=yl nl yf M:=by rw[f.t 2 zS];simp[Q]
  have H:s.tm 3=.int .i64 (a:Int):=by rw[f.t 3 zS];simp[T]
  have P:s.tm 4=.int .i64 (b:Int):=by rw[f.t 4 zS];simp[U]
  have K:s.df=[]:=by rw[f.d];simp[J]
  clear f;by_cases j:i<R.length;have L:=jR j zO;have e:i<M.length:=zO;have r:=jn M e;have v:=(jxm R j).1;rw[aP j,aP e,gy,bp]at l;cases u:(M[i]==(a:Int));rw[u,bH,bS]at l;simp[m,B,G,H,j,e,j4 j6,r,u,L];exact l;cases D:((R[i]).1==(b:Int));rw[u,D,bO,bS]at l;simp[m,B,G,H,P,j,e,j4 j6,j4 jS,r,v,u,D,L];exact l;rw[u,D,bO,fo]at l;simp[m,B,G,H,P,j,e,j4 j6,j4 jS,r,v,u,D];exact j3 (by simp[K]) (by simp[<- l]) rfl;have:i=R.length:=zO;subst this;rw[dk]at l;simp[m,B];exact j3 (by simp[K]) (by simp[<- l]) rfl;simp[w];exact j3 (by simp[J]) zS rfl
 by_cases k:a<b;simp[k,ya,o,q,j4 j7,sa,sb];exact p _ zS zS zS zS zS (by simp[k]);simp[k];exact p _ zS zS zS zS zS (by simp[k])
def js4 (l:List Bool) {i:Nat}(h:i<l.length):(l.map V.bool)[i]? = some (.bool l[i]):=by simp[h]
def jtx (bs:List Bool) (k:Nat) (b:Bool) (h:k<bs.length):j2 (bs.map V.bool) k [.bool b]=(bs.set k b).map V.bool:=by unfold j2;rw[dF,cN,zb (zU h)];simp
def jy4 {Yf:YF}{f:FuncId}{xs:List A}{st:St}{ub:Nat}{K:St->Nat->Prop}{d:Option Nat}{nm:Bool}{vs:List V}{P:V->Prop}(b:xs.map (ye E st.tm)=vs) (a:E.sh nm f=false) (hp:(vs.all λv=>v.strip.pureTop)=false)
 (c:∃v,EvO E f vs st.ob st.tk ((st.fb+d.getD 0+1)*1024) ub v/\P v) (h:∀v,P v->wpD (Xq ub v) (QP K st d ub)):j8 E Yf ⟨d,.call f xs,none,nm⟩ st ub K:=by
 obtain⟨v,e,g⟩:=c;exact jN b a hp e (h v g)
section
variable (g:Hist') (M:List Int) (t:Nat)
def jg2 (bs:List Bool) (a b:Nat):Bool:=!bs.getD a false&&((b==t||bs.getD b false)&&jez g M a b)
def FarS (bs:List Bool):Prop:=bs.length=g.ts.length/\∀a,bs.getD a false=true->farB g M t a=true
def FarR (bs0:List Bool) (i j:Nat) (bs:List Bool) (more:Bool):Prop:=FarS g M t bs/\(more=false->bs=bs0/\∀a b,(a<i\/a=i/\b<j)->b<g.ts.length->jg2 g M t bs0 a b=false) /\
 (more=true->bs.count false+1<=bs0.count false)
end
section
variable {g:Hist'}{M:List Int}{t:Nat}
def FarS.fire {bs:List Bool}(h:FarS g M t bs) (j:t<g.ts.length) {a b:Nat}(i:b<g.ts.length) (c:jg2 g M t bs a b=true):FarS g M t (bs.set a true):=by refine⟨by simp[h.1],λx f=>?_⟩;unfold jg2 at c;simp only[aj,bG,zh]at c;by_cases d:x=a;subst d;rcases c.2.1 with rfl|h2;exact jol c.2.2 _;exact jb7 i (h.2 b h2) (jol c.2.2 _);refine h.2 x ?_;rw[ay,cU (λe=>d e.symm)]at f;simpa[ay] using f
def jvk {bs:List Bool}{a:Nat}(b:a<bs.length) (c:bs.getD a false=false):(bs.set a true).count false+1=bs.count false:=by
 have e:bs[a]=false:=by simpa[ay,b] using c
 have d:0<bs.count false:=eI.2 (e▸au b);rw[fw b,e];simp;omega
def FarR.next {e bs:List Bool}{i j:Nat}{m:Bool}(h:FarR g M t e i j bs m) (r:t<g.ts.length) (hi:i<g.ts.length) (s:j<g.ts.length) :
 FarR g M t e i (j+1) (if jg2 g M t bs i j then bs.set i true else bs) (m||jg2 g M t bs i j):=by
 obtain⟨l,n,o⟩:=h;cases d:jg2 g M t bs i j;simp only[bm,ag,zc];refine⟨l,λk=>?_,o⟩;obtain⟨rfl,q⟩:=n k;refine⟨rfl,λa b c p=>?_⟩;rcases c with c|⟨rfl,c⟩;exact q a b (.inl c) p;rcases bj.1 c with h|h;exact q a b (.inr ⟨rfl,h⟩) p;subst h;exact d;simp only[iA,zd];have f:bs.getD i false=false:=by unfold jg2 at d;simp only[aj,cp]at d;exact d.1
 have u:=jvk (by rw[l.1];exact hi) f;refine⟨l.fire r s d,λk=>(by cases k),λ_=>?_⟩;cases m;rw[(n rfl).1]at u ⊢;omega;have:=o rfl;omega
def FarR.row {d bs:List Bool}{i:Nat}{m:Bool}(h:FarR g M t d i g.ts.length bs m):FarR g M t d (i+1) 0 bs m:=by refine⟨h.1,λe=>⟨(h.2.1 e).1,λa b c f=>(h.2.1 e).2 a b ?_ f⟩,h.2.2⟩;rcases c with c|⟨_,c⟩;rcases bj.1 c with h1|h1;exact .inl h1;exact .inr ⟨h1,f⟩;omega
def j94 {bs:List Bool}(j:FarS g M t bs) (o:t<g.ts.length) (h:∀a b,a<g.ts.length->b<g.ts.length->jg2 g M t bs a b=false):bs=(List.range g.ts.length).map (farB g M t):=by
 apply eC;simp[j.1];intro a k n;have m:a<g.ts.length:=by rw[<- j.1];exact k
 rw[List.getElem_map,List.getElem_range];have l:bs.getD a false=bs[a]:=by simp[ay,k]
 cases f:farB g M t a;cases e:bs[a];rfl;rw[j.2 a (by rw[l,e])]at f;cases f;have:=jqs (r:=jez g M) (p:=λa=>bs.getD a false=true/\a<g.ts.length) (q:=λb=>b=t\/bs.getD b false=true/\b<g.ts.length) (λa b e d=>by
  have c:=XG (jlq d).1;have i:=XG (jlq d).2;have:=h a b c i;unfold jg2 at this;rw[d,ek]at this;rcases e with rfl|⟨e,_⟩;simp at this;exact⟨by simpa[ay] using this,c⟩;rw[e]at this;simp at this;exact⟨by simpa[ay] using this,c⟩) (λb e=>.inr e) g.ts.length (b:=t) (.inl rfl) f
 rw[l]at this;exact this.1
end
def bl_flat (bs:List Bool):bs.map V.bool=bs.flatMap blC:=by induction bs<;>simp_all [blC]
def bl_end {st:St}{q l u n:Nat}{bs:List Bool}{P:V->Prop}(o:∀r,SlR r false n (bs.flatMap blC)->P r) (k:st.df=[]) (w:st.tm q=.osl l u 0 n 1) (d:st.ob l=some ⟨u,.cells (bs.flatMap blC)⟩) (m:bs.length=n) (_:0<n) (y:st.ro=0):WQ [.t q] P .ret st:=by
 have e:(bs.flatMap blC).length=n:=by rw[j1 jqg,bx,m]
 have a:ya st.ob l u=some (bs.flatMap blC):=by simp[ya,d]
 have j:(bs.flatMap blC).mapM (JY st 5)=some (bs.flatMap blC):=by
  clear a d e m o;induction bs with
  |nil=>rfl
  |cons b bs x=>rw[bk];show(V.bool b::bs.flatMap blC).mapM (JY st 5)=_;rw[bR,x];rfl
 have s:JY st 6 (.osl l u 0 n 1)=some (.sl none false n (bs.flatMap blC)):=by show((ya st.ob l u).bind λcs=>if Nat.ble st.ro u=true/\0+n*1<=cs.length then (((cs.drop 0).take (n*1)).mapM (JY st 5)).map λf=>V.sl none false n f else none)=_;rw[a,ah,zb ⟨bT▸zO,zO⟩,dt,bx,aH zO,j];rfl
 have d:∃t:Option (Nat×Nat),jt st true 0 (.osl l u 0 n 1)=some (.sl t false n (bs.flatMap blC))/\∀p∈t.toList,p.1<64:=by simp only[jt,s,ah,a,aU];refine⟨_,rfl,λp c=>?_⟩;split at c;simp at c;subst c;decide;simp at c
 obtain⟨t,i,h⟩:=d;have g:[ARes.t q].mapM (ju st)=some [.osl l u 0 n 1]:=by simp[ju,w]
 refine⟨.sl t false n (bs.flatMap blC),?_,o _ ⟨t,rfl,h⟩⟩;simp only[jb4,Yk k,Yg k,zd,g,ah,W6];have v:yJ ([V.osl l u 0 n 1].flatMap V.toks)=true:=rfl;rw[v];simp only[Jd,XF,i,ah,aU];cases t<;>rfl
def ev108 {g:Hist'}(hs:Small g) {nl:Bool}{M:List Int}(hM:M.length=(yi g).length) {t:Nat}(ht:t<g.ts.length) :
 ∃v,Ev E 108 [.agg (yb g),yl false jC (yi g),yl nl yf M,.int .i64 (t:Int)] v/\SlR v false g.ts.length (((List.range g.ts.length).map (farB g M t)).flatMap blC):=by
 have d5:=hs.ts;have d1:0<g.ts.length:=zO;refine JX rfl zQ ?_;conv in(occs:=*)F108=>all_goals cbv
 simp[yb,ya];refine jsf (n:=g.ts.length) zS zS zO zO zO rfl zQ ?_;simp[jaj];refine jQ λO q=>?_;have g1:O.tm 1=yl false jC (yi g):=by rw[q];simp
 have g2:O.tm 2=yl nl yf M:=by rw[q];simp
 have g3:O.tm 3=.int .i64 (t:Int):=by rw[q];simp
 have g4:O.tm 4=.ptr 8 0 0:=by rw[q];simp
 have g9:O.tm 9=.osl 32 320 0 g.ts.length 1:=by rw[q];simp
 have d2:O.tm 10=.bool true:=by rw[q];simp
 have p8:O.ob 8=some ⟨0,.cells (yb g)⟩:=by rw[q];simp[yb]
 have d0:O.ob 32=some ⟨320,.cells ((List.replicate g.ts.length false).map V.bool)⟩:=by rw[q];simp
 have gd:O.df=[]:=by rw[q];simp
 have gr:O.ro=0:=by rw[q];simp
 have gb:O.fb=0:=by rw[q];simp
 clear q;obtain⟨J,hJ⟩:∃J:Nat->St->Prop,J=λk s=>∃bs m,FarS g M t bs/\(m=false->∀a b,a<g.ts.length->b<g.ts.length->jg2 g M t bs a b=false)/\bs.count false+(if m then 1 else 0)<=k /\
  s.tm 1=yl false jC (yi g)/\s.tm 2=yl nl yf M/\s.tm 3=.int .i64 (t:Int)/\s.tm 4=.ptr 8 0 0/\s.tm 9=.osl 32 320 0 g.ts.length 1/\s.tm 10=.bool m/\s.ob 8=some ⟨0,.cells (yb g)⟩/\s.ob 32=some ⟨320,.cells (bs.map V.bool)⟩/\s.df=[]/\s.ro=0/\s.fb=0:=⟨_,rfl⟩
 refine Yq (n:=g.ts.length+1) J (by
  rw[hJ];exact⟨List.replicate g.ts.length false,true,⟨zS,λa h=>by simp[ay,ir]at h;split at h<;>cases h⟩,(λh=>by cases h),zS,g1,g2,g3,g4,g9,d2,p8,d0,gd,gr,gb⟩) ?_
 intro k s c6;rw[hJ]at c6;obtain⟨P,m,hF,d3,hk,s1,s2,s3,s4,s9,c2,o8,b5,sd,sr,sb⟩:=c6;cases m;simp[c2];have c7:=j94 hF ht (d3 rfl);rw[c7,bl_flat]at b5;refine bl_end (l:=32) (u:=320) (n:=g.ts.length) (bs:=(List.range g.ts.length).map (farB g M t)) (λr h=>h) (by simp[sd]) (by simp[s9]) (zU b5) zS d1 (by simp[sr]);simp only[zd]at hk;simp[c2];obtain⟨I,hI⟩:∃I:Nat->St->Prop,I=λi s=>s.tm 11=.int .i64 i/\∃bs m,FarR g M t P i 0 bs m/\s.tm 10=.bool m/\s.ob 8=some ⟨0,.cells (yb g)⟩/\s.ob 32=some ⟨320,.cells (bs.map V.bool)⟩:=⟨_,rfl⟩;refine j5 [(10,12),(18,58)] g.ts.length I rfl rfl (by
  rw[hI];exact⟨zS,P,false,⟨hF,λ_=>⟨rfl,λa b h _=>by omega⟩,λh=>by cases h⟩,zS,zU o8,zU b5⟩) ?_
 intro i w hi c0 f;rw[hI]at c0;obtain⟨a0,c1,m1,hR,c5,v8,b9⟩:=c0;have f1:w.tm 1=yl false jC (yi g):=by rw[f.t 1 zS];simp[s1]
 have f2:w.tm 2=yl nl yf M:=by rw[f.t 2 zS];simp[s2]
 have f3:w.tm 3=.int .i64 (t:Int):=by rw[f.t 3 zS];simp[s3]
 have f4:w.tm 4=.ptr 8 0 0:=by rw[f.t 4 zS];simp[s4]
 have f9:w.tm 9=.osl 32 320 0 g.ts.length 1:=by rw[f.t 9 zS];simp[s9]
 have fd:w.df=[]:=by rw[f.d];simp[sd]
 have fr:w.ro=0:=by rw[f.r];simp[sr]
 have fb:w.fb=0:=by rw[f.b];simp[sb]
 clear f;by_cases L:i<g.ts.length;simp[a0,f4,v8,ya,yb,L];obtain⟨I2,b0⟩:∃I2:Nat->St->Prop,I2=λj s=>s.tm 12=.int .i64 j/\∃bs m,FarR g M t P i j bs m/\s.tm 10=.bool m/\s.ob 8=some ⟨0,.cells (yb g)⟩/\s.ob 32=some ⟨320,.cells (bs.map V.bool)⟩:=⟨_,rfl⟩;refine j5 [(10,10),(12,12),(25,58)] g.ts.length I2 rfl rfl (by
  rw[b0];exact⟨zS,c1,m1,hR,zU c5,zU v8,zU b9⟩) ?_
 intro j x hj c3 f;rw[b0]at c3;obtain⟨z,bs,m,b8,S,H,o⟩:=c3;have x1:x.tm 1=yl false jC (yi g):=by rw[f.t 1 zS];simp[f1]
 have x2:x.tm 2=yl nl yf M:=by rw[f.t 2 zS];simp[f2]
 have x3:x.tm 3=.int .i64 (t:Int):=by rw[f.t 3 zS];simp[f3]
 have x4:x.tm 4=.ptr 8 0 0:=by rw[f.t 4 zS];simp[f4]
 have x9:x.tm 9=.osl 32 320 0 g.ts.length 1:=by rw[f.t 9 zS];simp[f9]
 have D:x.tm 11=.int .i64 (i:Int):=by rw[f.t 11 zS];simp[a0]
 have xd:x.df=[]:=by rw[f.d];simp[fd]
 have xr:x.ro=0:=by rw[f.r];simp[fr]
 have xb:x.fb=0:=by rw[f.b];simp[fb]
 clear f;by_cases e:j<g.ts.length;have hw:=jR e zO;have B:=b8.next ht L e;have d4:bs.length=g.ts.length:=b8.1.1;have G:=j4j (l:=32) (u:=320) (n:=g.ts.length) (kk:=.i64) (X:=(i:Int)) rfl L;have b6:=j4j (l:=32) (u:=320) (n:=g.ts.length) (kk:=.i64) (X:=(j:Int)) rfl e;have K:=js4 bs (i:=i) zO;have b7:=js4 bs (i:=j) zO;have c9:bs.getD i false=bs[i]:=by simp[ay,show i<bs.length by omega]
 have c8:bs.getD j false=bs[j]:=by simp[ay,show j<bs.length by omega]
 have F:=ev163 hs (nl:=nl) hM L e;have N:((j:Int)==(t:Int))=(j==t):=by rw[bz];simp;omega
 unfold jg2 at B;rw[c9,c8]at B;have c4:=jtx bs i true zO;have p:∀(x':St) (T:List Bool) (m':Bool),FarR g M t P i (j+1) T m'->x'.tm 12=.int .i64 ((j+1:Nat):Int)->x'.tm 10=.bool m'->x'.ob 8=some ⟨0,.cells (yb g)⟩->x'.ob 32=some ⟨320,.cells (T.map V.bool)⟩->I2 (j+1) x':=λx' T m' a1 a2 a3 a4 a5=>by rw[b0];exact⟨a2,T,m',a1,a3,a4,a5⟩
 cases Z:bs[i];have Q:∀c:Bool,jez g M i j=c->((j==t)||bs[j])=true->FarR g M t P i (j+1) (if c then bs.set i true else bs) (m||c):=λc hc hq=>by rw[Z,hc,hq]at B;simpa using B
 cases U:(j==t);cases cj:bs[j];rw[Z,U,cj]at B;simp at B;simp[z,x4,x3,x9,D,H,o,ya,yb,e,G,b6,K,b7,Z,cj,N,U,hw];exact p _ bs m B zS (by simp[S]) (by simp[H,yb]) (by simp[o]);rw[U,cj]at Q;cases cs:jez g M i j;have y:=Q false cs rfl;rw[cs]at F;simp at y;simp[z,x4,x3,x9,D,x1,x2,H,o,ya,yb,e,G,b6,K,b7,Z,cj,N,U];refine jH F zI rfl zI ?_;simp[hw,z,e];exact p _ bs m y zS (by simp[S]) (by simp[H,yb]) (by simp[o]);have y:=Q true cs rfl;rw[cs]at F;simp at y;simp[z,x4,x3,x9,D,x1,x2,H,o,ya,yb,e,G,b6,K,b7,Z,cj,N,U];refine jH F zI rfl zI ?_;simp[hw,z,e,x9,D,G,o,ya,c4,xr];exact⟨zO,p _ (bs.set i true) true y zS zS (by simp[H,yb]) (by simp[dF])⟩;cases cs:jez g M i j;have y:=Q false cs (by rw[U];rfl);rw[cs]at F;simp at y;simp[z,x4,x3,x9,D,x1,x2,H,o,ya,yb,e,G,K,Z,N,U];refine jH F zI rfl zI ?_;simp[hw,z,e];exact p _ bs m y zS (by simp[S]) (by simp[H,yb]) (by simp[o]);have y:=Q true cs (by rw[U];rfl);rw[cs]at F;simp at y;simp[z,x4,x3,x9,D,x1,x2,H,o,ya,yb,e,G,K,Z,N,U];refine jH F zI rfl zI ?_;simp[hw,z,e,x9,D,G,o,ya,c4,xr];exact⟨zO,p _ (bs.set i true) true y zS zS (by simp[H,yb]) (by simp[dF])⟩;rw[Z]at B;simp at B;simp[z,x4,x9,D,H,o,ya,yb,e,G,K,Z,hw];exact p _ bs m B zS (by simp[S]) (by simp[H,yb]) (by simp[o]);have:j=g.ts.length:=zO;subst this;have hw:=jR L zO;simp[z,x4,H,ya,yb,D,hw,L];rw[hI];exact⟨zS,bs,m,b8.row,zU S,by simpa[yb] using H,zU o⟩;have:i=g.ts.length:=zO;subst this;simp[a0,f4,v8,ya,yb];refine⟨k-1,zO,?_⟩;rw[hJ];refine⟨c1,m1,hR.1,λhm a b ha hb=>?_,?_,zU f1,zU f2,zU f3,zU f4,zU f9,zU c5,by simpa[yb] using v8,zU b9,by simp[fd],by simp[fr],by simp[fb]⟩;rw[(hR.2.1 hm).1];exact(hR.2.1 hm).2 a b (.inl ha) hb;cases m1;rw[(hR.2.1 rfl).1];simp;omega;have:=hR.2.2 rfl;simp;omega
end Go.Pv.T
