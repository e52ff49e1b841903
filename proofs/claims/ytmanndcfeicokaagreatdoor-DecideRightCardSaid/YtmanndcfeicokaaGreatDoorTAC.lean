/- Part. -/
import Derived.Test.YtmanndcfeicokaaGreatDoorTAB
import Derived.KernelRfl
import Derived.Test.YtmanndcfeicokaaGreatDoorRows
set_option maxRecDepth 100000
set_option maxHeartbeats 8000000
set_option linter.all false
namespace Go.Pv
open Go
def jbp:V->Bool->Prop->Prop->Prop
 | .bool c,b,p,q=>(c=b->p)/\(c = !b->q)
 | .tup [],_,_,q=>q
 |_,_,_,_=>False
def wpIf:V->Prop->Prop->Prop
 | .bool c,p,q=>(c=true->p)/\(c=false->q)
 |_,_,_=>False
def wpV (o:Option V) (k:V->Prop):Prop:=∃v,o=some v/\k v
def wpD (o:Option Delta) (k:Delta->Prop):Prop:=∃v,o=some v/\k v
def jqq (v:V) (k:V->Prop):wpV (some v) k=k v:=by simp[wpV]
def jqr (k:V->Prop):wpV none k=False:=by simp[wpV]
def j67 (c:Prop) [Decidable c] (o:Option V) (k:V->Prop):wpV (if c then o else none) k=(c/\wpV o k):=by by_cases h:c<;>simp[h,wpV]
def j1m (c:Prop) [Decidable c] (o:Option V) (k:V->Prop):wpV (if c then none else o) k=(¬c/\wpV o k):=by by_cases h:c<;>simp[h,wpV]
def jJ (v:Delta) (k:Delta->Prop):wpD (some v) k=k v:=by simp[wpD]
def jb5 (k:Delta->Prop):wpD none k=False:=by simp[wpD]
def jfk (c:Prop) [Decidable c] (o:Option Delta) (k:Delta->Prop):wpD (if c then o else none) k=(c/\wpD o k):=by by_cases h:c<;>simp[h,wpD]
def j1y (c:Prop) [Decidable c] (o:Option Delta) (k:Delta->Prop):wpD (if c then none else o) k=(¬c/\wpD o k):=by by_cases h:c<;>simp[h,wpD]
def St.setT (st:St) (d:Option Nat) (v:V):St:={ st with tm:=put st.tm d v }
def jbb (st:St) (d:Option Nat) (v:V):st.app d { v:=v }=st.setT d v:=by simp[St.app,Ji,Xs,St.setT]
def j7y (st:St) (d n:Nat) (v:V):(st.setT (some d) v).tm n=if n=d then v else st.tm n:=by simp[St.setT,put,yg]
def j2j (st:St) (n:Nat) (v:V):(st.setT none v).tm n=st.tm n:=rfl
def Yu (st:St) (d:Option Nat) (v:V):(st.setT d v).ob=st.ob:=rfl
def jo0 (st:St) (d:Option Nat) (v:V):(st.setT d v).tk=st.tk:=rfl
def j7z (st:St) (d:Option Nat) (v:V):(st.setT d v).ro=st.ro:=rfl
def j70 (st:St) (d:Option Nat) (v:V):(st.setT d v).nx=st.nx:=rfl
def j71 (st:St) (d:Option Nat) (v:V):(st.setT d v).fb=st.fb:=rfl
def j72 (st:St) (d:Option Nat) (v:V):(st.setT d v).df=st.df:=rfl
def St.setN (st:St) (n:Nat):St:={ st with nx:=n }
def jo1 (st:St) (n:Nat):(st.setN n).tm=st.tm:=rfl
def JU (st:St) (n:Nat):(st.setN n).ob=st.ob:=rfl
def jw6 (st:St) (n:Nat):(st.setN n).tk=st.tk:=rfl
def j73 (st:St) (n:Nat):(st.setN n).ro=st.ro:=rfl
def jkd (st:St) (n:Nat):(st.setN n).nx=n:=rfl
def j74 (st:St) (n:Nat):(st.setN n).fb=st.fb:=rfl
def j75 (st:St) (n:Nat):(st.setN n).df=st.df:=rfl
def jn3 (st:St) (d n:Nat) (δ:Delta):(st.app (some d) δ).tm n=if n=d then δ.v else st.tm n:=by simp[St.app,put,yg]
def app_tm0 (st:St) (n:Nat) (δ:Delta):(st.app none δ).tm n=st.tm n:=rfl
def app_ro (st:St) (d:Option Nat) (δ:Delta):(st.app d δ).ro=st.ro:=rfl
def app_nx (st:St) (d:Option Nat) (δ:Delta):(st.app d δ).nx=st.nx:=rfl
def app_fb (st:St) (d:Option Nat) (δ:Delta):(st.app d δ).fb=st.fb:=rfl
def app_df (st:St) (d:Option Nat) (δ:Delta):(st.app d δ).df=st.df:=rfl
def app_ob (st:St) (d:Option Nat) (v:V) (del:Option Nat) (add:List Nat):(st.app d { v:=v,del:=del,add:=add }).ob=st.ob:=by simp[St.app,Ji]
def jf (st:St) (d:Option Nat) (δ:Delta) (u:Nat):(st.app d δ).tk u=if u∈δ.add then true else if u∈δ.del.toList then false else st.tk u:=by simp only[St.app,jbq]
def XK (st:St) (d:Option Nat) (v:V) (l k:Nat) (o:Obj') (add:List Nat):(st.app d { v:=v,obs:=[(l,o)],add:=add }).ob k=if k=l then some o else st.ob k:=by simp[St.app,Ji,yg]
def j16 (args:List V) (n:Nat):(ja6 args).tm n=args.getD n js:=rfl
def j19 (args:List V) (n:Nat):(ja6 args).ob n=none:=rfl
def j17 (args:List V) (n:Nat):(ja6 args).tk n=false:=rfl
def j18 (args:List V):(ja6 args).ro=0:=rfl
def j2a (args:List V):(ja6 args).nx=0:=rfl
def j2b (args:List V):(ja6 args).fb=0:=rfl
def j2c (args:List V):(ja6 args).df=[]:=rfl
def eval_t (E:Env) (tm:Nat->V) (n:Nat):ye E tm (.t n)=tm n:=rfl
def eval_c (E:Env) (tm:Nat->V) (v:V):ye E tm (.c v)=v:=rfl
def j2z:V->V->V->Option V
 | .bool t,a,b=>some (cond t a b)
 |_,_,_=>none
def jub (t:Bool) (a b:V):j2z (.bool t) a b=some (cond t a b):=rfl
def W3 (ob:ZO) (g:Option Nat):V->Option V
 | .eptr cs off=>Xz g cs off
 | .ptr l u off=>(j0 ob l u).bind λcs=>Xz g cs off
 |_=>none
def jdx (ob:ZO) (g:Option Nat) (cs:List V) (off:Nat):W3 ob g (.eptr cs off)=Xz g cs off:=rfl
def j81 (ob:ZO) (g:Option Nat) (l u off:Nat):W3 ob g (.ptr l u off)=(j0 ob l u).bind λcs=>Xz g cs off:=rfl
def jcq:V->Option V
 | .ptr l u o=>some (.ptr l u o)
 | .eptr cs o=>some (.eptr cs o)
 | .fn (.func f) a b=>some (.fn (.func f) a b)
 |_=>none
def Wv (off:Nat):V->Option V
 | .ptr l u o=>some (.ptr l u (o+off))
 | .eptr cs o=>some (.eptr cs (o+off))
 |_=>none
def ju (sz:Nat):V->V->Option V
 | .sl _ _ n cs,.int _ i=>if 0<=i/\i<n/\cs.length=n*sz then some (.eptr cs (i.toNat*sz)) else none
 | .osl l u off n sz',.int _ i=>if 0<=i/\i<n/\sz'=sz then some (.ptr l u (off+i.toNat*sz)) else none
 |_,_=>none
def Wf (len sz:Nat):V->V->Option V
 | .ptr l u off,.int _ i=>if 0<=i/\i<len then some (.ptr l u (off+i.toNat*sz)) else none
 | .eptr cs off,.int _ i=>if 0<=i/\i<len then some (.eptr cs (off+i.toNat*sz)) else none
 |_,_=>none
def j8n (g:Option Nat) (off:Nat):V->Option V
 | .agg cs=>Xz g cs off
 |_=>none
def jaa:V->V->Option V
 | .str s,.int _ i=>if 0<=i then (s[i.toNat]?).map λb=>.int .u8 b.toNat else none
 |_,_=>none
def jbz (g:Option Nat) (len sz:Nat):V->V->Option V
 | .agg cs,.int _ i=>if 0<=i/\i<len then Xz g cs (i.toNat*sz) else none
 |_,_=>none
def Y1 (lo hi:Option V):V->Option V
 | .str s=>(Js s.length s.length lo hi).map λ(l,h)=>.str ((s.take h).drop l)
 |_=>none
def Y5 (sz:Nat) (lo hi:Option V):V->Option V
 | .sl _ nl n cs=>if cs.length=n*sz then (Js n n lo hi).map λ(l,h)=>.sl none nl (h-l) ((cs.take (h*sz)).drop (l*sz)) else none
 | .osl a u off n sz'=>if sz'=sz then (Js n n lo hi).map λ(l,h)=>.osl a u (off+l*sz) (h-l) sz else none
 |_=>none
def jk0:V->Option V
 | .str s=>some (.int .i64 s.length)
 |_=>none
def QV:V->Option V
 | .sl _ _ n _=>some (.int .i64 n)
 | .osl _ _ _ n _=>some (.int .i64 n)
 |_=>none
def jk1 (ob:ZO):V->Option V
 | .nilmap=>some (.int .i64 0)
 | .map l u=>(jY ob l u).map λes=>.int .i64 es.length
 |_=>none
def jfc (i:Nat):V->Option V
 | .tup vs=>vs[i]?
 |_=>none
def Xy (k:IntKind):V->Option V
 | .int _ n=>some (.int k (k.wrap n))
 |_=>none
def jbx (isMax:Bool):List V->Option V
 |[]=>none
 |x::r=>QK isMax x r
def j1j (ob:ZO) (neg:Bool) (k:EqK) (x y:V):Option V :=
 match k,x,y with
 | .ptr,.ptr l u off,.ptr l' u' off'=>if (j0 ob l u).isSome&&(j0 ob l' u').isSome then some (.bool (xor neg (Nat.beq l l'&&Nat.beq off off'))) else none
 |k,a,b=>(eqV k a b).map λb=>.bool (xor neg b)
def Yc (ob:ZO) (q:LK) (zero:V) (ok:Bool) (m k:V):Option V :=
 if Qz q k then match m with
  | .nilmap=>some (if ok then .tup [zero,.bool false] else zero)
  | .map l u=>(jY ob l u).bind λes=>(yM q k es).map λr=>match r with
   |some (_,v)=>if ok then .tup [v,.bool true] else v
   |none=>if ok then .tup [zero,.bool false] else zero
  |_=>none else none
section
variable {E:Env}{Yf:YF}{st:St}{ub:Nat}{K:St->Nat->Prop}{d:Option Nat}{nm:Bool}
def j1z {c:A}{a b:C}{Q:Ex->St->Prop}:wpC E Yf (.cond c a b) st Q=wpIf (ye E st.tm c) (wpC E Yf a st Q) (wpC E Yf b st Q):=by simp only[wpC];cases h:ye E st.tm c<;>simp[wpIf]
def jls {op:AOp}{t:Nat}{b:Bool}:jB E Yf ⟨d,op,some (t,b),nm⟩ st ub K=jbp (st.tm t) b (jB E Yf ⟨d,op,none,nm⟩ st ub K) (K (st.setT d js) ub):=by
 have a:AOpr.name ⟨d,op,some (t,b),nm⟩=AOpr.name ⟨d,op,none,nm⟩:=rfl;unfold jB;simp only[yJ,a];cases h:st.tm t with
 |bool c=>simp only[jbp];cases c<;>cases b<;>simp[St.setT]
 |tup l=>cases l<;>simp[jbp,St.setT]
 |_=>simp[jbp]
def jR (op:AOp) (h:op.isCall=false) (b:op.isNext=false):jB E Yf ⟨d,op,none,nm⟩ st ub K=wpD (yS (λ_ _=>none) (ye E st.tm) st.ob st.tk st.ro (AOpr.name ⟨d,op,none,nm⟩ st.fb ub) ub op) λa=>K (st.app d a) (ub+64):=by cases op<;>first|cases h;done|cases b;done|simp only[jB,yJ,jj,jC,wpD]
def WV (v:V) (k:Delta->Prop):wpD (one v) k=k { v:=v }:=by simp[one,wpD]
def jew (o:Option V) (k:Delta->Prop):wpD (o.bind one) k=wpV o λv=>k { v:=v }:=by cases o<;>simp[wpD,wpV,one]
def j69 {x:A}:jB E Yf ⟨d,.mov x,none,nm⟩ st ub K=K (st.setT d (ye E st.tm x)) (ub+64):=by rw[jR _ rfl rfl];simp only[yS,WV,jbb]
def j1o {c a b:A}:jB E Yf ⟨d,.pick c a b,none,nm⟩ st ub K=wpV (j2z (ye E st.tm c) (ye E st.tm a) (ye E st.tm b)) λv=>K (st.setT d v) (ub+64):=by rw[jR _ rfl rfl];simp only[yS];cases ye E st.tm c<;>simp only[j2z,WV,jqq,jqr,jb5,jbb]
def j7b {op:BinOp}{x y:A}:jB E Yf ⟨d,.bin op x y,none,nm⟩ st ub K=wpV (YN op (ye E st.tm x) (ye E st.tm y)) λv=>K (st.setT d v) (ub+64):=by rw[jR _ rfl rfl];simp only[yS,jew,jbb]
def wpS_un {op:UnOp}{x:A}:jB E Yf ⟨d,.un op x,none,nm⟩ st ub K=wpV (unV op (ye E st.tm x)) λv=>K (st.setT d v) (ub+64):=by rw[jR _ rfl rfl];simp only[yS,jew,jbb]
def jT {a:Type}(o:Option a) (f:a->V):(o.bind λx=>one (f x))=(o.map f).bind one:=by cases o<;>rfl
def je (c:Prop) [Decidable c] (v:Option V):(if c then v.bind one else none)=(if c then v else none).bind one:=by split<;>rfl
def XI (c:Prop) [Decidable c] (v:V):(if c then one v else none)=(if c then some v else none).bind one:=by split<;>rfl
def Qy {a:Type}(c:Prop) [Decidable c] (o:Option a) (f:a->V):(if c then o.bind λx=>one (f x) else none)=(if c then o.map f else none).bind one:=by split;exact jT _ _;rfl
def X0 {op:AOp}{o:Option V}(h:op.isCall=false) (c:op.isNext=false) (b:∀a,yS (λ_ _=>none) (ye E st.tm) st.ob st.tk st.ro a ub op=o.bind one):jB E Yf ⟨d,op,none,nm⟩ st ub K=wpV o λv=>K (st.setT d v) (ub+64):=by rw[jR _ h c,b,jew];simp only[jbb]
def wpS_eq {neg:Bool}{k:EqK}{x y:A}:jB E Yf ⟨d,.eq neg k x y,none,nm⟩ st ub K=wpV (j1j st.ob neg k (ye E st.tm x) (ye E st.tm y)) λv=>K (st.setT d v) (ub+64):=by refine X0 rfl rfl λa=>?_;simp only[yS,j1j];generalize ye E st.tm x=vx;generalize ye E st.tm y=vy;cases k<;>first|rfl|exact jT _ _|(cases vx<;>first|rfl|exact jT _ _|(cases vy<;>(first|rfl|exact XI _ _|exact je _ _|exact jT _ _|exact(bV ..).symm)))
def j1r {g:Option Nat}{x:A}:jB E Yf ⟨d,.load g x,none,nm⟩ st ub K=wpV (W3 st.ob g (ye E st.tm x)) λv=>K (st.setT d v) (ub+64):=by refine X0 rfl rfl λa=>?_;simp only[yS,W3];generalize ye E st.tm x=vx;cases vx<;>(first|rfl|exact XI _ _|exact je _ _|exact jT _ _|exact(bV ..).symm)
def jlu {x:A}:jB E Yf ⟨d,.nilCheck x,none,nm⟩ st ub K=wpV (jcq (ye E st.tm x)) λv=>K (st.setT d v) (ub+64):=by refine X0 rfl rfl λa=>?_;simp only[yS,jcq];generalize ye E st.tm x=vx;cases vx<;>(first|rfl|exact XI _ _|exact je _ _|exact jT _ _|exact(bV ..).symm|(rename_i f _ _;cases f<;>rfl)|exact Qy _ _ _)
def jj5 {off:Nat}{x:A}:jB E Yf ⟨d,.fieldAddr off x,none,nm⟩ st ub K=wpV (Wv off (ye E st.tm x)) λv=>K (st.setT d v) (ub+64):=by refine X0 rfl rfl λa=>?_;simp only[yS,Wv];generalize ye E st.tm x=vx;cases vx<;>(first|rfl|exact XI _ _|exact je _ _|exact jT _ _|exact(bV ..).symm)
def jwd {sz:Nat}{x i:A}:jB E Yf ⟨d,.idxSl sz x i,none,nm⟩ st ub K=wpV (ju sz (ye E st.tm x) (ye E st.tm i)) λv=>K (st.setT d v) (ub+64):=by refine X0 rfl rfl λa=>?_;simp only[yS,ju];generalize ye E st.tm x=vx;generalize ye E st.tm i=vi;cases vx<;>first|rfl|(cases vi<;>(first|rfl|exact XI _ _|exact je _ _|exact jT _ _|exact(bV ..).symm))
def jtl {len sz:Nat}{x i:A}:jB E Yf ⟨d,.idxArr len sz x i,none,nm⟩ st ub K=wpV (Wf len sz (ye E st.tm x) (ye E st.tm i)) λv=>K (st.setT d v) (ub+64):=by refine X0 rfl rfl λa=>?_;simp only[yS,Wf];generalize ye E st.tm x=vx;generalize ye E st.tm i=vi;cases vx<;>first|rfl|(cases vi<;>(first|rfl|exact XI _ _|exact je _ _|exact jT _ _|exact(bV ..).symm))
def j1p {g:Option Nat}{off:Nat}{x:A}:jB E Yf ⟨d,.part g off x,none,nm⟩ st ub K=wpV (j8n g off (ye E st.tm x)) λv=>K (st.setT d v) (ub+64):=by refine X0 rfl rfl λa=>?_;simp only[yS,j8n];generalize ye E st.tm x=vx;cases vx<;>(first|rfl|exact XI _ _|exact je _ _|exact jT _ _|exact(bV ..).symm)
def jtk {x i:A}:jB E Yf ⟨d,.idxStr x i,none,nm⟩ st ub K=wpV (jaa (ye E st.tm x) (ye E st.tm i)) λv=>K (st.setT d v) (ub+64):=by refine X0 rfl rfl λa=>?_;simp only[yS,jaa];generalize ye E st.tm x=vx;generalize ye E st.tm i=vi;cases vx<;>first|rfl|(cases vi<;>(first|rfl|exact XI _ _|exact je _ _|exact jT _ _|exact(bV ..).symm|(rename_i f _ _;cases f<;>rfl)|exact Qy _ _ _))
def jtj {g:Option Nat}{len sz:Nat}{x i:A}:jB E Yf ⟨d,.idxVal g len sz x i,none,nm⟩ st ub K=wpV (jbz g len sz (ye E st.tm x) (ye E st.tm i)) λv=>K (st.setT d v) (ub+64):=by refine X0 rfl rfl λa=>?_;simp only[yS,jbz];generalize ye E st.tm x=vx;generalize ye E st.tm i=vi;cases vx<;>first|rfl|(cases vi<;>(first|rfl|exact XI _ _|exact je _ _|exact jT _ _|exact(bV ..).symm))
def jwb {x:A}{lo hi:Option A}:jB E Yf ⟨d,.slStr x lo hi,none,nm⟩ st ub K=wpV (Y1 (lo.map (ye E st.tm)) (hi.map (ye E st.tm)) (ye E st.tm x)) λv=>K (st.setT d v) (ub+64):=by refine X0 rfl rfl λa=>?_;simp only[yS,Y1];generalize ye E st.tm x=vx;cases vx<;>(first|rfl|exact XI _ _|exact je _ _|exact jT _ _|exact(bV ..).symm)
def j1n {sz:Nat}{x:A}{lo hi:Option A}:jB E Yf ⟨d,.slSl sz x lo hi,none,nm⟩ st ub K=wpV (Y5 sz (lo.map (ye E st.tm)) (hi.map (ye E st.tm)) (ye E st.tm x)) λv=>K (st.setT d v) (ub+64):=by refine X0 rfl rfl λa=>?_;simp only[yS,Y5];generalize ye E st.tm x=vx;cases vx<;>(first|rfl|exact XI _ _|exact je _ _|exact jT _ _|exact(bV ..).symm|(rename_i f _ _;cases f<;>rfl)|exact Qy _ _ _)
def jth {x:A}:jB E Yf ⟨d,.lenStr x,none,nm⟩ st ub K=wpV (jk0 (ye E st.tm x)) λv=>K (st.setT d v) (ub+64):=by refine X0 rfl rfl λa=>?_;simp only[yS,jk0];generalize ye E st.tm x=vx;cases vx<;>(first|rfl|exact XI _ _|exact je _ _|exact jT _ _|exact(bV ..).symm)
def jwc {x:A}:jB E Yf ⟨d,.lenSl x,none,nm⟩ st ub K=wpV (QV (ye E st.tm x)) λv=>K (st.setT d v) (ub+64):=by refine X0 rfl rfl λa=>?_;simp only[yS,QV];generalize ye E st.tm x=vx;cases vx<;>(first|rfl|exact XI _ _|exact je _ _|exact jT _ _|exact(bV ..).symm)
def jti {x:A}:jB E Yf ⟨d,.lenMap x,none,nm⟩ st ub K=wpV (jk1 st.ob (ye E st.tm x)) λv=>K (st.setT d v) (ub+64):=by refine X0 rfl rfl λa=>?_;simp only[yS,jk1];generalize ye E st.tm x=vx;cases vx<;>(first|rfl|exact XI _ _|exact je _ _|exact jT _ _|exact(bV ..).symm)
def jon {x:A}{i:Nat}:jB E Yf ⟨d,.extract x i,none,nm⟩ st ub K=wpV (jfc i (ye E st.tm x)) λv=>K (st.setT d v) (ub+64):=by refine X0 rfl rfl λa=>?_;simp only[yS,jfc];generalize ye E st.tm x=vx;cases vx<;>(first|rfl|exact XI _ _|exact je _ _|exact jT _ _|exact(bV ..).symm)
def j1s {k:IntKind}{x:A}:jB E Yf ⟨d,.conv k x,none,nm⟩ st ub K=wpV (Xy k (ye E st.tm x)) λv=>K (st.setT d v) (ub+64):=by refine X0 rfl rfl λa=>?_;simp only[yS,Xy];generalize ye E st.tm x=vx;cases vx<;>(first|rfl|exact XI _ _|exact je _ _|exact jT _ _|exact(bV ..).symm)
def jtf {b:Bool}{xs:List A}:jB E Yf ⟨d,.minmax b xs,none,nm⟩ st ub K=wpV (jbx b (xs.map (ye E st.tm))) λv=>K (st.setT d v) (ub+64):=by refine X0 rfl rfl λa=>?_;simp only[yS,jbx];generalize xs.map (ye E st.tm)=vxs;cases vxs<;>(first|rfl|exact XI _ _|exact je _ _|exact jT _ _|exact(bV ..).symm)
def j1q {f:Fn}{a b:List A}:jB E Yf ⟨d,.mkFn f a b,none,nm⟩ st ub K=K (st.setT d (.fn f (a.map (ye E st.tm)) (b.map (ye E st.tm)))) (ub+64):=by rw[jR _ rfl rfl];simp only[yS,WV,jbb]
def jwh {z:List V}{ps:List (Nat×Nat×A)}:jB E Yf ⟨d,.build z ps,none,nm⟩ st ub K=wpV ((fill z (JB (ye E st.tm) ps)).map .agg) λv=>K (st.setT d v) (ub+64):=by rw[jR _ rfl rfl];simp only[yS,jT,jew,jbb]
def jtg {q:LK}{z:V}{a:Bool}{m k:A}:jB E Yf ⟨d,.lookup q z a m k,none,nm⟩ st ub K=wpV (Yc st.ob q z a (ye E st.tm m) (ye E st.tm k)) λv=>K (st.setT d v) (ub+64):=by
 refine X0 rfl rfl λc=>?_;simp only[yS,Yc];generalize ye E st.tm m=vm;generalize ye E st.tm k=vk;cases Qz q vk with
 |false=>rfl
 |true=>
  simp only[zd];cases vm<;>first|rfl|skip
  rename_i l u;simp only;cases jY st.ob l u with
  |none=>rfl
  |some b=>
   simp only[ap];cases yM q vk b with
   |none=>rfl
   |some r=>cases r<;>rfl
def jrm (E:Env) (nm:Bool) (f:FuncId) (vs:List V):Prop:=E.sh nm f=false/\(vs.all λv=>v.strip.pureTop)=true
def jlk (vs:List V):(vs.map V.strip).all V.pureTop=vs.all λv=>v.strip.pureTop:=by rw[dG];rfl
def j1t {f:FuncId}{xs:List A}(h:jrm E nm f (xs.map (ye E st.tm))/\∃v,Ev E f ((xs.map (ye E st.tm)).map V.strip) v/\wpD (Xt ub v) λa=>K (st.app d a) (ub+64)):jB E Yf ⟨d,.call f xs,none,nm⟩ st ub K:=by
 obtain⟨⟨i,g⟩,v,e,a,b,j⟩:=h;have c:(xs.all λx=>(ye E st.tm x).strip.pureTop)=true:=by rw[dG]at g;exact g
 have k:jC E nm (ye E st.tm) (.call f xs)=none:=by simp only[jC,i,c,cp,di,zd]
 simp only[jB,yJ,jj,k,jbd];refine⟨by rw[dG];exact c,v,?_,a,b,j⟩;rw[dl]at e;exact e
def jwe {q:A}{xs:List A}{f:FuncId}{first captured:List V}(c:ye E st.tm q=.fn (.func f) first captured)
 (h:jrm E nm f (first++xs.map (ye E st.tm)++captured)/\∃v,Ev E f ((first++xs.map (ye E st.tm)++captured).map V.strip) v/\wpD (Xt ub v) λa=>K (st.app d a) (ub+64)):jB E Yf ⟨d,.callV q xs,none,nm⟩ st ub K:=by
 obtain⟨⟨i,e⟩,v,g,a,b,j⟩:=h;have k:jC E nm (ye E st.tm) (.callV q xs)=none:=by simp only[jC,c,i,e,cp,di,zd]
 simp only[jB,yJ,jj,c,k,jbd];exact⟨f,first,captured,rfl,by rw[jlk];exact e,v,g,a,b,j⟩
end
attribute [simp] j7y j2j Yu jo0 j7z j70 j71 j72
 jo1 JU jw6 j73 jkd j74 j75 j16 j19 j17 j18 j2a j2b j2c eval_t eval_c jub jdx j81 jqq jqr jJ jb5 jbb
@[simp] theorem binV_add (k:IntKind) (a b:Int):YN .add (.int k a) (.int k b)=some (.int k (k.wrap (a+b))):=by simp[YN,Xb]
@[simp] theorem binV_sub (k:IntKind) (a b:Int):YN .sub (.int k a) (.int k b)=some (.int k (k.wrap (a-b))):=by simp[YN,Xb]
@[simp] theorem binV_mul (k:IntKind) (a b:Int):YN .mul (.int k a) (.int k b)=some (.int k (k.wrap (a*b))):=by simp[YN,Xb]
@[simp] theorem binV_quo (k:IntKind) (a b:Int):YN .quo (.int k a) (.int k b)=if b=0 then none else some (.int k (k.wrap (a.tdiv b))):=by simp[YN,Xb]
@[simp] theorem binV_rem (k:IntKind) (a b:Int):YN .rem (.int k a) (.int k b)=if b=0 then none else some (.int k (a.tmod b)):=by simp[YN,Xb]
@[simp] theorem binV_lss (k:IntKind) (a b:Int):YN .lss (.int k a) (.int k b)=some (.bool (decide (a<b))):=by simp[YN,Xb]
@[simp] theorem binV_leq (k:IntKind) (a b:Int):YN .leq (.int k a) (.int k b)=some (.bool (decide (a<=b))):=by simp[YN,Xb]
@[simp] theorem binV_gtr (k:IntKind) (a b:Int):YN .gtr (.int k a) (.int k b)=some (.bool (decide (b<a))):=by simp[YN,Xb]
@[simp] theorem binV_geq (k:IntKind) (a b:Int):YN .geq (.int k a) (.int k b)=some (.bool (decide (b<=a))):=by simp[YN,Xb]
@[simp] theorem binV_eql (k:IntKind) (a b:Int):YN .eql (.int k a) (.int k b)=some (.bool (a==b)):=by simp[YN,Xb]
@[simp] theorem binV_neq (k:IntKind) (a b:Int):YN .neq (.int k a) (.int k b)=some (.bool (a != b)):=by simp[YN,Xb]
@[simp] theorem binV_seql (a b:List UInt8):YN .eql (.str a) (.str b)=some (.bool (a==b)):=by simp[YN,jl0]
@[simp] theorem binV_sneq (a b:List UInt8):YN .neq (.str a) (.str b)=some (.bool (!(a==b))):=by simp[YN,jl0]
@[simp] theorem unV_not (b:Bool):unV .not (.bool b)=some (.bool (!b)):=rfl
@[simp] theorem lenSlV_sl (t:Option (Nat×Nat)) (b:Bool) (n:Nat) (cs:List V):QV (.sl t b n cs)=some (.int .i64 n):=rfl
@[simp] theorem lenSlV_osl (a b c n d:Nat):QV (.osl a b c n d)=some (.int .i64 n):=rfl
@[simp] theorem j84 (s:List UInt8):jk0 (.str s)=some (.int .i64 s.length):=rfl
@[simp] theorem JF (sz:Nat) (t:Option (Nat×Nat)) (b:Bool) (n:Nat) (cs:List V) (k:IntKind) (i:Int):ju sz (.sl t b n cs) (.int k i)=if 0<=i/\i<n/\cs.length=n*sz then some (.eptr cs (i.toNat*sz)) else none:=rfl
@[simp] theorem pick1_none (cs:List V) (off:Nat):Xz none cs off=cs[off]?:=rfl
@[simp] theorem j6o (i:Nat) (vs:List V):jfc i (.tup vs)=vs[i]?:=rfl
def V.flat:V->Bool
 | .bool _|.int ..|.str _|.nilptr|.nilmap|.nilfn|.nilif=>true
 | .sl t _ _ _=>t.isNone
 |_=>false
def jbu {st:St}{keep:Bool}{i:Nat}{v:V}(h:v.flat=true):XD st keep i v=some v:=by
 cases v with
 |sl t a n cs=>cases t with
  |none=>rfl
  |some t=>cases h
 |_=>first|rfl|cases h
def jg4 {v:V}(h:v.flat=true):v.toks=[]:=by
 cases v with
 |sl t a n cs=>cases t with
  |none=>rfl
  |some t=>cases h
 |_=>first|rfl|cases h
def W0 {st:St}(h:st.df=[]):st.noDf=st:=by unfold St.noDf;simp only[h]
def WB {st:St}(h:st.df=[]):j6w st=true:=by unfold j6w;simp only[h];rfl
def j5 {n:Nat}{st:St}{v:V}(a:st.df=[]) (h:st.tm n=v) (b:v.flat=true):jc2 [.t n] (.ret,st)=some v:=by simp only[jc2,WB a,W0 a,zd,bP,gx,jv,h];simp[WQ,Je,jbu b,jg4 b,yH]
def Jx {n m:Nat}{st:St}{v u:V}(b:st.df=[]) (h:st.tm n=v) (d:st.tm m=u) (c:v.flat=true) (a:u.flat=true):jc2 [.t n,.t m] (.ret,st)=some (.tup [v,u]):=by simp only[jc2,WB b,W0 b,zd,bP,gx,jv,h,d];simp[WQ,Je,jbu c,jbu a,jg4 c,jg4 a,yH]
@[simp] theorem retA_bool (ub:Nat) (b:Bool):Xt ub (.bool b)=some { v:=.bool b }:=rfl
@[simp] theorem retA_int (ub:Nat) (k:IntKind) (b:Int):Xt ub (.int k b)=some { v:=.int k b }:=rfl
@[simp] theorem retA_str (ub:Nat) (s:List UInt8):Xt ub (.str s)=some { v:=.str s }:=rfl
@[simp] theorem retA_int2 (ub:Nat) (k c:IntKind) (b a:Int):Xt ub (.tup [.int k b,.int c a])=some { v:=.tup [.int k b,.int c a] }:=rfl
@[simp] theorem j8e (ub:Nat) (nl:Bool) (n:Nat) (cs:List V):Xt ub (.sl none nl n cs)=some { v:=.sl none nl n cs }:=rfl
def jwg {E:Env}{Yf:YF}{st:St}{ub:Nat}{K:St->Nat->Prop}{d:Option Nat}{nm:Bool}{f:FuncId}{xs:List A}{vs:List V}{v:V}(a:xs.map (ye E st.tm)=vs) (e:E.sh nm f=false) (hp:(vs.all λv=>v.strip.pureTop)=true)
 (c:Ev E f (vs.map V.strip) v) (h:wpD (Xt ub v) λb=>K (st.app d b) (ub+64)):jB E Yf ⟨d,.call f xs,none,nm⟩ st ub K :=
 j1t ⟨by rw[a];exact⟨e,hp⟩,v,by rw[a];exact c,h⟩
def C.one:C->Bool
 | .region ops=>ops.all λo=>o.op.next?.isNone
 | .pin o _=>o.op.next?.isNone
 | .seq a b|.cond _ a b=>a.one&&b.one
 | .block _ a|.loop a=>a.one
 |_=>true
def Single {α:Type}(o:Option (List α)):Prop:=∀l,o=some l->∃x,l=[x]
def Single.bindL {d e:Type}{m:Option (List d)}{f:d->Option (List e)}(g:Single m) (i:∀a,Single (f a)):Single (bindL m f):=by
 intro l h;cases b:m with
 |none=>rw[b]at h;cases h
 |some c=>obtain⟨a,rfl⟩:=g c b;rw[b]at h;exact i a l h
def Single.map {d e:Type}{m:Option (List d)}{f:d->e}(g:Single m):Single (m.map λl=>l.map f):=by
 intro l h;cases b:m with
 |none=>rw[b]at h;cases h
 |some c=>obtain⟨a,rfl⟩:=g c b;rw[b]at h;cases h;exact⟨f a,rfl⟩
def Single.none {a:Type}:Single (none:Option (List a)):=λ_ h=>by cases h
def Single.some {a:Type}(x:a):Single (some [x]):=λ_ h=>⟨x,by cases h;rfl⟩
def Single.opt {b c:Type}{m:Option b}{f:b->c}:Single (m.map λa=>[f a]):=by
 intro l h;cases m with
 |none=>cases h
 |some a=>cases h;exact⟨f a,rfl⟩
section
variable {E:Env}{Yf:YF}
def jq4 {c:Callers}(i:∀f a ob d e b u,Single (c.s f a ob d e b u)) {o:AOpr}{st:St}{ub:Nat}(h:o.op.next?.isNone=true):Single (jec E c o st ub):=by
 have g:o.op.next? = .none:=by simpa using h
 unfold jec;split;split;exact Single.opt;split;split;exact Single.map (i _ _ _ _ _ _ _);exact Single.opt;rw[g];exact Single.opt;exact Single.some _;exact Single.none
def jrt {c:Callers}(d:∀f a ob e g b u,Single (c.s f a ob e g b u)):∀{ops:List AOpr}{st:St}{ub:Nat},(ops.all λo=>o.op.next?.isNone)=true->Single (jkp E c ops st ub)
 |[],_,_,_=>Single.some _
 |o::r,st,ub,h=>by simp only[bH,ab]at h;exact Single.bindL (jq4 d h.1) λx=>jrt d h.2
def jna {body:St->Outs}(a:∀st,Single (body st)):∀(n:Nat) (st:St),Single (jcs body n st)
 |0,_=>Single.none
 |n+1,st=>Single.bindL (a st) λx=>by obtain⟨e,s⟩:=x;cases e;exact jna a n s;exact Single.some _;exact Single.some _
def j0v {d:Y->Callers}(t:∀y f a ob w v b u,Single ((d y).s f a ob w v b u)) {y:Y}{N:Nat}:∀{c:C}{st:St},c.one=true->Single (jh E d y N c st):=by
 intro c;induction c with
 |skip=>intro st _;exact Single.some _
 |ret=>intro st _;exact Single.some _
 |exit i=>intro st _;exact Single.some _
 |stuck=>intro st _;exact Single.none
 |region k=>intro st h;simp only[jh];exact Single.map (jrt (t y) h)
 |pin o fs=>intro st h;simp only[jh];refine Single.bindL (jq4 (t y) h) λx=>?_;intro l h;obtain⟨p,_,h⟩:=yc h;split at h;cases h;exact⟨_,rfl⟩;cases h
 |draw k free=>
  intro st _ l h;simp only[jh]at h;cases n:Yg E (d y) k st st.nx with
  |none=>rw[n]at h;cases h
  |some p=>rw[n,ap]at h;split at h;cases h;exact⟨_,rfl⟩;cases h
 |seq a b j g=>intro st h;simp only[C.one,ab]at h;simp only[jh];refine Single.bindL (j h.1) λx=>?_;obtain⟨e,s⟩:=x;cases e;exact g h.2;exact Single.some _;exact Single.some _
 |cond q a b j g=>intro st h;simp only[C.one,ab]at h;simp only[jh];split;exact j h.1;exact g h.2;exact Single.none
 |block i a m=>intro st h;simp only[jh];exact Single.map (m h)
 |loop a m=>intro st h;simp only[jh];exact jna (λs=>m h) N st
 |rangeFunc f z a b=>intro st _ l h;simp only[jh]at h;split at h;simp only[dU]at h;obtain⟨r,_,h⟩:=h;split at h;split at h;cases h;exact⟨_,rfl⟩;cases h;cases h;cases h
def jqi (c:∀f,E.mn f=false):∀(n:Nat) (y:Y) (f a ob tk ro b u),Single ((yK E n y).s f a ob tk ro b u)
 |0,_,_,_,_,_,_,_,_=>Single.none
 |n+1,y,f,a,ob,tk,ro,b,u=>by intro l h;simp only[yK,c,ah,zc]at h;split at h;obtain⟨_,_,h⟩:=yc h;obtain⟨_,_,h⟩:=yc h;obtain⟨x,_,rfl⟩:=yh h;exact⟨x,rfl⟩;split at h;obtain⟨x,_,rfl⟩:=yh h;exact⟨x,rfl⟩;obtain⟨_,_,h⟩:=yc h;obtain⟨_,_,h⟩:=yc h;split at h;obtain⟨x,_,rfl⟩:=yh h;exact⟨x,rfl⟩;cases h
def jmq {c:C}{st:St}{Q:Ex->St->Prop}(e:c.one=true) (h:wpC E Yf c st Q) (b:∀f,E.mn f=false):∃n x,jh E (yK E n) (Yf.y n) n c st=some [x]/\Q x.1 x.2:=by obtain⟨n,l,a,_,d⟩:=j65 h;obtain⟨x,rfl⟩:=j0v (jqi b n) e l a;exact⟨n,x,a,d x (ag.2 rfl)⟩
def EvO_wp {f:FuncId}{af:AF}{args:List V}{ob:ZO}{tk:Nat->Bool}{base ub:Nat}{r:V}(a:E.fs f=some af)
 (h:wpC E YU af.body (XA args ob (λ_=>false) ub base ub) λe s=>jc2 af.res (e,s)=some r) (g:E.fz f=false:=by rfl):EvO E f args ob tk base ub r:=by
 obtain⟨n,l,d,b,c⟩:=j65 h;refine⟨n+1,?_⟩;simp only[yK,a,ap,g,ah,zc];rw[show jh E (yK E n) noY n af.body (XA args ob (λ_=>false) ub base ub)=some l from d];exact jkr b c
def jlp {y:Nat->Y}{f:FuncId}{args:List V}{ob:ZO}{tk:Nat->Bool}{ro base ub:Nat}{r:V×(ZO)×(Nat->Bool)×Nat}{m:Option FuncId}(b:E.srt f=some m) (a:jtx m ob tk ro ub args=some r) (c:E.tw f=false:=by rfl):EvS E y f args ob tk ro base ub r:=by refine⟨1,?_⟩;simp only[yK,c,b,ah,zc,zd,a,aU]
def JI {f:FuncId}{af:AF}{args:List V}{ob:ZO}{tk:Nat->Bool}{ro base ub:Nat}{P:V×(ZO)×(Nat->Bool)×Nat->Prop}(b:E.fs f=some af) (j:af.body.one=true)
 (h:wpC E Yf af.body (XA args ob tk ro base ub) λe s=>∃r,endS af.res (e,s)=some r/\P r) (k:E.tw f=false:=by rfl) (d:E.srt f=none:=by rfl) (a:∀f,E.mn f=false:=by intro _;rfl):∃r,EvS E Yf.y f args ob tk ro base ub r/\P r:=by
 obtain⟨n,x,g,r,c,i⟩:=jmq j h a;refine⟨r,⟨n+1,?_⟩,i⟩;simp only[yK,b,ap,k,d,ah,zc];rw[jp (XW n n zK) zK af.body _ _ (Yf.mono (Nat.le_succ n)) _ _ g];simp only[ap,a,ah,zc,c,aU]
def jik (E:Env) (Yf:YF) (asg bd:C) (st:St) (ps:List Nat) (l u:Nat):YF where
 y n:=jbe (jh E (yK E n) (Yf.y n) n asg) (jh E (yK E n) (Yf.y n) n bd) st ps l u
 mono h:=jf5 (λs=>jp (Jz _ _ h) h asg _ _ (Yf.mono h) s) (λs=>jp (Jz _ _ h) h bd _ _ (Yf.mono h) s) st ps l u
def QB (l u:Nat) (e:Ex) (s:St):V×(ZO)×(Nat->Bool)×Nat:=match e with
 | .nrm=>(.bool true,upd s.ob l (some ⟨u,.loop .ready none⟩),s.tk,s.nx)
 |e=>(.bool false,upd s.ob l (some ⟨u,.loop .done (some e)⟩),s.tk,s.nx)
def jhu {asg bd:C}{st:St}{ps:List Nat}{l u:Nat}{xs:List V}{ob:ZO}{tk:Nat->Bool}{ro ub:Nat}{P:V×(ZO)×(Nat->Bool)×Nat->Prop}(t:xs.length=ps.length) (i:ro<=u) (j:ob l=some ⟨u,.loop .ready none⟩)
 (y:asg.one=true) (w:bd.one=true)
 (h:wpC E Yf asg { tm:=jfw st.tm ps xs,ob,tk,ro,nx:=ub,fb:=st.fb,df:=[] } λe d=>e=.nrm/\d.ob l=some ⟨u,.loop .ready none⟩ /\
  wpC E Yf bd { d with ob:=upd d.ob l (some ⟨u,.loop .busy none⟩) } λe g=>g.ob l=some ⟨u,.loop .busy none⟩/\P (QB l u e g)) (k:∀f,E.mn f=false:=by intro _;rfl):∃r,EvY (jik E Yf asg bd st ps l u) l u xs ob tk ro ub r/\P r:=by
 obtain⟨n,⟨e,d⟩,z,p,a,o⟩:=jmq y h k;simp only at p a o;subst p;obtain⟨m,⟨e,g⟩,v,b,q⟩:=jmq w o k;simp only at b q;refine⟨QB l u e g,⟨max n m,?_⟩,q⟩;have s:=jp (Jz (E:=E) n (max n m) zO) (show n<=max n m by omega) asg _ _ (Yf.mono (show n<=max n m by omega)) _ _ z;have x:=jp (Jz (E:=E) m (max n m) zO) (show m<=max n m by omega) bd _ _ (Yf.mono (show m<=max n m by omega)) _ _ v;have c:Nat.ble ro u=true:=bY▸i;simp only[jik,jbe,t,c,and_self,zd,j,s,a,x,b];cases e<;>rfl
def Q5 {f:A}{ps:List Nat}{asg bd:C}{st:St}{Q:Ex->St->Prop}{g:FuncId}{first captured:List V}(i:ye E st.tm f=.fn (.func g) first captured)
 (h:∃r,EvS E (jik E Yf asg bd st ps (2*st.nx+1) st.nx).y g (first++[.yld (2*st.nx+1) st.nx]++captured)
  (upd (upd st.ob (2*st.nx+3) (some ⟨st.nx+1,.dfr⟩)) (2*st.nx+1) (some ⟨st.nx,.loop .ready none⟩)) st.tk st.ro ((st.fb+1023)*1024) (st.nx+64) r /\
  ∃s a,r.2.1 (2*st.nx+1)=some ⟨st.nx,.loop s a⟩/\s≠.busy/\st.ro<=st.nx /\
   Q (a.getD .nrm) { st with ob:=λk=>if Nat.beq (2*st.nx+1) k then none else r.2.1 k,tk:=r.2.2.1,nx:=r.2.2.2,df:=(2*st.nx+3,st.nx+1)::st.df }):wpC E Yf (.rangeFunc f ps asg bd) st Q:=by
 obtain⟨⟨v,ob,tk,o⟩,⟨n,l⟩,s,a,e,j,m,p⟩:=h;have b:Nat.ble st.ro st.nx=true:=bY▸m;refine⟨n,[(a.getD .nrm,_)],?_,cQ _ _,λx d=>by rw[ag]at d;subst d;exact p⟩;simp only[jh,i];have c:(yK E n (jbe (jh E (yK E n) (Yf.y n) n asg) (jh E (yK E n) (Yf.y n) n bd) st ps (2*st.nx+1) st.nx)).s g (first++[.yld (2*st.nx+1) st.nx]++captured)
  (upd (upd st.ob (2*st.nx+3) (some ⟨st.nx+1,.dfr⟩)) (2*st.nx+1) (some ⟨st.nx,.loop .ready none⟩)) st.tk st.ro ((st.fb+1023)*1024) (st.nx+64)=some [(v,ob,tk,o)]:=l
 simp only at e;simp only[c,only,ap,e,j,ne_eq,not_false_eq_true,b,and_self,zd]
def jlt {q:A}{xs:List A}{st:St}{ub:Nat}{K:St->Nat->Prop}{d:Option Nat}{nm:Bool}{l u:Nat}(a:ye E st.tm q=.yld l u)
 (h:∃r,EvY Yf l u (xs.map (ye E st.tm)) st.ob st.tk st.ro ub r/\K { st with tm:=put st.tm d r.1,ob:=r.2.1,tk:=r.2.2.1 } r.2.2.2):jB E Yf ⟨d,.callV q xs,none,nm⟩ st ub K:=by
 simp only[jB,yJ,jj,a];exact h
def jwf {f:FuncId}{xs:List A}{st:St}{ub:Nat}{K:St->Nat->Prop}{d:Option Nat}{nm:Bool}(g:E.sh nm f=false) (hp:((xs.map (ye E st.tm)).all λv=>v.strip.pureTop)=false)
 (h:∃v,EvO E f (xs.map (ye E st.tm)) st.ob st.tk ((st.fb+d.getD 0+1)*1024) ub v/\wpD (Xt ub v) λa=>K (st.app d a) (ub+64)):jB E Yf ⟨d,.call f xs,none,nm⟩ st ub K:=by
 have b:(xs.all λx=>(ye E st.tm x).strip.pureTop)=false:=by rw[dG]at hp;exact hp
 have c:jC E nm (ye E st.tm) (.call f xs)=some (f,xs.map (ye E st.tm)):=by simp only[jC,g,b,cp,bF,ah,zc]
 simp only[jB,yJ,jj,c];obtain⟨v,i,a,e,j⟩:=h;exact .inr ⟨g,v,i,a,e,j⟩
end
def jI (d:Option Nat) (nm:Bool) (fb ub:Nat):Nat:=cond nm (2*ub+1) (2*(fb+d.getD 0))
def jyp (d fb ub:Nat):jI (some d) false fb ub=2*(fb+d):=rfl
def Yz (d:Option Nat) (fb ub:Nat):jI d true fb ub=2*ub+1:=rfl
def Jm (d:Option Nat) (op:AOp) (nm:Bool) (fb ub:Nat):AOpr.name ⟨d,op,none,nm⟩ fb ub=jI d nm fb ub:=by cases nm<;>rfl
def jdf (st:St) (sz:Nat) (x:V) (K:Delta->Prop):V->Prop
 | .ptr l u off=>∃cs,j0 st.ob l u=some cs/\st.ro<=u/\x.cells.length=sz/\off+sz<=cs.length/\x.cells.all V.leaf=true/\K { v:=js,obs:=[(l,⟨u,.cells (j6 cs off x.cells)⟩)] }
 |_=>False
def jol (st:St) (sz:Nat) (x:V) (K:Delta->Prop) (l u off:Nat):jdf st sz x K (.ptr l u off)=∃cs,j0 st.ob l u=some cs/\st.ro<=u/\x.cells.length=sz/\off+sz<=cs.length/\x.cells.all V.leaf=true/\K { v:=js,obs:=[(l,⟨u,.cells (j6 cs off x.cells)⟩)] }:=rfl
section
variable {E:Env}{Yf:YF}{st:St}{ub:Nat}{K:St->Nat->Prop}{d:Option Nat}{nm:Bool}
def jwi {z:List V}:jB E Yf ⟨d,.alloc z,none,nm⟩ st ub K=K (st.app d { v:=.ptr (jI d nm st.fb ub) ub 0,obs:=[(jI d nm st.fb ub,⟨ub,.cells z⟩)] }) (ub+64):=by rw[jR _ rfl rfl];simp only[yS,Jo,jJ,Jm]
def j7a {sz:Nat}{x:A}:jB E Yf ⟨d,.box sz x,none,nm⟩ st ub K=(((ye E st.tm x).cells.length=sz/\(ye E st.tm x).cells.all V.leaf=true)/\K (st.app d { v:=.ptr (jI d nm st.fb ub) ub 0,obs:=[(jI d nm st.fb ub,⟨ub,.cells (ye E st.tm x).cells⟩)] }) (ub+64)):=by rw[jR _ rfl rfl];simp only[yS,Jo,jfk,jJ,Jm]
def jwa {sz:Nat}{p x:A}:jB E Yf ⟨d,.store sz p x,none,nm⟩ st ub K=jdf st sz (ye E st.tm x) (λa=>K (st.app d a) (ub+64)) (ye E st.tm p):=by
 rw[jR _ rfl rfl];simp only[yS];generalize ye E st.tm p=vp;cases vp<;>simp only[jb5,jdf];rename_i l u off;cases j0 st.ob l u with
 |none=>simp[wpD]
 |some cs=>simp only[ap,jfk,jJ,ae,exists_eq_left',bY,and_assoc]
end
attribute [simp] jyp Yz jn3 app_tm0 app_ro app_nx app_fb app_df app_ob jf XK
@[simp] theorem cells_agg (cs:List V):(V.agg cs).cells=cs:=rfl
@[simp] theorem cells_bool (b:Bool):(V.bool b).cells=[.bool b]:=rfl
@[simp] theorem cells_int (k:IntKind) (n:Int):(V.int k n).cells=[.int k n]:=rfl
@[simp] theorem cells_str (s:List UInt8):(V.str s).cells=[.str s]:=rfl
@[simp] theorem cells_sl (t:Option (Nat×Nat)) (b:Bool) (n:Nat) (cs:List V):(V.sl t b n cs).cells=[.sl t b n cs]:=rfl
@[simp] theorem cells_iface (t:TypeId) (v:V):(V.iface t v).cells=[.iface t v]:=rfl
@[simp] theorem leaf_bool (b:Bool):(V.bool b).leaf=true:=rfl
@[simp] theorem leaf_int (k:IntKind) (n:Int):(V.int k n).leaf=true:=rfl
@[simp] theorem leaf_str (s:List UInt8):(V.str s).leaf=true:=rfl
@[simp] theorem leaf_sl (t:Option (Nat×Nat)) (b:Bool) (n:Nat) (cs:List V):(V.sl t b n cs).leaf=true:=rfl
@[simp] theorem leaf_iface (t:TypeId) (v:V):(V.iface t v).leaf=true:=rfl
@[simp] theorem leaf_nilif:V.nilif.leaf=true:=rfl
@[simp] theorem cells_nilif:V.nilif.cells=[.nilif]:=rfl
@[simp] theorem j1i (off l u o:Nat):Wv off (.ptr l u o)=some (.ptr l u (o+off)):=rfl
@[simp] theorem j0f (off:Nat) (cs:List V) (o:Nat):Wv off (.eptr cs o)=some (.eptr cs (o+off)):=rfl
@[simp] theorem Wo (k:Nat) (cs:List V) (off:Nat):Xz (some k) cs off=if off+k<=cs.length then some (.agg ((cs.drop off).take k)) else none:=rfl
@[simp] theorem splice_all (cs vs:List V) (h:vs.length=cs.length):j6 cs 0 vs=vs:=by simp[j6,<- h]
def kOps (E:Env) (Yf:YF) (r:List AOpr) (K:St->Prop):St->Nat->Prop:=λst ub=>QT E Yf r st ub K
def kNrm (Q:Ex->St->Prop):St->Prop:=λs=>Q .nrm s
def juz (E:Env) (Yf:YF) (b:C) (Q:Ex->St->Prop):Ex->St->Prop:=λe s=>match e with
 | .nrm=>wpC E Yf b s Q
 |e=>Q e s
def kBlk (i:Nat) (Q:Ex->St->Prop):Ex->St->Prop:=λe s=>match e with
 | .exit j=>if j=i then Q .nrm s else Q (.exit j) s
 |e=>Q e s
def jbh (K:St->Nat->Prop) (st:St) (d:Option Nat) (ub:Nat):V->Prop:=λv=>K (st.setT d v) (ub+64)
def QW (K:St->Nat->Prop) (st:St) (d:Option Nat) (ub:Nat):Delta->Prop:=λδ=>K (st.app d δ) (ub+64)
def kIf (E:Env) (Yf:YF) (a b:C) (st:St) (Q:Ex->St->Prop):Bool->Prop
 |true=>wpC E Yf a st Q
 |false=>wpC E Yf b st Q
def kGd (E:Env) (Yf:YF) (o:AOpr) (st:St) (ub:Nat) (K:St->Nat->Prop):Bool->Prop
 |true=>jB E Yf o st ub K
 |false=>K (st.setT o.dst js) ub
def jzp (I:Nat->St->Prop) (k:Nat) (Q:Ex->St->Prop):Ex->St->Prop:=λe s=>match e with
 | .nrm=>∃j,j<k/\I j s
 |e=>Q e s
def j6e (res:List ARes) (r:V):Ex->St->Prop:=λe s=>jc2 res (e,s)=some r
def ifK:V->(Bool->Prop)->Prop
 | .bool c,k=>k c
 |_,_=>False
def gdK:V->Bool->(Bool->Prop)->Prop
 | .bool c,b,k=>k (c==b)
 | .tup [],_,k=>k false
 |_,_,_=>False
section
variable {E:Env}{Yf:YF}{st:St}{ub:Nat}{K:St->Nat->Prop}{d:Option Nat}{nm:Bool}{Q:Ex->St->Prop}
def j39 {r:List AOpr}{K:St->Prop}:kOps E Yf r K st ub=QT E Yf r st ub K:=zj bR
def j4a:kNrm Q st=Q .nrm st:=zj bR
def jk2 {b:C}:juz E Yf b Q .nrm st=wpC E Yf b st Q:=zj bR
def jzb {b:C}{i:Nat}:juz E Yf b Q (.exit i) st=Q (.exit i) st:=zj bR
def jsd {b:C}:juz E Yf b Q .ret st=Q .ret st:=zj bR
def j4k {i:Nat}:kBlk i Q .nrm st=Q .nrm st:=zj bR
def jnj {i j:Nat}:kBlk i Q (.exit j) st=if j=i then Q .nrm st else Q (.exit j) st:=zj bR
def j4j {i:Nat}:kBlk i Q .ret st=Q .ret st:=zj bR
def j3t {v:V}:jbh K st d ub v=K (st.setT d v) (ub+64):=zj bR
def jcx {δ:Delta}:QW K st d ub δ=K (st.app d δ) (ub+64):=zj bR
def j4b {a b:C}:kIf E Yf a b st Q true=wpC E Yf a st Q:=zj bR
def jzq {a b:C}:kIf E Yf a b st Q false=wpC E Yf b st Q:=zj bR
def j4c {o:AOpr}:kGd E Yf o st ub K true=jB E Yf o st ub K:=zj bR
def jzr {o:AOpr}:kGd E Yf o st ub K false=K (st.setT o.dst js) ub:=zj bR
def jzo {I:Nat->St->Prop}{k:Nat}:jzp I k Q .nrm st=∃j,j<k/\I j st:=zj bR
def ju3 {I:Nat->St->Prop}{k i:Nat}:jzp I k Q (.exit i) st=Q (.exit i) st:=zj bR
def jzn {I:Nat->St->Prop}{k:Nat}:jzp I k Q .ret st=Q .ret st:=zj bR
def j4n {c:Bool}{k:Bool->Prop}:ifK (.bool c) k=k c:=zj bR
def j4q {c b:Bool}{k:Bool->Prop}:gdK (.bool c) b k=k (c==b):=zj bR
def j4p {b:Bool}{k:Bool->Prop}:gdK js b k=k false:=zj bR
def j98 {b:Bool}{k:Bool->Prop}:gdK (.tup []) b k=k false:=zj bR
def j9z:wpC E Yf .skip st Q=Q .nrm st:=zj bR
def kC_ret:wpC E Yf .ret st Q=Q .ret st:=zj bR
def j90 {i:Nat}:wpC E Yf (.exit i) st Q=Q (.exit i) st:=zj bR
def j38 {K:St->Prop}:QT E Yf [] st ub K=K (st.setN ub):=zj bR
def jz3 {ops:List AOpr}:wpC E Yf (.region ops) st Q=QT E Yf ops st st.nx (kNrm Q):=zj bR
def j6g {a b:C}:wpC E Yf (.seq a b) st Q=wpC E Yf a st (juz E Yf b Q):=zj bR
def jsi {i:Nat}{a:C}:wpC E Yf (.block i a) st Q=wpC E Yf a st (kBlk i Q):=zj bR
def j92 {c:A}{a b:C}:wpC E Yf (.cond c a b) st Q=ifK (ye E st.tm c) (kIf E Yf a b st Q):=by rw[j1z];cases h:ye E st.tm c<;>simp[wpIf,ifK];rename_i t;cases t<;>simp[kIf]
def jzm {o:AOpr}{r:List AOpr}{K:St->Prop}:QT E Yf (o::r) st ub K=jB E Yf o st ub (kOps E Yf r K):=zj bR
def jps {op:AOp}{t:Nat}{b:Bool}:jB E Yf ⟨d,op,some (t,b),nm⟩ st ub K=gdK (st.tm t) b (kGd E Yf ⟨d,op,none,nm⟩ st ub K):=by
 rw[jls];cases h:st.tm t with
 |bool c=>cases c<;>cases b<;>simp[jbp,gdK,kGd]
 |tup l=>cases l<;>simp[jbp,gdK,kGd]
 |_=>simp[jbp,gdK]
def kS_mov {x:A}:jB E Yf ⟨d,.mov x,none,nm⟩ st ub K=jbh K st d ub (ye E st.tm x):=j69
def j36 {z:List V}:jB E Yf ⟨d,.alloc z,none,nm⟩ st ub K=QW K st d ub { v:=.ptr (jI d nm st.fb ub) ub 0,obs:=[(jI d nm st.fb ub,⟨ub,.cells z⟩)] }:=jwi
def kS_box {sz:Nat}{x:A}:jB E Yf ⟨d,.box sz x,none,nm⟩ st ub K=(((ye E st.tm x).cells.length=sz/\(ye E st.tm x).cells.all V.leaf=true)/\QW K st d ub { v:=.ptr (jI d nm st.fb ub) ub 0,obs:=[(jI d nm st.fb ub,⟨ub,.cells (ye E st.tm x).cells⟩)] }):=j7a
def j3u {sz:Nat}{p x:A}:jB E Yf ⟨d,.store sz p x,none,nm⟩ st ub K=jdf st sz (ye E st.tm x) (QW K st d ub) (ye E st.tm p):=jwa
def j31 {t:TypeId}{x:A}:jB E Yf ⟨d,.iface t x,none,nm⟩ st ub K=jbh K st d ub (.iface t (ye E st.tm x)):=by rw[jR _ rfl rfl];simp only[yS,WV,jbb];rfl
def jlh (t:TypeId) (zero:V) (ok:Bool):V->Option V
 | .iface t' v=>if t'=t then some (if ok then .tup [v,.bool true] else v) else if ok then some (.tup [zero,.bool false]) else none
 | .nilif=>if ok then some (.tup [zero,.bool false]) else none
 |_=>none
def jzl {t:TypeId}{zero:V}{a:Bool}{x:A}:jB E Yf ⟨d,.assert t zero a x,none,nm⟩ st ub K=wpV (jlh t zero a (ye E st.tm x)) (jbh K st d ub):=by
 refine X0 rfl rfl λc=>?_;simp only[yS,jlh];generalize ye E st.tm x=vx;cases vx with
 |iface b v=>by_cases h:b=t<;>cases a<;>simp[h,one]
 |nilif=>cases a<;>rfl
 |_=>rfl
def j9g {f:Fn}{a b:List A}:jB E Yf ⟨d,.mkFn f a b,none,nm⟩ st ub K=jbh K st d ub (.fn f (a.map (ye E st.tm)) (b.map (ye E st.tm))):=j1q
def j9d {c a b:A}:jB E Yf ⟨d,.pick c a b,none,nm⟩ st ub K=wpV (j2z (ye E st.tm c) (ye E st.tm a) (ye E st.tm b)) (jbh K st d ub):=j1o
def kS_bin {op:BinOp}{x y:A}:jB E Yf ⟨d,.bin op x y,none,nm⟩ st ub K=wpV (YN op (ye E st.tm x) (ye E st.tm y)) (jbh K st d ub):=j7b
def kS_un {op:UnOp}{x:A}:jB E Yf ⟨d,.un op x,none,nm⟩ st ub K=wpV (unV op (ye E st.tm x)) (jbh K st d ub):=wpS_un
def kS_eq {neg:Bool}{k:EqK}{x y:A}:jB E Yf ⟨d,.eq neg k x y,none,nm⟩ st ub K=wpV (j1j st.ob neg k (ye E st.tm x) (ye E st.tm y)) (jbh K st d ub):=wpS_eq
def j9h {g:Option Nat}{x:A}:jB E Yf ⟨d,.load g x,none,nm⟩ st ub K=wpV (W3 st.ob g (ye E st.tm x)) (jbh K st d ub):=j1r
def jpw {x:A}:jB E Yf ⟨d,.nilCheck x,none,nm⟩ st ub K=wpV (jcq (ye E st.tm x)) (jbh K st d ub):=jlu
def jne {off:Nat}{x:A}:jB E Yf ⟨d,.fieldAddr off x,none,nm⟩ st ub K=wpV (Wv off (ye E st.tm x)) (jbh K st d ub):=jj5
def j32 {sz:Nat}{x i:A}:jB E Yf ⟨d,.idxSl sz x i,none,nm⟩ st ub K=wpV (ju sz (ye E st.tm x) (ye E st.tm i)) (jbh K st d ub):=jwd
def jzi {len sz:Nat}{x i:A}:jB E Yf ⟨d,.idxArr len sz x i,none,nm⟩ st ub K=wpV (Wf len sz (ye E st.tm x) (ye E st.tm i)) (jbh K st d ub):=jtl
def j9e {g:Option Nat}{off:Nat}{x:A}:jB E Yf ⟨d,.part g off x,none,nm⟩ st ub K=wpV (j8n g off (ye E st.tm x)) (jbh K st d ub):=j1p
def jzh {x i:A}:jB E Yf ⟨d,.idxStr x i,none,nm⟩ st ub K=wpV (jaa (ye E st.tm x) (ye E st.tm i)) (jbh K st d ub):=jtk
def jzg {g:Option Nat}{len sz:Nat}{x i:A}:jB E Yf ⟨d,.idxVal g len sz x i,none,nm⟩ st ub K=wpV (jbz g len sz (ye E st.tm x) (ye E st.tm i)) (jbh K st d ub):=jtj
def j3v {x:A}{lo hi:Option A}:jB E Yf ⟨d,.slStr x lo hi,none,nm⟩ st ub K=wpV (Y1 (lo.map (ye E st.tm)) (hi.map (ye E st.tm)) (ye E st.tm x)) (jbh K st d ub):=jwb
def j9c {sz:Nat}{x:A}{lo hi:Option A}:jB E Yf ⟨d,.slSl sz x lo hi,none,nm⟩ st ub K=wpV (Y5 sz (lo.map (ye E st.tm)) (hi.map (ye E st.tm)) (ye E st.tm x)) (jbh K st d ub):=j1n
def jze {x:A}:jB E Yf ⟨d,.lenStr x,none,nm⟩ st ub K=wpV (jk0 (ye E st.tm x)) (jbh K st d ub):=jth
def j30 {x:A}:jB E Yf ⟨d,.lenSl x,none,nm⟩ st ub K=wpV (QV (ye E st.tm x)) (jbh K st d ub):=jwc
def jzf {x:A}:jB E Yf ⟨d,.lenMap x,none,nm⟩ st ub K=wpV (jk1 st.ob (ye E st.tm x)) (jbh K st d ub):=jti
def ju2 {x:A}{i:Nat}:jB E Yf ⟨d,.extract x i,none,nm⟩ st ub K=wpV (jfc i (ye E st.tm x)) (jbh K st d ub):=jon
def j9i {k:IntKind}{x:A}:jB E Yf ⟨d,.conv k x,none,nm⟩ st ub K=wpV (Xy k (ye E st.tm x)) (jbh K st d ub):=j1s
def jzc {b:Bool}{xs:List A}:jB E Yf ⟨d,.minmax b xs,none,nm⟩ st ub K=wpV (jbx b (xs.map (ye E st.tm))) (jbh K st d ub):=jtf
def j35 {z:List V}{ps:List (Nat×Nat×A)}:jB E Yf ⟨d,.build z ps,none,nm⟩ st ub K=wpV ((fill z (JB (ye E st.tm) ps)).map .agg) (jbh K st d ub):=jwh
def jzd {q:LK}{z:V}{a:Bool}{m k:A}:jB E Yf ⟨d,.lookup q z a m k,none,nm⟩ st ub K=wpV (Yc st.ob q z a (ye E st.tm m) (ye E st.tm k)) (jbh K st d ub):=jtg
end
attribute [simp ↓] j9z kC_ret j90 jz3 j6g jsi j92 j38 jzm jps kS_mov j36 kS_box j3u j31 jzl j9g j9d kS_bin kS_un kS_eq j9h jpw jne j32 jzi j9e jzh jzg j3v j9c jze j30 jzf ju2 j9i jzc j35 jzd
attribute [simp ↓] j39 j4a jk2 jzb jsd j4k jnj j4j j3t jcx j4b jzq j4c jzr jzo ju3 jzn
attribute [simp] j4n j4q j4p j98 j67 j1m jfk j1y jol
def V.plain:V->Bool
 | .agg cs=>cs.all V.pureLeaf
 | .fn ..=>false
 |v=>v.pureLeaf
def YT {st:St}{keep:Bool}{i:Nat}{v:V}(h:v.pureLeaf=true):jw st keep i v=some v:=by
 cases v with
 |sl t a n cs=>cases t with
  |none=>rfl
  |some t=>cases h
 |_=>first|rfl|(simp[V.pureLeaf]at h;done)|(simp only[jw,Ja,h,zd])
def jqw {v:V}(h:v.pureLeaf=true):v.tok=[]:=by
 cases v with
 |sl t a n cs=>cases t with
  |none=>rfl
  |some t=>cases h
 |_=>first|rfl|(simp[V.pureLeaf]at h;done)
def jek {st:St}{keep:Bool}:∀{i:Nat}{cs:List V},cs.all V.pureLeaf=true->Xv st keep i cs=some cs
 |_,[],_=>rfl
 |i,c::cs,h=>by simp only[bH,ab]at h;simp[Xv,YT h.1,jek h.2]
def jxy {st:St}{keep:Bool}{i:Nat}{v:V}(h:v.plain=true):XD st keep i v=some v:=by
 cases v with
 |agg cs=>simp[XD,jek (show cs.all V.pureLeaf=true from h)]
 |fn=>cases h
 |_=>refine Eq.trans (b:=jw st keep i _) rfl (YT ?_);exact h
def jdp {v:V}(h:v.plain=true):v.toks=[]:=by
 cases v with
 |agg cs=>simp only[V.toks,fQ];intro x a;exact jqw (av.1 h x a)
 |fn=>cases h
 |sl t b n cs=>cases t with
  |none=>rfl
  |some t=>cases h
 |_=>first|rfl|cases h
def jcl {st:St}{keep:Bool}:∀{i:Nat}{l:List V},l.all V.plain=true->Je st keep i l=some l
 |_,[],_=>rfl
 |i,c::cs,h=>by simp only[bH,ab]at h;simp[Je,jxy h.1,jcl h.2]
def j7k:List V->V
 |[v]=>v
 |l=>.tup l
def jaz {res:List ARes}{st:St}{l:List V}(a:st.df=[]) (c:res.mapM (jv st)=some l) (b:l.all V.plain=true):jc2 res (.ret,st)=some (j7k l):=by
 have e:l.flatMap V.toks=[]:=by rw[fQ];intro x f;exact jdp (av.1 b x f)
 simp only[jc2,WB a,W0 a,zd,c,ap,WQ,e,yH,jcl b,zd];match l with
 |[]=>rfl
 |[v]=>rfl
 |v::u::l=>rfl
def JM {res:List ARes}{st:St}{r:V}{l:List V}(a:st.df=[]) (c:res.mapM (jv st)=some l) (b:l.all V.plain=true) (h:j7k l=r):j6e res r .ret st:=by subst h;exact jaz a c b
attribute [simp] fill JB
def jg1 {ub:Nat}{v:V}(h:v.pureLeaf=true):Y4 ub v=v:=by
 cases v with
 |sl t a n cs=>cases t with
  |none=>rfl
  |some t=>cases h
 |_=>rfl
def jg0 {ub:Nat}{v:V}(h:v.plain=true):Qa ub v=v:=by
 cases v with
 |agg cs=>
  have:cs.map (Y4 ub)=cs:=by
   conv=>rhs;rw[<- gh cs]
   exact dm λx a=>jg1 (av.1 h x a)
  simp only[Qa,this]
 |sl t b n cs=>exact jg1 h
 |_=>rfl
def JT {ub:Nat}{v:V}(h:v.plain=true):Xt ub v=some { v:=v }:=by
 have a:yx v=[]:=by
  cases v with
  |tup b=>cases h
  |_=>exact jdp h
 have c:ja9 ub v=v:=by
  cases v with
  |tup b=>cases h
  |undef=>cases h
  |_=>exact jg0 (ub:=ub) h
 simp[Xt,a,c]
def JW {ub:Nat}{l:List V}(h:l.all V.plain=true):Xt ub (.tup l)=some { v:=.tup l }:=by
 have c:yx (.tup l)=[]:=by simp only[yx,fQ];intro x a;exact jdp (av.1 h x a)
 have b:ja9 ub (.tup l)=.tup l:=by
  have:l.map (Qa ub)=l:=by
   conv=>rhs;rw[<- gh l]
   exact dm λx a=>jg0 (av.1 h x a)
  simp only[ja9,this]
 simp[Xt,c,b]
@[simp] theorem eqVV_struct (ob:ZO) (neg:Bool) (l:List LK) (a b:List V):j1j ob neg (.struct l) (.agg a) (.agg b)=(J7 l a b).map λb=>.bool (xor neg b):=rfl
attribute [simp] J7 Ww
def jQ {E:Env}{f:FuncId}{af:AF}{args:List V}{r:V}(a:E.fc f=some af) (h:wpC E YU af.body (ja6 args) (j6e af.res r)):Ev E f args r:=Ev_wp a h
def Yk {E:Env}{Yf:YF}{a:C}{Q:Ex->St->Prop}(I:Nat->St->Prop) {n:Nat}{st:St}(b:I n st) (c:∀k s,I k s->wpC E Yf a s (jzp I k Q)):wpC E Yf (.loop a) st Q :=
 j66 I b c
def Y9 {E:Env}{Yf:YF}{st:St}{ub:Nat}{K:St->Nat->Prop}{d:Option Nat}{nm:Bool}{f:FuncId}{xs:List A}{vs:List V}{v:V}(c:xs.map (ye E st.tm)=vs) (b:E.sh nm f=false) (hp:(vs.all λv=>v.strip.pureTop)=true)
 (a:Ev E f (vs.map V.strip) v) (h:wpD (Xt ub v) (QW K st d ub)):jB E Yf ⟨d,.call f xs,none,nm⟩ st ub K:=jwg c b hp a h
def AOp.plainOp:AOp->Bool
 | .call ..|.callV ..|.entry _|.nextMap _=>false
 |_=>true
def AOp.valOp:AOp->Bool
 | .mov _|.pick ..|.bin ..|.eq ..|.un ..|.build ..|.load ..|.nilCheck _|.fieldAddr ..|.idxSl ..|.idxArr ..|.part ..|.idxStr ..|.idxVal ..|.slStr ..|.slSl ..|.lenStr _|.lenSl _|.lenMap _|.extract ..|.mkFn ..|.lookup ..|.iface ..|.assert ..|.conv ..|.minmax ..=>true
 |_=>false
def kDr (E:Env) (r:List AOpr) (K:List FP->St->Prop):St->Nat->Prop:=λst ub=>jG E r st ub K
def kFp (f:FP) (K:List FP->St->Prop):List FP->St->Prop:=λfs s=>K (f::fs) s
def kDQ (free:List (Nat×Nat)) (Q:Ex->St->Prop):List FP->St->Prop:=λfs s=>Jc free fs=true/\jbw fs=true/\Q .nrm s
def kDGd (E:Env) (o:AOpr) (r:List AOpr) (st:St) (ub:Nat) (K:List FP->St->Prop):Bool->Prop
 |true=>jG E (o::r) st ub K
 |false=>jG E r (st.setT o.dst js) (ub+64) (kFp {} K)
def YW (E:Env) (r:List AOpr) (K:List FP->St->Prop) (ρ:A->V) (op:AOp) (st:St) (d:Option Nat) (ub:Nat):Delta->Prop:=λδ=>jG E r (st.app d δ) (ub+64) (kFp (Qe ρ op δ) K)
def jlz {e:FuncId->List V->Option V}{g:A->V}{ob:ZO}{tk:Nat->Bool}{ro f ub:Nat}{op:AOp}{δ:Delta}(h:op.valOp=true) (b:yS e g ob tk ro f ub op=some δ):∃v,δ={ v:=v }:=by
 have a:∀{o:Option V},o.bind one=some δ->∃v,δ={ v:=v }:=fun {o} c=>by
  cases o with
  |none=>cases c
  |some v=>cases c;exact⟨v,rfl⟩
 cases op<;>first|(cases h;done)|skip
 all_goals simp only[yS]at b
 all_goals first
  |exact a b
  |exact a (o:=some _) b
  |(repeat' split at b)<;>first|(cases b;done)|exact a b|exact a (o:=some _) b|skip
 all_goals (try simp only[dU]at b)
 all_goals first
  |(obtain⟨_,_,c⟩:=b;exact a (o:=some _) c)
  |skip
 all_goals
  obtain⟨_,_,x,_,c⟩:=b
  first|exact a (o:=some _) c|(rcases x with _|⟨_,_⟩<;>exact a (o:=some _) c)
def kPin (E:Env) (fs:List AOpr) (st:St) (Q:Ex->St->Prop):St->Nat->Prop:=λs ub=>jG E fs s ub λ_ s'=>WI fs st s'=true/\Q .nrm s'
def kPQ (fs:List AOpr) (st:St) (Q:Ex->St->Prop):List FP->St->Prop:=λ_ s'=>WI fs st s'=true/\Q .nrm s'
section
variable {E:Env}{Yf:YF}{st:St}{ub:Nat}{K:List FP->St->Prop}{d:Option Nat}{nm:Bool}{Q:Ex->St->Prop}{r:List AOpr}
def kC_pin {o:AOpr}{fs:List AOpr}:wpC E Yf (.pin o fs) st Q=jB E Yf o st st.nx (kPin E fs st Q):=zj bR
def j37 {fs:List AOpr}{s:St}:kPin E fs st Q s ub=jG E fs s ub (kPQ fs st Q):=zj bR
def j9j {fs:List AOpr}{f:List FP}{s:St}:kPQ fs st Q f s=(WI fs st s=true/\Q .nrm s):=zj bR
def jxd {s s':St}:WI [] s s'=true:=by simp[WI]
def jt2 {op:AOp}{a:Option (Nat×Bool)}{t:Nat}{fs:List AOpr}{s s':St}:WI (⟨some t,op,a,nm⟩::fs) s s'=(V.eqb (s.tm t) (s'.tm t)&&WI fs s s'):=by simp[WI]
def j49 (v:V):V.eqb v v=true:=jfd v
def j9o:kDr E r K st ub=jG E r st ub K:=zj bR
def j9m {f:FP}{fs:List FP}:kFp f K fs st=K (f::fs) st:=zj bR
def j9x {free:List (Nat×Nat)}{fs:List FP}:kDQ free Q fs st=(Jc free fs=true/\jbw fs=true/\Q .nrm st):=zj bR
def j91 {ops:List AOpr}{free:List (Nat×Nat)}:wpC E Yf (.draw ops free) st Q=jG E ops st st.nx (kDQ free Q):=zj bR
def j9n:jG E [] st ub K=K [] (st.setN ub):=zj bR
def jni {o:AOpr}:kDGd E o r st ub K true=jG E (o::r) st ub K:=zj bR
def jdy {o:AOpr}:kDGd E o r st ub K false=jG E r (st.setT o.dst js) (ub+64) (kFp {} K):=zj bR
def jzs {op:AOp}{t:Nat}{b:Bool}:jG E (⟨d,op,some (t,b),nm⟩::r) st ub K=gdK (st.tm t) b (kDGd E ⟨d,op,none,nm⟩ r st ub K):=by
 have i:AOpr.name ⟨d,op,some (t,b),nm⟩=AOpr.name ⟨d,op,none,nm⟩:=rfl;have g:∀c,st.tm t=.bool c->(jG E (⟨d,op,some (t,b),nm⟩::r) st ub K=kDGd E ⟨d,op,none,nm⟩ r st ub K (c==b)):=λc f=>by
  cases e:(c==b);have:yJ ⟨d,op,some (t,b),nm⟩ st.tm=some false:=by simp[yJ,f,e]
  rw[jG,this,jdy,<- jbb];rfl;have:yJ ⟨d,op,some (t,b),nm⟩ st.tm=some true:=by simp[yJ,f,e]
  rw[jG,this,jni,jG];rfl
 cases h:st.tm t with
 |bool c=>rw[g c h];rfl
 |tup l=>cases l with
  |nil=>
   have:yJ ⟨d,op,some (t,b),nm⟩ st.tm=some false:=by simp[yJ,h]
   rw[jG,this];show _=kDGd E ⟨d,op,none,nm⟩ r st ub K false;rw[jdy,<- jbb];rfl
  |cons a l=>
   have:yJ ⟨d,op,some (t,b),nm⟩ st.tm=none:=by simp[yJ,h]
   rw[jG,this];rfl
 |_=>
  have:yJ ⟨d,op,some (t,b),nm⟩ st.tm=none:=by simp[yJ,h]
  rw[jG,this];rfl
def jz {op:AOp}(h:op.plainOp=true):jG E (⟨d,op,none,nm⟩::r) st ub K=wpD (yS (λ_ _=>none) (ye E st.tm) st.ob st.tk st.ro (AOpr.name ⟨d,op,none,nm⟩ st.fb ub) ub op) (YW E r K (ye E st.tm) op st d ub):=by cases op<;>first|cases h;done|(simp only[jG,yJ,jC,AOp.far,true_and];rfl)
def XH {op:AOp}(h:op.valOp=true):jG E (⟨d,op,none,nm⟩::r) st ub K=jB E Yf ⟨d,op,none,nm⟩ st ub (kDr E r (kFp { ro:=yy (ye E st.tm) op,rt:=yz (ye E st.tm) op } K)):=by
 have f:op.plainOp=true:=by cases op<;>first|rfl|cases h
 have e:op.isCall=false:=by cases op<;>first|rfl|cases h
 have g:op.isNext=false:=by cases op<;>first|rfl|cases h
 rw[jz f,jR _ e g];refine zj ⟨?_,?_⟩;rintro⟨c,a,b⟩;obtain⟨v,rfl⟩:=jlz h a;exact⟨_,a,b⟩;rintro⟨c,a,b⟩;obtain⟨v,rfl⟩:=jlz h a;exact⟨_,a,b⟩
def j4d {sz:Nat}{p x:A}:jG E (⟨d,.store sz p x,none,nm⟩::r) st ub K=jdf st sz (ye E st.tm x) (YW E r K (ye E st.tm) (.store sz p x) st d ub) (ye E st.tm p):=by
 rw[jz rfl];simp only[yS];generalize a:YW E r K (ye E st.tm) (.store sz p x) st d ub=k;clear a;generalize ye E st.tm p=vp;cases vp<;>simp only[jb5,jdf];rename_i l u off;cases j0 st.ob l u with
 |none=>simp[wpD]
 |some cs=>simp only[ap,jfk,jJ,ae,exists_eq_left',bY,and_assoc]
def j4i {z:List V}:jG E (⟨d,.alloc z,none,nm⟩::r) st ub K=YW E r K (ye E st.tm) (.alloc z) st d ub { v:=.ptr (jI d nm st.fb ub) ub 0,obs:=[(jI d nm st.fb ub,⟨ub,.cells z⟩)] }:=by rw[jz rfl];simp only[yS,Jo,jJ,Jm]
def kD_box {sz:Nat}{x:A}:jG E (⟨d,.box sz x,none,nm⟩::r) st ub K=(((ye E st.tm x).cells.length=sz/\(ye E st.tm x).cells.all V.leaf=true)/\YW E r K (ye E st.tm) (.box sz x) st d ub { v:=.ptr (jI d nm st.fb ub) ub 0,obs:=[(jI d nm st.fb ub,⟨ub,.cells (ye E st.tm x).cells⟩)] }):=by rw[jz rfl];simp only[yS,Jo,jfk,jJ,Jm]
def j9y {a:A->V}{op:AOp}{v:V}:YW E r K a op st d ub { v:=v }=jG E r (st.setT d v) (ub+64) (kFp (Qe a op { v:=v }) K):=by rw[YW,jbb]
def jz2 {a:A->V}{op:AOp}{δ:Delta}:YW E r K a op st d ub δ=jG E r (st.app d δ) (ub+64) (kFp (Qe a op δ) K):=zj bR
def Jb {f:FuncId}{xs:List A}{args:List V}{v:V}(e:Ev E f args v) (g:(xs.map λx=>(ye E st.tm x).strip)=args) (k:E.sh nm f=false) (hp:args.all V.pureTop=true) (h:wpD (Xt ub v) (YW E r K (ye E st.tm) (.call f xs) st d ub)) :
 jG E (⟨d,.call f xs,none,nm⟩::r) st ub K:=by
 have a:(xs.all λx=>(ye E st.tm x).strip.pureTop)=true:=by rw[<- g,dG]at hp;exact hp
 have b:jC E nm (ye E st.tm) (.call f xs)=none:=by simp only[jC,k,a,cp,di,zd]
 obtain⟨i,c,j⟩:=h;simp only[jG,yJ,b,AOp.far,true_and];exact⟨a,v,g▸e,i,c,j⟩
def jL {K:St->Nat->Prop}{f:FuncId}{xs:List A}{args:List V}{v:V}(g:Ev E f args v) (e:(xs.map λx=>(ye E st.tm x).strip)=args) (k:E.sh nm f=false) (hp:args.all V.pureTop=true) (h:wpD (Xt ub v) (QW K st d ub)) :
 jB E Yf ⟨d,.call f xs,none,nm⟩ st ub K:=by
 have a:(xs.all λx=>(ye E st.tm x).strip.pureTop)=true:=by rw[<- e,dG]at hp;exact hp
 have b:jC E nm (ye E st.tm) (.call f xs)=none:=by simp only[jC,k,a,cp,di,zd]
 obtain⟨i,c,j⟩:=h;simp only[jB,yJ,jj,b,jbd];exact⟨by rw[e];exact hp,v,e▸g,i,c,j⟩
end
/-! What a loop leaves alone. -/
def inR (t:Nat):List (Nat×Nat)->Bool
 |[]=>false
 |(a,b)::l=>(decide (a<=t)&&decide (t<=b))||inR t l
@[simp] theorem inR_nil (t:Nat):inR t []=false:=rfl
@[simp] theorem inR_cons (t a b:Nat) (l:List (Nat×Nat)):inR t ((a,b)::l)=((decide (a<=t)&&decide (t<=b))||inR t l):=rfl
def C.ws:C->List Nat
 | .region ops|.draw ops _=>ops.filterMap (·.dst)
 | .pin o fs=>(o::fs).filterMap (·.dst)
 | .seq a b|.cond _ a b=>a.ws++b.ws
 | .block _ a|.loop a=>a.ws
 |_=>[]
def C.noRF:C->Bool
 | .rangeFunc ..=>false
 | .seq a b|.cond _ a b=>a.noRF&&b.noRF
 | .block _ a|.loop a=>a.noRF
 |_=>true
structure Keeps (p:Nat->Prop) (st s:St):Prop where
 b:s.fb=st.fb
 r:s.ro=st.ro
 d:s.df=st.df
 t:∀t,¬p t->s.tm t=st.tm t
def Keeps.rfl' (p:Nat->Prop) (st:St):Keeps p st st:=⟨rfl,rfl,rfl,λ_ _=>rfl⟩
def Keeps.trans {p q f:Nat->Prop}{a b c:St}(h:Keeps p a b) (e:Keeps q b c) (hp:∀t,p t->f t) (i:∀t,q t->f t):Keeps f a c :=
 ⟨e.b.trans h.b,e.r.trans h.r,e.d.trans h.d,λt g=>(e.t t λh=>g (i t h)).trans (h.t t λh=>g (hp t h))⟩
def Keeps.weak {p q:Nat->Prop}{a b:St}(h:Keeps p a b) (hp:∀t,p t->q t):Keeps q a b:=⟨h.b,h.r,h.d,λt c=>h.t t λh=>c (hp t h)⟩
def jrl {tm:Nat->V}{d:Option Nat}{v:V}{t:Nat}(h:¬t∈d.toList):put tm d v t=tm t:=by
 cases d with
 |none=>rfl
 |some d=>exact JQ tm v (λe=>h (by simp[e]))
def Keeps.app {st:St}{d:Option Nat}{δ:Delta}:Keeps (·∈d.toList) st (st.app d δ):=⟨rfl,rfl,rfl,λ_ a=>jrl a⟩
section
variable {E:Env}{Yf:YF}
def jeb {o:AOpr}{st:St}{ub:Nat}{K:St->Nat->Prop}(a:jB E Yf o st ub K):jB E Yf o st ub λs u=>K s u/\Keeps (·∈o.dst.toList) st s:=by
 have call:∀{f:FuncId}{i:List V},jbd E f i st o.dst ub K->jbd E f i st o.dst ub λs u=>K s u/\Keeps (·∈o.dst.toList) st s:=by rintro f i ⟨D,v,z,h,c,g⟩;exact⟨D,v,z,h,c,g,Keeps.app⟩
 unfold jB at a ⊢;cases w:yJ o st.tm with
 |none=>simp only[w]at a
 |some b=>
  cases b with
  |false=>simp only[w]at a ⊢;exact⟨a,rfl,rfl,rfl,λ_ j=>jrl j⟩
  |true=>
   simp only[w]at a ⊢;cases B:jj (ye E st.tm) o.op with
   |some x=>obtain⟨l,u,i⟩:=x;simp only[B]at a ⊢;obtain⟨r,y,g⟩:=a;exact⟨r,y,g,rfl,rfl,rfl,λ_ j=>jrl j⟩
   |none=>
   simp only[B]at a ⊢;cases k:jC E o.nm (ye E st.tm) o.op with
   |some I=>simp only[k]at a ⊢;rcases a with⟨t,n,l,y,m,g⟩|⟨t,v,z,h,c,g⟩;exact .inl ⟨t,n,l,y,m,λr H=>⟨g r H,rfl,rfl,rfl,λ_ j=>jrl j⟩⟩;exact .inr ⟨t,v,z,h,c,g,Keeps.app⟩
   |none=>
    simp only[k]at a ⊢;cases F:o.op<;>simp only[F]at a ⊢;case call f i=>exact call a
    case callV q i=>obtain⟨f,first,e,p,a⟩:=a;exact⟨f,first,e,p,call a⟩
    case nextMap x=>obtain⟨l,G,g⟩:=a;exact⟨l,G,λh c=>⟨g h c,Keeps.app⟩⟩
    all_goals
     obtain⟨h,c,g⟩:=a
     exact⟨h,c,g,Keeps.app⟩
def mem_ws_cons {o:AOpr}{r:List AOpr}{t:Nat}:t∈(o::r).filterMap (·.dst) ↔ t∈o.dst.toList\/t∈r.filterMap (·.dst):=by
 cases h:o.dst with
 |none=>simp[h]
 |some d=>simp[h]
def jfj:∀{ops:List AOpr}{st:St}{ub:Nat}{K:St->Prop},QT E Yf ops st ub K->QT E Yf ops st ub λs=>K s/\Keeps (·∈ops.filterMap (·.dst)) st s
 |[],st,ub,K,hk=>⟨hk,rfl,rfl,rfl,λ_ _=>rfl⟩
 |o::r,st,ub,K,hk=>by refine Q4 (λs u h=>?_) (jeb hk);refine jdg (λc b=>?_) (jfj h.1);exact⟨b.1,h.2.trans b.2 (λt a=>mem_ws_cons.2 (.inl a)) (λt a=>mem_ws_cons.2 (.inr a))⟩
def Qh:∀{ops:List AOpr}{st:St}{ub:Nat}{K:List FP->St->Prop},jG E ops st ub K->jG E ops st ub λf s=>K f s/\Keeps (·∈ops.filterMap (·.dst)) st s
 |[],st,ub,K,e=>⟨e,rfl,rfl,rfl,λ_ _=>rfl⟩
 |o::r,st,ub,K,e=>by
  have g:∀{c:Delta}{f:List FP->List FP}{ub:Nat},jG E r (st.app o.dst c) ub (λfs s=>K (f fs) s)->jG E r (st.app o.dst c) ub λfs s=>K (f fs) s/\Keeps (·∈(o::r).filterMap (·.dst)) st s:=λh=>
   JJ (λf s y=>⟨y.1,Keeps.app.trans y.2 (λt w=>mem_ws_cons.2 (.inl w)) (λt w=>mem_ws_cons.2 (.inr w))⟩) (Qh h)
  unfold jG at e ⊢;cases p:yJ o st.tm with
  |none=>simp only[p]at e
  |some b=>
   cases b with
   |false=>simp only[p]at e ⊢;exact g (f:=λfs=>{}::fs) e
   |true=>
    simp only[p]at e ⊢;cases n:jC E o.nm (ye E st.tm) o.op with
    |some F=>simp only[n]at e ⊢;rcases e with⟨k,v,m,c,a,j⟩|⟨k,u,D,v,B,m,c,a,j⟩|⟨k,u,c,a,j⟩;exact .inl ⟨k,v,m,c,a,g (f:=λfs=>{ wt:=c.wt,all:=true,seen:=λl=>(st.ob l).isSome }::fs) j⟩;exact .inr (.inl ⟨k,u,D,v,B,m,c,a,g (f:=λfs=>{ wo:=c.wo,all:=true,seen:=λl=>(st.ob l).isSome,nw:=true }::fs) j⟩);exact .inr (.inr ⟨k,u,c,a,g (f:=λfs=>{ wo:=c.wo,nw:=true }::fs) j⟩)
    |none=>
     simp only[n]at e ⊢;refine⟨e.1,?_⟩;have e:=e.2;cases z:o.op<;>simp only[z]at e ⊢;case call f xs=>obtain⟨k,v,m,c,a,j⟩:=e;exact⟨k,v,m,c,a,g (f:=λfs=>Qe (ye E st.tm) (.call f xs) c::fs) j⟩
     case callV q xs=>obtain⟨f,first,i,x,k,v,m,c,a,j⟩:=e;exact⟨f,first,i,x,k,v,m,c,a,g (f:=λfs=>Qe (ye E st.tm) (.callV q xs) c::fs) j⟩
     all_goals
      obtain⟨c,a,j⟩:=e
      exact⟨c,a,g (f:=λfs=>Qe (ye E st.tm) _ c::fs) j⟩
def jwj:∀{c:C},c.noRF=true->∀{st:St}{Q:Ex->St->Prop},wpC E Yf c st Q->wpC E Yf c st λe s=>Q e s/\Keeps (·∈c.ws) st s:=by
 intro c;induction c with
 |skip=>intro _ st Q i;exact⟨i,Keeps.rfl' _ _⟩
 |ret=>intro _ st Q i;exact⟨i,Keeps.rfl' _ _⟩
 |exit id=>intro _ st Q i;exact⟨i,Keeps.rfl' _ _⟩
 |stuck=>intro _ st Q i;exact i
 |rangeFunc f H a b=>intro k;cases k
 |region x=>intro _ st Q i;exact jfj i
 |draw x free=>intro _ st Q i;exact JJ (λf s h=>⟨h.1.1,h.1.2.1,h.1.2.2,h.2⟩) (Qh i)
 |pin o fs=>intro _ st Q i;exact Q4 (λs u h=>JJ (λf D v=>⟨v.1.1,v.1.2,h.2.trans v.2 (λt j=>mem_ws_cons.2 (.inl j)) (λt j=>mem_ws_cons.2 (.inr j))⟩) (Qh h.1)) (jeb i)
 |seq a b n p=>intro k st Q i;have k:=Bool.and_eq_true_iff.1 k;rw[j6g];refine XM (λe s g=>?_) (n k.1 i);obtain⟨g,l⟩:=g;cases e;refine XM (λe D m=>?_) (p k.2 g);exact⟨m.1,l.trans m.2 (λt j=>aQ.2 (.inl j)) (λt j=>aQ.2 (.inr j))⟩;exact⟨g,l.weak (λt j=>aQ.2 (.inl j))⟩;exact⟨g,l.weak (λt j=>aQ.2 (.inl j))⟩
 |cond q a b n p=>
  intro k st Q i;have k:=Bool.and_eq_true_iff.1 k;obtain⟨t,j,G,F⟩:=i;exact⟨t,j,λe=>XM (λe s g=>⟨g.1,g.2.weak (λt j=>aQ.2 (.inl j))⟩) (n k.1 (G e)),
   λe=>XM (λe s g=>⟨g.1,g.2.weak (λt j=>aQ.2 (.inr j))⟩) (p k.2 (F e))⟩
 |block id a B=>intro k st Q i;rw[jsi];refine XM (λe s g=>?_) (B k i);obtain⟨g,l⟩:=g;cases e;exact⟨g,l⟩;simp only[jnj]at g ⊢;split at g;rename_i z;simp only[z,zd];exact⟨g,l⟩;rename_i z;simp only[z,zc];exact⟨g,l⟩;exact⟨g,l⟩
 |loop a B=>
  intro k st Q i;obtain⟨N,i⟩:=i;refine⟨N,?_⟩;have w:∀(N:Nat) (st:St),Ys (wpC E Yf a) N st Q->Ys (wpC E Yf a) N st λe s=>Q e s/\Keeps (·∈a.ws) st s:=by
   intro N;induction N with
   |zero=>intro st h;exact h
   |succ N y=>intro st h;refine XM (λe s g=>?_) (B k h);obtain⟨g,l⟩:=g;cases e;exact jbo (W:=wpC E Yf a) (λ_ _ _ h i=>XM h i) (λe D m=>⟨m.1,l.trans m.2 (λ_ h=>h) (λ_ h=>h)⟩) (y s g);exact⟨g,l⟩;exact⟨g,l⟩
  exact w N st i
def Yl {a:C}{Q:Ex->St->Prop}{n:Nat}{st:St}(ws:List (Nat×Nat)) (I:Nat->St->Prop) (q:a.noRF=true) (i:(a.ws.all λt=>inR t ws)=true) (m:I n st)
 (p:∀k s,I k s->Keeps (λt=>inR t ws=true) st s->wpC E Yf a s (jzp I k Q)):wpC E Yf (.loop a) st Q:=by
 refine Yk (λk s=>I k s/\Keeps (λt=>inR t ws=true) st s) (n:=n) ⟨m,Keeps.rfl' _ _⟩ λk s ⟨l,g⟩=>?_;refine XM (λe v b=>?_) (jwj q (p k s l g));obtain⟨b,f⟩:=b;cases e;obtain⟨j,u,c⟩:=b;exact⟨j,u,c,g.trans f (λ_ h=>h) (λt o=>av.1 i t o)⟩;exact b;exact b
def kUp (I:Nat->St->Prop) (N i:Nat) (Q:Ex->St->Prop):Ex->St->Prop:=λe s=>match e with
 | .nrm=>i<N/\I (i+1) s
 |e=>Q e s
def j9 {a:C}{Q:Ex->St->Prop}{st:St}(ws:List (Nat×Nat)) (N:Nat) (I:Nat->St->Prop) (o:a.noRF=true) (c:(a.ws.all λt=>inR t ws)=true) (j:I 0 st)
 (l:∀i s,i<=N->I i s->Keeps (λt=>inR t ws=true) st s->wpC E Yf a s (kUp I N i Q)):wpC E Yf (.loop a) st Q:=by
 refine Yl (n:=N) ws (λk s=>∃i,k=N-i/\i<=N/\I i s) o c ⟨0,rfl,ch _,j⟩ ?_;rintro k s ⟨i,rfl,m,g⟩ f;refine XM (λe p b=>?_) (l i s m g f);cases e;obtain⟨q,h⟩:=b;exact⟨N-(i+1),zO,i+1,rfl,zO,h⟩;exact b;exact b
end
def j9b {I:Nat->St->Prop}{N i:Nat}{Q:Ex->St->Prop}{st:St}:kUp I N i Q .nrm st=(i<N/\I (i+1) st):=zj bR
def j3s {I:Nat->St->Prop}{N i j:Nat}{Q:Ex->St->Prop}{st:St}:kUp I N i Q (.exit j) st=Q (.exit j) st:=zj bR
def j9a {I:Nat->St->Prop}{N i:Nat}{Q:Ex->St->Prop}{st:St}:kUp I N i Q .ret st=Q .ret st:=zj bR
def jyq:jyr []=true:=rfl
def jur (f:FP) (fs:List FP):jyr (f::fs)=(!f.nw&&jyr fs):=rfl
def fpOf_nw (a:A->V) (o:AOp) (δ:Delta):(Qe a o δ).nw=false:=rfl
def jpm {fs:List FP}(h:jyr fs=true):jbw fs=true:=by simp only[jbw,h,gW]
def jvk (fs:List FP):Jc [] fs=true:=rfl
section
variable {E:Env}{st:St}{ub:Nat}{K:List FP->St->Prop}{d:Option Nat}{nm:Bool}{r:List AOpr}
def kD_mov {x:A}:jG E (⟨d,.mov x,none,nm⟩::r) st ub K=jB E YU ⟨d,.mov x,none,nm⟩ st ub (kDr E r (kFp { ro:=yy (ye E st.tm) (.mov x),rt:=yz (ye E st.tm) (.mov x) } K)):=XH rfl
def j9q {c a b:A}:jG E (⟨d,.pick c a b,none,nm⟩::r) st ub K=jB E YU ⟨d,.pick c a b,none,nm⟩ st ub (kDr E r (kFp { ro:=yy (ye E st.tm) (.pick c a b),rt:=yz (ye E st.tm) (.pick c a b) } K)):=XH rfl
def kD_bin {op:BinOp}{x y:A}:jG E (⟨d,.bin op x y,none,nm⟩::r) st ub K=jB E YU ⟨d,.bin op x y,none,nm⟩ st ub (kDr E r (kFp { ro:=yy (ye E st.tm) (.bin op x y),rt:=yz (ye E st.tm) (.bin op x y) } K)):=XH rfl
def kD_eq {neg:Bool}{k:EqK}{x y:A}:jG E (⟨d,.eq neg k x y,none,nm⟩::r) st ub K=jB E YU ⟨d,.eq neg k x y,none,nm⟩ st ub (kDr E r (kFp { ro:=yy (ye E st.tm) (.eq neg k x y),rt:=yz (ye E st.tm) (.eq neg k x y) } K)):=XH rfl
def kD_un {op:UnOp}{x:A}:jG E (⟨d,.un op x,none,nm⟩::r) st ub K=jB E YU ⟨d,.un op x,none,nm⟩ st ub (kDr E r (kFp { ro:=yy (ye E st.tm) (.un op x),rt:=yz (ye E st.tm) (.un op x) } K)):=XH rfl
def j4h {z:List V}{ps:List (Nat×Nat×A)}:jG E (⟨d,.build z ps,none,nm⟩::r) st ub K=jB E YU ⟨d,.build z ps,none,nm⟩ st ub (kDr E r (kFp { ro:=yy (ye E st.tm) (.build z ps),rt:=yz (ye E st.tm) (.build z ps) } K)):=XH rfl
def j9u {g:Option Nat}{x:A}:jG E (⟨d,.load g x,none,nm⟩::r) st ub K=jB E YU ⟨d,.load g x,none,nm⟩ st ub (kDr E r (kFp { ro:=yy (ye E st.tm) (.load g x),rt:=yz (ye E st.tm) (.load g x) } K)):=XH rfl
def jp0 {x:A}:jG E (⟨d,.nilCheck x,none,nm⟩::r) st ub K=jB E YU ⟨d,.nilCheck x,none,nm⟩ st ub (kDr E r (kFp { ro:=yy (ye E st.tm) (.nilCheck x),rt:=yz (ye E st.tm) (.nilCheck x) } K)):=XH rfl
def jng {o:Nat}{x:A}:jG E (⟨d,.fieldAddr o x,none,nm⟩::r) st ub K=jB E YU ⟨d,.fieldAddr o x,none,nm⟩ st ub (kDr E r (kFp { ro:=yy (ye E st.tm) (.fieldAddr o x),rt:=yz (ye E st.tm) (.fieldAddr o x) } K)):=XH rfl
def j4g {sz:Nat}{x i:A}:jG E (⟨d,.idxSl sz x i,none,nm⟩::r) st ub K=jB E YU ⟨d,.idxSl sz x i,none,nm⟩ st ub (kDr E r (kFp { ro:=yy (ye E st.tm) (.idxSl sz x i),rt:=yz (ye E st.tm) (.idxSl sz x i) } K)):=XH rfl
def jzz {len sz:Nat}{x i:A}:jG E (⟨d,.idxArr len sz x i,none,nm⟩::r) st ub K=jB E YU ⟨d,.idxArr len sz x i,none,nm⟩ st ub (kDr E r (kFp { ro:=yy (ye E st.tm) (.idxArr len sz x i),rt:=yz (ye E st.tm) (.idxArr len sz x i) } K)):=XH rfl
def j9r {g:Option Nat}{o:Nat}{x:A}:jG E (⟨d,.part g o x,none,nm⟩::r) st ub K=jB E YU ⟨d,.part g o x,none,nm⟩ st ub (kDr E r (kFp { ro:=yy (ye E st.tm) (.part g o x),rt:=yz (ye E st.tm) (.part g o x) } K)):=XH rfl
def jzy {x i:A}:jG E (⟨d,.idxStr x i,none,nm⟩::r) st ub K=jB E YU ⟨d,.idxStr x i,none,nm⟩ st ub (kDr E r (kFp { ro:=yy (ye E st.tm) (.idxStr x i),rt:=yz (ye E st.tm) (.idxStr x i) } K)):=XH rfl
def j4e {x:A}{lo hi:Option A}:jG E (⟨d,.slStr x lo hi,none,nm⟩::r) st ub K=jB E YU ⟨d,.slStr x lo hi,none,nm⟩ st ub (kDr E r (kFp { ro:=yy (ye E st.tm) (.slStr x lo hi),rt:=yz (ye E st.tm) (.slStr x lo hi) } K)):=XH rfl
def j9p {sz:Nat}{x:A}{lo hi:Option A}:jG E (⟨d,.slSl sz x lo hi,none,nm⟩::r) st ub K=jB E YU ⟨d,.slSl sz x lo hi,none,nm⟩ st ub (kDr E r (kFp { ro:=yy (ye E st.tm) (.slSl sz x lo hi),rt:=yz (ye E st.tm) (.slSl sz x lo hi) } K)):=XH rfl
def jzw {x:A}:jG E (⟨d,.lenStr x,none,nm⟩::r) st ub K=jB E YU ⟨d,.lenStr x,none,nm⟩ st ub (kDr E r (kFp { ro:=yy (ye E st.tm) (.lenStr x),rt:=yz (ye E st.tm) (.lenStr x) } K)):=XH rfl
def j4f {x:A}:jG E (⟨d,.lenSl x,none,nm⟩::r) st ub K=jB E YU ⟨d,.lenSl x,none,nm⟩ st ub (kDr E r (kFp { ro:=yy (ye E st.tm) (.lenSl x),rt:=yz (ye E st.tm) (.lenSl x) } K)):=XH rfl
def jzx {x:A}:jG E (⟨d,.lenMap x,none,nm⟩::r) st ub K=jB E YU ⟨d,.lenMap x,none,nm⟩ st ub (kDr E r (kFp { ro:=yy (ye E st.tm) (.lenMap x),rt:=yz (ye E st.tm) (.lenMap x) } K)):=XH rfl
def ju5 {x:A}{i:Nat}:jG E (⟨d,.extract x i,none,nm⟩::r) st ub K=jB E YU ⟨d,.extract x i,none,nm⟩ st ub (kDr E r (kFp { ro:=yy (ye E st.tm) (.extract x i),rt:=yz (ye E st.tm) (.extract x i) } K)):=XH rfl
def j9t {f:Fn}{a b:List A}:jG E (⟨d,.mkFn f a b,none,nm⟩::r) st ub K=jB E YU ⟨d,.mkFn f a b,none,nm⟩ st ub (kDr E r (kFp { ro:=yy (ye E st.tm) (.mkFn f a b),rt:=yz (ye E st.tm) (.mkFn f a b) } K)):=XH rfl
def jzv {q:LK}{z:V}{a:Bool}{m k:A}:jG E (⟨d,.lookup q z a m k,none,nm⟩::r) st ub K=jB E YU ⟨d,.lookup q z a m k,none,nm⟩ st ub (kDr E r (kFp { ro:=yy (ye E st.tm) (.lookup q z a m k),rt:=yz (ye E st.tm) (.lookup q z a m k) } K)):=XH rfl
def j9v {k:IntKind}{x:A}:jG E (⟨d,.conv k x,none,nm⟩::r) st ub K=jB E YU ⟨d,.conv k x,none,nm⟩ st ub (kDr E r (kFp { ro:=yy (ye E st.tm) (.conv k x),rt:=yz (ye E st.tm) (.conv k x) } K)):=XH rfl
def jzu {b:Bool}{xs:List A}:jG E (⟨d,.minmax b xs,none,nm⟩::r) st ub K=jB E YU ⟨d,.minmax b xs,none,nm⟩ st ub (kDr E r (kFp { ro:=yy (ye E st.tm) (.minmax b xs),rt:=yz (ye E st.tm) (.minmax b xs) } K)):=XH rfl
end
attribute [simp ↓] kC_pin j37 j9j j91 j9n jzs j4d j4i kD_box kD_mov j9q kD_bin kD_eq kD_un j4h j9u jp0 jng j4g jzz j9r jzy j4e j9p jzw j4f jzx ju5 j9t jzv j9v jzu
attribute [simp ↓] j9o j9m j9x jni jdy j9y jz2 j9b j3s j9a
attribute [simp] jxd jt2 j49 jvk jyq jur fpOf_nw jpm
def kL (E:Env) (Yf:YF) (a:C) (n:Nat) (Q:Ex->St->Prop):Ex->St->Prop:=λe s=>match e with
 | .nrm=>Ys (wpC E Yf a) n s Q
 |e=>Q e s
section
variable {E:Env}{Yf:YF}{a:C}{Q:Ex->St->Prop}{s:St}{n:Nat}
def kL_nrm:kL E Yf a n Q .nrm s=Ys (wpC E Yf a) n s Q:=zj bR
def j9k {i:Nat}:kL E Yf a n Q (.exit i) s=Q (.exit i) s:=zj bR
def kL_ret:kL E Yf a n Q .ret s=Q .ret s:=zj bR
def j1x:Ys (wpC E Yf a) 1 s Q=wpC E Yf a s (kL E Yf a 0 Q):=zj bR
def j1w:Ys (wpC E Yf a) 2 s Q=wpC E Yf a s (kL E Yf a 1 Q):=zj bR
def j1v:Ys (wpC E Yf a) 3 s Q=wpC E Yf a s (kL E Yf a 2 Q):=zj bR
def j1u:Ys (wpC E Yf a) 4 s Q=wpC E Yf a s (kL E Yf a 3 Q):=zj bR
def jb4 (n:Nat) (h:Ys (wpC E Yf a) n s Q):wpC E Yf (.loop a) s Q:=⟨n,h⟩
end
def j68 (k:List UInt8->Prop):V->Prop
 | .str s=>k s
 |_=>False
@[simp] theorem wpStr_str (k:List UInt8->Prop) (s:List UInt8):j68 k (.str s)=k s:=rfl
def MP {α:Type}(f:α->V) (m:List (Int×α)):List (V×V):=m.map λp=>(.int .i64 p.1,f p.2)
def jx {α:Type}:List (Int×α)->Int->Option (Nat×α)
 |[],_=>none
 |(k',a)::m,k=>if k=k' then some (0,a) else (jx m k).map λp=>(p.1+1,p.2)
def Wi {α:Type}(m:List (Int×α)) (k:Int) (a:α):List (Int×α):=match jx m k with
 |some (i,_)=>m.set i (k,a)
 |none=>m++[(k,a)]
def jd3 {b:Type}(f:b->V) (k:Int):∀m:List (Int×b),yM .int (.int .i64 k) (MP f m)=some ((jx m k).map λp=>(p.1,f p.2))
 |[]=>rfl
 |(k',a)::m=>by have c:=jd3 f k m;unfold MP at c ⊢;simp only[bc,yM,Ww,zd,jx];by_cases h:k=k';simp[h];rw[za h,show(k==k')=false by simpa using h];simp only[c,aU,im];rfl
@[simp] theorem MP_length {b:Type}(f:b->V) (m:List (Int×b)):(MP f m).length=m.length:=by simp[MP]
def jh1 (n:Int):V:=.int .i64 n
def mcnt (m:List (Int×Int)) (k:Int):Int:=((jx m k).map (·.2)).getD 0
def jjd {c:Type}{f:c->V}{ob:ZO}{l u:Nat}{z:V}{b:Bool}{k:Int}(m:List (Int×c)) (h:jY ob l u=some (MP f m)) :
 Yc ob .int z b (.map l u) (.int .i64 k)=some (match jx m k with|some p=>if b then .tup [f p.2,.bool true] else f p.2|none=>if b then .tup [z,.bool false] else z):=by
 simp only[Yc,Qz,zd,h,ap,jd3,aU];cases jx m k<;>rfl
def jje {ob:ZO}{l u:Nat}{k:Int}(m:List (Int×Int)) (h:jY ob l u=some (MP jh1 m)):Yc ob .int (.int .i64 0) false (.map l u) (.int .i64 k)=some (.int .i64 (mcnt m k)):=by rw[jjd m h,mcnt];cases jx m k<;>rfl
section
variable {E:Env}{Yf:YF}{st:St}{ub:Nat}{K:St->Nat->Prop}{d:Option Nat}{nm:Bool}
def jpt {x:A}:jB E Yf ⟨d,.range true x,none,nm⟩ st ub K=j68 (λs=>QW K st d ub { v:=.iter (jI d nm st.fb ub) ub,obs:=[(jI d nm st.fb ub,⟨ub,.siter s 0⟩)] }) (ye E st.tm x):=by rw[jR _ rfl rfl];simp only[yS,Jm];cases ye E st.tm x<;>simp only[jb5,j68,Jo,jJ];rfl
def ju0 {x:A}{l u pos:Nat}{s:List UInt8}(g:ye E st.tm x=.iter l u) (c:st.ob l=some ⟨u,.siter s pos⟩) (b:st.ro<=u)
 (f:pos<s.length->QW K st d ub { v:=.tup [.bool true,.int .i64 pos,.int .i32 ((Utf8.decode ⟨s.toArray⟩ pos).1:Nat)],obs:=[(l,⟨u,.siter s (pos+(Utf8.decode ⟨s.toArray⟩ pos).2)⟩)] })
 (e:¬pos<s.length->jbh K st d ub (.tup [.bool false])):jB E Yf ⟨d,.nextStr x,none,nm⟩ st ub K:=by
 rw[jR _ rfl rfl];simp only[yS,g,c];rw[zb (by simpa using b)];by_cases h:pos<s.length;rw[zb h,jJ];exact f h;rw[za h,WV,jbb];exact e h
def j3z:jB E Yf ⟨d,.mkMap,none,nm⟩ st ub K=QW K st d ub { v:=.map (jI d nm st.fb ub) ub,obs:=[(jI d nm st.fb ub,⟨ub,.mp 0 []⟩)] }:=by rw[jR _ rfl rfl];simp only[yS,Jo,jJ,Jm];rfl
def jcu {c:Type}{f:c->V}{x y z:A}{l u ver:Nat}{k:Int}{a:c}(m:List (Int×c)) (q:ye E st.tm x=.map l u) (r:ye E st.tm y=.int .i64 k) (t:(ye E st.tm z).strip=f a)
 (o:st.ob l=some ⟨u,.mp ver (MP f m)⟩) (g:st.ro<=u) (h:QW K st d ub { v:=js,obs:=[(l,⟨u,.mp (ver+1) (MP f (Wi m k a))⟩)] }):jB E Yf ⟨d,.mapSet .int x y z,none,nm⟩ st ub K:=by
 have i:jY st.ob l u=some (MP f m):=by simp[jY,o]
 have b:jn st.ob l=ver:=by simp[jn,o]
 rw[jR _ rfl rfl];simp only[yS,q,r,Qz,zd,i,ap,jd3,b,t];rw[zb (by simpa using g)];unfold Wi at h;cases j:jx m k with
 |none=>rw[j]at h;simp only[eC,jJ];simpa[MP] using h
 |some p=>
  rw[j]at h;simp only[aU,jJ];have e:(MP f m).set p.1 (V.int .i64 k,f a)=MP f (m.set p.1 (k,a)):=by simp[MP,dv]
  rw[e];exact h
end
attribute [simp ↓] kL_nrm j9k kL_ret j1x j1w j1v j1u jpt j3z
@[simp] theorem j86 (ob:ZO) (l u:Nat):jk1 ob (.map l u)=(jY ob l u).map λb=>.int .i64 b.length:=rfl
def jh4 (l:List Int) (k:Int):List Int:=if k∈l then l else l++[k]
def dd (l:List Int):List Int:=l.foldl jh4 []
def j0s (l:List Int) (k:Int):dd (l++[k])=jh4 (dd l) k:=by simp[dd]
def mfind_none {c:Type}{m:List (Int×c)}{k:Int}:jx m k=none ↔ k ∉ m.map (·.1):=by
 induction m with
 |nil=>simp[jx]
 |cons p m b=>obtain⟨e,a⟩:=p;by_cases h:k=e;simp[jx,h];simp[jx,h,b]
def ji6 {e:Type}{m:List (Int×e)}{k:Int}{i:Nat}{a:e}(h:jx m k=some (i,a)):∃r:i<m.length,m[i]=(k,a):=by
 induction m generalizing i with
 |nil=>cases h
 |cons p m l=>obtain⟨q,t⟩:=p;by_cases c:k=q;simp only[jx,c,zd,ae,bZ]at h;obtain⟨rfl,rfl⟩:=h;exact⟨zS,by simp[c]⟩;simp only[jx,c,zc,bn,bZ]at h;obtain⟨⟨j,b⟩,g,rfl,rfl⟩:=h;obtain⟨o,f⟩:=l g;exact⟨by simpa using o,by simpa using f⟩
def jm3 {f:Type}(m:List (Int×f)) (k:Int) (a:f):(Wi m k a).map (·.1)=jh4 (m.map (·.1)) k:=by
 unfold Wi jh4;cases h:jx m k with
 |none=>rw[za (mfind_none.1 h)];simp
 |some p=>obtain⟨i,b⟩:=p;obtain⟨l,g⟩:=ji6 h;have c:k∈m.map (·.1):=aE.2 ⟨_,au l,by rw[g]⟩;rw[zb c,dv];apply fR zS;intro j q o;simp only[List.getElem_set,List.getElem_map];split;rename_i e;subst e;rw[g];rfl
def jyx {l:List Int}{k x:Int}:x∈jh4 l k ↔ x∈l\/x=k:=by unfold jh4;split;constructor;exact .inl;rintro(h|rfl)<;>assumption;simp
def mem_dd {l:List Int}{x:Int}:x∈dd l ↔ x∈l:=by
 have c:∀(l b:List Int),x∈l.foldl jh4 b ↔ x∈b\/x∈l:=by
  intro l;induction l with
  |nil=>intro b;simp
  |cons a l e=>intro b;simp only[eU,e,jyx,bt,or_assoc]
 simpa[dd] using c l []
def jpk {l:List Int}{k:Int}(h:l.Nodup):(jh4 l k).Nodup:=by unfold jh4;split;exact h;rename_i f;rw[cU];refine⟨h,zS,?_⟩;intro a g b c e;simp only[ag]at c;subst c;subst e;exact f g
def j3f (l:List Int):(dd l).Nodup:=by
 have c:∀(l b:List Int),b.Nodup->(l.foldl jh4 b).Nodup:=by
  intro l;induction l with
  |nil=>intro b h;exact h
  |cons a l e=>intro b h;exact e _ (jpk h)
 exact c l [] dH
def j57:∀(n:Nat) (l:List Int),l.Nodup->(∀x∈l,0<=x/\x<n)->l.length<=n/\(l.length=n ↔ ∀k:Nat,k<n->(k:Int)∈l)
 |0,l,hn,hb=>by
  have:l=[]:=by
   cases l with
   |nil=>rfl
   |cons a l=>have:=hb a zS;omega
  subst this;simp
 |n+1,l,hn,hb=>by
  have g:(l.erase (n:Int)).Nodup:=hn.erase _;have i:∀x∈l.erase (n:Int),0<=x/\x<n:=λx o=>by
   have m:=hb x (List.mem_of_mem_erase o);have f:x≠n:=λe=>by subst e;exact(List.Nodup.not_mem_erase hn) o
   omega
  obtain⟨m,f⟩:=j57 n _ g i;by_cases c:(n:Int)∈l;have q:=List.length_erase_of_mem c;have p:0<l.length:=List.length_pos_of_mem c;refine⟨zO,?_⟩;constructor;intro e k j;rcases bg.1 j with h|rfl;exact List.mem_of_mem_erase (f.1 zO k h);exact c;intro b;have:=f.2 (λk j=>(List.Nodup.mem_erase_iff hn).2 ⟨zO,b k zO⟩);omega;rw[List.erase_of_not_mem c]at m f;refine⟨zO,?_⟩;constructor;intro e;omega;intro b;exact zf (b n zO) c
section
end
section
end
section
variable {α:Type}
def MK (q:IntKind) (f:α->V) (m:List (Int×α)):List (V×V):=m.map λp=>(.int q p.1,f p.2)
@[simp] theorem MK_length (q:IntKind) (f:α->V) (m:List (Int×α)):(MK q f m).length=m.length:=by simp[MK]
def jay (q:IntKind) (f:α->V) (k:Int):∀m:List (Int×α),yM .int (.int q k) (MK q f m)=some ((jx m k).map λp=>(p.1,f p.2))
 |[]=>rfl
 |(k',a)::m=>by have b:=jay q f k m;unfold MK at b ⊢;simp only[bc,yM,Ww,zd,jx];by_cases h:k=k';simp[h];rw[za h,show(k==k')=false by simpa using h];simp only[b,aU,im];rfl
def jdw {q:IntKind}{f:α->V}{ob:ZO}{l u:Nat}{z:V}{a:Bool}{k:Int}(m:List (Int×α)) (h:jY ob l u=some (MK q f m)) :
 Yc ob .int z a (.map l u) (.int q k)=some (match jx m k with|some p=>if a then .tup [f p.2,.bool true] else f p.2|none=>if a then .tup [z,.bool false] else z):=by
 simp only[Yc,Qz,zd,h,ap,jay,aU];cases jx m k<;>rfl
def j80 (m:List (Int×α)) (k:Int):Nat:=match jx m k with
 |some p=>p.1
 |none=>m.length
def jby (m:List (Int×α)) (k:Int) (z:α):α:=match jx m k with
 |some p=>p.2
 |none=>z
def jyu (m:List (Int×α)) (k:Int) (a:α):(Wi m k a)[j80 m k]? = some (k,a):=by
 unfold Wi j80;cases h:jx m k with
 |none=>simp
 |some p=>obtain⟨b,_⟩:=ji6 (i:=p.1) (a:=p.2) h;simp[dF b]
def jr3 (m:List (Int×α)) (k:Int) (a b:α):(Wi m k a).set (j80 m k) (k,b)=Wi m k b:=by
 unfold Wi j80;cases h:jx m k with
 |none=>simp
 |some p=>simp
def jr5 (m:List (Int×α)) (k:Int) (z:α):jby m k z=((jx m k).map (·.2)).getD z:=by unfold jby;cases jx m k<;>rfl
end
section
variable {α:Type}{f:α->V}{E:Env}{Yf:YF}{st:St}{ub:Nat}{K:St->Nat->Prop}{d:Option Nat}{nm:Bool}{x y z:A}{l u ver:Nat}{k:Int}{q:IntKind}
def jqm {b:FuncId->List V->Option V}{ro i:Nat}{a:α}(m:List (Int×α)) (j:ye E st.tm x=.map l u) (n:ye E st.tm y=.int q k) (o:(ye E st.tm z).strip=f a)
 (h:st.ob l=some ⟨u,.mp ver (MK q f m)⟩) (g:ro<=u):yS b (ye E st.tm) st.ob st.tk ro i ub (.mapSet .int x y z)=some { v:=js,obs:=[(l,⟨u,.mp (ver+1) (MK q f (Wi m k a))⟩)] }:=by
 have e:jY st.ob l u=some (MK q f m):=by simp[jY,h]
 have c:jn st.ob l=ver:=by simp[jn,h]
 simp only[yS,j,n,Qz,zd,e,ap,jay,c,o];rw[zb (by simpa using g)];unfold Wi;cases s:jx m k with
 |none=>simp[MK]
 |some p=>simp[MK,dv]
def jqn {c:FuncId->List V->Option V}{ro j:Nat}{zero:V}{a:α}(m:List (Int×α)) (n:ye E st.tm x=.map l u) (o:ye E st.tm y=.int q k) (s:zero=f a)
 (i:st.ob l=some ⟨u,.mp ver (MK q f m)⟩) (h:ro<=u) (b:ver<jpp) :
 yS c (ye E st.tm) st.ob st.tk ro j ub (.mapEnt .int zero x y)=some { v:=.tup [f (jby m k a),.int .i64 (j80 m k)],obs:=[(l,⟨u,.mp (ver+1) (MK q f (Wi m k (jby m k a)))⟩)] }:=by
 have g:jY st.ob l u=some (MK q f m):=by simp[jY,i]
 have e:jn st.ob l=ver:=by simp[jn,i]
 simp only[yS,n,o,Qz,zd,g,ap,jay,e,s];rw[zb (by simp only[ab];exact⟨bY▸h,by simpa using b⟩)];unfold Wi jby j80;cases t:jx m k with
 |none=>simp[MK]
 |some p=>simp[MK,dv]
def jvx {c:FuncId->List V->Option V}{ro p i:Nat}{b:α}{a:α}(m:List (Int×α)) (s:ye E st.tm x=.map l u) (t:ye E st.tm y=.int .i64 i) (w:(ye E st.tm z).strip=f a) (hi:m[i]? = some (k,b))
 (o:st.ob l=some ⟨u,.mp ver (MK q f m)⟩) (n:ro<=u) (e:ver<jpp) :
 yS c (ye E st.tm) st.ob st.tk ro p ub (.entSt x y z)=some { v:=js,obs:=[(l,⟨u,.mp (ver+1) (MK q f (m.set i (k,a)))⟩)] }:=by
 have j:jY st.ob l u=some (MK q f m):=by simp[jY,o]
 have g:jn st.ob l=ver:=by simp[jn,o]
 have h:(MK q f m)[i]? = some (.int q k,f b):=by simp[MK,hi]
 simp only[yS,s,t,g,show((i:Nat):Int)=Int.ofNat i from rfl];rw[zb (by simp only[ab];exact⟨bY▸n,by simpa using e⟩)];simp only[j,ap,h,w];simp[MK,dv]
section
variable {r:List AOpr}{K':List FP->St->Prop}
def ju4 {a:α}(m:List (Int×α)) (c:ye E st.tm x=.map l u) (e:ye E st.tm y=.int q k) (i:(ye E st.tm z).strip=f a)
 (g:st.ob l=some ⟨u,.mp ver (MK q f m)⟩) (b:st.ro<=u) (h:YW E r K' (ye E st.tm) (.mapSet .int x y z) st d ub { v:=js,obs:=[(l,⟨u,.mp (ver+1) (MK q f (Wi m k a))⟩)] }):jG E (⟨d,.mapSet .int x y z,none,nm⟩::r) st ub K':=by
 rw[jz rfl,jqm m c e i g b,jJ];exact h
def jji {zero:V}{a:α}(m:List (Int×α)) (e:ye E st.tm x=.map l u) (g:ye E st.tm y=.int q k) (j:zero=f a)
 (i:st.ob l=some ⟨u,.mp ver (MK q f m)⟩) (c:st.ro<=u) (b:ver<jpp)
 (h:YW E r K' (ye E st.tm) (.mapEnt .int zero x y) st d ub { v:=.tup [f (jby m k a),.int .i64 (j80 m k)],obs:=[(l,⟨u,.mp (ver+1) (MK q f (Wi m k (jby m k a)))⟩)] }):jG E (⟨d,.mapEnt .int zero x y,none,nm⟩::r) st ub K':=by
 rw[jz rfl,jqn m e g j i c b,jJ];exact h
def jnh {a b:α}{i:Nat}(m:List (Int×α)) (g:ye E st.tm x=.map l u) (j:ye E st.tm y=.int .i64 i) (o:(ye E st.tm z).strip=f a) (hi:m[i]? = some (k,b))
 (n:st.ob l=some ⟨u,.mp ver (MK q f m)⟩) (e:st.ro<=u) (c:ver<jpp)
 (h:YW E r K' (ye E st.tm) (.entSt x y z) st d ub { v:=js,obs:=[(l,⟨u,.mp (ver+1) (MK q f (m.set i (k,a)))⟩)] }):jG E (⟨d,.entSt x y z,none,nm⟩::r) st ub K':=by
 rw[jz rfl,jvx m g j o hi n e c,jJ];exact h
def jsh {f:FuncId}{xs:List A}{cs:List V}(e:xs.map (ye E st.tm)=[.sl none true 0 []]) (c:E.sh nm f=true) (b:E.tw f=false) (g:E.nw f=some cs)
 (h:jG E r (st.app d { v:=.ptr (jI d nm st.fb ub) ub 0,obs:=[(jI d nm st.fb ub,⟨ub,.cells cs⟩)] }) (ub+64) (kFp { wo:=[jI d nm st.fb ub],nw:=true } K')):jG E (⟨d,.call f xs,none,nm⟩::r) st ub K':=by
 have a:jC E nm (ye E st.tm) (.call f xs)=some (f,[.sl none true 0 []]):=by simp only[jC,c,e,bN,bE,ah,zc]
 simp only[jG,yJ,a];refine .inr (.inr ⟨c,b,{ v:=.ptr (jI d nm st.fb ub) ub 0,obs:=[(jI d nm st.fb ub,⟨ub,.cells cs⟩)] },?_,h⟩);simp only[mkD,g];cases nm<;>rfl
end
end
def jpl:List FP->Bool
 |[]=>true
 |f::r=>(r.all λg=>(!f.nw||QI f g)&&(!g.nw||QI g f))&&jpl r
def jr1:∀{fs:List FP},jpl fs=true->∀{i j:Nat}{f g:FP},fs[i]? = some f->fs[j]? = some g->i≠j->f.nw=true->QI f g=true
 |[],_,i,j,f,g,hi,_,_,_=>by simp at hi
 |f0::r,h,i,j,f,g,hi,hj,hne,hn=>by
  simp only[jpl,ab,av,bq,bG]at h;cases i with
  |zero=>
   cases j with
   |zero=>exact zf rfl hne
   |succ j=>simp only[aD,ae,bS]at hi hj;subst hi;rcases(h.1 g (aH hj)).1 with h|h;rw[hn]at h;cases h;exact h
  |succ i=>
   cases j with
   |zero=>simp only[aD,ae,bS]at hi hj;subst hj;rcases(h.1 f (aH hi)).2 with h|h;rw[hn]at h;cases h;exact h
   |succ j=>simp only[bS]at hi hj;exact jr1 h.2 hi hj (λe=>hne (by rw[e])) hn
def jr2 {fs:List FP}(h:jpl fs=true):jbw fs=true:=by
 unfold jbw jys;rw[bq];refine .inr ?_;rw[av];intro i a;rw[aM]at a;have m:fs[i]? = some (fs.getD i {}):=by rw[am,aa a];rfl
 cases g:(fs.getD i {}).nw;rfl;rw[bN,bQ,av];intro j b;rw[aM]at b;have c:fs[j]? = some (fs.getD j {}):=by rw[am,aa b];rfl
 by_cases e:i=j;subst e;simp;rw[jr1 h m c e g,Bool.or_true]
def jm2:jpl []=true:=rfl
def ji4 (f:FP) (r:List FP):jpl (f::r)=((r.all λg=>(!f.nw||QI f g)&&(!g.nw||QI g f))&&jpl r):=rfl
end Go.Pv
namespace Go.Pv.T
open Go Go.Pv Go.Proofs Tryz
noncomputable section
def cbvRow (mj j:Nat):List (Nat×Nat):=match mj+1==1<<<j with
 |true=>[]
 |false=>((List.range j).filter λi=>!mj.testBit i).map λi=>(i,j)
def j0y:List Nat->Nat->List (Nat×Nat)
 |[],_=>[]
 |m::r,j=>cbvRow m j++j0y r (j+1)
def cbvOk:List Oper->Nat->Bool
 |[],_=>true
 |o::r,j=>o.after.all (λe=>!Region.binds .any e||decide (e.on<j))&&cbvOk r (j+1)
def cbvAp (x y:AOpr):Bool :=
 (match x.dst with
  |some d=>!(y.looks.any λt=>t==d)&&(match y.dst with|some e=>!(e==d)|none=>true)
  |none=>true) &&
 (match y.dst with
  |some d=>!(x.looks.any λt=>t==d)
  |none=>true)
def cbvDQ (als:List AOpr) (pairs:List (Nat×Nat)):Option (List (Nat×Nat)) :=
 match pairs.all λp=>match als[p.1]?,als[p.2]? with|some x,some y=>cbvAp x y|_,_=>true with
 |true=>some (pairs.filter λp=>match als[p.1]?,als[p.2]? with|some x,some y=>!x.op.quiet y.op|_,_=>false)
 |false=>none
def cbvDP (ops:Array Oper) (als:List AOpr):Option (List (Nat×Nat)):=match cbvOk ops.toList 0 with
 |true=>cbvDQ als (j0y (JH ops.toList []) 0)
 |false=>none
def cbvMA (mj j:Nat):Bool:=match mj+1==1<<<j with
 |true=>true
 |false=>(List.range j).all λi=>mj.testBit i
def cbvMB:List Nat->Nat->Nat->Nat
 |[],_,k=>k
 |m::r,j,k=>match cbvMA m j with|true=>cbvMB r (j+1) k|false=>cbvMB r (j+1) (j+1)
def j5j:List AOpr->Nat->Option Nat->Option Nat
 |[],_,x=>x
 |o::r,j,x=>match o.op.isCall with|true=>j5j r (j+1) (some j)|false=>j5j r (j+1) x
def cbvMid (ms:List Nat) (als:List AOpr) (c:Nat):Bool :=
 match (als.drop (c+1)).any λo=>match o.op with|.extract _ _=>true|_=>false with
 |false=>false
 |true=>match cbvMA (ms.getD c 0) c with
  |false=>false
  |true=>((ms.drop (c+1)).zip (als.drop (c+1))).all λp=>((List.range (c+1)).all λi=>p.1.testBit i)&&p.2.op.still
def cbvPX (o:AOpr) (d j:Nat):List AOpr->Nat->Bool
 |[],_=>true
 |x::r,i=>match (i==j||match x.dst with|some e=>!(e==d)|none=>true)&&(decide (j<i) || !(x.looks.any λt=>t==d)) with
  |true=>cbvPX o d j r (i+1)
  |false=>false
def cbvPin (ms:List Nat) (als:List AOpr) (k c:Nat):Bool :=
 match decide (c+1<k) with
 |false=>false
 |true=>match cbvMA (ms.getD c 0) c with
  |false=>false
  |true=>(((ms.take k).zip ((als.take k).zip (List.range k))).drop (c+1)).all λp=>match p.2.1.op.still && !p.1.testBit c with
   |false=>false
   |true=>match p.2.1.dst with
    |some d=>cbvPX p.2.1 d p.2.2 (als.take k) 0
    |none=>true
def cbvDrN (l:List AOpr) (free:List (Nat×Nat)) (ms:List Nat) (k:Nat):C :=
 match decide (k<l.length)&&(l.drop k).any (λo=>o.op.isCall) with
 |true=>match (j5j (l.take k) 0 none).filter (cbvPin ms l k) with
  |some c=>.seq (.draw ((l.take k).set c jgk) free) (.seq (.pin (l.getD c jgk) ((l.take k).drop (c+1))) (.region (l.drop k)))
  |none=>.seq (.draw (l.take k) free) (.region (l.drop k))
 |false=>match (j5j l 0 none).filter (cbvMid ms l) with
  |some c=>.seq (.draw (l.take c) free) (.seq (.region [l.getD c jgk]) (.draw (List.replicate (c+1) jgk++l.drop (c+1)) free))
  |none=>.draw l free
def cbvDrM (l:List AOpr) (free:List (Nat×Nat)) (ms:List Nat):C:=cbvDrN l free ms (cbvMB ms 0 0)
def cbvRg (P:Program) (m:Bool) (ops:Array Oper):Bool->Option C
 |false=>(ops.toList.mapM (Jf P m ops)).map .region
 |true=>(ops.toList.mapM (Jf P m ops)).map λl=>match cbvDP ops l with
  |some free=>match m with
   |true=>cbvDrM l free (JH ops.toList [])
   |false=>.draw l free
  |none=>.stuck
def jh5 (P:Program) (m r:Bool):Code->Option C
 | .skip=>some .skip
 | .region _ ops d=>cbvRg P m ops d
 | .seq a b=>(jh5 P m r a).bind λa=>(jh5 P m r b).map (.seq a)
 | .cond c a b=>(opd c).bind λc=>(jh5 P m r a).bind λa=>(jh5 P m r b).map (.cond c a)
 | .block id a=>(jh5 P m r a).map (.block id)
 | .loop a=>(jh5 P m r a).map .loop
 | .exit id=>some (.exit id)
 | .ret=>some .ret
 | .rangeFunc f ps a b=>match r with|true=>some .stuck|false=>(opd f).bind λf=>(jh5 P m true a).bind λa=>(jh5 P m true b).map (.rangeFunc f ps.toList a)
 |_=>some .stuck
noncomputable def cf (m r:Bool) (fn:Func):AF:=(fn.body.bind λc=>(jh5 Tryz.prog m r c).bind λb=>(fn.results.toList.mapM (Yh Tryz.prog)).map λr=>{ body:=b,res:=r }).getD ⟨.stuck,[]⟩
def cfa:=cf false false
def cfb:=cf true false
def cfc:=cf true true
abbrev oo (d:Nat) (p:AOp):AOpr:=⟨some d,p,none,false⟩
abbrev og (d:Nat) (p:AOp) (t:Nat) (b:Bool):AOpr:=⟨some d,p,some (t,b),false⟩
abbrev qg (d:Nat) (p:AOp) (t:Nat) (b:Bool):AOpr:=⟨some d,p,some (t,b),true⟩
abbrev oh (p:AOp) (t:Nat) (b:Bool):AOpr:=⟨none,p,some (t,b),false⟩
abbrev ov (d k:Nat):AOpr:=⟨some d,.mov (.t k),none,false⟩
abbrev nn (k:Int):A:=.c (.int .i64 k)
abbrev ol (d k:Nat):AOpr:=⟨some d,.load none (.t k),none,false⟩
abbrev os (d n k:Nat):AOpr:=⟨some d,.load (some n) (.t k),none,false⟩
abbrev om (d:Nat) (k:Int):AOpr:=⟨some d,.mov (nn k),none,false⟩
abbrev of (d n k:Nat):AOpr:=⟨some d,.fieldAddr n (.t k),none,false⟩
abbrev on (d:Nat) (p:BinOp) (a:Nat) (k:Int):AOpr:=⟨some d,.bin p (.t a) (nn k),none,false⟩
abbrev ob (d:Nat) (p:BinOp) (a b:Nat):AOpr:=⟨some d,.bin p (.t a) (.t b),none,false⟩
abbrev qs (d n k:Nat):AOpr:=⟨some d,.load (some n) (.t k),none,true⟩
abbrev qn (d:Nat) (p:BinOp) (a:Nat) (k:Int):AOpr:=⟨some d,.bin p (.t a) (nn k),none,true⟩
abbrev qb (d:Nat) (p:BinOp) (a b:Nat):AOpr:=⟨some d,.bin p (.t a) (.t b),none,true⟩
abbrev sr (l:List AOpr) (b:C):C:=.seq (.region l) b
abbrev aF:A:=.c (.bool false)
abbrev aT:A:=.c (.bool true)
abbrev fA:=AOp.fieldAddr
abbrev sq:=C.seq
abbrev rg:=C.region
abbrev lS:=AOp.lenSl
abbrev Z0:A:=.t 0
abbrev Z3:A:=.t 3
abbrev Z4:A:=.t 4
abbrev wF (d:Nat) (p:AOp) (t:Nat):AOpr:=og d p t false
abbrev zF (d:Nat) (p:AOp) (t:Nat):AOpr:=qg d p t false
abbrev uF (p:AOp) (t:Nat):AOpr:=oh p t false
def F4:=cfa f4
def F9:=cfb f9
def F10:=cfa f10
def F11:=cfa f11
def F12:=cfb f12
def F15:=cfa f15
def F16:=cfa f16
def F17:=cfa f17
def F18:=cfa f18
def F19:=cfa f19
def F25:=cfa f25
def F28:=cfa f28
def F30:=cfa f30
def F34:=cfa f34
def F35:=cfa f35
def F36:=cfa f36
def F37:=cfa f37
def F38:=cfa f38
def F41:=cfa f41
def F48:=cfb f48
def F49:=cfa f49
def F50:=cfa f50
def F53:=cfa f53
def F54:=cfa f54
def F55:=cfa f55
def F57:=cfb f57
def F63:=cfa f63
def F64:=cfa f64
def F65:=cfa f65
def F66:=cfa f66
def F67:=cfa f67
def F68:=cfa f68
def F69:=cfa f69
def F70:=cfa f70
def F71:=cfa f71
def F72:=cfa f72
def F73:=cfa f73
def F74:=cfb f74
def F79:=cfa f79
def F87:=cfa f87
def F90:=cfa f90
def F92:=cfa f92
def F93:=cfa f93
def F94:=cfa f94
def F95:=cfa f95
def F98:=cfb f98
def F101:=cfb f101
def F102:=cfb f102
def F106:=cfa f106
def F107:=cfa f107
def F108:=cfa f108
def F109:=cfa f109
def F110:=cfa f110
def F111:=cfa f111
def F112:=cfa f112
def F113:=cfb f113
def F114:=cfa f114
def F128:=cfa f128
def F129:=cfa f129
def F130:=cfa f130
def F137:=cfa f137
def F141:=cfa f141
def F144:=cfa f144
def F146:=cfa f146
def F148:=cfa f148
def F161:=cfa f161
def F162:=cfa f162
def F163:=cfa f163
def F165:=cfa f165
def F169:=cfa f169
def F188:=cfa f188
def F189:AF:=⟨sr [oo 2 (.mov aF)] (sr [ov 3 0,oo 4 (.bin .eql Z3 (.c (.str [98,101,103,105,110]))),ov 5 4,wF 6 (.mov Z0) 5,wF 7 (.bin .eql (.t 6) (.c (.str [114,101,97,100]))) 5,oo 8 (.pick (.t 5) aT (.t 7)),ov 9 8,wF 10 (.mov Z0) 9,wF 11 (.bin .eql (.t 10) (.c (.str [119,114,105,116,101]))) 9,oo 12 (.pick (.t 9) aT (.t 11)),ov 13 12,wF 14 (.mov Z0) 13,wF 15 (.bin .eql (.t 14) (.c (.str [111,107]))) 13,oo 16 (.pick (.t 13) aT (.t 15)),ov 17 16,wF 18 (.mov Z0) 17,wF 19 (.bin .eql (.t 18) (.c (.str [102,97,105,108]))) 17,oo 20 (.pick (.t 17) aT (.t 19)),ov 21 20,wF 22 (.mov Z0) 21,wF 23 (.bin .eql (.t 22) (.c (.str [105,110,102,111]))) 21,oo 24 (.pick (.t 21) aT (.t 23)),ov 25 24,wF 26 (.mov Z0) 25,wF 27 (.bin .eql (.t 26) (.c (.str [110,105,108]))) 25,oo 28 (.pick (.t 25) aT (.t 27)),ov 2 28] .ret),[.t 2]⟩
def F190:=cfa f190
def F197:AF:=⟨sr [oo 2 (.mov aF)] (sq (sr [ov 3 0] (.block 0 (sq (sr [oo 5 (.bin .eql Z3 (.c (.str [98,101,103,105,110]))),ov 4 5] (.cond Z4 .skip (sr [oo 6 (.bin .eql Z3 (.c (.str [114,101,97,100]))),ov 4 6] (.cond Z4 .skip (sr [oo 7 (.bin .eql Z3 (.c (.str [119,114,105,116,101]))),ov 4 7] (.cond Z4 .skip (sr [oo 8 (.bin .eql Z3 (.c (.str [111,107]))),ov 4 8] (.cond Z4 .skip (sr [oo 9 (.bin .eql Z3 (.c (.str [102,97,105,108]))),ov 4 9] (.cond Z4 .skip (sr [oo 10 (.bin .eql Z3 (.c (.str [105,110,102,111]))),ov 4 10] (.cond Z4 .skip (rg [oo 11 (.bin .eql Z3 (.c (.str [110,105,108]))),ov 4 11]))))))))))))) (.cond Z4 (sr [oo 2 (.mov aT)] .ret) .skip)))) (sr [oo 2 (.mov aF)] .ret)),[.t 2]⟩
def F198:=cfa f198
def F199:=cfa f199
def F200:=cfa f200
def F206:=cfa f206
def F207:=cfa f207
def F208:=cfa f208
def F218:=cfa f218
def F222:=cfa f222
def F243:=cfa f243
def F250:AF:=⟨sr [oo 2 (.mov (.c (.int .u64 0)))] (sq (.cond aF (sq (.draw [ov 3 0,oo 4 (.idxStr Z3 (nn 0)),oo 5 (.conv .u64 Z4),ov 6 0,oo 7 (.idxStr (.t 6) (nn 1)),oo 8 (.conv .u64 (.t 7)),oo 9 (.bin .shl (.t 8) (.c (.int .u64 8))),ob 10 .or 5 9,ov 11 0,oo 12 (.idxStr (.t 11) (nn 2)),oo 13 (.conv .u64 (.t 12)),oo 14 (.bin .shl (.t 13) (.c (.int .u64 16))),ob 15 .or 10 14,ov 16 0,oo 17 (.idxStr (.t 16) (nn 3)),oo 18 (.conv .u64 (.t 17)),oo 19 (.bin .shl (.t 18) (.c (.int .u64 24))),ob 20 .or 15 19,ov 2 20] []) .ret) .skip) (sq (.draw [ov 21 0,oo 22 (.idxStr (.t 21) (nn 0)),oo 23 (.conv .u64 (.t 22)),ov 24 0,oo 25 (.idxStr (.t 24) (nn 1)),oo 26 (.conv .u64 (.t 25)),oo 27 (.bin .shl (.t 26) (.c (.int .u64 8))),ob 28 .or 23 27,ov 29 0,oo 30 (.idxStr (.t 29) (nn 2)),oo 31 (.conv .u64 (.t 30)),oo 32 (.bin .shl (.t 31) (.c (.int .u64 16))),ob 33 .or 28 32,ov 34 0,oo 35 (.idxStr (.t 34) (nn 3)),oo 36 (.conv .u64 (.t 35)),oo 37 (.bin .shl (.t 36) (.c (.int .u64 24))),ob 38 .or 33 37,ov 39 0,oo 40 (.idxStr (.t 39) (nn 4)),oo 41 (.conv .u64 (.t 40)),oo 42 (.bin .shl (.t 41) (.c (.int .u64 32))),ob 43 .or 38 42,ov 44 0,oo 45 (.idxStr (.t 44) (nn 5)),oo 46 (.conv .u64 (.t 45)),oo 47 (.bin .shl (.t 46) (.c (.int .u64 40))),ob 48 .or 43 47,ov 49 0,oo 50 (.idxStr (.t 49) (nn 6)),oo 51 (.conv .u64 (.t 50)),oo 52 (.bin .shl (.t 51) (.c (.int .u64 48))),ob 53 .or 48 52,ov 54 0,oo 55 (.idxStr (.t 54) (nn 7)),oo 56 (.conv .u64 (.t 55)),oo 57 (.bin .shl (.t 56) (.c (.int .u64 56))),ob 58 .or 53 57,ov 2 58] []) .ret)),[.t 2]⟩
def F253:=cfa f253
end
noncomputable section
def F290:=cfa f290
def F291:=cfa f291
def F314:=cfa f314
def F321:=cfa f321
def S27:=cfc f27
def S31:=cfc f31
def S56:=cfc f56
def S58:=cfc f58
def S80:=cfc f80
def S88:=cfc f88
def S89:=cfc f89
def S91:=cfc f91
def S96:=cfc f96
def S97:=cfc f97
def S99:=cfc f99
def S100:=cfc f100
def S115:=cfc f115
def S116:=cfc f116
def S117:=cfc f117
def S118:=cfc f118
def S121:=cfc f121
def S122:=cfc f122
def S143:=cfc f143
def S145:=cfc f145
def S147:=cfc f147
def S148:=cfc f148
def S149:=cfc f149
def S150:=cfc f150
def S151:=cfc f151
def S152:=cfc f152
def S153:=cfc f153
def S154:=cfc f154
def S164:=cfc f164
def S166:=cfc f166
def S168:=cfc f168
def S170:=cfc f170
def S171:=cfc f171
def S172:=cfc f172
def S175:=cfc f175
def S176:=cfc f176
def S178:=cfc f178
def S180:=cfc f180
def S181:=cfc f181
def S209:=cfc f209
def S210:=cfc f210
def S211:=cfc f211
def S212:=cfc f212
def S213:=cfc f213
def S217:=cfc f217
def S220:=cfc f220
def S221:=cfc f221
def S222:=cfc f222
def S233:=cfc f233
def S234:=cfc f234
def S235:=cfc f235
def S237:=cfc f237
def S255:=cfc f255
def S256:=cfc f256
def S257:=cfc f257
def S258:=cfc f258
def S259:=cfc f259
def S261:=cfc f261
def S262:=cfc f262
def S263:=cfc f263
def S273:=cfc f273
def S292:=cfc f292
def S293:=cfc f293
def S298:=cfc f298
end
noncomputable section
def utf8first:List V:=(List.range 256).map λi=>V.int .u8 (if i<128 then 240 else if i<194 then 241 else if i<224 then 2 else if i=224 then 19 else if i<237 then 3 else if i=237 then 35 else if i<240 then 3 else if i=240 then 52 else if i<244 then 4 else if i=244 then 68 else 241:Nat)
def words:List V:=[.str [],.str [98,101,103,105,110],.str [114,101,97,100],.str [119,114,105,116,101],.str [111,107],.str [102,97,105,108],.str [105,110,102,111]]
def accR:List V:=[.int .u8 128,.int .u8 191,.int .u8 160,.int .u8 191,.int .u8 128,.int .u8 159,.int .u8 144,.int .u8 191,.int .u8 128,.int .u8 143,.int .u8 0,.int .u8 0,.int .u8 0,.int .u8 0,.int .u8 0,.int .u8 0,.int .u8 0,.int .u8 0,.int .u8 0,.int .u8 0,.int .u8 0,.int .u8 0,.int .u8 0,.int .u8 0,.int .u8 0,.int .u8 0,.int .u8 0,.int .u8 0,.int .u8 0,.int .u8 0,.int .u8 0,.int .u8 0]
def setZ:List V:=[.int .u64 0,.int .u64 0,.int .u64 0,.int .u64 0,.int .u64 0,.int .u64 0,.int .u64 0,.int .u64 0]
def bruij:List V:=([0,1,56,2,57,49,28,3,61,58,42,50,38,29,17,4,62,47,59,36,45,43,51,22,53,39,33,30,24,18,12,5,63,55,48,27,60,41,37,16,46,35,44,21,52,32,23,11,54,26,40,15,34,20,31,10,25,14,19,9,13,8,7,6]:List Int).map (V.int .u8)
def fc_2:FuncId->Option AF
 |195=>some (cfa f195)
 |196=>some (cfa f196)
 |197=>some F197
 |198=>some F198
 |199=>some F199
 |200=>some F200
 |201=>some (cfa f201)
 |202=>some (cfa f202)
 |206=>some F206
 |207=>some F207
 |208=>some F208
 |211=>some (cfa f211)
 |218=>some F218
 |222=>some F222
 |232=>some (cfa f232)
 |233=>some (cfa f233)
 |234=>some (cfa f234)
 |235=>some (cfa f235)
 |236=>some (cfa f236)
 |237=>some (cfa f237)
 |243=>some F243
 |245=>some (cfa f245)
 |246=>some (cfa f246)
 |247=>some (cfa f247)
 |248=>some (cfa f248)
 |249=>some (cfa f249)
 |250=>some F250
 |251=>some (cfa f251)
 |253=>some F253
 |255=>some (cfa f255)
 |279=>some (cfa f279)
 |280=>some (cfa f280)
 |281=>some (cfa f281)
 |286=>some (cfa f286)
 |287=>some (cfa f287)
 |288=>some (cfa f288)
 |290=>some F290
 |291=>some F291
 |301=>some (cfa f301)
 |305=>some (cfa f305)
 |314=>some F314
 |321=>some F321
 |_=>none
def fc_1:FuncId->Option AF
 |94=>some F94
 |95=>some F95
 |98=>some F98
 |101=>some F101
 |102=>some F102
 |106=>some F106
 |107=>some F107
 |108=>some F108
 |109=>some F109
 |110=>some F110
 |111=>some F111
 |112=>some F112
 |113=>some F113
 |114=>some F114
 |123=>some (cfa f123)
 |124=>some (cfa f124)
 |128=>some F128
 |129=>some F129
 |130=>some F130
 |131=>some (cfa f131)
 |132=>some (cfa f132)
 |133=>some (cfa f133)
 |134=>some (cfa f134)
 |135=>some (cfa f135)
 |136=>some (cfa f136)
 |137=>some F137
 |138=>some (cfa f138)
 |141=>some F141
 |142=>some (cfa f142)
 |144=>some F144
 |146=>some F146
 |147=>some (cfa f147)
 |148=>some F148
 |161=>some F161
 |162=>some F162
 |163=>some F163
 |165=>some F165
 |169=>some F169
 |174=>some (cfa f174)
 |178=>some (cfa f178)
 |179=>some (cfa f179)
 |180=>some (cfa f180)
 |181=>some (cfa f181)
 |182=>some (cfa f182)
 |188=>some F188
 |189=>some F189
 |190=>some F190
 |191=>some (cfa f191)
 |192=>some (cfa f192)
 |194=>some (cfa f194)
 |f=>fc_2 f
def fc:FuncId->Option AF
 |4=>some F4
 |9=>some F9
 |10=>some F10
 |11=>some F11
 |12=>some F12
 |15=>some F15
 |16=>some F16
 |17=>some F17
 |18=>some F18
 |19=>some F19
 |25=>some F25
 |28=>some F28
 |29=>some (cfa f29)
 |30=>some F30
 |34=>some F34
 |35=>some F35
 |36=>some F36
 |37=>some F37
 |38=>some F38
 |41=>some F41
 |48=>some F48
 |49=>some F49
 |50=>some F50
 |51=>some (cfa f51)
 |52=>some (cfb f52)
 |53=>some F53
 |54=>some F54
 |55=>some F55
 |57=>some F57
 |63=>some F63
 |64=>some F64
 |65=>some F65
 |66=>some F66
 |67=>some F67
 |68=>some F68
 |69=>some F69
 |70=>some F70
 |71=>some F71
 |72=>some F72
 |73=>some F73
 |74=>some F74
 |75=>some (cfb f75)
 |79=>some F79
 |81=>some (cfa f81)
 |82=>some (cfa f82)
 |85=>some (cfa f85)
 |87=>some F87
 |90=>some F90
 |92=>some F92
 |93=>some F93
 |f=>fc_1 f
def fs_1:FuncId->Option AF
 |204=>some (cfc f204)
 |205=>some (cfc f205)
 |209=>some S209
 |210=>some S210
 |211=>some S211
 |212=>some S212
 |213=>some S213
 |217=>some S217
 |220=>some S220
 |221=>some S221
 |222=>some S222
 |233=>some S233
 |234=>some S234
 |235=>some S235
 |237=>some S237
 |252=>some (cfc f252)
 |254=>some (cfc f254)
 |255=>some S255
 |256=>some S256
 |257=>some S257
 |258=>some S258
 |259=>some S259
 |261=>some S261
 |262=>some S262
 |263=>some S263
 |273=>some S273
 |289=>some (cfc f289)
 |291=>some (cfc f291)
 |292=>some S292
 |293=>some S293
 |298=>some S298
 |306=>some (cfc f306)
 |_=>none
def fs:FuncId->Option AF
 |27=>some S27
 |31=>some S31
 |56=>some S56
 |58=>some S58
 |80=>some S80
 |83=>some (cfc f83)
 |84=>some (cfc f84)
 |86=>some (cfc f86)
 |88=>some S88
 |89=>some S89
 |91=>some S91
 |96=>some S96
 |97=>some S97
 |99=>some S99
 |100=>some S100
 |115=>some S115
 |116=>some S116
 |117=>some S117
 |118=>some S118
 |121=>some S121
 |122=>some S122
 |123=>some (cfc f123)
 |124=>some (cfc f124)
 |139=>some (cfc f139)
 |140=>some (cfc f140)
 |143=>some S143
 |145=>some S145
 |147=>some S147
 |148=>some S148
 |149=>some S149
 |150=>some S150
 |151=>some S151
 |152=>some S152
 |153=>some S153
 |154=>some S154
 |164=>some S164
 |166=>some S166
 |168=>some S168
 |170=>some S170
 |171=>some S171
 |172=>some S172
 |175=>some S175
 |176=>some S176
 |177=>some (cfc f177)
 |178=>some S178
 |179=>some (cfc f179)
 |180=>some S180
 |181=>some S181
 |182=>some (cfc f182)
 |203=>some (cfc f203)
 |f=>fs_1 f
def shl:List Nat:=[31,58,80,83,91,99,100,103,115,116,117,118,119,121,122,139,149,150,151,152,153,154,159,164,166,167,168,170,175,176,177,203,204,209,213,215,217,252,254,273,276,289,298,306,307,308,309,310,311,312,313,318,319,320,322]
def shm:List Nat:=[27,38,113]
def fzl:List Nat:=[113]
def twl:List Nat:=[113]
def E:Env:={ sh:=λnm f=>shl.any (Nat.beq f)||(nm&&shm.any (Nat.beq f)),fz:=λf=>fzl.any (Nat.beq f),tw:=λf=>twl.any (Nat.beq f),srt:=λf=>match f with|167=>some none|119=>some (some 120)|_=>none,fc:=fc,fs:=fs,gl:=(λg=>match g with|0=>some words|2=>some utf8first|3=>some accR|4=>some bruij|_=>none),nw:=λf=>match f with|151=>some setZ|_=>none }
end
end Go.Pv.T
