/- Part. -/
import Derived.Test.YtmanndcfeicokaaGreatDoorRB
import Derived.KernelRfl
import Derived.Test.YtmanndcfeicokaaGreatDoorRows
set_option maxRecDepth 100000
set_option maxHeartbeats 8000000
set_option linter.all false
namespace Go.Pv
open Go
def jbk:V->Bool->Prop->Prop->Prop
 | .bool c,b,p,q=>(c=b->p)/\(c = !b->q)
 | .tup [],_,_,q=>q
 |_,_,_,_=>False
def wpIf:V->Prop->Prop->Prop
 | .bool c,p,q=>(c=true->p)/\(c=false->q)
 |_,_,_=>False
def wpV (o:Option V) (k:V->Prop):Prop:=∃v,o=some v/\k v
def wpD (o:Option Delta) (k:Delta->Prop):Prop:=∃v,o=some v/\k v
def jqq (v:V) (k:V->Prop):wpV (some v) k=k v:=by simp[wpV]
def jqr (k:V->Prop):wpV none k=False:=by simp[wpV]
def j6z (c:Prop) [Decidable c] (o:Option V) (k:V->Prop):wpV (if c then o else none) k=(c/\wpV o k):=by by_cases h:c<;>simp[h,wpV]
def j1a (c:Prop) [Decidable c] (o:Option V) (k:V->Prop):wpV (if c then none else o) k=(¬c/\wpV o k):=by by_cases h:c<;>simp[h,wpV]
def jG (v:Delta) (k:Delta->Prop):wpD (some v) k=k v:=by simp[wpD]
def jb6 (k:Delta->Prop):wpD none k=False:=by simp[wpD]
def jfk (c:Prop) [Decidable c] (o:Option Delta) (k:Delta->Prop):wpD (if c then o else none) k=(c/\wpD o k):=by by_cases h:c<;>simp[h,wpD]
def j1m (c:Prop) [Decidable c] (o:Option Delta) (k:Delta->Prop):wpD (if c then none else o) k=(¬c/\wpD o k):=by by_cases h:c<;>simp[h,wpD]
def St.setT (st:St) (d:Option Nat) (v:V):St:={ st with tm:=put st.tm d v }
def ja8 (st:St) (d:Option Nat) (v:V):st.app d { v:=v }=st.setT d v:=by simp[St.app,Jl,Xt,St.setT]
def j7p (st:St) (d n:Nat) (v:V):(st.setT (some d) v).tm n=if n=d then v else st.tm n:=by simp[St.setT,put,yg]
def j16 (st:St) (n:Nat) (v:V):(st.setT none v).tm n=st.tm n:=rfl
def W2 (st:St) (d:Option Nat) (v:V):(st.setT d v).ob=st.ob:=rfl
def jor (st:St) (d:Option Nat) (v:V):(st.setT d v).tk=st.tk:=rfl
def j7q (st:St) (d:Option Nat) (v:V):(st.setT d v).ro=st.ro:=rfl
def j7r (st:St) (d:Option Nat) (v:V):(st.setT d v).nx=st.nx:=rfl
def j7s (st:St) (d:Option Nat) (v:V):(st.setT d v).fb=st.fb:=rfl
def j7t (st:St) (d:Option Nat) (v:V):(st.setT d v).df=st.df:=rfl
def St.setN (st:St) (n:Nat):St:={ st with nx:=n }
def jos (st:St) (n:Nat):(st.setN n).tm=st.tm:=rfl
def Ja (st:St) (n:Nat):(st.setN n).ob=st.ob:=rfl
def jwy (st:St) (n:Nat):(st.setN n).tk=st.tk:=rfl
def j7u (st:St) (n:Nat):(st.setN n).ro=st.ro:=rfl
def jjy (st:St) (n:Nat):(st.setN n).nx=n:=rfl
def j7v (st:St) (n:Nat):(st.setN n).fb=st.fb:=rfl
def j7w (st:St) (n:Nat):(st.setN n).df=st.df:=rfl
def jn1 (st:St) (d n:Nat) (δ:Delta):(st.app (some d) δ).tm n=if n=d then δ.v else st.tm n:=by simp[St.app,put,yg]
def app_tm0 (st:St) (n:Nat) (δ:Delta):(st.app none δ).tm n=st.tm n:=rfl
def app_ro (st:St) (d:Option Nat) (δ:Delta):(st.app d δ).ro=st.ro:=rfl
def app_nx (st:St) (d:Option Nat) (δ:Delta):(st.app d δ).nx=st.nx:=rfl
def app_fb (st:St) (d:Option Nat) (δ:Delta):(st.app d δ).fb=st.fb:=rfl
def app_df (st:St) (d:Option Nat) (δ:Delta):(st.app d δ).df=st.df:=rfl
def app_ob (st:St) (d:Option Nat) (v:V) (del:Option Nat) (add:List Nat):(st.app d { v:=v,del:=del,add:=add }).ob=st.ob:=by simp[St.app,Jl]
def jb (st:St) (d:Option Nat) (δ:Delta) (u:Nat):(st.app d δ).tk u=if u∈δ.add then true else if u∈δ.del.toList then false else st.tk u:=by simp only[St.app,jbn]
def XM (st:St) (d:Option Nat) (v:V) (l k:Nat) (o:Obj') (add:List Nat):(st.app d { v:=v,obs:=[(l,o)],add:=add }).ob k=if k=l then some o else st.ob k:=by simp[St.app,Jl,yg]
def j1t (args:List V) (n:Nat):(ja4 args).tm n=args.getD n jx:=rfl
def j1w (args:List V) (n:Nat):(ja4 args).ob n=none:=rfl
def j1u (args:List V) (n:Nat):(ja4 args).tk n=false:=rfl
def j1v (args:List V):(ja4 args).ro=0:=rfl
def j1x (args:List V):(ja4 args).nx=0:=rfl
def j1y (args:List V):(ja4 args).fb=0:=rfl
def j1z (args:List V):(ja4 args).df=[]:=rfl
def eval_t (E:Env) (tm:Nat->V) (n:Nat):ye E tm (.t n)=tm n:=rfl
def eval_c (E:Env) (tm:Nat->V) (v:V):ye E tm (.c v)=v:=rfl
def j2o:V->V->V->Option V
 | .bool t,a,b=>some (cond t a b)
 |_,_,_=>none
def juc (t:Bool) (a b:V):j2o (.bool t) a b=some (cond t a b):=rfl
def W9 (ob:ZO) (g:Option Nat):V->Option V
 | .eptr cs off=>Y2 g cs off
 | .ptr l u off=>(ya ob l u).bind λcs=>Y2 g cs off
 |_=>none
def jdy (ob:ZO) (g:Option Nat) (cs:List V) (off:Nat):W9 ob g (.eptr cs off)=Y2 g cs off:=rfl
def j8s (ob:ZO) (g:Option Nat) (l u off:Nat):W9 ob g (.ptr l u off)=(ya ob l u).bind λcs=>Y2 g cs off:=rfl
def jcq:V->Option V
 | .ptr l u o=>some (.ptr l u o)
 | .eptr cs o=>some (.eptr cs o)
 | .fn (.func f) a b=>some (.fn (.func f) a b)
 |_=>none
def Q5 (off:Nat):V->Option V
 | .ptr l u o=>some (.ptr l u (o+off))
 | .eptr cs o=>some (.eptr cs (o+off))
 |_=>none
def jv (sz:Nat):V->V->Option V
 | .sl _ _ n cs,.int _ i=>if 0<=i/\i<n/\cs.length=n*sz then some (.eptr cs (i.toNat*sz)) else none
 | .osl l u off n sz',.int _ i=>if 0<=i/\i<n/\sz'=sz then some (.ptr l u (off+i.toNat*sz)) else none
 |_,_=>none
def Wj (len sz:Nat):V->V->Option V
 | .ptr l u off,.int _ i=>if 0<=i/\i<len then some (.ptr l u (off+i.toNat*sz)) else none
 | .eptr cs off,.int _ i=>if 0<=i/\i<len then some (.eptr cs (off+i.toNat*sz)) else none
 |_,_=>none
def j8b (g:Option Nat) (off:Nat):V->Option V
 | .agg cs=>Y2 g cs off
 |_=>none
def Qx:V->V->Option V
 | .str s,.int _ i=>if 0<=i then (s[i.toNat]?).map λb=>.int .u8 b.toNat else none
 |_,_=>none
def jbx (g:Option Nat) (len sz:Nat):V->V->Option V
 | .agg cs,.int _ i=>if 0<=i/\i<len then Y2 g cs (i.toNat*sz) else none
 |_,_=>none
def Y4 (lo hi:Option V):V->Option V
 | .str s=>(X0 s.length s.length lo hi).map λ(l,h)=>.str ((s.take h).drop l)
 |_=>none
def W1 (sz:Nat) (lo hi:Option V):V->Option V
 | .sl _ nl n cs=>if cs.length=n*sz then (X0 n n lo hi).map λ(l,h)=>.sl none nl (h-l) ((cs.take (h*sz)).drop (l*sz)) else none
 | .osl a u off n sz'=>if sz'=sz then (X0 n n lo hi).map λ(l,h)=>.osl a u (off+l*sz) (h-l) sz else none
 |_=>none
def jkm:V->Option V
 | .str s=>some (.int .i64 s.length)
 |_=>none
def WZ:V->Option V
 | .sl _ _ n _=>some (.int .i64 n)
 | .osl _ _ _ n _=>some (.int .i64 n)
 |_=>none
def jkn (ob:ZO):V->Option V
 | .nilmap=>some (.int .i64 0)
 | .map l u=>(jY ob l u).map λes=>.int .i64 es.length
 |_=>none
def jfe (i:Nat):V->Option V
 | .tup vs=>vs[i]?
 |_=>none
def Y1 (k:IntKind):V->Option V
 | .int _ n=>some (.int k (k.wrap n))
 |_=>none
def jbv (isMax:Bool):List V->Option V
 |[]=>none
 |x::r=>QN isMax x r
def j07 (ob:ZO) (neg:Bool) (k:EqK) (x y:V):Option V :=
 match k,x,y with
 | .ptr,.ptr l u off,.ptr l' u' off'=>if (ya ob l u).isSome&&(ya ob l' u').isSome then some (.bool (xor neg (Nat.beq l l'&&Nat.beq off off'))) else none
 |k,a,b=>(eqV k a b).map λb=>.bool (xor neg b)
def Yh (ob:ZO) (q:LK) (zero:V) (ok:Bool) (m k:V):Option V :=
 if Qv q k then match m with
  | .nilmap=>some (if ok then .tup [zero,.bool false] else zero)
  | .map l u=>(jY ob l u).bind λes=>(yO q k es).map λr=>match r with
   |some (_,v)=>if ok then .tup [v,.bool true] else v
   |none=>if ok then .tup [zero,.bool false] else zero
  |_=>none else none
section
variable {E:Env}{Yf:YF}{st:St}{ub:Nat}{K:St->Nat->Prop}{d:Option Nat}{nm:Bool}
def j1n {c:A}{a b:C}{Q:Ex->St->Prop}:wpC E Yf (.cond c a b) st Q=wpIf (ye E st.tm c) (wpC E Yf a st Q) (wpC E Yf b st Q):=by simp only[wpC];cases h:ye E st.tm c<;>simp[wpIf]
def jlh {op:AOp}{t:Nat}{b:Bool}:j8 E Yf ⟨d,op,some (t,b),nm⟩ st ub K=jbk (st.tm t) b (j8 E Yf ⟨d,op,none,nm⟩ st ub K) (K (st.setT d jx) ub):=by
 have a:AOpr.name ⟨d,op,some (t,b),nm⟩=AOpr.name ⟨d,op,none,nm⟩:=rfl;unfold j8;simp only[yK,a];cases h:st.tm t with
 |bool c=>simp only[jbk];cases c<;>cases b<;>simp[St.setT]
 |tup l=>cases l<;>simp[jbk,St.setT]
 |_=>simp[jbk]
def jU (op:AOp) (h:op.isCall=false) (b:op.isNext=false):j8 E Yf ⟨d,op,none,nm⟩ st ub K=wpD (yU (λ_ _=>none) (ye E st.tm) st.ob st.tk st.ro (AOpr.name ⟨d,op,none,nm⟩ st.fb ub) ub op) λa=>K (st.app d a) (ub+64):=by cases op<;>first|cases h;done|cases b;done|simp only[j8,yK,jl,jA,wpD]
def Wc (v:V) (k:Delta->Prop):wpD (one v) k=k { v:=v }:=by simp[one,wpD]
def je1 (o:Option V) (k:Delta->Prop):wpD (o.bind one) k=wpV o λv=>k { v:=v }:=by cases o<;>simp[wpD,wpV,one]
def j61 {x:A}:j8 E Yf ⟨d,.mov x,none,nm⟩ st ub K=K (st.setT d (ye E st.tm x)) (ub+64):=by rw[jU _ rfl rfl];simp only[yU,Wc,ja8]
def j1c {c a b:A}:j8 E Yf ⟨d,.pick c a b,none,nm⟩ st ub K=wpV (j2o (ye E st.tm c) (ye E st.tm a) (ye E st.tm b)) λv=>K (st.setT d v) (ub+64):=by rw[jU _ rfl rfl];simp only[yU];cases ye E st.tm c<;>simp only[j2o,Wc,jqq,jqr,jb6,ja8]
def j63 {op:BinOp}{x y:A}:j8 E Yf ⟨d,.bin op x y,none,nm⟩ st ub K=wpV (YL op (ye E st.tm x) (ye E st.tm y)) λv=>K (st.setT d v) (ub+64):=by rw[jU _ rfl rfl];simp only[yU,je1,ja8]
def wpS_un {op:UnOp}{x:A}:j8 E Yf ⟨d,.un op x,none,nm⟩ st ub K=wpV (unV op (ye E st.tm x)) λv=>K (st.setT d v) (ub+64):=by rw[jU _ rfl rfl];simp only[yU,je1,ja8]
def jW {a:Type}(o:Option a) (f:a->V):(o.bind λx=>one (f x))=(o.map f).bind one:=by cases o<;>rfl
def je (c:Prop) [Decidable c] (v:Option V):(if c then v.bind one else none)=(if c then v else none).bind one:=by split<;>rfl
def XL (c:Prop) [Decidable c] (v:V):(if c then one v else none)=(if c then some v else none).bind one:=by split<;>rfl
def Qu {a:Type}(c:Prop) [Decidable c] (o:Option a) (f:a->V):(if c then o.bind λx=>one (f x) else none)=(if c then o.map f else none).bind one:=by split;exact jW _ _;rfl
def X1 {op:AOp}{o:Option V}(h:op.isCall=false) (c:op.isNext=false) (b:∀a,yU (λ_ _=>none) (ye E st.tm) st.ob st.tk st.ro a ub op=o.bind one):j8 E Yf ⟨d,op,none,nm⟩ st ub K=wpV o λv=>K (st.setT d v) (ub+64):=by rw[jU _ h c,b,je1];simp only[ja8]
def wpS_eq {neg:Bool}{k:EqK}{x y:A}:j8 E Yf ⟨d,.eq neg k x y,none,nm⟩ st ub K=wpV (j07 st.ob neg k (ye E st.tm x) (ye E st.tm y)) λv=>K (st.setT d v) (ub+64):=by refine X1 rfl rfl λa=>?_;simp only[yU,j07];generalize ye E st.tm x=vx;generalize ye E st.tm y=vy;cases k<;>first|rfl|exact jW _ _|(cases vx<;>first|rfl|exact jW _ _|(cases vy<;>(first|rfl|exact XL _ _|exact je _ _|exact jW _ _|exact(ci ..).symm)))
def j1f {g:Option Nat}{x:A}:j8 E Yf ⟨d,.load g x,none,nm⟩ st ub K=wpV (W9 st.ob g (ye E st.tm x)) λv=>K (st.setT d v) (ub+64):=by refine X1 rfl rfl λa=>?_;simp only[yU,W9];generalize ye E st.tm x=vx;cases vx<;>(first|rfl|exact XL _ _|exact je _ _|exact jW _ _|exact(ci ..).symm)
def jlj {x:A}:j8 E Yf ⟨d,.nilCheck x,none,nm⟩ st ub K=wpV (jcq (ye E st.tm x)) λv=>K (st.setT d v) (ub+64):=by refine X1 rfl rfl λa=>?_;simp only[yU,jcq];generalize ye E st.tm x=vx;cases vx<;>(first|rfl|exact XL _ _|exact je _ _|exact jW _ _|exact(ci ..).symm|(rename_i f _ _;cases f<;>rfl)|exact Qu _ _ _)
def jjp {off:Nat}{x:A}:j8 E Yf ⟨d,.fieldAddr off x,none,nm⟩ st ub K=wpV (Q5 off (ye E st.tm x)) λv=>K (st.setT d v) (ub+64):=by refine X1 rfl rfl λa=>?_;simp only[yU,Q5];generalize ye E st.tm x=vx;cases vx<;>(first|rfl|exact XL _ _|exact je _ _|exact jW _ _|exact(ci ..).symm)
def jv7 {sz:Nat}{x i:A}:j8 E Yf ⟨d,.idxSl sz x i,none,nm⟩ st ub K=wpV (jv sz (ye E st.tm x) (ye E st.tm i)) λv=>K (st.setT d v) (ub+64):=by refine X1 rfl rfl λa=>?_;simp only[yU,jv];generalize ye E st.tm x=vx;generalize ye E st.tm i=vi;cases vx<;>first|rfl|(cases vi<;>(first|rfl|exact XL _ _|exact je _ _|exact jW _ _|exact(ci ..).symm))
def jto {len sz:Nat}{x i:A}:j8 E Yf ⟨d,.idxArr len sz x i,none,nm⟩ st ub K=wpV (Wj len sz (ye E st.tm x) (ye E st.tm i)) λv=>K (st.setT d v) (ub+64):=by refine X1 rfl rfl λa=>?_;simp only[yU,Wj];generalize ye E st.tm x=vx;generalize ye E st.tm i=vi;cases vx<;>first|rfl|(cases vi<;>(first|rfl|exact XL _ _|exact je _ _|exact jW _ _|exact(ci ..).symm))
def j1d {g:Option Nat}{off:Nat}{x:A}:j8 E Yf ⟨d,.part g off x,none,nm⟩ st ub K=wpV (j8b g off (ye E st.tm x)) λv=>K (st.setT d v) (ub+64):=by refine X1 rfl rfl λa=>?_;simp only[yU,j8b];generalize ye E st.tm x=vx;cases vx<;>(first|rfl|exact XL _ _|exact je _ _|exact jW _ _|exact(ci ..).symm)
def jtn {x i:A}:j8 E Yf ⟨d,.idxStr x i,none,nm⟩ st ub K=wpV (Qx (ye E st.tm x) (ye E st.tm i)) λv=>K (st.setT d v) (ub+64):=by refine X1 rfl rfl λa=>?_;simp only[yU,Qx];generalize ye E st.tm x=vx;generalize ye E st.tm i=vi;cases vx<;>first|rfl|(cases vi<;>(first|rfl|exact XL _ _|exact je _ _|exact jW _ _|exact(ci ..).symm|(rename_i f _ _;cases f<;>rfl)|exact Qu _ _ _))
def jtm {g:Option Nat}{len sz:Nat}{x i:A}:j8 E Yf ⟨d,.idxVal g len sz x i,none,nm⟩ st ub K=wpV (jbx g len sz (ye E st.tm x) (ye E st.tm i)) λv=>K (st.setT d v) (ub+64):=by refine X1 rfl rfl λa=>?_;simp only[yU,jbx];generalize ye E st.tm x=vx;generalize ye E st.tm i=vi;cases vx<;>first|rfl|(cases vi<;>(first|rfl|exact XL _ _|exact je _ _|exact jW _ _|exact(ci ..).symm))
def jv5 {x:A}{lo hi:Option A}:j8 E Yf ⟨d,.slStr x lo hi,none,nm⟩ st ub K=wpV (Y4 (lo.map (ye E st.tm)) (hi.map (ye E st.tm)) (ye E st.tm x)) λv=>K (st.setT d v) (ub+64):=by refine X1 rfl rfl λa=>?_;simp only[yU,Y4];generalize ye E st.tm x=vx;cases vx<;>(first|rfl|exact XL _ _|exact je _ _|exact jW _ _|exact(ci ..).symm)
def j1b {sz:Nat}{x:A}{lo hi:Option A}:j8 E Yf ⟨d,.slSl sz x lo hi,none,nm⟩ st ub K=wpV (W1 sz (lo.map (ye E st.tm)) (hi.map (ye E st.tm)) (ye E st.tm x)) λv=>K (st.setT d v) (ub+64):=by refine X1 rfl rfl λa=>?_;simp only[yU,W1];generalize ye E st.tm x=vx;cases vx<;>(first|rfl|exact XL _ _|exact je _ _|exact jW _ _|exact(ci ..).symm|(rename_i f _ _;cases f<;>rfl)|exact Qu _ _ _)
def jtk {x:A}:j8 E Yf ⟨d,.lenStr x,none,nm⟩ st ub K=wpV (jkm (ye E st.tm x)) λv=>K (st.setT d v) (ub+64):=by refine X1 rfl rfl λa=>?_;simp only[yU,jkm];generalize ye E st.tm x=vx;cases vx<;>(first|rfl|exact XL _ _|exact je _ _|exact jW _ _|exact(ci ..).symm)
def jv6 {x:A}:j8 E Yf ⟨d,.lenSl x,none,nm⟩ st ub K=wpV (WZ (ye E st.tm x)) λv=>K (st.setT d v) (ub+64):=by refine X1 rfl rfl λa=>?_;simp only[yU,WZ];generalize ye E st.tm x=vx;cases vx<;>(first|rfl|exact XL _ _|exact je _ _|exact jW _ _|exact(ci ..).symm)
def jtl {x:A}:j8 E Yf ⟨d,.lenMap x,none,nm⟩ st ub K=wpV (jkn st.ob (ye E st.tm x)) λv=>K (st.setT d v) (ub+64):=by refine X1 rfl rfl λa=>?_;simp only[yU,jkn];generalize ye E st.tm x=vx;cases vx<;>(first|rfl|exact XL _ _|exact je _ _|exact jW _ _|exact(ci ..).symm)
def joj {x:A}{i:Nat}:j8 E Yf ⟨d,.extract x i,none,nm⟩ st ub K=wpV (jfe i (ye E st.tm x)) λv=>K (st.setT d v) (ub+64):=by refine X1 rfl rfl λa=>?_;simp only[yU,jfe];generalize ye E st.tm x=vx;cases vx<;>(first|rfl|exact XL _ _|exact je _ _|exact jW _ _|exact(ci ..).symm)
def j1g {k:IntKind}{x:A}:j8 E Yf ⟨d,.conv k x,none,nm⟩ st ub K=wpV (Y1 k (ye E st.tm x)) λv=>K (st.setT d v) (ub+64):=by refine X1 rfl rfl λa=>?_;simp only[yU,Y1];generalize ye E st.tm x=vx;cases vx<;>(first|rfl|exact XL _ _|exact je _ _|exact jW _ _|exact(ci ..).symm)
def jti {b:Bool}{xs:List A}:j8 E Yf ⟨d,.minmax b xs,none,nm⟩ st ub K=wpV (jbv b (xs.map (ye E st.tm))) λv=>K (st.setT d v) (ub+64):=by refine X1 rfl rfl λa=>?_;simp only[yU,jbv];generalize xs.map (ye E st.tm)=vxs;cases vxs<;>(first|rfl|exact XL _ _|exact je _ _|exact jW _ _|exact(ci ..).symm)
def j1e {f:Fn}{a b:List A}:j8 E Yf ⟨d,.mkFn f a b,none,nm⟩ st ub K=K (st.setT d (.fn f (a.map (ye E st.tm)) (b.map (ye E st.tm)))) (ub+64):=by rw[jU _ rfl rfl];simp only[yU,Wc,ja8]
def jwb {z:List V}{ps:List (Nat×Nat×A)}:j8 E Yf ⟨d,.build z ps,none,nm⟩ st ub K=wpV ((fill z (JE (ye E st.tm) ps)).map .agg) λv=>K (st.setT d v) (ub+64):=by rw[jU _ rfl rfl];simp only[yU,jW,je1,ja8]
def jtj {q:LK}{z:V}{a:Bool}{m k:A}:j8 E Yf ⟨d,.lookup q z a m k,none,nm⟩ st ub K=wpV (Yh st.ob q z a (ye E st.tm m) (ye E st.tm k)) λv=>K (st.setT d v) (ub+64):=by
 refine X1 rfl rfl λc=>?_;simp only[yU,Yh];generalize ye E st.tm m=vm;generalize ye E st.tm k=vk;cases Qv q vk with
 |false=>rfl
 |true=>
  simp only[zd];cases vm<;>first|rfl|skip
  rename_i l u;simp only;cases jY st.ob l u with
  |none=>rfl
  |some b=>
   simp only[ah];cases yO q vk b with
   |none=>rfl
   |some r=>cases r<;>rfl
def jrq (E:Env) (nm:Bool) (f:FuncId) (vs:List V):Prop:=E.sh nm f=false/\(vs.all λv=>v.strip.pureTop)=true
def jk7 (vs:List V):(vs.map V.strip).all V.pureTop=vs.all λv=>v.strip.pureTop:=by rw[dN];rfl
def j1h {f:FuncId}{xs:List A}(h:jrq E nm f (xs.map (ye E st.tm))/\∃v,Ev E f ((xs.map (ye E st.tm)).map V.strip) v/\wpD (Xq ub v) λa=>K (st.app d a) (ub+64)):j8 E Yf ⟨d,.call f xs,none,nm⟩ st ub K:=by
 obtain⟨⟨i,g⟩,v,e,a,b,j⟩:=h;have c:(xs.all λx=>(ye E st.tm x).strip.pureTop)=true:=by rw[dN]at g;exact g
 have k:jA E nm (ye E st.tm) (.call f xs)=none:=by simp only[jA,i,c,co,dp,zd]
 simp only[j8,yK,jl,k,ja9];refine⟨by rw[dN];exact c,v,?_,a,b,j⟩;rw[cM]at e;exact e
def jv8 {q:A}{xs:List A}{f:FuncId}{first captured:List V}(c:ye E st.tm q=.fn (.func f) first captured)
 (h:jrq E nm f (first++xs.map (ye E st.tm)++captured)/\∃v,Ev E f ((first++xs.map (ye E st.tm)++captured).map V.strip) v/\wpD (Xq ub v) λa=>K (st.app d a) (ub+64)):j8 E Yf ⟨d,.callV q xs,none,nm⟩ st ub K:=by
 obtain⟨⟨i,e⟩,v,g,a,b,j⟩:=h;have k:jA E nm (ye E st.tm) (.callV q xs)=none:=by simp only[jA,c,i,e,co,dp,zd]
 simp only[j8,yK,jl,c,k,ja9];exact⟨f,first,captured,rfl,by rw[jk7];exact e,v,g,a,b,j⟩
end
attribute [simp] j7p j16 W2 jor j7q j7r j7s j7t
 jos Ja jwy j7u jjy j7v j7w j1t j1w j1u j1v j1x j1y j1z eval_t eval_c juc jdy j8s jqq jqr jG jb6 ja8
@[simp] theorem binV_add (k:IntKind) (a b:Int):YL .add (.int k a) (.int k b)=some (.int k (k.wrap (a+b))):=by simp[YL,Xb]
@[simp] theorem binV_sub (k:IntKind) (a b:Int):YL .sub (.int k a) (.int k b)=some (.int k (k.wrap (a-b))):=by simp[YL,Xb]
@[simp] theorem binV_mul (k:IntKind) (a b:Int):YL .mul (.int k a) (.int k b)=some (.int k (k.wrap (a*b))):=by simp[YL,Xb]
@[simp] theorem binV_quo (k:IntKind) (a b:Int):YL .quo (.int k a) (.int k b)=if b=0 then none else some (.int k (k.wrap (a.tdiv b))):=by simp[YL,Xb]
@[simp] theorem binV_rem (k:IntKind) (a b:Int):YL .rem (.int k a) (.int k b)=if b=0 then none else some (.int k (a.tmod b)):=by simp[YL,Xb]
@[simp] theorem binV_lss (k:IntKind) (a b:Int):YL .lss (.int k a) (.int k b)=some (.bool (decide (a<b))):=by simp[YL,Xb]
@[simp] theorem binV_leq (k:IntKind) (a b:Int):YL .leq (.int k a) (.int k b)=some (.bool (decide (a<=b))):=by simp[YL,Xb]
@[simp] theorem binV_gtr (k:IntKind) (a b:Int):YL .gtr (.int k a) (.int k b)=some (.bool (decide (b<a))):=by simp[YL,Xb]
@[simp] theorem binV_geq (k:IntKind) (a b:Int):YL .geq (.int k a) (.int k b)=some (.bool (decide (b<=a))):=by simp[YL,Xb]
@[simp] theorem binV_eql (k:IntKind) (a b:Int):YL .eql (.int k a) (.int k b)=some (.bool (a==b)):=by simp[YL,Xb]
@[simp] theorem binV_neq (k:IntKind) (a b:Int):YL .neq (.int k a) (.int k b)=some (.bool (a != b)):=by simp[YL,Xb]
@[simp] theorem binV_seql (a b:List UInt8):YL .eql (.str a) (.str b)=some (.bool (a==b)):=by simp[YL,jlo]
@[simp] theorem binV_sneq (a b:List UInt8):YL .neq (.str a) (.str b)=some (.bool (!(a==b))):=by simp[YL,jlo]
@[simp] theorem unV_not (b:Bool):unV .not (.bool b)=some (.bool (!b)):=rfl
@[simp] theorem lenSlV_sl (t:Option (Nat×Nat)) (b:Bool) (n:Nat) (cs:List V):WZ (.sl t b n cs)=some (.int .i64 n):=rfl
@[simp] theorem lenSlV_osl (a b c n d:Nat):WZ (.osl a b c n d)=some (.int .i64 n):=rfl
@[simp] theorem j8v (s:List UInt8):jkm (.str s)=some (.int .i64 s.length):=rfl
@[simp] theorem J1 (sz:Nat) (t:Option (Nat×Nat)) (b:Bool) (n:Nat) (cs:List V) (k:IntKind) (i:Int):jv sz (.sl t b n cs) (.int k i)=if 0<=i/\i<n/\cs.length=n*sz then some (.eptr cs (i.toNat*sz)) else none:=rfl
@[simp] theorem pick1_none (cs:List V) (off:Nat):Y2 none cs off=cs[off]?:=rfl
@[simp] theorem j6d (i:Nat) (vs:List V):jfe i (.tup vs)=vs[i]?:=rfl
def V.flat:V->Bool
 | .bool _|.int ..|.str _|.nilptr|.nilmap|.nilfn|.nilif=>true
 | .sl t _ _ _=>t.isNone
 |_=>false
def jbr {st:St}{keep:Bool}{i:Nat}{v:V}(h:v.flat=true):XF st keep i v=some v:=by
 cases v with
 |sl t a n cs=>cases t with
  |none=>rfl
  |some t=>cases h
 |_=>first|rfl|cases h
def jg0 {v:V}(h:v.flat=true):v.toks=[]:=by
 cases v with
 |sl t a n cs=>cases t with
  |none=>rfl
  |some t=>cases h
 |_=>first|rfl|cases h
def Yg {st:St}(h:st.df=[]):st.noDf=st:=by unfold St.noDf;simp only[h]
def Yk {st:St}(h:st.df=[]):j6m st=true:=by unfold j6m;simp only[h];rfl
def j3 {n:Nat}{st:St}{v:V}(a:st.df=[]) (h:st.tm n=v) (b:v.flat=true):jb4 [.t n] (.ret,st)=some v:=by simp only[jb4,Yk a,Yg a,zd,bR,gq,ju,h];simp[W6,Jd,jbr b,jg0 b,yJ]
def Jx {n m:Nat}{st:St}{v u:V}(b:st.df=[]) (h:st.tm n=v) (d:st.tm m=u) (c:v.flat=true) (a:u.flat=true):jb4 [.t n,.t m] (.ret,st)=some (.tup [v,u]):=by simp only[jb4,Yk b,Yg b,zd,bR,gq,ju,h,d];simp[W6,Jd,jbr c,jbr a,jg0 c,jg0 a,yJ]
@[simp] theorem retA_bool (ub:Nat) (b:Bool):Xq ub (.bool b)=some { v:=.bool b }:=rfl
@[simp] theorem retA_int (ub:Nat) (k:IntKind) (b:Int):Xq ub (.int k b)=some { v:=.int k b }:=rfl
@[simp] theorem retA_str (ub:Nat) (s:List UInt8):Xq ub (.str s)=some { v:=.str s }:=rfl
@[simp] theorem retA_int2 (ub:Nat) (k c:IntKind) (b a:Int):Xq ub (.tup [.int k b,.int c a])=some { v:=.tup [.int k b,.int c a] }:=rfl
@[simp] theorem j72 (ub:Nat) (nl:Bool) (n:Nat) (cs:List V):Xq ub (.sl none nl n cs)=some { v:=.sl none nl n cs }:=rfl
def jwa {E:Env}{Yf:YF}{st:St}{ub:Nat}{K:St->Nat->Prop}{d:Option Nat}{nm:Bool}{f:FuncId}{xs:List A}{vs:List V}{v:V}(a:xs.map (ye E st.tm)=vs) (e:E.sh nm f=false) (hp:(vs.all λv=>v.strip.pureTop)=true)
 (c:Ev E f (vs.map V.strip) v) (h:wpD (Xq ub v) λb=>K (st.app d b) (ub+64)):j8 E Yf ⟨d,.call f xs,none,nm⟩ st ub K :=
 j1h ⟨by rw[a];exact⟨e,hp⟩,v,by rw[a];exact c,h⟩
def C.one:C->Bool
 | .region ops=>ops.all λo=>o.op.next?.isNone
 | .pin o _=>o.op.next?.isNone
 | .seq a b|.cond _ a b=>a.one&&b.one
 | .block _ a|.loop a=>a.one
 |_=>true
def Single {α:Type}(o:Option (List α)):Prop:=∀l,o=some l->∃x,l=[x]
def Single.bindL {d e:Type}{m:Option (List d)}{f:d->Option (List e)}(g:Single m) (i:∀a,Single (f a)):Single (bindL m f):=by
 intro l h;cases b:m with
 |none=>rw[b]at h;cases h
 |some c=>obtain⟨a,rfl⟩:=g c b;rw[b]at h;exact i a l h
def Single.map {d e:Type}{m:Option (List d)}{f:d->e}(g:Single m):Single (m.map λl=>l.map f):=by
 intro l h;cases b:m with
 |none=>rw[b]at h;cases h
 |some c=>obtain⟨a,rfl⟩:=g c b;rw[b]at h;cases h;exact⟨f a,rfl⟩
def Single.none {a:Type}:Single (none:Option (List a)):=λ_ h=>by cases h
def Single.some {a:Type}(x:a):Single (some [x]):=λ_ h=>⟨x,by cases h;rfl⟩
def Single.opt {b c:Type}{m:Option b}{f:b->c}:Single (m.map λa=>[f a]):=by
 intro l h;cases m with
 |none=>cases h
 |some a=>cases h;exact⟨f a,rfl⟩
section
variable {E:Env}{Yf:YF}
def jq5 {c:Callers}(i:∀f a ob d e b u,Single (c.s f a ob d e b u)) {o:AOpr}{st:St}{ub:Nat}(h:o.op.next?.isNone=true):Single (jee E c o st ub):=by
 have g:o.op.next? = .none:=by simpa using h
 unfold jee;split;split;exact Single.opt;split;split;exact Single.map (i _ _ _ _ _ _ _);exact Single.opt;rw[g];exact Single.opt;exact Single.some _;exact Single.none
def jrw {c:Callers}(d:∀f a ob e g b u,Single (c.s f a ob e g b u)):∀{ops:List AOpr}{st:St}{ub:Nat},(ops.all λo=>o.op.next?.isNone)=true->Single (jkb E c ops st ub)
 |[],_,_,_=>Single.some _
 |o::r,st,ub,h=>by simp only[bN,aj]at h;exact Single.bindL (jq5 d h.1) λx=>jrw d h.2
def jm3 {body:St->Outs}(a:∀st,Single (body st)):∀(n:Nat) (st:St),Single (jct body n st)
 |0,_=>Single.none
 |n+1,st=>Single.bindL (a st) λx=>by obtain⟨e,s⟩:=x;cases e;exact jm3 a n s;exact Single.some _;exact Single.some _
def j0n {d:Y->Callers}(t:∀y f a ob w v b u,Single ((d y).s f a ob w v b u)) {y:Y}{N:Nat}:∀{c:C}{st:St},c.one=true->Single (ji E d y N c st):=by
 intro c;induction c with
 |skip=>intro st _;exact Single.some _
 |ret=>intro st _;exact Single.some _
 |exit i=>intro st _;exact Single.some _
 |stuck=>intro st _;exact Single.none
 |region k=>intro st h;simp only[ji];exact Single.map (jrw (t y) h)
 |pin o fs=>intro st h;simp only[ji];refine Single.bindL (jq5 (t y) h) λx=>?_;intro l h;obtain⟨p,_,h⟩:=yc h;split at h;cases h;exact⟨_,rfl⟩;cases h
 |draw k free=>
  intro st _ l h;simp only[ji]at h;cases n:Yj E (d y) k st st.nx with
  |none=>rw[n]at h;cases h
  |some p=>rw[n,ah]at h;split at h;cases h;exact⟨_,rfl⟩;cases h
 |seq a b j g=>intro st h;simp only[C.one,aj]at h;simp only[ji];refine Single.bindL (j h.1) λx=>?_;obtain⟨e,s⟩:=x;cases e;exact g h.2;exact Single.some _;exact Single.some _
 |cond q a b j g=>intro st h;simp only[C.one,aj]at h;simp only[ji];split;exact j h.1;exact g h.2;exact Single.none
 |block i a m=>intro st h;simp only[ji];exact Single.map (m h)
 |loop a m=>intro st h;simp only[ji];exact jm3 (λs=>m h) N st
 |rangeFunc f z a b=>intro st _ l h;simp only[ji]at h;split at h;simp only[dZ]at h;obtain⟨r,_,h⟩:=h;split at h;split at h;cases h;exact⟨_,rfl⟩;cases h;cases h;cases h
def jqf (c:∀f,E.mn f=false):∀(n:Nat) (y:Y) (f a ob tk ro b u),Single ((yL E n y).s f a ob tk ro b u)
 |0,_,_,_,_,_,_,_,_=>Single.none
 |n+1,y,f,a,ob,tk,ro,b,u=>by intro l h;simp only[yL,c,ag,zc]at h;split at h;obtain⟨_,_,h⟩:=yc h;obtain⟨_,_,h⟩:=yc h;obtain⟨x,_,rfl⟩:=yh h;exact⟨x,rfl⟩;split at h;obtain⟨x,_,rfl⟩:=yh h;exact⟨x,rfl⟩;obtain⟨_,_,h⟩:=yc h;obtain⟨_,_,h⟩:=yc h;split at h;obtain⟨x,_,rfl⟩:=yh h;exact⟨x,rfl⟩;cases h
def jmg {c:C}{st:St}{Q:Ex->St->Prop}(e:c.one=true) (h:wpC E Yf c st Q) (b:∀f,E.mn f=false):∃n x,ji E (yL E n) (Yf.y n) n c st=some [x]/\Q x.1 x.2:=by obtain⟨n,l,a,_,d⟩:=j6x h;obtain⟨x,rfl⟩:=j0n (jqf b n) e l a;exact⟨n,x,a,d x (ae.2 rfl)⟩
def EvO_wp {f:FuncId}{af:AF}{args:List V}{ob:ZO}{tk:Nat->Bool}{base ub:Nat}{r:V}(a:E.fs f=some af)
 (h:wpC E YT af.body (XE args ob (λ_=>false) ub base ub) λe s=>jb4 af.res (e,s)=some r) (g:E.fz f=false:=by rfl):EvO E f args ob tk base ub r:=by
 obtain⟨n,l,d,b,c⟩:=j6x h;refine⟨n+1,?_⟩;simp only[yL,a,ah,g,ag,zc];rw[show ji E (yL E n) noY n af.body (XE args ob (λ_=>false) ub base ub)=some l from d];exact jkd b c
def jld {y:Nat->Y}{f:FuncId}{args:List V}{ob:ZO}{tk:Nat->Bool}{ro base ub:Nat}{r:V×(ZO)×(Nat->Bool)×Nat}{m:Option FuncId}(b:E.srt f=some m) (a:jty m ob tk ro ub args=some r) (c:E.tw f=false:=by rfl):EvS E y f args ob tk ro base ub r:=by refine⟨1,?_⟩;simp only[yL,c,b,ag,zc,zd,a,aU]
def J6 {f:FuncId}{af:AF}{args:List V}{ob:ZO}{tk:Nat->Bool}{ro base ub:Nat}{P:V×(ZO)×(Nat->Bool)×Nat->Prop}(b:E.fs f=some af) (j:af.body.one=true)
 (h:wpC E Yf af.body (XE args ob tk ro base ub) λe s=>∃r,endS af.res (e,s)=some r/\P r) (k:E.tw f=false:=by rfl) (d:E.srt f=none:=by rfl) (a:∀f,E.mn f=false:=by intro _;rfl):∃r,EvS E Yf.y f args ob tk ro base ub r/\P r:=by
 obtain⟨n,x,g,r,c,i⟩:=jmg j h a;refine⟨r,⟨n+1,?_⟩,i⟩;simp only[yL,b,ah,k,d,ag,zc];rw[jq (XY n n zK) zK af.body _ _ (Yf.mono (Nat.le_succ n)) _ _ g];simp only[ah,a,ag,zc,c,aU]
def jib (E:Env) (Yf:YF) (asg bd:C) (st:St) (ps:List Nat) (l u:Nat):YF where
 y n:=jba (ji E (yL E n) (Yf.y n) n asg) (ji E (yL E n) (Yf.y n) n bd) st ps l u
 mono h:=jf3 (λs=>jq (Jz _ _ h) h asg _ _ (Yf.mono h) s) (λs=>jq (Jz _ _ h) h bd _ _ (Yf.mono h) s) st ps l u
def QH (l u:Nat) (e:Ex) (s:St):V×(ZO)×(Nat->Bool)×Nat:=match e with
 | .nrm=>(.bool true,upd s.ob l (some ⟨u,.loop .ready none⟩),s.tk,s.nx)
 |e=>(.bool false,upd s.ob l (some ⟨u,.loop .done (some e)⟩),s.tk,s.nx)
def jhn {asg bd:C}{st:St}{ps:List Nat}{l u:Nat}{xs:List V}{ob:ZO}{tk:Nat->Bool}{ro ub:Nat}{P:V×(ZO)×(Nat->Bool)×Nat->Prop}(t:xs.length=ps.length) (i:ro<=u) (j:ob l=some ⟨u,.loop .ready none⟩)
 (y:asg.one=true) (w:bd.one=true)
 (h:wpC E Yf asg { tm:=jfu st.tm ps xs,ob,tk,ro,nx:=ub,fb:=st.fb,df:=[] } λe d=>e=.nrm/\d.ob l=some ⟨u,.loop .ready none⟩ /\
  wpC E Yf bd { d with ob:=upd d.ob l (some ⟨u,.loop .busy none⟩) } λe g=>g.ob l=some ⟨u,.loop .busy none⟩/\P (QH l u e g)) (k:∀f,E.mn f=false:=by intro _;rfl):∃r,EvY (jib E Yf asg bd st ps l u) l u xs ob tk ro ub r/\P r:=by
 obtain⟨n,⟨e,d⟩,z,p,a,o⟩:=jmg y h k;simp only at p a o;subst p;obtain⟨m,⟨e,g⟩,v,b,q⟩:=jmg w o k;simp only at b q;refine⟨QH l u e g,⟨max n m,?_⟩,q⟩;have s:=jq (Jz (E:=E) n (max n m) zO) (show n<=max n m by omega) asg _ _ (Yf.mono (show n<=max n m by omega)) _ _ z;have x:=jq (Jz (E:=E) m (max n m) zO) (show m<=max n m by omega) bd _ _ (Yf.mono (show m<=max n m by omega)) _ _ v;have c:Nat.ble ro u=true:=bT▸i;simp only[jib,jba,t,c,and_self,zd,j,s,a,x,b];cases e<;>rfl
def QB {f:A}{ps:List Nat}{asg bd:C}{st:St}{Q:Ex->St->Prop}{g:FuncId}{first captured:List V}(i:ye E st.tm f=.fn (.func g) first captured)
 (h:∃r,EvS E (jib E Yf asg bd st ps (2*st.nx+1) st.nx).y g (first++[.yld (2*st.nx+1) st.nx]++captured)
  (upd (upd st.ob (2*st.nx+3) (some ⟨st.nx+1,.dfr⟩)) (2*st.nx+1) (some ⟨st.nx,.loop .ready none⟩)) st.tk st.ro ((st.fb+1023)*1024) (st.nx+64) r /\
  ∃s a,r.2.1 (2*st.nx+1)=some ⟨st.nx,.loop s a⟩/\s≠.busy/\st.ro<=st.nx /\
   Q (a.getD .nrm) { st with ob:=λk=>if Nat.beq (2*st.nx+1) k then none else r.2.1 k,tk:=r.2.2.1,nx:=r.2.2.2,df:=(2*st.nx+3,st.nx+1)::st.df }):wpC E Yf (.rangeFunc f ps asg bd) st Q:=by
 obtain⟨⟨v,ob,tk,o⟩,⟨n,l⟩,s,a,e,j,m,p⟩:=h;have b:Nat.ble st.ro st.nx=true:=bT▸m;refine⟨n,[(a.getD .nrm,_)],?_,cY _ _,λx d=>by rw[ae]at d;subst d;exact p⟩;simp only[ji,i];have c:(yL E n (jba (ji E (yL E n) (Yf.y n) n asg) (ji E (yL E n) (Yf.y n) n bd) st ps (2*st.nx+1) st.nx)).s g (first++[.yld (2*st.nx+1) st.nx]++captured)
  (upd (upd st.ob (2*st.nx+3) (some ⟨st.nx+1,.dfr⟩)) (2*st.nx+1) (some ⟨st.nx,.loop .ready none⟩)) st.tk st.ro ((st.fb+1023)*1024) (st.nx+64)=some [(v,ob,tk,o)]:=l
 simp only at e;simp only[c,only,ah,e,j,ne_eq,not_false_eq_true,b,and_self,zd]
def jli {q:A}{xs:List A}{st:St}{ub:Nat}{K:St->Nat->Prop}{d:Option Nat}{nm:Bool}{l u:Nat}(a:ye E st.tm q=.yld l u)
 (h:∃r,EvY Yf l u (xs.map (ye E st.tm)) st.ob st.tk st.ro ub r/\K { st with tm:=put st.tm d r.1,ob:=r.2.1,tk:=r.2.2.1 } r.2.2.2):j8 E Yf ⟨d,.callV q xs,none,nm⟩ st ub K:=by
 simp only[j8,yK,jl,a];exact h
def jv9 {f:FuncId}{xs:List A}{st:St}{ub:Nat}{K:St->Nat->Prop}{d:Option Nat}{nm:Bool}(g:E.sh nm f=false) (hp:((xs.map (ye E st.tm)).all λv=>v.strip.pureTop)=false)
 (h:∃v,EvO E f (xs.map (ye E st.tm)) st.ob st.tk ((st.fb+d.getD 0+1)*1024) ub v/\wpD (Xq ub v) λa=>K (st.app d a) (ub+64)):j8 E Yf ⟨d,.call f xs,none,nm⟩ st ub K:=by
 have b:(xs.all λx=>(ye E st.tm x).strip.pureTop)=false:=by rw[dN]at hp;exact hp
 have c:jA E nm (ye E st.tm) (.call f xs)=some (f,xs.map (ye E st.tm)):=by simp only[jA,g,b,co,bO,ag,zc]
 simp only[j8,yK,jl,c];obtain⟨v,i,a,e,j⟩:=h;exact .inr ⟨g,v,i,a,e,j⟩
end
def jI (d:Option Nat) (nm:Bool) (fb ub:Nat):Nat:=cond nm (2*ub+1) (2*(fb+d.getD 0))
def jye (d fb ub:Nat):jI (some d) false fb ub=2*(fb+d):=rfl
def Xw (d:Option Nat) (fb ub:Nat):jI d true fb ub=2*ub+1:=rfl
def Je (d:Option Nat) (op:AOp) (nm:Bool) (fb ub:Nat):AOpr.name ⟨d,op,none,nm⟩ fb ub=jI d nm fb ub:=by cases nm<;>rfl
def jdf (st:St) (sz:Nat) (x:V) (K:Delta->Prop):V->Prop
 | .ptr l u off=>∃cs,ya st.ob l u=some cs/\st.ro<=u/\x.cells.length=sz/\off+sz<=cs.length/\x.cells.all V.leaf=true/\K { v:=jx,obs:=[(l,⟨u,.cells (j2 cs off x.cells)⟩)] }
 |_=>False
def joh (st:St) (sz:Nat) (x:V) (K:Delta->Prop) (l u off:Nat):jdf st sz x K (.ptr l u off)=∃cs,ya st.ob l u=some cs/\st.ro<=u/\x.cells.length=sz/\off+sz<=cs.length/\x.cells.all V.leaf=true/\K { v:=jx,obs:=[(l,⟨u,.cells (j2 cs off x.cells)⟩)] }:=rfl
section
variable {E:Env}{Yf:YF}{st:St}{ub:Nat}{K:St->Nat->Prop}{d:Option Nat}{nm:Bool}
def jwc {z:List V}:j8 E Yf ⟨d,.alloc z,none,nm⟩ st ub K=K (st.app d { v:=.ptr (jI d nm st.fb ub) ub 0,obs:=[(jI d nm st.fb ub,⟨ub,.cells z⟩)] }) (ub+64):=by rw[jU _ rfl rfl];simp only[yU,Jo,jG,Je]
def j62 {sz:Nat}{x:A}:j8 E Yf ⟨d,.box sz x,none,nm⟩ st ub K=(((ye E st.tm x).cells.length=sz/\(ye E st.tm x).cells.all V.leaf=true)/\K (st.app d { v:=.ptr (jI d nm st.fb ub) ub 0,obs:=[(jI d nm st.fb ub,⟨ub,.cells (ye E st.tm x).cells⟩)] }) (ub+64)):=by rw[jU _ rfl rfl];simp only[yU,Jo,jfk,jG,Je]
def jv4 {sz:Nat}{p x:A}:j8 E Yf ⟨d,.store sz p x,none,nm⟩ st ub K=jdf st sz (ye E st.tm x) (λa=>K (st.app d a) (ub+64)) (ye E st.tm p):=by
 rw[jU _ rfl rfl];simp only[yU];generalize ye E st.tm p=vp;cases vp<;>simp only[jb6,jdf];rename_i l u off;cases ya st.ob l u with
 |none=>simp[wpD]
 |some cs=>simp only[ah,jfk,jG,ab,exists_eq_left',bT,and_assoc]
end
attribute [simp] jye Xw jn1 app_tm0 app_ro app_nx app_fb app_df app_ob jb XM
@[simp] theorem cells_agg (cs:List V):(V.agg cs).cells=cs:=rfl
@[simp] theorem cells_bool (b:Bool):(V.bool b).cells=[.bool b]:=rfl
@[simp] theorem cells_int (k:IntKind) (n:Int):(V.int k n).cells=[.int k n]:=rfl
@[simp] theorem cells_str (s:List UInt8):(V.str s).cells=[.str s]:=rfl
@[simp] theorem cells_sl (t:Option (Nat×Nat)) (b:Bool) (n:Nat) (cs:List V):(V.sl t b n cs).cells=[.sl t b n cs]:=rfl
@[simp] theorem cells_iface (t:TypeId) (v:V):(V.iface t v).cells=[.iface t v]:=rfl
@[simp] theorem leaf_bool (b:Bool):(V.bool b).leaf=true:=rfl
@[simp] theorem leaf_int (k:IntKind) (n:Int):(V.int k n).leaf=true:=rfl
@[simp] theorem leaf_str (s:List UInt8):(V.str s).leaf=true:=rfl
@[simp] theorem leaf_sl (t:Option (Nat×Nat)) (b:Bool) (n:Nat) (cs:List V):(V.sl t b n cs).leaf=true:=rfl
@[simp] theorem leaf_iface (t:TypeId) (v:V):(V.iface t v).leaf=true:=rfl
@[simp] theorem leaf_nilif:V.nilif.leaf=true:=rfl
@[simp] theorem cells_nilif:V.nilif.cells=[.nilif]:=rfl
@[simp] theorem j06 (off l u o:Nat):Q5 off (.ptr l u o)=some (.ptr l u (o+off)):=rfl
@[simp] theorem jz6 (off:Nat) (cs:List V) (o:Nat):Q5 off (.eptr cs o)=some (.eptr cs (o+off)):=rfl
@[simp] theorem Wu (k:Nat) (cs:List V) (off:Nat):Y2 (some k) cs off=if off+k<=cs.length then some (.agg ((cs.drop off).take k)) else none:=rfl
@[simp] theorem splice_all (cs vs:List V) (h:vs.length=cs.length):j2 cs 0 vs=vs:=by simp[j2,<- h]
def kOps (E:Env) (Yf:YF) (r:List AOpr) (K:St->Prop):St->Nat->Prop:=λst ub=>QW E Yf r st ub K
def kNrm (Q:Ex->St->Prop):St->Prop:=λs=>Q .nrm s
def jvy (E:Env) (Yf:YF) (b:C) (Q:Ex->St->Prop):Ex->St->Prop:=λe s=>match e with
 | .nrm=>wpC E Yf b s Q
 |e=>Q e s
def kBlk (i:Nat) (Q:Ex->St->Prop):Ex->St->Prop:=λe s=>match e with
 | .exit j=>if j=i then Q .nrm s else Q (.exit j) s
 |e=>Q e s
def jar (K:St->Nat->Prop) (st:St) (d:Option Nat) (ub:Nat):V->Prop:=λv=>K (st.setT d v) (ub+64)
def QP (K:St->Nat->Prop) (st:St) (d:Option Nat) (ub:Nat):Delta->Prop:=λδ=>K (st.app d δ) (ub+64)
def kIf (E:Env) (Yf:YF) (a b:C) (st:St) (Q:Ex->St->Prop):Bool->Prop
 |true=>wpC E Yf a st Q
 |false=>wpC E Yf b st Q
def kGd (E:Env) (Yf:YF) (o:AOpr) (st:St) (ub:Nat) (K:St->Nat->Prop):Bool->Prop
 |true=>j8 E Yf o st ub K
 |false=>K (st.setT o.dst jx) ub
def jzi (I:Nat->St->Prop) (k:Nat) (Q:Ex->St->Prop):Ex->St->Prop:=λe s=>match e with
 | .nrm=>∃j,j<k/\I j s
 |e=>Q e s
def j54 (res:List ARes) (r:V):Ex->St->Prop:=λe s=>jb4 res (e,s)=some r
def ifK:V->(Bool->Prop)->Prop
 | .bool c,k=>k c
 |_,_=>False
def gdK:V->Bool->(Bool->Prop)->Prop
 | .bool c,b,k=>k (c==b)
 | .tup [],_,k=>k false
 |_,_,_=>False
section
variable {E:Env}{Yf:YF}{st:St}{ub:Nat}{K:St->Nat->Prop}{d:Option Nat}{nm:Bool}{Q:Ex->St->Prop}
def j33 {r:List AOpr}{K:St->Prop}:kOps E Yf r K st ub=QW E Yf r st ub K:=zj bU
def j34:kNrm Q st=Q .nrm st:=zj bU
def jko {b:C}:jvy E Yf b Q .nrm st=wpC E Yf b st Q:=zj bU
def jy3 {b:C}{i:Nat}:jvy E Yf b Q (.exit i) st=Q (.exit i) st:=zj bU
def jsc {b:C}:jvy E Yf b Q .ret st=Q .ret st:=zj bU
def j4g {i:Nat}:kBlk i Q .nrm st=Q .nrm st:=zj bU
def jnc {i j:Nat}:kBlk i Q (.exit j) st=if j=i then Q .nrm st else Q (.exit j) st:=zj bU
def j4f {i:Nat}:kBlk i Q .ret st=Q .ret st:=zj bU
def j3o {v:V}:jar K st d ub v=K (st.setT d v) (ub+64):=zj bU
def jc0 {δ:Delta}:QP K st d ub δ=K (st.app d δ) (ub+64):=zj bU
def j35 {a b:C}:kIf E Yf a b st Q true=wpC E Yf a st Q:=zj bU
def jzj {a b:C}:kIf E Yf a b st Q false=wpC E Yf b st Q:=zj bU
def j36 {o:AOpr}:kGd E Yf o st ub K true=j8 E Yf o st ub K:=zj bU
def jzk {o:AOpr}:kGd E Yf o st ub K false=K (st.setT o.dst jx) ub:=zj bU
def jzh {I:Nat->St->Prop}{k:Nat}:jzi I k Q .nrm st=∃j,j<k/\I j st:=zj bU
def ju3 {I:Nat->St->Prop}{k i:Nat}:jzi I k Q (.exit i) st=Q (.exit i) st:=zj bU
def jzg {I:Nat->St->Prop}{k:Nat}:jzi I k Q .ret st=Q .ret st:=zj bU
def j4i {c:Bool}{k:Bool->Prop}:ifK (.bool c) k=k c:=zj bU
def j4m {c b:Bool}{k:Bool->Prop}:gdK (.bool c) b k=k (c==b):=zj bU
def j4l {b:Bool}{k:Bool->Prop}:gdK jx b k=k false:=zj bU
def j9y {b:Bool}{k:Bool->Prop}:gdK (.tup []) b k=k false:=zj bU
def j9p:wpC E Yf .skip st Q=Q .nrm st:=zj bU
def kC_ret:wpC E Yf .ret st Q=Q .ret st:=zj bU
def j9q {i:Nat}:wpC E Yf (.exit i) st Q=Q (.exit i) st:=zj bU
def j32 {K:St->Prop}:QW E Yf [] st ub K=K (st.setN ub):=zj bU
def jzt {ops:List AOpr}:wpC E Yf (.region ops) st Q=QW E Yf ops st st.nx (kNrm Q):=zj bU
def j56 {a b:C}:wpC E Yf (.seq a b) st Q=wpC E Yf a st (jvy E Yf b Q):=zj bU
def jsi {i:Nat}{a:C}:wpC E Yf (.block i a) st Q=wpC E Yf a st (kBlk i Q):=zj bU
def j9s {c:A}{a b:C}:wpC E Yf (.cond c a b) st Q=ifK (ye E st.tm c) (kIf E Yf a b st Q):=by rw[j1n];cases h:ye E st.tm c<;>simp[wpIf,ifK];rename_i t;cases t<;>simp[kIf]
def jzf {o:AOpr}{r:List AOpr}{K:St->Prop}:QW E Yf (o::r) st ub K=j8 E Yf o st ub (kOps E Yf r K):=zj bU
def jpq {op:AOp}{t:Nat}{b:Bool}:j8 E Yf ⟨d,op,some (t,b),nm⟩ st ub K=gdK (st.tm t) b (kGd E Yf ⟨d,op,none,nm⟩ st ub K):=by
 rw[jlh];cases h:st.tm t with
 |bool c=>cases c<;>cases b<;>simp[jbk,gdK,kGd]
 |tup l=>cases l<;>simp[jbk,gdK,kGd]
 |_=>simp[jbk,gdK]
def kS_mov {x:A}:j8 E Yf ⟨d,.mov x,none,nm⟩ st ub K=jar K st d ub (ye E st.tm x):=j61
def j30 {z:List V}:j8 E Yf ⟨d,.alloc z,none,nm⟩ st ub K=QP K st d ub { v:=.ptr (jI d nm st.fb ub) ub 0,obs:=[(jI d nm st.fb ub,⟨ub,.cells z⟩)] }:=jwc
def kS_box {sz:Nat}{x:A}:j8 E Yf ⟨d,.box sz x,none,nm⟩ st ub K=(((ye E st.tm x).cells.length=sz/\(ye E st.tm x).cells.all V.leaf=true)/\QP K st d ub { v:=.ptr (jI d nm st.fb ub) ub 0,obs:=[(jI d nm st.fb ub,⟨ub,.cells (ye E st.tm x).cells⟩)] }):=j62
def j3p {sz:Nat}{p x:A}:j8 E Yf ⟨d,.store sz p x,none,nm⟩ st ub K=jdf st sz (ye E st.tm x) (QP K st d ub) (ye E st.tm p):=jv4
def j3v {t:TypeId}{x:A}:j8 E Yf ⟨d,.iface t x,none,nm⟩ st ub K=jar K st d ub (.iface t (ye E st.tm x)):=by rw[jU _ rfl rfl];simp only[yU,Wc,ja8];rfl
def jk4 (t:TypeId) (zero:V) (ok:Bool):V->Option V
 | .iface t' v=>if t'=t then some (if ok then .tup [v,.bool true] else v) else if ok then some (.tup [zero,.bool false]) else none
 | .nilif=>if ok then some (.tup [zero,.bool false]) else none
 |_=>none
def jze {t:TypeId}{zero:V}{a:Bool}{x:A}:j8 E Yf ⟨d,.assert t zero a x,none,nm⟩ st ub K=wpV (jk4 t zero a (ye E st.tm x)) (jar K st d ub):=by
 refine X1 rfl rfl λc=>?_;simp only[yU,jk4];generalize ye E st.tm x=vx;cases vx with
 |iface b v=>by_cases h:b=t<;>cases a<;>simp[h,one]
 |nilif=>cases a<;>rfl
 |_=>rfl
def j87 {f:Fn}{a b:List A}:j8 E Yf ⟨d,.mkFn f a b,none,nm⟩ st ub K=jar K st d ub (.fn f (a.map (ye E st.tm)) (b.map (ye E st.tm))):=j1e
def j84 {c a b:A}:j8 E Yf ⟨d,.pick c a b,none,nm⟩ st ub K=wpV (j2o (ye E st.tm c) (ye E st.tm a) (ye E st.tm b)) (jar K st d ub):=j1c
def kS_bin {op:BinOp}{x y:A}:j8 E Yf ⟨d,.bin op x y,none,nm⟩ st ub K=wpV (YL op (ye E st.tm x) (ye E st.tm y)) (jar K st d ub):=j63
def kS_un {op:UnOp}{x:A}:j8 E Yf ⟨d,.un op x,none,nm⟩ st ub K=wpV (unV op (ye E st.tm x)) (jar K st d ub):=wpS_un
def kS_eq {neg:Bool}{k:EqK}{x y:A}:j8 E Yf ⟨d,.eq neg k x y,none,nm⟩ st ub K=wpV (j07 st.ob neg k (ye E st.tm x) (ye E st.tm y)) (jar K st d ub):=wpS_eq
def j88 {g:Option Nat}{x:A}:j8 E Yf ⟨d,.load g x,none,nm⟩ st ub K=wpV (W9 st.ob g (ye E st.tm x)) (jar K st d ub):=j1f
def jpu {x:A}:j8 E Yf ⟨d,.nilCheck x,none,nm⟩ st ub K=wpV (jcq (ye E st.tm x)) (jar K st d ub):=jlj
def jm7 {off:Nat}{x:A}:j8 E Yf ⟨d,.fieldAddr off x,none,nm⟩ st ub K=wpV (Q5 off (ye E st.tm x)) (jar K st d ub):=jjp
def j3w {sz:Nat}{x i:A}:j8 E Yf ⟨d,.idxSl sz x i,none,nm⟩ st ub K=wpV (jv sz (ye E st.tm x) (ye E st.tm i)) (jar K st d ub):=jv7
def jzb {len sz:Nat}{x i:A}:j8 E Yf ⟨d,.idxArr len sz x i,none,nm⟩ st ub K=wpV (Wj len sz (ye E st.tm x) (ye E st.tm i)) (jar K st d ub):=jto
def j85 {g:Option Nat}{off:Nat}{x:A}:j8 E Yf ⟨d,.part g off x,none,nm⟩ st ub K=wpV (j8b g off (ye E st.tm x)) (jar K st d ub):=j1d
def jza {x i:A}:j8 E Yf ⟨d,.idxStr x i,none,nm⟩ st ub K=wpV (Qx (ye E st.tm x) (ye E st.tm i)) (jar K st d ub):=jtn
def jy9 {g:Option Nat}{len sz:Nat}{x i:A}:j8 E Yf ⟨d,.idxVal g len sz x i,none,nm⟩ st ub K=wpV (jbx g len sz (ye E st.tm x) (ye E st.tm i)) (jar K st d ub):=jtm
def j3q {x:A}{lo hi:Option A}:j8 E Yf ⟨d,.slStr x lo hi,none,nm⟩ st ub K=wpV (Y4 (lo.map (ye E st.tm)) (hi.map (ye E st.tm)) (ye E st.tm x)) (jar K st d ub):=jv5
def j83 {sz:Nat}{x:A}{lo hi:Option A}:j8 E Yf ⟨d,.slSl sz x lo hi,none,nm⟩ st ub K=wpV (W1 sz (lo.map (ye E st.tm)) (hi.map (ye E st.tm)) (ye E st.tm x)) (jar K st d ub):=j1b
def jy7 {x:A}:j8 E Yf ⟨d,.lenStr x,none,nm⟩ st ub K=wpV (jkm (ye E st.tm x)) (jar K st d ub):=jtk
def j3u {x:A}:j8 E Yf ⟨d,.lenSl x,none,nm⟩ st ub K=wpV (WZ (ye E st.tm x)) (jar K st d ub):=jv6
def jy8 {x:A}:j8 E Yf ⟨d,.lenMap x,none,nm⟩ st ub K=wpV (jkn st.ob (ye E st.tm x)) (jar K st d ub):=jtl
def ju2 {x:A}{i:Nat}:j8 E Yf ⟨d,.extract x i,none,nm⟩ st ub K=wpV (jfe i (ye E st.tm x)) (jar K st d ub):=joj
def j89 {k:IntKind}{x:A}:j8 E Yf ⟨d,.conv k x,none,nm⟩ st ub K=wpV (Y1 k (ye E st.tm x)) (jar K st d ub):=j1g
def jy5 {b:Bool}{xs:List A}:j8 E Yf ⟨d,.minmax b xs,none,nm⟩ st ub K=wpV (jbv b (xs.map (ye E st.tm))) (jar K st d ub):=jti
def j3z {z:List V}{ps:List (Nat×Nat×A)}:j8 E Yf ⟨d,.build z ps,none,nm⟩ st ub K=wpV ((fill z (JE (ye E st.tm) ps)).map .agg) (jar K st d ub):=jwb
def jy6 {q:LK}{z:V}{a:Bool}{m k:A}:j8 E Yf ⟨d,.lookup q z a m k,none,nm⟩ st ub K=wpV (Yh st.ob q z a (ye E st.tm m) (ye E st.tm k)) (jar K st d ub):=jtj
end
attribute [simp ↓] j9p kC_ret j9q jzt j56 jsi j9s j32 jzf jpq kS_mov j30 kS_box j3p j3v jze j87 j84 kS_bin kS_un kS_eq j88 jpu jm7 j3w jzb j85 jza jy9 j3q j83 jy7 j3u jy8 ju2 j89 jy5 j3z jy6
attribute [simp ↓] j33 j34 jko jy3 jsc j4g jnc j4f j3o jc0 j35 jzj j36 jzk jzh ju3 jzg
attribute [simp] j4i j4m j4l j9y j6z j1a jfk j1m joh
def V.plain:V->Bool
 | .agg cs=>cs.all V.pureLeaf
 | .fn ..=>false
 |v=>v.pureLeaf
def YS {st:St}{keep:Bool}{i:Nat}{v:V}(h:v.pureLeaf=true):jt st keep i v=some v:=by
 cases v with
 |sl t a n cs=>cases t with
  |none=>rfl
  |some t=>cases h
 |_=>first|rfl|(simp[V.pureLeaf]at h;done)|(simp only[jt,JY,h,zd])
def jqx {v:V}(h:v.pureLeaf=true):v.tok=[]:=by
 cases v with
 |sl t a n cs=>cases t with
  |none=>rfl
  |some t=>cases h
 |_=>first|rfl|(simp[V.pureLeaf]at h;done)
def jek {st:St}{keep:Bool}:∀{i:Nat}{cs:List V},cs.all V.pureLeaf=true->Xv st keep i cs=some cs
 |_,[],_=>rfl
 |i,c::cs,h=>by simp only[bN,aj]at h;simp[Xv,YS h.1,jek h.2]
def jxn {st:St}{keep:Bool}{i:Nat}{v:V}(h:v.plain=true):XF st keep i v=some v:=by
 cases v with
 |agg cs=>simp[XF,jek (show cs.all V.pureLeaf=true from h)]
 |fn=>cases h
 |_=>refine Eq.trans (b:=jt st keep i _) rfl (YS ?_);exact h
def jdq {v:V}(h:v.plain=true):v.toks=[]:=by
 cases v with
 |agg cs=>simp only[V.toks,fS];intro x a;exact jqx (aw.1 h x a)
 |fn=>cases h
 |sl t b n cs=>cases t with
  |none=>rfl
  |some t=>cases h
 |_=>first|rfl|cases h
def jcm {st:St}{keep:Bool}:∀{i:Nat}{l:List V},l.all V.plain=true->Jd st keep i l=some l
 |_,[],_=>rfl
 |i,c::cs,h=>by simp only[bN,aj]at h;simp[Jd,jxn h.1,jcm h.2]
def j7c:List V->V
 |[v]=>v
 |l=>.tup l
def jax {res:List ARes}{st:St}{l:List V}(a:st.df=[]) (c:res.mapM (ju st)=some l) (b:l.all V.plain=true):jb4 res (.ret,st)=some (j7c l):=by
 have e:l.flatMap V.toks=[]:=by rw[fS];intro x f;exact jdq (aw.1 b x f)
 simp only[jb4,Yk a,Yg a,zd,c,ah,W6,e,yJ,jcm b,zd];match l with
 |[]=>rfl
 |[v]=>rfl
 |v::u::l=>rfl
def JI {res:List ARes}{st:St}{r:V}{l:List V}(a:st.df=[]) (c:res.mapM (ju st)=some l) (b:l.all V.plain=true) (h:j7c l=r):j54 res r .ret st:=by subst h;exact jax a c b
attribute [simp] fill JE
def jgy {ub:Nat}{v:V}(h:v.pureLeaf=true):Xz ub v=v:=by
 cases v with
 |sl t a n cs=>cases t with
  |none=>rfl
  |some t=>cases h
 |_=>rfl
def jgx {ub:Nat}{v:V}(h:v.plain=true):QR ub v=v:=by
 cases v with
 |agg cs=>
  have:cs.map (Xz ub)=cs:=by
   conv=>rhs;rw[<- ia cs]
   exact dw λx a=>jgy (aw.1 h x a)
  simp only[QR,this]
 |sl t b n cs=>exact jgy h
 |_=>rfl
def JZ {ub:Nat}{v:V}(h:v.plain=true):Xq ub v=some { v:=v }:=by
 have a:yy v=[]:=by
  cases v with
  |tup b=>cases h
  |_=>exact jdq h
 have c:Qw ub v=v:=by
  cases v with
  |tup b=>cases h
  |undef=>cases h
  |_=>exact jgx (ub:=ub) h
 simp[Xq,a,c]
def Jc {ub:Nat}{l:List V}(h:l.all V.plain=true):Xq ub (.tup l)=some { v:=.tup l }:=by
 have c:yy (.tup l)=[]:=by simp only[yy,fS];intro x a;exact jdq (aw.1 h x a)
 have b:Qw ub (.tup l)=.tup l:=by
  have:l.map (QR ub)=l:=by
   conv=>rhs;rw[<- ia l]
   exact dw λx a=>jgx (aw.1 h x a)
  simp only[Qw,this]
 simp[Xq,c,b]
@[simp] theorem eqVV_struct (ob:ZO) (neg:Bool) (l:List LK) (a b:List V):j07 ob neg (.struct l) (.agg a) (.agg b)=(J9 l a b).map λb=>.bool (xor neg b):=rfl
attribute [simp] J9 Q6
def jT {E:Env}{f:FuncId}{af:AF}{args:List V}{r:V}(a:E.fc f=some af) (h:wpC E YT af.body (ja4 args) (j54 af.res r)):Ev E f args r:=Ev_wp a h
def Yq {E:Env}{Yf:YF}{a:C}{Q:Ex->St->Prop}(I:Nat->St->Prop) {n:Nat}{st:St}(b:I n st) (c:∀k s,I k s->wpC E Yf a s (jzi I k Q)):wpC E Yf (.loop a) st Q :=
 j6y I b c
def Y8 {E:Env}{Yf:YF}{st:St}{ub:Nat}{K:St->Nat->Prop}{d:Option Nat}{nm:Bool}{f:FuncId}{xs:List A}{vs:List V}{v:V}(c:xs.map (ye E st.tm)=vs) (b:E.sh nm f=false) (hp:(vs.all λv=>v.strip.pureTop)=true)
 (a:Ev E f (vs.map V.strip) v) (h:wpD (Xq ub v) (QP K st d ub)):j8 E Yf ⟨d,.call f xs,none,nm⟩ st ub K:=jwa c b hp a h
def AOp.plainOp:AOp->Bool
 | .call ..|.callV ..|.entry _|.nextMap _=>false
 |_=>true
def AOp.valOp:AOp->Bool
 | .mov _|.pick ..|.bin ..|.eq ..|.un ..|.build ..|.load ..|.nilCheck _|.fieldAddr ..|.idxSl ..|.idxArr ..|.part ..|.idxStr ..|.idxVal ..|.slStr ..|.slSl ..|.lenStr _|.lenSl _|.lenMap _|.extract ..|.mkFn ..|.lookup ..|.iface ..|.assert ..|.conv ..|.minmax ..=>true
 |_=>false
def kDr (E:Env) (r:List AOpr) (K:List FP->St->Prop):St->Nat->Prop:=λst ub=>jE E r st ub K
def kFp (f:FP) (K:List FP->St->Prop):List FP->St->Prop:=λfs s=>K (f::fs) s
def kDQ (free:List (Nat×Nat)) (Q:Ex->St->Prop):List FP->St->Prop:=λfs s=>JR free fs=true/\jbu fs=true/\Q .nrm s
def kDGd (E:Env) (o:AOpr) (r:List AOpr) (st:St) (ub:Nat) (K:List FP->St->Prop):Bool->Prop
 |true=>jE E (o::r) st ub K
 |false=>jE E r (st.setT o.dst jx) (ub+64) (kFp {} K)
def YW (E:Env) (r:List AOpr) (K:List FP->St->Prop) (ρ:A->V) (op:AOp) (st:St) (d:Option Nat) (ub:Nat):Delta->Prop:=λδ=>jE E r (st.app d δ) (ub+64) (kFp (QS ρ op δ) K)
def jln {e:FuncId->List V->Option V}{g:A->V}{ob:ZO}{tk:Nat->Bool}{ro f ub:Nat}{op:AOp}{δ:Delta}(h:op.valOp=true) (b:yU e g ob tk ro f ub op=some δ):∃v,δ={ v:=v }:=by
 have a:∀{o:Option V},o.bind one=some δ->∃v,δ={ v:=v }:=fun {o} c=>by
  cases o with
  |none=>cases c
  |some v=>cases c;exact⟨v,rfl⟩
 cases op<;>first|(cases h;done)|skip
 all_goals simp only[yU]at b
 all_goals first
  |exact a b
  |exact a (o:=some _) b
  |(repeat' split at b)<;>first|(cases b;done)|exact a b|exact a (o:=some _) b|skip
 all_goals (try simp only[dZ]at b)
 all_goals first
  |(obtain⟨_,_,c⟩:=b;exact a (o:=some _) c)
  |skip
 all_goals
  obtain⟨_,_,x,_,c⟩:=b
  first|exact a (o:=some _) c|(rcases x with _|⟨_,_⟩<;>exact a (o:=some _) c)
def kPin (E:Env) (fs:List AOpr) (st:St) (Q:Ex->St->Prop):St->Nat->Prop:=λs ub=>jE E fs s ub λ_ s'=>WP fs st s'=true/\Q .nrm s'
def kPQ (fs:List AOpr) (st:St) (Q:Ex->St->Prop):List FP->St->Prop:=λ_ s'=>WP fs st s'=true/\Q .nrm s'
section
variable {E:Env}{Yf:YF}{st:St}{ub:Nat}{K:List FP->St->Prop}{d:Option Nat}{nm:Bool}{Q:Ex->St->Prop}{r:List AOpr}
def kC_pin {o:AOpr}{fs:List AOpr}:wpC E Yf (.pin o fs) st Q=j8 E Yf o st st.nx (kPin E fs st Q):=zj bU
def j31 {fs:List AOpr}{s:St}:kPin E fs st Q s ub=jE E fs s ub (kPQ fs st Q):=zj bU
def j9a {fs:List AOpr}{f:List FP}{s:St}:kPQ fs st Q f s=(WP fs st s=true/\Q .nrm s):=zj bU
def jw0 {s s':St}:WP [] s s'=true:=by simp[WP]
def jt3 {op:AOp}{a:Option (Nat×Bool)}{t:Nat}{fs:List AOpr}{s s':St}:WP (⟨some t,op,a,nm⟩::fs) s s'=(V.eqb (s.tm t) (s'.tm t)&&WP fs s s'):=by simp[WP]
def j42 (v:V):V.eqb v v=true:=jff v
def j9f:kDr E r K st ub=jE E r st ub K:=zj bU
def j9d {f:FP}{fs:List FP}:kFp f K fs st=K (f::fs) st:=zj bU
def j9n {free:List (Nat×Nat)}{fs:List FP}:kDQ free Q fs st=(JR free fs=true/\jbu fs=true/\Q .nrm st):=zj bU
def j9r {ops:List AOpr}{free:List (Nat×Nat)}:wpC E Yf (.draw ops free) st Q=jE E ops st st.nx (kDQ free Q):=zj bU
def j9e:jE E [] st ub K=K [] (st.setN ub):=zj bU
def jnb {o:AOpr}:kDGd E o r st ub K true=jE E (o::r) st ub K:=zj bU
def jd0 {o:AOpr}:kDGd E o r st ub K false=jE E r (st.setT o.dst jx) (ub+64) (kFp {} K):=zj bU
def jzl {op:AOp}{t:Nat}{b:Bool}:jE E (⟨d,op,some (t,b),nm⟩::r) st ub K=gdK (st.tm t) b (kDGd E ⟨d,op,none,nm⟩ r st ub K):=by
 have i:AOpr.name ⟨d,op,some (t,b),nm⟩=AOpr.name ⟨d,op,none,nm⟩:=rfl;have g:∀c,st.tm t=.bool c->(jE E (⟨d,op,some (t,b),nm⟩::r) st ub K=kDGd E ⟨d,op,none,nm⟩ r st ub K (c==b)):=λc f=>by
  cases e:(c==b);have:yK ⟨d,op,some (t,b),nm⟩ st.tm=some false:=by simp[yK,f,e]
  rw[jE,this,jd0,<- ja8];rfl;have:yK ⟨d,op,some (t,b),nm⟩ st.tm=some true:=by simp[yK,f,e]
  rw[jE,this,jnb,jE];rfl
 cases h:st.tm t with
 |bool c=>rw[g c h];rfl
 |tup l=>cases l with
  |nil=>
   have:yK ⟨d,op,some (t,b),nm⟩ st.tm=some false:=by simp[yK,h]
   rw[jE,this];show _=kDGd E ⟨d,op,none,nm⟩ r st ub K false;rw[jd0,<- ja8];rfl
  |cons a l=>
   have:yK ⟨d,op,some (t,b),nm⟩ st.tm=none:=by simp[yK,h]
   rw[jE,this];rfl
 |_=>
  have:yK ⟨d,op,some (t,b),nm⟩ st.tm=none:=by simp[yK,h]
  rw[jE,this];rfl
def jw {op:AOp}(h:op.plainOp=true):jE E (⟨d,op,none,nm⟩::r) st ub K=wpD (yU (λ_ _=>none) (ye E st.tm) st.ob st.tk st.ro (AOpr.name ⟨d,op,none,nm⟩ st.fb ub) ub op) (YW E r K (ye E st.tm) op st d ub):=by cases op<;>first|cases h;done|(simp only[jE,yK,jA,AOp.far,true_and];rfl)
def XK {op:AOp}(h:op.valOp=true):jE E (⟨d,op,none,nm⟩::r) st ub K=j8 E Yf ⟨d,op,none,nm⟩ st ub (kDr E r (kFp { ro:=yz (ye E st.tm) op,rt:=yB (ye E st.tm) op } K)):=by
 have f:op.plainOp=true:=by cases op<;>first|rfl|cases h
 have e:op.isCall=false:=by cases op<;>first|rfl|cases h
 have g:op.isNext=false:=by cases op<;>first|rfl|cases h
 rw[jw f,jU _ e g];refine zj ⟨?_,?_⟩;rintro⟨c,a,b⟩;obtain⟨v,rfl⟩:=jln h a;exact⟨_,a,b⟩;rintro⟨c,a,b⟩;obtain⟨v,rfl⟩:=jln h a;exact⟨_,a,b⟩
def j37 {sz:Nat}{p x:A}:jE E (⟨d,.store sz p x,none,nm⟩::r) st ub K=jdf st sz (ye E st.tm x) (YW E r K (ye E st.tm) (.store sz p x) st d ub) (ye E st.tm p):=by
 rw[jw rfl];simp only[yU];generalize a:YW E r K (ye E st.tm) (.store sz p x) st d ub=k;clear a;generalize ye E st.tm p=vp;cases vp<;>simp only[jb6,jdf];rename_i l u off;cases ya st.ob l u with
 |none=>simp[wpD]
 |some cs=>simp only[ah,jfk,jG,ab,exists_eq_left',bT,and_assoc]
def j4e {z:List V}:jE E (⟨d,.alloc z,none,nm⟩::r) st ub K=YW E r K (ye E st.tm) (.alloc z) st d ub { v:=.ptr (jI d nm st.fb ub) ub 0,obs:=[(jI d nm st.fb ub,⟨ub,.cells z⟩)] }:=by rw[jw rfl];simp only[yU,Jo,jG,Je]
def kD_box {sz:Nat}{x:A}:jE E (⟨d,.box sz x,none,nm⟩::r) st ub K=(((ye E st.tm x).cells.length=sz/\(ye E st.tm x).cells.all V.leaf=true)/\YW E r K (ye E st.tm) (.box sz x) st d ub { v:=.ptr (jI d nm st.fb ub) ub 0,obs:=[(jI d nm st.fb ub,⟨ub,.cells (ye E st.tm x).cells⟩)] }):=by rw[jw rfl];simp only[yU,Jo,jfk,jG,Je]
def j9o {a:A->V}{op:AOp}{v:V}:YW E r K a op st d ub { v:=v }=jE E r (st.setT d v) (ub+64) (kFp (QS a op { v:=v }) K):=by rw[YW,ja8]
def jzs {a:A->V}{op:AOp}{δ:Delta}:YW E r K a op st d ub δ=jE E r (st.app d δ) (ub+64) (kFp (QS a op δ) K):=zj bU
def X5 {f:FuncId}{xs:List A}{args:List V}{v:V}(e:Ev E f args v) (g:(xs.map λx=>(ye E st.tm x).strip)=args) (k:E.sh nm f=false) (hp:args.all V.pureTop=true) (h:wpD (Xq ub v) (YW E r K (ye E st.tm) (.call f xs) st d ub)) :
 jE E (⟨d,.call f xs,none,nm⟩::r) st ub K:=by
 have a:(xs.all λx=>(ye E st.tm x).strip.pureTop)=true:=by rw[<- g,dN]at hp;exact hp
 have b:jA E nm (ye E st.tm) (.call f xs)=none:=by simp only[jA,k,a,co,dp,zd]
 obtain⟨i,c,j⟩:=h;simp only[jE,yK,b,AOp.far,true_and];exact⟨a,v,g▸e,i,c,j⟩
def jH {K:St->Nat->Prop}{f:FuncId}{xs:List A}{args:List V}{v:V}(g:Ev E f args v) (e:(xs.map λx=>(ye E st.tm x).strip)=args) (k:E.sh nm f=false) (hp:args.all V.pureTop=true) (h:wpD (Xq ub v) (QP K st d ub)) :
 j8 E Yf ⟨d,.call f xs,none,nm⟩ st ub K:=by
 have a:(xs.all λx=>(ye E st.tm x).strip.pureTop)=true:=by rw[<- e,dN]at hp;exact hp
 have b:jA E nm (ye E st.tm) (.call f xs)=none:=by simp only[jA,k,a,co,dp,zd]
 obtain⟨i,c,j⟩:=h;simp only[j8,yK,jl,b,ja9];exact⟨by rw[e];exact hp,v,e▸g,i,c,j⟩
end
/-! What a loop leaves alone. -/
def inR (t:Nat):List (Nat×Nat)->Bool
 |[]=>false
 |(a,b)::l=>(decide (a<=t)&&decide (t<=b))||inR t l
@[simp] theorem inR_nil (t:Nat):inR t []=false:=rfl
@[simp] theorem inR_cons (t a b:Nat) (l:List (Nat×Nat)):inR t ((a,b)::l)=((decide (a<=t)&&decide (t<=b))||inR t l):=rfl
def C.ws:C->List Nat
 | .region ops|.draw ops _=>ops.filterMap (·.dst)
 | .pin o fs=>(o::fs).filterMap (·.dst)
 | .seq a b|.cond _ a b=>a.ws++b.ws
 | .block _ a|.loop a=>a.ws
 |_=>[]
def C.noRF:C->Bool
 | .rangeFunc ..=>false
 | .seq a b|.cond _ a b=>a.noRF&&b.noRF
 | .block _ a|.loop a=>a.noRF
 |_=>true
structure Keeps (p:Nat->Prop) (st s:St):Prop where
 b:s.fb=st.fb
 r:s.ro=st.ro
 d:s.df=st.df
 t:∀t,¬p t->s.tm t=st.tm t
def Keeps.rfl' (p:Nat->Prop) (st:St):Keeps p st st:=⟨rfl,rfl,rfl,λ_ _=>rfl⟩
def Keeps.trans {p q f:Nat->Prop}{a b c:St}(h:Keeps p a b) (e:Keeps q b c) (hp:∀t,p t->f t) (i:∀t,q t->f t):Keeps f a c :=
 ⟨e.b.trans h.b,e.r.trans h.r,e.d.trans h.d,λt g=>(e.t t λh=>g (i t h)).trans (h.t t λh=>g (hp t h))⟩
def Keeps.weak {p q:Nat->Prop}{a b:St}(h:Keeps p a b) (hp:∀t,p t->q t):Keeps q a b:=⟨h.b,h.r,h.d,λt c=>h.t t λh=>c (hp t h)⟩
def jrp {tm:Nat->V}{d:Option Nat}{v:V}{t:Nat}(h:¬t∈d.toList):put tm d v t=tm t:=by
 cases d with
 |none=>rfl
 |some d=>exact JV tm v (λe=>h (by simp[e]))
def Keeps.app {st:St}{d:Option Nat}{δ:Delta}:Keeps (·∈d.toList) st (st.app d δ):=⟨rfl,rfl,rfl,λ_ a=>jrp a⟩
section
variable {E:Env}{Yf:YF}
def jed {o:AOpr}{st:St}{ub:Nat}{K:St->Nat->Prop}(a:j8 E Yf o st ub K):j8 E Yf o st ub λs u=>K s u/\Keeps (·∈o.dst.toList) st s:=by
 have call:∀{f:FuncId}{i:List V},ja9 E f i st o.dst ub K->ja9 E f i st o.dst ub λs u=>K s u/\Keeps (·∈o.dst.toList) st s:=by rintro f i ⟨D,v,z,h,c,g⟩;exact⟨D,v,z,h,c,g,Keeps.app⟩
 unfold j8 at a ⊢;cases w:yK o st.tm with
 |none=>simp only[w]at a
 |some b=>
  cases b with
  |false=>simp only[w]at a ⊢;exact⟨a,rfl,rfl,rfl,λ_ j=>jrp j⟩
  |true=>
   simp only[w]at a ⊢;cases B:jl (ye E st.tm) o.op with
   |some x=>obtain⟨l,u,i⟩:=x;simp only[B]at a ⊢;obtain⟨r,y,g⟩:=a;exact⟨r,y,g,rfl,rfl,rfl,λ_ j=>jrp j⟩
   |none=>
   simp only[B]at a ⊢;cases k:jA E o.nm (ye E st.tm) o.op with
   |some I=>simp only[k]at a ⊢;rcases a with⟨t,n,l,y,m,g⟩|⟨t,v,z,h,c,g⟩;exact .inl ⟨t,n,l,y,m,λr H=>⟨g r H,rfl,rfl,rfl,λ_ j=>jrp j⟩⟩;exact .inr ⟨t,v,z,h,c,g,Keeps.app⟩
   |none=>
    simp only[k]at a ⊢;cases F:o.op<;>simp only[F]at a ⊢;case call f i=>exact call a
    case callV q i=>obtain⟨f,first,e,p,a⟩:=a;exact⟨f,first,e,p,call a⟩
    case nextMap x=>obtain⟨l,G,g⟩:=a;exact⟨l,G,λh c=>⟨g h c,Keeps.app⟩⟩
    all_goals
     obtain⟨h,c,g⟩:=a
     exact⟨h,c,g,Keeps.app⟩
def mem_ws_cons {o:AOpr}{r:List AOpr}{t:Nat}:t∈(o::r).filterMap (·.dst) ↔ t∈o.dst.toList\/t∈r.filterMap (·.dst):=by
 cases h:o.dst with
 |none=>simp[h]
 |some d=>simp[h]
def jfj:∀{ops:List AOpr}{st:St}{ub:Nat}{K:St->Prop},QW E Yf ops st ub K->QW E Yf ops st ub λs=>K s/\Keeps (·∈ops.filterMap (·.dst)) st s
 |[],st,ub,K,hk=>⟨hk,rfl,rfl,rfl,λ_ _=>rfl⟩
 |o::r,st,ub,K,hk=>by refine QA (λs u h=>?_) (jed hk);refine jdh (λc b=>?_) (jfj h.1);exact⟨b.1,h.2.trans b.2 (λt a=>mem_ws_cons.2 (.inl a)) (λt a=>mem_ws_cons.2 (.inr a))⟩
def Qf:∀{ops:List AOpr}{st:St}{ub:Nat}{K:List FP->St->Prop},jE E ops st ub K->jE E ops st ub λf s=>K f s/\Keeps (·∈ops.filterMap (·.dst)) st s
 |[],st,ub,K,e=>⟨e,rfl,rfl,rfl,λ_ _=>rfl⟩
 |o::r,st,ub,K,e=>by
  have g:∀{c:Delta}{f:List FP->List FP}{ub:Nat},jE E r (st.app o.dst c) ub (λfs s=>K (f fs) s)->jE E r (st.app o.dst c) ub λfs s=>K (f fs) s/\Keeps (·∈(o::r).filterMap (·.dst)) st s:=λh=>
   JP (λf s y=>⟨y.1,Keeps.app.trans y.2 (λt w=>mem_ws_cons.2 (.inl w)) (λt w=>mem_ws_cons.2 (.inr w))⟩) (Qf h)
  unfold jE at e ⊢;cases p:yK o st.tm with
  |none=>simp only[p]at e
  |some b=>
   cases b with
   |false=>simp only[p]at e ⊢;exact g (f:=λfs=>{}::fs) e
   |true=>
    simp only[p]at e ⊢;cases n:jA E o.nm (ye E st.tm) o.op with
    |some F=>simp only[n]at e ⊢;rcases e with⟨k,v,m,c,a,j⟩|⟨k,u,D,v,B,m,c,a,j⟩|⟨k,u,c,a,j⟩;exact .inl ⟨k,v,m,c,a,g (f:=λfs=>{ wt:=c.wt,all:=true,seen:=λl=>(st.ob l).isSome }::fs) j⟩;exact .inr (.inl ⟨k,u,D,v,B,m,c,a,g (f:=λfs=>{ wo:=c.wo,all:=true,seen:=λl=>(st.ob l).isSome,nw:=true }::fs) j⟩);exact .inr (.inr ⟨k,u,c,a,g (f:=λfs=>{ wo:=c.wo,nw:=true }::fs) j⟩)
    |none=>
     simp only[n]at e ⊢;refine⟨e.1,?_⟩;have e:=e.2;cases z:o.op<;>simp only[z]at e ⊢;case call f xs=>obtain⟨k,v,m,c,a,j⟩:=e;exact⟨k,v,m,c,a,g (f:=λfs=>QS (ye E st.tm) (.call f xs) c::fs) j⟩
     case callV q xs=>obtain⟨f,first,i,x,k,v,m,c,a,j⟩:=e;exact⟨f,first,i,x,k,v,m,c,a,g (f:=λfs=>QS (ye E st.tm) (.callV q xs) c::fs) j⟩
     all_goals
      obtain⟨c,a,j⟩:=e
      exact⟨c,a,g (f:=λfs=>QS (ye E st.tm) _ c::fs) j⟩
def jwd:∀{c:C},c.noRF=true->∀{st:St}{Q:Ex->St->Prop},wpC E Yf c st Q->wpC E Yf c st λe s=>Q e s/\Keeps (·∈c.ws) st s:=by
 intro c;induction c with
 |skip=>intro _ st Q i;exact⟨i,Keeps.rfl' _ _⟩
 |ret=>intro _ st Q i;exact⟨i,Keeps.rfl' _ _⟩
 |exit id=>intro _ st Q i;exact⟨i,Keeps.rfl' _ _⟩
 |stuck=>intro _ st Q i;exact i
 |rangeFunc f H a b=>intro k;cases k
 |region x=>intro _ st Q i;exact jfj i
 |draw x free=>intro _ st Q i;exact JP (λf s h=>⟨h.1.1,h.1.2.1,h.1.2.2,h.2⟩) (Qf i)
 |pin o fs=>intro _ st Q i;exact QA (λs u h=>JP (λf D v=>⟨v.1.1,v.1.2,h.2.trans v.2 (λt j=>mem_ws_cons.2 (.inl j)) (λt j=>mem_ws_cons.2 (.inr j))⟩) (Qf h.1)) (jed i)
 |seq a b n p=>intro k st Q i;have k:=Bool.and_eq_true_iff.1 k;rw[j56];refine XN (λe s g=>?_) (n k.1 i);obtain⟨g,l⟩:=g;cases e;refine XN (λe D m=>?_) (p k.2 g);exact⟨m.1,l.trans m.2 (λt j=>aQ.2 (.inl j)) (λt j=>aQ.2 (.inr j))⟩;exact⟨g,l.weak (λt j=>aQ.2 (.inl j))⟩;exact⟨g,l.weak (λt j=>aQ.2 (.inl j))⟩
 |cond q a b n p=>
  intro k st Q i;have k:=Bool.and_eq_true_iff.1 k;obtain⟨t,j,G,F⟩:=i;exact⟨t,j,λe=>XN (λe s g=>⟨g.1,g.2.weak (λt j=>aQ.2 (.inl j))⟩) (n k.1 (G e)),
   λe=>XN (λe s g=>⟨g.1,g.2.weak (λt j=>aQ.2 (.inr j))⟩) (p k.2 (F e))⟩
 |block id a B=>intro k st Q i;rw[jsi];refine XN (λe s g=>?_) (B k i);obtain⟨g,l⟩:=g;cases e;exact⟨g,l⟩;simp only[jnc]at g ⊢;split at g;rename_i z;simp only[z,zd];exact⟨g,l⟩;rename_i z;simp only[z,zc];exact⟨g,l⟩;exact⟨g,l⟩
 |loop a B=>
  intro k st Q i;obtain⟨N,i⟩:=i;refine⟨N,?_⟩;have w:∀(N:Nat) (st:St),Yy (wpC E Yf a) N st Q->Yy (wpC E Yf a) N st λe s=>Q e s/\Keeps (·∈a.ws) st s:=by
   intro N;induction N with
   |zero=>intro st h;exact h
   |succ N y=>intro st h;refine XN (λe s g=>?_) (B k h);obtain⟨g,l⟩:=g;cases e;exact jbj (W:=wpC E Yf a) (λ_ _ _ h i=>XN h i) (λe D m=>⟨m.1,l.trans m.2 (λ_ h=>h) (λ_ h=>h)⟩) (y s g);exact⟨g,l⟩;exact⟨g,l⟩
  exact w N st i
def YH {a:C}{Q:Ex->St->Prop}{n:Nat}{st:St}(ws:List (Nat×Nat)) (I:Nat->St->Prop) (q:a.noRF=true) (i:(a.ws.all λt=>inR t ws)=true) (m:I n st)
 (p:∀k s,I k s->Keeps (λt=>inR t ws=true) st s->wpC E Yf a s (jzi I k Q)):wpC E Yf (.loop a) st Q:=by
 refine Yq (λk s=>I k s/\Keeps (λt=>inR t ws=true) st s) (n:=n) ⟨m,Keeps.rfl' _ _⟩ λk s ⟨l,g⟩=>?_;refine XN (λe v b=>?_) (jwd q (p k s l g));obtain⟨b,f⟩:=b;cases e;obtain⟨j,u,c⟩:=b;exact⟨j,u,c,g.trans f (λ_ h=>h) (λt o=>aw.1 i t o)⟩;exact b;exact b
def kUp (I:Nat->St->Prop) (N i:Nat) (Q:Ex->St->Prop):Ex->St->Prop:=λe s=>match e with
 | .nrm=>i<N/\I (i+1) s
 |e=>Q e s
def j5 {a:C}{Q:Ex->St->Prop}{st:St}(ws:List (Nat×Nat)) (N:Nat) (I:Nat->St->Prop) (o:a.noRF=true) (c:(a.ws.all λt=>inR t ws)=true) (j:I 0 st)
 (l:∀i s,i<=N->I i s->Keeps (λt=>inR t ws=true) st s->wpC E Yf a s (kUp I N i Q)):wpC E Yf (.loop a) st Q:=by
 refine YH (n:=N) ws (λk s=>∃i,k=N-i/\i<=N/\I i s) o c ⟨0,rfl,cw _,j⟩ ?_;rintro k s ⟨i,rfl,m,g⟩ f;refine XN (λe p b=>?_) (l i s m g f);cases e;obtain⟨q,h⟩:=b;exact⟨N-(i+1),zO,i+1,rfl,zO,h⟩;exact b;exact b
end
def j82 {I:Nat->St->Prop}{N i:Nat}{Q:Ex->St->Prop}{st:St}:kUp I N i Q .nrm st=(i<N/\I (i+1) st):=zj bU
def j3n {I:Nat->St->Prop}{N i j:Nat}{Q:Ex->St->Prop}{st:St}:kUp I N i Q (.exit j) st=Q (.exit j) st:=zj bU
def j81 {I:Nat->St->Prop}{N i:Nat}{Q:Ex->St->Prop}{st:St}:kUp I N i Q .ret st=Q .ret st:=zj bU
def jyf:jyg []=true:=rfl
def juq (f:FP) (fs:List FP):jyg (f::fs)=(!f.nw&&jyg fs):=rfl
def j91 (a:A->V) (o:AOp) (δ:Delta):(QS a o δ).nw=false:=rfl
def jph {fs:List FP}(h:jyg fs=true):jbu fs=true:=by simp only[jbu,h,fo]
def jvh (fs:List FP):JR [] fs=true:=rfl
section
variable {E:Env}{st:St}{ub:Nat}{K:List FP->St->Prop}{d:Option Nat}{nm:Bool}{r:List AOpr}
def kD_mov {x:A}:jE E (⟨d,.mov x,none,nm⟩::r) st ub K=j8 E YT ⟨d,.mov x,none,nm⟩ st ub (kDr E r (kFp { ro:=yz (ye E st.tm) (.mov x),rt:=yB (ye E st.tm) (.mov x) } K)):=XK rfl
def j9h {c a b:A}:jE E (⟨d,.pick c a b,none,nm⟩::r) st ub K=j8 E YT ⟨d,.pick c a b,none,nm⟩ st ub (kDr E r (kFp { ro:=yz (ye E st.tm) (.pick c a b),rt:=yB (ye E st.tm) (.pick c a b) } K)):=XK rfl
def kD_bin {op:BinOp}{x y:A}:jE E (⟨d,.bin op x y,none,nm⟩::r) st ub K=j8 E YT ⟨d,.bin op x y,none,nm⟩ st ub (kDr E r (kFp { ro:=yz (ye E st.tm) (.bin op x y),rt:=yB (ye E st.tm) (.bin op x y) } K)):=XK rfl
def kD_eq {neg:Bool}{k:EqK}{x y:A}:jE E (⟨d,.eq neg k x y,none,nm⟩::r) st ub K=j8 E YT ⟨d,.eq neg k x y,none,nm⟩ st ub (kDr E r (kFp { ro:=yz (ye E st.tm) (.eq neg k x y),rt:=yB (ye E st.tm) (.eq neg k x y) } K)):=XK rfl
def kD_un {op:UnOp}{x:A}:jE E (⟨d,.un op x,none,nm⟩::r) st ub K=j8 E YT ⟨d,.un op x,none,nm⟩ st ub (kDr E r (kFp { ro:=yz (ye E st.tm) (.un op x),rt:=yB (ye E st.tm) (.un op x) } K)):=XK rfl
def j4d {z:List V}{ps:List (Nat×Nat×A)}:jE E (⟨d,.build z ps,none,nm⟩::r) st ub K=j8 E YT ⟨d,.build z ps,none,nm⟩ st ub (kDr E r (kFp { ro:=yz (ye E st.tm) (.build z ps),rt:=yB (ye E st.tm) (.build z ps) } K)):=XK rfl
def j9l {g:Option Nat}{x:A}:jE E (⟨d,.load g x,none,nm⟩::r) st ub K=j8 E YT ⟨d,.load g x,none,nm⟩ st ub (kDr E r (kFp { ro:=yz (ye E st.tm) (.load g x),rt:=yB (ye E st.tm) (.load g x) } K)):=XK rfl
def jpx {x:A}:jE E (⟨d,.nilCheck x,none,nm⟩::r) st ub K=j8 E YT ⟨d,.nilCheck x,none,nm⟩ st ub (kDr E r (kFp { ro:=yz (ye E st.tm) (.nilCheck x),rt:=yB (ye E st.tm) (.nilCheck x) } K)):=XK rfl
def jm9 {o:Nat}{x:A}:jE E (⟨d,.fieldAddr o x,none,nm⟩::r) st ub K=j8 E YT ⟨d,.fieldAddr o x,none,nm⟩ st ub (kDr E r (kFp { ro:=yz (ye E st.tm) (.fieldAddr o x),rt:=yB (ye E st.tm) (.fieldAddr o x) } K)):=XK rfl
def j4a {sz:Nat}{x i:A}:jE E (⟨d,.idxSl sz x i,none,nm⟩::r) st ub K=j8 E YT ⟨d,.idxSl sz x i,none,nm⟩ st ub (kDr E r (kFp { ro:=yz (ye E st.tm) (.idxSl sz x i),rt:=yB (ye E st.tm) (.idxSl sz x i) } K)):=XK rfl
def jzr {len sz:Nat}{x i:A}:jE E (⟨d,.idxArr len sz x i,none,nm⟩::r) st ub K=j8 E YT ⟨d,.idxArr len sz x i,none,nm⟩ st ub (kDr E r (kFp { ro:=yz (ye E st.tm) (.idxArr len sz x i),rt:=yB (ye E st.tm) (.idxArr len sz x i) } K)):=XK rfl
def j9i {g:Option Nat}{o:Nat}{x:A}:jE E (⟨d,.part g o x,none,nm⟩::r) st ub K=j8 E YT ⟨d,.part g o x,none,nm⟩ st ub (kDr E r (kFp { ro:=yz (ye E st.tm) (.part g o x),rt:=yB (ye E st.tm) (.part g o x) } K)):=XK rfl
def jzq {x i:A}:jE E (⟨d,.idxStr x i,none,nm⟩::r) st ub K=j8 E YT ⟨d,.idxStr x i,none,nm⟩ st ub (kDr E r (kFp { ro:=yz (ye E st.tm) (.idxStr x i),rt:=yB (ye E st.tm) (.idxStr x i) } K)):=XK rfl
def j38 {x:A}{lo hi:Option A}:jE E (⟨d,.slStr x lo hi,none,nm⟩::r) st ub K=j8 E YT ⟨d,.slStr x lo hi,none,nm⟩ st ub (kDr E r (kFp { ro:=yz (ye E st.tm) (.slStr x lo hi),rt:=yB (ye E st.tm) (.slStr x lo hi) } K)):=XK rfl
def j9g {sz:Nat}{x:A}{lo hi:Option A}:jE E (⟨d,.slSl sz x lo hi,none,nm⟩::r) st ub K=j8 E YT ⟨d,.slSl sz x lo hi,none,nm⟩ st ub (kDr E r (kFp { ro:=yz (ye E st.tm) (.slSl sz x lo hi),rt:=yB (ye E st.tm) (.slSl sz x lo hi) } K)):=XK rfl
def jzo {x:A}:jE E (⟨d,.lenStr x,none,nm⟩::r) st ub K=j8 E YT ⟨d,.lenStr x,none,nm⟩ st ub (kDr E r (kFp { ro:=yz (ye E st.tm) (.lenStr x),rt:=yB (ye E st.tm) (.lenStr x) } K)):=XK rfl
def j39 {x:A}:jE E (⟨d,.lenSl x,none,nm⟩::r) st ub K=j8 E YT ⟨d,.lenSl x,none,nm⟩ st ub (kDr E r (kFp { ro:=yz (ye E st.tm) (.lenSl x),rt:=yB (ye E st.tm) (.lenSl x) } K)):=XK rfl
def jzp {x:A}:jE E (⟨d,.lenMap x,none,nm⟩::r) st ub K=j8 E YT ⟨d,.lenMap x,none,nm⟩ st ub (kDr E r (kFp { ro:=yz (ye E st.tm) (.lenMap x),rt:=yB (ye E st.tm) (.lenMap x) } K)):=XK rfl
def ju5 {x:A}{i:Nat}:jE E (⟨d,.extract x i,none,nm⟩::r) st ub K=j8 E YT ⟨d,.extract x i,none,nm⟩ st ub (kDr E r (kFp { ro:=yz (ye E st.tm) (.extract x i),rt:=yB (ye E st.tm) (.extract x i) } K)):=XK rfl
def j9k {f:Fn}{a b:List A}:jE E (⟨d,.mkFn f a b,none,nm⟩::r) st ub K=j8 E YT ⟨d,.mkFn f a b,none,nm⟩ st ub (kDr E r (kFp { ro:=yz (ye E st.tm) (.mkFn f a b),rt:=yB (ye E st.tm) (.mkFn f a b) } K)):=XK rfl
def jzn {q:LK}{z:V}{a:Bool}{m k:A}:jE E (⟨d,.lookup q z a m k,none,nm⟩::r) st ub K=j8 E YT ⟨d,.lookup q z a m k,none,nm⟩ st ub (kDr E r (kFp { ro:=yz (ye E st.tm) (.lookup q z a m k),rt:=yB (ye E st.tm) (.lookup q z a m k) } K)):=XK rfl
def j9m {k:IntKind}{x:A}:jE E (⟨d,.conv k x,none,nm⟩::r) st ub K=j8 E YT ⟨d,.conv k x,none,nm⟩ st ub (kDr E r (kFp { ro:=yz (ye E st.tm) (.conv k x),rt:=yB (ye E st.tm) (.conv k x) } K)):=XK rfl
def jzm {b:Bool}{xs:List A}:jE E (⟨d,.minmax b xs,none,nm⟩::r) st ub K=j8 E YT ⟨d,.minmax b xs,none,nm⟩ st ub (kDr E r (kFp { ro:=yz (ye E st.tm) (.minmax b xs),rt:=yB (ye E st.tm) (.minmax b xs) } K)):=XK rfl
end
attribute [simp ↓] kC_pin j31 j9a j9r j9e jzl j37 j4e kD_box kD_mov j9h kD_bin kD_eq kD_un j4d j9l jpx jm9 j4a jzr j9i jzq j38 j9g jzo j39 jzp ju5 j9k jzn j9m jzm
attribute [simp ↓] j9f j9d j9n jnb jd0 j9o jzs j82 j3n j81
attribute [simp] jw0 jt3 j42 jvh jyf juq j91 jph
def kL (E:Env) (Yf:YF) (a:C) (n:Nat) (Q:Ex->St->Prop):Ex->St->Prop:=λe s=>match e with
 | .nrm=>Yy (wpC E Yf a) n s Q
 |e=>Q e s
section
variable {E:Env}{Yf:YF}{a:C}{Q:Ex->St->Prop}{s:St}{n:Nat}
def kL_nrm:kL E Yf a n Q .nrm s=Yy (wpC E Yf a) n s Q:=zj bU
def j9b {i:Nat}:kL E Yf a n Q (.exit i) s=Q (.exit i) s:=zj bU
def kL_ret:kL E Yf a n Q .ret s=Q .ret s:=zj bU
def j1l:Yy (wpC E Yf a) 1 s Q=wpC E Yf a s (kL E Yf a 0 Q):=zj bU
def j1k:Yy (wpC E Yf a) 2 s Q=wpC E Yf a s (kL E Yf a 1 Q):=zj bU
def j1j:Yy (wpC E Yf a) 3 s Q=wpC E Yf a s (kL E Yf a 2 Q):=zj bU
def j1i:Yy (wpC E Yf a) 4 s Q=wpC E Yf a s (kL E Yf a 3 Q):=zj bU
def jb5 (n:Nat) (h:Yy (wpC E Yf a) n s Q):wpC E Yf (.loop a) s Q:=⟨n,h⟩
end
def j60 (k:List UInt8->Prop):V->Prop
 | .str s=>k s
 |_=>False
@[simp] theorem wpStr_str (k:List UInt8->Prop) (s:List UInt8):j60 k (.str s)=k s:=rfl
def MP {α:Type}(f:α->V) (m:List (Int×α)):List (V×V):=m.map λp=>(.int .i64 p.1,f p.2)
def jz {α:Type}:List (Int×α)->Int->Option (Nat×α)
 |[],_=>none
 |(k',a)::m,k=>if k=k' then some (0,a) else (jz m k).map λp=>(p.1+1,p.2)
def Wm {α:Type}(m:List (Int×α)) (k:Int) (a:α):List (Int×α):=match jz m k with
 |some (i,_)=>m.set i (k,a)
 |none=>m++[(k,a)]
def jd3 {b:Type}(f:b->V) (k:Int):∀m:List (Int×b),yO .int (.int .i64 k) (MP f m)=some ((jz m k).map λp=>(p.1,f p.2))
 |[]=>rfl
 |(k',a)::m=>by have c:=jd3 f k m;unfold MP at c ⊢;simp only[aZ,yO,Q6,zd,jz];by_cases h:k=k';simp[h];rw[za h,show(k==k')=false by simpa using h];simp only[c,aU,ig];rfl
@[simp] theorem MP_length {b:Type}(f:b->V) (m:List (Int×b)):(MP f m).length=m.length:=by simp[MP]
def jht (n:Int):V:=.int .i64 n
def mcnt (m:List (Int×Int)) (k:Int):Int:=((jz m k).map (·.2)).getD 0
def ji0 {c:Type}{f:c->V}{ob:ZO}{l u:Nat}{z:V}{b:Bool}{k:Int}(m:List (Int×c)) (h:jY ob l u=some (MP f m)) :
 Yh ob .int z b (.map l u) (.int .i64 k)=some (match jz m k with|some p=>if b then .tup [f p.2,.bool true] else f p.2|none=>if b then .tup [z,.bool false] else z):=by
 simp only[Yh,Qv,zd,h,ah,jd3,aU];cases jz m k<;>rfl
def ji1 {ob:ZO}{l u:Nat}{k:Int}(m:List (Int×Int)) (h:jY ob l u=some (MP jht m)):Yh ob .int (.int .i64 0) false (.map l u) (.int .i64 k)=some (.int .i64 (mcnt m k)):=by rw[ji0 m h,mcnt];cases jz m k<;>rfl
section
variable {E:Env}{Yf:YF}{st:St}{ub:Nat}{K:St->Nat->Prop}{d:Option Nat}{nm:Bool}
def jpr {x:A}:j8 E Yf ⟨d,.range true x,none,nm⟩ st ub K=j60 (λs=>QP K st d ub { v:=.iter (jI d nm st.fb ub) ub,obs:=[(jI d nm st.fb ub,⟨ub,.siter s 0⟩)] }) (ye E st.tm x):=by rw[jU _ rfl rfl];simp only[yU,Je];cases ye E st.tm x<;>simp only[jb6,j60,Jo,jG];rfl
def ju0 {x:A}{l u pos:Nat}{s:List UInt8}(g:ye E st.tm x=.iter l u) (c:st.ob l=some ⟨u,.siter s pos⟩) (b:st.ro<=u)
 (f:pos<s.length->QP K st d ub { v:=.tup [.bool true,.int .i64 pos,.int .i32 ((Utf8.decode ⟨s.toArray⟩ pos).1:Nat)],obs:=[(l,⟨u,.siter s (pos+(Utf8.decode ⟨s.toArray⟩ pos).2)⟩)] })
 (e:¬pos<s.length->jar K st d ub (.tup [.bool false])):j8 E Yf ⟨d,.nextStr x,none,nm⟩ st ub K:=by
 rw[jU _ rfl rfl];simp only[yU,g,c];rw[zb (by simpa using b)];by_cases h:pos<s.length;rw[zb h,jG];exact f h;rw[za h,Wc,ja8];exact e h
def j3t:j8 E Yf ⟨d,.mkMap,none,nm⟩ st ub K=QP K st d ub { v:=.map (jI d nm st.fb ub) ub,obs:=[(jI d nm st.fb ub,⟨ub,.mp 0 []⟩)] }:=by rw[jU _ rfl rfl];simp only[yU,Jo,jG,Je];rfl
def jcw {c:Type}{f:c->V}{x y z:A}{l u ver:Nat}{k:Int}{a:c}(m:List (Int×c)) (q:ye E st.tm x=.map l u) (r:ye E st.tm y=.int .i64 k) (t:(ye E st.tm z).strip=f a)
 (o:st.ob l=some ⟨u,.mp ver (MP f m)⟩) (g:st.ro<=u) (h:QP K st d ub { v:=jx,obs:=[(l,⟨u,.mp (ver+1) (MP f (Wm m k a))⟩)] }):j8 E Yf ⟨d,.mapSet .int x y z,none,nm⟩ st ub K:=by
 have i:jY st.ob l u=some (MP f m):=by simp[jY,o]
 have b:jo st.ob l=ver:=by simp[jo,o]
 rw[jU _ rfl rfl];simp only[yU,q,r,Qv,zd,i,ah,jd3,b,t];rw[zb (by simpa using g)];unfold Wm at h;cases j:jz m k with
 |none=>rw[j]at h;simp only[eG,jG];simpa[MP] using h
 |some p=>
  rw[j]at h;simp only[aU,jG];have e:(MP f m).set p.1 (V.int .i64 k,f a)=MP f (m.set p.1 (k,a)):=by simp[MP,dF]
  rw[e];exact h
end
attribute [simp ↓] kL_nrm j9b kL_ret j1l j1k j1j j1i jpr j3t
@[simp] theorem j8x (ob:ZO) (l u:Nat):jkn ob (.map l u)=(jY ob l u).map λb=>.int .i64 b.length:=rfl
def jhw (l:List Int) (k:Int):List Int:=if k∈l then l else l++[k]
def dd (l:List Int):List Int:=l.foldl jhw []
def j0j (l:List Int) (k:Int):dd (l++[k])=jhw (dd l) k:=by simp[dd]
def mfind_none {c:Type}{m:List (Int×c)}{k:Int}:jz m k=none ↔ k ∉ m.map (·.1):=by
 induction m with
 |nil=>simp[jz]
 |cons p m b=>obtain⟨e,a⟩:=p;by_cases h:k=e;simp[jz,h];simp[jz,h,b]
def jiv {e:Type}{m:List (Int×e)}{k:Int}{i:Nat}{a:e}(h:jz m k=some (i,a)):∃r:i<m.length,m[i]=(k,a):=by
 induction m generalizing i with
 |nil=>cases h
 |cons p m l=>obtain⟨q,t⟩:=p;by_cases c:k=q;simp only[jz,c,zd,ab,bM]at h;obtain⟨rfl,rfl⟩:=h;exact⟨zS,by simp[c]⟩;simp only[jz,c,zc,bq,bM]at h;obtain⟨⟨j,b⟩,g,rfl,rfl⟩:=h;obtain⟨o,f⟩:=l g;exact⟨by simpa using o,by simpa using f⟩
def jmu {f:Type}(m:List (Int×f)) (k:Int) (a:f):(Wm m k a).map (·.1)=jhw (m.map (·.1)) k:=by
 unfold Wm jhw;cases h:jz m k with
 |none=>rw[za (mfind_none.1 h)];simp
 |some p=>obtain⟨i,b⟩:=p;obtain⟨l,g⟩:=jiv h;have c:k∈m.map (·.1):=aI.2 ⟨_,au l,by rw[g]⟩;rw[zb c,dF];apply eC zS;intro j q o;simp only[gU,List.getElem_map];split;rename_i e;subst e;rw[g];rfl
def jyp {l:List Int}{k x:Int}:x∈jhw l k ↔ x∈l\/x=k:=by unfold jhw;split;constructor;exact .inl;rintro(h|rfl)<;>assumption;simp
def mem_dd {l:List Int}{x:Int}:x∈dd l ↔ x∈l:=by
 have c:∀(l b:List Int),x∈l.foldl jhw b ↔ x∈b\/x∈l:=by
  intro l;induction l with
  |nil=>intro b;simp
  |cons a l e=>intro b;simp only[ej,e,jyp,bD,or_assoc]
 simpa[dd] using c l []
def jpe {l:List Int}{k:Int}(h:l.Nodup):(jhw l k).Nodup:=by unfold jhw;split;exact h;rename_i f;rw[dc];refine⟨h,zS,?_⟩;intro a g b c e;simp only[ae]at c;subst c;subst e;exact f g
def j25 (l:List Int):(dd l).Nodup:=by
 have c:∀(l b:List Int),b.Nodup->(l.foldl jhw b).Nodup:=by
  intro l;induction l with
  |nil=>intro b h;exact h
  |cons a l e=>intro b h;exact e _ (jpe h)
 exact c l [] ey
def j5x:∀(n:Nat) (l:List Int),l.Nodup->(∀x∈l,0<=x/\x<n)->l.length<=n/\(l.length=n ↔ ∀k:Nat,k<n->(k:Int)∈l)
 |0,l,hn,hb=>by
  have:l=[]:=by
   cases l with
   |nil=>rfl
   |cons a l=>have:=hb a zS;omega
  subst this;simp
 |n+1,l,hn,hb=>by
  have g:(l.erase (n:Int)).Nodup:=hn.erase _;have i:∀x∈l.erase (n:Int),0<=x/\x<n:=λx o=>by
   have m:=hb x (List.mem_of_mem_erase o);have f:x≠n:=λe=>by subst e;exact(List.Nodup.not_mem_erase hn) o
   omega
  obtain⟨m,f⟩:=j5x n _ g i;by_cases c:(n:Int)∈l;have q:=List.length_erase_of_mem c;have p:0<l.length:=List.length_pos_of_mem c;refine⟨zO,?_⟩;constructor;intro e k j;rcases bj.1 j with h|rfl;exact List.mem_of_mem_erase (f.1 zO k h);exact c;intro b;have:=f.2 (λk j=>(List.Nodup.mem_erase_iff hn).2 ⟨zO,b k zO⟩);omega;rw[List.erase_of_not_mem c]at m f;refine⟨zO,?_⟩;constructor;intro e;omega;intro b;exact zf (b n zO) c
section
end
section
end
section
variable {α:Type}
def MK (q:IntKind) (f:α->V) (m:List (Int×α)):List (V×V):=m.map λp=>(.int q p.1,f p.2)
@[simp] theorem MK_length (q:IntKind) (f:α->V) (m:List (Int×α)):(MK q f m).length=m.length:=by simp[MK]
def jaw (q:IntKind) (f:α->V) (k:Int):∀m:List (Int×α),yO .int (.int q k) (MK q f m)=some ((jz m k).map λp=>(p.1,f p.2))
 |[]=>rfl
 |(k',a)::m=>by have b:=jaw q f k m;unfold MK at b ⊢;simp only[aZ,yO,Q6,zd,jz];by_cases h:k=k';simp[h];rw[za h,show(k==k')=false by simpa using h];simp only[b,aU,ig];rfl
def jdx {q:IntKind}{f:α->V}{ob:ZO}{l u:Nat}{z:V}{a:Bool}{k:Int}(m:List (Int×α)) (h:jY ob l u=some (MK q f m)) :
 Yh ob .int z a (.map l u) (.int q k)=some (match jz m k with|some p=>if a then .tup [f p.2,.bool true] else f p.2|none=>if a then .tup [z,.bool false] else z):=by
 simp only[Yh,Qv,zd,h,ah,jaw,aU];cases jz m k<;>rfl
def j8q (m:List (Int×α)) (k:Int):Nat:=match jz m k with
 |some p=>p.1
 |none=>m.length
def jbw (m:List (Int×α)) (k:Int) (z:α):α:=match jz m k with
 |some p=>p.2
 |none=>z
def jyl (m:List (Int×α)) (k:Int) (a:α):(Wm m k a)[j8q m k]? = some (k,a):=by
 unfold Wm j8q;cases h:jz m k with
 |none=>simp
 |some p=>obtain⟨b,_⟩:=jiv (i:=p.1) (a:=p.2) h;simp[dM b]
def jr3 (m:List (Int×α)) (k:Int) (a b:α):(Wm m k a).set (j8q m k) (k,b)=Wm m k b:=by
 unfold Wm j8q;cases h:jz m k with
 |none=>simp
 |some p=>simp
def jr5 (m:List (Int×α)) (k:Int) (z:α):jbw m k z=((jz m k).map (·.2)).getD z:=by unfold jbw;cases jz m k<;>rfl
end
section
variable {α:Type}{f:α->V}{E:Env}{Yf:YF}{st:St}{ub:Nat}{K:St->Nat->Prop}{d:Option Nat}{nm:Bool}{x y z:A}{l u ver:Nat}{k:Int}{q:IntKind}
def jqk {b:FuncId->List V->Option V}{ro i:Nat}{a:α}(m:List (Int×α)) (j:ye E st.tm x=.map l u) (n:ye E st.tm y=.int q k) (o:(ye E st.tm z).strip=f a)
 (h:st.ob l=some ⟨u,.mp ver (MK q f m)⟩) (g:ro<=u):yU b (ye E st.tm) st.ob st.tk ro i ub (.mapSet .int x y z)=some { v:=jx,obs:=[(l,⟨u,.mp (ver+1) (MK q f (Wm m k a))⟩)] }:=by
 have e:jY st.ob l u=some (MK q f m):=by simp[jY,h]
 have c:jo st.ob l=ver:=by simp[jo,h]
 simp only[yU,j,n,Qv,zd,e,ah,jaw,c,o];rw[zb (by simpa using g)];unfold Wm;cases s:jz m k with
 |none=>simp[MK]
 |some p=>simp[MK,dF]
def jql {c:FuncId->List V->Option V}{ro j:Nat}{zero:V}{a:α}(m:List (Int×α)) (n:ye E st.tm x=.map l u) (o:ye E st.tm y=.int q k) (s:zero=f a)
 (i:st.ob l=some ⟨u,.mp ver (MK q f m)⟩) (h:ro<=u) (b:ver<jpm) :
 yU c (ye E st.tm) st.ob st.tk ro j ub (.mapEnt .int zero x y)=some { v:=.tup [f (jbw m k a),.int .i64 (j8q m k)],obs:=[(l,⟨u,.mp (ver+1) (MK q f (Wm m k (jbw m k a)))⟩)] }:=by
 have g:jY st.ob l u=some (MK q f m):=by simp[jY,i]
 have e:jo st.ob l=ver:=by simp[jo,i]
 simp only[yU,n,o,Qv,zd,g,ah,jaw,e,s];rw[zb (by simp only[aj];exact⟨bT▸h,by simpa using b⟩)];unfold Wm jbw j8q;cases t:jz m k with
 |none=>simp[MK]
 |some p=>simp[MK,dF]
def jvt {c:FuncId->List V->Option V}{ro p i:Nat}{b:α}{a:α}(m:List (Int×α)) (s:ye E st.tm x=.map l u) (t:ye E st.tm y=.int .i64 i) (w:(ye E st.tm z).strip=f a) (hi:m[i]? = some (k,b))
 (o:st.ob l=some ⟨u,.mp ver (MK q f m)⟩) (n:ro<=u) (e:ver<jpm) :
 yU c (ye E st.tm) st.ob st.tk ro p ub (.entSt x y z)=some { v:=jx,obs:=[(l,⟨u,.mp (ver+1) (MK q f (m.set i (k,a)))⟩)] }:=by
 have j:jY st.ob l u=some (MK q f m):=by simp[jY,o]
 have g:jo st.ob l=ver:=by simp[jo,o]
 have h:(MK q f m)[i]? = some (.int q k,f b):=by simp[MK,hi]
 simp only[yU,s,t,g,show((i:Nat):Int)=Int.ofNat i from rfl];rw[zb (by simp only[aj];exact⟨bT▸n,by simpa using e⟩)];simp only[j,ah,h,w];simp[MK,dF]
section
variable {r:List AOpr}{K':List FP->St->Prop}
def ju4 {a:α}(m:List (Int×α)) (c:ye E st.tm x=.map l u) (e:ye E st.tm y=.int q k) (i:(ye E st.tm z).strip=f a)
 (g:st.ob l=some ⟨u,.mp ver (MK q f m)⟩) (b:st.ro<=u) (h:YW E r K' (ye E st.tm) (.mapSet .int x y z) st d ub { v:=jx,obs:=[(l,⟨u,.mp (ver+1) (MK q f (Wm m k a))⟩)] }):jE E (⟨d,.mapSet .int x y z,none,nm⟩::r) st ub K':=by
 rw[jw rfl,jqk m c e i g b,jG];exact h
def ji4 {zero:V}{a:α}(m:List (Int×α)) (e:ye E st.tm x=.map l u) (g:ye E st.tm y=.int q k) (j:zero=f a)
 (i:st.ob l=some ⟨u,.mp ver (MK q f m)⟩) (c:st.ro<=u) (b:ver<jpm)
 (h:YW E r K' (ye E st.tm) (.mapEnt .int zero x y) st d ub { v:=.tup [f (jbw m k a),.int .i64 (j8q m k)],obs:=[(l,⟨u,.mp (ver+1) (MK q f (Wm m k (jbw m k a)))⟩)] }):jE E (⟨d,.mapEnt .int zero x y,none,nm⟩::r) st ub K':=by
 rw[jw rfl,jql m e g j i c b,jG];exact h
def jna {a b:α}{i:Nat}(m:List (Int×α)) (g:ye E st.tm x=.map l u) (j:ye E st.tm y=.int .i64 i) (o:(ye E st.tm z).strip=f a) (hi:m[i]? = some (k,b))
 (n:st.ob l=some ⟨u,.mp ver (MK q f m)⟩) (e:st.ro<=u) (c:ver<jpm)
 (h:YW E r K' (ye E st.tm) (.entSt x y z) st d ub { v:=jx,obs:=[(l,⟨u,.mp (ver+1) (MK q f (m.set i (k,a)))⟩)] }):jE E (⟨d,.entSt x y z,none,nm⟩::r) st ub K':=by
 rw[jw rfl,jvt m g j o hi n e c,jG];exact h
def jsh {f:FuncId}{xs:List A}{cs:List V}(e:xs.map (ye E st.tm)=[.sl none true 0 []]) (c:E.sh nm f=true) (b:E.tw f=false) (g:E.nw f=some cs)
 (h:jE E r (st.app d { v:=.ptr (jI d nm st.fb ub) ub 0,obs:=[(jI d nm st.fb ub,⟨ub,.cells cs⟩)] }) (ub+64) (kFp { wo:=[jI d nm st.fb ub],nw:=true } K')):jE E (⟨d,.call f xs,none,nm⟩::r) st ub K':=by
 have a:jA E nm (ye E st.tm) (.call f xs)=some (f,[.sl none true 0 []]):=by simp only[jA,c,e,bV,bH,ag,zc]
 simp only[jE,yK,a];refine .inr (.inr ⟨c,b,{ v:=.ptr (jI d nm st.fb ub) ub 0,obs:=[(jI d nm st.fb ub,⟨ub,.cells cs⟩)] },?_,h⟩);simp only[mkD,g];cases nm<;>rfl
end
end
def jpg:List FP->Bool
 |[]=>true
 |f::r=>(r.all λg=>(!f.nw||QL f g)&&(!g.nw||QL g f))&&jpg r
def jr1:∀{fs:List FP},jpg fs=true->∀{i j:Nat}{f g:FP},fs[i]? = some f->fs[j]? = some g->i≠j->f.nw=true->QL f g=true
 |[],_,i,j,f,g,hi,_,_,_=>by simp at hi
 |f0::r,h,i,j,f,g,hi,hj,hne,hn=>by
  simp only[jpg,aj,aw,bG,cp]at h;cases i with
  |zero=>
   cases j with
   |zero=>exact zf rfl hne
   |succ j=>simp only[aE,ab,bZ]at hi hj;subst hi;rcases(h.1 g (aJ hj)).1 with h|h;rw[hn]at h;cases h;exact h
  |succ i=>
   cases j with
   |zero=>simp only[aE,ab,bZ]at hi hj;subst hj;rcases(h.1 f (aJ hi)).2 with h|h;rw[hn]at h;cases h;exact h
   |succ j=>simp only[bZ]at hi hj;exact jr1 h.2 hi hj (λe=>hne (by rw[e])) hn
def jr2 {fs:List FP}(h:jpg fs=true):jbu fs=true:=by
 unfold jbu jyj;rw[bG];refine .inr ?_;rw[aw];intro i a;rw[bf]at a;have m:fs[i]? = some (fs.getD i {}):=by rw[ay,aa a];rfl
 cases g:(fs.getD i {}).nw;rfl;rw[bV,bS,aw];intro j b;rw[bf]at b;have c:fs[j]? = some (fs.getD j {}):=by rw[ay,aa b];rfl
 by_cases e:i=j;subst e;simp;rw[jr1 h m c e g,iA]
def jmt:jpg []=true:=rfl
def jit (f:FP) (r:List FP):jpg (f::r)=((r.all λg=>(!f.nw||QL f g)&&(!g.nw||QL g f))&&jpg r):=rfl
end Go.Pv
namespace Go.Pv.T
open Go Go.Pv Go.Proofs Tryz
noncomputable section
def cbvRow (mj j:Nat):List (Nat×Nat):=match mj+1==1<<<j with
 |true=>[]
 |false=>((List.range j).filter λi=>!mj.testBit i).map λi=>(i,j)
def j0q:List Nat->Nat->List (Nat×Nat)
 |[],_=>[]
 |m::r,j=>cbvRow m j++j0q r (j+1)
def cbvOk:List Oper->Nat->Bool
 |[],_=>true
 |o::r,j=>o.after.all (λe=>!Region.binds .any e||decide (e.on<j))&&cbvOk r (j+1)
def cbvAp (x y:AOpr):Bool :=
 (match x.dst with
  |some d=>!(y.looks.any λt=>t==d)&&(match y.dst with|some e=>!(e==d)|none=>true)
  |none=>true) &&
 (match y.dst with
  |some d=>!(x.looks.any λt=>t==d)
  |none=>true)
def cbvDQ (als:List AOpr) (pairs:List (Nat×Nat)):Option (List (Nat×Nat)) :=
 match pairs.all λp=>match als[p.1]?,als[p.2]? with|some x,some y=>cbvAp x y|_,_=>true with
 |true=>some (pairs.filter λp=>match als[p.1]?,als[p.2]? with|some x,some y=>!x.op.quiet y.op|_,_=>false)
 |false=>none
def cbvDP (ops:Array Oper) (als:List AOpr):Option (List (Nat×Nat)):=match cbvOk ops.toList 0 with
 |true=>cbvDQ als (j0q (JO ops.toList []) 0)
 |false=>none
def cbvMA (mj j:Nat):Bool:=match mj+1==1<<<j with
 |true=>true
 |false=>(List.range j).all λi=>mj.testBit i
def cbvMB:List Nat->Nat->Nat->Nat
 |[],_,k=>k
 |m::r,j,k=>match cbvMA m j with|true=>cbvMB r (j+1) k|false=>cbvMB r (j+1) (j+1)
def j5c:List AOpr->Nat->Option Nat->Option Nat
 |[],_,x=>x
 |o::r,j,x=>match o.op.isCall with|true=>j5c r (j+1) (some j)|false=>j5c r (j+1) x
def cbvMid (ms:List Nat) (als:List AOpr) (c:Nat):Bool :=
 match (als.drop (c+1)).any λo=>match o.op with|.extract _ _=>true|_=>false with
 |false=>false
 |true=>match cbvMA (ms.getD c 0) c with
  |false=>false
  |true=>((ms.drop (c+1)).zip (als.drop (c+1))).all λp=>((List.range (c+1)).all λi=>p.1.testBit i)&&p.2.op.still
def cbvPX (o:AOpr) (d j:Nat):List AOpr->Nat->Bool
 |[],_=>true
 |x::r,i=>match (i==j||match x.dst with|some e=>!(e==d)|none=>true)&&(decide (j<i) || !(x.looks.any λt=>t==d)) with
  |true=>cbvPX o d j r (i+1)
  |false=>false
def cbvPin (ms:List Nat) (als:List AOpr) (k c:Nat):Bool :=
 match decide (c+1<k) with
 |false=>false
 |true=>match cbvMA (ms.getD c 0) c with
  |false=>false
  |true=>(((ms.take k).zip ((als.take k).zip (List.range k))).drop (c+1)).all λp=>match p.2.1.op.still && !p.1.testBit c with
   |false=>false
   |true=>match p.2.1.dst with
    |some d=>cbvPX p.2.1 d p.2.2 (als.take k) 0
    |none=>true
def cbvDrN (l:List AOpr) (free:List (Nat×Nat)) (ms:List Nat) (k:Nat):C :=
 match decide (k<l.length)&&(l.drop k).any (λo=>o.op.isCall) with
 |true=>match (j5c (l.take k) 0 none).filter (cbvPin ms l k) with
  |some c=>.seq (.draw ((l.take k).set c jgh) free) (.seq (.pin (l.getD c jgh) ((l.take k).drop (c+1))) (.region (l.drop k)))
  |none=>.seq (.draw (l.take k) free) (.region (l.drop k))
 |false=>match (j5c l 0 none).filter (cbvMid ms l) with
  |some c=>.seq (.draw (l.take c) free) (.seq (.region [l.getD c jgh]) (.draw (List.replicate (c+1) jgh++l.drop (c+1)) free))
  |none=>.draw l free
def cbvDrM (l:List AOpr) (free:List (Nat×Nat)) (ms:List Nat):C:=cbvDrN l free ms (cbvMB ms 0 0)
def j5b (P:Program) (m:Bool) (ops:Array Oper):Bool->Option C
 |false=>(ops.toList.mapM (Ji P m ops)).map .region
 |true=>(ops.toList.mapM (Ji P m ops)).map λl=>match cbvDP ops l with
  |some free=>match m with
   |true=>cbvDrM l free (JO ops.toList [])
   |false=>.draw l free
  |none=>.stuck
def je0 (P:Program) (m r:Bool):Code->Option C
 | .skip=>some .skip
 | .region _ ops d=>j5b P m ops d
 | .seq a b=>(je0 P m r a).bind λa=>(je0 P m r b).map (.seq a)
 | .cond c a b=>(opd c).bind λc=>(je0 P m r a).bind λa=>(je0 P m r b).map (.cond c a)
 | .block id a=>(je0 P m r a).map (.block id)
 | .loop a=>(je0 P m r a).map .loop
 | .exit id=>some (.exit id)
 | .ret=>some .ret
 | .rangeFunc f ps a b=>match r with|true=>some .stuck|false=>(opd f).bind λf=>(je0 P m true a).bind λa=>(je0 P m true b).map (.rangeFunc f ps.toList a)
 |_=>some .stuck
noncomputable def cf (m r:Bool) (fn:Func):AF:=(fn.body.bind λc=>(je0 Tryz.prog m r c).bind λb=>(fn.results.toList.mapM (Ym Tryz.prog)).map λr=>{ body:=b,res:=r }).getD ⟨.stuck,[]⟩
def cfa:=cf false false
def cfb:=cf true false
def cfc:=cf true true
abbrev oo (d:Nat) (p:AOp):AOpr:=⟨some d,p,none,false⟩
abbrev og (d:Nat) (p:AOp) (t:Nat) (b:Bool):AOpr:=⟨some d,p,some (t,b),false⟩
abbrev qg (d:Nat) (p:AOp) (t:Nat) (b:Bool):AOpr:=⟨some d,p,some (t,b),true⟩
abbrev oh (p:AOp) (t:Nat) (b:Bool):AOpr:=⟨none,p,some (t,b),false⟩
abbrev ov (d k:Nat):AOpr:=⟨some d,.mov (.t k),none,false⟩
abbrev nn (k:Int):A:=.c (.int .i64 k)
abbrev ol (d k:Nat):AOpr:=⟨some d,.load none (.t k),none,false⟩
abbrev os (d n k:Nat):AOpr:=⟨some d,.load (some n) (.t k),none,false⟩
abbrev om (d:Nat) (k:Int):AOpr:=⟨some d,.mov (nn k),none,false⟩
abbrev of (d n k:Nat):AOpr:=⟨some d,.fieldAddr n (.t k),none,false⟩
abbrev on (d:Nat) (p:BinOp) (a:Nat) (k:Int):AOpr:=⟨some d,.bin p (.t a) (nn k),none,false⟩
abbrev ob (d:Nat) (p:BinOp) (a b:Nat):AOpr:=⟨some d,.bin p (.t a) (.t b),none,false⟩
abbrev qs (d n k:Nat):AOpr:=⟨some d,.load (some n) (.t k),none,true⟩
abbrev qn (d:Nat) (p:BinOp) (a:Nat) (k:Int):AOpr:=⟨some d,.bin p (.t a) (nn k),none,true⟩
abbrev qb (d:Nat) (p:BinOp) (a b:Nat):AOpr:=⟨some d,.bin p (.t a) (.t b),none,true⟩
abbrev sr (l:List AOpr) (b:C):C:=.seq (.region l) b
abbrev aF:A:=.c (.bool false)
abbrev aT:A:=.c (.bool true)
abbrev fA:=AOp.fieldAddr
abbrev sq:=C.seq
abbrev rg:=C.region
abbrev lS:=AOp.lenSl
abbrev Z0:A:=.t 0
abbrev Z3:A:=.t 3
abbrev Z4:A:=.t 4
abbrev wF (d:Nat) (p:AOp) (t:Nat):AOpr:=og d p t false
abbrev zF (d:Nat) (p:AOp) (t:Nat):AOpr:=qg d p t false
abbrev uF (p:AOp) (t:Nat):AOpr:=oh p t false
def F6:=cfa f6
def F9:=cfb f9
def F10:=cfa f10
def F11:=cfa f11
def F12:=cfb f12
def F13:=cfa f13
def F16:=cfa f16
def F17:=cfa f17
def F18:=cfa f18
def F20:=cfa f20
def F25:=cfa f25
def F28:=cfa f28
def F30:=cfa f30
def F32:=cfa f32
def F33:=cfa f33
def F34:=cfa f34
def F37:=cfa f37
def F38:=cfa f38
def F41:=cfa f41
def F48:=cfb f48
def F49:=cfa f49
def F50:=cfa f50
def F53:=cfa f53
def F54:=cfa f54
def F55:=cfa f55
def F57:=cfb f57
def F59:=cfa f59
def F60:=cfb f60
def F61:=cfa f61
def F62:=cfb f62
def F63:=cfa f63
def F64:=cfa f64
def F65:=cfa f65
def F66:=cfa f66
def F67:=cfa f67
def F68:=cfa f68
def F69:=cfa f69
def F70:=cfa f70
def F71:=cfa f71
def F72:=cfa f72
def F73:=cfa f73
def F74:=cfb f74
def F79:=cfa f79
def F87:=cfa f87
def F90:=cfa f90
def F92:=cfa f92
def F93:=cfa f93
def F94:=cfa f94
def F95:=cfa f95
def F98:=cfb f98
def F101:=cfb f101
def F102:=cfb f102
def F104:=cfa f104
def F105:=cfb f105
def F106:=cfa f106
def F107:=cfa f107
def F108:=cfa f108
def F109:=cfa f109
def F110:=cfa f110
def F111:=cfa f111
def F112:=cfa f112
def F113:=cfb f113
def F114:=cfa f114
def F128:=cfa f128
def F129:=cfa f129
def F130:=cfa f130
def F137:=cfa f137
def F141:=cfa f141
def F144:=cfa f144
def F146:=cfa f146
def F148:=cfa f148
def F158:=cfa f158
def F161:=cfa f161
def F162:=cfa f162
def F163:=cfa f163
def F165:=cfa f165
def F169:=cfa f169
def F188:=cfa f188
def F189:AF:=⟨sr [oo 2 (.mov aF)] (sr [ov 3 0,oo 4 (.bin .eql Z3 (.c (.str [98,101,103,105,110]))),ov 5 4,wF 6 (.mov Z0) 5,wF 7 (.bin .eql (.t 6) (.c (.str [114,101,97,100]))) 5,oo 8 (.pick (.t 5) aT (.t 7)),ov 9 8,wF 10 (.mov Z0) 9,wF 11 (.bin .eql (.t 10) (.c (.str [119,114,105,116,101]))) 9,oo 12 (.pick (.t 9) aT (.t 11)),ov 13 12,wF 14 (.mov Z0) 13,wF 15 (.bin .eql (.t 14) (.c (.str [111,107]))) 13,oo 16 (.pick (.t 13) aT (.t 15)),ov 17 16,wF 18 (.mov Z0) 17,wF 19 (.bin .eql (.t 18) (.c (.str [102,97,105,108]))) 17,oo 20 (.pick (.t 17) aT (.t 19)),ov 21 20,wF 22 (.mov Z0) 21,wF 23 (.bin .eql (.t 22) (.c (.str [105,110,102,111]))) 21,oo 24 (.pick (.t 21) aT (.t 23)),ov 25 24,wF 26 (.mov Z0) 25,wF 27 (.bin .eql (.t 26) (.c (.str [110,105,108]))) 25,oo 28 (.pick (.t 25) aT (.t 27)),ov 2 28] .ret),[.t 2]⟩
def F190:=cfa f190
def F197:AF:=⟨sr [oo 2 (.mov aF)] (sq (sr [ov 3 0] (.block 0 (sq (sr [oo 5 (.bin .eql Z3 (.c (.str [98,101,103,105,110]))),ov 4 5] (.cond Z4 .skip (sr [oo 6 (.bin .eql Z3 (.c (.str [114,101,97,100]))),ov 4 6] (.cond Z4 .skip (sr [oo 7 (.bin .eql Z3 (.c (.str [119,114,105,116,101]))),ov 4 7] (.cond Z4 .skip (sr [oo 8 (.bin .eql Z3 (.c (.str [111,107]))),ov 4 8] (.cond Z4 .skip (sr [oo 9 (.bin .eql Z3 (.c (.str [102,97,105,108]))),ov 4 9] (.cond Z4 .skip (sr [oo 10 (.bin .eql Z3 (.c (.str [105,110,102,111]))),ov 4 10] (.cond Z4 .skip (rg [oo 11 (.bin .eql Z3 (.c (.str [110,105,108]))),ov 4 11]))))))))))))) (.cond Z4 (sr [oo 2 (.mov aT)] .ret) .skip)))) (sr [oo 2 (.mov aF)] .ret)),[.t 2]⟩
def F198:=cfa f198
def F199:=cfa f199
def F200:=cfa f200
def F206:=cfa f206
def F207:=cfa f207
def F208:=cfa f208
def F214:=cfa f214
def F218:=cfa f218
def F222:=cfa f222
def F243:=cfa f243
def F250:AF:=⟨sr [oo 2 (.mov (.c (.int .u64 0)))] (sq (.cond aF (sq (.draw [ov 3 0,oo 4 (.idxStr Z3 (nn 0)),oo 5 (.conv .u64 Z4),ov 6 0,oo 7 (.idxStr (.t 6) (nn 1)),oo 8 (.conv .u64 (.t 7)),oo 9 (.bin .shl (.t 8) (.c (.int .u64 8))),ob 10 .or 5 9,ov 11 0,oo 12 (.idxStr (.t 11) (nn 2)),oo 13 (.conv .u64 (.t 12)),oo 14 (.bin .shl (.t 13) (.c (.int .u64 16))),ob 15 .or 10 14,ov 16 0,oo 17 (.idxStr (.t 16) (nn 3)),oo 18 (.conv .u64 (.t 17)),oo 19 (.bin .shl (.t 18) (.c (.int .u64 24))),ob 20 .or 15 19,ov 2 20] []) .ret) .skip) (sq (.draw [ov 21 0,oo 22 (.idxStr (.t 21) (nn 0)),oo 23 (.conv .u64 (.t 22)),ov 24 0,oo 25 (.idxStr (.t 24) (nn 1)),oo 26 (.conv .u64 (.t 25)),oo 27 (.bin .shl (.t 26) (.c (.int .u64 8))),ob 28 .or 23 27,ov 29 0,oo 30 (.idxStr (.t 29) (nn 2)),oo 31 (.conv .u64 (.t 30)),oo 32 (.bin .shl (.t 31) (.c (.int .u64 16))),ob 33 .or 28 32,ov 34 0,oo 35 (.idxStr (.t 34) (nn 3)),oo 36 (.conv .u64 (.t 35)),oo 37 (.bin .shl (.t 36) (.c (.int .u64 24))),ob 38 .or 33 37,ov 39 0,oo 40 (.idxStr (.t 39) (nn 4)),oo 41 (.conv .u64 (.t 40)),oo 42 (.bin .shl (.t 41) (.c (.int .u64 32))),ob 43 .or 38 42,ov 44 0,oo 45 (.idxStr (.t 44) (nn 5)),oo 46 (.conv .u64 (.t 45)),oo 47 (.bin .shl (.t 46) (.c (.int .u64 40))),ob 48 .or 43 47,ov 49 0,oo 50 (.idxStr (.t 49) (nn 6)),oo 51 (.conv .u64 (.t 50)),oo 52 (.bin .shl (.t 51) (.c (.int .u64 48))),ob 53 .or 48 52,ov 54 0,oo 55 (.idxStr (.t 54) (nn 7)),oo 56 (.conv .u64 (.t 55)),oo 57 (.bin .shl (.t 56) (.c (.int .u64 56))),ob 58 .or 53 57,ov 2 58] []) .ret)),[.t 2]⟩
end
noncomputable section
def F253:=cfa f253
def F290:=cfa f290
def F291:=cfa f291
def F314:=cfa f314
def F321:=cfa f321
def S27:=cfc f27
def S31:=cfc f31
def S38:=cfc f38
def S56:=cfc f56
def S58:=cfc f58
def S80:=cfc f80
def S88:=cfc f88
def S89:=cfc f89
def S91:=cfc f91
def S96:=cfc f96
def S97:=cfc f97
def S99:=cfc f99
def S100:=cfc f100
def S103:=cfc f103
def S115:=cfc f115
def S116:=cfc f116
def S117:=cfc f117
def S118:=cfc f118
def S121:=cfc f121
def S122:=cfc f122
def S143:=cfc f143
def S145:=cfc f145
def S147:=cfc f147
def S148:=cfc f148
def S149:=cfc f149
def S150:=cfc f150
def S151:=cfc f151
def S152:=cfc f152
def S153:=cfc f153
def S154:=cfc f154
def S155:=cfc f155
def S156:=cfc f156
def S157:=cfc f157
def S159:=cfc f159
def S160:=cfc f160
def S164:=cfc f164
def S166:=cfc f166
def S168:=cfc f168
def S170:=cfc f170
def S171:=cfc f171
def S172:=cfc f172
def S175:=cfc f175
def S176:=cfc f176
def S178:=cfc f178
def S180:=cfc f180
def S181:=cfc f181
def S209:=cfc f209
def S210:=cfc f210
def S211:=cfc f211
def S212:=cfc f212
def S213:=cfc f213
def S215:=cfc f215
def S216:=cfc f216
def S217:=cfc f217
def S220:=cfc f220
def S221:=cfc f221
def S222:=cfc f222
def S233:=cfc f233
def S234:=cfc f234
def S235:=cfc f235
def S237:=cfc f237
def S255:=cfc f255
def S256:=cfc f256
def S257:=cfc f257
def S258:=cfc f258
def S259:=cfc f259
def S260:=cfc f260
def S261:=cfc f261
def S262:=cfc f262
def S263:=cfc f263
def S273:=cfc f273
def S292:=cfc f292
def S293:=cfc f293
def S298:=cfc f298
end
noncomputable section
def utf8first:List V:=(List.range 256).map λi=>V.int .u8 (if i<128 then 240 else if i<194 then 241 else if i<224 then 2 else if i=224 then 19 else if i<237 then 3 else if i=237 then 35 else if i<240 then 3 else if i=240 then 52 else if i<244 then 4 else if i=244 then 68 else 241:Nat)
def words:List V:=[.str [],.str [98,101,103,105,110],.str [114,101,97,100],.str [119,114,105,116,101],.str [111,107],.str [102,97,105,108],.str [105,110,102,111]]
def accR:List V:=[.int .u8 128,.int .u8 191,.int .u8 160,.int .u8 191,.int .u8 128,.int .u8 159,.int .u8 144,.int .u8 191,.int .u8 128,.int .u8 143,.int .u8 0,.int .u8 0,.int .u8 0,.int .u8 0,.int .u8 0,.int .u8 0,.int .u8 0,.int .u8 0,.int .u8 0,.int .u8 0,.int .u8 0,.int .u8 0,.int .u8 0,.int .u8 0,.int .u8 0,.int .u8 0,.int .u8 0,.int .u8 0,.int .u8 0,.int .u8 0,.int .u8 0,.int .u8 0]
def setZ:List V:=[.int .u64 0,.int .u64 0,.int .u64 0,.int .u64 0,.int .u64 0,.int .u64 0,.int .u64 0,.int .u64 0]
def bruij:List V:=([0,1,56,2,57,49,28,3,61,58,42,50,38,29,17,4,62,47,59,36,45,43,51,22,53,39,33,30,24,18,12,5,63,55,48,27,60,41,37,16,46,35,44,21,52,32,23,11,54,26,40,15,34,20,31,10,25,14,19,9,13,8,7,6]:List Int).map (V.int .u8)
def fc_2:FuncId->Option AF
 |182=>some (cfa f182)
 |188=>some F188
 |189=>some F189
 |190=>some F190
 |191=>some (cfa f191)
 |192=>some (cfa f192)
 |194=>some (cfa f194)
 |195=>some (cfa f195)
 |196=>some (cfa f196)
 |197=>some F197
 |198=>some F198
 |199=>some F199
 |200=>some F200
 |201=>some (cfa f201)
 |202=>some (cfa f202)
 |206=>some F206
 |207=>some F207
 |208=>some F208
 |211=>some (cfa f211)
 |214=>some F214
 |218=>some F218
 |222=>some F222
 |232=>some (cfa f232)
 |233=>some (cfa f233)
 |234=>some (cfa f234)
 |235=>some (cfa f235)
 |236=>some (cfa f236)
 |237=>some (cfa f237)
 |243=>some F243
 |245=>some (cfa f245)
 |246=>some (cfa f246)
 |247=>some (cfa f247)
 |248=>some (cfa f248)
 |249=>some (cfa f249)
 |250=>some F250
 |251=>some (cfa f251)
 |253=>some F253
 |255=>some (cfa f255)
 |279=>some (cfa f279)
 |280=>some (cfa f280)
 |281=>some (cfa f281)
 |286=>some (cfa f286)
 |287=>some (cfa f287)
 |288=>some (cfa f288)
 |290=>some F290
 |291=>some F291
 |301=>some (cfa f301)
 |305=>some (cfa f305)
 |314=>some F314
 |321=>some F321
 |_=>none
def fc_1:FuncId->Option AF
 |87=>some F87
 |90=>some F90
 |92=>some F92
 |93=>some F93
 |94=>some F94
 |95=>some F95
 |98=>some F98
 |101=>some F101
 |102=>some F102
 |104=>some F104
 |105=>some F105
 |106=>some F106
 |107=>some F107
 |108=>some F108
 |109=>some F109
 |110=>some F110
 |111=>some F111
 |112=>some F112
 |113=>some F113
 |114=>some F114
 |123=>some (cfa f123)
 |124=>some (cfa f124)
 |128=>some F128
 |129=>some F129
 |130=>some F130
 |131=>some (cfa f131)
 |132=>some (cfa f132)
 |133=>some (cfa f133)
 |134=>some (cfa f134)
 |135=>some (cfa f135)
 |136=>some (cfa f136)
 |137=>some F137
 |138=>some (cfa f138)
 |141=>some F141
 |142=>some (cfa f142)
 |144=>some F144
 |146=>some F146
 |147=>some (cfa f147)
 |148=>some F148
 |158=>some F158
 |161=>some F161
 |162=>some F162
 |163=>some F163
 |165=>some F165
 |169=>some F169
 |174=>some (cfa f174)
 |178=>some (cfa f178)
 |179=>some (cfa f179)
 |180=>some (cfa f180)
 |181=>some (cfa f181)
 |f=>fc_2 f
def fc:FuncId->Option AF
 |6=>some F6
 |9=>some F9
 |10=>some F10
 |11=>some F11
 |12=>some F12
 |13=>some F13
 |16=>some F16
 |17=>some F17
 |18=>some F18
 |20=>some F20
 |25=>some F25
 |28=>some F28
 |29=>some (cfa f29)
 |30=>some F30
 |32=>some F32
 |33=>some F33
 |34=>some F34
 |37=>some F37
 |38=>some F38
 |41=>some F41
 |48=>some F48
 |49=>some F49
 |50=>some F50
 |51=>some (cfa f51)
 |52=>some (cfb f52)
 |53=>some F53
 |54=>some F54
 |55=>some F55
 |57=>some F57
 |59=>some F59
 |60=>some F60
 |61=>some F61
 |62=>some F62
 |63=>some F63
 |64=>some F64
 |65=>some F65
 |66=>some F66
 |67=>some F67
 |68=>some F68
 |69=>some F69
 |70=>some F70
 |71=>some F71
 |72=>some F72
 |73=>some F73
 |74=>some F74
 |75=>some (cfb f75)
 |79=>some F79
 |81=>some (cfa f81)
 |82=>some (cfa f82)
 |85=>some (cfa f85)
 |f=>fc_1 f
def fs_1:FuncId->Option AF
 |177=>some (cfc f177)
 |178=>some S178
 |179=>some (cfc f179)
 |180=>some S180
 |181=>some S181
 |182=>some (cfc f182)
 |203=>some (cfc f203)
 |204=>some (cfc f204)
 |205=>some (cfc f205)
 |209=>some S209
 |210=>some S210
 |211=>some S211
 |212=>some S212
 |213=>some S213
 |215=>some S215
 |216=>some S216
 |217=>some S217
 |220=>some S220
 |221=>some S221
 |222=>some S222
 |233=>some S233
 |234=>some S234
 |235=>some S235
 |237=>some S237
 |252=>some (cfc f252)
 |254=>some (cfc f254)
 |255=>some S255
 |256=>some S256
 |257=>some S257
 |258=>some S258
 |259=>some S259
 |260=>some S260
 |261=>some S261
 |262=>some S262
 |263=>some S263
 |273=>some S273
 |289=>some (cfc f289)
 |291=>some (cfc f291)
 |292=>some S292
 |293=>some S293
 |298=>some S298
 |306=>some (cfc f306)
 |_=>none
def fs:FuncId->Option AF
 |27=>some S27
 |31=>some S31
 |38=>some S38
 |56=>some S56
 |58=>some S58
 |80=>some S80
 |83=>some (cfc f83)
 |84=>some (cfc f84)
 |86=>some (cfc f86)
 |88=>some S88
 |89=>some S89
 |91=>some S91
 |96=>some S96
 |97=>some S97
 |99=>some S99
 |100=>some S100
 |103=>some S103
 |115=>some S115
 |116=>some S116
 |117=>some S117
 |118=>some S118
 |121=>some S121
 |122=>some S122
 |123=>some (cfc f123)
 |124=>some (cfc f124)
 |139=>some (cfc f139)
 |140=>some (cfc f140)
 |143=>some S143
 |145=>some S145
 |147=>some S147
 |148=>some S148
 |149=>some S149
 |150=>some S150
 |151=>some S151
 |152=>some S152
 |153=>some S153
 |154=>some S154
 |155=>some S155
 |156=>some S156
 |157=>some S157
 |159=>some S159
 |160=>some S160
 |164=>some S164
 |166=>some S166
 |168=>some S168
 |170=>some S170
 |171=>some S171
 |172=>some S172
 |175=>some S175
 |176=>some S176
 |f=>fs_1 f
def shl:List Nat:=[31,58,80,83,91,99,100,103,115,116,117,118,119,121,122,139,149,150,151,152,153,154,159,164,166,167,168,170,175,176,177,203,204,209,213,215,217,252,254,273,276,289,298,306,307,308,309,310,311,312,313,318,319,320,322]
def shm:List Nat:=[27,38,113]
def fzl:List Nat:=[113]
def twl:List Nat:=[113]
def E:Env:={ sh:=λnm f=>shl.any (Nat.beq f)||(nm&&shm.any (Nat.beq f)),fz:=λf=>fzl.any (Nat.beq f),tw:=λf=>twl.any (Nat.beq f),srt:=λf=>match f with|167=>some none|119=>some (some 120)|_=>none,fc:=fc,fs:=fs,gl:=(λg=>match g with|0=>some words|2=>some utf8first|3=>some accR|4=>some bruij|_=>none),nw:=λf=>match f with|151=>some setZ|_=>none }
end
end Go.Pv.T
