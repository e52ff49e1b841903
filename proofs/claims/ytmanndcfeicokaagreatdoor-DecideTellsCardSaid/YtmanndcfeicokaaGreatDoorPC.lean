/- Part. -/
import Derived.Test.YtmanndcfeicokaaGreatDoorPB
import Derived.KernelRfl
import Derived.Test.YtmanndcfeicokaaGreatDoorRows
set_option maxRecDepth 100000
set_option maxHeartbeats 8000000
set_option linter.all false
namespace Go.Pv
open Go
def jbi:V->Bool->Prop->Prop->Prop
 | .bool c,b,p,q=>(c=b->p)/\(c = !b->q)
 | .tup [],_,_,q=>q
 |_,_,_,_=>False
def wpIf:V->Prop->Prop->Prop
 | .bool c,p,q=>(c=true->p)/\(c=false->q)
 |_,_,_=>False
def wpV (o:Option V) (k:V->Prop):Prop:=∃v,o=some v/\k v
def wpD (o:Option Delta) (k:Delta->Prop):Prop:=∃v,o=some v/\k v
def jqn (v:V) (k:V->Prop):wpV (some v) k=k v:=by simp[wpV]
def jqo (k:V->Prop):wpV none k=False:=by simp[wpV]
def j61 (c:Prop) [Decidable c] (o:Option V) (k:V->Prop):wpV (if c then o else none) k=(c/\wpV o k):=by by_cases h:c<;>simp[h,wpV]
def j1d (c:Prop) [Decidable c] (o:Option V) (k:V->Prop):wpV (if c then none else o) k=(¬c/\wpV o k):=by by_cases h:c<;>simp[h,wpV]
def jG (v:Delta) (k:Delta->Prop):wpD (some v) k=k v:=by simp[wpD]
def jb6 (k:Delta->Prop):wpD none k=False:=by simp[wpD]
def jfn (c:Prop) [Decidable c] (o:Option Delta) (k:Delta->Prop):wpD (if c then o else none) k=(c/\wpD o k):=by by_cases h:c<;>simp[h,wpD]
def j1p (c:Prop) [Decidable c] (o:Option Delta) (k:Delta->Prop):wpD (if c then none else o) k=(¬c/\wpD o k):=by by_cases h:c<;>simp[h,wpD]
def St.setT (st:St) (d:Option Nat) (v:V):St:={ st with tm:=put st.tm d v }
def ja6 (st:St) (d:Option Nat) (v:V):st.app d { v:=v }=st.setT d v:=by simp[St.app,Jk,Xq,St.setT]
def j7r (st:St) (d n:Nat) (v:V):(st.setT (some d) v).tm n=if n=d then v else st.tm n:=by simp[St.setT,put,yg]
def j19 (st:St) (n:Nat) (v:V):(st.setT none v).tm n=st.tm n:=rfl
def W0 (st:St) (d:Option Nat) (v:V):(st.setT d v).ob=st.ob:=rfl
def jop (st:St) (d:Option Nat) (v:V):(st.setT d v).tk=st.tk:=rfl
def j7s (st:St) (d:Option Nat) (v:V):(st.setT d v).ro=st.ro:=rfl
def j7t (st:St) (d:Option Nat) (v:V):(st.setT d v).nx=st.nx:=rfl
def j7u (st:St) (d:Option Nat) (v:V):(st.setT d v).fb=st.fb:=rfl
def j7v (st:St) (d:Option Nat) (v:V):(st.setT d v).df=st.df:=rfl
def St.setN (st:St) (n:Nat):St:={ st with nx:=n }
def joq (st:St) (n:Nat):(st.setN n).tm=st.tm:=rfl
def JZ (st:St) (n:Nat):(st.setN n).ob=st.ob:=rfl
def jw0 (st:St) (n:Nat):(st.setN n).tk=st.tk:=rfl
def j7w (st:St) (n:Nat):(st.setN n).ro=st.ro:=rfl
def jjz (st:St) (n:Nat):(st.setN n).nx=n:=rfl
def j7x (st:St) (n:Nat):(st.setN n).fb=st.fb:=rfl
def j7y (st:St) (n:Nat):(st.setN n).df=st.df:=rfl
def jnz (st:St) (d n:Nat) (δ:Delta):(st.app (some d) δ).tm n=if n=d then δ.v else st.tm n:=by simp[St.app,put,yg]
def app_tm0 (st:St) (n:Nat) (δ:Delta):(st.app none δ).tm n=st.tm n:=rfl
def app_ro (st:St) (d:Option Nat) (δ:Delta):(st.app d δ).ro=st.ro:=rfl
def app_nx (st:St) (d:Option Nat) (δ:Delta):(st.app d δ).nx=st.nx:=rfl
def app_fb (st:St) (d:Option Nat) (δ:Delta):(st.app d δ).fb=st.fb:=rfl
def app_df (st:St) (d:Option Nat) (δ:Delta):(st.app d δ).df=st.df:=rfl
def app_ob (st:St) (d:Option Nat) (v:V) (del:Option Nat) (add:List Nat):(st.app d { v:=v,del:=del,add:=add }).ob=st.ob:=by simp[St.app,Jk]
def jb (st:St) (d:Option Nat) (δ:Delta) (u:Nat):(st.app d δ).tk u=if u∈δ.add then true else if u∈δ.del.toList then false else st.tk u:=by simp only[St.app,jbl]
def XM (st:St) (d:Option Nat) (v:V) (l k:Nat) (o:Obj') (add:List Nat):(st.app d { v:=v,obs:=[(l,o)],add:=add }).ob k=if k=l then some o else st.ob k:=by simp[St.app,Jk,yg]
def j1w (args:List V) (n:Nat):(ja1 args).tm n=args.getD n jw:=rfl
def j1z (args:List V) (n:Nat):(ja1 args).ob n=none:=rfl
def j1x (args:List V) (n:Nat):(ja1 args).tk n=false:=rfl
def j1y (args:List V):(ja1 args).ro=0:=rfl
def j10 (args:List V):(ja1 args).nx=0:=rfl
def j11 (args:List V):(ja1 args).fb=0:=rfl
def j12 (args:List V):(ja1 args).df=[]:=rfl
def eval_t (E:Env) (tm:Nat->V) (n:Nat):ye E tm (.t n)=tm n:=rfl
def eval_c (E:Env) (tm:Nat->V) (v:V):ye E tm (.c v)=v:=rfl
def j2r:V->V->V->Option V
 | .bool t,a,b=>some (cond t a b)
 |_,_,_=>none
def jua (t:Bool) (a b:V):j2r (.bool t) a b=some (cond t a b):=rfl
def W8 (ob:ZO) (g:Option Nat):V->Option V
 | .eptr cs off=>Y0 g cs off
 | .ptr l u off=>(ya ob l u).bind λcs=>Y0 g cs off
 |_=>none
def jd2 (ob:ZO) (g:Option Nat) (cs:List V) (off:Nat):W8 ob g (.eptr cs off)=Y0 g cs off:=rfl
def j8u (ob:ZO) (g:Option Nat) (l u off:Nat):W8 ob g (.ptr l u off)=(ya ob l u).bind λcs=>Y0 g cs off:=rfl
def jcs:V->Option V
 | .ptr l u o=>some (.ptr l u o)
 | .eptr cs o=>some (.eptr cs o)
 | .fn (.func f) a b=>some (.fn (.func f) a b)
 |_=>none
def Wz (off:Nat):V->Option V
 | .ptr l u o=>some (.ptr l u (o+off))
 | .eptr cs o=>some (.eptr cs (o+off))
 |_=>none
def jt (sz:Nat):V->V->Option V
 | .sl _ _ n cs,.int _ i=>if 0<=i/\i<n/\cs.length=n*sz then some (.eptr cs (i.toNat*sz)) else none
 | .osl l u off n sz',.int _ i=>if 0<=i/\i<n/\sz'=sz then some (.ptr l u (off+i.toNat*sz)) else none
 |_,_=>none
def Wg (len sz:Nat):V->V->Option V
 | .ptr l u off,.int _ i=>if 0<=i/\i<len then some (.ptr l u (off+i.toNat*sz)) else none
 | .eptr cs off,.int _ i=>if 0<=i/\i<len then some (.eptr cs (off+i.toNat*sz)) else none
 |_,_=>none
def j8d (g:Option Nat) (off:Nat):V->Option V
 | .agg cs=>Y0 g cs off
 |_=>none
def Qv:V->V->Option V
 | .str s,.int _ i=>if 0<=i then (s[i.toNat]?).map λb=>.int .u8 b.toNat else none
 |_,_=>none
def jbx (g:Option Nat) (len sz:Nat):V->V->Option V
 | .agg cs,.int _ i=>if 0<=i/\i<len then Y0 g cs (i.toNat*sz) else none
 |_,_=>none
def Y2 (lo hi:Option V):V->Option V
 | .str s=>(Jz s.length s.length lo hi).map λ(l,h)=>.str ((s.take h).drop l)
 |_=>none
def Yz (sz:Nat) (lo hi:Option V):V->Option V
 | .sl _ nl n cs=>if cs.length=n*sz then (Jz n n lo hi).map λ(l,h)=>.sl none nl (h-l) ((cs.take (h*sz)).drop (l*sz)) else none
 | .osl a u off n sz'=>if sz'=sz then (Jz n n lo hi).map λ(l,h)=>.osl a u (off+l*sz) (h-l) sz else none
 |_=>none
def jkn:V->Option V
 | .str s=>some (.int .i64 s.length)
 |_=>none
def WW:V->Option V
 | .sl _ _ n _=>some (.int .i64 n)
 | .osl _ _ _ n _=>some (.int .i64 n)
 |_=>none
def jko (ob:ZO):V->Option V
 | .nilmap=>some (.int .i64 0)
 | .map l u=>(jY ob l u).map λes=>.int .i64 es.length
 |_=>none
def jfh (i:Nat):V->Option V
 | .tup vs=>vs[i]?
 |_=>none
def Xz (k:IntKind):V->Option V
 | .int _ n=>some (.int k (k.wrap n))
 |_=>none
def jbv (isMax:Bool):List V->Option V
 |[]=>none
 |x::r=>QL isMax x r
def j1a (ob:ZO) (neg:Bool) (k:EqK) (x y:V):Option V :=
 match k,x,y with
 | .ptr,.ptr l u off,.ptr l' u' off'=>if (ya ob l u).isSome&&(ya ob l' u').isSome then some (.bool (xor neg (Nat.beq l l'&&Nat.beq off off'))) else none
 |k,a,b=>(eqV k a b).map λb=>.bool (xor neg b)
def Yg (ob:ZO) (q:LK) (zero:V) (ok:Bool) (m k:V):Option V :=
 if Qu q k then match m with
  | .nilmap=>some (if ok then .tup [zero,.bool false] else zero)
  | .map l u=>(jY ob l u).bind λes=>(yO q k es).map λr=>match r with
   |some (_,v)=>if ok then .tup [v,.bool true] else v
   |none=>if ok then .tup [zero,.bool false] else zero
  |_=>none else none
section
variable {E:Env}{Yf:YF}{st:St}{ub:Nat}{K:St->Nat->Prop}{d:Option Nat}{nm:Bool}
def j1q {c:A}{a b:C}{Q:Ex->St->Prop}:wpC E Yf (.cond c a b) st Q=wpIf (ye E st.tm c) (wpC E Yf a st Q) (wpC E Yf b st Q):=by simp only[wpC];cases h:ye E st.tm c<;>simp[wpIf]
def jli {op:AOp}{t:Nat}{b:Bool}:j8 E Yf ⟨d,op,some (t,b),nm⟩ st ub K=jbi (st.tm t) b (j8 E Yf ⟨d,op,none,nm⟩ st ub K) (K (st.setT d jw) ub):=by
 have a:AOpr.name ⟨d,op,some (t,b),nm⟩=AOpr.name ⟨d,op,none,nm⟩:=rfl;unfold j8;simp only[yK,a];cases h:st.tm t with
 |bool c=>simp only[jbi];cases c<;>cases b<;>simp[St.setT]
 |tup l=>cases l<;>simp[jbi,St.setT]
 |_=>simp[jbi]
def jT (op:AOp) (h:op.isCall=false) (b:op.isNext=false):j8 E Yf ⟨d,op,none,nm⟩ st ub K=wpD (yU (λ_ _=>none) (ye E st.tm) st.ob st.tk st.ro (AOpr.name ⟨d,op,none,nm⟩ st.fb ub) ub op) λa=>K (st.app d a) (ub+64):=by cases op<;>first|cases h;done|cases b;done|simp only[j8,yK,jl,jA,wpD]
def WZ (v:V) (k:Delta->Prop):wpD (one v) k=k { v:=v }:=by simp[one,wpD]
def je3 (o:Option V) (k:Delta->Prop):wpD (o.bind one) k=wpV o λv=>k { v:=v }:=by cases o<;>simp[wpD,wpV,one]
def j63 {x:A}:j8 E Yf ⟨d,.mov x,none,nm⟩ st ub K=K (st.setT d (ye E st.tm x)) (ub+64):=by rw[jT _ rfl rfl];simp only[yU,WZ,ja6]
def j1f {c a b:A}:j8 E Yf ⟨d,.pick c a b,none,nm⟩ st ub K=wpV (j2r (ye E st.tm c) (ye E st.tm a) (ye E st.tm b)) λv=>K (st.setT d v) (ub+64):=by rw[jT _ rfl rfl];simp only[yU];cases ye E st.tm c<;>simp only[j2r,WZ,jqn,jqo,jb6,ja6]
def j65 {op:BinOp}{x y:A}:j8 E Yf ⟨d,.bin op x y,none,nm⟩ st ub K=wpV (YL op (ye E st.tm x) (ye E st.tm y)) λv=>K (st.setT d v) (ub+64):=by rw[jT _ rfl rfl];simp only[yU,je3,ja6]
def wpS_un {op:UnOp}{x:A}:j8 E Yf ⟨d,.un op x,none,nm⟩ st ub K=wpV (unV op (ye E st.tm x)) λv=>K (st.setT d v) (ub+64):=by rw[jT _ rfl rfl];simp only[yU,je3,ja6]
def jV {a:Type}(o:Option a) (f:a->V):(o.bind λx=>one (f x))=(o.map f).bind one:=by cases o<;>rfl
def je (c:Prop) [Decidable c] (v:Option V):(if c then v.bind one else none)=(if c then v else none).bind one:=by split<;>rfl
def XL (c:Prop) [Decidable c] (v:V):(if c then one v else none)=(if c then some v else none).bind one:=by split<;>rfl
def Qt {a:Type}(c:Prop) [Decidable c] (o:Option a) (f:a->V):(if c then o.bind λx=>one (f x) else none)=(if c then o.map f else none).bind one:=by split;exact jV _ _;rfl
def X0 {op:AOp}{o:Option V}(h:op.isCall=false) (c:op.isNext=false) (b:∀a,yU (λ_ _=>none) (ye E st.tm) st.ob st.tk st.ro a ub op=o.bind one):j8 E Yf ⟨d,op,none,nm⟩ st ub K=wpV o λv=>K (st.setT d v) (ub+64):=by rw[jT _ h c,b,je3];simp only[ja6]
def wpS_eq {neg:Bool}{k:EqK}{x y:A}:j8 E Yf ⟨d,.eq neg k x y,none,nm⟩ st ub K=wpV (j1a st.ob neg k (ye E st.tm x) (ye E st.tm y)) λv=>K (st.setT d v) (ub+64):=by refine X0 rfl rfl λa=>?_;simp only[yU,j1a];generalize ye E st.tm x=vx;generalize ye E st.tm y=vy;cases k<;>first|rfl|exact jV _ _|(cases vx<;>first|rfl|exact jV _ _|(cases vy<;>(first|rfl|exact XL _ _|exact je _ _|exact jV _ _|exact(cg ..).symm)))
def j1i {g:Option Nat}{x:A}:j8 E Yf ⟨d,.load g x,none,nm⟩ st ub K=wpV (W8 st.ob g (ye E st.tm x)) λv=>K (st.setT d v) (ub+64):=by refine X0 rfl rfl λa=>?_;simp only[yU,W8];generalize ye E st.tm x=vx;cases vx<;>(first|rfl|exact XL _ _|exact je _ _|exact jV _ _|exact(cg ..).symm)
def jlk {x:A}:j8 E Yf ⟨d,.nilCheck x,none,nm⟩ st ub K=wpV (jcs (ye E st.tm x)) λv=>K (st.setT d v) (ub+64):=by refine X0 rfl rfl λa=>?_;simp only[yU,jcs];generalize ye E st.tm x=vx;cases vx<;>(first|rfl|exact XL _ _|exact je _ _|exact jV _ _|exact(cg ..).symm|(rename_i f _ _;cases f<;>rfl)|exact Qt _ _ _)
def jjq {off:Nat}{x:A}:j8 E Yf ⟨d,.fieldAddr off x,none,nm⟩ st ub K=wpV (Wz off (ye E st.tm x)) λv=>K (st.setT d v) (ub+64):=by refine X0 rfl rfl λa=>?_;simp only[yU,Wz];generalize ye E st.tm x=vx;cases vx<;>(first|rfl|exact XL _ _|exact je _ _|exact jV _ _|exact(cg ..).symm)
def jv9 {sz:Nat}{x i:A}:j8 E Yf ⟨d,.idxSl sz x i,none,nm⟩ st ub K=wpV (jt sz (ye E st.tm x) (ye E st.tm i)) λv=>K (st.setT d v) (ub+64):=by refine X0 rfl rfl λa=>?_;simp only[yU,jt];generalize ye E st.tm x=vx;generalize ye E st.tm i=vi;cases vx<;>first|rfl|(cases vi<;>(first|rfl|exact XL _ _|exact je _ _|exact jV _ _|exact(cg ..).symm))
def jtm {len sz:Nat}{x i:A}:j8 E Yf ⟨d,.idxArr len sz x i,none,nm⟩ st ub K=wpV (Wg len sz (ye E st.tm x) (ye E st.tm i)) λv=>K (st.setT d v) (ub+64):=by refine X0 rfl rfl λa=>?_;simp only[yU,Wg];generalize ye E st.tm x=vx;generalize ye E st.tm i=vi;cases vx<;>first|rfl|(cases vi<;>(first|rfl|exact XL _ _|exact je _ _|exact jV _ _|exact(cg ..).symm))
def j1g {g:Option Nat}{off:Nat}{x:A}:j8 E Yf ⟨d,.part g off x,none,nm⟩ st ub K=wpV (j8d g off (ye E st.tm x)) λv=>K (st.setT d v) (ub+64):=by refine X0 rfl rfl λa=>?_;simp only[yU,j8d];generalize ye E st.tm x=vx;cases vx<;>(first|rfl|exact XL _ _|exact je _ _|exact jV _ _|exact(cg ..).symm)
def jtl {x i:A}:j8 E Yf ⟨d,.idxStr x i,none,nm⟩ st ub K=wpV (Qv (ye E st.tm x) (ye E st.tm i)) λv=>K (st.setT d v) (ub+64):=by refine X0 rfl rfl λa=>?_;simp only[yU,Qv];generalize ye E st.tm x=vx;generalize ye E st.tm i=vi;cases vx<;>first|rfl|(cases vi<;>(first|rfl|exact XL _ _|exact je _ _|exact jV _ _|exact(cg ..).symm|(rename_i f _ _;cases f<;>rfl)|exact Qt _ _ _))
def jtk {g:Option Nat}{len sz:Nat}{x i:A}:j8 E Yf ⟨d,.idxVal g len sz x i,none,nm⟩ st ub K=wpV (jbx g len sz (ye E st.tm x) (ye E st.tm i)) λv=>K (st.setT d v) (ub+64):=by refine X0 rfl rfl λa=>?_;simp only[yU,jbx];generalize ye E st.tm x=vx;generalize ye E st.tm i=vi;cases vx<;>first|rfl|(cases vi<;>(first|rfl|exact XL _ _|exact je _ _|exact jV _ _|exact(cg ..).symm))
def jv7 {x:A}{lo hi:Option A}:j8 E Yf ⟨d,.slStr x lo hi,none,nm⟩ st ub K=wpV (Y2 (lo.map (ye E st.tm)) (hi.map (ye E st.tm)) (ye E st.tm x)) λv=>K (st.setT d v) (ub+64):=by refine X0 rfl rfl λa=>?_;simp only[yU,Y2];generalize ye E st.tm x=vx;cases vx<;>(first|rfl|exact XL _ _|exact je _ _|exact jV _ _|exact(cg ..).symm)
def j1e {sz:Nat}{x:A}{lo hi:Option A}:j8 E Yf ⟨d,.slSl sz x lo hi,none,nm⟩ st ub K=wpV (Yz sz (lo.map (ye E st.tm)) (hi.map (ye E st.tm)) (ye E st.tm x)) λv=>K (st.setT d v) (ub+64):=by refine X0 rfl rfl λa=>?_;simp only[yU,Yz];generalize ye E st.tm x=vx;cases vx<;>(first|rfl|exact XL _ _|exact je _ _|exact jV _ _|exact(cg ..).symm|(rename_i f _ _;cases f<;>rfl)|exact Qt _ _ _)
def jti {x:A}:j8 E Yf ⟨d,.lenStr x,none,nm⟩ st ub K=wpV (jkn (ye E st.tm x)) λv=>K (st.setT d v) (ub+64):=by refine X0 rfl rfl λa=>?_;simp only[yU,jkn];generalize ye E st.tm x=vx;cases vx<;>(first|rfl|exact XL _ _|exact je _ _|exact jV _ _|exact(cg ..).symm)
def jv8 {x:A}:j8 E Yf ⟨d,.lenSl x,none,nm⟩ st ub K=wpV (WW (ye E st.tm x)) λv=>K (st.setT d v) (ub+64):=by refine X0 rfl rfl λa=>?_;simp only[yU,WW];generalize ye E st.tm x=vx;cases vx<;>(first|rfl|exact XL _ _|exact je _ _|exact jV _ _|exact(cg ..).symm)
def jtj {x:A}:j8 E Yf ⟨d,.lenMap x,none,nm⟩ st ub K=wpV (jko st.ob (ye E st.tm x)) λv=>K (st.setT d v) (ub+64):=by refine X0 rfl rfl λa=>?_;simp only[yU,jko];generalize ye E st.tm x=vx;cases vx<;>(first|rfl|exact XL _ _|exact je _ _|exact jV _ _|exact(cg ..).symm)
def joh {x:A}{i:Nat}:j8 E Yf ⟨d,.extract x i,none,nm⟩ st ub K=wpV (jfh i (ye E st.tm x)) λv=>K (st.setT d v) (ub+64):=by refine X0 rfl rfl λa=>?_;simp only[yU,jfh];generalize ye E st.tm x=vx;cases vx<;>(first|rfl|exact XL _ _|exact je _ _|exact jV _ _|exact(cg ..).symm)
def j1j {k:IntKind}{x:A}:j8 E Yf ⟨d,.conv k x,none,nm⟩ st ub K=wpV (Xz k (ye E st.tm x)) λv=>K (st.setT d v) (ub+64):=by refine X0 rfl rfl λa=>?_;simp only[yU,Xz];generalize ye E st.tm x=vx;cases vx<;>(first|rfl|exact XL _ _|exact je _ _|exact jV _ _|exact(cg ..).symm)
def jtg {b:Bool}{xs:List A}:j8 E Yf ⟨d,.minmax b xs,none,nm⟩ st ub K=wpV (jbv b (xs.map (ye E st.tm))) λv=>K (st.setT d v) (ub+64):=by refine X0 rfl rfl λa=>?_;simp only[yU,jbv];generalize xs.map (ye E st.tm)=vxs;cases vxs<;>(first|rfl|exact XL _ _|exact je _ _|exact jV _ _|exact(cg ..).symm)
def j1h {f:Fn}{a b:List A}:j8 E Yf ⟨d,.mkFn f a b,none,nm⟩ st ub K=K (st.setT d (.fn f (a.map (ye E st.tm)) (b.map (ye E st.tm)))) (ub+64):=by rw[jT _ rfl rfl];simp only[yU,WZ,ja6]
def jwd {z:List V}{ps:List (Nat×Nat×A)}:j8 E Yf ⟨d,.build z ps,none,nm⟩ st ub K=wpV ((fill z (JE (ye E st.tm) ps)).map .agg) λv=>K (st.setT d v) (ub+64):=by rw[jT _ rfl rfl];simp only[yU,jV,je3,ja6]
def jth {q:LK}{z:V}{a:Bool}{m k:A}:j8 E Yf ⟨d,.lookup q z a m k,none,nm⟩ st ub K=wpV (Yg st.ob q z a (ye E st.tm m) (ye E st.tm k)) λv=>K (st.setT d v) (ub+64):=by
 refine X0 rfl rfl λc=>?_;simp only[yU,Yg];generalize ye E st.tm m=vm;generalize ye E st.tm k=vk;cases Qu q vk with
 |false=>rfl
 |true=>
  simp only[zd];cases vm<;>first|rfl|skip
  rename_i l u;simp only;cases jY st.ob l u with
  |none=>rfl
  |some b=>
   simp only[ah];cases yO q vk b with
   |none=>rfl
   |some r=>cases r<;>rfl
def jrn (E:Env) (nm:Bool) (f:FuncId) (vs:List V):Prop:=E.sh nm f=false/\(vs.all λv=>v.strip.pureTop)=true
def jk9 (vs:List V):(vs.map V.strip).all V.pureTop=vs.all λv=>v.strip.pureTop:=by rw[dN];rfl
def j1k {f:FuncId}{xs:List A}(h:jrn E nm f (xs.map (ye E st.tm))/\∃v,Ev E f ((xs.map (ye E st.tm)).map V.strip) v/\wpD (Xp ub v) λa=>K (st.app d a) (ub+64)):j8 E Yf ⟨d,.call f xs,none,nm⟩ st ub K:=by
 obtain⟨⟨i,g⟩,v,e,a,b,j⟩:=h;have c:(xs.all λx=>(ye E st.tm x).strip.pureTop)=true:=by rw[dN]at g;exact g
 have k:jA E nm (ye E st.tm) (.call f xs)=none:=by simp only[jA,i,c,cp,dq,zd]
 simp only[j8,yK,jl,k,ja7];refine⟨by rw[dN];exact c,v,?_,a,b,j⟩;rw[cM]at e;exact e
def jwa {q:A}{xs:List A}{f:FuncId}{first captured:List V}(c:ye E st.tm q=.fn (.func f) first captured)
 (h:jrn E nm f (first++xs.map (ye E st.tm)++captured)/\∃v,Ev E f ((first++xs.map (ye E st.tm)++captured).map V.strip) v/\wpD (Xp ub v) λa=>K (st.app d a) (ub+64)):j8 E Yf ⟨d,.callV q xs,none,nm⟩ st ub K:=by
 obtain⟨⟨i,e⟩,v,g,a,b,j⟩:=h;have k:jA E nm (ye E st.tm) (.callV q xs)=none:=by simp only[jA,c,i,e,cp,dq,zd]
 simp only[j8,yK,jl,c,k,ja7];exact⟨f,first,captured,rfl,by rw[jk9];exact e,v,g,a,b,j⟩
end
attribute [simp] j7r j19 W0 jop j7s j7t j7u j7v
 joq JZ jw0 j7w jjz j7x j7y j1w j1z j1x j1y j10 j11 j12 eval_t eval_c jua jd2 j8u jqn jqo jG jb6 ja6
@[simp] theorem binV_add (k:IntKind) (a b:Int):YL .add (.int k a) (.int k b)=some (.int k (k.wrap (a+b))):=by simp[YL,Xa]
@[simp] theorem binV_sub (k:IntKind) (a b:Int):YL .sub (.int k a) (.int k b)=some (.int k (k.wrap (a-b))):=by simp[YL,Xa]
@[simp] theorem binV_mul (k:IntKind) (a b:Int):YL .mul (.int k a) (.int k b)=some (.int k (k.wrap (a*b))):=by simp[YL,Xa]
@[simp] theorem binV_quo (k:IntKind) (a b:Int):YL .quo (.int k a) (.int k b)=if b=0 then none else some (.int k (k.wrap (a.tdiv b))):=by simp[YL,Xa]
@[simp] theorem binV_rem (k:IntKind) (a b:Int):YL .rem (.int k a) (.int k b)=if b=0 then none else some (.int k (a.tmod b)):=by simp[YL,Xa]
@[simp] theorem binV_lss (k:IntKind) (a b:Int):YL .lss (.int k a) (.int k b)=some (.bool (decide (a<b))):=by simp[YL,Xa]
@[simp] theorem binV_leq (k:IntKind) (a b:Int):YL .leq (.int k a) (.int k b)=some (.bool (decide (a<=b))):=by simp[YL,Xa]
@[simp] theorem binV_gtr (k:IntKind) (a b:Int):YL .gtr (.int k a) (.int k b)=some (.bool (decide (b<a))):=by simp[YL,Xa]
@[simp] theorem binV_geq (k:IntKind) (a b:Int):YL .geq (.int k a) (.int k b)=some (.bool (decide (b<=a))):=by simp[YL,Xa]
@[simp] theorem binV_eql (k:IntKind) (a b:Int):YL .eql (.int k a) (.int k b)=some (.bool (a==b)):=by simp[YL,Xa]
@[simp] theorem binV_neq (k:IntKind) (a b:Int):YL .neq (.int k a) (.int k b)=some (.bool (a != b)):=by simp[YL,Xa]
@[simp] theorem binV_seql (a b:List UInt8):YL .eql (.str a) (.str b)=some (.bool (a==b)):=by simp[YL,jlp]
@[simp] theorem binV_sneq (a b:List UInt8):YL .neq (.str a) (.str b)=some (.bool (!(a==b))):=by simp[YL,jlp]
@[simp] theorem unV_not (b:Bool):unV .not (.bool b)=some (.bool (!b)):=rfl
@[simp] theorem lenSlV_sl (t:Option (Nat×Nat)) (b:Bool) (n:Nat) (cs:List V):WW (.sl t b n cs)=some (.int .i64 n):=rfl
@[simp] theorem lenSlV_osl (a b c n d:Nat):WW (.osl a b c n d)=some (.int .i64 n):=rfl
@[simp] theorem j8y (s:List UInt8):jkn (.str s)=some (.int .i64 s.length):=rfl
@[simp] theorem J1 (sz:Nat) (t:Option (Nat×Nat)) (b:Bool) (n:Nat) (cs:List V) (k:IntKind) (i:Int):jt sz (.sl t b n cs) (.int k i)=if 0<=i/\i<n/\cs.length=n*sz then some (.eptr cs (i.toNat*sz)) else none:=rfl
@[simp] theorem pick1_none (cs:List V) (off:Nat):Y0 none cs off=cs[off]?:=rfl
@[simp] theorem j6g (i:Nat) (vs:List V):jfh i (.tup vs)=vs[i]?:=rfl
def V.flat:V->Bool
 | .bool _|.int ..|.str _|.nilptr|.nilmap|.nilfn|.nilif=>true
 | .sl t _ _ _=>t.isNone
 |_=>false
def jbq {st:St}{keep:Bool}{i:Nat}{v:V}(h:v.flat=true):XE st keep i v=some v:=by
 cases v with
 |sl t a n cs=>cases t with
  |none=>rfl
  |some t=>cases h
 |_=>first|rfl|cases h
def jg0 {v:V}(h:v.flat=true):v.toks=[]:=by
 cases v with
 |sl t a n cs=>cases t with
  |none=>rfl
  |some t=>cases h
 |_=>first|rfl|cases h
def Ye {st:St}(h:st.df=[]):st.noDf=st:=by unfold St.noDf;simp only[h]
def Yj {st:St}(h:st.df=[]):j6p st=true:=by unfold j6p;simp only[h];rfl
def j3 {n:Nat}{st:St}{v:V}(a:st.df=[]) (h:st.tm n=v) (b:v.flat=true):jb4 [.t n] (.ret,st)=some v:=by simp only[jb4,Yj a,Ye a,zd,bQ,gt,ju,h];simp[W4,Jc,jbq b,jg0 b,yJ]
def Jw {n m:Nat}{st:St}{v u:V}(b:st.df=[]) (h:st.tm n=v) (d:st.tm m=u) (c:v.flat=true) (a:u.flat=true):jb4 [.t n,.t m] (.ret,st)=some (.tup [v,u]):=by simp only[jb4,Yj b,Ye b,zd,bQ,gt,ju,h,d];simp[W4,Jc,jbq c,jbq a,jg0 c,jg0 a,yJ]
@[simp] theorem retA_bool (ub:Nat) (b:Bool):Xp ub (.bool b)=some { v:=.bool b }:=rfl
@[simp] theorem retA_int (ub:Nat) (k:IntKind) (b:Int):Xp ub (.int k b)=some { v:=.int k b }:=rfl
@[simp] theorem retA_str (ub:Nat) (s:List UInt8):Xp ub (.str s)=some { v:=.str s }:=rfl
@[simp] theorem retA_int2 (ub:Nat) (k c:IntKind) (b a:Int):Xp ub (.tup [.int k b,.int c a])=some { v:=.tup [.int k b,.int c a] }:=rfl
@[simp] theorem j74 (ub:Nat) (nl:Bool) (n:Nat) (cs:List V):Xp ub (.sl none nl n cs)=some { v:=.sl none nl n cs }:=rfl
def jwc {E:Env}{Yf:YF}{st:St}{ub:Nat}{K:St->Nat->Prop}{d:Option Nat}{nm:Bool}{f:FuncId}{xs:List A}{vs:List V}{v:V}(a:xs.map (ye E st.tm)=vs) (e:E.sh nm f=false) (hp:(vs.all λv=>v.strip.pureTop)=true)
 (c:Ev E f (vs.map V.strip) v) (h:wpD (Xp ub v) λb=>K (st.app d b) (ub+64)):j8 E Yf ⟨d,.call f xs,none,nm⟩ st ub K :=
 j1k ⟨by rw[a];exact⟨e,hp⟩,v,by rw[a];exact c,h⟩
def C.one:C->Bool
 | .region ops=>ops.all λo=>o.op.next?.isNone
 | .pin o _=>o.op.next?.isNone
 | .seq a b|.cond _ a b=>a.one&&b.one
 | .block _ a|.loop a=>a.one
 |_=>true
def Single {α:Type}(o:Option (List α)):Prop:=∀l,o=some l->∃x,l=[x]
def Single.bindL {d e:Type}{m:Option (List d)}{f:d->Option (List e)}(g:Single m) (i:∀a,Single (f a)):Single (bindL m f):=by
 intro l h;cases b:m with
 |none=>rw[b]at h;cases h
 |some c=>obtain⟨a,rfl⟩:=g c b;rw[b]at h;exact i a l h
def Single.map {d e:Type}{m:Option (List d)}{f:d->e}(g:Single m):Single (m.map λl=>l.map f):=by
 intro l h;cases b:m with
 |none=>rw[b]at h;cases h
 |some c=>obtain⟨a,rfl⟩:=g c b;rw[b]at h;cases h;exact⟨f a,rfl⟩
def Single.none {a:Type}:Single (none:Option (List a)):=λ_ h=>by cases h
def Single.some {a:Type}(x:a):Single (some [x]):=λ_ h=>⟨x,by cases h;rfl⟩
def Single.opt {b c:Type}{m:Option b}{f:b->c}:Single (m.map λa=>[f a]):=by
 intro l h;cases m with
 |none=>cases h
 |some a=>cases h;exact⟨f a,rfl⟩
section
variable {E:Env}{Yf:YF}
def jq2 {c:Callers}(i:∀f a ob d e b u,Single (c.s f a ob d e b u)) {o:AOpr}{st:St}{ub:Nat}(h:o.op.next?.isNone=true):Single (jeg E c o st ub):=by
 have g:o.op.next? = .none:=by simpa using h
 unfold jeg;split;split;exact Single.opt;split;split;exact Single.map (i _ _ _ _ _ _ _);exact Single.opt;rw[g];exact Single.opt;exact Single.some _;exact Single.none
def jrt {c:Callers}(d:∀f a ob e g b u,Single (c.s f a ob e g b u)):∀{ops:List AOpr}{st:St}{ub:Nat},(ops.all λo=>o.op.next?.isNone)=true->Single (jkc E c ops st ub)
 |[],_,_,_=>Single.some _
 |o::r,st,ub,h=>by simp only[bU,aj]at h;exact Single.bindL (jq2 d h.1) λx=>jrt d h.2
def jm3 {body:St->Outs}(a:∀st,Single (body st)):∀(n:Nat) (st:St),Single (jcv body n st)
 |0,_=>Single.none
 |n+1,st=>Single.bindL (a st) λx=>by obtain⟨e,s⟩:=x;cases e;exact jm3 a n s;exact Single.some _;exact Single.some _
def j0q {d:Y->Callers}(t:∀y f a ob w v b u,Single ((d y).s f a ob w v b u)) {y:Y}{N:Nat}:∀{c:C}{st:St},c.one=true->Single (jh E d y N c st):=by
 intro c;induction c with
 |skip=>intro st _;exact Single.some _
 |ret=>intro st _;exact Single.some _
 |exit i=>intro st _;exact Single.some _
 |stuck=>intro st _;exact Single.none
 |region k=>intro st h;simp only[jh];exact Single.map (jrt (t y) h)
 |pin o fs=>intro st h;simp only[jh];refine Single.bindL (jq2 (t y) h) λx=>?_;intro l h;obtain⟨p,_,h⟩:=yc h;split at h;cases h;exact⟨_,rfl⟩;cases h
 |draw k free=>
  intro st _ l h;simp only[jh]at h;cases n:Yi E (d y) k st st.nx with
  |none=>rw[n]at h;cases h
  |some p=>rw[n,ah]at h;split at h;cases h;exact⟨_,rfl⟩;cases h
 |seq a b j g=>intro st h;simp only[C.one,aj]at h;simp only[jh];refine Single.bindL (j h.1) λx=>?_;obtain⟨e,s⟩:=x;cases e;exact g h.2;exact Single.some _;exact Single.some _
 |cond q a b j g=>intro st h;simp only[C.one,aj]at h;simp only[jh];split;exact j h.1;exact g h.2;exact Single.none
 |block i a m=>intro st h;simp only[jh];exact Single.map (m h)
 |loop a m=>intro st h;simp only[jh];exact jm3 (λs=>m h) N st
 |rangeFunc f z a b=>intro st _ l h;simp only[jh]at h;split at h;simp only[ec]at h;obtain⟨r,_,h⟩:=h;split at h;split at h;cases h;exact⟨_,rfl⟩;cases h;cases h;cases h
def jqc (c:∀f,E.mn f=false):∀(n:Nat) (y:Y) (f a ob tk ro b u),Single ((yL E n y).s f a ob tk ro b u)
 |0,_,_,_,_,_,_,_,_=>Single.none
 |n+1,y,f,a,ob,tk,ro,b,u=>by intro l h;simp only[yL,c,ag,zc]at h;split at h;obtain⟨_,_,h⟩:=yc h;obtain⟨_,_,h⟩:=yc h;obtain⟨x,_,rfl⟩:=yh h;exact⟨x,rfl⟩;split at h;obtain⟨x,_,rfl⟩:=yh h;exact⟨x,rfl⟩;obtain⟨_,_,h⟩:=yc h;obtain⟨_,_,h⟩:=yc h;split at h;obtain⟨x,_,rfl⟩:=yh h;exact⟨x,rfl⟩;cases h
def jmh {c:C}{st:St}{Q:Ex->St->Prop}(e:c.one=true) (h:wpC E Yf c st Q) (b:∀f,E.mn f=false):∃n x,jh E (yL E n) (Yf.y n) n c st=some [x]/\Q x.1 x.2:=by obtain⟨n,l,a,_,d⟩:=j6z h;obtain⟨x,rfl⟩:=j0q (jqc b n) e l a;exact⟨n,x,a,d x (ae.2 rfl)⟩
def EvO_wp {f:FuncId}{af:AF}{args:List V}{ob:ZO}{tk:Nat->Bool}{base ub:Nat}{r:V}(a:E.fs f=some af)
 (h:wpC E YS af.body (XD args ob (λ_=>false) ub base ub) λe s=>jb4 af.res (e,s)=some r) (g:E.fz f=false:=by rfl):EvO E f args ob tk base ub r:=by
 obtain⟨n,l,d,b,c⟩:=j6z h;refine⟨n+1,?_⟩;simp only[yL,a,ah,g,ag,zc];rw[show jh E (yL E n) noY n af.body (XD args ob (λ_=>false) ub base ub)=some l from d];exact jke b c
def jle {y:Nat->Y}{f:FuncId}{args:List V}{ob:ZO}{tk:Nat->Bool}{ro base ub:Nat}{r:V×(ZO)×(Nat->Bool)×Nat}{m:Option FuncId}(b:E.srt f=some m) (a:jtw m ob tk ro ub args=some r) (c:E.tw f=false:=by rfl):EvS E y f args ob tk ro base ub r:=by refine⟨1,?_⟩;simp only[yL,c,b,ag,zc,zd,a,aU]
def J6 {f:FuncId}{af:AF}{args:List V}{ob:ZO}{tk:Nat->Bool}{ro base ub:Nat}{P:V×(ZO)×(Nat->Bool)×Nat->Prop}(b:E.fs f=some af) (j:af.body.one=true)
 (h:wpC E Yf af.body (XD args ob tk ro base ub) λe s=>∃r,endS af.res (e,s)=some r/\P r) (k:E.tw f=false:=by rfl) (d:E.srt f=none:=by rfl) (a:∀f,E.mn f=false:=by intro _;rfl):∃r,EvS E Yf.y f args ob tk ro base ub r/\P r:=by
 obtain⟨n,x,g,r,c,i⟩:=jmh j h a;refine⟨r,⟨n+1,?_⟩,i⟩;simp only[yL,b,ah,k,d,ag,zc];rw[jp (XY n n zK) zK af.body _ _ (Yf.mono (Nat.le_succ n)) _ _ g];simp only[ah,a,ag,zc,c,aU]
def jia (E:Env) (Yf:YF) (asg bd:C) (st:St) (ps:List Nat) (l u:Nat):YF where
 y n:=ja8 (jh E (yL E n) (Yf.y n) n asg) (jh E (yL E n) (Yf.y n) n bd) st ps l u
 mono h:=jf5 (λs=>jp (Jy _ _ h) h asg _ _ (Yf.mono h) s) (λs=>jp (Jy _ _ h) h bd _ _ (Yf.mono h) s) st ps l u
def QF (l u:Nat) (e:Ex) (s:St):V×(ZO)×(Nat->Bool)×Nat:=match e with
 | .nrm=>(.bool true,upd s.ob l (some ⟨u,.loop .ready none⟩),s.tk,s.nx)
 |e=>(.bool false,upd s.ob l (some ⟨u,.loop .done (some e)⟩),s.tk,s.nx)
def jhn {asg bd:C}{st:St}{ps:List Nat}{l u:Nat}{xs:List V}{ob:ZO}{tk:Nat->Bool}{ro ub:Nat}{P:V×(ZO)×(Nat->Bool)×Nat->Prop}(t:xs.length=ps.length) (i:ro<=u) (j:ob l=some ⟨u,.loop .ready none⟩)
 (y:asg.one=true) (w:bd.one=true)
 (h:wpC E Yf asg { tm:=jfw st.tm ps xs,ob,tk,ro,nx:=ub,fb:=st.fb,df:=[] } λe d=>e=.nrm/\d.ob l=some ⟨u,.loop .ready none⟩ /\
  wpC E Yf bd { d with ob:=upd d.ob l (some ⟨u,.loop .busy none⟩) } λe g=>g.ob l=some ⟨u,.loop .busy none⟩/\P (QF l u e g)) (k:∀f,E.mn f=false:=by intro _;rfl):∃r,EvY (jia E Yf asg bd st ps l u) l u xs ob tk ro ub r/\P r:=by
 obtain⟨n,⟨e,d⟩,z,p,a,o⟩:=jmh y h k;simp only at p a o;subst p;obtain⟨m,⟨e,g⟩,v,b,q⟩:=jmh w o k;simp only at b q;refine⟨QF l u e g,⟨max n m,?_⟩,q⟩;have s:=jp (Jy (E:=E) n (max n m) zO) (show n<=max n m by omega) asg _ _ (Yf.mono (show n<=max n m by omega)) _ _ z;have x:=jp (Jy (E:=E) m (max n m) zO) (show m<=max n m by omega) bd _ _ (Yf.mono (show m<=max n m by omega)) _ _ v;have c:Nat.ble ro u=true:=bS▸i;simp only[jia,ja8,t,c,and_self,zd,j,s,a,x,b];cases e<;>rfl
def Q9 {f:A}{ps:List Nat}{asg bd:C}{st:St}{Q:Ex->St->Prop}{g:FuncId}{first captured:List V}(i:ye E st.tm f=.fn (.func g) first captured)
 (h:∃r,EvS E (jia E Yf asg bd st ps (2*st.nx+1) st.nx).y g (first++[.yld (2*st.nx+1) st.nx]++captured)
  (upd (upd st.ob (2*st.nx+3) (some ⟨st.nx+1,.dfr⟩)) (2*st.nx+1) (some ⟨st.nx,.loop .ready none⟩)) st.tk st.ro ((st.fb+1023)*1024) (st.nx+64) r /\
  ∃s a,r.2.1 (2*st.nx+1)=some ⟨st.nx,.loop s a⟩/\s≠.busy/\st.ro<=st.nx /\
   Q (a.getD .nrm) { st with ob:=λk=>if Nat.beq (2*st.nx+1) k then none else r.2.1 k,tk:=r.2.2.1,nx:=r.2.2.2,df:=(2*st.nx+3,st.nx+1)::st.df }):wpC E Yf (.rangeFunc f ps asg bd) st Q:=by
 obtain⟨⟨v,ob,tk,o⟩,⟨n,l⟩,s,a,e,j,m,p⟩:=h;have b:Nat.ble st.ro st.nx=true:=bS▸m;refine⟨n,[(a.getD .nrm,_)],?_,cX _ _,λx d=>by rw[ae]at d;subst d;exact p⟩;simp only[jh,i];have c:(yL E n (ja8 (jh E (yL E n) (Yf.y n) n asg) (jh E (yL E n) (Yf.y n) n bd) st ps (2*st.nx+1) st.nx)).s g (first++[.yld (2*st.nx+1) st.nx]++captured)
  (upd (upd st.ob (2*st.nx+3) (some ⟨st.nx+1,.dfr⟩)) (2*st.nx+1) (some ⟨st.nx,.loop .ready none⟩)) st.tk st.ro ((st.fb+1023)*1024) (st.nx+64)=some [(v,ob,tk,o)]:=l
 simp only at e;simp only[c,only,ah,e,j,ne_eq,not_false_eq_true,b,and_self,zd]
def jlj {q:A}{xs:List A}{st:St}{ub:Nat}{K:St->Nat->Prop}{d:Option Nat}{nm:Bool}{l u:Nat}(a:ye E st.tm q=.yld l u)
 (h:∃r,EvY Yf l u (xs.map (ye E st.tm)) st.ob st.tk st.ro ub r/\K { st with tm:=put st.tm d r.1,ob:=r.2.1,tk:=r.2.2.1 } r.2.2.2):j8 E Yf ⟨d,.callV q xs,none,nm⟩ st ub K:=by
 simp only[j8,yK,jl,a];exact h
def jwb {f:FuncId}{xs:List A}{st:St}{ub:Nat}{K:St->Nat->Prop}{d:Option Nat}{nm:Bool}(g:E.sh nm f=false) (hp:((xs.map (ye E st.tm)).all λv=>v.strip.pureTop)=false)
 (h:∃v,EvO E f (xs.map (ye E st.tm)) st.ob st.tk ((st.fb+d.getD 0+1)*1024) ub v/\wpD (Xp ub v) λa=>K (st.app d a) (ub+64)):j8 E Yf ⟨d,.call f xs,none,nm⟩ st ub K:=by
 have b:(xs.all λx=>(ye E st.tm x).strip.pureTop)=false:=by rw[dN]at hp;exact hp
 have c:jA E nm (ye E st.tm) (.call f xs)=some (f,xs.map (ye E st.tm)):=by simp only[jA,g,b,cp,bM,ag,zc]
 simp only[j8,yK,jl,c];obtain⟨v,i,a,e,j⟩:=h;exact .inr ⟨g,v,i,a,e,j⟩
end
def jI (d:Option Nat) (nm:Bool) (fb ub:Nat):Nat:=cond nm (2*ub+1) (2*(fb+d.getD 0))
def jyh (d fb ub:Nat):jI (some d) false fb ub=2*(fb+d):=rfl
def Xu (d:Option Nat) (fb ub:Nat):jI d true fb ub=2*ub+1:=rfl
def Jd (d:Option Nat) (op:AOp) (nm:Bool) (fb ub:Nat):AOpr.name ⟨d,op,none,nm⟩ fb ub=jI d nm fb ub:=by cases nm<;>rfl
def jdi (st:St) (sz:Nat) (x:V) (K:Delta->Prop):V->Prop
 | .ptr l u off=>∃cs,ya st.ob l u=some cs/\st.ro<=u/\x.cells.length=sz/\off+sz<=cs.length/\x.cells.all V.leaf=true/\K { v:=jw,obs:=[(l,⟨u,.cells (j2 cs off x.cells)⟩)] }
 |_=>False
def jof (st:St) (sz:Nat) (x:V) (K:Delta->Prop) (l u off:Nat):jdi st sz x K (.ptr l u off)=∃cs,ya st.ob l u=some cs/\st.ro<=u/\x.cells.length=sz/\off+sz<=cs.length/\x.cells.all V.leaf=true/\K { v:=jw,obs:=[(l,⟨u,.cells (j2 cs off x.cells)⟩)] }:=rfl
section
variable {E:Env}{Yf:YF}{st:St}{ub:Nat}{K:St->Nat->Prop}{d:Option Nat}{nm:Bool}
def jwe {z:List V}:j8 E Yf ⟨d,.alloc z,none,nm⟩ st ub K=K (st.app d { v:=.ptr (jI d nm st.fb ub) ub 0,obs:=[(jI d nm st.fb ub,⟨ub,.cells z⟩)] }) (ub+64):=by rw[jT _ rfl rfl];simp only[yU,Jn,jG,Jd]
def j64 {sz:Nat}{x:A}:j8 E Yf ⟨d,.box sz x,none,nm⟩ st ub K=(((ye E st.tm x).cells.length=sz/\(ye E st.tm x).cells.all V.leaf=true)/\K (st.app d { v:=.ptr (jI d nm st.fb ub) ub 0,obs:=[(jI d nm st.fb ub,⟨ub,.cells (ye E st.tm x).cells⟩)] }) (ub+64)):=by rw[jT _ rfl rfl];simp only[yU,Jn,jfn,jG,Jd]
def jv6 {sz:Nat}{p x:A}:j8 E Yf ⟨d,.store sz p x,none,nm⟩ st ub K=jdi st sz (ye E st.tm x) (λa=>K (st.app d a) (ub+64)) (ye E st.tm p):=by
 rw[jT _ rfl rfl];simp only[yU];generalize ye E st.tm p=vp;cases vp<;>simp only[jb6,jdi];rename_i l u off;cases ya st.ob l u with
 |none=>simp[wpD]
 |some cs=>simp only[ah,jfn,jG,ab,exists_eq_left',bS,and_assoc]
end
attribute [simp] jyh Xu jnz app_tm0 app_ro app_nx app_fb app_df app_ob jb XM
@[simp] theorem cells_agg (cs:List V):(V.agg cs).cells=cs:=rfl
@[simp] theorem cells_bool (b:Bool):(V.bool b).cells=[.bool b]:=rfl
@[simp] theorem cells_int (k:IntKind) (n:Int):(V.int k n).cells=[.int k n]:=rfl
@[simp] theorem cells_str (s:List UInt8):(V.str s).cells=[.str s]:=rfl
@[simp] theorem cells_sl (t:Option (Nat×Nat)) (b:Bool) (n:Nat) (cs:List V):(V.sl t b n cs).cells=[.sl t b n cs]:=rfl
@[simp] theorem cells_iface (t:TypeId) (v:V):(V.iface t v).cells=[.iface t v]:=rfl
@[simp] theorem leaf_bool (b:Bool):(V.bool b).leaf=true:=rfl
@[simp] theorem leaf_int (k:IntKind) (n:Int):(V.int k n).leaf=true:=rfl
@[simp] theorem leaf_str (s:List UInt8):(V.str s).leaf=true:=rfl
@[simp] theorem leaf_sl (t:Option (Nat×Nat)) (b:Bool) (n:Nat) (cs:List V):(V.sl t b n cs).leaf=true:=rfl
@[simp] theorem leaf_iface (t:TypeId) (v:V):(V.iface t v).leaf=true:=rfl
@[simp] theorem leaf_nilif:V.nilif.leaf=true:=rfl
@[simp] theorem cells_nilif:V.nilif.cells=[.nilif]:=rfl
@[simp] theorem j09 (off l u o:Nat):Wz off (.ptr l u o)=some (.ptr l u (o+off)):=rfl
@[simp] theorem j0a (off:Nat) (cs:List V) (o:Nat):Wz off (.eptr cs o)=some (.eptr cs (o+off)):=rfl
@[simp] theorem Wr (k:Nat) (cs:List V) (off:Nat):Y0 (some k) cs off=if off+k<=cs.length then some (.agg ((cs.drop off).take k)) else none:=rfl
@[simp] theorem splice_all (cs vs:List V) (h:vs.length=cs.length):j2 cs 0 vs=vs:=by simp[j2,<- h]
def kOps (E:Env) (Yf:YF) (r:List AOpr) (K:St->Prop):St->Nat->Prop:=λst ub=>QT E Yf r st ub K
def kNrm (Q:Ex->St->Prop):St->Prop:=λs=>Q .nrm s
def jv1 (E:Env) (Yf:YF) (b:C) (Q:Ex->St->Prop):Ex->St->Prop:=λe s=>match e with
 | .nrm=>wpC E Yf b s Q
 |e=>Q e s
def kBlk (i:Nat) (Q:Ex->St->Prop):Ex->St->Prop:=λe s=>match e with
 | .exit j=>if j=i then Q .nrm s else Q (.exit j) s
 |e=>Q e s
def jao (K:St->Nat->Prop) (st:St) (d:Option Nat) (ub:Nat):V->Prop:=λv=>K (st.setT d v) (ub+64)
def QN (K:St->Nat->Prop) (st:St) (d:Option Nat) (ub:Nat):Delta->Prop:=λδ=>K (st.app d δ) (ub+64)
def kIf (E:Env) (Yf:YF) (a b:C) (st:St) (Q:Ex->St->Prop):Bool->Prop
 |true=>wpC E Yf a st Q
 |false=>wpC E Yf b st Q
def kGd (E:Env) (Yf:YF) (o:AOpr) (st:St) (ub:Nat) (K:St->Nat->Prop):Bool->Prop
 |true=>j8 E Yf o st ub K
 |false=>K (st.setT o.dst jw) ub
def jzm (I:Nat->St->Prop) (k:Nat) (Q:Ex->St->Prop):Ex->St->Prop:=λe s=>match e with
 | .nrm=>∃j,j<k/\I j s
 |e=>Q e s
def j57 (res:List ARes) (r:V):Ex->St->Prop:=λe s=>jb4 res (e,s)=some r
def ifK:V->(Bool->Prop)->Prop
 | .bool c,k=>k c
 |_,_=>False
def gdK:V->Bool->(Bool->Prop)->Prop
 | .bool c,b,k=>k (c==b)
 | .tup [],_,k=>k false
 |_,_,_=>False
section
variable {E:Env}{Yf:YF}{st:St}{ub:Nat}{K:St->Nat->Prop}{d:Option Nat}{nm:Bool}{Q:Ex->St->Prop}
def j34 {r:List AOpr}{K:St->Prop}:kOps E Yf r K st ub=QT E Yf r st ub K:=zj bT
def j35:kNrm Q st=Q .nrm st:=zj bT
def jkp {b:C}:jv1 E Yf b Q .nrm st=wpC E Yf b st Q:=zj bT
def jy7 {b:C}{i:Nat}:jv1 E Yf b Q (.exit i) st=Q (.exit i) st:=zj bT
def jsa {b:C}:jv1 E Yf b Q .ret st=Q .ret st:=zj bT
def j4h {i:Nat}:kBlk i Q .nrm st=Q .nrm st:=zj bT
def jnc {i j:Nat}:kBlk i Q (.exit j) st=if j=i then Q .nrm st else Q (.exit j) st:=zj bT
def j4g {i:Nat}:kBlk i Q .ret st=Q .ret st:=zj bT
def j3p {v:V}:jao K st d ub v=K (st.setT d v) (ub+64):=zj bT
def jc2 {δ:Delta}:QN K st d ub δ=K (st.app d δ) (ub+64):=zj bT
def j36 {a b:C}:kIf E Yf a b st Q true=wpC E Yf a st Q:=zj bT
def jzn {a b:C}:kIf E Yf a b st Q false=wpC E Yf b st Q:=zj bT
def j37 {o:AOpr}:kGd E Yf o st ub K true=j8 E Yf o st ub K:=zj bT
def jzo {o:AOpr}:kGd E Yf o st ub K false=K (st.setT o.dst jw) ub:=zj bT
def jzl {I:Nat->St->Prop}{k:Nat}:jzm I k Q .nrm st=∃j,j<k/\I j st:=zj bT
def ju1 {I:Nat->St->Prop}{k i:Nat}:jzm I k Q (.exit i) st=Q (.exit i) st:=zj bT
def jzk {I:Nat->St->Prop}{k:Nat}:jzm I k Q .ret st=Q .ret st:=zj bT
def j4j {c:Bool}{k:Bool->Prop}:ifK (.bool c) k=k c:=zj bT
def j4n {c b:Bool}{k:Bool->Prop}:gdK (.bool c) b k=k (c==b):=zj bT
def j4m {b:Bool}{k:Bool->Prop}:gdK jw b k=k false:=zj bT
def j90 {b:Bool}{k:Bool->Prop}:gdK (.tup []) b k=k false:=zj bT
def j9s:wpC E Yf .skip st Q=Q .nrm st:=zj bT
def kC_ret:wpC E Yf .ret st Q=Q .ret st:=zj bT
def j9t {i:Nat}:wpC E Yf (.exit i) st Q=Q (.exit i) st:=zj bT
def j33 {K:St->Prop}:QT E Yf [] st ub K=K (st.setN ub):=zj bT
def jzx {ops:List AOpr}:wpC E Yf (.region ops) st Q=QT E Yf ops st st.nx (kNrm Q):=zj bT
def j59 {a b:C}:wpC E Yf (.seq a b) st Q=wpC E Yf a st (jv1 E Yf b Q):=zj bT
def jsg {i:Nat}{a:C}:wpC E Yf (.block i a) st Q=wpC E Yf a st (kBlk i Q):=zj bT
def j9v {c:A}{a b:C}:wpC E Yf (.cond c a b) st Q=ifK (ye E st.tm c) (kIf E Yf a b st Q):=by rw[j1q];cases h:ye E st.tm c<;>simp[wpIf,ifK];rename_i t;cases t<;>simp[kIf]
def jzj {o:AOpr}{r:List AOpr}{K:St->Prop}:QT E Yf (o::r) st ub K=j8 E Yf o st ub (kOps E Yf r K):=zj bT
def jpm {op:AOp}{t:Nat}{b:Bool}:j8 E Yf ⟨d,op,some (t,b),nm⟩ st ub K=gdK (st.tm t) b (kGd E Yf ⟨d,op,none,nm⟩ st ub K):=by
 rw[jli];cases h:st.tm t with
 |bool c=>cases c<;>cases b<;>simp[jbi,gdK,kGd]
 |tup l=>cases l<;>simp[jbi,gdK,kGd]
 |_=>simp[jbi,gdK]
def kS_mov {x:A}:j8 E Yf ⟨d,.mov x,none,nm⟩ st ub K=jao K st d ub (ye E st.tm x):=j63
def j31 {z:List V}:j8 E Yf ⟨d,.alloc z,none,nm⟩ st ub K=QN K st d ub { v:=.ptr (jI d nm st.fb ub) ub 0,obs:=[(jI d nm st.fb ub,⟨ub,.cells z⟩)] }:=jwe
def kS_box {sz:Nat}{x:A}:j8 E Yf ⟨d,.box sz x,none,nm⟩ st ub K=(((ye E st.tm x).cells.length=sz/\(ye E st.tm x).cells.all V.leaf=true)/\QN K st d ub { v:=.ptr (jI d nm st.fb ub) ub 0,obs:=[(jI d nm st.fb ub,⟨ub,.cells (ye E st.tm x).cells⟩)] }):=j64
def j3q {sz:Nat}{p x:A}:j8 E Yf ⟨d,.store sz p x,none,nm⟩ st ub K=jdi st sz (ye E st.tm x) (QN K st d ub) (ye E st.tm p):=jv6
def j3w {t:TypeId}{x:A}:j8 E Yf ⟨d,.iface t x,none,nm⟩ st ub K=jao K st d ub (.iface t (ye E st.tm x)):=by rw[jT _ rfl rfl];simp only[yU,WZ,ja6];rfl
def jk6 (t:TypeId) (zero:V) (ok:Bool):V->Option V
 | .iface t' v=>if t'=t then some (if ok then .tup [v,.bool true] else v) else if ok then some (.tup [zero,.bool false]) else none
 | .nilif=>if ok then some (.tup [zero,.bool false]) else none
 |_=>none
def jzi {t:TypeId}{zero:V}{a:Bool}{x:A}:j8 E Yf ⟨d,.assert t zero a x,none,nm⟩ st ub K=wpV (jk6 t zero a (ye E st.tm x)) (jao K st d ub):=by
 refine X0 rfl rfl λc=>?_;simp only[yU,jk6];generalize ye E st.tm x=vx;cases vx with
 |iface b v=>by_cases h:b=t<;>cases a<;>simp[h,one]
 |nilif=>cases a<;>rfl
 |_=>rfl
def j9a {f:Fn}{a b:List A}:j8 E Yf ⟨d,.mkFn f a b,none,nm⟩ st ub K=jao K st d ub (.fn f (a.map (ye E st.tm)) (b.map (ye E st.tm))):=j1h
def j87 {c a b:A}:j8 E Yf ⟨d,.pick c a b,none,nm⟩ st ub K=wpV (j2r (ye E st.tm c) (ye E st.tm a) (ye E st.tm b)) (jao K st d ub):=j1f
def kS_bin {op:BinOp}{x y:A}:j8 E Yf ⟨d,.bin op x y,none,nm⟩ st ub K=wpV (YL op (ye E st.tm x) (ye E st.tm y)) (jao K st d ub):=j65
def kS_un {op:UnOp}{x:A}:j8 E Yf ⟨d,.un op x,none,nm⟩ st ub K=wpV (unV op (ye E st.tm x)) (jao K st d ub):=wpS_un
def kS_eq {neg:Bool}{k:EqK}{x y:A}:j8 E Yf ⟨d,.eq neg k x y,none,nm⟩ st ub K=wpV (j1a st.ob neg k (ye E st.tm x) (ye E st.tm y)) (jao K st d ub):=wpS_eq
def j9b {g:Option Nat}{x:A}:j8 E Yf ⟨d,.load g x,none,nm⟩ st ub K=wpV (W8 st.ob g (ye E st.tm x)) (jao K st d ub):=j1i
def jpq {x:A}:j8 E Yf ⟨d,.nilCheck x,none,nm⟩ st ub K=wpV (jcs (ye E st.tm x)) (jao K st d ub):=jlk
def jm7 {off:Nat}{x:A}:j8 E Yf ⟨d,.fieldAddr off x,none,nm⟩ st ub K=wpV (Wz off (ye E st.tm x)) (jao K st d ub):=jjq
def j3x {sz:Nat}{x i:A}:j8 E Yf ⟨d,.idxSl sz x i,none,nm⟩ st ub K=wpV (jt sz (ye E st.tm x) (ye E st.tm i)) (jao K st d ub):=jv9
def jzf {len sz:Nat}{x i:A}:j8 E Yf ⟨d,.idxArr len sz x i,none,nm⟩ st ub K=wpV (Wg len sz (ye E st.tm x) (ye E st.tm i)) (jao K st d ub):=jtm
def j88 {g:Option Nat}{off:Nat}{x:A}:j8 E Yf ⟨d,.part g off x,none,nm⟩ st ub K=wpV (j8d g off (ye E st.tm x)) (jao K st d ub):=j1g
def jze {x i:A}:j8 E Yf ⟨d,.idxStr x i,none,nm⟩ st ub K=wpV (Qv (ye E st.tm x) (ye E st.tm i)) (jao K st d ub):=jtl
def jzd {g:Option Nat}{len sz:Nat}{x i:A}:j8 E Yf ⟨d,.idxVal g len sz x i,none,nm⟩ st ub K=wpV (jbx g len sz (ye E st.tm x) (ye E st.tm i)) (jao K st d ub):=jtk
def j3r {x:A}{lo hi:Option A}:j8 E Yf ⟨d,.slStr x lo hi,none,nm⟩ st ub K=wpV (Y2 (lo.map (ye E st.tm)) (hi.map (ye E st.tm)) (ye E st.tm x)) (jao K st d ub):=jv7
def j86 {sz:Nat}{x:A}{lo hi:Option A}:j8 E Yf ⟨d,.slSl sz x lo hi,none,nm⟩ st ub K=wpV (Yz sz (lo.map (ye E st.tm)) (hi.map (ye E st.tm)) (ye E st.tm x)) (jao K st d ub):=j1e
def jzb {x:A}:j8 E Yf ⟨d,.lenStr x,none,nm⟩ st ub K=wpV (jkn (ye E st.tm x)) (jao K st d ub):=jti
def j3v {x:A}:j8 E Yf ⟨d,.lenSl x,none,nm⟩ st ub K=wpV (WW (ye E st.tm x)) (jao K st d ub):=jv8
def jzc {x:A}:j8 E Yf ⟨d,.lenMap x,none,nm⟩ st ub K=wpV (jko st.ob (ye E st.tm x)) (jao K st d ub):=jtj
def ju0 {x:A}{i:Nat}:j8 E Yf ⟨d,.extract x i,none,nm⟩ st ub K=wpV (jfh i (ye E st.tm x)) (jao K st d ub):=joh
def j9c {k:IntKind}{x:A}:j8 E Yf ⟨d,.conv k x,none,nm⟩ st ub K=wpV (Xz k (ye E st.tm x)) (jao K st d ub):=j1j
def jy9 {b:Bool}{xs:List A}:j8 E Yf ⟨d,.minmax b xs,none,nm⟩ st ub K=wpV (jbv b (xs.map (ye E st.tm))) (jao K st d ub):=jtg
def j30 {z:List V}{ps:List (Nat×Nat×A)}:j8 E Yf ⟨d,.build z ps,none,nm⟩ st ub K=wpV ((fill z (JE (ye E st.tm) ps)).map .agg) (jao K st d ub):=jwd
def jza {q:LK}{z:V}{a:Bool}{m k:A}:j8 E Yf ⟨d,.lookup q z a m k,none,nm⟩ st ub K=wpV (Yg st.ob q z a (ye E st.tm m) (ye E st.tm k)) (jao K st d ub):=jth
end
attribute [simp ↓] j9s kC_ret j9t jzx j59 jsg j9v j33 jzj jpm kS_mov j31 kS_box j3q j3w jzi j9a j87 kS_bin kS_un kS_eq j9b jpq jm7 j3x jzf j88 jze jzd j3r j86 jzb j3v jzc ju0 j9c jy9 j30 jza
attribute [simp ↓] j34 j35 jkp jy7 jsa j4h jnc j4g j3p jc2 j36 jzn j37 jzo jzl ju1 jzk
attribute [simp] j4j j4n j4m j90 j61 j1d jfn j1p jof
def V.plain:V->Bool
 | .agg cs=>cs.all V.pureLeaf
 | .fn ..=>false
 |v=>v.pureLeaf
def YR {st:St}{keep:Bool}{i:Nat}{v:V}(h:v.pureLeaf=true):js st keep i v=some v:=by
 cases v with
 |sl t a n cs=>cases t with
  |none=>rfl
  |some t=>cases h
 |_=>first|rfl|(simp[V.pureLeaf]at h;done)|(simp only[js,JX,h,zd])
def jqu {v:V}(h:v.pureLeaf=true):v.tok=[]:=by
 cases v with
 |sl t a n cs=>cases t with
  |none=>rfl
  |some t=>cases h
 |_=>first|rfl|(simp[V.pureLeaf]at h;done)
def jem {st:St}{keep:Bool}:∀{i:Nat}{cs:List V},cs.all V.pureLeaf=true->Xt st keep i cs=some cs
 |_,[],_=>rfl
 |i,c::cs,h=>by simp only[bU,aj]at h;simp[Xt,YR h.1,jem h.2]
def jxo {st:St}{keep:Bool}{i:Nat}{v:V}(h:v.plain=true):XE st keep i v=some v:=by
 cases v with
 |agg cs=>simp[XE,jem (show cs.all V.pureLeaf=true from h)]
 |fn=>cases h
 |_=>refine Eq.trans (b:=js st keep i _) rfl (YR ?_);exact h
def jdt {v:V}(h:v.plain=true):v.toks=[]:=by
 cases v with
 |agg cs=>simp only[V.toks,fT];intro x a;exact jqu (aw.1 h x a)
 |fn=>cases h
 |sl t b n cs=>cases t with
  |none=>rfl
  |some t=>cases h
 |_=>first|rfl|cases h
def jco {st:St}{keep:Bool}:∀{i:Nat}{l:List V},l.all V.plain=true->Jc st keep i l=some l
 |_,[],_=>rfl
 |i,c::cs,h=>by simp only[bU,aj]at h;simp[Jc,jxo h.1,jco h.2]
def j7e:List V->V
 |[v]=>v
 |l=>.tup l
def jau {res:List ARes}{st:St}{l:List V}(a:st.df=[]) (c:res.mapM (ju st)=some l) (b:l.all V.plain=true):jb4 res (.ret,st)=some (j7e l):=by
 have e:l.flatMap V.toks=[]:=by rw[fT];intro x f;exact jdt (aw.1 b x f)
 simp only[jb4,Yj a,Ye a,zd,c,ah,W4,e,yJ,jco b,zd];match l with
 |[]=>rfl
 |[v]=>rfl
 |v::u::l=>rfl
def JP {res:List ARes}{st:St}{r:V}{l:List V}(a:st.df=[]) (c:res.mapM (ju st)=some l) (b:l.all V.plain=true) (h:j7e l=r):j57 res r .ret st:=by subst h;exact jau a c b
attribute [simp] fill JE
def jgy {ub:Nat}{v:V}(h:v.pureLeaf=true):Y4 ub v=v:=by
 cases v with
 |sl t a n cs=>cases t with
  |none=>rfl
  |some t=>cases h
 |_=>rfl
def jgx {ub:Nat}{v:V}(h:v.plain=true):QZ ub v=v:=by
 cases v with
 |agg cs=>
  have:cs.map (Y4 ub)=cs:=by
   conv=>rhs;rw[<- ia cs]
   exact dx λx a=>jgy (aw.1 h x a)
  simp only[QZ,this]
 |sl t b n cs=>exact jgy h
 |_=>rfl
def JY {ub:Nat}{v:V}(h:v.plain=true):Xp ub v=some { v:=v }:=by
 have a:yy v=[]:=by
  cases v with
  |tup b=>cases h
  |_=>exact jdt h
 have c:ja4 ub v=v:=by
  cases v with
  |tup b=>cases h
  |undef=>cases h
  |_=>exact jgx (ub:=ub) h
 simp[Xp,a,c]
def Jb {ub:Nat}{l:List V}(h:l.all V.plain=true):Xp ub (.tup l)=some { v:=.tup l }:=by
 have c:yy (.tup l)=[]:=by simp only[yy,fT];intro x a;exact jdt (aw.1 h x a)
 have b:ja4 ub (.tup l)=.tup l:=by
  have:l.map (QZ ub)=l:=by
   conv=>rhs;rw[<- ia l]
   exact dx λx a=>jgx (aw.1 h x a)
  simp only[ja4,this]
 simp[Xp,c,b]
@[simp] theorem eqVV_struct (ob:ZO) (neg:Bool) (l:List LK) (a b:List V):j1a ob neg (.struct l) (.agg a) (.agg b)=(J9 l a b).map λb=>.bool (xor neg b):=rfl
attribute [simp] J9 Q0
def jS {E:Env}{f:FuncId}{af:AF}{args:List V}{r:V}(a:E.fc f=some af) (h:wpC E YS af.body (ja1 args) (j57 af.res r)):Ev E f args r:=Ev_wp a h
def Yo {E:Env}{Yf:YF}{a:C}{Q:Ex->St->Prop}(I:Nat->St->Prop) {n:Nat}{st:St}(b:I n st) (c:∀k s,I k s->wpC E Yf a s (jzm I k Q)):wpC E Yf (.loop a) st Q :=
 j60 I b c
def Y8 {E:Env}{Yf:YF}{st:St}{ub:Nat}{K:St->Nat->Prop}{d:Option Nat}{nm:Bool}{f:FuncId}{xs:List A}{vs:List V}{v:V}(c:xs.map (ye E st.tm)=vs) (b:E.sh nm f=false) (hp:(vs.all λv=>v.strip.pureTop)=true)
 (a:Ev E f (vs.map V.strip) v) (h:wpD (Xp ub v) (QN K st d ub)):j8 E Yf ⟨d,.call f xs,none,nm⟩ st ub K:=jwc c b hp a h
def AOp.plainOp:AOp->Bool
 | .call ..|.callV ..|.entry _|.nextMap _=>false
 |_=>true
def AOp.valOp:AOp->Bool
 | .mov _|.pick ..|.bin ..|.eq ..|.un ..|.build ..|.load ..|.nilCheck _|.fieldAddr ..|.idxSl ..|.idxArr ..|.part ..|.idxStr ..|.idxVal ..|.slStr ..|.slSl ..|.lenStr _|.lenSl _|.lenMap _|.extract ..|.mkFn ..|.lookup ..|.iface ..|.assert ..|.conv ..|.minmax ..=>true
 |_=>false
def kDr (E:Env) (r:List AOpr) (K:List FP->St->Prop):St->Nat->Prop:=λst ub=>jE E r st ub K
def kFp (f:FP) (K:List FP->St->Prop):List FP->St->Prop:=λfs s=>K (f::fs) s
def kDQ (free:List (Nat×Nat)) (Q:Ex->St->Prop):List FP->St->Prop:=λfs s=>JQ free fs=true/\jbu fs=true/\Q .nrm s
def kDGd (E:Env) (o:AOpr) (r:List AOpr) (st:St) (ub:Nat) (K:List FP->St->Prop):Bool->Prop
 |true=>jE E (o::r) st ub K
 |false=>jE E r (st.setT o.dst jw) (ub+64) (kFp {} K)
def YU (E:Env) (r:List AOpr) (K:List FP->St->Prop) (ρ:A->V) (op:AOp) (st:St) (d:Option Nat) (ub:Nat):Delta->Prop:=λδ=>jE E r (st.app d δ) (ub+64) (kFp (QP ρ op δ) K)
def jlo {e:FuncId->List V->Option V}{g:A->V}{ob:ZO}{tk:Nat->Bool}{ro f ub:Nat}{op:AOp}{δ:Delta}(h:op.valOp=true) (b:yU e g ob tk ro f ub op=some δ):∃v,δ={ v:=v }:=by
 have a:∀{o:Option V},o.bind one=some δ->∃v,δ={ v:=v }:=fun {o} c=>by
  cases o with
  |none=>cases c
  |some v=>cases c;exact⟨v,rfl⟩
 cases op<;>first|(cases h;done)|skip
 all_goals simp only[yU]at b
 all_goals first
  |exact a b
  |exact a (o:=some _) b
  |(repeat' split at b)<;>first|(cases b;done)|exact a b|exact a (o:=some _) b|skip
 all_goals (try simp only[ec]at b)
 all_goals first
  |(obtain⟨_,_,c⟩:=b;exact a (o:=some _) c)
  |skip
 all_goals
  obtain⟨_,_,x,_,c⟩:=b
  first|exact a (o:=some _) c|(rcases x with _|⟨_,_⟩<;>exact a (o:=some _) c)
def kPin (E:Env) (fs:List AOpr) (st:St) (Q:Ex->St->Prop):St->Nat->Prop:=λs ub=>jE E fs s ub λ_ s'=>WM fs st s'=true/\Q .nrm s'
def kPQ (fs:List AOpr) (st:St) (Q:Ex->St->Prop):List FP->St->Prop:=λ_ s'=>WM fs st s'=true/\Q .nrm s'
section
variable {E:Env}{Yf:YF}{st:St}{ub:Nat}{K:List FP->St->Prop}{d:Option Nat}{nm:Bool}{Q:Ex->St->Prop}{r:List AOpr}
def kC_pin {o:AOpr}{fs:List AOpr}:wpC E Yf (.pin o fs) st Q=j8 E Yf o st st.nx (kPin E fs st Q):=zj bT
def j32 {fs:List AOpr}{s:St}:kPin E fs st Q s ub=jE E fs s ub (kPQ fs st Q):=zj bT
def j9d {fs:List AOpr}{f:List FP}{s:St}:kPQ fs st Q f s=(WM fs st s=true/\Q .nrm s):=zj bT
def jw2 {s s':St}:WM [] s s'=true:=by simp[WM]
def jt1 {op:AOp}{a:Option (Nat×Bool)}{t:Nat}{fs:List AOpr}{s s':St}:WM (⟨some t,op,a,nm⟩::fs) s s'=(V.eqb (s.tm t) (s'.tm t)&&WM fs s s'):=by simp[WM]
def j44 (v:V):V.eqb v v=true:=jfi v
def j9i:kDr E r K st ub=jE E r st ub K:=zj bT
def j9g {f:FP}{fs:List FP}:kFp f K fs st=K (f::fs) st:=zj bT
def j9q {free:List (Nat×Nat)}{fs:List FP}:kDQ free Q fs st=(JQ free fs=true/\jbu fs=true/\Q .nrm st):=zj bT
def j9u {ops:List AOpr}{free:List (Nat×Nat)}:wpC E Yf (.draw ops free) st Q=jE E ops st st.nx (kDQ free Q):=zj bT
def j9h:jE E [] st ub K=K [] (st.setN ub):=zj bT
def jnb {o:AOpr}:kDGd E o r st ub K true=jE E (o::r) st ub K:=zj bT
def jd4 {o:AOpr}:kDGd E o r st ub K false=jE E r (st.setT o.dst jw) (ub+64) (kFp {} K):=zj bT
def jzp {op:AOp}{t:Nat}{b:Bool}:jE E (⟨d,op,some (t,b),nm⟩::r) st ub K=gdK (st.tm t) b (kDGd E ⟨d,op,none,nm⟩ r st ub K):=by
 have i:AOpr.name ⟨d,op,some (t,b),nm⟩=AOpr.name ⟨d,op,none,nm⟩:=rfl;have g:∀c,st.tm t=.bool c->(jE E (⟨d,op,some (t,b),nm⟩::r) st ub K=kDGd E ⟨d,op,none,nm⟩ r st ub K (c==b)):=λc f=>by
  cases e:(c==b);have:yK ⟨d,op,some (t,b),nm⟩ st.tm=some false:=by simp[yK,f,e]
  rw[jE,this,jd4,<- ja6];rfl;have:yK ⟨d,op,some (t,b),nm⟩ st.tm=some true:=by simp[yK,f,e]
  rw[jE,this,jnb,jE];rfl
 cases h:st.tm t with
 |bool c=>rw[g c h];rfl
 |tup l=>cases l with
  |nil=>
   have:yK ⟨d,op,some (t,b),nm⟩ st.tm=some false:=by simp[yK,h]
   rw[jE,this];show _=kDGd E ⟨d,op,none,nm⟩ r st ub K false;rw[jd4,<- ja6];rfl
  |cons a l=>
   have:yK ⟨d,op,some (t,b),nm⟩ st.tm=none:=by simp[yK,h]
   rw[jE,this];rfl
 |_=>
  have:yK ⟨d,op,some (t,b),nm⟩ st.tm=none:=by simp[yK,h]
  rw[jE,this];rfl
def jv {op:AOp}(h:op.plainOp=true):jE E (⟨d,op,none,nm⟩::r) st ub K=wpD (yU (λ_ _=>none) (ye E st.tm) st.ob st.tk st.ro (AOpr.name ⟨d,op,none,nm⟩ st.fb ub) ub op) (YU E r K (ye E st.tm) op st d ub):=by cases op<;>first|cases h;done|(simp only[jE,yK,jA,AOp.far,true_and];rfl)
def XK {op:AOp}(h:op.valOp=true):jE E (⟨d,op,none,nm⟩::r) st ub K=j8 E Yf ⟨d,op,none,nm⟩ st ub (kDr E r (kFp { ro:=yz (ye E st.tm) op,rt:=yB (ye E st.tm) op } K)):=by
 have f:op.plainOp=true:=by cases op<;>first|rfl|cases h
 have e:op.isCall=false:=by cases op<;>first|rfl|cases h
 have g:op.isNext=false:=by cases op<;>first|rfl|cases h
 rw[jv f,jT _ e g];refine zj ⟨?_,?_⟩;rintro⟨c,a,b⟩;obtain⟨v,rfl⟩:=jlo h a;exact⟨_,a,b⟩;rintro⟨c,a,b⟩;obtain⟨v,rfl⟩:=jlo h a;exact⟨_,a,b⟩
def j38 {sz:Nat}{p x:A}:jE E (⟨d,.store sz p x,none,nm⟩::r) st ub K=jdi st sz (ye E st.tm x) (YU E r K (ye E st.tm) (.store sz p x) st d ub) (ye E st.tm p):=by
 rw[jv rfl];simp only[yU];generalize a:YU E r K (ye E st.tm) (.store sz p x) st d ub=k;clear a;generalize ye E st.tm p=vp;cases vp<;>simp only[jb6,jdi];rename_i l u off;cases ya st.ob l u with
 |none=>simp[wpD]
 |some cs=>simp only[ah,jfn,jG,ab,exists_eq_left',bS,and_assoc]
def j4f {z:List V}:jE E (⟨d,.alloc z,none,nm⟩::r) st ub K=YU E r K (ye E st.tm) (.alloc z) st d ub { v:=.ptr (jI d nm st.fb ub) ub 0,obs:=[(jI d nm st.fb ub,⟨ub,.cells z⟩)] }:=by rw[jv rfl];simp only[yU,Jn,jG,Jd]
def kD_box {sz:Nat}{x:A}:jE E (⟨d,.box sz x,none,nm⟩::r) st ub K=(((ye E st.tm x).cells.length=sz/\(ye E st.tm x).cells.all V.leaf=true)/\YU E r K (ye E st.tm) (.box sz x) st d ub { v:=.ptr (jI d nm st.fb ub) ub 0,obs:=[(jI d nm st.fb ub,⟨ub,.cells (ye E st.tm x).cells⟩)] }):=by rw[jv rfl];simp only[yU,Jn,jfn,jG,Jd]
def j9r {a:A->V}{op:AOp}{v:V}:YU E r K a op st d ub { v:=v }=jE E r (st.setT d v) (ub+64) (kFp (QP a op { v:=v }) K):=by rw[YU,ja6]
def jzw {a:A->V}{op:AOp}{δ:Delta}:YU E r K a op st d ub δ=jE E r (st.app d δ) (ub+64) (kFp (QP a op δ) K):=zj bT
def X4 {f:FuncId}{xs:List A}{args:List V}{v:V}(e:Ev E f args v) (g:(xs.map λx=>(ye E st.tm x).strip)=args) (k:E.sh nm f=false) (hp:args.all V.pureTop=true) (h:wpD (Xp ub v) (YU E r K (ye E st.tm) (.call f xs) st d ub)) :
 jE E (⟨d,.call f xs,none,nm⟩::r) st ub K:=by
 have a:(xs.all λx=>(ye E st.tm x).strip.pureTop)=true:=by rw[<- g,dN]at hp;exact hp
 have b:jA E nm (ye E st.tm) (.call f xs)=none:=by simp only[jA,k,a,cp,dq,zd]
 obtain⟨i,c,j⟩:=h;simp only[jE,yK,b,AOp.far,true_and];exact⟨a,v,g▸e,i,c,j⟩
def jH {K:St->Nat->Prop}{f:FuncId}{xs:List A}{args:List V}{v:V}(g:Ev E f args v) (e:(xs.map λx=>(ye E st.tm x).strip)=args) (k:E.sh nm f=false) (hp:args.all V.pureTop=true) (h:wpD (Xp ub v) (QN K st d ub)) :
 j8 E Yf ⟨d,.call f xs,none,nm⟩ st ub K:=by
 have a:(xs.all λx=>(ye E st.tm x).strip.pureTop)=true:=by rw[<- e,dN]at hp;exact hp
 have b:jA E nm (ye E st.tm) (.call f xs)=none:=by simp only[jA,k,a,cp,dq,zd]
 obtain⟨i,c,j⟩:=h;simp only[j8,yK,jl,b,ja7];exact⟨by rw[e];exact hp,v,e▸g,i,c,j⟩
end
/-! What a loop leaves alone. -/
def inR (t:Nat):List (Nat×Nat)->Bool
 |[]=>false
 |(a,b)::l=>(decide (a<=t)&&decide (t<=b))||inR t l
@[simp] theorem inR_nil (t:Nat):inR t []=false:=rfl
@[simp] theorem inR_cons (t a b:Nat) (l:List (Nat×Nat)):inR t ((a,b)::l)=((decide (a<=t)&&decide (t<=b))||inR t l):=rfl
def C.ws:C->List Nat
 | .region ops|.draw ops _=>ops.filterMap (·.dst)
 | .pin o fs=>(o::fs).filterMap (·.dst)
 | .seq a b|.cond _ a b=>a.ws++b.ws
 | .block _ a|.loop a=>a.ws
 |_=>[]
def C.noRF:C->Bool
 | .rangeFunc ..=>false
 | .seq a b|.cond _ a b=>a.noRF&&b.noRF
 | .block _ a|.loop a=>a.noRF
 |_=>true
structure Keeps (p:Nat->Prop) (st s:St):Prop where
 b:s.fb=st.fb
 r:s.ro=st.ro
 d:s.df=st.df
 t:∀t,¬p t->s.tm t=st.tm t
def Keeps.rfl' (p:Nat->Prop) (st:St):Keeps p st st:=⟨rfl,rfl,rfl,λ_ _=>rfl⟩
def Keeps.trans {p q f:Nat->Prop}{a b c:St}(h:Keeps p a b) (e:Keeps q b c) (hp:∀t,p t->f t) (i:∀t,q t->f t):Keeps f a c :=
 ⟨e.b.trans h.b,e.r.trans h.r,e.d.trans h.d,λt g=>(e.t t λh=>g (i t h)).trans (h.t t λh=>g (hp t h))⟩
def Keeps.weak {p q:Nat->Prop}{a b:St}(h:Keeps p a b) (hp:∀t,p t->q t):Keeps q a b:=⟨h.b,h.r,h.d,λt c=>h.t t λh=>c (hp t h)⟩
def jrm {tm:Nat->V}{d:Option Nat}{v:V}{t:Nat}(h:¬t∈d.toList):put tm d v t=tm t:=by
 cases d with
 |none=>rfl
 |some d=>exact JU tm v (λe=>h (by simp[e]))
def Keeps.app {st:St}{d:Option Nat}{δ:Delta}:Keeps (·∈d.toList) st (st.app d δ):=⟨rfl,rfl,rfl,λ_ a=>jrm a⟩
section
variable {E:Env}{Yf:YF}
def jef {o:AOpr}{st:St}{ub:Nat}{K:St->Nat->Prop}(a:j8 E Yf o st ub K):j8 E Yf o st ub λs u=>K s u/\Keeps (·∈o.dst.toList) st s:=by
 have call:∀{f:FuncId}{i:List V},ja7 E f i st o.dst ub K->ja7 E f i st o.dst ub λs u=>K s u/\Keeps (·∈o.dst.toList) st s:=by rintro f i ⟨D,v,z,h,c,g⟩;exact⟨D,v,z,h,c,g,Keeps.app⟩
 unfold j8 at a ⊢;cases w:yK o st.tm with
 |none=>simp only[w]at a
 |some b=>
  cases b with
  |false=>simp only[w]at a ⊢;exact⟨a,rfl,rfl,rfl,λ_ j=>jrm j⟩
  |true=>
   simp only[w]at a ⊢;cases B:jl (ye E st.tm) o.op with
   |some x=>obtain⟨l,u,i⟩:=x;simp only[B]at a ⊢;obtain⟨r,y,g⟩:=a;exact⟨r,y,g,rfl,rfl,rfl,λ_ j=>jrm j⟩
   |none=>
   simp only[B]at a ⊢;cases k:jA E o.nm (ye E st.tm) o.op with
   |some I=>simp only[k]at a ⊢;rcases a with⟨t,n,l,y,m,g⟩|⟨t,v,z,h,c,g⟩;exact .inl ⟨t,n,l,y,m,λr H=>⟨g r H,rfl,rfl,rfl,λ_ j=>jrm j⟩⟩;exact .inr ⟨t,v,z,h,c,g,Keeps.app⟩
   |none=>
    simp only[k]at a ⊢;cases F:o.op<;>simp only[F]at a ⊢;case call f i=>exact call a
    case callV q i=>obtain⟨f,first,e,p,a⟩:=a;exact⟨f,first,e,p,call a⟩
    case nextMap x=>obtain⟨l,G,g⟩:=a;exact⟨l,G,λh c=>⟨g h c,Keeps.app⟩⟩
    all_goals
     obtain⟨h,c,g⟩:=a
     exact⟨h,c,g,Keeps.app⟩
def mem_ws_cons {o:AOpr}{r:List AOpr}{t:Nat}:t∈(o::r).filterMap (·.dst) ↔ t∈o.dst.toList\/t∈r.filterMap (·.dst):=by
 cases h:o.dst with
 |none=>simp[h]
 |some d=>simp[h]
def jfm:∀{ops:List AOpr}{st:St}{ub:Nat}{K:St->Prop},QT E Yf ops st ub K->QT E Yf ops st ub λs=>K s/\Keeps (·∈ops.filterMap (·.dst)) st s
 |[],st,ub,K,hk=>⟨hk,rfl,rfl,rfl,λ_ _=>rfl⟩
 |o::r,st,ub,K,hk=>by refine Q8 (λs u h=>?_) (jef hk);refine jdk (λc b=>?_) (jfm h.1);exact⟨b.1,h.2.trans b.2 (λt a=>mem_ws_cons.2 (.inl a)) (λt a=>mem_ws_cons.2 (.inr a))⟩
def Qd:∀{ops:List AOpr}{st:St}{ub:Nat}{K:List FP->St->Prop},jE E ops st ub K->jE E ops st ub λf s=>K f s/\Keeps (·∈ops.filterMap (·.dst)) st s
 |[],st,ub,K,e=>⟨e,rfl,rfl,rfl,λ_ _=>rfl⟩
 |o::r,st,ub,K,e=>by
  have g:∀{c:Delta}{f:List FP->List FP}{ub:Nat},jE E r (st.app o.dst c) ub (λfs s=>K (f fs) s)->jE E r (st.app o.dst c) ub λfs s=>K (f fs) s/\Keeps (·∈(o::r).filterMap (·.dst)) st s:=λh=>
   JN (λf s y=>⟨y.1,Keeps.app.trans y.2 (λt w=>mem_ws_cons.2 (.inl w)) (λt w=>mem_ws_cons.2 (.inr w))⟩) (Qd h)
  unfold jE at e ⊢;cases p:yK o st.tm with
  |none=>simp only[p]at e
  |some b=>
   cases b with
   |false=>simp only[p]at e ⊢;exact g (f:=λfs=>{}::fs) e
   |true=>
    simp only[p]at e ⊢;cases n:jA E o.nm (ye E st.tm) o.op with
    |some F=>simp only[n]at e ⊢;rcases e with⟨k,v,m,c,a,j⟩|⟨k,u,D,v,B,m,c,a,j⟩|⟨k,u,c,a,j⟩;exact .inl ⟨k,v,m,c,a,g (f:=λfs=>{ wt:=c.wt,all:=true,seen:=λl=>(st.ob l).isSome }::fs) j⟩;exact .inr (.inl ⟨k,u,D,v,B,m,c,a,g (f:=λfs=>{ wo:=c.wo,all:=true,seen:=λl=>(st.ob l).isSome,nw:=true }::fs) j⟩);exact .inr (.inr ⟨k,u,c,a,g (f:=λfs=>{ wo:=c.wo,nw:=true }::fs) j⟩)
    |none=>
     simp only[n]at e ⊢;refine⟨e.1,?_⟩;have e:=e.2;cases z:o.op<;>simp only[z]at e ⊢;case call f xs=>obtain⟨k,v,m,c,a,j⟩:=e;exact⟨k,v,m,c,a,g (f:=λfs=>QP (ye E st.tm) (.call f xs) c::fs) j⟩
     case callV q xs=>obtain⟨f,first,i,x,k,v,m,c,a,j⟩:=e;exact⟨f,first,i,x,k,v,m,c,a,g (f:=λfs=>QP (ye E st.tm) (.callV q xs) c::fs) j⟩
     all_goals
      obtain⟨c,a,j⟩:=e
      exact⟨c,a,g (f:=λfs=>QP (ye E st.tm) _ c::fs) j⟩
def jwf:∀{c:C},c.noRF=true->∀{st:St}{Q:Ex->St->Prop},wpC E Yf c st Q->wpC E Yf c st λe s=>Q e s/\Keeps (·∈c.ws) st s:=by
 intro c;induction c with
 |skip=>intro _ st Q i;exact⟨i,Keeps.rfl' _ _⟩
 |ret=>intro _ st Q i;exact⟨i,Keeps.rfl' _ _⟩
 |exit id=>intro _ st Q i;exact⟨i,Keeps.rfl' _ _⟩
 |stuck=>intro _ st Q i;exact i
 |rangeFunc f H a b=>intro k;cases k
 |region x=>intro _ st Q i;exact jfm i
 |draw x free=>intro _ st Q i;exact JN (λf s h=>⟨h.1.1,h.1.2.1,h.1.2.2,h.2⟩) (Qd i)
 |pin o fs=>intro _ st Q i;exact Q8 (λs u h=>JN (λf D v=>⟨v.1.1,v.1.2,h.2.trans v.2 (λt j=>mem_ws_cons.2 (.inl j)) (λt j=>mem_ws_cons.2 (.inr j))⟩) (Qd h.1)) (jef i)
 |seq a b n p=>intro k st Q i;have k:=Bool.and_eq_true_iff.1 k;rw[j59];refine XN (λe s g=>?_) (n k.1 i);obtain⟨g,l⟩:=g;cases e;refine XN (λe D m=>?_) (p k.2 g);exact⟨m.1,l.trans m.2 (λt j=>aQ.2 (.inl j)) (λt j=>aQ.2 (.inr j))⟩;exact⟨g,l.weak (λt j=>aQ.2 (.inl j))⟩;exact⟨g,l.weak (λt j=>aQ.2 (.inl j))⟩
 |cond q a b n p=>
  intro k st Q i;have k:=Bool.and_eq_true_iff.1 k;obtain⟨t,j,G,F⟩:=i;exact⟨t,j,λe=>XN (λe s g=>⟨g.1,g.2.weak (λt j=>aQ.2 (.inl j))⟩) (n k.1 (G e)),
   λe=>XN (λe s g=>⟨g.1,g.2.weak (λt j=>aQ.2 (.inr j))⟩) (p k.2 (F e))⟩
 |block id a B=>intro k st Q i;rw[jsg];refine XN (λe s g=>?_) (B k i);obtain⟨g,l⟩:=g;cases e;exact⟨g,l⟩;simp only[jnc]at g ⊢;split at g;rename_i z;simp only[z,zd];exact⟨g,l⟩;rename_i z;simp only[z,zc];exact⟨g,l⟩;exact⟨g,l⟩
 |loop a B=>
  intro k st Q i;obtain⟨N,i⟩:=i;refine⟨N,?_⟩;have w:∀(N:Nat) (st:St),Yw (wpC E Yf a) N st Q->Yw (wpC E Yf a) N st λe s=>Q e s/\Keeps (·∈a.ws) st s:=by
   intro N;induction N with
   |zero=>intro st h;exact h
   |succ N y=>intro st h;refine XN (λe s g=>?_) (B k h);obtain⟨g,l⟩:=g;cases e;exact jbh (W:=wpC E Yf a) (λ_ _ _ h i=>XN h i) (λe D m=>⟨m.1,l.trans m.2 (λ_ h=>h) (λ_ h=>h)⟩) (y s g);exact⟨g,l⟩;exact⟨g,l⟩
  exact w N st i
def YH {a:C}{Q:Ex->St->Prop}{n:Nat}{st:St}(ws:List (Nat×Nat)) (I:Nat->St->Prop) (q:a.noRF=true) (i:(a.ws.all λt=>inR t ws)=true) (m:I n st)
 (p:∀k s,I k s->Keeps (λt=>inR t ws=true) st s->wpC E Yf a s (jzm I k Q)):wpC E Yf (.loop a) st Q:=by
 refine Yo (λk s=>I k s/\Keeps (λt=>inR t ws=true) st s) (n:=n) ⟨m,Keeps.rfl' _ _⟩ λk s ⟨l,g⟩=>?_;refine XN (λe v b=>?_) (jwf q (p k s l g));obtain⟨b,f⟩:=b;cases e;obtain⟨j,u,c⟩:=b;exact⟨j,u,c,g.trans f (λ_ h=>h) (λt o=>aw.1 i t o)⟩;exact b;exact b
def kUp (I:Nat->St->Prop) (N i:Nat) (Q:Ex->St->Prop):Ex->St->Prop:=λe s=>match e with
 | .nrm=>i<N/\I (i+1) s
 |e=>Q e s
def j5 {a:C}{Q:Ex->St->Prop}{st:St}(ws:List (Nat×Nat)) (N:Nat) (I:Nat->St->Prop) (o:a.noRF=true) (c:(a.ws.all λt=>inR t ws)=true) (j:I 0 st)
 (l:∀i s,i<=N->I i s->Keeps (λt=>inR t ws=true) st s->wpC E Yf a s (kUp I N i Q)):wpC E Yf (.loop a) st Q:=by
 refine YH (n:=N) ws (λk s=>∃i,k=N-i/\i<=N/\I i s) o c ⟨0,rfl,cw _,j⟩ ?_;rintro k s ⟨i,rfl,m,g⟩ f;refine XN (λe p b=>?_) (l i s m g f);cases e;obtain⟨q,h⟩:=b;exact⟨N-(i+1),zO,i+1,rfl,zO,h⟩;exact b;exact b
end
def j85 {I:Nat->St->Prop}{N i:Nat}{Q:Ex->St->Prop}{st:St}:kUp I N i Q .nrm st=(i<N/\I (i+1) st):=zj bT
def j3o {I:Nat->St->Prop}{N i j:Nat}{Q:Ex->St->Prop}{st:St}:kUp I N i Q (.exit j) st=Q (.exit j) st:=zj bT
def j84 {I:Nat->St->Prop}{N i:Nat}{Q:Ex->St->Prop}{st:St}:kUp I N i Q .ret st=Q .ret st:=zj bT
def jyi:jyj []=true:=rfl
def jup (f:FP) (fs:List FP):jyj (f::fs)=(!f.nw&&jyj fs):=rfl
def j93 (a:A->V) (o:AOp) (δ:Delta):(QP a o δ).nw=false:=rfl
def jph {fs:List FP}(h:jyj fs=true):jbu fs=true:=by simp only[jbu,h,fo]
def jvi (fs:List FP):JQ [] fs=true:=rfl
section
variable {E:Env}{st:St}{ub:Nat}{K:List FP->St->Prop}{d:Option Nat}{nm:Bool}{r:List AOpr}
def kD_mov {x:A}:jE E (⟨d,.mov x,none,nm⟩::r) st ub K=j8 E YS ⟨d,.mov x,none,nm⟩ st ub (kDr E r (kFp { ro:=yz (ye E st.tm) (.mov x),rt:=yB (ye E st.tm) (.mov x) } K)):=XK rfl
def j9k {c a b:A}:jE E (⟨d,.pick c a b,none,nm⟩::r) st ub K=j8 E YS ⟨d,.pick c a b,none,nm⟩ st ub (kDr E r (kFp { ro:=yz (ye E st.tm) (.pick c a b),rt:=yB (ye E st.tm) (.pick c a b) } K)):=XK rfl
def kD_bin {op:BinOp}{x y:A}:jE E (⟨d,.bin op x y,none,nm⟩::r) st ub K=j8 E YS ⟨d,.bin op x y,none,nm⟩ st ub (kDr E r (kFp { ro:=yz (ye E st.tm) (.bin op x y),rt:=yB (ye E st.tm) (.bin op x y) } K)):=XK rfl
def kD_eq {neg:Bool}{k:EqK}{x y:A}:jE E (⟨d,.eq neg k x y,none,nm⟩::r) st ub K=j8 E YS ⟨d,.eq neg k x y,none,nm⟩ st ub (kDr E r (kFp { ro:=yz (ye E st.tm) (.eq neg k x y),rt:=yB (ye E st.tm) (.eq neg k x y) } K)):=XK rfl
def kD_un {op:UnOp}{x:A}:jE E (⟨d,.un op x,none,nm⟩::r) st ub K=j8 E YS ⟨d,.un op x,none,nm⟩ st ub (kDr E r (kFp { ro:=yz (ye E st.tm) (.un op x),rt:=yB (ye E st.tm) (.un op x) } K)):=XK rfl
def j4e {z:List V}{ps:List (Nat×Nat×A)}:jE E (⟨d,.build z ps,none,nm⟩::r) st ub K=j8 E YS ⟨d,.build z ps,none,nm⟩ st ub (kDr E r (kFp { ro:=yz (ye E st.tm) (.build z ps),rt:=yB (ye E st.tm) (.build z ps) } K)):=XK rfl
def j9o {g:Option Nat}{x:A}:jE E (⟨d,.load g x,none,nm⟩::r) st ub K=j8 E YS ⟨d,.load g x,none,nm⟩ st ub (kDr E r (kFp { ro:=yz (ye E st.tm) (.load g x),rt:=yB (ye E st.tm) (.load g x) } K)):=XK rfl
def jpt {x:A}:jE E (⟨d,.nilCheck x,none,nm⟩::r) st ub K=j8 E YS ⟨d,.nilCheck x,none,nm⟩ st ub (kDr E r (kFp { ro:=yz (ye E st.tm) (.nilCheck x),rt:=yB (ye E st.tm) (.nilCheck x) } K)):=XK rfl
def jm9 {o:Nat}{x:A}:jE E (⟨d,.fieldAddr o x,none,nm⟩::r) st ub K=j8 E YS ⟨d,.fieldAddr o x,none,nm⟩ st ub (kDr E r (kFp { ro:=yz (ye E st.tm) (.fieldAddr o x),rt:=yB (ye E st.tm) (.fieldAddr o x) } K)):=XK rfl
def j4b {sz:Nat}{x i:A}:jE E (⟨d,.idxSl sz x i,none,nm⟩::r) st ub K=j8 E YS ⟨d,.idxSl sz x i,none,nm⟩ st ub (kDr E r (kFp { ro:=yz (ye E st.tm) (.idxSl sz x i),rt:=yB (ye E st.tm) (.idxSl sz x i) } K)):=XK rfl
def jzv {len sz:Nat}{x i:A}:jE E (⟨d,.idxArr len sz x i,none,nm⟩::r) st ub K=j8 E YS ⟨d,.idxArr len sz x i,none,nm⟩ st ub (kDr E r (kFp { ro:=yz (ye E st.tm) (.idxArr len sz x i),rt:=yB (ye E st.tm) (.idxArr len sz x i) } K)):=XK rfl
def j9l {g:Option Nat}{o:Nat}{x:A}:jE E (⟨d,.part g o x,none,nm⟩::r) st ub K=j8 E YS ⟨d,.part g o x,none,nm⟩ st ub (kDr E r (kFp { ro:=yz (ye E st.tm) (.part g o x),rt:=yB (ye E st.tm) (.part g o x) } K)):=XK rfl
def jzu {x i:A}:jE E (⟨d,.idxStr x i,none,nm⟩::r) st ub K=j8 E YS ⟨d,.idxStr x i,none,nm⟩ st ub (kDr E r (kFp { ro:=yz (ye E st.tm) (.idxStr x i),rt:=yB (ye E st.tm) (.idxStr x i) } K)):=XK rfl
def j39 {x:A}{lo hi:Option A}:jE E (⟨d,.slStr x lo hi,none,nm⟩::r) st ub K=j8 E YS ⟨d,.slStr x lo hi,none,nm⟩ st ub (kDr E r (kFp { ro:=yz (ye E st.tm) (.slStr x lo hi),rt:=yB (ye E st.tm) (.slStr x lo hi) } K)):=XK rfl
def j9j {sz:Nat}{x:A}{lo hi:Option A}:jE E (⟨d,.slSl sz x lo hi,none,nm⟩::r) st ub K=j8 E YS ⟨d,.slSl sz x lo hi,none,nm⟩ st ub (kDr E r (kFp { ro:=yz (ye E st.tm) (.slSl sz x lo hi),rt:=yB (ye E st.tm) (.slSl sz x lo hi) } K)):=XK rfl
def jzs {x:A}:jE E (⟨d,.lenStr x,none,nm⟩::r) st ub K=j8 E YS ⟨d,.lenStr x,none,nm⟩ st ub (kDr E r (kFp { ro:=yz (ye E st.tm) (.lenStr x),rt:=yB (ye E st.tm) (.lenStr x) } K)):=XK rfl
def j4a {x:A}:jE E (⟨d,.lenSl x,none,nm⟩::r) st ub K=j8 E YS ⟨d,.lenSl x,none,nm⟩ st ub (kDr E r (kFp { ro:=yz (ye E st.tm) (.lenSl x),rt:=yB (ye E st.tm) (.lenSl x) } K)):=XK rfl
def jzt {x:A}:jE E (⟨d,.lenMap x,none,nm⟩::r) st ub K=j8 E YS ⟨d,.lenMap x,none,nm⟩ st ub (kDr E r (kFp { ro:=yz (ye E st.tm) (.lenMap x),rt:=yB (ye E st.tm) (.lenMap x) } K)):=XK rfl
def ju3 {x:A}{i:Nat}:jE E (⟨d,.extract x i,none,nm⟩::r) st ub K=j8 E YS ⟨d,.extract x i,none,nm⟩ st ub (kDr E r (kFp { ro:=yz (ye E st.tm) (.extract x i),rt:=yB (ye E st.tm) (.extract x i) } K)):=XK rfl
def j9n {f:Fn}{a b:List A}:jE E (⟨d,.mkFn f a b,none,nm⟩::r) st ub K=j8 E YS ⟨d,.mkFn f a b,none,nm⟩ st ub (kDr E r (kFp { ro:=yz (ye E st.tm) (.mkFn f a b),rt:=yB (ye E st.tm) (.mkFn f a b) } K)):=XK rfl
def jzr {q:LK}{z:V}{a:Bool}{m k:A}:jE E (⟨d,.lookup q z a m k,none,nm⟩::r) st ub K=j8 E YS ⟨d,.lookup q z a m k,none,nm⟩ st ub (kDr E r (kFp { ro:=yz (ye E st.tm) (.lookup q z a m k),rt:=yB (ye E st.tm) (.lookup q z a m k) } K)):=XK rfl
def j9p {k:IntKind}{x:A}:jE E (⟨d,.conv k x,none,nm⟩::r) st ub K=j8 E YS ⟨d,.conv k x,none,nm⟩ st ub (kDr E r (kFp { ro:=yz (ye E st.tm) (.conv k x),rt:=yB (ye E st.tm) (.conv k x) } K)):=XK rfl
def jzq {b:Bool}{xs:List A}:jE E (⟨d,.minmax b xs,none,nm⟩::r) st ub K=j8 E YS ⟨d,.minmax b xs,none,nm⟩ st ub (kDr E r (kFp { ro:=yz (ye E st.tm) (.minmax b xs),rt:=yB (ye E st.tm) (.minmax b xs) } K)):=XK rfl
end
attribute [simp ↓] kC_pin j32 j9d j9u j9h jzp j38 j4f kD_box kD_mov j9k kD_bin kD_eq kD_un j4e j9o jpt jm9 j4b jzv j9l jzu j39 j9j jzs j4a jzt ju3 j9n jzr j9p jzq
attribute [simp ↓] j9i j9g j9q jnb jd4 j9r jzw j85 j3o j84
attribute [simp] jw2 jt1 j44 jvi jyi jup j93 jph
def kL (E:Env) (Yf:YF) (a:C) (n:Nat) (Q:Ex->St->Prop):Ex->St->Prop:=λe s=>match e with
 | .nrm=>Yw (wpC E Yf a) n s Q
 |e=>Q e s
section
variable {E:Env}{Yf:YF}{a:C}{Q:Ex->St->Prop}{s:St}{n:Nat}
def kL_nrm:kL E Yf a n Q .nrm s=Yw (wpC E Yf a) n s Q:=zj bT
def j9e {i:Nat}:kL E Yf a n Q (.exit i) s=Q (.exit i) s:=zj bT
def kL_ret:kL E Yf a n Q .ret s=Q .ret s:=zj bT
def j1o:Yw (wpC E Yf a) 1 s Q=wpC E Yf a s (kL E Yf a 0 Q):=zj bT
def j1n:Yw (wpC E Yf a) 2 s Q=wpC E Yf a s (kL E Yf a 1 Q):=zj bT
def j1m:Yw (wpC E Yf a) 3 s Q=wpC E Yf a s (kL E Yf a 2 Q):=zj bT
def j1l:Yw (wpC E Yf a) 4 s Q=wpC E Yf a s (kL E Yf a 3 Q):=zj bT
def jb5 (n:Nat) (h:Yw (wpC E Yf a) n s Q):wpC E Yf (.loop a) s Q:=⟨n,h⟩
end
def j62 (k:List UInt8->Prop):V->Prop
 | .str s=>k s
 |_=>False
@[simp] theorem wpStr_str (k:List UInt8->Prop) (s:List UInt8):j62 k (.str s)=k s:=rfl
def MP {α:Type}(f:α->V) (m:List (Int×α)):List (V×V):=m.map λp=>(.int .i64 p.1,f p.2)
def jy {α:Type}:List (Int×α)->Int->Option (Nat×α)
 |[],_=>none
 |(k',a)::m,k=>if k=k' then some (0,a) else (jy m k).map λp=>(p.1+1,p.2)
def Wj {α:Type}(m:List (Int×α)) (k:Int) (a:α):List (Int×α):=match jy m k with
 |some (i,_)=>m.set i (k,a)
 |none=>m++[(k,a)]
def jd6 {b:Type}(f:b->V) (k:Int):∀m:List (Int×b),yO .int (.int .i64 k) (MP f m)=some ((jy m k).map λp=>(p.1,f p.2))
 |[]=>rfl
 |(k',a)::m=>by have c:=jd6 f k m;unfold MP at c ⊢;simp only[aZ,yO,Q0,zd,jy];by_cases h:k=k';simp[h];rw[za h,show(k==k')=false by simpa using h];simp only[c,aU,ie];rfl
@[simp] theorem MP_length {b:Type}(f:b->V) (m:List (Int×b)):(MP f m).length=m.length:=by simp[MP]
def jhs (n:Int):V:=.int .i64 n
def mcnt (m:List (Int×Int)) (k:Int):Int:=((jy m k).map (·.2)).getD 0
def ji1 {c:Type}{f:c->V}{ob:ZO}{l u:Nat}{z:V}{b:Bool}{k:Int}(m:List (Int×c)) (h:jY ob l u=some (MP f m)) :
 Yg ob .int z b (.map l u) (.int .i64 k)=some (match jy m k with|some p=>if b then .tup [f p.2,.bool true] else f p.2|none=>if b then .tup [z,.bool false] else z):=by
 simp only[Yg,Qu,zd,h,ah,jd6,aU];cases jy m k<;>rfl
def ji2 {ob:ZO}{l u:Nat}{k:Int}(m:List (Int×Int)) (h:jY ob l u=some (MP jhs m)):Yg ob .int (.int .i64 0) false (.map l u) (.int .i64 k)=some (.int .i64 (mcnt m k)):=by rw[ji1 m h,mcnt];cases jy m k<;>rfl
section
variable {E:Env}{Yf:YF}{st:St}{ub:Nat}{K:St->Nat->Prop}{d:Option Nat}{nm:Bool}
def jpn {x:A}:j8 E Yf ⟨d,.range true x,none,nm⟩ st ub K=j62 (λs=>QN K st d ub { v:=.iter (jI d nm st.fb ub) ub,obs:=[(jI d nm st.fb ub,⟨ub,.siter s 0⟩)] }) (ye E st.tm x):=by rw[jT _ rfl rfl];simp only[yU,Jd];cases ye E st.tm x<;>simp only[jb6,j62,Jn,jG];rfl
def juy {x:A}{l u pos:Nat}{s:List UInt8}(g:ye E st.tm x=.iter l u) (c:st.ob l=some ⟨u,.siter s pos⟩) (b:st.ro<=u)
 (f:pos<s.length->QN K st d ub { v:=.tup [.bool true,.int .i64 pos,.int .i32 ((Utf8.decode ⟨s.toArray⟩ pos).1:Nat)],obs:=[(l,⟨u,.siter s (pos+(Utf8.decode ⟨s.toArray⟩ pos).2)⟩)] })
 (e:¬pos<s.length->jao K st d ub (.tup [.bool false])):j8 E Yf ⟨d,.nextStr x,none,nm⟩ st ub K:=by
 rw[jT _ rfl rfl];simp only[yU,g,c];rw[zb (by simpa using b)];by_cases h:pos<s.length;rw[zb h,jG];exact f h;rw[za h,WZ,ja6];exact e h
def j3u:j8 E Yf ⟨d,.mkMap,none,nm⟩ st ub K=QN K st d ub { v:=.map (jI d nm st.fb ub) ub,obs:=[(jI d nm st.fb ub,⟨ub,.mp 0 []⟩)] }:=by rw[jT _ rfl rfl];simp only[yU,Jn,jG,Jd];rfl
def jcy {c:Type}{f:c->V}{x y z:A}{l u ver:Nat}{k:Int}{a:c}(m:List (Int×c)) (q:ye E st.tm x=.map l u) (r:ye E st.tm y=.int .i64 k) (t:(ye E st.tm z).strip=f a)
 (o:st.ob l=some ⟨u,.mp ver (MP f m)⟩) (g:st.ro<=u) (h:QN K st d ub { v:=jw,obs:=[(l,⟨u,.mp (ver+1) (MP f (Wj m k a))⟩)] }):j8 E Yf ⟨d,.mapSet .int x y z,none,nm⟩ st ub K:=by
 have i:jY st.ob l u=some (MP f m):=by simp[jY,o]
 have b:jn st.ob l=ver:=by simp[jn,o]
 rw[jT _ rfl rfl];simp only[yU,q,r,Qu,zd,i,ah,jd6,b,t];rw[zb (by simpa using g)];unfold Wj at h;cases j:jy m k with
 |none=>rw[j]at h;simp only[eI,jG];simpa[MP] using h
 |some p=>
  rw[j]at h;simp only[aU,jG];have e:(MP f m).set p.1 (V.int .i64 k,f a)=MP f (m.set p.1 (k,a)):=by simp[MP,dG]
  rw[e];exact h
end
attribute [simp ↓] kL_nrm j9e kL_ret j1o j1n j1m j1l jpn j3u
@[simp] theorem j80 (ob:ZO) (l u:Nat):jko ob (.map l u)=(jY ob l u).map λb=>.int .i64 b.length:=rfl
def jhv (l:List Int) (k:Int):List Int:=if k∈l then l else l++[k]
def dd (l:List Int):List Int:=l.foldl jhv []
def j0n (l:List Int) (k:Int):dd (l++[k])=jhv (dd l) k:=by simp[dd]
def mfind_none {c:Type}{m:List (Int×c)}{k:Int}:jy m k=none ↔ k ∉ m.map (·.1):=by
 induction m with
 |nil=>simp[jy]
 |cons p m b=>obtain⟨e,a⟩:=p;by_cases h:k=e;simp[jy,h];simp[jy,h,b]
def jiw {e:Type}{m:List (Int×e)}{k:Int}{i:Nat}{a:e}(h:jy m k=some (i,a)):∃r:i<m.length,m[i]=(k,a):=by
 induction m generalizing i with
 |nil=>cases h
 |cons p m l=>obtain⟨q,t⟩:=p;by_cases c:k=q;simp only[jy,c,zd,ab,cm]at h;obtain⟨rfl,rfl⟩:=h;exact⟨zS,by simp[c]⟩;simp only[jy,c,zc,br,cm]at h;obtain⟨⟨j,b⟩,g,rfl,rfl⟩:=h;obtain⟨o,f⟩:=l g;exact⟨by simpa using o,by simpa using f⟩
def jmv {f:Type}(m:List (Int×f)) (k:Int) (a:f):(Wj m k a).map (·.1)=jhv (m.map (·.1)) k:=by
 unfold Wj jhv;cases h:jy m k with
 |none=>rw[za (mfind_none.1 h)];simp
 |some p=>obtain⟨i,b⟩:=p;obtain⟨l,g⟩:=jiw h;have c:k∈m.map (·.1):=aI.2 ⟨_,au l,by rw[g]⟩;rw[zb c,dG];apply eE zS;intro j q o;simp only[gU,List.getElem_map];split;rename_i e;subst e;rw[g];rfl
def jys {l:List Int}{k x:Int}:x∈jhv l k ↔ x∈l\/x=k:=by unfold jhv;split;constructor;exact .inl;rintro(h|rfl)<;>assumption;simp
def mem_dd {l:List Int}{x:Int}:x∈dd l ↔ x∈l:=by
 have c:∀(l b:List Int),x∈l.foldl jhv b ↔ x∈b\/x∈l:=by
  intro l;induction l with
  |nil=>intro b;simp
  |cons a l e=>intro b;simp only[em,e,jys,bB,or_assoc]
 simpa[dd] using c l []
def jpe {l:List Int}{k:Int}(h:l.Nodup):(jhv l k).Nodup:=by unfold jhv;split;exact h;rename_i f;rw[dc];refine⟨h,zS,?_⟩;intro a g b c e;simp only[ae]at c;subst c;subst e;exact f g
def j28 (l:List Int):(dd l).Nodup:=by
 have c:∀(l b:List Int),b.Nodup->(l.foldl jhv b).Nodup:=by
  intro l;induction l with
  |nil=>intro b h;exact h
  |cons a l e=>intro b h;exact e _ (jpe h)
 exact c l [] ee
def j50:∀(n:Nat) (l:List Int),l.Nodup->(∀x∈l,0<=x/\x<n)->l.length<=n/\(l.length=n ↔ ∀k:Nat,k<n->(k:Int)∈l)
 |0,l,hn,hb=>by
  have:l=[]:=by
   cases l with
   |nil=>rfl
   |cons a l=>have:=hb a zS;omega
  subst this;simp
 |n+1,l,hn,hb=>by
  have g:(l.erase (n:Int)).Nodup:=hn.erase _;have i:∀x∈l.erase (n:Int),0<=x/\x<n:=λx o=>by
   have m:=hb x (List.mem_of_mem_erase o);have f:x≠n:=λe=>by subst e;exact(List.Nodup.not_mem_erase hn) o
   omega
  obtain⟨m,f⟩:=j50 n _ g i;by_cases c:(n:Int)∈l;have q:=List.length_erase_of_mem c;have p:0<l.length:=List.length_pos_of_mem c;refine⟨zO,?_⟩;constructor;intro e k j;rcases bi.1 j with h|rfl;exact List.mem_of_mem_erase (f.1 zO k h);exact c;intro b;have:=f.2 (λk j=>(List.Nodup.mem_erase_iff hn).2 ⟨zO,b k zO⟩);omega;rw[List.erase_of_not_mem c]at m f;refine⟨zO,?_⟩;constructor;intro e;omega;intro b;exact zf (b n zO) c
section
end
section
end
section
variable {α:Type}
def MK (q:IntKind) (f:α->V) (m:List (Int×α)):List (V×V):=m.map λp=>(.int q p.1,f p.2)
@[simp] theorem MK_length (q:IntKind) (f:α->V) (m:List (Int×α)):(MK q f m).length=m.length:=by simp[MK]
def jat (q:IntKind) (f:α->V) (k:Int):∀m:List (Int×α),yO .int (.int q k) (MK q f m)=some ((jy m k).map λp=>(p.1,f p.2))
 |[]=>rfl
 |(k',a)::m=>by have b:=jat q f k m;unfold MK at b ⊢;simp only[aZ,yO,Q0,zd,jy];by_cases h:k=k';simp[h];rw[za h,show(k==k')=false by simpa using h];simp only[b,aU,ie];rfl
def jd1 {q:IntKind}{f:α->V}{ob:ZO}{l u:Nat}{z:V}{a:Bool}{k:Int}(m:List (Int×α)) (h:jY ob l u=some (MK q f m)) :
 Yg ob .int z a (.map l u) (.int q k)=some (match jy m k with|some p=>if a then .tup [f p.2,.bool true] else f p.2|none=>if a then .tup [z,.bool false] else z):=by
 simp only[Yg,Qu,zd,h,ah,jat,aU];cases jy m k<;>rfl
def j8s (m:List (Int×α)) (k:Int):Nat:=match jy m k with
 |some p=>p.1
 |none=>m.length
def jbw (m:List (Int×α)) (k:Int) (z:α):α:=match jy m k with
 |some p=>p.2
 |none=>z
def jyo (m:List (Int×α)) (k:Int) (a:α):(Wj m k a)[j8s m k]? = some (k,a):=by
 unfold Wj j8s;cases h:jy m k with
 |none=>simp
 |some p=>obtain⟨b,_⟩:=jiw (i:=p.1) (a:=p.2) h;simp[dM b]
def jr2 (m:List (Int×α)) (k:Int) (a b:α):(Wj m k a).set (j8s m k) (k,b)=Wj m k b:=by
 unfold Wj j8s;cases h:jy m k with
 |none=>simp
 |some p=>simp
def jr4 (m:List (Int×α)) (k:Int) (z:α):jbw m k z=((jy m k).map (·.2)).getD z:=by unfold jbw;cases jy m k<;>rfl
end
section
variable {α:Type}{f:α->V}{E:Env}{Yf:YF}{st:St}{ub:Nat}{K:St->Nat->Prop}{d:Option Nat}{nm:Bool}{x y z:A}{l u ver:Nat}{k:Int}{q:IntKind}
def jqh {b:FuncId->List V->Option V}{ro i:Nat}{a:α}(m:List (Int×α)) (j:ye E st.tm x=.map l u) (n:ye E st.tm y=.int q k) (o:(ye E st.tm z).strip=f a)
 (h:st.ob l=some ⟨u,.mp ver (MK q f m)⟩) (g:ro<=u):yU b (ye E st.tm) st.ob st.tk ro i ub (.mapSet .int x y z)=some { v:=jw,obs:=[(l,⟨u,.mp (ver+1) (MK q f (Wj m k a))⟩)] }:=by
 have e:jY st.ob l u=some (MK q f m):=by simp[jY,h]
 have c:jn st.ob l=ver:=by simp[jn,h]
 simp only[yU,j,n,Qu,zd,e,ah,jat,c,o];rw[zb (by simpa using g)];unfold Wj;cases s:jy m k with
 |none=>simp[MK]
 |some p=>simp[MK,dG]
def jqi {c:FuncId->List V->Option V}{ro j:Nat}{zero:V}{a:α}(m:List (Int×α)) (n:ye E st.tm x=.map l u) (o:ye E st.tm y=.int q k) (s:zero=f a)
 (i:st.ob l=some ⟨u,.mp ver (MK q f m)⟩) (h:ro<=u) (b:ver<jpl) :
 yU c (ye E st.tm) st.ob st.tk ro j ub (.mapEnt .int zero x y)=some { v:=.tup [f (jbw m k a),.int .i64 (j8s m k)],obs:=[(l,⟨u,.mp (ver+1) (MK q f (Wj m k (jbw m k a)))⟩)] }:=by
 have g:jY st.ob l u=some (MK q f m):=by simp[jY,i]
 have e:jn st.ob l=ver:=by simp[jn,i]
 simp only[yU,n,o,Qu,zd,g,ah,jat,e,s];rw[zb (by simp only[aj];exact⟨bS▸h,by simpa using b⟩)];unfold Wj jbw j8s;cases t:jy m k with
 |none=>simp[MK]
 |some p=>simp[MK,dG]
def jvw {c:FuncId->List V->Option V}{ro p i:Nat}{b:α}{a:α}(m:List (Int×α)) (s:ye E st.tm x=.map l u) (t:ye E st.tm y=.int .i64 i) (w:(ye E st.tm z).strip=f a) (hi:m[i]? = some (k,b))
 (o:st.ob l=some ⟨u,.mp ver (MK q f m)⟩) (n:ro<=u) (e:ver<jpl) :
 yU c (ye E st.tm) st.ob st.tk ro p ub (.entSt x y z)=some { v:=jw,obs:=[(l,⟨u,.mp (ver+1) (MK q f (m.set i (k,a)))⟩)] }:=by
 have j:jY st.ob l u=some (MK q f m):=by simp[jY,o]
 have g:jn st.ob l=ver:=by simp[jn,o]
 have h:(MK q f m)[i]? = some (.int q k,f b):=by simp[MK,hi]
 simp only[yU,s,t,g,show((i:Nat):Int)=Int.ofNat i from rfl];rw[zb (by simp only[aj];exact⟨bS▸n,by simpa using e⟩)];simp only[j,ah,h,w];simp[MK,dG]
section
variable {r:List AOpr}{K':List FP->St->Prop}
def ju2 {a:α}(m:List (Int×α)) (c:ye E st.tm x=.map l u) (e:ye E st.tm y=.int q k) (i:(ye E st.tm z).strip=f a)
 (g:st.ob l=some ⟨u,.mp ver (MK q f m)⟩) (b:st.ro<=u) (h:YU E r K' (ye E st.tm) (.mapSet .int x y z) st d ub { v:=jw,obs:=[(l,⟨u,.mp (ver+1) (MK q f (Wj m k a))⟩)] }):jE E (⟨d,.mapSet .int x y z,none,nm⟩::r) st ub K':=by
 rw[jv rfl,jqh m c e i g b,jG];exact h
def ji5 {zero:V}{a:α}(m:List (Int×α)) (e:ye E st.tm x=.map l u) (g:ye E st.tm y=.int q k) (j:zero=f a)
 (i:st.ob l=some ⟨u,.mp ver (MK q f m)⟩) (c:st.ro<=u) (b:ver<jpl)
 (h:YU E r K' (ye E st.tm) (.mapEnt .int zero x y) st d ub { v:=.tup [f (jbw m k a),.int .i64 (j8s m k)],obs:=[(l,⟨u,.mp (ver+1) (MK q f (Wj m k (jbw m k a)))⟩)] }):jE E (⟨d,.mapEnt .int zero x y,none,nm⟩::r) st ub K':=by
 rw[jv rfl,jqi m e g j i c b,jG];exact h
def jna {a b:α}{i:Nat}(m:List (Int×α)) (g:ye E st.tm x=.map l u) (j:ye E st.tm y=.int .i64 i) (o:(ye E st.tm z).strip=f a) (hi:m[i]? = some (k,b))
 (n:st.ob l=some ⟨u,.mp ver (MK q f m)⟩) (e:st.ro<=u) (c:ver<jpl)
 (h:YU E r K' (ye E st.tm) (.entSt x y z) st d ub { v:=jw,obs:=[(l,⟨u,.mp (ver+1) (MK q f (m.set i (k,a)))⟩)] }):jE E (⟨d,.entSt x y z,none,nm⟩::r) st ub K':=by
 rw[jv rfl,jvw m g j o hi n e c,jG];exact h
def jsf {f:FuncId}{xs:List A}{cs:List V}(e:xs.map (ye E st.tm)=[.sl none true 0 []]) (c:E.sh nm f=true) (b:E.tw f=false) (g:E.nw f=some cs)
 (h:jE E r (st.app d { v:=.ptr (jI d nm st.fb ub) ub 0,obs:=[(jI d nm st.fb ub,⟨ub,.cells cs⟩)] }) (ub+64) (kFp { wo:=[jI d nm st.fb ub],nw:=true } K')):jE E (⟨d,.call f xs,none,nm⟩::r) st ub K':=by
 have a:jA E nm (ye E st.tm) (.call f xs)=some (f,[.sl none true 0 []]):=by simp only[jA,c,e,bV,bH,ag,zc]
 simp only[jE,yK,a];refine .inr (.inr ⟨c,b,{ v:=.ptr (jI d nm st.fb ub) ub 0,obs:=[(jI d nm st.fb ub,⟨ub,.cells cs⟩)] },?_,h⟩);simp only[mkD,g];cases nm<;>rfl
end
end
def jpg:List FP->Bool
 |[]=>true
 |f::r=>(r.all λg=>(!f.nw||QJ f g)&&(!g.nw||QJ g f))&&jpg r
def jr0:∀{fs:List FP},jpg fs=true->∀{i j:Nat}{f g:FP},fs[i]? = some f->fs[j]? = some g->i≠j->f.nw=true->QJ f g=true
 |[],_,i,j,f,g,hi,_,_,_=>by simp at hi
 |f0::r,h,i,j,f,g,hi,hj,hne,hn=>by
  simp only[jpg,aj,aw,bG,ci]at h;cases i with
  |zero=>
   cases j with
   |zero=>exact zf rfl hne
   |succ j=>simp only[aE,ab,bY]at hi hj;subst hi;rcases(h.1 g (aJ hj)).1 with h|h;rw[hn]at h;cases h;exact h
  |succ i=>
   cases j with
   |zero=>simp only[aE,ab,bY]at hi hj;subst hj;rcases(h.1 f (aJ hi)).2 with h|h;rw[hn]at h;cases h;exact h
   |succ j=>simp only[bY]at hi hj;exact jr0 h.2 hi hj (λe=>hne (by rw[e])) hn
def jr1 {fs:List FP}(h:jpg fs=true):jbu fs=true:=by
 unfold jbu jym;rw[bG];refine .inr ?_;rw[aw];intro i a;rw[bf]at a;have m:fs[i]? = some (fs.getD i {}):=by rw[ay,aa a];rfl
 cases g:(fs.getD i {}).nw;rfl;rw[bV,bR,aw];intro j b;rw[bf]at b;have c:fs[j]? = some (fs.getD j {}):=by rw[ay,aa b];rfl
 by_cases e:i=j;subst e;simp;rw[jr0 h m c e g,iz]
def jmu:jpg []=true:=rfl
def jiu (f:FP) (r:List FP):jpg (f::r)=((r.all λg=>(!f.nw||QJ f g)&&(!g.nw||QJ g f))&&jpg r):=rfl
end Go.Pv
namespace Go.Pv.T
open Go Go.Pv Go.Proofs Tryz
noncomputable section
def cbvRow (mj j:Nat):List (Nat×Nat):=match mj+1==1<<<j with
 |true=>[]
 |false=>((List.range j).filter λi=>!mj.testBit i).map λi=>(i,j)
def j0t:List Nat->Nat->List (Nat×Nat)
 |[],_=>[]
 |m::r,j=>cbvRow m j++j0t r (j+1)
def cbvOk:List Oper->Nat->Bool
 |[],_=>true
 |o::r,j=>o.after.all (λe=>!Region.binds .any e||decide (e.on<j))&&cbvOk r (j+1)
def cbvAp (x y:AOpr):Bool :=
 (match x.dst with
  |some d=>!(y.looks.any λt=>t==d)&&(match y.dst with|some e=>!(e==d)|none=>true)
  |none=>true) &&
 (match y.dst with
  |some d=>!(x.looks.any λt=>t==d)
  |none=>true)
def cbvDQ (als:List AOpr) (pairs:List (Nat×Nat)):Option (List (Nat×Nat)) :=
 match pairs.all λp=>match als[p.1]?,als[p.2]? with|some x,some y=>cbvAp x y|_,_=>true with
 |true=>some (pairs.filter λp=>match als[p.1]?,als[p.2]? with|some x,some y=>!x.op.quiet y.op|_,_=>false)
 |false=>none
def cbvDP (ops:Array Oper) (als:List AOpr):Option (List (Nat×Nat)):=match cbvOk ops.toList 0 with
 |true=>cbvDQ als (j0t (JM ops.toList []) 0)
 |false=>none
def cbvMA (mj j:Nat):Bool:=match mj+1==1<<<j with
 |true=>true
 |false=>(List.range j).all λi=>mj.testBit i
def cbvMB:List Nat->Nat->Nat->Nat
 |[],_,k=>k
 |m::r,j,k=>match cbvMA m j with|true=>cbvMB r (j+1) k|false=>cbvMB r (j+1) (j+1)
def j5e:List AOpr->Nat->Option Nat->Option Nat
 |[],_,x=>x
 |o::r,j,x=>match o.op.isCall with|true=>j5e r (j+1) (some j)|false=>j5e r (j+1) x
def cbvMid (ms:List Nat) (als:List AOpr) (c:Nat):Bool :=
 match (als.drop (c+1)).any λo=>match o.op with|.extract _ _=>true|_=>false with
 |false=>false
 |true=>match cbvMA (ms.getD c 0) c with
  |false=>false
  |true=>((ms.drop (c+1)).zip (als.drop (c+1))).all λp=>((List.range (c+1)).all λi=>p.1.testBit i)&&p.2.op.still
def cbvPX (o:AOpr) (d j:Nat):List AOpr->Nat->Bool
 |[],_=>true
 |x::r,i=>match (i==j||match x.dst with|some e=>!(e==d)|none=>true)&&(decide (j<i) || !(x.looks.any λt=>t==d)) with
  |true=>cbvPX o d j r (i+1)
  |false=>false
def cbvPin (ms:List Nat) (als:List AOpr) (k c:Nat):Bool :=
 match decide (c+1<k) with
 |false=>false
 |true=>match cbvMA (ms.getD c 0) c with
  |false=>false
  |true=>(((ms.take k).zip ((als.take k).zip (List.range k))).drop (c+1)).all λp=>match p.2.1.op.still && !p.1.testBit c with
   |false=>false
   |true=>match p.2.1.dst with
    |some d=>cbvPX p.2.1 d p.2.2 (als.take k) 0
    |none=>true
def cbvDrN (l:List AOpr) (free:List (Nat×Nat)) (ms:List Nat) (k:Nat):C :=
 match decide (k<l.length)&&(l.drop k).any (λo=>o.op.isCall) with
 |true=>match (j5e (l.take k) 0 none).filter (cbvPin ms l k) with
  |some c=>.seq (.draw ((l.take k).set c jgi) free) (.seq (.pin (l.getD c jgi) ((l.take k).drop (c+1))) (.region (l.drop k)))
  |none=>.seq (.draw (l.take k) free) (.region (l.drop k))
 |false=>match (j5e l 0 none).filter (cbvMid ms l) with
  |some c=>.seq (.draw (l.take c) free) (.seq (.region [l.getD c jgi]) (.draw (List.replicate (c+1) jgi++l.drop (c+1)) free))
  |none=>.draw l free
def cbvDrM (l:List AOpr) (free:List (Nat×Nat)) (ms:List Nat):C:=cbvDrN l free ms (cbvMB ms 0 0)
def j5d (P:Program) (m:Bool) (ops:Array Oper):Bool->Option C
 |false=>(ops.toList.mapM (Jh P m ops)).map .region
 |true=>(ops.toList.mapM (Jh P m ops)).map λl=>match cbvDP ops l with
  |some free=>match m with
   |true=>cbvDrM l free (JM ops.toList [])
   |false=>.draw l free
  |none=>.stuck
def je2 (P:Program) (m r:Bool):Code->Option C
 | .skip=>some .skip
 | .region _ ops d=>j5d P m ops d
 | .seq a b=>(je2 P m r a).bind λa=>(je2 P m r b).map (.seq a)
 | .cond c a b=>(opd c).bind λc=>(je2 P m r a).bind λa=>(je2 P m r b).map (.cond c a)
 | .block id a=>(je2 P m r a).map (.block id)
 | .loop a=>(je2 P m r a).map .loop
 | .exit id=>some (.exit id)
 | .ret=>some .ret
 | .rangeFunc f ps a b=>match r with|true=>some .stuck|false=>(opd f).bind λf=>(je2 P m true a).bind λa=>(je2 P m true b).map (.rangeFunc f ps.toList a)
 |_=>some .stuck
noncomputable def cf (m r:Bool) (fn:Func):AF:=(fn.body.bind λc=>(je2 Tryz.prog m r c).bind λb=>(fn.results.toList.mapM (Yl Tryz.prog)).map λr=>{ body:=b,res:=r }).getD ⟨.stuck,[]⟩
def cfa:=cf false false
def cfb:=cf true false
def cfc:=cf true true
abbrev oo (d:Nat) (p:AOp):AOpr:=⟨some d,p,none,false⟩
abbrev og (d:Nat) (p:AOp) (t:Nat) (b:Bool):AOpr:=⟨some d,p,some (t,b),false⟩
abbrev qg (d:Nat) (p:AOp) (t:Nat) (b:Bool):AOpr:=⟨some d,p,some (t,b),true⟩
abbrev oh (p:AOp) (t:Nat) (b:Bool):AOpr:=⟨none,p,some (t,b),false⟩
abbrev ov (d k:Nat):AOpr:=⟨some d,.mov (.t k),none,false⟩
abbrev nn (k:Int):A:=.c (.int .i64 k)
abbrev ol (d k:Nat):AOpr:=⟨some d,.load none (.t k),none,false⟩
abbrev os (d n k:Nat):AOpr:=⟨some d,.load (some n) (.t k),none,false⟩
abbrev om (d:Nat) (k:Int):AOpr:=⟨some d,.mov (nn k),none,false⟩
abbrev of (d n k:Nat):AOpr:=⟨some d,.fieldAddr n (.t k),none,false⟩
abbrev on (d:Nat) (p:BinOp) (a:Nat) (k:Int):AOpr:=⟨some d,.bin p (.t a) (nn k),none,false⟩
abbrev ob (d:Nat) (p:BinOp) (a b:Nat):AOpr:=⟨some d,.bin p (.t a) (.t b),none,false⟩
abbrev qs (d n k:Nat):AOpr:=⟨some d,.load (some n) (.t k),none,true⟩
abbrev qn (d:Nat) (p:BinOp) (a:Nat) (k:Int):AOpr:=⟨some d,.bin p (.t a) (nn k),none,true⟩
abbrev qb (d:Nat) (p:BinOp) (a b:Nat):AOpr:=⟨some d,.bin p (.t a) (.t b),none,true⟩
abbrev sr (l:List AOpr) (b:C):C:=.seq (.region l) b
abbrev aF:A:=.c (.bool false)
abbrev aT:A:=.c (.bool true)
abbrev fA:=AOp.fieldAddr
abbrev sq:=C.seq
abbrev rg:=C.region
abbrev lS:=AOp.lenSl
abbrev Z0:A:=.t 0
abbrev Z3:A:=.t 3
abbrev Z4:A:=.t 4
abbrev wF (d:Nat) (p:AOp) (t:Nat):AOpr:=og d p t false
abbrev zF (d:Nat) (p:AOp) (t:Nat):AOpr:=qg d p t false
abbrev uF (p:AOp) (t:Nat):AOpr:=oh p t false
def F3:=cfa f3
def F9:=cfb f9
def F10:=cfa f10
def F11:=cfa f11
def F12:=cfb f12
def F13:=cfa f13
def F14:=cfa f14
def F16:=cfa f16
def F17:=cfa f17
def F18:=cfa f18
def F25:=cfa f25
def F28:=cfa f28
def F30:=cfa f30
def F32:=cfa f32
def F33:=cfa f33
def F34:=cfa f34
def F37:=cfa f37
def F38:=cfa f38
def F41:=cfa f41
def F48:=cfb f48
def F49:=cfa f49
def F50:=cfa f50
def F53:=cfa f53
def F54:=cfa f54
def F55:=cfa f55
def F57:=cfb f57
def F59:=cfa f59
def F60:=cfb f60
def F61:=cfa f61
def F62:=cfb f62
def F63:=cfa f63
def F64:=cfa f64
def F65:=cfa f65
def F66:=cfa f66
def F67:=cfa f67
def F68:=cfa f68
def F69:=cfa f69
def F70:=cfa f70
def F71:=cfa f71
def F72:=cfa f72
def F73:=cfa f73
def F74:=cfb f74
def F79:=cfa f79
def F87:=cfa f87
def F90:=cfa f90
def F92:=cfa f92
def F93:=cfa f93
def F94:=cfa f94
def F95:=cfa f95
def F98:=cfb f98
def F101:=cfb f101
def F102:=cfb f102
def F104:=cfa f104
def F105:=cfb f105
def F106:=cfa f106
def F107:=cfa f107
def F108:=cfa f108
def F109:=cfa f109
def F110:=cfa f110
def F111:=cfa f111
def F112:=cfa f112
def F113:=cfb f113
def F114:=cfa f114
def F128:=cfa f128
def F129:=cfa f129
def F130:=cfa f130
def F137:=cfa f137
def F141:=cfa f141
def F144:=cfa f144
def F146:=cfa f146
def F148:=cfa f148
def F158:=cfa f158
def F161:=cfa f161
def F162:=cfa f162
def F163:=cfa f163
def F165:=cfa f165
def F169:=cfa f169
def F188:=cfa f188
def F189:AF:=⟨sr [oo 2 (.mov aF)] (sr [ov 3 0,oo 4 (.bin .eql Z3 (.c (.str [98,101,103,105,110]))),ov 5 4,wF 6 (.mov Z0) 5,wF 7 (.bin .eql (.t 6) (.c (.str [114,101,97,100]))) 5,oo 8 (.pick (.t 5) aT (.t 7)),ov 9 8,wF 10 (.mov Z0) 9,wF 11 (.bin .eql (.t 10) (.c (.str [119,114,105,116,101]))) 9,oo 12 (.pick (.t 9) aT (.t 11)),ov 13 12,wF 14 (.mov Z0) 13,wF 15 (.bin .eql (.t 14) (.c (.str [111,107]))) 13,oo 16 (.pick (.t 13) aT (.t 15)),ov 17 16,wF 18 (.mov Z0) 17,wF 19 (.bin .eql (.t 18) (.c (.str [102,97,105,108]))) 17,oo 20 (.pick (.t 17) aT (.t 19)),ov 21 20,wF 22 (.mov Z0) 21,wF 23 (.bin .eql (.t 22) (.c (.str [105,110,102,111]))) 21,oo 24 (.pick (.t 21) aT (.t 23)),ov 25 24,wF 26 (.mov Z0) 25,wF 27 (.bin .eql (.t 26) (.c (.str [110,105,108]))) 25,oo 28 (.pick (.t 25) aT (.t 27)),ov 2 28] .ret),[.t 2]⟩
def F190:=cfa f190
def F197:AF:=⟨sr [oo 2 (.mov aF)] (sq (sr [ov 3 0] (.block 0 (sq (sr [oo 5 (.bin .eql Z3 (.c (.str [98,101,103,105,110]))),ov 4 5] (.cond Z4 .skip (sr [oo 6 (.bin .eql Z3 (.c (.str [114,101,97,100]))),ov 4 6] (.cond Z4 .skip (sr [oo 7 (.bin .eql Z3 (.c (.str [119,114,105,116,101]))),ov 4 7] (.cond Z4 .skip (sr [oo 8 (.bin .eql Z3 (.c (.str [111,107]))),ov 4 8] (.cond Z4 .skip (sr [oo 9 (.bin .eql Z3 (.c (.str [102,97,105,108]))),ov 4 9] (.cond Z4 .skip (sr [oo 10 (.bin .eql Z3 (.c (.str [105,110,102,111]))),ov 4 10] (.cond Z4 .skip (rg [oo 11 (.bin .eql Z3 (.c (.str [110,105,108]))),ov 4 11]))))))))))))) (.cond Z4 (sr [oo 2 (.mov aT)] .ret) .skip)))) (sr [oo 2 (.mov aF)] .ret)),[.t 2]⟩
def F198:=cfa f198
def F199:=cfa f199
def F200:=cfa f200
def F206:=cfa f206
def F207:=cfa f207
def F208:=cfa f208
def F214:=cfa f214
def F218:=cfa f218
def F222:=cfa f222
def F243:=cfa f243
end
noncomputable section
def F250:AF:=⟨sr [oo 2 (.mov (.c (.int .u64 0)))] (sq (.cond aF (sq (.draw [ov 3 0,oo 4 (.idxStr Z3 (nn 0)),oo 5 (.conv .u64 Z4),ov 6 0,oo 7 (.idxStr (.t 6) (nn 1)),oo 8 (.conv .u64 (.t 7)),oo 9 (.bin .shl (.t 8) (.c (.int .u64 8))),ob 10 .or 5 9,ov 11 0,oo 12 (.idxStr (.t 11) (nn 2)),oo 13 (.conv .u64 (.t 12)),oo 14 (.bin .shl (.t 13) (.c (.int .u64 16))),ob 15 .or 10 14,ov 16 0,oo 17 (.idxStr (.t 16) (nn 3)),oo 18 (.conv .u64 (.t 17)),oo 19 (.bin .shl (.t 18) (.c (.int .u64 24))),ob 20 .or 15 19,ov 2 20] []) .ret) .skip) (sq (.draw [ov 21 0,oo 22 (.idxStr (.t 21) (nn 0)),oo 23 (.conv .u64 (.t 22)),ov 24 0,oo 25 (.idxStr (.t 24) (nn 1)),oo 26 (.conv .u64 (.t 25)),oo 27 (.bin .shl (.t 26) (.c (.int .u64 8))),ob 28 .or 23 27,ov 29 0,oo 30 (.idxStr (.t 29) (nn 2)),oo 31 (.conv .u64 (.t 30)),oo 32 (.bin .shl (.t 31) (.c (.int .u64 16))),ob 33 .or 28 32,ov 34 0,oo 35 (.idxStr (.t 34) (nn 3)),oo 36 (.conv .u64 (.t 35)),oo 37 (.bin .shl (.t 36) (.c (.int .u64 24))),ob 38 .or 33 37,ov 39 0,oo 40 (.idxStr (.t 39) (nn 4)),oo 41 (.conv .u64 (.t 40)),oo 42 (.bin .shl (.t 41) (.c (.int .u64 32))),ob 43 .or 38 42,ov 44 0,oo 45 (.idxStr (.t 44) (nn 5)),oo 46 (.conv .u64 (.t 45)),oo 47 (.bin .shl (.t 46) (.c (.int .u64 40))),ob 48 .or 43 47,ov 49 0,oo 50 (.idxStr (.t 49) (nn 6)),oo 51 (.conv .u64 (.t 50)),oo 52 (.bin .shl (.t 51) (.c (.int .u64 48))),ob 53 .or 48 52,ov 54 0,oo 55 (.idxStr (.t 54) (nn 7)),oo 56 (.conv .u64 (.t 55)),oo 57 (.bin .shl (.t 56) (.c (.int .u64 56))),ob 58 .or 53 57,ov 2 58] []) .ret)),[.t 2]⟩
def F253:=cfa f253
def F290:=cfa f290
def F291:=cfa f291
def F314:=cfa f314
def F321:=cfa f321
def S27:=cfc f27
def S31:=cfc f31
def S38:=cfc f38
def S56:=cfc f56
def S58:=cfc f58
def S80:=cfc f80
def S88:=cfc f88
def S89:=cfc f89
def S91:=cfc f91
def S96:=cfc f96
def S97:=cfc f97
def S99:=cfc f99
def S100:=cfc f100
def S103:=cfc f103
def S115:=cfc f115
def S116:=cfc f116
def S117:=cfc f117
def S118:=cfc f118
def S121:=cfc f121
def S122:=cfc f122
def S143:=cfc f143
def S145:=cfc f145
def S147:=cfc f147
def S148:=cfc f148
def S149:=cfc f149
def S150:=cfc f150
def S151:=cfc f151
def S152:=cfc f152
def S153:=cfc f153
def S154:=cfc f154
def S155:=cfc f155
def S156:=cfc f156
def S157:=cfc f157
def S159:=cfc f159
def S160:=cfc f160
def S164:=cfc f164
def S166:=cfc f166
def S168:=cfc f168
def S170:=cfc f170
def S171:=cfc f171
def S172:=cfc f172
def S175:=cfc f175
def S176:=cfc f176
def S178:=cfc f178
def S180:=cfc f180
def S181:=cfc f181
def S209:=cfc f209
def S210:=cfc f210
def S211:=cfc f211
def S212:=cfc f212
def S213:=cfc f213
def S215:=cfc f215
def S216:=cfc f216
def S217:=cfc f217
def S220:=cfc f220
def S221:=cfc f221
def S222:=cfc f222
def S233:=cfc f233
def S234:=cfc f234
def S235:=cfc f235
def S237:=cfc f237
def S255:=cfc f255
def S256:=cfc f256
def S257:=cfc f257
def S258:=cfc f258
def S259:=cfc f259
def S260:=cfc f260
def S261:=cfc f261
def S262:=cfc f262
def S263:=cfc f263
def S273:=cfc f273
def S292:=cfc f292
def S293:=cfc f293
def S298:=cfc f298
end
noncomputable section
def utf8first:List V:=(List.range 256).map λi=>V.int .u8 (if i<128 then 240 else if i<194 then 241 else if i<224 then 2 else if i=224 then 19 else if i<237 then 3 else if i=237 then 35 else if i<240 then 3 else if i=240 then 52 else if i<244 then 4 else if i=244 then 68 else 241:Nat)
def words:List V:=[.str [],.str [98,101,103,105,110],.str [114,101,97,100],.str [119,114,105,116,101],.str [111,107],.str [102,97,105,108],.str [105,110,102,111]]
def accR:List V:=[.int .u8 128,.int .u8 191,.int .u8 160,.int .u8 191,.int .u8 128,.int .u8 159,.int .u8 144,.int .u8 191,.int .u8 128,.int .u8 143,.int .u8 0,.int .u8 0,.int .u8 0,.int .u8 0,.int .u8 0,.int .u8 0,.int .u8 0,.int .u8 0,.int .u8 0,.int .u8 0,.int .u8 0,.int .u8 0,.int .u8 0,.int .u8 0,.int .u8 0,.int .u8 0,.int .u8 0,.int .u8 0,.int .u8 0,.int .u8 0,.int .u8 0,.int .u8 0]
def setZ:List V:=[.int .u64 0,.int .u64 0,.int .u64 0,.int .u64 0,.int .u64 0,.int .u64 0,.int .u64 0,.int .u64 0]
def bruij:List V:=([0,1,56,2,57,49,28,3,61,58,42,50,38,29,17,4,62,47,59,36,45,43,51,22,53,39,33,30,24,18,12,5,63,55,48,27,60,41,37,16,46,35,44,21,52,32,23,11,54,26,40,15,34,20,31,10,25,14,19,9,13,8,7,6]:List Int).map (V.int .u8)
def fc_2:FuncId->Option AF
 |182=>some (cfa f182)
 |188=>some F188
 |189=>some F189
 |190=>some F190
 |191=>some (cfa f191)
 |192=>some (cfa f192)
 |194=>some (cfa f194)
 |195=>some (cfa f195)
 |196=>some (cfa f196)
 |197=>some F197
 |198=>some F198
 |199=>some F199
 |200=>some F200
 |201=>some (cfa f201)
 |202=>some (cfa f202)
 |206=>some F206
 |207=>some F207
 |208=>some F208
 |211=>some (cfa f211)
 |214=>some F214
 |218=>some F218
 |222=>some F222
 |232=>some (cfa f232)
 |233=>some (cfa f233)
 |234=>some (cfa f234)
 |235=>some (cfa f235)
 |236=>some (cfa f236)
 |237=>some (cfa f237)
 |243=>some F243
 |245=>some (cfa f245)
 |246=>some (cfa f246)
 |247=>some (cfa f247)
 |248=>some (cfa f248)
 |249=>some (cfa f249)
 |250=>some F250
 |251=>some (cfa f251)
 |253=>some F253
 |255=>some (cfa f255)
 |279=>some (cfa f279)
 |280=>some (cfa f280)
 |281=>some (cfa f281)
 |286=>some (cfa f286)
 |287=>some (cfa f287)
 |288=>some (cfa f288)
 |290=>some F290
 |291=>some F291
 |301=>some (cfa f301)
 |305=>some (cfa f305)
 |314=>some F314
 |321=>some F321
 |_=>none
def fc_1:FuncId->Option AF
 |87=>some F87
 |90=>some F90
 |92=>some F92
 |93=>some F93
 |94=>some F94
 |95=>some F95
 |98=>some F98
 |101=>some F101
 |102=>some F102
 |104=>some F104
 |105=>some F105
 |106=>some F106
 |107=>some F107
 |108=>some F108
 |109=>some F109
 |110=>some F110
 |111=>some F111
 |112=>some F112
 |113=>some F113
 |114=>some F114
 |123=>some (cfa f123)
 |124=>some (cfa f124)
 |128=>some F128
 |129=>some F129
 |130=>some F130
 |131=>some (cfa f131)
 |132=>some (cfa f132)
 |133=>some (cfa f133)
 |134=>some (cfa f134)
 |135=>some (cfa f135)
 |136=>some (cfa f136)
 |137=>some F137
 |138=>some (cfa f138)
 |141=>some F141
 |142=>some (cfa f142)
 |144=>some F144
 |146=>some F146
 |147=>some (cfa f147)
 |148=>some F148
 |158=>some F158
 |161=>some F161
 |162=>some F162
 |163=>some F163
 |165=>some F165
 |169=>some F169
 |174=>some (cfa f174)
 |178=>some (cfa f178)
 |179=>some (cfa f179)
 |180=>some (cfa f180)
 |181=>some (cfa f181)
 |f=>fc_2 f
def fc:FuncId->Option AF
 |3=>some F3
 |9=>some F9
 |10=>some F10
 |11=>some F11
 |12=>some F12
 |13=>some F13
 |14=>some F14
 |16=>some F16
 |17=>some F17
 |18=>some F18
 |25=>some F25
 |28=>some F28
 |29=>some (cfa f29)
 |30=>some F30
 |32=>some F32
 |33=>some F33
 |34=>some F34
 |37=>some F37
 |38=>some F38
 |41=>some F41
 |48=>some F48
 |49=>some F49
 |50=>some F50
 |51=>some (cfa f51)
 |52=>some (cfb f52)
 |53=>some F53
 |54=>some F54
 |55=>some F55
 |57=>some F57
 |59=>some F59
 |60=>some F60
 |61=>some F61
 |62=>some F62
 |63=>some F63
 |64=>some F64
 |65=>some F65
 |66=>some F66
 |67=>some F67
 |68=>some F68
 |69=>some F69
 |70=>some F70
 |71=>some F71
 |72=>some F72
 |73=>some F73
 |74=>some F74
 |75=>some (cfb f75)
 |79=>some F79
 |81=>some (cfa f81)
 |82=>some (cfa f82)
 |85=>some (cfa f85)
 |f=>fc_1 f
def fs_1:FuncId->Option AF
 |177=>some (cfc f177)
 |178=>some S178
 |179=>some (cfc f179)
 |180=>some S180
 |181=>some S181
 |182=>some (cfc f182)
 |203=>some (cfc f203)
 |204=>some (cfc f204)
 |205=>some (cfc f205)
 |209=>some S209
 |210=>some S210
 |211=>some S211
 |212=>some S212
 |213=>some S213
 |215=>some S215
 |216=>some S216
 |217=>some S217
 |220=>some S220
 |221=>some S221
 |222=>some S222
 |233=>some S233
 |234=>some S234
 |235=>some S235
 |237=>some S237
 |252=>some (cfc f252)
 |254=>some (cfc f254)
 |255=>some S255
 |256=>some S256
 |257=>some S257
 |258=>some S258
 |259=>some S259
 |260=>some S260
 |261=>some S261
 |262=>some S262
 |263=>some S263
 |273=>some S273
 |289=>some (cfc f289)
 |291=>some (cfc f291)
 |292=>some S292
 |293=>some S293
 |298=>some S298
 |306=>some (cfc f306)
 |_=>none
def fs:FuncId->Option AF
 |27=>some S27
 |31=>some S31
 |38=>some S38
 |56=>some S56
 |58=>some S58
 |80=>some S80
 |83=>some (cfc f83)
 |84=>some (cfc f84)
 |86=>some (cfc f86)
 |88=>some S88
 |89=>some S89
 |91=>some S91
 |96=>some S96
 |97=>some S97
 |99=>some S99
 |100=>some S100
 |103=>some S103
 |115=>some S115
 |116=>some S116
 |117=>some S117
 |118=>some S118
 |121=>some S121
 |122=>some S122
 |123=>some (cfc f123)
 |124=>some (cfc f124)
 |139=>some (cfc f139)
 |140=>some (cfc f140)
 |143=>some S143
 |145=>some S145
 |147=>some S147
 |148=>some S148
 |149=>some S149
 |150=>some S150
 |151=>some S151
 |152=>some S152
 |153=>some S153
 |154=>some S154
 |155=>some S155
 |156=>some S156
 |157=>some S157
 |159=>some S159
 |160=>some S160
 |164=>some S164
 |166=>some S166
 |168=>some S168
 |170=>some S170
 |171=>some S171
 |172=>some S172
 |175=>some S175
 |176=>some S176
 |f=>fs_1 f
def shl:List Nat:=[31,58,80,83,91,99,100,103,115,116,117,118,119,121,122,139,149,150,151,152,153,154,159,164,166,167,168,170,175,176,177,203,204,209,213,215,217,252,254,273,276,289,298,306,307,308,309,310,311,312,313,318,319,320,322]
def shm:List Nat:=[27,38,113]
def fzl:List Nat:=[113]
def twl:List Nat:=[113]
def E:Env:={ sh:=λnm f=>shl.any (Nat.beq f)||(nm&&shm.any (Nat.beq f)),fz:=λf=>fzl.any (Nat.beq f),tw:=λf=>twl.any (Nat.beq f),srt:=λf=>match f with|167=>some none|119=>some (some 120)|_=>none,fc:=fc,fs:=fs,gl:=(λg=>match g with|0=>some words|2=>some utf8first|3=>some accR|4=>some bruij|_=>none),nw:=λf=>match f with|151=>some setZ|_=>none }
end
end Go.Pv.T
