/- The abstract interpreter: values without memory, operations, code; and the translation of the program's form into it. -/
import Derived.Calls
import Derived.LoopN
import Derived.Orders
import Derived.Laws.AppendOwn
import Derived.Laws.StructEq
import Derived.Laws.Slices
import Derived.Laws.RangeString
import Derived.Laws.MakeOwn
import Derived.Lib.Bytealg
set_option maxRecDepth 100000
namespace Go.Pv
theorem zS {p:Prop} (h:p:=by simp):p:=h
theorem zO {p:Prop} (h:p:=by omega):p:=h
theorem zL {p:Prop} (h:p:=by first|omega|(simp;done)|(simp;omega)):p:=h
open Go
inductive V where
 | undef
 | bool (b:Bool)
 | int (k:IntKind) (n:Int)
 | str (s:List UInt8)
 | nilptr
 | nilmap
 | nilfn
 | nilif
 | sl (tok:Option (Nat × Nat)) (nil:Bool) (n:Nat) (cs:List V)
 | agg (cs:List V)
 | tup (vs:List V)
 | eptr (cs:List V) (off:Nat)
 | ptr (l u off:Nat)
 | osl (l u off n sz:Nat)
 | map (l u:Nat)
 | iter (l u:Nat)
 | fn (f:Fn) (first captured:List V)
 | iface (t:TypeId) (v:V)
 | yld (l u:Nat)
 deriving Inhabited
inductive Ex where
 | nrm
 | exit (id:Nat)
 | ret
 deriving Inhabited,DecidableEq
inductive LS where
 | ready|busy|done
 deriving Inhabited,DecidableEq
def V.leaf:V→Bool
 | .agg _|.tup _|.undef=>false
 | _=>true
def V.cells:V→List V
 | .agg cs=>cs
 | v=>[v]
mutual
def V.eqb:V→V→Bool
 | .undef,.undef=>true
 | .bool a,.bool b=>a == b
 | .int k a,.int k' b=>decide (k=k') && decide (a=b)
 | .str a,.str b=>decide (a=b)
 | .nilptr,.nilptr=>true
 | .nilmap,.nilmap=>true
 | .nilfn,.nilfn=>true
 | .nilif,.nilif=>true
 | .sl t nl n cs,.sl t' nl' n' cs'=>decide (t=t') && decide (nl=nl') && decide (n=n') && V.eqbs cs cs'
 | .agg cs,.agg cs'=>V.eqbs cs cs'
 | .tup cs,.tup cs'=>V.eqbs cs cs'
 | .eptr cs o,.eptr cs' o'=>V.eqbs cs cs' && decide (o=o')
 | .fn f a b,.fn f' a' b'=>decide (f=f') && V.eqbs a a' && V.eqbs b b'
 | .iface t v,.iface t' v'=>decide (t=t') && V.eqb v v'
 | .ptr a b c,.ptr a' b' c'=>decide (a=a') && decide (b=b') && decide (c=c')
 | .osl a b c d e,.osl a' b' c' d' e'=>decide (a=a') && decide (b=b') && decide (c=c') && decide (d=d') && decide (e=e')
 | .map a b,.map a' b'=>decide (a=a') && decide (b=b')
 | .iter a b,.iter a' b'=>decide (a=a') && decide (b=b')
 | .yld a b,.yld a' b'=>decide (a=a') && decide (b=b')
 | _,_=>false
def V.eqbs:List V→List V→Bool
 | [],[]=>true
 | a::l,b::m=>V.eqb a b && V.eqbs l m
 | _,_=>false
end
inductive OBody where
 | cells (cs:List V)
 | mp (ver:Nat) (es:List (V × V))
 | siter (s:List UInt8) (pos:Nat)
 | miter (l u ver:Nat) (left:List (V × V)) (last:Option (V × V))
 | nomap
 | loop (s:LS) (pend:Option Ex)
 | dfr
 deriving Inhabited
structure Obj' where
 uid:Nat
 body:OBody
 deriving Inhabited
inductive A where
 | t (n:Nat)
 | c (v:V)
 | g (n:Nat)
 deriving Inhabited
inductive LK where
 | bool|int|str
 deriving Inhabited,DecidableEq
inductive EqK where
 | bool|ptr|sl|map|fn|iface
 | struct (l:List LK)
 deriving Inhabited,DecidableEq
inductive ExtK where
 | count|indexByte
 deriving Inhabited,DecidableEq
inductive AOp where
 | mov (x:A)
 | pick (c a b:A)
 | bin (op:BinOp) (x y:A)
 | eq (neg:Bool) (k:EqK) (x y:A)
 | un (op:UnOp) (x:A)
 | alloc (zero:List V)
 | box (sz:Nat) (x:A)
 | build (zero:List V) (parts:List (Nat × Nat × A))
 | buildSl (o:Bool) (sz:Nat) (zero:List V) (parts:List (Nat × Nat × A)) (n:Nat)
 | load (g:Option Nat) (x:A)
 | store (sz:Nat) (a x:A)
 | nilCheck (x:A)
 | fieldAddr (off:Nat) (x:A)
 | idxSl (sz:Nat) (x i:A)
 | idxArr (len sz:Nat) (x i:A)
 | part (g:Option Nat) (off:Nat) (x:A)
 | idxStr (x i:A)
 | idxVal (g:Option Nat) (len sz:Nat) (x i:A)
 | slStr (x:A) (lo hi:Option A)
 | slSl (sz:Nat) (x:A) (lo hi:Option A)
 | slArr (len sz:Nat) (x:A) (lo hi:Option A)
 | lenStr (x:A)
 | lenSl (x:A)
 | lenMap (x:A)
 | append (o:Bool) (sz bytes:Nat) (s x:A)
 | extract (x:A) (i:Nat)
 | mkFn (f:Fn) (first captured:List A)
 | mkMap
 | lookup (q:LK) (zero:V) (ok:Bool) (m k:A)
 | mapSet (q:LK) (m k v:A)
 | mapDel (q:LK) (m k:A)
 | mapEnt (q:LK) (zero:V) (m k:A)
 | entSt (m i x:A)
 | range (isStr:Bool) (x:A)
 | nextStr (x:A)
 | nextMap (x:A)
 | entry (x:A)
 | iface (t:TypeId) (x:A)
 | assert (t:TypeId) (zero:V) (ok:Bool) (x:A)
 | conv (k:IntKind) (x:A)
 | convId (x:A)
 | strOfBytes (x:A)
 | strOfInt (x:A)
 | runesOfStr (x:A)
 | bytesOfStr (x:A)
 | mkSl (o:Bool) (sz bytes:Nat) (zero:List V) (l c:A)
 | minmax (isMax:Bool) (xs:List A)
 | copy (sz:Nat) (d s:A)
 | clear (sz:Nat) (zero:List V) (x:A)
 | ext (k:ExtK) (xs:List A)
 | call (f:FuncId) (xs:List A)
 | callV (f:A) (xs:List A)
 | stuck
 deriving Inhabited
def AOp.isCall:AOp→Bool
 | .call ..|.callV ..=>true
 | _=>false
def AOp.isNext:AOp→Bool
 | .nextMap _=>true
 | _=>false
structure AOpr where
 dst:Option Nat
 op:AOp
 guard:Option (Nat × Bool)
 nm:Bool
 deriving Inhabited
inductive C where
 | skip
 | region (ops:List AOpr)
 | draw (ops:List AOpr) (free:List (Nat × Nat))
 | pin (o:AOpr) (fs:List AOpr)
 | seq (a b:C)
 | cond (c:A) (a b:C)
 | block (id:Nat) (a:C)
 | loop (a:C)
 | exit (id:Nat)
 | ret
 | rangeFunc (f:A) (ps:List Nat) (asg bd:C)
 | stuck
 deriving Inhabited
inductive ARes where
 | t (n:Nat)
 | cell (n:Nat) (g:Option Nat)
 deriving Inhabited
structure AF where
 body:C
 res:List ARes
 deriving Inhabited
structure Env where
 fc:FuncId→Option AF
 fs:FuncId→Option AF
 sh:Bool→FuncId→Bool
 fz:FuncId→Bool
 tw:FuncId→Bool
 gl:Nat→Option (List V)
 srt:FuncId→Bool:=fun _=>false
 mn:FuncId→Bool:=fun _=>false
 nw:FuncId→Option (List V):=fun _=>none
def upd {α:Type}(f:Nat→α) (k:Nat) (v:α):Nat→α:=fun n=>cond (Nat.beq n k) v (f n)
@[simp] theorem Yg {α:Type}(f:Nat→α) (k:Nat) (v:α):upd f k v k=v:=by simp[upd,Nat.beq_refl]
theorem J9 {α:Type}(f:Nat→α) {k n:Nat}(v:α) (h:n≠k):upd f k v n=f n:=by
 have:Nat.beq n k=false:=by
  cases hb:Nat.beq n k with
  | false=>rfl
  | true=>exact absurd (Nat.eq_of_beq_eq_true hb) h
 simp[upd,this]
theorem j5 {α:Type}(f:Nat→α) (k:Nat) (v:α) (n:Nat):upd f k v n=if n=k then v else f n:=by
 by_cases h:n=k
 ·subst h;simp
 ·rw[J9 f v h,if_neg h]
abbrev ZO:=Nat→Option Obj'
structure St where
 tm:Nat→V
 ob:ZO
 tk:Nat→Bool
 ro:Nat
 nx:Nat
 fb:Nat
 df:List (Nat × Nat)
def jm:V:=.tup []
def eval (E:Env) (tm:Nat→V):A→V
 | .t n=>tm n
 | .c v=>v
 | .g n=>match E.gl n with
  | some cs=>.eptr cs 0
  | none=>.undef
structure Delta where
 v:V
 obs:List (Nat × Obj'):=[]
 del:Option Nat:=none
 add:List Nat:=[]
 kill:List Nat:=[]
def one (v:V):Option Delta:=some { v }
def XQ (op:BinOp) (k:IntKind) (x y:Int):Option V :=
 match op with
 | .add=>some (.int k (k.wrap (x+y)))
 | .sub=>some (.int k (k.wrap (x - y)))
 | .mul=>some (.int k (k.wrap (x*y)))
 | .quo=>if y=0 then none else some (.int k (k.wrap (x.tdiv y)))
 | .rem=>if y=0 then none else some (.int k (x.tmod y))
 | .and=>some (.int k (k.wrap (BitVec.ofInt k.bits x &&& BitVec.ofInt k.bits y).toNat))
 | .or=>some (.int k (k.wrap (BitVec.ofInt k.bits x ||| BitVec.ofInt k.bits y).toNat))
 | .xor=>some (.int k (k.wrap (BitVec.ofInt k.bits x ^^^ BitVec.ofInt k.bits y).toNat))
 | .andNot=>some (.int k (k.wrap (BitVec.ofInt k.bits x &&& ~~~ BitVec.ofInt k.bits y).toNat))
 | .eql=>some (.bool (x == y))
 | .neq=>some (.bool (x != y))
 | .lss=>some (.bool (x<y))
 | .leq=>some (.bool (x≤y))
 | .gtr=>some (.bool (x > y))
 | .geq=>some (.bool (x ≥ y))
 | _=>none
def QN (op:BinOp) (k:IntKind) (x y:Int):Option V :=
 if y<0 then none else
 match op with
 | .shl=>some (.int k (k.wrap (x*2 ^ (min y.toNat k.bits))))
 | .shr=>some (.int k (x.fdiv (2 ^ (min y.toNat k.bits))))
 | _=>none
def jip (op:BinOp) (x y:List UInt8):Option V :=
 match op with
 | .add=>if x.length+y.length≤9223372036854775807 then some (.str (x++y)) else none
 | .eql=>some (.bool (x == y))
 | .neq=>some (.bool (!(x == y)))
 | .lss=>some (.bool (Op.bytesLess x y))
 | .leq=>some (.bool (Op.bytesLess x y || x == y))
 | .gtr=>some (.bool (!(Op.bytesLess x y || x == y)))
 | .geq=>some (.bool (!(Op.bytesLess x y)))
 | _=>none
def Wq:LK→V→V→Option Bool
 | .bool,.bool a,.bool b=>some (a == b)
 | .int,.int k a,.int k' b=>if k=k' then some (a == b) else none
 | .str,.str a,.str b=>some (a == b)
 | _,_,_=>none
def JV:List LK→List V→List V→Option Bool
 | [],[],[]=>some true
 | k::l,a::x,b::y=>(Wq k a b).bind fun r=>(JV l x y).map fun q=>r && q
 | _,_,_=>none
def eqV:EqK→V→V→Option Bool
 | .bool,.bool a,.bool b=>some (a == b)
 | .ptr,.nilptr,.nilptr=>some true
 | .ptr,.ptr ..,.nilptr|.ptr,.nilptr,.ptr ..|.ptr,.eptr ..,.nilptr|.ptr,.nilptr,.eptr ..=>some false
 | .sl,.sl _ nl _ _,.sl _ true 0 []=>some nl
 | .map,.nilmap,.nilmap=>some true
 | .map,.map ..,.nilmap=>some false
 | .fn,.nilfn,.nilfn=>some true
 | .fn,.fn ..,.nilfn=>some false
 | .iface,.nilif,.nilif=>some true
 | .iface,.iface ..,.nilif|.iface,.nilif,.iface ..=>some false
 | .struct l,.agg a,.agg b=>JV l a b
 | _,_,_=>none
def Y9 (op:BinOp) (x y:V):Option V :=
 match x,y with
 | .int k a,.int k' b=>
  match op with
  | .shl|.shr=>QN op k a b
  | _=>if k=k' then XQ op k a b else none
 | .str a,.str b=>jip op a b
 | _,_=>none
def unV (op:UnOp) (x:V):Option V :=
 match op,x with
 | .not,.bool b=>some (.bool (!b))
 | .neg,.int k n=>some (.int k (k.wrap (0 - n)))
 | .xor,.int k n=>XQ .xor k (if k.signed then -1 else k.max) n
 | _,_=>none
def YH (g:Option Nat) (cs:List V) (off:Nat):Option V :=
 match g with
 | some n=>if off+n≤cs.length then some (.agg ((cs.drop off).take n)) else none
 | none=>cs[off]?
def j6 (cs:List V) (off:Nat) (vs:List V):List V:=cs.take off++vs++cs.drop (off+vs.length)
def j1 (ob:ZO) (l u:Nat):Option (List V) :=
 match ob l with
 | some ⟨u',.cells cs⟩=>if u'=u then some cs else none
 | _=>none
def jR (ob:ZO) (l u:Nat):Option (List (V × V)) :=
 match ob l with
 | some ⟨u',.mp _ es⟩=>if u'=u then some es else none
 | _=>none
abbrev jlo:Nat:=1000000000000
def jd (ob:ZO) (l:Nat):Nat :=
 match ob l with
 | some ⟨_,.mp ver _⟩=>ver
 | _=>0
def jI (ob:ZO) (sz:Nat):V→Option (List V)
 | .sl _ _ n cs=>if cs.length=n*sz then some cs else none
 | .osl l u off n sz'=>if sz'=sz then (j1 ob l u).bind fun cs=>if off+n*sz≤cs.length then some ((cs.drop off).take (n*sz)) else none else none
 | _=>none
def fill (cs:List V):List (Nat × Nat × V)→Option (List V)
 | []=>some cs
 | (off,sz,v)::rest=>
  if v.cells.length=sz∧off+sz≤cs.length∧v.cells.all V.leaf=true then fill (j6 cs off v.cells) rest else none
def jq (ρ:A→V) (ps:List (Nat × Nat × A)):List (Nat × Nat × V):=ps.map fun(o,s,x)=>(o,s,ρ x)
def X6 (len cap:Nat) (lo hi:Option V):Option (Nat × Nat) :=
 let h:=match hi with
  | some (.int _ h)=>if 0≤h∧h≤cap then some h.toNat else none
  | some _=>none
  | none=>some len
 h.bind fun h=>match lo with
  | some (.int _ l)=>if 0≤l∧l≤h then some (l.toNat,h) else none
  | some _=>none
  | none=>some (0,h)
def findKey (q:LK) (k:V):List (V × V)→Option (Option (Nat × V))
 | []=>some none
 | (k',v)::es=>match Wq q k k' with
  | some true=>some (some (0,v))
  | some false=>(findKey q k es).map fun r=>r.map fun(i,v)=>(i+1,v)
  | none=>none
def QB:LK→V→Bool
 | .bool,.bool _=>true
 | .int,.int _ _=>true
 | .str,.str _=>true
 | _,_=>false
def V.pureLeaf:V→Bool
 | .undef|.tup _|.ptr ..|.osl ..|.map ..|.iter ..|.agg _|.fn ..|.yld ..=>false
 | .sl t _ _ _=>t.isNone
 | .iface _ v=>match v with|.bool _|.int ..|.str _|.agg []=>true|_=>false
 | _=>true
def V.pureTop:V→Bool
 | .agg cs=>cs.all V.pureLeaf
 | .fn _ first captured=>(first++captured).all fun c=>match c with
  | .agg cs=>cs.all V.pureLeaf
  | c=>c.pureLeaf
 | v=>v.pureLeaf
def V.strip1:V→V
 | .sl _ nl n cs=>.sl none nl n cs
 | v=>v
def V.strip:V→V
 | .sl _ nl n cs=>.sl none nl n cs
 | .agg cs=>.agg (cs.map V.strip1)
 | .fn f first captured=>.fn f (first.map fun c=>match c with|.agg cs=>.agg (cs.map V.strip1)|c=>c.strip1)
  (captured.map fun c=>match c with|.agg cs=>.agg (cs.map V.strip1)|c=>c.strip1)
 | v=>v
def V.tok:V→List Nat
 | .sl (some (u,_)) _ _ _=>[u]
 | .osl _ u _ _ _=>[u]
 | _=>[]
def V.toks:V→List Nat
 | .agg cs=>cs.flatMap V.tok
 | v=>v.tok
def nodup:List Nat→Bool
 | []=>true
 | a::l=>!(l.any fun b=>Nat.beq a b) && nodup l
def Jm (st:St):Nat→V→Option V
 | 0,_=>none
 | k+1,v=>match v with
  | .sl (some _) nl n cs=>some (.sl none nl n cs)
  | .osl l u off n sz=>(j1 st.ob l u).bind fun cs=>if Nat.ble st.ro u=true∧off+n*sz≤cs.length then
   (((cs.drop off).take (n*sz)).mapM (Jm st k)).map fun cs'=>.sl none false n cs' else none
  | v=>if v.pureLeaf then some v else none
def jr (st:St) (keep:Bool) (i:Nat):V→Option V
 | .sl (some (u,z)) nl n cs=>some (.sl (if keep && st.tk u then some (i,z) else none) nl n cs)
 | .osl l u off n sz=>(Jm st 6 (.osl l u off n sz)).bind fun v=>match v with
  | .sl _ nl n' cs=>(j1 st.ob l u).map fun cs0=>.sl (if keep && Nat.beq off 0 && Nat.blt 0 n && Nat.beq (n*sz) cs0.length then some (i,sz) else none) nl n' cs
  | _=>none
 | v=>Jm st 6 v
def Xc (st:St) (keep:Bool):Nat→List V→Option (List V)
 | _,[]=>some []
 | i,v::vs=>(jr st keep i v).bind fun x=>(Xc st keep (i+1) vs).map (x::·)
def Xv (st:St) (keep:Bool) (i:Nat):V→Option V
 | .agg cs=>(Xc st keep i cs).map .agg
 | .fn f first captured=>if (V.fn f first captured).strip.pureTop then some (V.fn f first captured).strip else none
 | v=>jr st keep i v
def JU (st:St) (keep:Bool):Nat→List V→Option (List V)
 | _,[]=>some []
 | i,v::vs=>(Xv st keep i v).bind fun x=>(JU st keep (i+16) vs).map (x::·)
def Wp (st:St) (vs:List V):Option V :=
 (JU st (nodup (vs.flatMap V.toks)) 0 vs).bind fun l=>if nodup (l.flatMap V.toks) then (match l with
  | [v]=>some v
  | l=>some (.tup l)) else none
def YD (ub:Nat):V→V
 | .sl (some (i,z)) nl n cs=>.sl (some (ub+i,z)) nl n cs
 | v=>v
def jb8 (ub:Nat):V→V
 | .agg cs=>.agg (cs.map (YD ub))
 | v=>YD ub v
def jb9 (ub:Nat):V→V
 | .tup vs=>.tup (vs.map (jb8 ub))
 | v=>jb8 ub v
def toksRes:V→List Nat
 | .tup vs=>vs.flatMap V.toks
 | v=>v.toks
def Jh (d ub:Nat) (b:OBody) (v:V):Option Delta:=some { v,obs:=[(d,⟨ub,b⟩)] }
def YB (ub:Nat) (r:V):Option Delta :=
 if (toksRes r).all (fun i=>Nat.blt i 64) then some { v:=jb9 ub r,add:=(toksRes r).map (ub + ·) } else none
def jch (call:FuncId→List V→Option V) (ub:Nat) (f:FuncId) (xs:List V):Option Delta :=
 if xs.all V.pureTop then (call f xs).bind (YB ub) else none
def jho (isMax:Bool):V→V→Option V
 | .int k x,.int k' y=>if k=k' then some (.int k (if isMax then (if y > x then y else x) else (if y<x then y else x))) else none
 | _,_=>none
def Q6 (isMax:Bool):V→List V→Option V
 | x,[]=>some x
 | x,y::ys=>(jho isMax x y).bind fun z=>Q6 isMax z ys
def jcp (n:Nat) (z:List V):List V:=(List.range (n*z.length)).map fun i=>z.getD (i % z.length) .undef
def jca:List UInt8→UInt8→Int
 | [],_=>-1
 | b::l,c=>if b == c then 0 else if jca l c == -1 then -1 else jca l c+1
def j3q:ExtK→List V→Option Delta
 | .count,[.str s,.int .u8 c]=>one (.int .i64 (s.count c.toNat.toUInt8:Nat))
 | .indexByte,[.str s,.int .u8 c]=>one (.int .i64 (jca s c.toNat.toUInt8))
 | _,_=>none
def XK (s:List UInt8):Nat→Nat→List Nat
 | 0,_=>[]
 | b+1,i=>if i<s.length then (Utf8.decode ⟨s.toArray⟩ i).1::XK s b (i+(Utf8.decode ⟨s.toArray⟩ i).2) else []
def aop (call:FuncId→List V→Option V) (ρ:A→V) (ob:ZO) (tk:Nat→Bool) (ro d ub:Nat):AOp→Option Delta
 | .mov x=>one (ρ x)
 | .pick c a b=>match ρ c with
  | .bool t=>one (cond t (ρ a) (ρ b))
  | _=>none
 | .bin op x y=>(Y9 op (ρ x) (ρ y)).bind one
 | .eq neg k x y=>match k,ρ x,ρ y with
  | .ptr,.ptr l u off,.ptr l' u' off'=>if (j1 ob l u).isSome && (j1 ob l' u').isSome then one (.bool (xor neg (Nat.beq l l' && Nat.beq off off'))) else none
  | k,a,b=>(eqV k a b).bind fun b=>one (.bool (xor neg b))
 | .un op x=>(unV op (ρ x)).bind one
 | .alloc zero=>Jh d ub (.cells zero) (.ptr d ub 0)
 | .box sz x=>if (ρ x).cells.length=sz∧(ρ x).cells.all V.leaf=true then Jh d ub (.cells (ρ x).cells) (.ptr d ub 0) else none
 | .build zero parts=>(fill zero (jq ρ parts)).bind fun cs=>one (.agg cs)
 | .buildSl o sz zero parts n=>(fill zero (jq ρ parts)).bind fun cs=>
  if o then (if cs.length=n*sz∧cs.all V.leaf=true then Jh d ub (.cells cs) (.osl d ub 0 n sz) else none) else if cs.length=n*sz∧(cs.map V.strip1).all V.pureLeaf=true then some { v:=.sl (some (ub,sz)) false n (cs.map V.strip1),add:=[ub] } else none
 | .load g x=>match ρ x with
  | .eptr cs off=>(YH g cs off).bind one
  | .ptr l u off=>(j1 ob l u).bind fun cs=>(YH g cs off).bind one
  | _=>none
 | .store sz a x=>match ρ a with
  | .ptr l u off=>(j1 ob l u).bind fun cs=>
   if Nat.ble ro u=true∧(ρ x).cells.length=sz∧off+sz≤cs.length∧(ρ x).cells.all V.leaf=true then
    some { v:=jm,obs:=[(l,⟨u,.cells (j6 cs off (ρ x).cells)⟩)] } else none
  | _=>none
 | .nilCheck x=>match ρ x with
  | .ptr l u o=>one (.ptr l u o)
  | .eptr cs o=>one (.eptr cs o)
  | .fn (.func f) a b=>one (.fn (.func f) a b)
  | _=>none
 | .fieldAddr off x=>match ρ x with
  | .ptr l u o=>one (.ptr l u (o+off))
  | .eptr cs o=>one (.eptr cs (o+off))
  | _=>none
 | .idxSl sz x i=>match ρ x,ρ i with
  | .sl _ _ n cs,.int _ i=>if 0≤i∧i<n∧cs.length=n*sz then one (.eptr cs (i.toNat*sz)) else none
  | .osl l u off n sz',.int _ i=>if 0≤i∧i<n∧sz'=sz then one (.ptr l u (off+i.toNat*sz)) else none
  | _,_=>none
 | .idxArr len sz x i=>match ρ x,ρ i with
  | .ptr l u off,.int _ i=>if 0≤i∧i<len then one (.ptr l u (off+i.toNat*sz)) else none
  | .eptr cs off,.int _ i=>if 0≤i∧i<len then one (.eptr cs (off+i.toNat*sz)) else none
  | _,_=>none
 | .part g off x=>match ρ x with
  | .agg cs=>(YH g cs off).bind one
  | _=>none
 | .idxStr x i=>match ρ x,ρ i with
  | .str s,.int _ i=>if 0≤i then (s[i.toNat]?).bind fun b=>one (.int .u8 b.toNat) else none
  | _,_=>none
 | .idxVal g len sz x i=>match ρ x,ρ i with
  | .agg cs,.int _ i=>if 0≤i∧i<len then (YH g cs (i.toNat*sz)).bind one else none
  | _,_=>none
 | .slStr x lo hi=>match ρ x with
  | .str s=>(X6 s.length s.length (lo.map ρ) (hi.map ρ)).bind fun(l,h)=>one (.str ((s.take h).drop l))
  | _=>none
 | .slSl sz x lo hi=>match ρ x with
  | .sl _ nl n cs=>if cs.length=n*sz then (X6 n n (lo.map ρ) (hi.map ρ)).bind fun(l,h)=>one (.sl none nl (h - l) ((cs.take (h*sz)).drop (l*sz))) else none
  | .osl a u off n sz'=>if sz'=sz then (X6 n n (lo.map ρ) (hi.map ρ)).bind fun(l,h)=>one (.osl a u (off+l*sz) (h - l) sz) else none
  | _=>none
 | .slArr len sz x lo hi=>match ρ x with
  | .ptr a u off=>(j1 ob a u).bind fun cs=>if off+len*sz≤cs.length then (X6 len len (lo.map ρ) (hi.map ρ)).bind fun(l,h)=>one (.osl a u (off+l*sz) (h - l) sz) else none
  | _=>none
 | .lenStr x=>match ρ x with
  | .str s=>one (.int .i64 s.length)
  | _=>none
 | .lenSl x=>match ρ x with
  | .sl _ _ n _=>one (.int .i64 n)
  | .osl _ _ _ n _=>one (.int .i64 n)
  | _=>none
 | .lenMap x=>match ρ x with
  | .nilmap=>one (.int .i64 0)
  | .map l u=>(jR ob l u).bind fun es=>one (.int .i64 es.length)
  | _=>none
 | .append o sz bytes s x=>match ρ s with
  | .sl t nl n cs=>(jI ob sz (ρ x)).bind fun ys=>
   if ys=[] then (if cs.length=n*sz then one (.sl t nl n cs) else none) else
   if o && nl then
    (if 0<sz∧ys.all V.leaf=true∧(ys.length / sz)*bytes≤140737488355328∧ys.length / sz≤140737488355328 then Jh d ub (.cells ys) (.osl d ub 0 (ys.length / sz) sz) else none) else
   if cs.length=n*sz∧0<sz∧ys.all V.pureLeaf=true∧(n+ys.length / sz)*bytes≤140737488355328∧n+ys.length / sz≤140737488355328 then
    match t with
    | some (u,z)=>if tk u=true∧z=sz then some { v:=.sl (some (ub,sz)) false (n+ys.length / sz) (cs++ys),del:=some u,add:=[ub] } else none
    | none=>if nl then some { v:=.sl (some (ub,sz)) false (n+ys.length / sz) (cs++ys),add:=[ub] } else none
   else none
  | .osl l u off n sz'=>(jI ob sz (ρ x)).bind fun ys=>(j1 ob l u).bind fun cs=>
   if ys=[] then one (.osl l u off n sz') else
   if Nat.ble ro u=true∧sz'=sz∧off=0∧n*sz≤cs.length∧0<sz∧ys.all V.leaf=true∧(n+ys.length / sz)*bytes≤140737488355328∧n+ys.length / sz≤140737488355328 then
    some { v:=.osl d ub 0 (n+ys.length / sz) sz,obs:=[(d,⟨ub,.cells (cs.take (n*sz)++ys)⟩)],kill:=[l] } else none
  | _=>none
 | .extract x i=>match ρ x with
  | .tup vs=>(vs[i]?).bind one
  | _=>none
 | .mkFn f first captured=>one (.fn f (first.map ρ) (captured.map ρ))
 | .mkMap=>Jh d ub (.mp 0 []) (.map d ub)
 | .lookup q zero ok m k=>
  let fin (r:Option (Nat × V)):Option Delta:=match r with
   | some (_,v)=>one (if ok then .tup [v,.bool true] else v)
   | none=>one (if ok then .tup [zero,.bool false] else zero)
  if QB q (ρ k) then match ρ m with
  | .nilmap=>fin none
  | .map l u=>(jR ob l u).bind fun es=>(findKey q (ρ k) es).bind fin
  | _=>none else none
 | .mapSet q m k v=>if QB q (ρ k) then match ρ m with
  | .map l u=>if Nat.ble ro u then (jR ob l u).bind fun es=>(findKey q (ρ k) es).bind fun r=>match r with
   | some (i,_)=>some { v:=jm,obs:=[(l,⟨u,.mp (jd ob l+1) (es.set i (ρ k,(ρ v).strip))⟩)] }
   | none=>some { v:=jm,obs:=[(l,⟨u,.mp (jd ob l+1) (es++[(ρ k,(ρ v).strip)])⟩)] }
   else none
  | _=>none else none
 | .mapDel q m k=>if QB q (ρ k) then match ρ m with
  | .nilmap=>one jm
  | .map l u=>if Nat.ble ro u then (jR ob l u).bind fun es=>(findKey q (ρ k) es).bind fun r=>match r with
   | some (i,_)=>some { v:=jm,obs:=[(l,⟨u,.mp (jd ob l+jlo) (es.eraseIdx i)⟩)] }
   | none=>some { v:=jm,obs:=[(l,⟨u,.mp (jd ob l+1) es⟩)] }
   else none
  | _=>none else none
 | .mapEnt q zero m k=>if QB q (ρ k) then match ρ m with
  | .map l u=>if Nat.ble ro u && Nat.blt (jd ob l) jlo then (jR ob l u).bind fun es=>(findKey q (ρ k) es).bind fun r=>match r with
   | some (i,v)=>some { v:=.tup [v,.int .i64 i],obs:=[(l,⟨u,.mp (jd ob l+1) (es.set i (ρ k,v))⟩)] }
   | none=>some { v:=.tup [zero,.int .i64 es.length],obs:=[(l,⟨u,.mp (jd ob l+1) (es++[(ρ k,zero)])⟩)] }
   else none
  | _=>none else none
 | .entSt m i x=>match ρ m,ρ i with
  | .map l u,.int .i64 (.ofNat n)=>if Nat.ble ro u && Nat.blt (jd ob l) jlo then (jR ob l u).bind fun es=>match es[n]? with
   | some (k,_)=>some { v:=jm,obs:=[(l,⟨u,.mp (jd ob l+1) (es.set n (k,(ρ x).strip))⟩)] }
   | none=>none
   else none
  | _,_=>none
 | .range true x=>match ρ x with
  | .str s=>Jh d ub (.siter s 0) (.iter d ub)
  | _=>none
 | .range false x=>match ρ x with
  | .nilmap=>Jh d ub .nomap (.iter d ub)
  | .map l u=>(jR ob l u).bind fun es=>Jh d ub (.miter l u (jd ob l) es none) (.iter d ub)
  | _=>none
 | .nextMap _=>none
 | .entry x=>match ρ x with
  | .iter l u=>match ob l with
   | some ⟨u',.miter l' u2 ver _ (some (k,v))⟩=>if u'=u∧(jR ob l' u2).isSome=true∧jd ob l'=ver then one (.tup [k,v]) else none
   | _=>none
  | _=>none
 | .nextStr x=>match ρ x with
  | .iter l u=>match ob l with
   | some ⟨u',.siter s pos⟩=>if Nat.ble ro u∧u'=u then
    (if pos<s.length then some { v:=.tup [.bool true,.int .i64 pos,.int .i32 ((Utf8.decode ⟨s.toArray⟩ pos).1:Nat)],obs:=[(l,⟨u,.siter s (pos+(Utf8.decode ⟨s.toArray⟩ pos).2)⟩)] }
     else one (.tup [.bool false])) else none
   | _=>none
  | _=>none
 | .iface t x=>one (.iface t (ρ x))
 | .assert t zero ok x=>match ρ x with
  | .iface t' v=>if t'=t then one (if ok then .tup [v,.bool true] else v) else if ok then one (.tup [zero,.bool false]) else none
  | .nilif=>if ok then one (.tup [zero,.bool false]) else none
  | _=>none
 | .conv k x=>match ρ x with
  | .int _ n=>one (.int k (k.wrap n))
  | _=>none
 | .convId x=>match ρ x with
  | .str s=>one (.str s)
  | _=>none
 | .strOfBytes _=>none
 | .strOfInt _=>none
 | .runesOfStr x=>match ρ x with
  | .str s=>let rs:=XK s s.length 0
   if rs.length≤70368744177664 then some { v:=.sl (some (ub,1)) false rs.length (rs.map fun r=>.int .i32 (r:Nat)),add:=[ub] } else none
  | _=>none
 | .bytesOfStr _=>none
 | .mkSl o sz bytes zero l c=>match ρ l,ρ c with
  | .int .i64 l,.int .i64 c=>if 0≤l∧l≤c∧c*bytes≤140737488355328∧c≤140737488355328∧zero.length=sz∧0<sz then
   (if !o∧l=0 then some { v:=.sl (some (ub,sz)) false 0 [],add:=[ub] } else Jh d ub (.cells (jcp l.toNat zero)) (.osl d ub 0 l.toNat sz)) else none
  | _,_=>none
 | .minmax isMax xs=>match xs.map ρ with
  | []=>none
  | x::r=>(Q6 isMax x r).bind one
 | .copy sz x y=>(jI ob sz (ρ y)).bind fun ys=>match ρ x with
  | .osl l u off n sz'=>if Nat.ble ro u=true∧sz'=sz∧0<sz∧ys.all V.leaf=true then (j1 ob l u).bind fun cs=>
   if off+n*sz≤cs.length then some { v:=.int .i64 (Nat.min (ys.length / sz) n:Nat),obs:=[(l,⟨u,.cells (j6 cs off (ys.take (Nat.min (ys.length / sz) n*sz)))⟩)] } else none else none
  | .sl _ _ 0 []=>one (.int .i64 0)
  | _=>none
 | .clear sz zero x=>match ρ x with
  | .osl l u off n sz'=>if Nat.ble ro u=true∧sz'=sz∧zero.length=sz then (j1 ob l u).bind fun cs=>
   if off+n*sz≤cs.length then some { v:=jm,obs:=[(l,⟨u,.cells (j6 cs off (jcp n zero))⟩)] } else none else none
  | .sl _ _ 0 []=>one jm
  | _=>none
 | .ext k xs=>j3q k (xs.map ρ)
 | .call f xs=>jch call ub f (xs.map fun x=>(ρ x).strip)
 | .callV f xs=>match ρ f with
  | .fn (.func g) first captured=>jch call ub g ((first++xs.map ρ++captured).map V.strip)
  | _=>none
 | .stuck=>none
def ji2 (l u l' u' ver:Nat):List (V × V)→List (V × V)→List Delta
 | _,[]=>[]
 | pre,(k,v)::r=>{ v:=.tup [.bool true,k,v],obs:=[(l,⟨u,.miter l' u' ver (pre++r) (some (k,v))⟩)] }::ji2 l u l' u' ver (pre++[(k,v)]) r
def jhl (ob:ZO) (ro:Nat) (x:V):Option (List Delta) :=
 match x with
 | .iter l u=>match ob l with
  | some ⟨u0,.miter l' u' ver left _⟩=>if Nat.ble ro u=true∧u0=u∧(jR ob l' u').isSome=true∧jd ob l'=ver then (match left with
   | []=>some [{ v:=.tup [.bool false] }]
   | es=>some (ji2 l u l' u' ver [] es)) else none
  | some ⟨u0,.nomap⟩=>if u0=u then some [{ v:=.tup [.bool false] }] else none
  | _=>none
 | _=>none
def put (tm:Nat→V) (d:Option Nat) (v:V):Nat→V :=
 match d with
 | some d=>upd tm d v
 | none=>tm
def JK (ob:ZO):List (Nat × Obj')→ZO
 | []=>ob
 | (l,o)::r=>upd (JK ob r) l (some o)
def XT (tk:Nat→Bool) (b:Bool):List Nat→Nat→Bool
 | []=>tk
 | u::r=>upd (XT tk b r) u b
def St.app (st:St) (dst:Option Nat) (δ:Delta):St :=
 { st with tm:=put st.tm dst δ.v,ob:=JK (fun k=>if δ.kill.any (Nat.beq k) then none else st.ob k) δ.obs,tk:=XT (XT st.tk false δ.del.toList) true δ.add }
def wanted (o:AOpr) (tm:Nat→V):Option Bool :=
 match o.guard with
 | none=>some true
 | some (t,b)=>match tm t with
  | .bool b'=>some (b' == b)
  | .tup []=>some false
  | _=>none
def AOpr.name (o:AOpr) (fb ub:Nat):Nat:=cond o.nm (2*ub+1) (2*(fb+o.dst.getD 0))
abbrev Y:=Nat→Nat→List V→(ZO)→(Nat→Bool)→Nat→Nat→Option (V × (ZO) × (Nat→Bool) × Nat)
def noY:Y:=fun _ _ _ _ _ _ _=>none
structure Callers where
 d:FuncId→List V→Option V
 o:FuncId→List V→(ZO)→(Nat→Bool)→Nat→Nat→Option V
 s:FuncId→List V→(ZO)→(Nat→Bool)→Nat→Nat→Nat→Option (List (V × (ZO) × (Nat→Bool) × Nat))
 y:Y
def jD (E:Env) (nm:Bool) (ρ:A→V):AOp→Option (FuncId × List V)
 | .call f xs=>if !E.sh nm f && xs.all fun x=>(ρ x).strip.pureTop then none else some (f,xs.map ρ)
 | .callV f xs=>match ρ f with
  | .fn (.func g) first captured=>if !E.sh nm g && (first++xs.map ρ++captured).all fun v=>v.strip.pureTop then none else some (g,first++xs.map ρ++captured)
  | _=>none
 | _=>none
def jj (ρ:A→V):AOp→Option (Nat × Nat × List V)
 | .callV f xs=>match ρ f with
  | .yld l u=>some (l,u,xs.map ρ)
  | _=>none
 | _=>none
def AOp.next?:AOp→Option A
 | .nextMap x=>some x
 | _=>none
def AOp.far:AOp→Bool
 | .entry _|.nextMap _=>true
 | _=>false
def jcj (E:Env) (call:Callers) (o:AOpr) (st:St) (ub:Nat):Option (List (St × Nat)) :=
 match wanted o st.tm with
 | some true=>match jj (eval E st.tm) o.op with
  | some (l,u,xs)=>(call.y l u xs st.ob st.tk st.ro ub).map fun(r,ob,tk,ub')=>[({ st with tm:=put st.tm o.dst r,ob:=ob,tk:=tk },ub')]
  | none=>match jD E o.nm (eval E st.tm) o.op with
   | some (f,xs)=>if E.sh o.nm f then (call.s f xs st.ob st.tk st.ro ((st.fb+o.dst.getD 0+1)*1024) ub).map fun l=>l.map fun x=>({ st with tm:=put st.tm o.dst x.1,ob:=x.2.1,tk:=x.2.2.1 },x.2.2.2)
    else ((call.o f xs st.ob st.tk ((st.fb+o.dst.getD 0+1)*1024) ub).bind (YB ub)).map fun δ=>[(st.app o.dst δ,ub+64)]
   | none=>match o.op.next? with
    | some x=>(jhl st.ob st.ro (eval E st.tm x)).map fun l=>l.map fun δ=>(st.app o.dst δ,ub+64)
    | none=>(aop call.d (eval E st.tm) st.ob st.tk st.ro (o.name st.fb ub) ub o.op).map fun δ=>[(st.app o.dst δ,ub+64)]
 | some false=>some [({ st with tm:=put st.tm o.dst jm },ub)]
 | none=>none
def Qt {α β:Type}(f:α→Option (List β)):List α→Option (List β)
 | []=>some []
 | [x]=>f x
 | x::y::r=>(f x).bind fun a=>(Qt f (y::r)).map (a++·)
def bindL {α β:Type}(m:Option (List α)) (f:α→Option (List β)):Option (List β):=m.bind (Qt f)
def jhh (E:Env) (call:Callers):List AOpr→St→Nat→Option (List St)
 | [],st,ub=>some [{ st with nx:=ub }]
 | o::rest,st,ub=>bindL (jcj E call o st ub) fun x=>jhh E call rest x.1 x.2
def lOf:V→List Nat
 | .ptr l _ _|.osl l _ _ _ _|.map l _|.iter l _=>[l]
 | _=>[]
def uOf:V→List Nat
 | .sl (some (u,_)) _ _ _=>[u]
 | _=>[]
def rdOb (ρ:A→V):AOp→List Nat
 | .load _ x|.store _ x _|.lookup _ _ _ x _|.lenMap x|.mapSet _ x _ _|.mapDel _ x _|.mapEnt _ _ x _|.entSt x _ _|.nextStr x|.range _ x|.clear _ _ x|.slArr _ _ x _ _=>lOf (ρ x)
 | .append _ _ _ x y|.eq _ _ x y|.copy _ x y=>lOf (ρ x)++lOf (ρ y)
 | _=>[]
def rdTk (ρ:A→V):AOp→List Nat
 | .append _ _ _ s _=>uOf (ρ s)
 | _=>[]
def X5 (args:List V) (ob:ZO) (tk:Nat→Bool) (ro base ub:Nat):St:={ tm:=fun n=>args.getD n jm,ob:=ob,tk:=tk,ro:=ro,nx:=ub,fb:=base,df:=[] }
def WE (ob:ZO):V→Option V
 | .agg cs=>(cs.mapM (Jm (X5 [] ob (fun _=>false) 0 0 0) 6)).map .agg
 | .fn ..=>none
 | v=>Jm (X5 [] ob (fun _=>false) 0 0 0) 6 v
def V.scal:V→Bool
 | .bool _|.int _ _|.str _|.nilptr|.nilmap|.nilfn|.nilif=>true
 | .sl none nl n cs=>nl && n == 0 && cs.isEmpty
 | _=>false
def V.freeL:V→Bool
 | .sl (some _) _ _ cs=>cs.all V.scal
 | v=>v.scal
def V.freeT:V→Bool
 | .agg cs=>cs.all V.freeL
 | v=>v.freeL
def V.freeR:V→Bool
 | .tup vs=>vs.all V.freeT
 | v=>v.freeT
def jv1 (ob:ZO) (tk:Nat→Bool) (ub:Nat):V→Option (V × (ZO) × (Nat→Bool) × Nat)
 | .sl (some (_,z)) false n cs=>if cs.all V.scal then some (.osl (2*ub+1) ub 0 n z,upd ob (2*ub+1) (some ⟨ub,.cells cs⟩),tk,ub+64) else none
 | r=>if r.scal then some (r,ob,tk,ub+64) else none
def Qd (d ub:Nat):V→Option Delta
 | .sl (some (_,z)) false n cs=>if cs.all V.scal then some { v:=.osl d ub 0 n z,obs:=[(d,⟨ub,.cells cs⟩)] } else none
 | r=>if r.scal then some { v:=r } else none
def mkD (E:Env) (f:FuncId) (xs:List V) (d ub:Nat):Option Delta :=
 match E.nw f,xs with
 | some cs,[.sl none true 0 []]=>some { v:=.ptr d ub 0,obs:=[(d,⟨ub,.cells cs⟩)] }
 | _,_=>none
structure FP where
 ro:List Nat:=[]
 wo:List Nat:=[]
 rt:List Nat:=[]
 wt:List Nat:=[]
 all:Bool:=false
 seen:Nat→Bool:=fun _=>false
 nw:Bool:=false
def jc5 (x y:List Nat):Bool:=!(x.any fun a=>y.any fun b=>Nat.beq a b)
def QC (f g:FP):Bool:=jc5 f.wo g.ro && jc5 f.wo g.wo && jc5 f.ro g.wo && jc5 f.wt g.rt && jc5 f.wt g.wt && jc5 f.rt g.wt && (!f.all || g.wo.all fun l=>!f.seen l) && (!g.all || f.wo.isEmpty)
def Delta.wo (δ:Delta):List Nat:=δ.kill++δ.obs.map (·.1)
def Delta.wt (δ:Delta):List Nat:=δ.del.toList++δ.add
def jbe (ρ:A→V) (o:AOp) (δ:Delta):FP:={ ro:=rdOb ρ o,wo:=δ.wo,rt:=rdTk ρ o,wt:=δ.wt }
def Y8 (E:Env) (call:Callers):List AOpr→St→Nat→Option (List FP × St)
 | [],st,ub=>some ([],{ st with nx:=ub })
 | o::r,st,ub=>match wanted o st.tm with
  | some true=>match jD E o.nm (eval E st.tm) o.op with
   | some (f,xs)=>if E.sh o.nm f then (if E.tw f then (((xs.mapM (WE st.ob)).bind fun a'=>call.d f a').bind (Qd (o.name st.fb ub) ub)).bind fun δ=>
    (Y8 E call r (st.app o.dst δ) (ub+64)).map fun x=>({ wo:=δ.wo,all:=true,seen:=fun l=>(st.ob l).isSome,nw:=true }::x.1,x.2) else (mkD E f xs (o.name st.fb ub) ub).bind fun δ=>
    (Y8 E call r (st.app o.dst δ) (ub+64)).map fun x=>({ wo:=δ.wo,nw:=true }::x.1,x.2)) else
    ((call.o f xs st.ob st.tk ((st.fb+o.dst.getD 0+1) * 1024) (ub+64 * (r.length+1))).bind (YB ub)).bind fun δ =>
      (Y8 E call r (st.app o.dst δ) (ub+64)).map fun x=>({ wt:=δ.wt,all:=true,seen:=fun l=>(st.ob l).isSome }::x.1,x.2)
   | none=>if o.op.far then none else
    (aop call.d (eval E st.tm) st.ob st.tk st.ro (o.name st.fb ub) ub o.op).bind fun δ=>
     (Y8 E call r (st.app o.dst δ) (ub+64)).map fun x=>(jbe (eval E st.tm) o.op δ::x.1,x.2)
  | some false=>(Y8 E call r (st.app o.dst { v:=jm }) (ub+64)).map fun x=>({}::x.1,x.2)
  | none=>none
def Jo (free:List (Nat × Nat)) (fs:List FP):Bool:=free.all fun p=>QC (fs.getD p.1 {}) (fs.getD p.2 {})
def js4 (fs:List FP):Bool:=fs.all fun f=>!f.nw
def Q4 (f g:FP):Bool:=jc5 f.wo g.ro && jc5 f.wo g.wo && !g.all
def js8 (fs:List FP):Bool:=(List.range fs.length).all fun i=>!(fs.getD i {}).nw || (List.range fs.length).all fun j=>Nat.beq i j || Q4 (fs.getD i {}) (fs.getD j {})
def jad (fs:List FP):Bool:=js4 fs || js8 fs
def AOp.still:AOp→Bool
 | .mov _|.pick ..|.bin ..|.un ..|.eq ..|.load ..|.nilCheck _|.fieldAddr ..|.idxSl ..|.idxArr ..|.part ..|.idxVal ..|.lenStr _|.lenSl _|.lenMap _|.extract ..|.conv ..|.lookup ..|.minmax ..=>true
 | _=>false
def Yc (fs:List AOpr) (s s':St):Bool:=fs.all fun o=>match o.dst with|some d=>V.eqb (s.tm d) (s'.tm d)|none=>true
abbrev j4m:=Option (List (Ex × St))
def ja5 (body:St→j4m):Nat→St→j4m
 | 0,_=>none
 | n+1,st=>bindL (body st) fun x=>match x with
  | (.nrm,st')=>ja5 body n st'
  | (e,st')=>some [(e,st')]
def jdx (tm:Nat→V):List Nat→List V→Nat→V
 | p::ps,v::vs=>jdx (upd tm p v) ps vs
 | _,_=>tm
def Ql (fa fb:St→j4m) (st:St) (ps:List Nat) (l u:Nat):Y:=fun l' u' args ob tk ro ub=>
 if l'=l∧u'=u∧args.length=ps.length∧Nat.ble ro u=true then match ob l with
 | some ⟨u1,.loop .ready none⟩=>if u1=u then match fa { tm:=jdx st.tm ps args,ob,tk,ro,nx:=ub,fb:=st.fb,df:=[] } with
  | some [(.nrm,s1)]=>match s1.ob l with
   | some ⟨u2,.loop .ready none⟩=>if u2=u then match fb { s1 with ob:=upd s1.ob l (some ⟨u,.loop .busy none⟩) } with
    | some [(e,s2)]=>match s2.ob l with
     | some ⟨u3,.loop .busy none⟩=>if u3=u then (match e with
      | .nrm=>some (.bool true,upd s2.ob l (some ⟨u,.loop .ready none⟩),s2.tk,s2.nx)
      | e=>some (.bool false,upd s2.ob l (some ⟨u,.loop .done (some e)⟩),s2.tk,s2.nx)) else none
     | _=>none
    | _=>none else none
   | _=>none
  | _=>none else none
 | _=>none else none
def only {α:Type}:Option (List α)→Option α
 | some [x]=>some x
 | _=>none
def ja (E:Env) (call:Y→Callers) (y:Y) (N:Nat):C→St→j4m
 | .skip,st=>some [(.nrm,st)]
 | .region ops,st=>(jhh E (call y) ops st st.nx).map fun l=>l.map fun st'=>(.nrm,st')
 | .draw ops free,st=>(Y8 E (call y) ops st st.nx).bind fun x=>if Jo free x.1 && jad x.1 then some [(.nrm,x.2)] else none
 | .pin o fs,st=>bindL (jcj E (call y) o st st.nx) fun x=>(Y8 E (call y) fs x.1 x.2).bind fun p=>if Yc fs st p.2 then some [(.nrm,p.2)] else none
 | .seq a b,st=>bindL (ja E call y N a st) fun x=>match x with
  | (.nrm,st')=>ja E call y N b st'
  | (e,st')=>some [(e,st')]
 | .cond c a b,st=>match eval E st.tm c with
  | .bool true=>ja E call y N a st
  | .bool false=>ja E call y N b st
  | _=>none
 | .block id a,st=>(ja E call y N a st).map fun l=>l.map fun x=>match x with
  | (.exit i,st')=>if i=id then (.nrm,st') else (.exit i,st')
  | x=>x
 | .loop a,st=>ja5 (ja E call y N a) N st
 | .exit id,st=>some [(.exit id,st)]
 | .rangeFunc f ps asg bd,st=>match eval E st.tm f with
  | .fn (.func g) first captured=>
   (only ((call (Ql (ja E call y N asg) (ja E call y N bd) st ps (2*st.nx+1) st.nx)).s g (first++[.yld (2*st.nx+1) st.nx]++captured)
    (upd (upd st.ob (2*st.nx+3) (some ⟨st.nx+1,.dfr⟩)) (2*st.nx+1) (some ⟨st.nx,.loop .ready none⟩)) st.tk st.ro ((st.fb+1023)*1024) (st.nx+64))).bind fun(_,ob,tk,ub)=>
     match ob (2*st.nx+1) with
     | some ⟨u,.loop s pend⟩=>if u=st.nx∧s≠.busy∧Nat.ble st.ro st.nx=true then some [(pend.getD .nrm,{ st with ob:=fun k=>if Nat.beq (2*st.nx+1) k then none else ob k,tk:=tk,nx:=ub,df:=(2*st.nx+3,st.nx+1)::st.df })] else none
     | _=>none
  | _=>none
 | .stuck,_=>none
 | .ret,st=>some [(.ret,st)]
def jw (st:St):ARes→Option V
 | .t n=>some (st.tm n)
 | .cell n g=>match st.tm n with
  | .ptr l u off=>(j1 st.ob l u).bind fun cs=>YH g cs off
  | _=>none
def j0c (st:St):Bool:=st.df.all (fun x=>match st.ob x.1 with|some ⟨u,.dfr⟩=>Nat.beq u x.2 && Nat.ble st.ro u|_=>false) && nodup (st.df.map (·.1))
def St.noDf (st:St):St :=
 match st.df with
 | []=>st
 | df=>{ st with ob:=fun k=>if df.any (fun x=>Nat.beq x.1 k) then none else st.ob k,df:=[] }
def jce (res:List ARes):Ex × St→Option V
 | (.nrm,st)|(.ret,st)=>if j0c st then (res.mapM (jw st.noDf)).bind (Wp st.noDf) else none
 | _=>none
def Qf (args:List V):St:={ tm:=fun n=>args.getD n jm,ob:=fun _=>none,tk:=fun _=>false,ro:=0,nx:=0,fb:=0,df:=[] }
def jof (res:List ARes):Ex × St→Option (V × (ZO) × (Nat→Bool) × Nat)
 | (.nrm,st)|(.ret,st)=>if st.df.isEmpty then (res.mapM (jw st)).map fun l=>(match l with | [v]=>v|l=>.tup l,st.ob,st.tk,st.nx) else none
 | _=>none
def jzu (f:Ex × St→Option V):Option (List (Ex × St))→Option V
 | some (x::xs)=>(f x).bind fun r=>if xs.all fun y=>match f y with|some r'=>V.eqb r' r|none=>false then some r else none
 | _=>none
def int64?:V→Option Int
 | .int .i64 n=>some n
 | _=>none
def j3h (x:Int):List Int→List Int
 | []=>[x]
 | y::r=>if x≤y then x::y::r else y::j3h x r
def Yz:List Int→List Int
 | []=>[]
 | x::r=>j3h x (Yz r)
def jrl (ob:ZO) (tk:Nat→Bool) (ro ub:Nat):List V→Option (V × (ZO) × (Nat→Bool) × Nat)
 | [.osl l u off n sz]=>(j1 ob l u).bind fun cs=>if Nat.ble ro u=true∧sz=1∧off+n≤cs.length∧n≤1000000000 then
  (((cs.drop off).take n).mapM int64?).map fun zs=>(.tup [],upd ob l (some ⟨u,.cells (j6 cs off ((Yz zs).map (.int .i64)))⟩),tk,ub) else none
 | [.sl _ _ 0 []]=>some (.tup [],ob,tk,ub)
 | _=>none
def callers (E:Env):Nat→Y→Callers
 | 0,y=>{ d:=fun _ _=>none,o:=fun _ _ _ _ _ _=>none,s:=fun _ _ _ _ _ _ _=>none,y:=y }
 | n+1,y=>{
  d:=fun f args=>(E.fc f).bind fun af=>jzu (jce af.res) (ja E (callers E n) noY n af.body (Qf args))
  o:=fun f args ob _ base ub=>if E.fz f then (args.mapM (WE ob)).bind fun args'=>((callers E n noY).d f args').bind fun r=>if r.freeR then some r else none else
   (E.fs f).bind fun af=>jzu (jce af.res) (ja E (callers E n) noY n af.body (X5 args ob (fun _=>false) ub base ub))
  s:=fun f args ob tk ro base ub=>if E.tw f then (args.mapM (WE ob)).bind fun args'=>((callers E n noY).d f args').bind fun r=>(jv1 ob tk ub r).map fun x=>[x] else if E.srt f then (jrl ob tk ro ub args).map fun x=>[x] else
   (E.fs f).bind fun af=>(ja E (callers E n) y n af.body (X5 args ob tk ro base ub)).bind fun l=>if E.mn f then l.mapM (jof af.res) else match l with
    | [x]=>(jof af.res x).map fun r=>[r]
    | _=>none
  y:=y }
end Go.Pv
namespace Go.Pv
open Go
def ja0:Value→Option V
  | .bool b=>some (.bool b)
  | .int k n=>some (.int k n)
  | .string s=>some (.str s.data.toList)
  | .pointer none=>some .nilptr
  | .slice none 0 0=>some (.sl none true 0 [])
  | .map none=>some .nilmap
  | .nilFunc=>some .nilfn
  | .nilIface=>some .nilif
  | _=>none
def Yt:Value→Option V
  | .agg cs=>(cs.toList.mapM ja0).map .agg
  | v=>ja0 v
def opd:Operand→Option A
  | .tmp t=>some (.t t)
  | .const v=>(Yt v).map .c
  | .global g=>some (.g g)
  | .func f=>some (.c (.fn (.func f) [] []))
def opds (xs:Array Operand):Option (List A):=xs.toList.mapM opd
def Qe (P:Program) (t:TypeId):Option Nat:=(P.info? t).map (·.size)
def Yw (P:Program) (t:TypeId):Option (List V):=(P.info? t).bind fun i=>i.zero.bind fun z=>z.cells.toList.mapM ja0
def jct:TypeDesc→Bool
  | .struct _|.array _ _=>true
  | _=>false
def jd4 (P:Program) (t:TypeId):Option (Option Nat) :=
  (P.underlying t).bind fun d=>if jct d then (Qe P t).map some else some none
def jcd (P:Program) (s:TypeId) (f:Nat):Option Field :=
  match P.underlying s with
  | some (.struct fs)=>fs[f]?
  | _=>none
def jtm (P:Program) (t:TypeId):Option LK :=
  match P.underlying t with
  | some .bool=>some .bool
  | some (.int _)=>some .int
  | some .string=>some .str
  | _=>none
def eqFs (rec:TypeId→Option (List LK)) (P:Program):Nat→List Field→Option (List LK)
  | _,[]=>some []
  | off,f::r=>if f.name = "_" ∨f.offset≠off then none else
    (rec f.type).bind fun l=>if Qe P f.type=some l.length then (eqFs rec P (off+l.length) r).map (l++·) else none
def eqTs (P:Program):Nat→TypeId→Option (List LK)
  | 0,_=>none
  | d+1,t=>
    match P.underlying t with
    | some .bool=>some [.bool]
    | some (.int _)=>some [.int]
    | some .string=>some [.str]
    | some (.struct fs)=>if P.stoodInHeld t then none else eqFs (eqTs P d) P 0 fs.toList
    | _=>none
def eqK (P:Program) (t:TypeId) (x y:Operand):Option EqK :=
  match P.underlying t with
  | some .bool=>some .bool
  | some (.pointer e)=>match Qe P e with
    | some (_+1)=>some .ptr
    | _=>none
  | some (.slice _)=>some .sl
  | some (.map _ _)=>some .map
  | some (.func ..)=>some .fn
  | some (.interface _)=>(match x,y with|.const _,_|_,.const _=>some .iface|_,_=>none)
  | some (.struct _)=>if P.eqGuardType P.depth t then none else (eqTs P 8 t).map .struct
  | _=>none
def jnz (P:Program) (t:TypeId):Bool :=
  match P.underlying t with
  | some .string|some (.int _)=>true
  | _=>false
def YZ (place:Nat→Option (Nat × Nat)) (ps:Array (Nat × Operand)):Option (List (Nat × Nat × A)) :=
  ps.toList.mapM fun(i,x)=>(place i).bind fun(o,s)=>(opd x).map fun a=>(o,s,a)
def Yv (x:Option Operand):Option (Option A) :=
  match x with
  | none=>some none
  | some x=>(opd x).map some
def je4 (P:Program) (o:Bool) (b:Builtin) (args:Array Operand) (ats:Array TypeId):Option AOp :=
  match b with
  | .len=>(opds args).bind fun l=>match l,(ats[0]?).bind P.underlying with
    | [x],some .string=>some (.lenStr x)
    | [x],some (.slice _)=>some (.lenSl x)
    | [x],some (.map _ _)=>some (.lenMap x)
    | _,_=>none
  | .append=>(opds args).bind fun l=>match l,ats.toList with
    | [s,x],[t,u]=>if t=u then match P.underlying t with
        | some (.slice e)=>(P.info? e).bind fun i=>i.zero.bind fun z=>if 0<i.size∧z.cells.size=i.size then some (.append o i.size i.bytes s x) else none
        | _=>none else none
    | _,_=>none
  | .min=>(opds args).map (.minmax false)
  | .max=>(opds args).map (.minmax true)
  | .copy=>(opds args).bind fun l=>match l,(ats[0]?).bind P.underlying with
    | [x,y],some (.slice e)=>(Qe P e).map fun s=>.copy s x y
    | _,_=>none
  | .clear=>(opds args).bind fun l=>match l,(ats[0]?).bind P.underlying with
    | [x],some (.slice e)=>(Qe P e).bind fun s=>(Yw P e).map fun z=>.clear s z x
    | _,_=>none
  | .delete=>(opds args).bind fun l=>match l,(ats[0]?).bind P.underlying with
    | [m,k],some (.map kt _)=>(jtm P kt).map fun q=>.mapDel q m k
    | _,_=>none
  | _=>none
def jyw (P:Program) (f:FuncId):Option ExtK :=
  (P.funcs[f]?).bind fun fn=>if fn.body.isSome∨fn.origin≠ "" then none else
    if fn.name = "internal/bytealg.CountString" then some .count else if fn.name = "internal/bytealg.IndexByteString" then some .indexByte else none
def QZ (P:Program) (o:Bool) (c:Call):Option AOp :=
  match c.callee with
  | .value (.func f)=>(opds c.args).map fun l=>match jyw P f with|some k=>.ext k l|none=>.call f l
  | .value x=>(opd x).bind fun a=>(opds c.args).map (.callV a)
  | .invoke _ _=>none
  | .builtin b=>(je4 P o b c.args c.argTypes).filter fun a=>!a.isCall && !a.isNext
def jl7 (P:Program) (o:Bool) (op:Op):Option AOp :=
  match op with
  | .move x|.assign x=>(opd x).map .mov
  | .pick c a b=>(opd c).bind fun c=>(opd a).bind fun a=>(opd b).map fun b=>.pick c a b
  | .alloc e=>(Yw P e).map .alloc
  | .box e x=>(Qe P e).bind fun n=>(opd x).map (.box n)
  | .build t ps=>(Yw P t).bind fun z=>match P.underlying t with
    | some (.struct fs)=>(fs.toList.mapM fun f=>(P.info? f.type).map fun i=>(f.offset,i.size)).bind fun places=>(YZ (places.toArray[·]?) ps).map (.build z)
    | some (.array _ e)=>(Qe P e).bind fun s=>(YZ (fun i=>some (i*s,s)) ps).map (.build z)
    | _=>none
  | .buildSlice t n ps=>match P.underlying t with
    | some (.slice e)=>(Qe   P e).bind fun s=>(Yw     P e).bind fun z =>
        if z.length=s∧0<s∧n*s≤16777216 then (YZ (fun i=>some (i*s,s)) ps).map fun l=>.buildSl o s (jcp n z) l n else none
    | _=>none
  | .load t x=>(jd4 P t).bind fun g=>(opd x).map (.load g)
  | .store t a x=>(Qe P t).bind fun s=>(opd a).bind fun a=>(opd x).map (.store s a)
  | .nilCheck x=>(opd x).map .nilCheck
  | .binOp op t x y _=>(opd x).bind fun x'=>(opd y).bind fun y'=>match op with
    | .eql=>if jnz P t then some (.bin .eql x' y') else (eqK P t x y).map fun k=>.eq false k x' y'
    | .neq=>if jnz P t then some (.bin .neq x' y') else (eqK P t x y).map fun k=>.eq true k x' y'
    | op=>some (.bin op x' y')
  | .unOp op _ x=>(opd x).map (.un op)
  | .convert s d x=>match P.underlying s,P.underlying d with
    | some (.int _),some (.int k)=>(opd x).map (.conv k)
    | some .string,some .string=>(opd x).map .convId
    | some .string,some (.slice e)=>match P.underlying e with
      | some (.int .i32)=>(opd x).map .runesOfStr
      | _=>none
    | _,_=>none
  | .makeInterface t x=>match P.underlying t with
    | some (.interface _)=>none
    | some _=>(opd x).map (.iface t)
    | none=>none
  | .makeFunc f a b=>(opds a).bind fun a=>(opds b).map (.mkFn f a)
  | .makeMap _ none=>some .mkMap
  | .makeSlice t l c=>match P.underlying t with
    | some (.slice e)=>(P.info? e).bind fun i=>(Yw P e).bind fun z=>(opd l).bind fun l=>(opd c).map fun c=>.mkSl o i.size i.bytes z l c
    | _=>none
  | .typeAssert x _ t ok=>match P.underlying t with
    | some (.interface _)=>none
    | some _=>(P.info? t).bind fun i=>i.zero.bind fun z=>(Yt z).bind fun z=>(opd x).map (.assert t z ok)
    | none=>none
  | .slice t x lo hi none=>(opd x).bind fun x=>(Yv lo).bind fun lo=>(Yv hi).bind fun hi=>match P.underlying t with
    | some .string=>some (.slStr x lo hi)
    | some (.slice e)=>(Qe P e).map fun s=>.slSl s x lo hi
    | some (.array n e)=>if n≤maxLen then (Qe P e).map fun s=>.slArr n s x lo hi else none
    | _=>none
  | .fieldAddr s x f=>(jcd P s f).bind fun f=>(Qe P f.type).bind fun n=>if n=0 then none else (opd x).map (.fieldAddr f.offset)
  | .field s x f=>(jcd P s f).bind fun f=>(jd4 P f.type).bind fun g=>(opd x).map (.part g f.offset)
  | .indexAddr t x i=>(opd x).bind fun x=>(opd i).bind fun i=>match P.underlying t with
    | some (.slice e)=>(Qe P e).bind fun s=>if s=0 then none else some (.idxSl s x i)
    | some (.array n e)=>(Qe P e).map fun s=>.idxArr n s x i
    | _=>none
  | .index t x i=>(opd x).bind fun x=>(opd i).bind fun i=>match P.underlying t with
    | some .string=>some (.idxStr x i)
    | some (.array n e)=>(Qe P e).bind fun s=>(jd4 P e).map fun g=>.idxVal g n s x i
    | _=>none
  | .lookup t m k ok=>match P.underlying t with
    | some (.map kt e)=>(jtm P kt).bind fun q=>(P.info? e).bind fun i=>i.zero.bind fun z=>(Yt z).bind fun z=>(opd m).bind fun m=>(opd k).map fun k=>.lookup q z ok m k
    | _=>none
  | .mapUpdate t m k v=>match P.underlying t with
    | some (.map kt _)=>(jtm P kt).bind fun q=>(opd m).bind fun m=>(opd k).bind fun k=>(opd v).map (.mapSet q m k)
    | _=>none
  | .insert t m k v=>match P.underlying t with
    | some (.map kt _)=>(jtm P kt).bind fun q=>(opd m).bind fun m=>(opd k).bind fun k=>(opd v).map (.mapSet q m k)
    | _=>none
  | .mapEntry t m k=>match P.underlying t with
    | some (.map kt e)=>(jtm P kt).bind fun q=>(P.info? e).bind fun i=>i.zero.bind fun z=>(Yt z).bind fun z=>(opd m).bind fun m=>(opd k).map fun k=>.mapEnt q z m k
    | _=>none
  | .entryStore _ m s x=>(opd m).bind fun m=>(opd s).bind fun s=>(opd x).map (.entSt m s)
  | .range t x=>match P.underlying t with
    | some .string=>(opd x).map (.range true)
    | some (.map _ _)=>(opd x).map (.range false)
    | _=>none
  | .next x true=>(opd x).map .nextStr
  | .entry x=>(opd x).map .entry
  | .extract x i=>(opd x).map fun x=>.extract x i
  | _=>none
def Jb (P:Program) (m:Bool) (o:Oper):Option AOp :=
  match o.op with
  | .call c=>QZ P m c
  | .next x false=>(opd x).map .nextMap
  | op=>(jl7 P m op).filter fun a=>!a.isCall && !a.isNext
def JX (P:Program) (m:Bool) (ops:Array Oper) (o:Oper):Option AOpr :=
  let a:=(Jb P m o).getD .stuck
  match o.guard with
    | none=>some { dst:=o.dst,op:=a,guard:=none,nm:=m }
    | some (j,b)=>((ops[j]?).bind (·.dst)).map fun t=>{ dst:=o.dst,op:=a,guard:=some (t,b),nm:=m }
def AOp.opds:AOp→List A
  | .mov x|.un _ x|.box _ x|.load _ x|.nilCheck x|.fieldAddr _ x|.part _ _ x|.lenStr x|.lenSl x|.lenMap x|.extract x _|.range _ x|.nextStr x|.nextMap x|.entry x|.iface _ x|.assert _ _ _ x
  | .conv _ x|.convId x|.strOfBytes x|.strOfInt x|.runesOfStr x|.bytesOfStr x=>[x]
  | .pick a b c=>[a,b,c]
  | .clear _ _ x=>[x]
  | .bin _ x y|.eq _ _ x y|.store _ x y|.idxSl _ x y|.idxArr _ _ x y|.idxStr x y|.idxVal _ _ _ x y|.append _ _ _ x y|.lookup _ _ _ x y|.mapDel _ x y|.mapEnt _ _ x y|.mkSl _ _ _ _ x y|.copy _ x y=>[x,y]
  | .alloc _|.mkMap|.stuck=>[]
  | .build _ ps|.buildSl _ _ _ ps _=>ps.map (·.2.2)
  | .slStr x l h|.slSl _ x l h|.slArr _ _ x l h=>x::(l.toList++h.toList)
  | .mkFn _ a b=>a++b
  | .mapSet _ m k v|.entSt m k v=>[m,k,v]
  | .minmax _ xs|.call _ xs|.ext _ xs=>xs
  | .callV f xs=>f::xs
def A.tmps:A→List Nat
  | .t n=>[n]
  | _=>[]
def AOpr.looks (o:AOpr):List Nat:=o.op.opds.flatMap A.tmps++(match o.guard with|some (t,_)=>[t]|none=>[])
def AOp.rO:AOp→Bool
  | .load ..|.store ..|.lookup ..|.lenMap ..|.mapSet ..|.mapDel ..|.mapEnt ..|.entSt ..|.nextStr ..|.append ..|.eq ..|.copy ..|.clear ..|.range ..|.nextMap ..|.entry ..|.slArr ..=>true
  | _=>false
def AOp.rA:AOp→Bool
  | .call ..|.callV ..=>true
  | _=>false
def AOp.wO:AOp→Bool
  | .alloc ..|.box ..|.mkMap|.range ..|.store ..|.mapSet ..|.mapDel ..|.mapEnt ..|.entSt ..|.nextStr ..|.append ..|.buildSl ..|.mkSl ..|.copy ..|.clear ..|.nextMap ..=>true
  | _=>false
def AOp.rT:AOp→Bool
  | .append ..=>true
  | _=>false
def AOp.wT:AOp→Bool
  | .append ..|.buildSl ..|.mkSl ..|.runesOfStr ..|.call ..|.callV ..=>true
  | _=>false
def AOp.quiet (x y:AOp):Bool :=
  !(x.wO && (y.rO || y.wO)) && !(y.wO && x.rO) && !(x.wT && (y.rT || y.wT)) && !(y.wT && x.rT) && !(x.rA && (y.wO || y.wT)) && !(y.rA && (x.wO || x.wT))
def AOpr.apart (x y:AOpr):Bool :=
  (match x.dst with
   | some d=>!(y.looks.any fun t=>Nat.beq t d) && (match y.dst with|some e=>!Nat.beq e d|none=>true)
   | none=>true) &&
  (match y.dst with
   | some d=>!(x.looks.any fun t=>Nat.beq t d)
   | none=>true)
def ahead (o:Oper) (ms:List Nat):Nat :=
  o.after.toList.foldl (fun m e=>if Region.binds .any e then m ||| (1 <<< e.on ||| ms.getD e.on 0) else m) 0
def JB:List Oper→List Nat→List Nat
  | [],ms=>ms
  | o::r,ms=>JB r (ms++[ahead o ms])
def Y2 (ops:Array Oper) (als:List AOpr):Option (List (Nat × Nat)) :=
  let ms:=JB ops.toList []
  let n:=als.length
  let pairs:=(List.range n).flatMap fun j=>((List.range j).filter fun i=>!(ms.getD j 0).testBit i).map fun i=>(i,j)
  if ((List.range n).all fun j=>match ops[j]? with | some o=>o.after.all fun e=>!Region.binds .any e || Nat.blt e.on j | none=>true) &&
     (pairs.all fun p=>match als[p.1]?,als[p.2]? with|some x,some y=>x.apart y|_,_=>true)
  then some (pairs.filter fun p=>match als[p.1]?,als[p.2]? with|some x,some y=>!x.op.quiet y.op|_,_=>false)
  else none
def jn (ops:Array Oper) (n:Nat):Nat :=
  (List.range n).foldl (fun k j=>if (List.range j).all fun i=>((JB ops.toList []).getD j 0).testBit i then k else j+1) 0
def jwr (ops:Array Oper) (als:List AOpr) (k c:Nat):Bool :=
  Nat.blt (c+1) k && (match als[c]? with|some o=>o.op.isCall|none=>false) && ((List.range c).all fun i=>((JB ops.toList []).getD c 0).testBit i) &&
  ((List.range k).all fun j=>Nat.ble j c || match als[j]? with
    | some o=>o.op.still && !((JB ops.toList []).getD j 0).testBit c && (match o.dst with
      | some d=>(List.range k).all fun i=>match als[i]? with
        | some x=>(Nat.beq i j || match x.dst with|some e=>!Nat.beq e d|none=>true) && (Nat.blt j i || !(x.looks.any fun t=>Nat.beq t d))
        | none=>true
      | none=>true)
    | none=>true)
def pinAt (ops:Array Oper) (als:List AOpr) (k:Nat):Option Nat :=
  (((List.range k).filter fun i=>match als[i]? with|some o=>o.op.isCall|none=>false).getLast?).filter (jwr ops als k)
def jtd (ops:Array Oper) (als:List AOpr) (c:Nat):Bool :=
  (match als[c]? with|some o=>o.op.isCall|none=>false) && ((List.range c).all fun i=>((JB ops.toList []).getD c 0).testBit i) &&
  ((List.range als.length).all fun j=>Nat.ble j c || ((List.range (c+1)).all fun i=>((JB ops.toList []).getD j 0).testBit i) && (match als[j]? with|some o=>o.op.still|none=>false)) &&
  ((als.drop (c+1)).any fun o=>match o.op with|.extract _ _=>true|_=>false)
def midAt (ops:Array Oper) (als:List AOpr):Option Nat :=
  (((List.range als.length).filter fun i=>match als[i]? with|some o=>o.op.isCall|none=>false).getLast?).filter (jtd ops als)
def jhk:AOpr:={ dst:=none,op:=.mov (.c (.tup [])),guard:=none,nm:=true }
def comp (P:Program) (m r:Bool):Code→Option C
  | .skip=>some .skip
  | .region _ ops false=>(ops.toList.mapM (JX P m ops)).map .region
  | .region _ ops true=>(ops.toList.mapM (JX P m ops)).map fun l=>match Y2 ops l with
    | some free=>if m && Nat.blt (jn ops l.length) l.length && (l.drop (jn ops l.length)).any (fun o=>o.op.isCall)
      then match pinAt ops l (jn ops l.length) with
        | some c=>.seq (.draw ((l.take (jn ops l.length)).set c jhk) free) (.seq (.pin (l.getD c jhk) ((l.take (jn ops l.length)).drop (c+1))) (.region (l.drop (jn ops l.length))))
        | none=>.seq (.draw (l.take (jn ops l.length)) free) (.region (l.drop (jn ops l.length)))
      else match (if m then midAt ops l else none) with
        | some c=>.seq (.draw (l.take c) free) (.seq (.region [l.getD c jhk]) (.draw (List.replicate (c+1) jhk++l.drop (c+1)) free))
        | none=>.draw l free
    | none=>.stuck
  | .seq a b=>(comp P m r a).bind fun a=>(comp P m r b).map (.seq a)
  | .cond c a b=>(opd c).bind fun c=>(comp P m r a).bind fun a=>(comp P m r b).map (.cond c a)
  | .block id a=>(comp P m r a).map (.block id)
  | .loop a=>(comp P m r a).map .loop
  | .exit id=>some (.exit id)
  | .ret=>some .ret
  | .rangeFunc f ps a b=>cond r (some .stuck) ((opd f).bind fun f=>(comp P m true a).bind fun a=>(comp P m true b).map (.rangeFunc f ps.toList a))
  | _=>some .stuck
def YY (P:Program):ResultVar→Option ARes
  | .tmp t=>some (.t t)
  | .cell t ty=>(jd4 P ty).map (.cell t)
def j3z (P:Program) (m r:Bool) (fn:Func):Option AF :=
  fn.body.bind fun c=>(comp P m r c).bind fun b=>(fn.results.toList.mapM (YY P)).map fun r=>{ body:=b,res:=r }
inductive Kd where
 | n (k:Nat)
 | lp (r:Loop)
def Kd.size:Kd→Nat
 | .n k=>k
 | .lp _=>0
inductive Place where
 | obj (b:Nat) (k:Kd)
 | tok (b n cap sz:Nat)
abbrev IMap:=Nat→Nat→Option Value
inductive RepP (I:IMap):Value→V→Prop where
 | bool (b:Bool):RepP I (.bool b) (.bool b)
 | int (k:IntKind) (n:Int):RepP I (.int k n) (.int k n)
 | str (s:ByteArray):RepP I (.string s) (.str s.data.toList)
 | nilptr:RepP I (.pointer none) .nilptr
 | nilmap:RepP I (.map none) .nilmap
 | nilfn:RepP I .nilFunc .nilfn
 | nilif:RepP I .nilIface .nilif
 | slnil:RepP I (.slice none 0 0) (.sl none true 0 [])
 | sl (a:Addr) (n cap:Nat) (cs:List V) (xs:Nat→Value) (hs:cs≠[]→a.spot=none) (hc:n≤cap) (hm:cap≤maxLen)
  (hi:∀j,j<cs.length→I a.block (a.off+j)=some (xs j)) (hl:∀ (j:Nat) (v:V),cs[j]? = some v→v.pureLeaf=true)
  (hr:∀ (j:Nat) (v:V),cs[j]? = some v→RepP I (xs j) v):RepP I (.slice (some a) n cap) (.sl none false n cs)
 | agg (xs:Array Value) (cs:List V) (hlen:xs.size=cs.length) (hl:∀ (j:Nat) (v:V),cs[j]? = some v→v.leaf=true)
  (hr:∀ (j:Nat) (x:Value) (v:V),xs[j]? = some x→cs[j]? = some v→RepP I x v):RepP I (.agg xs) (.agg cs)
 | eptr (b base off:Nat) (cs:List V) (xs:Nat→Value) (hi:∀j,j<cs.length→I b (base+j)=some (xs j))
  (hl:∀ (j:Nat) (v:V),cs[j]? = some v→v.pureLeaf=true)
  (hr:∀ (j:Nat) (v:V),cs[j]? = some v→RepP I (xs j) v):RepP I (.pointer (some ⟨b,base+off,none⟩)) (.eptr cs off)
 | fn (f:Fn) (xs ys:Array Value) (asg bs:List V) (hx:xs.size=asg.length) (hy:ys.size=bs.length)
  (hrx:∀ (j:Nat) (x:Value) (v:V),xs[j]? = some x→asg[j]? = some v→RepP I x v) (hry:∀ (j:Nat) (x:Value) (v:V),ys[j]? = some x→bs[j]? = some v→RepP I x v) :
  RepP I (.func f xs ys) (.fn f asg bs)
 | iface (t:TypeId) (x:Value) (v:V) (hr:RepP I x v):RepP I (.iface t x) (.iface t v)
inductive Rep (γ:Nat→Option Place) (I:IMap):Value→V→Prop where
 | pure (x:Value) (v:V) (h:RepP I x v):Rep γ I x v
 | undef (x:Value):Rep γ I x .undef
 | tup (xs:Array Value) (vs:List V) (hlen:xs.size=vs.length) (hr:∀ (j:Nat) (x:Value) (v:V),xs[j]? = some x→vs[j]? = some v→Rep γ I x v):Rep γ I (.tuple xs) (.tup vs)
 | agg (xs:Array Value) (cs:List V) (hlen:xs.size=cs.length) (hl:∀ (j:Nat) (v:V),cs[j]? = some v→v.leaf=true)
  (hr:∀ (j:Nat) (x:Value) (v:V),xs[j]? = some x→cs[j]? = some v→Rep γ I x v):Rep γ I (.agg xs) (.agg cs)
 | tsl (u b n cap sz:Nat) (cs:List V) (xs:Nat→Value) (hu:γ u=some (.tok b n cap sz)) (hlen:cs.length=n*sz) (hc:n≤cap) (hm:cap≤maxLen)
  (hi:∀j,j<cs.length→I b j=some (xs j)) (hl:∀ (j:Nat) (v:V),cs[j]? = some v→v.pureLeaf=true) (hr:∀ (j:Nat) (v:V),cs[j]? = some v→RepP I (xs j) v) :
  Rep γ I (.slice (some ⟨b,0,none⟩) n cap) (.sl (some (u,sz)) false n cs)
 | ptr (l u off b:Nat) (k:Kd) (hu:γ u=some (.obj b k)):Rep γ I (.pointer (some ⟨b,off,none⟩)) (.ptr l u off)
 | osl (l u off n sz cap b:Nat) (k:Kd) (a:Addr) (hu:γ u=some (.obj b k)) (ha:0<cap→a=⟨b,off,none⟩∧off+cap*sz≤k.size) (hc:n≤cap) (hm:cap≤maxLen) :
  Rep γ I (.slice (some a) n cap) (.osl l u off n sz)
 | map (l u b:Nat) (k:Kd) (hu:γ u=some (.obj b k)):Rep γ I (.map (some b)) (.map l u)
 | iter (l u b:Nat) (k:Kd) (hu:γ u=some (.obj b k)):Rep γ I (.pointer (some ⟨b,0,none⟩)) (.iter l u)
 | yld (l u b:Nat) (k:Kd) (hu:γ u=some (.obj b k)):Rep γ I (.func (.yield b) #[] #[]) (.yld l u)
 | fn (f:Fn) (xs ys:Array Value) (asg bs:List V) (hx:xs.size=asg.length) (hy:ys.size=bs.length)
  (hrx:∀ (j:Nat) (x:Value) (v:V),xs[j]? = some x→asg[j]? = some v→Rep γ I x v) (hry:∀ (j:Nat) (x:Value) (v:V),ys[j]? = some x→bs[j]? = some v→Rep γ I x v) :
  Rep γ I (.func f xs ys) (.fn f asg bs)
 | iface (t:TypeId) (x:Value) (v:V) (hr:Rep γ I x v):Rep γ I (.iface t x) (.iface t v)
theorem RepP.mono {I I':IMap}(hI:∀b o x,I b o=some x→I' b o=some x) {x:Value}{v:V}(h:RepP I x v):RepP I' x v:=by
 induction h with
 | bool b=>exact .bool b
 | int k n=>exact .int k n
 | str s=>exact .str s
 | nilptr=>exact .nilptr
 | nilmap=>exact .nilmap
 | nilfn=>exact .nilfn
 | nilif=>exact .nilif
 | slnil=>exact .slnil
 | sl a n cap cs xs hs hc hm hi hl hr ih=>exact .sl a n cap cs xs hs hc hm (fun j hj=>hI _ _ _ (hi j hj)) hl ih
 | agg xs cs hlen hl hr ih=>exact .agg xs cs hlen hl ih
 | eptr b base off cs xs hi hl hr ih=>exact .eptr b base off cs xs (fun j hj=>hI _ _ _ (hi j hj)) hl ih
 | fn f xs ys asg bs hx hy hrx hry ih1 ih2=>exact .fn f xs ys asg bs hx hy ih1 ih2
 | iface t x v hr ih=>exact .iface t x v ih
theorem Rep.mono {γ γ':Nat→Option Place}{I I':IMap}(hγ:∀u p,γ u=some p→γ' u=some p) (hI:∀b o x,I b o=some x→I' b o=some x) {x:Value}{v:V}(h:Rep γ I x v):Rep γ' I' x v:=by
 induction h with
 | pure x v h=>exact .pure x v (h.mono hI)
 | undef x=>exact .undef x
 | tup xs vs hlen hr ih=>exact .tup xs vs hlen ih
 | agg xs cs hlen hl hr ih=>exact .agg xs cs hlen hl ih
 | tsl u b n cap sz cs xs hu hlen hc hm hi hl hr=>exact .tsl u b n cap sz cs xs (hγ _ _ hu) hlen hc hm (fun j hj=>hI _ _ _ (hi j hj)) hl (fun j v hj=>(hr j v hj).mono hI)
 | ptr l u off b k hu=>exact .ptr l u off b k (hγ _ _ hu)
 | osl l u off n sz cap b k a hu ha hc hm=>exact .osl l u off n sz cap b k a (hγ _ _ hu) ha hc hm
 | map l u b k hu=>exact .map l u b k (hγ _ _ hu)
 | iter l u b k hu=>exact .iter l u b k (hγ _ _ hu)
 | yld l u b k hu=>exact .yld l u b k (hγ _ _ hu)
 | fn f xs ys asg bs hx hy hrx hry ih1 ih2=>exact .fn f xs ys asg bs hx hy ih1 ih2
 | iface t x v hr ih=>exact .iface t x v ih
theorem Rep.oneCell {γ:Nat→Option Place}{I:IMap}{x:Value}{v:V}(h:Rep γ I x v) (hl:v.leaf=true):x.oneCell'=true:=by
 cases h with
 | pure x v h=>cases h <;> first|rfl|(simp[V.leaf]at hl)
 | undef x=>simp[V.leaf]at hl
 | tup=>simp[V.leaf]at hl
 | agg=>simp[V.leaf]at hl
 | _=>rfl
inductive Owner where
 | ob (l:Nat)
 | tk (u:Nat)
def EntsOk (γ:Nat→Option Place) (I:IMap) (m:List MapEntry) (es:List (V × V)):Prop :=
 m.length=es.length∧∀ (j:Nat) (e:MapEntry) (k v:V),m[j]? = some e→es[j]? = some (k,v)→RepP I e.key k∧Rep γ I e.val v
def Qp:Ex→Code
 | .nrm=>.skip
 | .exit id=>.exit id
 | .ret=>.ret
def j9o:LS→LoopState
 | .ready=>.ready
 | .busy=>.busy
 | .done=>.done
def ObjOk (γ:Nat→Option Place) (I:IMap) (ob:ZO) (h:Array Obj) (k:Kd) (o:Option Obj):OBody→Prop
 | .cells cs=>∃arr e,o=some (.cells arr e (0,0))∧arr.size=k.size∧cs.length≤k.size∧∀ (j:Nat) (x:Value) (v:V),arr[j]? = some x→cs[j]? = some v→v.leaf=true∧Rep γ I x v
 | .mp ver es=>∃ (m:Array MapEntry) (clock:Nat),o=some (.map m clock)∧EntsOk γ I m.toList es∧(m.toList.map (·.born)).Nodup∧(∀e∈m,e.born<clock) ∧
  (ver<jlo→clock=m.size∧∀ (i:Nat) (e:MapEntry),m[i]? = some e→e.born=i)
 | .siter s pos=>∃s',o=some (.stringIter s' pos)∧s'.data.toList=s
 | .miter l u ver left last=>∃ (mb:Nat) (mk:Kd) (since:Nat) (seen:Array Nat) (stepped:Nat),o=some (.mapIter (some mb) since seen stepped)∧γ u=some (.obj mb mk) ∧
  ∀ver' es,ob l=some ⟨u,.mp ver' es⟩→ver≤ver'∧(ver'=ver→∃ (m:Array MapEntry),h[mb]? = some (.map m stepped)∧(∀e∈m,e.born<since)∧since≤stepped ∧
   EntsOk γ I (m.toList.filter fun e=>!seen.contains e.born) left ∧
   (∀k v,last=some (k,v)→∃stamp e,seen.back? = some stamp∧m.find? (fun e=>e.born == stamp)=some e∧RepP I e.key k∧Rep γ I e.val v))
 | .nomap=>∃since seen stepped,o=some (.mapIter none since seen stepped)
 | .loop s pend=>∃r:Loop,k=.lp r∧o=some (.loop { r with state:=j9o s,pending:=pend.map Qp })
 | .dfr=>o=some (.deferred (some []))
def j4l (o:Option Obj) (n cap sz:Nat):Prop:=∃arr e,o=some (.cells arr e (0,0))∧cap*sz≤arr.size∧n≤cap∧cap≤maxLen
theorem EntsOk.mono {γ γ':Nat→Option Place}{I I':IMap}(hγ:∀u p,γ u=some p→γ' u=some p) (hI:∀b o x,I b o=some x→I' b o=some x) {m:List MapEntry}{es:List (V × V)}(h:EntsOk γ I m es):EntsOk γ' I' m es :=
 ⟨h.1,fun j e k v he hk=>⟨(h.2 j e k v he hk).1.mono hI,(h.2 j e k v he hk).2.mono hγ hI⟩⟩
theorem ObjOk.mono {γ γ':Nat→Option Place}{I I':IMap}(hγ:∀u p,γ u=some p→γ' u=some p) (hI:∀b o x,I b o=some x→I' b o=some x) {ob:ZO}{hp:Array Obj}{k:Kd}{o:Option Obj}{b:OBody}
 (h:ObjOk γ I ob hp k o b):ObjOk γ' I' ob hp k o b:=by
 cases b with
 | cells cs=>obtain⟨arr,e,h1,h2,h3,h4⟩:=h;exact⟨arr,e,h1,h2,h3,fun j x v hx hv=>⟨(h4 j x v hx hv).1,(h4 j x v hx hv).2.mono hγ hI⟩⟩
 | mp ver es=>obtain⟨m,c,h1,h2,h3,h4⟩:=h;exact⟨m,c,h1,h2.mono hγ hI,h3,h4⟩
 | siter s pos=>exact h
 | miter l u ver left last=>
  obtain⟨mb,mk,since,seen,stepped,h1,h2,h3⟩:=h
  refine⟨mb,mk,since,seen,stepped,h1,hγ _ _ h2,fun ver' es he=>⟨(h3 ver' es he).1,fun hv=>?_⟩⟩
  obtain⟨m,k1,k2,k3,k4,k5⟩:=(h3 ver' es he).2 hv
  refine⟨m,k1,k2,k3,k4.mono hγ hI,fun k v hl=>?_⟩
  obtain⟨stamp,e,q1,q2,q3,q4⟩:=k5 k v hl
  exact⟨stamp,e,q1,q2,q3.mono hI,q4.mono hγ hI⟩
 | nomap=>exact h
 | loop s pend=>exact h
 | dfr=>exact h
def Xr (γ:Nat→Option Place) (ob ob':ZO) (hp hp':Array Obj):Prop :=
 ∀l u ver' es' mb mk,γ u=some (.obj mb mk)→ob' l=some ⟨u,.mp ver' es'⟩ →
  (ob l=some ⟨u,.mp ver' es'⟩∧∀m c,hp[mb]? = some (.map m c)→hp'[mb]? = some (.map m c))∨(∃v0 es0,ob l=some ⟨u,.mp v0 es0⟩∧v0<ver')
theorem ObjOk.keep {γ:Nat→Option Place}{I:IMap}{ob ob':ZO}{hp hp':Array Obj}{k:Kd}{o:Option Obj}{b:OBody}(h:ObjOk γ I ob hp k o b) (hb:Xr γ ob ob' hp hp'):ObjOk γ I ob' hp' k o b:=by
 cases b with
 | miter l u ver left last=>
  obtain⟨mb,mk,since,seen,stepped,h1,h2,h3⟩:=h
  refine⟨mb,mk,since,seen,stepped,h1,h2,fun ver' es he=>?_⟩
  rcases hb l u ver' es mb mk h2 he with⟨h5,h6⟩|⟨v0,es0,h5,h6⟩
  ·refine⟨(h3 _ _ h5).1,fun hv=>?_⟩
   obtain⟨m,k1,k2,k3,k4,k5⟩:=(h3 _ _ h5).2 hv
   exact⟨m,h6 _ _ k1,k2,k3,k4,k5⟩
  ·have:=(h3 _ _ h5).1
   exact⟨by omega,fun hv=>by omega⟩
 | _=>exact h
structure Own (γ:Nat→Option Place) (I:IMap) (B:Nat) (st:St) (w:World) (Ω:Nat→Option Owner):Prop where
 ob:∀l o,st.ob l=some o→∃b k,γ o.uid=some (.obj b k)∧Ω b=some (.ob l)∧(st.ro≤o.uid→B≤b)∧ObjOk γ I st.ob w.heap k w.heap[b]? o.body∧∀j,I b j=none
 tk:∀u,st.tk u=true→∃b n cap sz,γ u=some (.tok b n cap sz)∧Ω b=some (.tk u)∧B≤b∧j4l w.heap[b]? n cap sz∧∀j,n*sz≤j→I b j=none
 lt:∀b o,Ω b=some o→b<w.heap.size
structure Sh (E:Env) (w0:World) (I0:IMap) (γ:Nat→Option Place) (I:IMap) (st:St) (w:World):Prop where
 imm:∀b o x,I b o=some x→w.cell? ⟨b,o,none⟩=some x
 gl:∀g cs,E.gl g=some cs→RepP I (.pointer (some ⟨g,0,none⟩)) (.eptr cs 0)
 own:∃Ω,Own γ I w0.heap.size st w Ω
 fr:w0.grownBy w none
 old:∀b o,b<w0.heap.size→I b o=I0 b o
def DfOk (γ:Nat→Option Place):List (Nat × Nat)→List Deferred→Prop
 | [],[]=>True
 | x::l,d::ds=>(∃b k,d = { target:=.collected b,args:=#[] }∧γ x.2=some (.obj b k))∧DfOk γ l ds
 | _,_=>False
theorem DfOk.mono {γ γ':Nat→Option Place}(hγ:∀u p,γ u=some p→γ' u=some p):∀ {l:List (Nat × Nat)}{ds:List Deferred},DfOk γ l ds→DfOk γ' l ds
 | [],[],_=>trivial
 | _::_,_::_,h=>⟨(let ⟨b,k,h1,h2⟩:=h.1;⟨b,k,h1,hγ _ _ h2⟩),DfOk.mono hγ h.2⟩
 | [],_::_,h=>h.elim
 | _::_,[],h=>h.elim
structure R (E:Env) (w0:World) (I0:IMap) (nt:Nat) (γ:Nat→Option Place) (I:IMap) (st:St) (a:Act) (w:World):Prop where
 sz:a.tmps.size=nt
 df:DfOk γ st.df a.defers
 tm:∀t,Rep γ I (a.tmps.getD t undef) (st.tm t)
 sh:Sh E w0 I0 γ I st w
section
variable {E:Env}{w0 w:World}{I0 I:IMap}{nt:Nat}{γ:Nat→Option Place}{st:St}{a:Act}
theorem R.imm (h:R E w0 I0 nt γ I st a w):∀b o x,I b o=some x→w.cell? ⟨b,o,none⟩=some x:=h.sh.imm
theorem R.gl (h:R E w0 I0 nt γ I st a w):∀g cs,E.gl g=some cs→RepP I (.pointer (some ⟨g,0,none⟩)) (.eptr cs 0):=h.sh.gl
theorem R.own (h:R E w0 I0 nt γ I st a w):∃Ω,Own γ I w0.heap.size st w Ω:=h.sh.own
theorem R.fr (h:R E w0 I0 nt γ I st a w):w0.grownBy w none:=h.sh.fr
theorem R.old (h:R E w0 I0 nt γ I st a w):∀b o,b<w0.heap.size→I b o=I0 b o:=h.sh.old
end
structure Grow (B:Nat) (w w':World) (T:Nat→Prop):Prop where
 os:w'.os=w.os
 tape:w'.tape=w.tape
 output:w'.output=w.output
 size:w.heap.size≤w'.heap.size
 block:∀k,k<w.heap.size→¬ T k→w'.heap[k]? = w.heap[k]?
 low:∀k,T k→B≤k
theorem Grow.frame {w0 w w':World}{T:Nat→Prop}(h:w0.grownBy w none) (g:Grow w0.heap.size w w' T):w0.grownBy w' none :=
 ⟨g.os.trans h.os,g.tape.trans h.tape,g.output.trans h.output,Nat.le_trans h.size g.size,fun k hk hn=>
  (g.block k (Nat.lt_of_lt_of_le hk h.size) (fun ht=>Nat.not_lt_of_le (g.low k ht) hk)).trans (h.block k hk hn)⟩
theorem jp {α β:Type}{f:α→Option β}:∀ {l:List α}{r:List β},l.mapM f=some r→r.length=l.length∧∀ (j:Nat) (x:α) (y:β),l[j]? = some x→r[j]? = some y→f x=some y
 | [],r,h=>by
  simp at h
  subst h
  exact⟨rfl,fun j x y hx _=>by simp at hx⟩
 | a::l,r,h=>by
  simp only[List.mapM_cons]at h
  cases ha:f a with
  | none=>simp[ha]at h
  | some b=>
   cases hl:l.mapM f with
   | none=>simp[ha,hl]at h
   | some r'=>
    simp[ha,hl]at h
    subst h
    obtain⟨h1,h2⟩:=jp hl
    refine⟨by simp[h1],fun j x y hx hy=>?_⟩
    cases j with
    | zero=>simp at hx hy;subst hx;subst hy;exact ha
    | succ j=>simp at hx hy;exact h2 j x y hx hy
theorem jB {E:Env}{w0 w:World}{I0:IMap}{nt:Nat}{γ:Nat→Option Place}{I:IMap}{st:St}{a:Act}(h:R E w0 I0 nt γ I st a w) {x:Operand}{y:A}(hx:opd x=some y):Rep γ I (a.eval x) (eval E st.tm y):=by
 have leafOk:∀v z,ja0 v=some z→RepP I v z∧z.leaf=true:=by
  intro v z hz
  unfold ja0 at hz
  split at hz <;> simp only[Option.some.injEq,reduceCtorEq]at hz <;> subst hz
  ·exact⟨.bool _,rfl⟩
  ·exact⟨.int _ _,rfl⟩
  ·exact⟨.str _,rfl⟩
  ·exact⟨.nilptr,rfl⟩
  ·exact⟨.slnil,rfl⟩
  ·exact⟨.nilmap,rfl⟩
  ·exact⟨.nilfn,rfl⟩
  ·exact⟨.nilif,rfl⟩
 cases x with
 | tmp t=>simp only[opd,Option.some.injEq]at hx;subst hx;exact h.tm t
 | const v=>
  simp only[opd,Option.map_eq_some_iff]at hx
  obtain⟨z,hz,rfl⟩:=hx
  simp only[Act.eval,eval]
  unfold Yt at hz
  split at hz
  ·rename_i cs
   simp only[Option.map_eq_some_iff]at hz
   obtain⟨l,hl,rfl⟩:=hz
   obtain⟨hlen,hp⟩:=jp hl
   have hget:∀ (j:Nat) (z:V),l[j]? = some z→∃x,cs[j]? = some x∧ja0 x=some z:=by
    intro j z hz
    have hj:j<cs.toList.length:=by rw[← hlen];exact(List.getElem?_eq_some_iff.1 hz).1
    have hx:cs.toList[j]? = some cs.toList[j]:=List.getElem?_eq_getElem hj
    exact⟨_,by rw[← Array.getElem?_toList];exact hx,hp j _ _ hx hz⟩
   refine .pure _ _ (.agg cs l hlen.symm (fun j v hv=>?_) (fun j x v hx hv=>?_))
   ·obtain⟨x,_,h2⟩:=hget j v hv;exact(leafOk _ _ h2).2
   ·obtain⟨x',h1,h2⟩:=hget j v hv
    rw[hx]at h1
    cases h1
    exact(leafOk _ _ h2).1
  ·exact .pure _ _ (leafOk _ _ hz).1
 | global g=>
  simp only[opd,Option.some.injEq]at hx
  subst hx
  simp only[Act.eval,eval]
  cases hg:E.gl g with
  | none=>exact .undef _
  | some cs=>exact .pure _ _ (h.gl g cs hg)
 | func f=>simp only[opd,Option.some.injEq]at hx;subst hx;exact .pure _ _ (.fn _ _ _ _ _ rfl rfl (by simp) (by simp))
section
variable {P:Program}{E:Env}{w0 w:World}{I0:IMap}{nt:Nat}{γ:Nat→Option Place}{I:IMap}{st:St}{a:Act}{o:Oper}{ub:Nat}{δ:Delta}
def XA (P:Program) (E:Env) (w0:World) (I0:IMap) (nt:Nat) (γ:Nat→Option Place) (I:IMap) (st:St) (a:Act) (w:World) (o:Oper) (ub:Nat) (δ:Delta):Prop :=
 ∃x w' γ' I',((execOp a.eval o).run P w=.ok (.value x) w'∨((execOp a.eval o).run P w=.ok .skip w'∧x=undef)) ∧
  R E w0 I0 nt γ' I' (st.app o.dst δ) (a.put o.dst x) w'∧(∀u,¬(ub≤u∧u<ub+64)→γ' u=γ u)∧(∀u p,γ u=some p→γ' u=some p)∧(∀b o x,I b o=some x→I' b o=some x)
theorem jwn (a:Act) (dst:Option Tmp) (x:Value) (hd:∀d,dst=some d→d<a.tmps.size) (t:Nat) :
 (a.put dst x).tmps.getD t undef=if dst=some t then x else a.tmps.getD t undef:=by
 cases dst with
 | none=>simp[Act.put]
 | some d=>
  have hlt:=hd d rfl
  by_cases h:d=t
  ·subst h
   simp[Act.put,hlt]
  ·simp only[Act.put,Option.some.injEq,h,if_false]
   simp[Array.getElem?_setIfInBounds_ne h]
theorem Yi (a:Act) (dst:Option Tmp) (x:Value):(a.put dst x).tmps.size=a.tmps.size:=by
 cases dst <;> simp[Act.put]
theorem jk4 (a:Act) (dst:Option Tmp) (x:Value):(a.put dst x).defers=a.defers:=by
 cases dst <;> rfl
theorem Q0 {γ':Nat→Option Place}{I':IMap}{tm:Nat→V}{dst:Option Tmp}{x:Value}{v:V}(hd:∀d,dst=some d→d<a.tmps.size)
 (h:∀t,Rep γ' I' (a.tmps.getD t undef) (tm t)) (hx:Rep γ' I' x v):∀t,Rep γ' I' ((a.put dst x).tmps.getD t undef) (put tm dst v t):=by
 intro t
 rw[jwn a dst x hd t]
 cases dst with
 | none=>simpa[put] using h t
 | some d=>
  by_cases hdt:d=t
  ·subst hdt;simpa[put] using hx
  ·simp only[Option.some.injEq,hdt,if_false,put]
   rw[J9 _ _ (fun e=>hdt e.symm)]
   exact h t
theorem jcw (h:R E w0 I0 nt γ I st a w) {γ':Nat→Option Place}(hγ:∀u p,γ u=some p→γ' u=some p) (dst:Option Tmp) (x:Value):DfOk γ' st.df (a.put dst x).defers:=by
 rw[jk4]
 exact h.df.mono hγ
theorem R.put (h:R E w0 I0 nt γ I st a w) {dst:Option Tmp}{x:Value}{v:V}(hd:∀d,dst=some d→d<nt) (hx:Rep γ I x v) :
 R E w0 I0 nt γ I { st with tm:=put st.tm dst v } (a.put dst x) w :=
 ⟨(Yi a dst x).trans h.sz,jcw h (fun _ _ h=>h) dst x,Q0 (by rw [h.sz];exact hd) h.tm hx,⟨h.imm,h.gl,
   (let ⟨Ω,ho⟩:=h.own;⟨Ω,⟨ho.ob,ho.tk,ho.lt⟩⟩),h.fr,h.old⟩⟩
theorem jW (hR:R E w0 I0 nt γ I st a w) (hd:∀d,o.dst=some d→d<nt) {x:Value}{v:V}(hrun:(execOp a.eval o).run P w=.ok (.value x) w)
 (hx:Rep γ I x v) (hδ:one v=some δ):XA P E w0 I0 nt γ I st a w o ub δ:=by
 simp only[one,Option.some.injEq]at hδ
 subst hδ
 exact⟨x,w,γ,I,.inl hrun,hR.put hd hx,fun _ _=>rfl,fun _ _ h=>h,fun _ _ _ h=>h⟩
theorem WQ {α:Type}{f:Nat→Option α}{k:Nat}{v:α}(h:f k=none):∀u p,f u=some p→upd f k (some v) u=some p:=by
 intro u p hu
 rw[J9 f _ (fun e=>by rw[e,h]at hu;cases hu)]
 exact hu
theorem jgo {ob:ZO}{obj:Obj}{d:Nat}{body:OBody}(hf:γ ub=none):Xr γ ob (upd ob d (some ⟨ub,body⟩)) w.heap (w.alloc obj).heap:=by
 intro l u ver' es' mb mk hu hl
 rw[j5]at hl
 split at hl
 ·simp only[Option.some.injEq,Obj'.mk.injEq]at hl
  rw[← hl.1,hf]at hu
  cases hu
 ·refine .inl ⟨hl,fun m c hm=>?_⟩
  rw[heap_alloc_old _ _ _ (Array.getElem?_eq_some_iff.1 hm).1]
  exact hm
theorem ju9 (hR:R E w0 I0 nt γ I st a w) (hd:∀d,o.dst=some d→d<nt) (hf:γ ub=none) {x:Value}{v:V}{obj:Obj}{body:OBody}{d:Nat}{k:Kd}{w':World}(hw:w'=w.alloc obj)
 (hx:∀γ':Nat→Option Place,γ' ub=some (.obj w.heap.size k)→Rep γ' I x v) (hb:ObjOk γ I st.ob w.heap k (some obj) body) (hδ:Jh d ub body v=some δ) :
 ∃γ' I',R E w0 I0 nt γ' I' (st.app o.dst δ) (a.put o.dst x) w'∧(∀u,¬(ub≤u∧u<ub+64)→γ' u=γ u)∧(∀u p,γ u=some p→γ' u=some p)∧(∀b o x,I b o=some x→I' b o=some x):=by
 simp only[Jh,Option.some.injEq]at hδ
 subst hδ
 subst hw
 have hm:=WQ (f:=γ) (k:=ub) (v:=Place.obj w.heap.size k) hf
 obtain⟨Ω,ho⟩:=hR.own
 have hob:(st.app o.dst { v:=v,obs:=[(d,⟨ub,body⟩)] }).ob=upd st.ob d (some ⟨ub,body⟩):=by
  simp[St.app,JK]
 have hkeep:=jgo (w:=w) (ob:=st.ob) (obj:=obj) (d:=d) (body:=body) hf
 refine⟨upd γ ub (some (.obj w.heap.size k)),I,⟨(Yi _ _ _).trans hR.sz,jcw hR hm _ _,?_,⟨?_,hR.gl,?_,?_,hR.old⟩⟩,?_,hm,fun _ _ _ h=>h⟩
 ·exact Q0 (by rw[hR.sz];exact hd) (fun t=>(hR.tm t).mono hm (fun _ _ _ h=>h)) (hx _ (by simp))
 ·intro b o' x' hb'
  rw[World.cell?_alloc_lt]
  ·exact hR.imm _ _ _ hb'
  ·exact World.block_lt_of_cell? _ _ (hR.imm _ _ _ hb')
 ·have hI:∀j,I w.heap.size j=none:=by
   intro j
   cases hj:I w.heap.size j with
   | none=>rfl
   | some y=>exact absurd (World.block_lt_of_cell? _ _ (hR.imm _ _ _ hj)) (Nat.lt_irrefl _)
  refine⟨upd Ω w.heap.size (some (.ob d)),⟨?_,?_,?_⟩⟩
  ·intro l ob hl
   rw[hob]at hl ⊢
   rw[j5]at hl
   split at hl
   ·rename_i hld
    subst hld
    simp only[Option.some.injEq]at hl
    subst hl
    refine⟨w.heap.size,k,by simp,by simp,fun _=>hR.fr.size,?_,hI⟩
    rw[heap_alloc_new]
    exact(hb.keep hkeep).mono hm (fun _ _ _ h=>h)
   ·rename_i hld
    obtain⟨b,k',h1,h2,h3,h4,h5⟩:=ho.ob l ob hl
    have hlt:=ho.lt b _ h2
    refine⟨b,k',hm _ _ h1,?_,h3,?_,h5⟩
    ·rw[J9 _ _ (Nat.ne_of_lt hlt)];exact h2
    ·rw[heap_alloc_old _ _ _ hlt];exact(h4.keep hkeep).mono hm (fun _ _ _ h=>h)
  ·intro u hu
   have hu':st.tk u=true:=by simpa[St.app,XT] using hu
   obtain⟨b,n,cap,sz,h1,h2,h3,h4,h5⟩:=ho.tk u hu'
   have hlt:=ho.lt b _ h2
   refine⟨b,n,cap,sz,hm _ _ h1,?_,h3,?_,h5⟩
   ·rw[J9 _ _ (Nat.ne_of_lt hlt)];exact h2
   ·rw[heap_alloc_old _ _ _ hlt];exact h4
  ·intro b ow hb'
   rw[j5]at hb'
   simp only[World.size_alloc]
   split at hb'
   ·rename_i e;omega
   ·have:=ho.lt b _ hb';omega
 ·exact Grow.frame hR.fr ⟨rfl,rfl,rfl,by simp,fun k hk _=>heap_alloc_old _ _ _ hk,fun k hk=>hk.elim⟩ (T:=fun _=>False)
 ·intro u hu
  exact J9 _ _ (fun e=>hu ⟨by omega,by omega⟩)
theorem Yn (hR:R E w0 I0 nt γ I st a w) (hd:∀d,o.dst=some d→d<nt) (hf:γ ub=none) {x:Value}{v:V}{obj:Obj}{body:OBody}{d:Nat}{k:Kd}{w':World}
 (hrun:(execOp a.eval o).run P w=.ok (.value x) w') (hw:w'=w.alloc obj)
 (hx:∀γ':Nat→Option Place,γ' ub=some (.obj w.heap.size k)→Rep γ' I x v) (hb:ObjOk γ I st.ob w.heap k (some obj) body) (hδ:Jh d ub body v=some δ):XA P E w0 I0 nt γ I st a w o ub δ:=by
 obtain⟨γ',I',h⟩:=ju9 hR hd hf hw hx hb hδ
 exact⟨x,w',γ',I',.inl hrun,h⟩
theorem W0 (hR:R E w0 I0 nt γ I st a w) (hd:∀d,o.dst=some d→d<nt) {l u:Nat}{body body':OBody}(hl:st.ob l=some ⟨u,body⟩) (hro:Nat.ble st.ro u=true) {x:Value}{v:V}{w':World}
 (hrun:(execOp a.eval o).run P w=.ok (.value x) w'∨((execOp a.eval o).run P w=.ok .skip w'∧x=undef)) (hx:Rep γ I x v) (hver:∀v es,body'=.mp v es→∃v0 es0,body=.mp v0 es0∧v0<v)
 (hw:∀b k,γ u=some (.obj b k)→b<w.heap.size→(w'.os=w.os∧w'.tape=w.tape∧w'.output=w.output∧w'.heap.size=w.heap.size∧(∀k,k≠b→w'.heap[k]? = w.heap[k]?)∧ObjOk γ I st.ob w.heap k w'.heap[b]? body'))
 (hδ:some { v:=v,obs:=[(l,⟨u,body'⟩)] } = some δ):XA P E w0 I0 nt γ I st a w o ub δ:=by
 simp only[Option.some.injEq]at hδ
 subst hδ
 obtain⟨Ω,ho⟩:=hR.own
 obtain⟨b,k,h1,h2,h3,_,h5⟩:=ho.ob l _ hl
 obtain⟨g1,g2,g3,g4,g5,g6⟩:=hw b k h1 (ho.lt b _ h2)
 have hob:(st.app o.dst { v:=v,obs:=[(l,⟨u,body'⟩)] }).ob=upd st.ob l (some ⟨u,body'⟩):=by
  simp[St.app,JK]
 have hkeep:Xr γ st.ob (upd st.ob l (some ⟨u,body'⟩)) w.heap w'.heap:=by
  intro l' u' ver' es' mb mk hu hl'
  rw[j5]at hl'
  split at hl'
  ·rename_i e
   subst e
   simp only[Option.some.injEq,Obj'.mk.injEq]at hl'
   obtain⟨rfl,he⟩:=hl'
   obtain⟨v0,es0,rfl,hv⟩:=hver _ _ he
   exact .inr ⟨v0,es0,hl,hv⟩
  ·rename_i hne
   refine .inl ⟨hl',fun m c hm=>?_⟩
   obtain⟨b',k',q1,q2,_⟩:=ho.ob l' _ hl'
   rw[hu]at q1
   cases q1
   have:mb≠b:=fun e=>by
    subst e
    rw[h2]at q2
    cases q2
    exact hne rfl
   rw[g5 mb this]
   exact hm
 refine⟨x,w',γ,I,hrun,⟨(Yi _ _ _).trans hR.sz,jcw hR (fun _ _ h=>h) _ _,?_,⟨?_,hR.gl,⟨Ω,⟨?_,?_,?_⟩⟩,?_,hR.old⟩⟩,fun _ _=>rfl,fun _ _ h=>h,fun _ _ _ h=>h⟩
 ·exact Q0 (by rw[hR.sz];exact hd) hR.tm hx
 ·intro b' o' x' hb'
  have hne:b'≠b:=fun e=>by rw[e,h5]at hb';cases hb'
  have:=hR.imm _ _ _ hb'
  rw[World.cell?_of_block (w:=w) (w':=w') (a:=⟨b',o',none⟩) (g5 b' hne)]
  exact this
 ·intro l' ob hl'
  rw[hob]at hl' ⊢
  rw[j5]at hl'
  split at hl'
  ·rename_i e
   subst e
   simp only[Option.some.injEq]at hl'
   subst hl'
   exact⟨b,k,h1,h2,h3,g6.keep hkeep,h5⟩
  ·rename_i e
   obtain⟨b',k',k1,k2,k3,k4,k5⟩:=ho.ob l' ob hl'
   have hne:b'≠b:=fun eb=>by
    subst eb
    rw[h2]at k2
    cases k2
    exact e rfl
   exact⟨b',k',k1,k2,k3,by rw[g5 b' hne];exact k4.keep hkeep,k5⟩
 ·intro u' hu
  have hu':st.tk u'=true:=by simpa[St.app,XT] using hu
  obtain⟨b',n,cap,sz,k1,k2,k3,k4,k5⟩:=ho.tk u' hu'
  have hne:b'≠b:=fun eb=>by subst eb;rw[h2]at k2;cases k2
  exact⟨b',n,cap,sz,k1,k2,k3,by rw[g5 b' hne];exact k4,k5⟩
 ·intro b' ow hb'
  rw[g4]
  exact ho.lt b' ow hb'
 ·exact Grow.frame hR.fr (T:=fun k=>k=b) ⟨g1,g2,g3,Nat.le_of_eq g4.symm,fun k _ hk=>g5 k hk,fun k hk=>hk▸h3 (by simpa[Nat.ble_eq] using hro)⟩
end
section
variable {P:Program}{E:Env}{w0 w:World}{I0:IMap}{nt:Nat}{γ:Nat→Option Place}{I:IMap}{st:St}{a:Act}{o:Oper}{ub:Nat}{δ:Delta}
theorem Qw (tk:Nat→Bool) (b:Bool) (l:List Nat) (u:Nat):XT tk b l u=if u∈l then b else tk u:=by
 induction l with
 | nil=>simp[XT]
 | cons x l ih=>
  simp only[XT,j5,ih,List.mem_cons]
  by_cases h:u=x <;> simp[h]
theorem jrf (hR:R E w0 I0 nt γ I st a w) (hd:∀d,o.dst=some d→d<nt) (hf:γ ub=none) {b n cap sz:Nat}{cs:List V}{w':World}{del:Option Nat}{arr:Array Value}{e:TypeId}
 (hrun:(execOp a.eval o).run P w=.ok (.value (.slice (some ⟨b,0,none⟩) n cap)) w')
 (hb:(b=w.heap.size∧w'.heap.size=w.heap.size+1)∨(∃u n0 cap0 sz0,st.tk u=true∧γ u=some (.tok b n0 cap0 sz0)∧del=some u∧w'.heap.size=w.heap.size))
 (hos:w'.os=w.os∧w'.tape=w.tape∧w'.output=w.output) (hk:∀k,k<w.heap.size→k≠b→w'.heap[k]? = w.heap[k]?)
 (hblk:w'.heap[b]? = some (.cells arr e (0,0))) (hsz:cap*sz≤arr.size) (hc:n≤cap) (hm:cap≤maxLen)
 (hold:∀j x,I b j=some x→j<n*sz∧arr[j]? = some x) (hlen:cs.length=n*sz)
 (hcells:∀ (j:Nat) (v:V),cs[j]? = some v→v.pureLeaf=true∧∃x,arr[j]? = some x∧RepP I x v)
 (hδ:some { v:=V.sl (some (ub,sz)) false n cs,del:=del,add:=[ub] } = some δ):XA P E w0 I0 nt γ I st a w o ub δ:=by
 simp only[Option.some.injEq]at hδ
 subst hδ
 obtain⟨Ω,ho⟩:=hR.own
 have hmγ:=WQ (f:=γ) (k:=ub) (v:=Place.tok b n cap sz) hf
 let I':IMap:=fun b' j=>if b'=b∧j<n*sz then arr[j]? else I b' j
 have hI:∀b' j x,I b' j=some x→I' b' j=some x:=by
  intro b' j x hx
  by_cases h:b'=b
  ·subst h
   obtain⟨h1,h2⟩:=hold j x hx
   simp only[I',h1,and_self,if_true,h2]
  ·simp only[I',h,false_and,if_false,hx]
 have hcap:n*sz≤cap*sz:=Nat.mul_le_mul_right _ hc
 have hB:w0.heap.size≤b:=by
  rcases hb with⟨h,_⟩|⟨u,n0,c0,s0,hu,hg,_,_⟩
  ·rw[h];exact hR.fr.size
  ·obtain⟨b',n',c',s',k1,k2,k3,k4,k5⟩:=ho.tk u hu
   rw[hg]at k1
   cases k1
   exact k3
 have hle:w.heap.size≤w'.heap.size:=by rcases hb with⟨_,h⟩|⟨_,_,_,_,_,_,_,h⟩ <;> omega
 have hlt:b<w'.heap.size:=(Array.getElem?_eq_some_iff.1 hblk).1
 -- who owns what is not b
 have hneb:∀b' ow,Ω b'=some ow→(∀u,ow=.tk u→del≠some u)→b'≠b:=by
  intro b' ow h1 h2 e
  subst e
  rcases hb with⟨h,_⟩|⟨u,n0,c0,s0,hu,hg,hdel,_⟩
  ·have:=ho.lt _ _ h1;omega
  ·obtain⟨b'',n',c',s',k1,k2,k3,k4,k5⟩:=ho.tk u hu
   rw[hg]at k1
   cases k1
   rw[h1]at k2
   cases k2
   exact h2 u rfl hdel
 refine⟨.slice (some ⟨b,0,none⟩) n cap,w',upd γ ub (some (.tok b n cap sz)),I',.inl hrun,⟨(Yi _ _ _).trans hR.sz,jcw hR hmγ _ _,?_,⟨?_,?_,⟨upd Ω b (some (.tk ub)),⟨?_,?_,?_⟩⟩,?_,fun b' j hb'=>?_⟩⟩,?_,hmγ,hI⟩
 ·refine Q0 (by rw[hR.sz];exact hd) (fun t=>(hR.tm t).mono hmγ hI) ?_
  refine .tsl ub b n cap sz cs (fun j=>(arr[j]?).getD undef) (by simp) hlen hc hm (fun j hj=>?_) (fun j v hv=>(hcells j v hv).1) (fun j v hv=>?_)
  ·have hj':j<n*sz:=by omega
   have:j<arr.size:=by omega
   simp[I',hj',this]
  ·obtain⟨_,x,hx,hr⟩:=hcells j v hv
   simp only[hx,Option.getD_some]
   exact hr.mono hI
 ·intro b' j x hx
  by_cases h:b'=b∧j<n*sz
  ·simp only[I',h,and_self,if_true]at hx
   obtain⟨rfl,_⟩:=h
   simp[World.cell?,hblk,hx]
  ·simp only[I',h,if_false]at hx
   by_cases hb':b'=b
   ·subst hb'
    obtain⟨h1,_⟩:=hold j x hx
    exact absurd ⟨rfl,h1⟩ h
   ·have hc:=hR.imm _ _ _ hx
    rw[World.cell?_of_block (w:=w) (w':=w') (a:=⟨b',j,none⟩) (hk b' (World.block_lt_of_cell? _ _ hc) hb')]
    exact hc
 ·exact fun g cs' hg=>(hR.gl g cs' hg).mono hI
 ·intro l ob hl
  have hobs:(st.app o.dst { v:=V.sl (some (ub,sz)) false n cs,del:=del,add:=[ub] }).ob=st.ob:=by simp[St.app,JK]
  rw[hobs]at hl ⊢
  obtain⟨b',k',k1,k2,k3,k4,k5⟩:=ho.ob l ob hl
  have hne:=hneb b' _ k2 (fun u h=>by cases h)
  have hlt':=ho.lt _ _ k2
  have hkeep:Xr γ st.ob st.ob w.heap w'.heap:=by
   intro l2 u2 ver' es' mb mk hu2 hl2
   refine .inl ⟨hl2,fun m c hm2=>?_⟩
   obtain⟨b2,k2',q1,q2,_⟩:=ho.ob l2 _ hl2
   rw[hu2]at q1
   cases q1
   rw[hk mb (ho.lt _ _ q2) (hneb mb _ q2 (fun u h=>by cases h))]
   exact hm2
  refine⟨b',k',hmγ _ _ k1,?_,k3,?_,fun j=>?_⟩
  ·rw[J9 _ _ hne];exact k2
  ·rw[hk b' hlt' hne];exact(k4.keep hkeep).mono hmγ hI
  ·simp only[I',hne,false_and,if_false,k5]
 ·intro u hu
  simp only[St.app,Qw,List.mem_singleton]at hu
  by_cases hu1:u=ub
  ·subst hu1
   refine⟨b,n,cap,sz,by simp,by simp,hB,⟨arr,e,hblk,hsz,hc,hm⟩,fun j hj=>?_⟩
   have hj':¬ j<n*sz:=by omega
   simp only[I',hj',and_false,if_false]
   cases hI2:I b j with
   | none=>rfl
   | some x=>exact absurd (hold j x hI2).1 hj'
  ·simp only[hu1,if_false]at hu
   split at hu
   ·cases hu
   ·rename_i hdel
    obtain⟨b',n',c',s',k1,k2,k3,k4,k5⟩:=ho.tk u hu
    have hne:=hneb b' _ k2 (fun u' h hd'=>by cases h;simp[hd']at hdel)
    have hlt':=ho.lt _ _ k2
    refine⟨b',n',c',s',hmγ _ _ k1,?_,k3,?_,fun j hj=>?_⟩
    ·rw[J9 _ _ hne];exact k2
    ·rw[hk b' hlt' hne];exact k4
    ·simp only[I',hne,false_and,if_false,k5 j hj]
 ·intro b' ow hb'
  rw[j5]at hb'
  split at hb'
  ·rename_i h;subst h;exact hlt
  ·have:=ho.lt b' _ hb';omega
 ·refine Grow.frame hR.fr (T:=fun k=>k=b) ⟨hos.1,hos.2.1,hos.2.2,hle,fun k hk' hne=>hk k hk' hne,fun k hk'=>hk'▸hB⟩
 ·have hne:b'≠b:=by omega
  simp only[I',hne,false_and,if_false]
  exact hR.old b' j hb'
 ·intro u hu
  exact J9 _ _ (fun e=>hu ⟨by omega,by omega⟩)
theorem jms (hR:R E w0 I0 nt γ I st a w) (hd:∀d,o.dst=some d→d<nt) (hf:γ ub=none) {b n cap sz:Nat}{cs:List V}{w':World}{del:Option Nat}{arr:Array Value}{e:TypeId}
 (hrun:(execOp a.eval o).run P w=.ok (.value (.slice (some ⟨b,0,none⟩) n cap)) w')
 (hb:(b=w.heap.size∧w'.heap.size=w.heap.size+1)∨(∃u n0 cap0 sz0,st.tk u=true∧γ u=some (.tok b n0 cap0 sz0)∧del=some u∧w'.heap.size=w.heap.size))
 (hos:w'.os=w.os∧w'.tape=w.tape∧w'.output=w.output) (hk:∀k,k<w.heap.size→k≠b→w'.heap[k]? = w.heap[k]?)
 (hblk:w'.heap[b]? = some (.cells arr e (0,0))) (hsz:arr.size=cap*sz) (hc:n≤cap) (hm:cap≤maxLen)
 (hold:∀j x,I b j=some x→j<n*sz∧arr[j]? = some x) (hlen:cs.length=n*sz)
 (hcells:∀ (j:Nat) (v:V),cs[j]? = some v→v.pureLeaf=true∧∃x,arr[j]? = some x∧RepP I x v)
 (hδ:some { v:=V.sl (some (ub,sz)) false n cs,del:=del,add:=[ub] } = some δ):XA P E w0 I0 nt γ I st a w o ub δ :=
 jrf hR hd hf hrun hb hos hk hblk (Nat.le_of_eq hsz.symm) hc hm hold hlen hcells hδ
end
section
variable {γ:Nat→Option Place}{I:IMap}{x:Value}
theorem XF {b:Bool}(h:Rep γ I x (.bool b)):x=.bool b:=by
 cases h with|pure x v h=>cases h;rfl
theorem ju {k:IntKind}{n:Int}(h:Rep γ I x (.int k n)):x=.int k n:=by
 cases h with|pure x v h=>cases h;rfl
theorem X7 {l:List UInt8}(h:Rep γ I x (.str l)):∃s:ByteArray,x=.string s∧s.data.toList=l:=by
 cases h with|pure x v h=>cases h;exact⟨_,rfl,rfl⟩
theorem Xj (h:Rep γ I x .nilptr):x=.pointer none:=by
 cases h with|pure x v h=>cases h;rfl
theorem XO (h:Rep γ I x .nilmap):x=.map none:=by
 cases h with|pure x v h=>cases h;rfl
theorem jbb (h:Rep γ I x .nilfn):x=.nilFunc:=by
 cases h with|pure x v h=>cases h;rfl
theorem WB (h:Rep γ I x .nilif):x=.nilIface:=by
 cases h with|pure x v h=>cases h;rfl
theorem YT {l u off:Nat}(h:Rep γ I x (.ptr l u off)):∃b k,γ u=some (.obj b k)∧x=.pointer (some ⟨b,off,none⟩):=by
 cases h with
 | pure x v h=>cases h
 | ptr _ _ _ b k hu=>exact⟨b,k,hu,rfl⟩
theorem Wf {l u:Nat}(h:Rep γ I x (.map l u)):∃b k,γ u=some (.obj b k)∧x=.map (some b):=by
 cases h with
 | pure x v h=>cases h
 | map _ _ b k hu=>exact⟨b,k,hu,rfl⟩
theorem jdf {l u:Nat}(h:Rep γ I x (.iter l u)):∃b k,γ u=some (.obj b k)∧x=.pointer (some ⟨b,0,none⟩):=by
 cases h with
 | pure x v h=>cases h
 | iter _ _ b k hu=>exact⟨b,k,hu,rfl⟩
theorem jui {l u:Nat}(h:Rep γ I x (.yld l u)):∃b k,γ u=some (.obj b k)∧x=.func (.yield b) #[] #[]:=by
 cases h with
 | pure x v h=>cases h
 | yld _ _ b k hu=>exact⟨b,k,hu,rfl⟩
theorem Xi {l u off n sz:Nat}(h:Rep γ I x (.osl l u off n sz)):∃b k a cap,γ u=some (.obj b k)∧x=.slice (some a) n cap∧(0<cap→a=⟨b,off,none⟩∧off+cap*sz≤k.size)∧n≤cap∧cap≤maxLen:=by
 cases h with
 | pure x v h=>cases h
 | osl _ _ _ _ _ cap b k a hu ha hc hm=>exact⟨b,k,a,cap,hu,rfl,ha,hc,hm⟩
theorem QU {cs:List V}{off:Nat}(h:Rep γ I x (.eptr cs off)):∃b base,x=.pointer (some ⟨b,base+off,none⟩) ∧
 ∃xs:Nat→Value,(∀j,j<cs.length→I b (base+j)=some (xs j))∧(∀ (j:Nat) (v:V),cs[j]? = some v→v.pureLeaf=true)∧∀ (j:Nat) (v:V),cs[j]? = some v→RepP I (xs j) v:=by
 cases h with
 | pure x v h=>cases h with|eptr b base off cs xs hi hl hr=>exact⟨b,base,rfl,xs,hi,hl,hr⟩
theorem j3d {vs:List V}(h:Rep γ I x (.tup vs)):∃xs:Array Value,x=.tuple xs∧xs.size=vs.length∧∀ (j:Nat) (y:Value) (v:V),xs[j]? = some y→vs[j]? = some v→Rep γ I y v:=by
 cases h with
 | pure x v h=>cases h
 | tup xs vs hlen hr=>exact⟨xs,rfl,hlen,hr⟩
theorem Y7 {cs:List V}(h:Rep γ I x (.agg cs)):∃xs:Array Value,x=.agg xs∧xs.size=cs.length∧(∀ (j:Nat) (v:V),cs[j]? = some v→v.leaf=true) ∧
 ∀ (j:Nat) (y:Value) (v:V),xs[j]? = some y→cs[j]? = some v→Rep γ I y v:=by
 cases h with
 | pure x v h=>cases h with|agg xs cs hlen hl hr=>exact⟨xs,rfl,hlen,hl,fun j y v hy hv=>.pure _ _ (hr j y v hy hv)⟩
 | agg xs cs hlen hl hr=>exact⟨xs,rfl,hlen,hl,hr⟩
theorem jeu {f:Fn}{asg bs:List V}(h:Rep γ I x (.fn f asg bs)):∃xs ys:Array Value,x=.func f xs ys∧xs.size=asg.length∧ys.size=bs.length ∧
 (∀ (j:Nat) (y:Value) (v:V),xs[j]? = some y→asg[j]? = some v→Rep γ I y v)∧∀ (j:Nat) (y:Value) (v:V),ys[j]? = some y→bs[j]? = some v→Rep γ I y v:=by
 cases h with
 | pure x v h=>cases h with|fn f xs ys asg bs hx hy h1 h2=>exact⟨xs,ys,rfl,hx,hy,fun j y v a b=>.pure _ _ (h1 j y v a b),fun j y v a b=>.pure _ _ (h2 j y v a b)⟩
 | fn f xs ys asg bs hx hy h1 h2=>exact⟨xs,ys,rfl,hx,hy,h1,h2⟩
theorem jbc {t:TypeId}{v:V}(h:Rep γ I x (.iface t v)):∃y,x=.iface t y∧Rep γ I y v:=by
 cases h with
 | pure x v h=>cases h with|iface t x v hr=>exact⟨x,rfl,.pure _ _ hr⟩
 | iface t x v hr=>exact⟨x,rfl,hr⟩
theorem Xz {t:Option (Nat × Nat)}{nl:Bool}{n:Nat}{cs:List V}(h:Rep γ I x (.sl t nl n cs)) :
 (x=.slice none 0 0∧t=none∧nl=true∧n=0∧cs=[]) ∨
 ∃ (a:Addr) (cap:Nat) (xs:Nat→Value),x=.slice (some a) n cap∧nl=false∧(cs≠[]→a.spot=none)∧n≤cap∧cap≤maxLen ∧
  (∀j,j<cs.length→I a.block (a.off+j)=some (xs j))∧(∀ (j:Nat) (v:V),cs[j]? = some v→v.pureLeaf=true)∧(∀ (j:Nat) (v:V),cs[j]? = some v→RepP I (xs j) v) ∧
  (∀u sz,t=some (u,sz)→γ u=some (.tok a.block n cap sz)∧a=⟨a.block,0,none⟩∧cs.length=n*sz):=by
 cases h with
 | pure x v h=>
  cases h with
  | slnil=>exact .inl ⟨rfl,rfl,rfl,rfl,rfl⟩
  | sl a n cap cs xs hs hc hm hi hl hr=>exact .inr ⟨a,cap,xs,rfl,rfl,hs,hc,hm,hi,hl,hr,fun u sz hu=>by cases hu⟩
 | tsl u b n cap sz cs xs hu hlen hc hm hi hl hr=>
  exact .inr ⟨⟨b,0,none⟩,cap,xs,rfl,rfl,fun _=>rfl,hc,hm,by simpa using hi,hl,hr,fun u' sz' hu'=>by cases hu';exact⟨hu,rfl,hlen⟩⟩
theorem RepP.strip1 {v:V}(h:RepP I x v):RepP I x v.strip1:=by
 cases h <;> first|exact .slnil|(rename_i a b c d e f g;exact .sl _ _ _ _ _ d e f g ‹_› ‹_›)|(constructor <;> assumption)|(constructor)
end
section
variable {P:Program}{E:Env}{w0 w:World}{I0:IMap}{nt:Nat}{γ:Nat→Option Place}{I:IMap}{st:St}{a:Act}{o:Oper}{ub:Nat}{δ:Delta}
theorem bind_some {α β:Type}{x:Option α}{f:α→Option β}{b:β}(h:x.bind f=some b):∃y,x=some y∧f y=some b:=Option.bind_eq_some_iff.1 h
theorem map_some {α β:Type}{x:Option α}{f:α→β}{b:β}(h:x.map f=some b):∃y,x=some y∧f y=b:=Option.map_eq_some_iff.1 h
theorem jsn (hR:R E w0 I0 nt γ I st a w) (hd:∀d,o.dst=some d→d<nt) {x:Operand}{y:A}(ho:o.op=.move x∨o.op=.assign x) (hx:opd x=some y)
 (ha:one (eval E st.tm y)=some δ):XA P E w0 I0 nt γ I st a w o ub δ :=
 jW hR hd (x:=a.eval x) (by rcases ho with h|h <;> simp only[execOp,h] <;> rfl) (jB hR hx) ha
theorem j13 (hR:R E w0 I0 nt γ I st a w) (hd:∀d,o.dst=some d→d<nt) {c x y:Operand}{c' x' y':A}(ho:o.op=.pick c x y) (hc:opd c=some c') (hx:opd x=some x') (hy:opd y=some y')
 (ha:(match eval E st.tm c' with|.bool t=>one (cond t (eval E st.tm x') (eval E st.tm y'))|_=>none)=some δ):XA P E w0 I0 nt γ I st a w o ub δ:=by
 have hcr:=jB hR hc
 split at ha
 ·rename_i t ht
  rw[ht]at hcr
  have:=XF hcr
  refine jW hR hd (x:=if t then a.eval x else a.eval y) ?_ ?_ ha
  ·simp only[execOp,ho,this,asBool,Sem.run_bind,Sem.run_pure,Result.andThen_ok]
  ·cases t
   ·exact jB hR hy
   ·exact jB hR hx
 ·cases ha
theorem jJ (op:BinOp) (t:TypeId) (x y:Operand) (u v:Value) (h1:¬ (u=.nilIface∧v=.nilIface)) (h2:∀p q,¬ (u=.agg p∧v=.agg q)):(eqGuard op t x y u v).run P w=.ok () w:=by
 unfold eqGuard
 cases u <;> cases v <;> first
  | (exact absurd ⟨rfl,rfl⟩ h1)
  | (exact absurd ⟨rfl,rfl⟩ (h2 _ _))
  | (simp only[Sem.run_pure,ite_self])
theorem jo4 (op:BinOp) (k:IntKind) (x y:Int) {v:V}(h:XQ op k x y=some v) (t:TypeId) (hs:op≠.shl∧op≠.shr) :
 ∃z,(binOp op t (.int k x) (.int k y)).run P w=.ok z w∧∀γ I,Rep γ I z v:=by
 cases op <;> simp only[XQ,Option.some.injEq,reduceCtorEq]at h <;>
  first
  | exact absurd rfl hs.1
  | exact absurd rfl hs.2
  | (subst h;exact⟨_,by simp only[binOp,Op.intArith,Op.intBits,Op.intCmp,ne_eq,not_true_eq_false,if_false];rfl,fun _ _=>.pure _ _ (by constructor)⟩)
  | (split at h <;> simp only [Option.some.injEq,reduceCtorEq] at h;subst h;rename_i hy
     exact⟨_,by simp only[binOp,Op.intDiv,ne_eq,not_true_eq_false,if_false,hy];rfl,fun _ _=>.pure _ _ (by constructor)⟩)
theorem jcl (op:BinOp) (k k':IntKind) (x y:Int) {v:V}(h:QN op k x y=some v) (t:TypeId) :
 ∃z,(binOp op t (.int k x) (.int k' y)).run P w=.ok z w∧∀γ I,Rep γ I z v:=by
 unfold QN at h
 split at h
 ·cases h
 ·rename_i hy
  cases op <;> simp only[Option.some.injEq,reduceCtorEq]at h
  all_goals
   subst h
   exact⟨_,by simp only[binOp,Op.shift,hy,if_false];rfl,fun _ _=>.pure _ _ (.int _ _)⟩
theorem YO (s:ByteArray):s.toList=s.data.toList:=by
 have key:∀ (n i:Nat) (r:List UInt8),s.size - i=n→ByteArray.toList.loop s i r=r.reverse++s.data.toList.drop i:=by
  intro n
  induction n with
  | zero=>
   intro i r h
   unfold ByteArray.toList.loop
   have:¬ i<s.size:=by omega
   have h2:s.data.toList.length≤i:=by simp only[Array.length_toList];exact Nat.le_of_not_lt this
   simp[this,List.drop_eq_nil_of_le h2]
  | succ n ih=>
   intro i r h
   unfold ByteArray.toList.loop
   have hi:i<s.size:=by omega
   simp only[hi,if_true]
   rw[ih (i+1) _ (by omega)]
   have h2:i<s.data.toList.length:=by simpa using hi
   rw[List.drop_eq_getElem_cons h2]
   have:s.get! i=s.data.toList[i]:=by
    simp[ByteArray.get!,hi]
   simp[this]
 unfold ByteArray.toList
 rw[key s.size 0 [] (by omega)]
 simp
theorem jo3 (op:BinOp) (x y:ByteArray) {v:V}(h:jip op x.data.toList y.data.toList=some v) (t:TypeId) :
 ∃z,(binOp op t (.string x) (.string y)).run P w=.ok z w∧∀γ I,Rep γ I z v:=by
 cases op <;> simp only[jip,Option.some.injEq,reduceCtorEq]at h
 case add=>
  split at h
  ·rename_i hl
   simp only[Option.some.injEq]at h
   subst h
   have hm:¬ (((x.size+y.size:Nat):Int) > IntKind.i64.max):=by
    simp only[Array.length_toList]at hl
    have:x.size+y.size≤9223372036854775807:=hl
    have h2:IntKind.i64.max=9223372036854775807:=by decide
    rw[h2];omega
   refine⟨.string (x++y),by simp only[binOp,Op.stringOp,hm,if_false];rfl,fun _ _=>.pure _ _ ?_⟩
   have:x.data.toList++y.data.toList=(x++y).data.toList:=by simp
   rw[this]
   exact .str _
  ·cases h
 all_goals
  subst h
  exact⟨_,by simp only[binOp,Op.stringOp,YO];rfl,fun _ _=>.pure _ _ (.bool _)⟩
end
section
variable {P:Program}{E:Env}{w0 w:World}{I0:IMap}{nt:Nat}{γ:Nat→Option Place}{I:IMap}{st:St}{a:Act}{o:Oper}{ub:Nat}{δ:Delta}
theorem jwh {x y:Value}{vx vy v:V}(op:BinOp) (t:TypeId) (hx:Rep γ I x vx) (hy:Rep γ I y vy) (h:Y9 op vx vy=some v) :
 (∃z,(binOp op t x y).run P w=.ok z w∧∀γ I,Rep γ I z v)∧¬ (x=.nilIface∧y=.nilIface)∧(∀p q,¬ (x=.agg p∧y=.agg q)):=by
 unfold Y9 at h
 split at h
 ·rename_i k a k' b
  have h1:=ju hx
  have h2:=ju hy
  subst h1;subst h2
  refine⟨?_,by simp,by simp⟩
  split at h
  ·exact jcl .shl k k' a b h t
  ·exact jcl .shr k k' a b h t
  ·rename_i h1 h2
   split at h
   ·rename_i hk
    subst hk
    exact jo4 op k a b h t ⟨h1,h2⟩
   ·cases h
 ·rename_i a b
  obtain⟨s,rfl,rfl⟩:=X7 hx
  obtain⟨s',rfl,rfl⟩:=X7 hy
  exact⟨jo3 op s s' h t,by simp,by simp⟩
 ·cases h
theorem jsx (hR:R E w0 I0 nt γ I st a w) (hd:∀d,o.dst=some d→d<nt) {op:BinOp}{t t':TypeId}{x y:Operand}{x' y':A}(ho:o.op=.binOp op t x y t') (hx:opd x=some x') (hy:opd y=some y')
 (ha:(Y9 op (eval E st.tm x') (eval E st.tm y')).bind one=some δ):XA P E w0 I0 nt γ I st a w o ub δ:=by
 obtain⟨v,hv,hδ⟩:=bind_some ha
 obtain⟨⟨z,hz,hr⟩,h1,h2⟩:=jwh (P:=P) (w:=w) op t (jB hR hx) (jB hR hy) hv
 exact jW hR hd (x:=z) (by simp only[execOp,ho,Sem.run_bind,jJ op t x y _ _ h1 h2,Result.andThen_ok,hz,Sem.run_pure]) (hr γ I) hδ
def LKOk (P:Program) (t:TypeId):LK→Prop
 | .bool=>P.underlying t=some .bool
 | .int=>∃q,P.underlying t=some (.int q)
 | .str=>P.underlying t=some .string
theorem jo5 {t:TypeId}{x y:Value}{vx vy:V}{b:Bool}{k:LK}(d:Nat)
 (ht:LKOk P t k)
 (hx:Rep γ I x vx) (hy:Rep γ I y vy) (h:Wq k vx vy=some b):(Op.equalIn (d+1) t x y).run P w=.ok b w:=by
 unfold Wq at h
 split at h
 ·have h1:=XF hx
  have h2:=XF hy
  subst h1;subst h2
  simp only[Option.some.injEq]at h
  rw[← h]
  exact run_equalIn_bool' w d t _ _ ht
 ·rename_i k n k' n'
  have h1:=ju hx
  have h2:=ju hy
  subst h1;subst h2
  obtain⟨q,ht⟩:=ht
  split at h
  ·rename_i e
   subst e
   simp only[Option.some.injEq]at h
   rw[← h]
   exact run_equalIn_int w d t k q n n' ht
  ·cases h
 ·obtain⟨s,rfl,rfl⟩:=X7 hx
  obtain⟨s',rfl,rfl⟩:=X7 hy
  simp only[Option.some.injEq]at h
  rw[run_equalIn_string w d t s s' ht,YO,YO,h]
 ·cases h
theorem Qq:∀ (l l':List LK) (x y:List V) (b:Bool),JV (l++l') x y=some b →
 ∃b1 b2,JV l (x.take l.length) (y.take l.length)=some b1∧JV l' (x.drop l.length) (y.drop l.length)=some b2∧b=(b1 && b2)
 | [],l',x,y,b,h=>⟨true,b,rfl,by simpa using h,by simp⟩
 | k::l,l',x,y,b,h=>by
  cases x with
  | nil=>simp[JV]at h
  | cons a x=>
   cases y with
   | nil=>simp[JV]at h
   | cons c y=>
    simp only[List.cons_append,JV]at h
    obtain⟨r,hr,h2⟩:=bind_some h
    obtain⟨q,hq,h3⟩:=map_some h2
    obtain⟨b1,b2,h4,h5,h6⟩:=Qq l l' x y q hq
    refine⟨r && b1,b2,?_,by simpa using h5,by rw[← h3,h6,Bool.and_assoc]⟩
    simp only[List.length_cons,List.take_succ_cons,JV,hr,Option.bind_some,h4,Option.map_some]
def Ya (γ:Nat→Option Place) (I:IMap) (P:Program) (t:TypeId) (x:Value) (cs:List V):Prop :=
 match P.underlying t with
 | some (.struct _)=>∃xs:Array Value,x=.agg xs∧xs.size=cs.length∧∀ (j:Nat) (y:Value) (v:V),xs[j]? = some y→cs[j]? = some v→Rep γ I y v
 | _=>∃v,cs=[v]∧Rep γ I x v
theorem W1 {t:TypeId}{d:TypeDesc}(h:P.underlying t=some d):(isAgg t).run P w=.ok (jct d) w:=by
 unfold isAgg
 rw[Sem.run_bind,run_underlying h w]
 cases d <;> rfl
theorem ji {t:TypeId}{n:Nat}(h:Qe P t=some n):(sizeOf t).run P w=.ok n w:=by
 unfold Qe at h
 obtain⟨i,hi,rfl⟩:=map_some h
 simp[sizeOf,typeInfo,hi]
theorem jau {t:TypeId}{n off:Nat}{xs:Array Value}{cs:List V}(d:Nat) {l:List LK}(hl:eqTs P d t=some l) (hn:Qe P t=some n) (hs:xs.size=cs.length)
 (hr:∀ (j:Nat) (y:Value) (v:V),xs[j]? = some y→cs[j]? = some v→Rep γ I y v) (hoff:off+n≤cs.length) (h1:n=l.length) :
 ∃x,(part t xs off).run P w=.ok x w∧Ya γ I P t x ((cs.drop off).take n):=by
 cases d with
 | zero=>simp[eqTs]at hl
 | succ d=>
  have one:∀ (dd:TypeDesc),P.underlying t=some dd→jct dd=false→l.length=1→∃x,(part t xs off).run P w=.ok x w∧Ya γ I P t x ((cs.drop off).take n):=by
   intro dd hu ha hl1
   have hn1:n=1:=by omega
   subst hn1
   have hlt:off<xs.size:=by omega
   have hv:cs[off]? = some cs[off]:=List.getElem?_eq_getElem (by omega)
   refine⟨xs[off],?_,?_⟩
   ·unfold part
    simp only[Sem.run_bind,W1 hu,ha,Result.andThen_ok,Bool.false_eq_true,if_false,Array.getElem?_eq_getElem hlt,Sem.run_pure]
   ·have hd1:(cs.drop off).take 1=[cs[off]]:=by
     rw[List.drop_eq_getElem_cons (by omega)]
     rfl
    rw[hd1]
    have:=hr off _ _ (Array.getElem?_eq_getElem hlt) hv
    unfold Ya
    rw[hu]
    cases dd <;> first|exact⟨_,rfl,this⟩|(simp[jct]at ha)
  unfold eqTs at hl
  split at hl
  ·rename_i hu;cases hl;exact one _ hu rfl rfl
  ·rename_i q hu;cases hl;exact one _ hu rfl rfl
  ·rename_i hu;cases hl;exact one _ hu rfl rfl
  ·rename_i fs hu
   refine⟨.agg (xs.extract off (off+n)),?_,?_⟩
   ·unfold part
    simp only[Sem.run_bind,W1 hu,jct,Result.andThen_ok,if_true,ji hn,Sem.run_pure]
   ·unfold Ya
    rw[hu]
    refine⟨_,rfl,?_,?_⟩
    ·simp only[Array.size_extract,List.length_take,List.length_drop];omega
    ·intro j y v hy hv
     have hj:j<n:=by
      have:=(List.getElem?_eq_some_iff.1 hv).1
      simp only[List.length_take]at this
      omega
     simp only[Array.getElem?_extract]at hy
     rw[List.getElem?_take_of_lt hj,List.getElem?_drop]at hv
     split at hy
     ·exact hr _ _ _ hy hv
     ·cases hy
  ·cases hl
theorem jo6:∀ (d:Nat) (t:TypeId) (l:List LK) (D:Nat) (x y:Value) (cx cy:List V) (b:Bool),eqTs P d t=some l→d≤D→Ya γ I P t x cx→Ya γ I P t y cy →
 JV l cx cy=some b→(Op.equalIn D t x y).run P w=.ok b w:=by
 intro d
 induction d with
 | zero=>intro t l D x y cx cy b h;simp[eqTs]at h
 | succ d ih=>
  intro t l D x y cx cy b hl hD hx hy h
  obtain⟨D,rfl⟩:∃D',D=D'+1:=⟨D - 1,by omega⟩
  unfold eqTs at hl
  have leaf:∀ (k:LK) (dd:TypeDesc),P.underlying t=some dd→jct dd=false→l=[k]→LKOk P t k →
   (Op.equalIn (D+1) t x y).run P w=.ok b w:=by
   intro k dd hu ha hlk ht
   subst hlk
   have hx':∃v,cx=[v]∧Rep γ I x v:=by unfold Ya at hx;rw[hu]at hx;cases dd <;> first|exact hx|(simp[jct]at ha)
   have hy':∃v,cy=[v]∧Rep γ I y v:=by unfold Ya at hy;rw[hu]at hy;cases dd <;> first|exact hy|(simp[jct]at ha)
   obtain⟨v,rfl,hx'⟩:=hx'
   obtain⟨v',rfl,hy'⟩:=hy'
   simp only[JV]at h
   obtain⟨r,hr,h2⟩:=bind_some h
   simp only[Option.map_some,Bool.and_true,Option.some.injEq]at h2
   subst h2
   exact jo5 D ht hx' hy' hr
  split at hl
  ·rename_i hu;cases hl;exact leaf .bool _ hu rfl rfl hu
  ·rename_i q hu;cases hl;exact leaf .int _ hu rfl rfl ⟨q,hu⟩
  ·rename_i hu;cases hl;exact leaf .str _ hu rfl rfl hu
  ·rename_i fs hu
   split at hl
   ·cases hl
   ·rename_i hst
    unfold Ya at hx hy
    rw[hu]at hx hy
    obtain⟨xs,rfl,hxs,hxr⟩:=hx
    obtain⟨ys,rfl,hys,hyr⟩:=hy
    have hf:P.fieldsOf t=fs:=by unfold Program.fieldsOf;rw[hu]
    rw[run_equalIn_struct w D t xs ys (by rw[hf];exact hu) (by simpa using hst),hf]
    -- field by field
    have key:∀ (fl:List Field) (off:Nat) (lk:List LK) (b:Bool),eqFs (eqTs P d) P off fl=some lk→off+lk.length≤cx.length→off+lk.length≤cy.length→JV lk (cx.drop off) (cy.drop off)=some b →
     (Op.eqFields D xs ys fl).run P w=.ok b w:=by
     intro fl
     induction fl with
     | nil=>
      intro off lk b h1 h2 h3 h4
      simp only[eqFs,Option.some.injEq]at h1
      subst h1
      cases hcx:cx.drop off <;> cases hcy:cy.drop off <;> simp[hcx,hcy,JV]at h4
      subst h4
      rfl
     | cons f fl ihf=>
      intro off lk b h1 h2 h3 h4
      simp only[eqFs]at h1
      split at h1
      ·cases h1
      ·rename_i hcond
       simp only[not_or,Decidable.not_not]at hcond
       obtain⟨l1,hl1,h5⟩:=bind_some h1
       split at h5
       ·rename_i hsz
        obtain⟨l2,hl2,rfl⟩:=map_some h5
        simp only[List.length_append]at h2 h3
        obtain⟨b1,b2,e1,e2,rfl⟩:=Qq l1 l2 _ _ b h4
        obtain⟨p,hp,hpf⟩:=jau (P:=P) (w:=w) (off:=off) d hl1 hsz hxs hxr (by omega) rfl
        obtain⟨q,hq,hqf⟩:=jau (P:=P) (w:=w) (off:=off) d hl1 hsz hys hyr (by omega) rfl
        have hr:=ih f.type l1 D p q _ _ b1 hl1 (by omega) hpf hqf e1
        simp only[Op.eqFields,hcond.1,ne_eq,not_false_eq_true,if_true,Sem.run_bind,hcond.2,hp,hq,hr,Result.andThen_ok,Sem.run_ite,Sem.run_pure]
        cases b1
        ·simp
        ·simp only[Bool.not_true,Bool.false_eq_true,if_false,Bool.true_and]
         refine ihf (off+l1.length) l2 b2 hl2 (by omega) (by omega) ?_
         simpa[List.drop_drop] using e2
       ·cases h5
    have hlen:∀ (lk:List LK) (u v:List V) (b:Bool),JV lk u v=some b→lk.length=u.length∧lk.length=v.length:=by
     intro lk
     induction lk with
     | nil=>intro u v b h;cases u <;> cases v <;> simp[JV]at h;exact⟨rfl,rfl⟩
     | cons k lk ihk=>
      intro u v b h
      cases u with
      | nil=>simp[JV]at h
      | cons c u=>
       cases v with
       | nil=>simp[JV]at h
       | cons c' v=>
        simp only[JV]at h
        obtain⟨r,_,h2⟩:=bind_some h
        obtain⟨q,hq,_⟩:=map_some h2
        have:=ihk u v q hq
        simp only[List.length_cons]
        omega
    obtain⟨l1,l2⟩:=hlen l cx cy b h
    exact key fs.toList 0 l b hl (by omega) (by omega) (by simpa using h)
  ·cases hl
theorem ok_un (hR:R E w0 I0 nt γ I st a w) (hd:∀d,o.dst=some d→d<nt) {op:UnOp}{t:TypeId}{x:Operand}{x':A}(ho:o.op=.unOp op t x) (hx:opd x=some x')
 (ha:(unV op (eval E st.tm x')).bind one=some δ):XA P E w0 I0 nt γ I st a w o ub δ:=by
 obtain⟨v,hv,hδ⟩:=bind_some ha
 have hr:=jB hR hx
 unfold unV at hv
 split at hv
 ·rename_i b hb
  rw[hb]at hr
  have:=XF hr
  simp only[Option.some.injEq]at hv
  subst hv
  exact jW hR hd (x:=.bool (!b)) (by simp only[execOp,ho,this,Op.unary];rfl) (.pure _ _ (.bool _)) hδ
 ·rename_i k n hb
  rw[hb]at hr
  have:=ju hr
  simp only[Option.some.injEq]at hv
  subst hv
  exact jW hR hd (x:=.int k (k.wrap (0 - n))) (by simp only[execOp,ho,this,Op.unary,Op.intArith];rfl) (.pure _ _ (.int _ _)) hδ
 ·rename_i k n hb
  rw[hb]at hr
  have:=ju hr
  simp only[XQ,Option.some.injEq]at hv
  subst hv
  exact jW hR hd (x:=.int k _) (by simp only[execOp,ho,this,Op.unary,Op.intBits];rfl) (.pure _ _ (.int _ _)) hδ
 ·cases hv
end
section
variable {P:Program}{E:Env}{w0 w:World}{I0:IMap}{nt:Nat}{γ:Nat→Option Place}{I:IMap}{st:St}{a:Act}{o:Oper}{ub:Nat}{δ:Delta}
theorem jco (t:TypeId) (x y:Value) (b:Bool) (h1:∀k n,x≠.int k n) (h2:∀s,x≠.string s) (h3:∀k f,x≠.float k f) (h4:∀k r i,x≠.complex k r i) (h:(Op.equal t x y).run P w=.ok b w) :
 (binOp .eql t x y).run P w=.ok (.bool b) w∧(binOp .neq t x y).run P w=.ok (.bool (!b)) w:=by
 constructor
 ·unfold binOp
  cases x <;> cases y <;> first|(exact absurd rfl (h1 _ _))|(exact absurd rfl (h2 _))|(exact absurd rfl (h3 _ _))|(exact absurd rfl (h4 _ _ _))|(simp only[Sem.run_bind,h,Result.andThen_ok,Sem.run_pure])
 ·unfold binOp
  cases x <;> cases y <;> first|(exact absurd rfl (h1 _ _))|(exact absurd rfl (h2 _))|(exact absurd rfl (h3 _ _))|(exact absurd rfl (h4 _ _ _))|(simp only[Sem.run_bind,h,Result.andThen_ok,Sem.run_pure])
def EqKOk (P:Program) (t:TypeId) (x y:Operand):EqK→Prop
 | .bool=>P.underlying t=some .bool
 | .ptr=>∃e,P.underlying t=some (.pointer e)∧∃n,Qe P e=some n∧n≠0
 | .sl=>∃e,P.underlying t=some (.slice e)
 | .map=>∃k e,P.underlying t=some (.map k e)
 | .fn=>∃p r v,P.underlying t=some (.func p r v)
 | .iface=>(∃ms,P.underlying t=some (.interface ms))∧((∃v,x=.const v)∨∃v,y=.const v)
 | .struct l=>(∃fs,P.underlying t=some (.struct fs))∧P.eqGuardType P.depth t=false∧eqTs P 8 t=some l
theorem juv {t:TypeId}{x y:Operand}{k:EqK}(h:eqK P t x y=some k):EqKOk P t x y k:=by
 unfold eqK at h
 split at h
 ·cases h;assumption
 ·split at h
  ·rename_i hn
   cases h
   exact⟨_,by assumption,_,hn,Nat.succ_ne_zero _⟩
  ·cases h
 ·cases h;exact⟨_,by assumption⟩
 ·cases h;exact⟨_,_,by assumption⟩
 ·cases h;exact⟨_,_,_,by assumption⟩
 ·split at h
  ·cases h;exact⟨⟨_,by assumption⟩,.inl ⟨_,rfl⟩⟩
  ·cases h;exact⟨⟨_,by assumption⟩,.inr ⟨_,rfl⟩⟩
  ·cases h
 ·split at h
  ·cases h
  ·rename_i hg
   obtain⟨l,hl,rfl⟩:=map_some h
   exact⟨⟨_,by assumption⟩,by simpa using hg,hl⟩
 ·cases h
theorem jc {t:TypeId}{d:TypeDesc}{X Y:Value}{b:Bool}{r:Result Bool}(hu:P.underlying t=some d)
 (h:(match d,X,Y with
  | .bool,.bool a,.bool b=>some (a == b)
  | .pointer _,.pointer none,.pointer b=>some b.isNone
  | .pointer _,.pointer (some _),.pointer none=>some false
  | .slice _,.slice none _ _,.slice b _ _=>some b.isNone
  | .slice _,.slice (some _) _ _,.slice none _ _=>some false
  | .map _ _,.map none,.map b=>some b.isNone
  | .map _ _,.map (some _),.map none=>some false
  | .func _ _ _,.nilFunc,.nilFunc=>some true
  | .func _ _ _,.nilFunc,.func _ _ _|.func _ _ _,.func _ _ _,.nilFunc=>some false
  | .interface _,.nilIface,.nilIface=>some true
  | .interface _,.nilIface,.iface _ _|.interface _,.iface _ _,.nilIface=>some false
  | _,_,_=>none)=some b) (hr:r=.ok b w):(Op.equal t X Y).run P w=r:=by
 subst hr
 unfold Op.equal
 show(Op.equalIn (9999+1) t X Y).run P w=_
 unfold Op.equalIn
 simp only[Sem.run_bind,run_underlying hu,Result.andThen_ok]
 split at h <;> first|(cases h;rfl)|(simp only[Option.some.injEq]at h;subst h;rfl)|(cases h)
theorem j9i (hR:R E w0 I0 nt γ I st a w) (hd:∀d,o.dst=some d→d<nt) {neg:Bool}{t t':TypeId}{x y:Operand}{x' y':A}{k:EqK}(ho:o.op=.binOp (if neg then .neq else .eql) t x y t') (hx:opd x=some x') (hy:opd y=some y')
 (hk:eqK P t x y=some k) (ha:((eqV k (eval E st.tm x') (eval E st.tm y')).bind fun b=>one (.bool (xor neg b)))=some δ):XA P E w0 I0 nt γ I st a w o ub δ:=by
 obtain⟨b,hv,hδ⟩:=bind_some ha
 have hrx:=jB hR hx
 have hry:=jB hR hy
 generalize eval E st.tm x'=vx at hrx hv
 generalize eval E st.tm y'=vy at hry hv
 generalize hX:a.eval x=X at hrx
 generalize hY:a.eval y=Y at hry
 have fin:(eqGuard (if neg then .neq else .eql) t x y X Y).run P w=.ok () w→(∀k n,X≠.int k n)→(∀s,X≠.string s)→(∀k f,X≠.float k f)→(∀k r i,X≠.complex k r i)→(Op.equal t X Y).run P w=.ok b w →
  XA P E w0 I0 nt γ I st a w o ub δ:=by
  intro h0 h1 h2 h3 h4 h5
  obtain⟨e1,e2⟩:=jco t X Y b h1 h2 h3 h4 h5
  refine jW hR hd (x:=.bool (xor neg b)) ?_ (.pure _ _ (.bool _)) hδ
  simp only[execOp,ho,Sem.run_bind,hX,hY,h0,Result.andThen_ok]
  cases neg
  ·simp only[Bool.false_eq_true,if_false,e1,Result.andThen_ok,Sem.run_pure,Bool.false_xor]
  ·simp only[if_true,e2,Result.andThen_ok,Sem.run_pure,Bool.true_xor]
 have hko:=juv hk
 unfold eqV at hv
 split at hv <;> first|(cases hv;done)|skip
 ·have:=XF hrx;subst this
  have:=XF hry;subst this
  cases hv
  exact fin (jJ _ _ _ _ _ _ (by simp) (by simp)) (by simp) (by simp) (by simp) (by simp) (jc hko rfl rfl)
 ·have:=Xj hrx;subst this
  have:=Xj hry;subst this
  cases hv
  obtain⟨e,hu,_⟩:=hko
  exact fin (jJ _ _ _ _ _ _ (by simp) (by simp)) (by simp) (by simp) (by simp) (by simp) (jc hu rfl rfl)
 ·obtain⟨_,_,_,rfl⟩:=YT hrx
  have:=Xj hry;subst this
  cases hv
  obtain⟨e,hu,_⟩:=hko
  exact fin (jJ _ _ _ _ _ _ (by simp) (by simp)) (by simp) (by simp) (by simp) (by simp) (jc hu rfl rfl)
 ·have:=Xj hrx;subst this
  obtain⟨_,_,_,rfl⟩:=YT hry
  cases hv
  obtain⟨e,hu,_⟩:=hko
  exact fin (jJ _ _ _ _ _ _ (by simp) (by simp)) (by simp) (by simp) (by simp) (by simp) (jc hu rfl rfl)
 ·obtain⟨_,_,rfl,_⟩:=QU hrx
  have:=Xj hry;subst this
  cases hv
  obtain⟨e,hu,_⟩:=hko
  exact fin (jJ _ _ _ _ _ _ (by simp) (by simp)) (by simp) (by simp) (by simp) (by simp) (jc hu rfl rfl)
 ·have:=Xj hrx;subst this
  obtain⟨_,_,rfl,_⟩:=QU hry
  cases hv
  obtain⟨e,hu,_⟩:=hko
  exact fin (jJ _ _ _ _ _ _ (by simp) (by simp)) (by simp) (by simp) (by simp) (by simp) (jc hu rfl rfl)
 ·obtain⟨e,hu⟩:=hko
  rcases Xz hry with⟨rfl,_⟩|⟨_,_,_,_,h,_⟩
  ·rcases Xz hrx with⟨rfl,_,rfl,_⟩|⟨_,_,_,rfl,rfl,_⟩
   ·cases hv
    exact fin (jJ _ _ _ _ _ _ (by simp) (by simp)) (by simp) (by simp) (by simp) (by simp) (jc hu rfl rfl)
   ·cases hv
    exact fin (jJ _ _ _ _ _ _ (by simp) (by simp)) (by simp) (by simp) (by simp) (by simp) (jc hu rfl rfl)
  ·cases h
 ·have:=XO hrx;subst this
  have:=XO hry;subst this
  cases hv
  obtain⟨_,_,hu⟩:=hko
  exact fin (jJ _ _ _ _ _ _ (by simp) (by simp)) (by simp) (by simp) (by simp) (by simp) (jc hu rfl rfl)
 ·obtain⟨_,_,_,rfl⟩:=Wf hrx
  have:=XO hry;subst this
  cases hv
  obtain⟨_,_,hu⟩:=hko
  exact fin (jJ _ _ _ _ _ _ (by simp) (by simp)) (by simp) (by simp) (by simp) (by simp) (jc hu rfl rfl)
 ·have:=jbb hrx;subst this
  have:=jbb hry;subst this
  cases hv
  obtain⟨_,_,_,hu⟩:=hko
  exact fin (jJ _ _ _ _ _ _ (by simp) (by simp)) (by simp) (by simp) (by simp) (by simp) (jc hu rfl rfl)
 ·obtain⟨_,_,rfl,_⟩:=jeu hrx
  have:=jbb hry;subst this
  cases hv
  obtain⟨_,_,_,hu⟩:=hko
  exact fin (jJ _ _ _ _ _ _ (by simp) (by simp)) (by simp) (by simp) (by simp) (by simp) (jc hu rfl rfl)
 ·have:=WB hrx;subst this
  have:=WB hry;subst this
  cases hv
  obtain⟨⟨ms,hu⟩,hcon⟩:=hko
  refine fin ?_ (by simp) (by simp) (by simp) (by simp) (jc hu rfl rfl)
  unfold eqGuard
  rcases hcon with⟨v,rfl⟩|⟨v,rfl⟩ <;> cases neg <;> simp
 ·obtain⟨_,rfl,_⟩:=jbc hrx
  have:=WB hry;subst this
  cases hv
  obtain⟨⟨_,hu⟩,_⟩:=hko
  exact fin (jJ _ _ _ _ _ _ (by simp) (by simp)) (by simp) (by simp) (by simp) (by simp) (jc hu rfl rfl)
 ·have:=WB hrx;subst this
  obtain⟨_,rfl,_⟩:=jbc hry
  cases hv
  obtain⟨⟨_,hu⟩,_⟩:=hko
  exact fin (jJ _ _ _ _ _ _ (by simp) (by simp)) (by simp) (by simp) (by simp) (by simp) (jc hu rfl rfl)
 ·obtain⟨⟨fs,hu⟩,hg,hl⟩:=hko
  obtain⟨xs,rfl,h1,_,h2⟩:=Y7 hrx
  obtain⟨ys,rfl,h3,_,h4⟩:=Y7 hry
  refine fin (run_eqGuard_agg (P:=P) w _ t x y xs ys hg) (by simp) (by simp) (by simp) (by simp) ?_
  refine jo6 (γ:=γ) (I:=I) 8 t _ 10000 _ _ _ _ b hl (by omega) ?_ ?_ hv
  ·unfold Ya;rw[hu];exact⟨xs,rfl,h1,h2⟩
  ·unfold Ya;rw[hu];exact⟨ys,rfl,h3,h4⟩
end
section
variable {P:Program}{E:Env}{w0 w:World}{I0:IMap}{nt:Nat}{γ:Nat→Option Place}{I:IMap}{st:St}{a:Act}{o:Oper}{ub:Nat}{δ:Delta}
theorem J1 {t:TypeId}{i:TypeInfo}{z:Value}(hi:P.info? t=some i) (hz:i.zero=some z):(zeroValue t).run P w=.ok z w:=by
 simp[zeroValue,typeInfo,hi,hz]
theorem leafOk {v:Value}{z:V}(hz:ja0 v=some z):RepP I v z∧z.leaf=true:=by
 unfold ja0 at hz
 split at hz <;> simp only[Option.some.injEq,reduceCtorEq]at hz <;> subst hz
 ·exact⟨.bool _,rfl⟩
 ·exact⟨.int _ _,rfl⟩
 ·exact⟨.str _,rfl⟩
 ·exact⟨.nilptr,rfl⟩
 ·exact⟨.slnil,rfl⟩
 ·exact⟨.nilmap,rfl⟩
 ·exact⟨.nilfn,rfl⟩
 ·exact⟨.nilif,rfl⟩
theorem jnu {cs:List Value}{l:List V}(h:cs.mapM ja0=some l):l.length=cs.length∧∀ (j:Nat) (x:Value) (v:V),cs[j]? = some x→l[j]? = some v→v.leaf=true∧RepP I x v:=by
 obtain⟨h1,h2⟩:=jp h
 exact⟨h1,fun j x v hx hv=>let ⟨a,b⟩:=leafOk (I:=I) (h2 j x v hx hv);⟨b,a⟩⟩
theorem YI {t:TypeId}{zs:List V}(h:Yw P t=some zs):∃i z,P.info? t=some i∧i.zero=some z∧zs.length=z.cells.size∧∀ (j:Nat) (x:Value) (v:V),z.cells[j]? = some x→zs[j]? = some v→v.leaf=true∧RepP I x v:=by
 unfold Yw at h
 obtain⟨i,hi,h2⟩:=bind_some h
 obtain⟨z,hz,h3⟩:=bind_some h2
 obtain⟨h4,h5⟩:=jnu (I:=I) h3
 exact⟨i,z,hi,hz,by simpa using h4,fun j x v hx hv=>h5 j x v (by simpa using hx) hv⟩
theorem je5 {x:Value}{v:V}(h:Rep γ I x v) (hl:v.cells.all V.leaf=true):x.cells.size=v.cells.length∧∀ (j:Nat) (y:Value) (u:V),x.cells[j]? = some y→v.cells[j]? = some u→u.leaf=true∧Rep γ I y u:=by
 have one:∀ {x:Value}{v:V},v.cells=[v]→x.cells = #[x]→v.leaf=true→Rep γ I x v→x.cells.size=v.cells.length∧∀ (j:Nat) (y:Value) (u:V),x.cells[j]? = some y→v.cells[j]? = some u→u.leaf=true∧Rep γ I y u:=by
  intro x v hv hx hl h
  rw[hv,hx]
  refine⟨rfl,fun j y u hy hu=>?_⟩
  cases j with
  | zero=>simp at hy hu;subst hy;subst hu;exact⟨hl,h⟩
  | succ j=>simp at hu
 cases v with
 | agg cs=>
  obtain⟨xs,rfl,h1,h2,h3⟩:=Y7 h
  exact⟨h1,fun j y u hy hu=>⟨h2 j u hu,h3 j y u hy hu⟩⟩
 | undef=>simp[V.cells,V.leaf]at hl
 | tup vs=>simp[V.cells,V.leaf]at hl
 | bool b=>have:=XF h;subst this;exact one rfl rfl rfl h
 | int k n=>have:=ju h;subst this;exact one rfl rfl rfl h
 | str s=>obtain⟨s',rfl,_⟩:=X7 h;exact one rfl rfl rfl h
 | nilptr=>have:=Xj h;subst this;exact one rfl rfl rfl h
 | nilmap=>have:=XO h;subst this;exact one rfl rfl rfl h
 | nilfn=>have:=jbb h;subst this;exact one rfl rfl rfl h
 | nilif=>have:=WB h;subst this;exact one rfl rfl rfl h
 | sl t nl n cs=>rcases Xz h with⟨rfl,_⟩|⟨_,_,_,rfl,_⟩ <;> exact one rfl rfl rfl h
 | eptr cs off=>obtain⟨_,_,rfl,_⟩:=QU h;exact one rfl rfl rfl h
 | ptr l u off=>obtain⟨_,_,_,rfl⟩:=YT h;exact one rfl rfl rfl h
 | osl l u off n sz=>obtain⟨_,_,_,_,_,rfl,_⟩:=Xi h;exact one rfl rfl rfl h
 | map l u=>obtain⟨_,_,_,rfl⟩:=Wf h;exact one rfl rfl rfl h
 | iter l u=>obtain⟨_,_,_,rfl⟩:=jdf h;exact one rfl rfl rfl h
 | yld l u=>obtain⟨_,_,_,rfl⟩:=jui h;exact one rfl rfl rfl h
 | fn f asg bs=>obtain⟨_,_,rfl,_⟩:=jeu h;exact one rfl rfl rfl h
 | iface t v=>obtain⟨_,rfl,_⟩:=jbc h;exact one rfl rfl rfl h
theorem jw5 (hR:R E w0 I0 nt γ I st a w) (hd:∀d,o.dst=some d→d<nt) (hf:γ ub=none) {e:TypeId}{zs:List V}{d:Nat}(ho:o.op=.alloc e) (hz:Yw P e=some zs)
 (ha:Jh d ub (.cells zs) (.ptr d ub 0)=some δ):XA P E w0 I0 nt γ I st a w o ub δ:=by
 obtain⟨i,z,hi,hz1,hlen,hcells⟩:=YI (I:=I) hz
 refine Yn hR hd hf (x:=.pointer (some ⟨w.heap.size,0,none⟩)) (obj:=.cells z.cells e) (k:=.n z.cells.size) ?_ rfl (fun γ' h=>.ptr _ _ _ _ _ h) ?_ ha
 ·simp only[execOp,ho,Instr.alloc,Sem.run_bind,J1 hi hz1,Result.andThen_ok]
  simp[newVar,newRow]
 ·exact⟨z.cells,e,rfl,rfl,Nat.le_of_eq hlen,fun j x v hx hv=>⟨(hcells j x v hx hv).1,.pure _ _ (hcells j x v hx hv).2⟩⟩
theorem j9j (hR:R E w0 I0 nt γ I st a w) (hd:∀d,o.dst=some d→d<nt) (hf:γ ub=none) {e:TypeId}{x:Operand}{x':A}{n d:Nat}(ho:o.op=.box e x) (hx:opd x=some x')
 (ha:(if (eval E st.tm x').cells.length=n∧(eval E st.tm x').cells.all V.leaf=true then Jh d ub (.cells (eval E st.tm x').cells) (.ptr d ub 0) else none)=some δ):XA P E w0 I0 nt γ I st a w o ub δ:=by
 split at ha
 ·rename_i h
  have hr:=jB hR hx
  obtain⟨h1,h2⟩:=je5 hr h.2
  refine Yn hR hd hf (x:=.pointer (some ⟨w.heap.size,0,none⟩)) (obj:=.cells (a.eval x).cells e) (k:=.n (a.eval x).cells.size) ?_ rfl (fun γ' h=>.ptr _ _ _ _ _ h) ?_ ha
  ·simp[execOp,ho,Instr.box,newVar,newRow]
  ·exact⟨_,e,rfl,rfl,Nat.le_of_eq h1.symm,h2⟩
 ·cases ha
theorem XH (b off n:Nat):(⟨b,off,none⟩:Addr).add n=⟨b,off+n,none⟩:=by
 unfold Addr.add
 split
 ·rename_i h;subst h;rfl
 ·rfl
def jrw (g:Option Nat) (f:Nat→Value):Value :=
 match g with
 | some n=>.agg ((List.range n).map f).toArray
 | none=>f 0
theorem Qy {t:TypeId}{g:Option Nat}(hg:jd4 P t=some g) {b off:Nat}(f:Nat→Value) (n:Nat) (hn:n=g.getD 1) (hc:∀j,j<n→w.cell? ⟨b,off+j,none⟩=some (f j)) :
 (loadVar t ⟨b,off,none⟩).run P w=.ok (jrw g f) w:=by
 unfold jd4 at hg
 obtain⟨d,hu,h2⟩:=bind_some hg
 unfold loadVar
 split at h2
 ·rename_i hagg
  obtain⟨m,hm,rfl⟩:=map_some h2
  simp only[Option.getD_some]at hn
  subst hn
  simp only[Sem.run_bind,W1 hu,hagg,Result.andThen_ok,if_true,ji hm]
  rw[run_loadCells w ⟨b,off,none⟩ n f (fun j hj=>by rw[XH];exact hc j hj)]
  rfl
 ·rename_i hagg
  cases h2
  simp only[Option.getD_none]at hn
  subst hn
  have:=hc 0 (by omega)
  simp only[Nat.add_zero]at this
  simp only[Sem.run_bind,W1 hu,hagg,Result.andThen_ok,Bool.false_eq_true,if_false,run_load,this,jrw]
theorem jhr {I:IMap}{g:Option Nat}{cs:List V}{off:Nat}{v:V}(hp:YH g cs off=some v) (f:Nat→Value)
 (hr:∀ (j:Nat) (u:V),j<g.getD 1→cs[off+j]? = some u→u.leaf=true∧Rep γ I (f j) u) :
 (∀j,j<g.getD 1→off+j<cs.length)∧Rep γ I (jrw g f) v:=by
 unfold YH at hp
 cases g with
 | none=>
  simp only at hp
  have hlt:=(List.getElem?_eq_some_iff.1 hp).1
  refine⟨fun j hj=>?_,(hr 0 v (by simp) (by simpa using hp)).2⟩
  simp only[Option.getD_none]at hj
  omega
 | some n=>
  simp only at hp
  split at hp
  ·rename_i hle
   simp only[Option.some.injEq]at hp
   subst hp
   refine⟨fun j hj=>by simp only[Option.getD_some]at hj;omega,?_⟩
   refine .agg _ _ (by simp;omega) (fun j u hu=>?_) (fun j x u hx hu=>?_)
   ·have hj:j<n:=by
     have:=(List.getElem?_eq_some_iff.1 hu).1
     simp only[List.length_take]at this
     omega
    rw[List.getElem?_take_of_lt hj,List.getElem?_drop]at hu
    exact(hr j u hj hu).1
   ·have hj:j<n:=by
     have:=(List.getElem?_eq_some_iff.1 hu).1
     simp only[List.length_take]at this
     omega
    rw[List.getElem?_take_of_lt hj,List.getElem?_drop]at hu
    simp[hj]at hx
    subst hx
    exact(hr j u hj hu).2
  ·cases hp
theorem j16 (hR:R E w0 I0 nt γ I st a w) (hd:∀d,o.dst=some d→d<nt) {t:TypeId}{x:Operand}{x':A}{g:Option Nat}(ho:o.op=.load t x) (hx:opd x=some x') (hg:jd4 P t=some g)
 (ha:(match eval E st.tm x' with
  | .eptr cs off=>(YH g cs off).bind one
  | .ptr l u off=>(j1 st.ob l u).bind fun cs=>(YH g cs off).bind one
  | _=>none)=some δ):XA P E w0 I0 nt γ I st a w o ub δ:=by
 have hr:=jB hR hx
 split at ha
 ·rename_i cs off he
  rw[he]at hr
  obtain⟨b,base,hx',xs,h1,h2,h3⟩:=QU hr
  obtain⟨v,hv,hδ⟩:=bind_some ha
  obtain⟨h4,h5⟩:=jhr (γ:=γ) (I:=I) hv (fun j=>xs (off+j)) (fun j u hj hu=>by
   have:=h2 _ _ hu
   refine⟨?_,.pure _ _ (h3 _ _ hu)⟩
   cases u <;> first|rfl|(simp[V.pureLeaf]at this))
  refine jW hR hd ?_ h5 hδ
  simp only[execOp,ho,hx',Instr.loadAt,Instr.sureAddr,Sem.run_bind,Sem.run_pure,Result.andThen_ok]
  rw[Qy hg (fun j=>xs (off+j)) _ rfl (fun j hj=>by
   rw[Nat.add_assoc];exact hR.imm _ _ _ (h1 _ (h4 j hj)))]
  rfl
 ·rename_i l u off he
  rw[he]at hr
  obtain⟨b,kb,hu,hx'⟩:=YT hr
  obtain⟨cs,hcs,ha⟩:=bind_some ha
  obtain⟨v,hv,hδ⟩:=bind_some ha
  unfold j1 at hcs
  split at hcs
  ·rename_i u' cs' hob
   split at hcs
   ·rename_i hu'
    cases hcs
    subst hu'
    obtain⟨Ω,hown⟩:=hR.own
    obtain⟨b',kb',k1,k2,k3,k4,k5⟩:=hown.ob l _ hob
    rw[hu]at k1
    cases k1
    obtain⟨arr,e,m1,m2,m4,m3⟩:=k4
    have hget:∀j,off+j<cs.length→arr[off+j]? = some (arr.getD (off+j) undef):=by
     intro j hj
     have:off+j<arr.size:=by omega
     simp[this]
    obtain⟨h4,h5⟩:=jhr (γ:=γ) (I:=I) hv (fun j=>arr.getD (off+j) undef) (fun j u hj hu=>m3 _ _ _ (hget j (List.getElem?_eq_some_iff.1 hu).1) hu)
    refine jW hR hd ?_ h5 hδ
    simp only[execOp,ho,hx',Instr.loadAt,Instr.sureAddr,Sem.run_bind,Sem.run_pure,Result.andThen_ok]
    rw[Qy hg (fun j=>arr.getD (off+j) undef) _ rfl (fun j hj=>by
     simp only[World.cell?,m1,Option.isSome_none,Bool.false_eq_true,if_false]
     exact hget j (h4 j hj))]
    rfl
   ·cases hcs
  ·cases hcs
 ·cases ha
end
section
variable {P:Program}{E:Env}{w0 w:World}{I0:IMap}{nt:Nat}{γ:Nat→Option Place}{I:IMap}{st:St}{a:Act}{o:Oper}{ub:Nat}{δ:Delta}
theorem jb {ob:ZO}{l u:Nat}{cs:List V}(h:j1 ob l u=some cs):ob l=some ⟨u,.cells cs⟩:=by
 unfold j1 at h
 split at h
 ·rename_i u' cs' hob
  split at h
  ·rename_i hu;cases h;subst hu;exact hob
  ·cases h
 ·cases h
theorem X1 {ob:ZO}{l u:Nat}{es:List (V × V)}(h:jR ob l u=some es):ob l=some ⟨u,.mp (jd ob l) es⟩:=by
 unfold jR at h
 split at h
 ·rename_i u' ver cs' hob
  unfold jd
  rw[hob]
  simp only
  split at h
  ·rename_i hu;cases h;subst hu;rfl
  ·cases h
 ·cases h
theorem Q2 (hR:R E w0 I0 nt γ I st a w) {l u b:Nat}{k:Kd}{cs:List V}(h:st.ob l=some ⟨u,.cells cs⟩) (hu:γ u=some (.obj b k)) :
 ∃arr e,w.heap[b]? = some (.cells arr e (0,0))∧arr.size=k.size∧cs.length≤k.size∧∀ (j:Nat) (x:Value) (v:V),arr[j]? = some x→cs[j]? = some v→v.leaf=true∧Rep γ I x v:=by
 obtain⟨Ω,hown⟩:=hR.own
 obtain⟨b',kb',k1,k2,k3,k4,k5⟩:=hown.ob l _ h
 rw[hu]at k1
 cases k1
 exact k4
theorem WT (cs:List V) (off:Nat) (vs:List V) (h:off+vs.length≤cs.length):(j6 cs off vs).length=cs.length:=by
 simp only[j6,List.length_append,List.length_take,List.length_drop]
 omega
theorem jbq (cs:List V) (off:Nat) (vs:List V) (h:off+vs.length≤cs.length) (j:Nat) :
 (j6 cs off vs)[j]? = if off≤j∧j<off+vs.length then vs[j - off]? else cs[j]?:=by
 simp only[j6]
 by_cases h1:j<off
 ·rw[List.append_assoc,List.getElem?_append_left (by simp only[List.length_take];omega),List.getElem?_take_of_lt h1,if_neg (by omega)]
 ·by_cases h2:j<off+vs.length
  ·rw[List.getElem?_append_left (by simp only[List.length_append,List.length_take];omega),List.getElem?_append_right (by simp only[List.length_take];omega),if_pos (by omega)]
   congr 1
   simp only[List.length_take]
   omega
  ·rw[List.getElem?_append_right (by simp only[List.length_append,List.length_take];omega),if_neg (by omega),List.getElem?_drop]
   congr 1
   simp only[List.length_append,List.length_take]
   omega
theorem jwt (hR:R E w0 I0 nt γ I st a w) (hd:∀d,o.dst=some d→d<nt) {t:TypeId}{x y:Operand}{x' y':A}{n:Nat}(ho:o.op=.store t x y) (hx:opd x=some x') (hy:opd y=some y') (hn:Qe P t=some n)
 (ha:(match eval E st.tm x' with
  | .ptr l u off=>(j1 st.ob l u).bind fun cs=>
   if Nat.ble st.ro u=true∧(eval E st.tm y').cells.length=n∧off+n≤cs.length∧(eval E st.tm y').cells.all V.leaf=true then
    some { v:=jm,obs:=[(l,⟨u,.cells (j6 cs off (eval E st.tm y').cells)⟩)] } else none
  | _=>none)=some δ):XA P E w0 I0 nt γ I st a w o ub δ:=by
 have hrx:=jB hR hx
 have hry:=jB hR hy
 split at ha
 ·rename_i l u off he
  rw[he]at hrx
  obtain⟨b,kb,hu,hx'⟩:=YT hrx
  obtain⟨cs,hcs,ha⟩:=bind_some ha
  split at ha
  ·rename_i hc
   obtain⟨hro,h1,h2,h3⟩:=hc
   have hob:=jb hcs
   obtain⟨arr,e,m1,m2,m4,m3⟩:=Q2 hR hob hu
   obtain⟨c1,c2⟩:=je5 hry h3
   generalize hV:(a.eval y).cells=vals at c1 c2
   have hone:∀v∈vals.toList,v.oneCell'=true:=by
    intro v hv
    obtain⟨j,hj,rfl⟩:=List.mem_iff_getElem.1 hv
    have hj':j<vals.size:=by simpa using hj
    have hq:(eval E st.tm y').cells[j]? = some ((eval E st.tm y').cells[j]'(by omega)):=List.getElem?_eq_getElem _
    obtain⟨l1,l2⟩:=c2 j _ _ (Array.getElem?_eq_getElem hj') hq
    have:=l2.oneCell l1
    simpa using this
   have hlen:vals.toList.length=n:=by simp;omega
   have hst:=run_storeCells_at P b off e vals.toList 0 arr w m1 (by simp only[Nat.add_zero];omega) hone
   simp only[Nat.add_zero]at hst
   refine W0 hR hd hob hro (body':=.cells (j6 cs off (eval E st.tm y').cells)) (x:=undef) (v:=jm)
    (w':=w.setRow b (arr.toList.take off++vals.toList++arr.toList.drop (off+vals.toList.length)).toArray) (.inr ⟨?_,rfl⟩) (.tup _ _ rfl (by simp)) (fun v es h=>by cases h) ?_ ha
   ·have hsv:(storeVar t ⟨b,off,none⟩ (a.eval y)).run P w=.ok () (w.setRow b (arr.toList.take off++vals.toList++arr.toList.drop (off+vals.toList.length)).toArray):=by
     unfold storeVar
     rw[hV]
     have hvs:¬ (vals.size≠n):=by omega
     simp only[Sem.run_bind,ji hn,Result.andThen_ok,hvs,if_false,hst]
    simp only[execOp,ho,hx',Instr.storeAt,Instr.sureAddr,Sem.run_bind,Sem.run_pure,Result.andThen_ok,hsv]
   ·intro b' k' hb' hlt
    rw[hu]at hb'
    cases hb'
    refine⟨rfl,rfl,rfl,by simp,fun k hk=>setRow_other w b k _ hk,?_⟩
    rw[setRow_heap w b arr _ e _ m1]
    refine⟨_,e,rfl,?_,by rw[WT _ _ _ (by omega)];exact m4,?_⟩
    ·simp only[List.size_toArray,List.length_append,List.length_take,List.length_drop,Array.length_toList]
     omega
    ·intro j x v hx hv
     rw[jbq _ _ _ (by omega)]at hv
     simp only[List.getElem?_toArray]at hx
     by_cases hj:off≤j∧j<off+(eval E st.tm y').cells.length
     ·rw[if_pos hj]at hv
      rw[List.getElem?_append_left (by simp only[List.length_append,List.length_take,Array.length_toList];omega),List.getElem?_append_right (by simp only[List.length_take,Array.length_toList];omega)]at hx
      have hq:j - (List.take off arr.toList).length=j - off:=by simp only[List.length_take,Array.length_toList];omega
      rw[hq]at hx
      exact c2 (j - off) x v (by simpa using hx) hv
     ·rw[if_neg hj]at hv
      refine m3 j x v ?_ hv
      by_cases h1:j<off
      ·rw[List.append_assoc,List.getElem?_append_left (by simp only[List.length_take,Array.length_toList];omega),List.getElem?_take_of_lt h1]at hx
       simpa using hx
      ·rw[List.getElem?_append_right (by simp only[List.length_append,List.length_take,Array.length_toList];omega),List.getElem?_drop]at hx
       have hq:off+vals.toList.length+(j - (List.take off arr.toList++vals.toList).length)=j:=by
        simp only[List.length_append,List.length_take,Array.length_toList]
        omega
       rw[hq]at hx
       simpa using hx
  ·cases ha
 ·cases ha
theorem jle (hR:R E w0 I0 nt γ I st a w) (hd:∀d,o.dst=some d→d<nt) {x:Operand}{x':A}(ho:o.op=.nilCheck x) (hx:opd x=some x')
 (ha:(match eval E st.tm x' with
  | .ptr l u o=>one (.ptr l u o)
  | .eptr cs o=>one (.eptr cs o)
  | .fn (.func f) a b=>one (.fn (.func f) a b)
  | _=>none)=some δ):XA P E w0 I0 nt γ I st a w o ub δ:=by
 have hr:=jB hR hx
 split at ha
 ·rename_i he
  rw[he]at hr
  have hr':=hr
  obtain⟨b,_,_,hx'⟩:=YT hr'
  exact jW hR hd (x:=a.eval x) (by simp only[execOp,ho,hx',Sem.run_pure]) hr ha
 ·rename_i he
  rw[he]at hr
  have hr':=hr
  obtain⟨b,_,hx',_⟩:=QU hr'
  exact jW hR hd (x:=a.eval x) (by simp only[execOp,ho,hx',Sem.run_pure]) hr ha
 ·rename_i he
  rw[he]at hr
  have hr':=hr
  obtain⟨_,_,hx',_⟩:=jeu hr'
  exact jW hR hd (x:=a.eval x) (by simp only[execOp,ho,hx',Sem.run_pure]) hr ha
 ·cases ha
theorem jdm {X:Value}{v v':V}{n:Nat}(h:Rep γ I X v) (hv:(∃l u o,v=.ptr l u o∧v'=.ptr l u (o+n))∨∃cs o,v=.eptr cs o∧v'=.eptr cs (o+n)) :
 ∃ad,X=.pointer (some ad)∧ad.spot=none∧Rep γ I (.pointer (some (ad.add n))) v':=by
 rcases hv with⟨l,u,o,rfl,rfl⟩|⟨cs,o,rfl,rfl⟩
 ·obtain⟨b,kb,hu,rfl⟩:=YT h
  exact⟨_,rfl,rfl,by rw[XH];exact .ptr _ _ _ _ _ hu⟩
 ·obtain⟨b,base,rfl,xs,h1,h2,h3⟩:=QU h
  exact⟨_,rfl,rfl,by rw[XH,Nat.add_assoc];exact .pure _ _ (.eptr b base (o+n) cs xs h1 h2 h3)⟩
theorem jja (hR:R E w0 I0 nt γ I st a w) (hd:∀d,o.dst=some d→d<nt) {t:TypeId}{x:Operand}{x':A}{f:Nat}{fd:Field}{n:Nat}(ho:o.op=.fieldAddr t x f) (hx:opd x=some x') (hfd:jcd P t f=some fd)
 (hn:Qe P fd.type=some n) (hn0:n≠0)
 (ha:(match eval E st.tm x' with
  | .ptr l u o=>one (.ptr l u (o+fd.offset))
  | .eptr cs o=>one (.eptr cs (o+fd.offset))
  | _=>none)=some δ):XA P E w0 I0 nt γ I st a w o ub δ:=by
 have hr:=jB hR hx
 have hu:∃fs,P.underlying t=some (.struct fs)∧fs[f]? = some fd:=by
  unfold jcd at hfd
  split at hfd
  ·exact⟨_,by assumption,hfd⟩
  ·cases hfd
 obtain⟨fs,hu,hf⟩:=hu
 have go:∀ (ad:Addr) (v':V),a.eval x=.pointer (some ad)→Rep γ I (.pointer (some (ad.add fd.offset))) v'→one v'=some δ→XA P E w0 I0 nt γ I st a w o ub δ:=by
  intro ad v' hx' hrep hδ
  refine jW hR hd ?_ hrep hδ
  simp only[execOp,ho,hx',Instr.fieldAt,Instr.sureAddr,Sem.run_bind,run_underlying hu,Result.andThen_ok,hf,Sem.run_pure,fieldPlace,ji hn,hn0,if_false,Sem.run_ite]
 split at ha
 ·rename_i l u o' he
  rw[he]at hr
  obtain⟨ad,hx',_,hrep⟩:=jdm (n:=fd.offset) hr (.inl ⟨_,_,_,rfl,rfl⟩)
  exact go ad _ hx' hrep ha
 ·rename_i cs o' he
  rw[he]at hr
  obtain⟨ad,hx',_,hrep⟩:=jdm (n:=fd.offset) hr (.inr ⟨_,_,rfl,rfl⟩)
  exact go ad _ hx' hrep ha
 ·cases ha
theorem jsv (hR:R E w0 I0 nt γ I st a w) (hd:∀d,o.dst=some d→d<nt) {t e:TypeId}{x i:Operand}{x' i':A}{len n:Nat}(ho:o.op=.indexAddr t x i) (hx:opd x=some x') (hi:opd i=some i') (hu:P.underlying t=some (.array len e))
 (hn:Qe P e=some n)
 (ha:(match eval E st.tm x',eval E st.tm i' with
  | .ptr l u off,.int _ i=>if 0≤i∧i<len then one (.ptr l u (off+i.toNat*n)) else none
  | .eptr cs off,.int _ i=>if 0≤i∧i<len then one (.eptr cs (off+i.toNat*n)) else none
  | _,_=>none)=some δ):XA P E w0 I0 nt γ I st a w o ub δ:=by
 have hr:=jB hR hx
 have hri:=jB hR hi
 have go:∀ (k:IntKind) (j:Int) (ad:Addr) (v':V),a.eval x=.pointer (some ad)→a.eval i=.int k j→0≤j∧j<len→Rep γ I (.pointer (some (ad.add (j.toNat*n)))) v'→one v'=some δ→XA P E w0 I0 nt γ I st a w o ub δ:=by
  intro k j ad v' hx' hi' hj hrep hδ
  refine jW hR hd ?_ hrep hδ
  simp only[execOp,ho,hx',hi',Instr.indexAt,Instr.sureAddr,asIntOf,Sem.run_bind,run_underlying hu,Result.andThen_ok,Sem.run_pure,hj,and_self,if_true,ji hn]
 split at ha
 ·rename_i he hei
  rw[he]at hr
  rw[hei]at hri
  have hi':=ju hri
  split at ha
  ·rename_i hj
   obtain⟨ad,hx',_,hrep⟩:=jdm (n:=_) hr (.inl ⟨_,_,_,rfl,rfl⟩)
   exact go _ _ ad _ hx' hi' hj hrep ha
  ·cases ha
 ·rename_i he hei
  rw[he]at hr
  rw[hei]at hri
  have hi':=ju hri
  split at ha
  ·rename_i hj
   obtain⟨ad,hx',_,hrep⟩:=jdm (n:=_) hr (.inr ⟨_,_,rfl,rfl⟩)
   exact go _ _ ad _ hx' hi' hj hrep ha
  ·cases ha
 ·cases ha
theorem jw0 (hR:R E w0 I0 nt γ I st a w) (hd:∀d,o.dst=some d→d<nt) {t e:TypeId}{x i:Operand}{x' i':A}{n:Nat}(ho:o.op=.indexAddr t x i) (hx:opd x=some x') (hi:opd i=some i') (hu:P.underlying t=some (.slice e))
 (hn:Qe P e=some n) (hn0:n≠0)
 (ha:(match eval E st.tm x',eval E st.tm i' with
  | .sl _ _ m cs,.int _ i=>if 0≤i∧i<m∧cs.length=m*n then one (.eptr cs (i.toNat*n)) else none
  | .osl l u off m sz',.int _ i=>if 0≤i∧i<m∧sz'=n then one (.ptr l u (off+i.toNat*n)) else none
  | _,_=>none)=some δ):XA P E w0 I0 nt γ I st a w o ub δ:=by
 have hr:=jB hR hx
 have hri:=jB hR hi
 have go:∀ (k:IntKind) (j:Int) (ad:Addr) (m cap:Nat) (v':V),a.eval x=.slice (some ad) m cap→a.eval i=.int k j→0≤j∧j<m→Rep γ I (.pointer (some (ad.add (j.toNat*n)))) v'→one v'=some δ→XA P E w0 I0 nt γ I st a w o ub δ:=by
  intro k j ad m cap v' hx' hi' hj hrep hδ
  refine jW hR hd ?_ hrep hδ
  simp only[execOp,ho,hx',hi',Instr.indexAt,asIntOf,Sem.run_bind,run_underlying hu,Result.andThen_ok,Sem.run_pure,hj,and_self,if_true,ji hn]
 split at ha
 ·rename_i he hei
  rw[he]at hr
  rw[hei]at hri
  have hi':=ju hri
  split at ha
  ·rename_i t' nl m cs k j hj
   rcases Xz hr with⟨_,_,_,rfl,_⟩|⟨ad,cap,xs,hx',_,hs,_,_,h1,h2,h3,_⟩
   ·omega
   ·have hcs:cs=[]∨ad.spot=none:=by
     rcases cs with _|⟨c,cs⟩
     ·exact .inl rfl
     ·exact .inr (hs (by simp))
    refine go _ _ ad _ _ _ hx' hi' ⟨hj.1,hj.2.1⟩ ?_ ha
    rcases hcs with rfl|hsp
    ·have h:=hj.2.2
     simp only[List.length_nil]at h
     rcases Nat.mul_eq_zero.1 h.symm with h|h
     ·omega
     ·exact absurd h hn0
    ·obtain⟨b,o',sp⟩:=ad
     simp only at hsp
     subst hsp
     rw[XH]
     exact .pure _ _ (.eptr b o' _ cs xs h1 h2 h3)
  ·cases ha
 ·rename_i he hei
  rw[he]at hr
  rw[hei]at hri
  have hi':=ju hri
  split at ha
  ·rename_i hj
   obtain⟨b,kb,ad,cap,hu',hx',had,hcap,_⟩:=Xi hr
   have:=(had (by omega)).1
   subst this
   refine go _ _ _ _ _ _ hx' hi' ⟨hj.1,hj.2.1⟩ ?_ ha
   rw[XH]
   exact .ptr _ _ _ _ _ hu'
  ·cases ha
 ·cases ha
end
section
variable {P:Program}{E:Env}{w0 w:World}{I0:IMap}{nt:Nat}{γ:Nat→Option Place}{I:IMap}{st:St}{a:Act}{o:Oper}{ub:Nat}{δ:Delta}
theorem jcm {t:TypeId}{g:Option Nat}{off:Nat}{xs:Array Value}{cs:List V}{v:V}(hg:jd4 P t=some g) (hp:YH g cs off=some v) (hs:xs.size=cs.length)
 (hl:∀ (j:Nat) (u:V),cs[j]? = some u→u.leaf=true) (hr:∀ (j:Nat) (y:Value) (u:V),xs[j]? = some y→cs[j]? = some u→Rep γ I y u) :
 ∃x,(part t xs off).run P w=.ok x w∧Rep γ I x v:=by
 unfold jd4 at hg
 obtain⟨d,hu,h2⟩:=bind_some hg
 unfold part
 split at h2
 ·rename_i hagg
  obtain⟨m,hm,rfl⟩:=map_some h2
  simp only[YH]at hp
  split at hp
  ·rename_i hle
   cases hp
   refine⟨.agg (xs.extract off (off+m)),by simp only[Sem.run_bind,W1 hu,hagg,Result.andThen_ok,if_true,ji hm,Sem.run_pure],?_⟩
   refine .agg _ _ (by simp only[Array.size_extract,List.length_take,List.length_drop];omega) (fun j u hu=>?_) (fun j x u hx hu=>?_)
   ·have hj:j<m:=by
     have:=(List.getElem?_eq_some_iff.1 hu).1
     simp only[List.length_take]at this
     omega
    rw[List.getElem?_take_of_lt hj,List.getElem?_drop]at hu
    exact hl _ _ hu
   ·have hj:j<m:=by
     have:=(List.getElem?_eq_some_iff.1 hu).1
     simp only[List.length_take]at this
     omega
    rw[List.getElem?_take_of_lt hj,List.getElem?_drop]at hu
    simp only[Array.getElem?_extract]at hx
    split at hx
    ·exact hr _ _ _ hx hu
    ·cases hx
  ·cases hp
 ·rename_i hagg
  cases h2
  simp only[YH]at hp
  have hlt:=(List.getElem?_eq_some_iff.1 hp).1
  have hlt':off<xs.size:=by omega
  exact⟨xs[off],by simp only[Sem.run_bind,W1 hu,hagg,Result.andThen_ok,Bool.false_eq_true,if_false,Array.getElem?_eq_getElem hlt',Sem.run_pure],hr _ _ _ (Array.getElem?_eq_getElem hlt') hp⟩
theorem jw1 (hR:R E w0 I0 nt γ I st a w) (hd:∀d,o.dst=some d→d<nt) {t:TypeId}{x:Operand}{x':A}{f:Nat}{fd:Field}{g:Option Nat}(ho:o.op=.field t x f) (hx:opd x=some x') (hfd:jcd P t f=some fd)
 (hg:jd4 P fd.type=some g)
 (ha:(match eval E st.tm x' with
  | .agg cs=>(YH g cs fd.offset).bind one
  | _=>none)=some δ):XA P E w0 I0 nt γ I st a w o ub δ:=by
 have hr:=jB hR hx
 have hu:∃fs,P.underlying t=some (.struct fs)∧fs[f]? = some fd:=by
  unfold jcd at hfd
  split at hfd
  ·exact⟨_,by assumption,hfd⟩
  ·cases hfd
 obtain⟨fs,hu,hf⟩:=hu
 split at ha
 ·rename_i cs he
  rw[he]at hr
  obtain⟨xs,hx',h1,h2,h3⟩:=Y7 hr
  obtain⟨v,hv,hδ⟩:=bind_some ha
  obtain⟨y,hy,hrep⟩:=jcm (P:=P) (w:=w) (γ:=γ) (I:=I) hg hv h1 h2 h3
  refine jW hR hd ?_ hrep hδ
  simp only[execOp,ho,hx',Instr.field,asAgg,Sem.run_bind,run_underlying hu,Result.andThen_ok,hf,Sem.run_pure,hy]
 ·cases ha
theorem jst (hR:R E w0 I0 nt γ I st a w) (hd:∀d,o.dst=some d→d<nt) {t e:TypeId}{x i:Operand}{x' i':A}{len n:Nat}{g:Option Nat}(ho:o.op=.index t x i) (hx:opd x=some x') (hi:opd i=some i') (hu:P.underlying t=some (.array len e))
 (hn:Qe P e=some n) (hg:jd4 P e=some g)
 (ha:(match eval E st.tm x',eval E st.tm i' with
  | .agg cs,.int _ i=>if 0≤i∧i<len then (YH g cs (i.toNat*n)).bind one else none
  | _,_=>none)=some δ):XA P E w0 I0 nt γ I st a w o ub δ:=by
 have hr:=jB hR hx
 have hri:=jB hR hi
 split at ha
 ·rename_i cs k j he hei
  rw[he]at hr
  rw[hei]at hri
  have hi':=ju hri
  obtain⟨xs,hx',h1,h2,h3⟩:=Y7 hr
  split at ha
  ·rename_i hj
   obtain⟨v,hv,hδ⟩:=bind_some ha
   obtain⟨y,hy,hrep⟩:=jcm (P:=P) (w:=w) (γ:=γ) (I:=I) hg hv h1 h2 h3
   refine jW hR hd ?_ hrep hδ
   simp only[execOp,ho,hx',hi',Instr.index,asIntOf,Sem.run_bind,run_underlying hu,Result.andThen_ok,Sem.run_pure,hj,and_self,if_true,ji hn,hy]
  ·cases ha
 ·cases ha
theorem jsu (hR:R E w0 I0 nt γ I st a w) (hd:∀d,o.dst=some d→d<nt) {t:TypeId}{x i:Operand}{x' i':A}(ho:o.op=.index t x i) (hx:opd x=some x') (hi:opd i=some i') (hu:P.underlying t=some .string)
 (ha:(match eval E st.tm x',eval E st.tm i' with
  | .str s,.int _ i=>if 0≤i then (s[i.toNat]?).bind fun b=>one (.int .u8 b.toNat) else none
  | _,_=>none)=some δ):XA P E w0 I0 nt γ I st a w o ub δ:=by
 have hr:=jB hR hx
 have hri:=jB hR hi
 split at ha
 ·rename_i s k j he hei
  rw[he]at hr
  rw[hei]at hri
  have hi':=ju hri
  obtain⟨bs,hx',rfl⟩:=X7 hr
  split at ha
  ·rename_i hj
   obtain⟨b,hb,hδ⟩:=bind_some ha
   refine jW hR hd (x:=.int .u8 b.toNat) ?_ (.pure _ _ (.int _ _)) hδ
   have hlt:j.toNat<bs.size:=by
    have:=(List.getElem?_eq_some_iff.1 hb).1
    simpa using this
   have hq:bs[j.toNat]? = some b:=by
    have h2:=(List.getElem?_eq_some_iff.1 hb).2
    rw[getElem?_pos bs j.toNat hlt]
    congr 1
   simp only[execOp,ho,hx',hi',Instr.index,asIntOf,Sem.run_bind,run_underlying hu,Result.andThen_ok,Sem.run_pure,hj,if_true,hq]
  ·cases ha
 ·cases ha
theorem jpj (hR:R E w0 I0 nt γ I st a w) (hd:∀d,o.dst=some d→d<nt) {x:Operand}{x':A}{i:Nat}(ho:o.op=.extract x i) (hx:opd x=some x')
 (ha:(match eval E st.tm x' with
  | .tup vs=>(vs[i]?).bind one
  | _=>none)=some δ):XA P E w0 I0 nt γ I st a w o ub δ:=by
 have hr:=jB hR hx
 split at ha
 ·rename_i vs he
  rw[he]at hr
  obtain⟨xs,hx',h1,h2⟩:=j3d hr
  obtain⟨v,hv,hδ⟩:=bind_some ha
  have hlt:i<xs.size:=by have:=(List.getElem?_eq_some_iff.1 hv).1;omega
  refine jW hR hd (x:=xs[i]) ?_ (h2 i _ _ (Array.getElem?_eq_getElem hlt) hv) hδ
  simp only[execOp,ho,hx',Instr.extract,Array.getElem?_eq_getElem hlt,Sem.run_bind,Sem.run_pure,Result.andThen_ok]
 ·cases ha
theorem Wa (hR:R E w0 I0 nt γ I st a w) {xs:Array Operand}{ys:List A}(h:opds xs=some ys):(xs.map a.eval).size=(ys.map (eval E st.tm)).length ∧
 ∀ (j:Nat) (x:Value) (v:V),(xs.map a.eval)[j]? = some x→(ys.map (eval E st.tm))[j]? = some v→Rep γ I x v:=by
 obtain⟨h1,h2⟩:=jp h
 refine⟨by simpa using h1.symm,fun j x v hx hv=>?_⟩
 simp only[Array.getElem?_map,List.getElem?_map,Option.map_eq_some_iff]at hx hv
 obtain⟨p,hp,rfl⟩:=hx
 obtain⟨q,hq,rfl⟩:=hv
 exact jB hR (h2 j p q (by simpa using hp) hq)
theorem j15 (hR:R E w0 I0 nt γ I st a w) (hd:∀d,o.dst=some d→d<nt) {f:Fn}{xs ys:Array Operand}{xs' ys':List A}(ho:o.op=.makeFunc f xs ys) (hx:opds xs=some xs') (hy:opds ys=some ys')
 (ha:one (.fn f (xs'.map (eval E st.tm)) (ys'.map (eval E st.tm)))=some δ):XA P E w0 I0 nt γ I st a w o ub δ:=by
 obtain⟨h1,h2⟩:=Wa hR hx
 obtain⟨h3,h4⟩:=Wa hR hy
 exact jW hR hd (x:=.func f (xs.map a.eval) (ys.map a.eval)) (by simp only[execOp,ho,Instr.makeFunc,Sem.run_bind,Sem.run_pure,Result.andThen_ok]) (.fn _ _ _ _ _ h1 h3 h2 h4) ha
theorem jwz (hR:R E w0 I0 nt γ I st a w) (hd:∀d,o.dst=some d→d<nt) {t:TypeId}{x:Operand}{x':A}{d:TypeDesc}(ho:o.op=.makeInterface t x) (hx:opd x=some x') (hu:P.underlying t=some d) (hni:∀ms,d≠.interface ms)
 (ha:one (.iface t (eval E st.tm x'))=some δ):XA P E w0 I0 nt γ I st a w o ub δ:=by
 refine jW hR hd (x:=.iface t (a.eval x)) ?_ (.iface _ _ _ (jB hR hx)) ha
 simp only[execOp,ho,Instr.makeInterface,Sem.run_bind,run_underlying hu,Result.andThen_ok]
 cases d <;> first|rfl|(exact absurd rfl (hni _))
theorem j18 (hR:R E w0 I0 nt γ I st a w) (hd:∀d,o.dst=some d→d<nt) {s t:TypeId}{x:Operand}{x':A}{k q:IntKind}(ho:o.op=.convert s t x) (hx:opd x=some x') (hs:P.underlying s=some (.int q)) (hu:P.underlying t=some (.int k))
 (ha:(match eval E st.tm x' with
  | .int _ n=>one (.int k (k.wrap n))
  | _=>none)=some δ):XA P E w0 I0 nt γ I st a w o ub δ:=by
 have hr:=jB hR hx
 split at ha
 ·rename_i he
  rw[he]at hr
  have hx':=ju hr
  refine jW hR hd (x:=.int k _) ?_ (.pure _ _ (.int _ _)) ha
  simp only[execOp,ho,hx',convert,Sem.run_bind,run_underlying hs,run_underlying hu,Result.andThen_ok,Conv.intToInt,Sem.run_pure]
 ·cases ha
theorem jsw (hR:R E w0 I0 nt γ I st a w) (hd:∀d,o.dst=some d→d<nt) {s t:TypeId}{x:Operand}{x':A}(ho:o.op=.convert s t x) (hx:opd x=some x') (hs:P.underlying s=some .string) (hu:P.underlying t=some .string)
 (ha:(match eval E st.tm x' with
  | .str s=>one (.str s)
  | _=>none)=some δ):XA P E w0 I0 nt γ I st a w o ub δ:=by
 have hr:=jB hR hx
 split at ha
 ·rename_i he
  rw[he]at hr
  have hr':=hr
  obtain⟨bs,hx',rfl⟩:=X7 hr
  refine jW hR hd (x:=a.eval x) ?_ hr' ha
  simp only[execOp,ho,hx',convert,Sem.run_bind,run_underlying hs,run_underlying hu,Result.andThen_ok,Sem.run_pure]
 ·cases ha
theorem W2 {isS:Bool}{len cap cap':Nat}{lo hi:Option Value}{vlo vhi:Option V}{l h:Nat}(hb:X6 len cap vlo vhi=some (l,h)) (hc:cap≤cap')
 (hlo:∀v,vlo=some v→∃x,lo=some x∧Rep γ I x v) (hlo0:vlo=none→lo=none) (hhi:∀v,vhi=some v→∃x,hi=some x∧Rep γ I x v) (hhi0:vhi=none→hi=none) :
 (Instr.sliceBounds isS len cap' lo hi none).run P w=.ok (l,h,cap') w∧l≤h∧(h≤cap∨h=len):=by
 unfold X6 at hb
 obtain⟨h',hh,hb⟩:=bind_some hb
 have hhi':((hi=none∧len=h')∨∃x,hi=some x∧∀code,(Instr.sliceBound x cap' code).run P w=.ok h' w)∧(h'≤cap∨h'=len):=by
  cases vhi with
  | none=>
   simp only[Option.some.injEq]at hh
   exact⟨.inl ⟨hhi0 rfl,hh⟩,.inr hh.symm⟩
  | some v=>
   obtain⟨x,rfl,hx⟩:=hhi v rfl
   cases v with
   | int k n=>
    have:=ju hx
    subst this
    simp only at hh
    split at hh
    ·rename_i hn
     simp only[Option.some.injEq]at hh
     subst hh
     exact⟨.inr ⟨_,rfl,fun code=>run_sliceBound w k n cap' code hn.1 (by omega)⟩,.inl (by omega)⟩
    ·cases hh
   | _=>simp only[reduceCtorEq]at hh
 have hlo':((lo=none∧l=0)∨∃x,lo=some x∧∀code,(Instr.sliceBound x h' code).run P w=.ok l w)∧l≤h'∧h'=h:=by
  cases vlo with
  | none=>
   simp only[Option.some.injEq,Prod.mk.injEq]at hb
   obtain⟨rfl,rfl⟩:=hb
   exact⟨.inl ⟨hlo0 rfl,rfl⟩,Nat.zero_le _,rfl⟩
  | some v=>
   obtain⟨x,rfl,hx⟩:=hlo v rfl
   cases v with
   | int k n=>
    have:=ju hx
    subst this
    simp only at hb
    split at hb
    ·rename_i hn
     simp only[Option.some.injEq,Prod.mk.injEq]at hb
     obtain⟨rfl,rfl⟩:=hb
     exact⟨.inr ⟨_,rfl,fun code=>run_sliceBound w k n h' code hn.1 hn.2⟩,by omega,rfl⟩
    ·cases hb
   | _=>simp only[reduceCtorEq]at hb
 obtain⟨q1,q2,rfl⟩:=hlo'
 refine⟨?_,q2,hhi'.2⟩
 unfold Instr.sliceBounds
 rcases hhi'.1 with⟨rfl,rfl⟩|⟨x,rfl,e1⟩ <;> rcases q1 with⟨rfl,rfl⟩|⟨y,rfl,e2⟩ <;> simp[*]
end
section
variable {P:Program}{E:Env}{w0 w:World}{I0:IMap}{nt:Nat}{γ:Nat→Option Place}{I:IMap}{st:St}{a:Act}{o:Oper}{ub:Nat}{δ:Delta}
theorem Xm (hR:R E w0 I0 nt γ I st a w) {x:Option Operand}{x':Option A}(h:Yv x=some x') :
 (∀v,x'.map (eval E st.tm)=some v→∃y,x.map a.eval=some y∧Rep γ I y v)∧(x'.map (eval E st.tm)=none→x.map a.eval=none):=by
 unfold Yv at h
 cases x with
 | none=>cases h;exact⟨fun v hv=>(by cases hv),fun _=>rfl⟩
 | some x=>
  obtain⟨y,hy,rfl⟩:=map_some h
  refine⟨fun v hv=>?_,fun hv=>(by cases hv)⟩
  simp only[Option.map_some,Option.some.injEq]at hv
  subst hv
  exact⟨_,rfl,jB hR hy⟩
theorem jwu (hR:R E w0 I0 nt γ I st a w) (hd:∀d,o.dst=some d→d<nt) {t:TypeId}{x:Operand}{x':A}{lo hi:Option Operand}{lo' hi':Option A}(ho:o.op=.slice t x lo hi none) (hx:opd x=some x') (hl:Yv lo=some lo') (hh:Yv hi=some hi')
 (hu:P.underlying t=some .string)
 (ha:(match eval E st.tm x' with
  | .str s=>(X6 s.length s.length (lo'.map (eval E st.tm)) (hi'.map (eval E st.tm))).bind fun(l,h)=>one (.str ((s.take h).drop l))
  | _=>none)=some δ):XA P E w0 I0 nt γ I st a w o ub δ:=by
 have hr:=jB hR hx
 split at ha
 ·rename_i s he
  rw[he]at hr
  obtain⟨bs,hx',rfl⟩:=X7 hr
  obtain⟨⟨l,h⟩,hb,hδ⟩:=bind_some ha
  have hlen:bs.data.toList.length=bs.size:=by simp
  rw[hlen]at hb
  obtain⟨c1,c2⟩:=Xm hR hl
  obtain⟨d1,d2⟩:=Xm hR hh
  obtain⟨hrun,hlh,_⟩:=W2 (P:=P) (w:=w) (γ:=γ) (I:=I) (isS:=false) hb (Nat.le_refl _) c1 c2 d1 d2
  refine jW hR hd (x:=.string (bs.extract l h)) ?_ ?_ hδ
  ·simp only[execOp,ho,hx',Instr.sliceAt,Instr.slice,Sem.run_bind,run_underlying hu,Result.andThen_ok,Option.map_none,Option.isSome_none,Bool.false_eq_true,if_false,hrun,Sem.run_pure]
  ·have:(bs.data.toList.take h).drop l=(bs.extract l h).data.toList:=by
    rw[ByteArray.data_extract]
    simp[List.drop_take]
   rw[this]
   exact .pure _ _ (.str _)
 ·cases ha
theorem j03 {ad:Addr}{n cap sz l h:Nat}{cs:List V}{xs:Nat→Value}(hlen:cs.length=n*sz) (hs:cs≠[]→ad.spot=none) (hc:n≤cap) (hm:cap≤maxLen)
 (hi:∀j,j<cs.length→I ad.block (ad.off+j)=some (xs j)) (hl:∀ (j:Nat) (v:V),cs[j]? = some v→v.pureLeaf=true) (hr:∀ (j:Nat) (v:V),cs[j]? = some v→RepP I (xs j) v)
 (h1:l≤h) (h2:h≤n):RepP I (.slice (some (if cap=l then ad else ad.add (l*sz))) (h - l) (cap - l)) (.sl none false (h - l) ((cs.take (h*sz)).drop (l*sz))):=by
 have hcs:((cs.take (h*sz)).drop (l*sz)).length=(h - l)*sz:=by
  have:h*sz≤n*sz:=Nat.mul_le_mul_right _ h2
  simp only[List.length_drop,List.length_take,Nat.sub_mul]
  omega
 have hget:∀ (j:Nat) (v:V),((cs.take (h*sz)).drop (l*sz))[j]? = some v→cs[l*sz+j]? = some v:=by
  intro j v hv
  rw[List.getElem?_drop,List.getElem?_take]at hv
  split at hv
  ·exact hv
  ·cases hv
 -- where nothing lies behind,there is no cell
 have hne:(cs.take (h*sz)).drop (l*sz)≠[]→cap≠l∧ad.spot=none:=by
  intro hne
  have hpos:0<((cs.take (h*sz)).drop (l*sz)).length:=List.length_pos_iff.2 hne
  refine⟨fun e=>?_,hs (fun e=>?_)⟩
  ·have hhl:h - l=0:=by omega
   rw[hcs,hhl,Nat.zero_mul]at hpos
   omega
  ·rw[e]at hpos
   simp at hpos
 refine .sl _ _ _ _ (fun j=>xs (l*sz+j)) ?_ (by omega) (by omega) (fun j hj=>?_) (fun j v hv=>hl _ _ (hget j v hv)) (fun j v hv=>hr _ _ (hget j v hv))
 ·intro he
  obtain⟨g1,g2⟩:=hne he
  rw[if_neg g1]
  unfold Addr.add
  split
  ·exact g2
  ·rfl
 ·have he:(cs.take (h*sz)).drop (l*sz)≠[]:=by
   intro e
   rw[e]at hj
   simp at hj
  obtain⟨g1,g2⟩:=hne he
  rw[if_neg g1]
  obtain⟨b,off,sp⟩:=ad
  simp only at g2
  subst g2
  rw[XH]
  simp only at hi ⊢
  rw[Nat.add_assoc]
  have hlt:l*sz+j<cs.length:=by
   have:h*sz≤n*sz:=Nat.mul_le_mul_right _ h2
   have h3:l*sz≤h*sz:=Nat.mul_le_mul_right _ h1
   simp only[List.length_drop,List.length_take]at hj
   omega
  exact hi _ hlt
theorem je7 {len:Nat}{lo hi:Option V}{l h:Nat}(hb:X6 len len lo hi=some (l,h)):h≤len:=by
 unfold X6 at hb
 obtain⟨h',hh,hb⟩:=bind_some hb
 have hle:h'≤len:=by
  split at hh
  ·split at hh
   ·rename_i hn;simp only[Option.some.injEq]at hh;omega
   ·cases hh
  ·cases hh
  ·simp only[Option.some.injEq]at hh;omega
 split at hb
 ·split at hb
  ·simp only[Option.some.injEq,Prod.mk.injEq]at hb;omega
  ·cases hb
 ·cases hb
 ·simp only[Option.some.injEq,Prod.mk.injEq]at hb;omega
theorem j12 (hR:R E w0 I0 nt γ I st a w) (hd:∀d,o.dst=some d→d<nt) {t e:TypeId}{x:Operand}{x':A}{lo hi:Option Operand}{lo' hi':Option A}{n:Nat}(ho:o.op=.slice t x lo hi none) (hx:opd x=some x') (hl:Yv lo=some lo') (hh:Yv hi=some hi')
 (hu:P.underlying t=some (.slice e)) (hn:Qe P e=some n)
 (ha:(match eval E st.tm x' with
  | .sl _ nl m cs=>if cs.length=m*n then (X6 m m (lo'.map (eval E st.tm)) (hi'.map (eval E st.tm))).bind fun(l,h)=>one (.sl none nl (h - l) ((cs.take (h*n)).drop (l*n))) else none
  | .osl q u off m sz'=>if sz'=n then (X6 m m (lo'.map (eval E st.tm)) (hi'.map (eval E st.tm))).bind fun(l,h)=>one (.osl q u (off+l*n) (h - l) n) else none
  | _=>none)=some δ):XA P E w0 I0 nt γ I st a w o ub δ:=by
 have hr:=jB hR hx
 obtain⟨c1,c2⟩:=Xm hR hl
 obtain⟨d1,d2⟩:=Xm hR hh
 split at ha
 ·rename_i tk nl m cs he
  rw[he]at hr
  split at ha
  ·rename_i hlen
   obtain⟨⟨l,h⟩,hb,hδ⟩:=bind_some ha
   have hhm:=je7 hb
   rcases Xz hr with⟨hx',_,rfl,rfl,rfl⟩|⟨ad,cap,xs,hx',rfl,hs,hc,hm,h1,h2,h3,_⟩
   ·obtain⟨hrun,hlh,_⟩:=W2 (P:=P) (w:=w) (γ:=γ) (I:=I) (isS:=true) hb (Nat.le_refl _) c1 c2 d1 d2
    have hh0:h=0:=by omega
    have hl0:l=0:=by omega
    subst hh0;subst hl0
    refine jW hR hd (x:=.slice none 0 0) ?_ (by simpa using Rep.pure (γ:=γ) _ _ (RepP.slnil (I:=I))) hδ
    simp only[execOp,ho,hx',Instr.sliceAt,Instr.slice,Sem.run_bind,run_underlying hu,Result.andThen_ok,Option.map_none,hrun,ji hn,Sem.run_pure,if_true]
   ·obtain⟨hrun,hlh,_⟩:=W2 (P:=P) (w:=w) (γ:=γ) (I:=I) (isS:=true) hb hc c1 c2 d1 d2
    refine jW hR hd (x:=.slice (some (if cap=l then ad else ad.add (l*n))) (h - l) (cap - l)) ?_ (.pure _ _ (j03 hlen hs hc hm h1 h2 h3 hlh hhm)) hδ
    simp only[execOp,ho,hx',Instr.sliceAt,Instr.slice,Sem.run_bind,run_underlying hu,Result.andThen_ok,Option.map_none,hrun,ji hn,Sem.run_pure]
    split <;> rfl
  ·cases ha
 ·rename_i q u off m sz' he
  rw[he]at hr
  split at ha
  ·rename_i hsz
   subst hsz
   obtain⟨⟨l,h⟩,hb,hδ⟩:=bind_some ha
   have hhm:=je7 hb
   obtain⟨b,kb,ad,cap,hu',hx',had,hc,hm⟩:=Xi hr
   obtain⟨hrun,hlh,_⟩:=W2 (P:=P) (w:=w) (γ:=γ) (I:=I) (isS:=true) hb hc c1 c2 d1 d2
   refine jW hR hd (x:=.slice (some (if cap=l then ad else ad.add (l*sz'))) (h - l) (cap - l)) ?_ (.osl _ _ _ _ _ _ b kb _ hu' (fun hpos=>?_) (by omega) (by omega)) hδ
   ·simp only[execOp,ho,hx',Instr.sliceAt,Instr.slice,Sem.run_bind,run_underlying hu,Result.andThen_ok,Option.map_none,hrun,ji hn,Sem.run_pure]
    split <;> rfl
   ·obtain⟨had1,had2⟩:=had (by omega)
    subst had1
    rw[if_neg (by omega),XH]
    refine⟨rfl,?_⟩
    rw[Nat.add_assoc,← Nat.add_mul,show l+(cap - l)=cap by omega]
    exact had2
  ·cases ha
 ·cases ha
theorem jwv (hR:R E w0 I0 nt γ I st a w) (hd:∀d,o.dst=some d→d<nt) {t e:TypeId}{x:Operand}{x':A}{lo hi:Option Operand}{lo' hi':Option A}{len n:Nat}(ho:o.op=.slice t x lo hi none) (hx:opd x=some x') (hl:Yv lo=some lo') (hh:Yv hi=some hi')
 (hu:P.underlying t=some (.array len e)) (hlen:len≤maxLen) (hn:Qe P e=some n)
 (ha:(match eval E st.tm x' with
  | .ptr q u off=>(j1 st.ob q u).bind fun cs=>if off+len*n≤cs.length then (X6 len len (lo'.map (eval E st.tm)) (hi'.map (eval E st.tm))).bind fun(l,h)=>one (.osl q u (off+l*n) (h - l) n) else none
  | _=>none)=some δ):XA P E w0 I0 nt γ I st a w o ub δ:=by
 have hr:=jB hR hx
 obtain⟨c1,c2⟩:=Xm hR hl
 obtain⟨d1,d2⟩:=Xm hR hh
 split at ha
 ·rename_i q u off he
  rw[he]at hr
  obtain⟨b,kb,hu',hx'⟩:=YT hr
  obtain⟨cs,hcs,ha⟩:=bind_some ha
  split at ha
  case isFalse=>cases ha
  rename_i hfit
  obtain⟨_,_,_,_,hcl,_⟩:=Q2 hR (jb hcs) hu'
  obtain⟨⟨l,h⟩,hb,hδ⟩:=bind_some ha
  have hhm:=je7 hb
  obtain⟨hrun,hlh,_⟩:=W2 (P:=P) (w:=w) (γ:=γ) (I:=I) (isS:=false) hb (Nat.le_refl _) c1 c2 d1 d2
  refine jW hR hd (x:=.slice (some (if len=l then ⟨b,off,none⟩ else (⟨b,off,none⟩:Addr).add (l*n))) (h - l) (len - l)) ?_ (.osl _ _ _ _ _ _ b kb _ hu' (fun hpos=>?_) (by omega) (by omega)) hδ
  ·simp only[execOp,ho,hx',Instr.sliceAt,Instr.sureAddr,Sem.run_bind,run_underlying hu,Result.andThen_ok,Option.map_none,hrun,ji hn,Sem.run_pure]
  ·rw[if_neg (by omega),XH]
   refine⟨rfl,?_⟩
   rw[Nat.add_assoc,← Nat.add_mul,show l+(len - l)=len by omega]
   omega
 ·cases ha
theorem jsr (hR:R E w0 I0 nt γ I st a w) (hd:∀d,o.dst=some d→d<nt) {t:TypeId}{x:Operand}{x':A}{ats:Array TypeId}(ho:o.op=.call { callee:=.builtin .len,args:=#[x],argTypes:=ats }) (hx:opd x=some x') (ht:ats[0]? = some t) (hu:P.underlying t=some .string)
 (ha:(match eval E st.tm x' with
  | .str s=>one (.int .i64 s.length)
  | _=>none)=some δ):XA P E w0 I0 nt γ I st a w o ub δ:=by
 have hr:=jB hR hx
 split at ha
 ·rename_i he
  rw[he]at hr
  obtain⟨bs,hx',rfl⟩:=X7 hr
  refine jW hR hd (x:=.int .i64 bs.size) ?_ (by simpa using Rep.pure (γ:=γ) (I:=I) _ _ (RepP.int .i64 (bs.size:Int))) ha
  simp only[execOp,ho,resolve,Sem.run_bind,Sem.run_pure,Result.andThen_ok,invoke,builtin,List.map_toArray,List.map_cons,List.map_nil,hx',Builtin.len_,ht]
  simp[run_underlying hu,goInt]
 ·cases ha
theorem jwy (hR:R E w0 I0 nt γ I st a w) (hd:∀d,o.dst=some d→d<nt) {t e:TypeId}{x:Operand}{x':A}{ats:Array TypeId}(ho:o.op=.call { callee:=.builtin .len,args:=#[x],argTypes:=ats }) (hx:opd x=some x') (ht:ats[0]? = some t) (hu:P.underlying t=some (.slice e))
 (ha:(match eval E st.tm x' with
  | .sl _ _ n _=>one (.int .i64 n)
  | .osl _ _ _ n _=>one (.int .i64 n)
  | _=>none)=some δ):XA P E w0 I0 nt γ I st a w o ub δ:=by
 have hr:=jB hR hx
 have go:∀ (ad:Option Addr) (n cap:Nat),a.eval x=.slice ad n cap→one (.int .i64 n)=some δ→XA P E w0 I0 nt γ I st a w o ub δ:=by
  intro ad n cap hx' hδ
  refine jW hR hd (x:=.int .i64 n) ?_ (.pure _ _ (.int _ _)) hδ
  simp only[execOp,ho,resolve,Sem.run_bind,Sem.run_pure,Result.andThen_ok,invoke,builtin,List.map_toArray,List.map_cons,List.map_nil,hx',Builtin.len_,ht]
  simp[run_underlying hu,goInt]
 split at ha
 ·rename_i he
  rw[he]at hr
  rcases Xz hr with⟨hx',_,_,rfl,_⟩|⟨ad,cap,xs,hx',_⟩
  ·exact go _ _ _ hx' ha
  ·exact go _ _ _ hx' ha
 ·rename_i he
  rw[he]at hr
  obtain⟨_,_,_,_,_,hx',_⟩:=Xi hr
  exact go _ _ _ hx' ha
 ·cases ha
theorem jss (hR:R E w0 I0 nt γ I st a w) (hd:∀d,o.dst=some d→d<nt) {t k e:TypeId}{x:Operand}{x':A}{ats:Array TypeId}(ho:o.op=.call { callee:=.builtin .len,args:=#[x],argTypes:=ats }) (hx:opd x=some x') (ht:ats[0]? = some t) (hu:P.underlying t=some (.map k e))
 (ha:(match eval E st.tm x' with
  | .nilmap=>one (.int .i64 0)
  | .map l u=>(jR st.ob l u).bind fun es=>one (.int .i64 es.length)
  | _=>none)=some δ):XA P E w0 I0 nt γ I st a w o ub δ:=by
 have hr:=jB hR hx
 split at ha
 ·rename_i he
  rw[he]at hr
  have hx':=XO hr
  refine jW hR hd (x:=.int .i64 0) ?_ (.pure _ _ (.int _ _)) ha
  simp only[execOp,ho,resolve,Sem.run_bind,Sem.run_pure,Result.andThen_ok,invoke,builtin,List.map_toArray,List.map_cons,List.map_nil,hx',Builtin.len_,ht]
  simp[run_underlying hu,goInt]
 ·rename_i he
  rw[he]at hr
  obtain⟨b,kb,hu',hx'⟩:=Wf hr
  obtain⟨es,hes,hδ⟩:=bind_some ha
  have hob:=X1 hes
  obtain⟨Ω,hown⟩:=hR.own
  obtain⟨b',kb',k1,k2,k3,k4,k5⟩:=hown.ob _ _ hob
  rw[hu']at k1
  cases k1
  obtain⟨m,clock,h1,h2,h3⟩:=k4
  have h2:m.size=es.length:=by rw[← h2.1,Array.length_toList]
  refine jW hR hd (x:=.int .i64 m.size) ?_ (by rw[h2];exact .pure _ _ (.int _ _)) hδ
  have hg:(getObj b).run P w=.ok (.map m clock) w:=by simp[getObj,Sem.run,h1]
  simp only[execOp,ho,resolve,Sem.run_bind,Sem.run_pure,Result.andThen_ok,invoke,builtin,List.map_toArray,List.map_cons,List.map_nil,hx',Builtin.len_,ht]
  simp[run_underlying hu,goInt,hg]
 ·cases ha
end
section
variable {P:Program}{E:Env}{w0 w:World}{I0:IMap}{nt:Nat}{γ:Nat→Option Place}{I:IMap}{st:St}{a:Act}{o:Oper}{ub:Nat}{δ:Delta}
def jol (γ:Nat→Option Place) (I:IMap) (xs:Array Value) (cs:List V):Prop :=
 xs.size=cs.length∧∀ (j:Nat) (x:Value) (v:V),xs[j]? = some x→cs[j]? = some v→v.leaf=true∧Rep γ I x v
theorem jj4 (off:Nat):∀ (vs:List Value) (k:Nat) (cells:Array Value),off+k+vs.length≤cells.size →
 ((vs.zipIdx k).foldl (fun cs (c:Value × Nat)=>cs.setIfInBounds (off+c.2) c.1) cells).size=cells.size ∧
 ∀j,((vs.zipIdx k).foldl (fun cs (c:Value × Nat)=>cs.setIfInBounds (off+c.2) c.1) cells)[j]? = if off+k≤j∧j<off+k+vs.length then vs[j - (off+k)]? else cells[j]?
 | [],k,cells,_=>by
  simp only[List.zipIdx_nil,List.foldl_nil,List.length_nil,Nat.add_zero]
  refine⟨trivial,fun j=>?_⟩
  rw[if_neg (by omega)]
 | v::vs,k,cells,h=>by
  simp only[List.length_cons]at h
  simp only[List.zipIdx_cons,List.foldl_cons]
  obtain⟨h1,h2⟩:=jj4 off vs (k+1) (cells.setIfInBounds (off+k) v) (by simp only[Array.size_setIfInBounds];omega)
  refine⟨by rw[h1];simp,fun j=>?_⟩
  rw[h2 j]
  simp only[List.length_cons]
  by_cases hj:j=off+k
  ·subst hj
   rw[if_neg (by omega),if_pos (by omega)]
   have:off+k<cells.size:=by omega
   simp[this]
  ·by_cases hj2:off+(k+1)≤j∧j<off+(k+1)+vs.length
   ·rw[if_pos hj2,if_pos (by omega)]
    have:j - (off+k)=(j - (off+(k+1)))+1:=by omega
    rw[this,List.getElem?_cons_succ]
   ·rw[if_neg hj2,if_neg (by omega),Array.getElem?_setIfInBounds_ne (fun e=>hj e.symm)]
theorem jdj (hR:R E w0 I0 nt γ I st a w) {place:Nat→Option (Nat × Nat)}:∀ {ps:List (Nat × Operand)}{l:List (Nat × Nat × A)}{cells:Array Value}{cs cs':List V},
 ps.mapM (fun(p:Nat × Operand)=>(place p.1).bind fun q=>(opd p.2).map fun a=>(q.1,q.2,a))=some l→jol γ I cells cs→fill cs (jq (eval E st.tm) l)=some cs' →
 ∃cells',Instr.fill place cells (ps.map fun p=>(p.1,a.eval p.2))=some cells'∧jol γ I cells' cs'
 | [],l,cells,cs,cs',h,hr,hf=>by
  simp at h
  subst h
  simp only[jq,List.map_nil,fill,Option.some.injEq]at hf
  subst hf
  exact⟨cells,rfl,hr⟩
 | p::ps,l,cells,cs,cs',h,hr,hf=>by
  simp only[List.mapM_cons]at h
  cases hp:place p.1 with
  | none=>simp[hp]at h
  | some q=>
   cases ho:opd p.2 with
   | none=>simp[hp,ho]at h
   | some y=>
    cases hm:ps.mapM (fun(p:Nat × Operand)=>(place p.1).bind fun q=>(opd p.2).map fun a=>(q.1,q.2,a)) with
    | none=>simp[hp,ho,hm]at h
    | some l'=>
     simp[hp,ho,hm]at h
     subst h
     simp only[jq,List.map_cons,fill]at hf
     split at hf
     ·rename_i hc
      obtain⟨c1,c2,c3⟩:=hc
      obtain⟨d1,d2⟩:=je5 (jB hR ho) c3
      have hsz:(a.eval p.2).cells.size=q.2:=by omega
      obtain⟨f1,f2⟩:=jj4 q.1 (a.eval p.2).cells.toList 0 cells (by have:=hr.1;simp only[Nat.add_zero,Array.length_toList];omega)
      have hr':jol γ I ((a.eval p.2).cells.zipIdx.foldl (fun cs (c:Value × Nat)=>cs.setIfInBounds (q.1+c.2) c.1) cells) (j6 cs q.1 (eval E st.tm y).cells):=by
       rw[← Array.foldl_toList,Array.toList_zipIdx]
       refine⟨by rw[f1,WT _ _ _ (by omega)];exact hr.1,fun j x v hx hv=>?_⟩
       rw[f2 j]at hx
       rw[jbq _ _ _ (by omega)]at hv
       simp only[Nat.add_zero,Array.length_toList]at hx
       by_cases hj:q.1≤j∧j<q.1+(eval E st.tm y).cells.length
       ·rw[if_pos (by omega)]at hx
        rw[if_pos hj]at hv
        exact d2 _ x v (by simpa using hx) hv
       ·rw[if_neg (by omega)]at hx
        rw[if_neg hj]at hv
        exact hr.2 j x v hx hv
      obtain⟨cells',h1,h2⟩:=jdj hR hm hr' hf
      refine⟨cells',?_,h2⟩
      simp only[List.map_cons,Instr.fill,hp]
      rw[if_neg]
      ·exact h1
      ·have:=hr.1
       simp only[hsz,ne_eq,not_true_eq_false,decide_false,Bool.false_or,decide_eq_true_eq,gt_iff_lt]
       omega
     ·cases hf
theorem Wl {place:Nat→Option (Nat × Nat)}{ps:Array (Nat × Operand)}{l:List (Nat × Nat × A)}(h:YZ place ps=some l) :
 ps.toList.mapM (fun(p:Nat × Operand)=>(place p.1).bind fun q=>(opd p.2).map fun a=>(q.1,q.2,a))=some l:=h
theorem jnm (hR:R E w0 I0 nt γ I st a w) (hd:∀d,o.dst=some d→d<nt) {t:TypeId}{ps:Array (Nat × Operand)}{l:List (Nat × Nat × A)}{zs:List V}{place:Nat→Option (Nat × Nat)}(ho:o.op=.build t ps) (hz:Yw P t=some zs)
 (hpl:(∃fs places,P.underlying t=some (.struct fs)∧fs.toList.mapM (fun f=>(P.info? f.type).map fun i=>(f.offset,i.size))=some places∧place=(places.toArray[·]?)) ∨
  (∃n e s,P.underlying t=some (.array n e)∧Qe P e=some s∧place=fun i=>some (i*s,s)))
 (hl:YZ place ps=some l) (ha:((fill zs (jq (eval E st.tm) l)).bind fun cs=>one (.agg cs))=some δ):XA P E w0 I0 nt γ I st a w o ub δ:=by
 obtain⟨cs,hcs,hδ⟩:=bind_some ha
 obtain⟨i,z,hi,hz1,hlen,hcells⟩:=YI (I:=I) hz
 obtain⟨cells',h1,h2⟩:=jdj hR (Wl hl) ⟨hlen.symm,fun j x v hx hv=>⟨(hcells j x v hx hv).1,.pure _ _ (hcells j x v hx hv).2⟩⟩ hcs
 have hb:P.built t (ps.map fun(p:Nat × Operand)=>(p.1,a.eval p.2)).toList=some cells':=by
  unfold Program.built
  rcases hpl with⟨fs,places,hu,hp,rfl⟩|⟨n,e,s,hu,hs,rfl⟩
  ·simp only[hi,hu,hz1,hp,Array.toList_map]
   exact h1
  ·unfold Qe at hs
   obtain⟨ie,hie,rfl⟩:=map_some hs
   simp only[hi,hu,hz1,hie,Array.toList_map]
   exact h1
 refine jW hR hd (x:=.agg cells') ?_ (.agg _ _ h2.1 (fun j v hv=>?_) (fun j x v hx hv=>(h2.2 j x v hx hv).2)) hδ
 ·simp only[execOp,ho,Sem.run_bind,run_build w t _ cells' hb,Result.andThen_ok,Sem.run_pure]
 ·have hlt:j<cells'.size:=by have:=(List.getElem?_eq_some_iff.1 hv).1;have:=h2.1;omega
  exact(h2.2 j _ v (Array.getElem?_eq_getElem hlt) hv).1
theorem jdu (v:V):v.strip1.leaf=v.leaf:=by cases v <;> rfl
theorem Ys {x:Value}{v:V}(h:Rep γ I x v) (hp:v.strip1.pureLeaf=true):RepP I x v.strip1:=by
 cases v with
 | sl t nl n cs=>
  rcases Xz h with⟨rfl,rfl,rfl,rfl,rfl⟩|⟨ad,cap,xs,rfl,rfl,h1,h2,h3,h4,h5,h6,_⟩
  ·exact .slnil
  ·exact .sl _ _ _ _ _ h1 h2 h3 h4 h5 h6
 | iface t v=>
  cases h with
  | pure _ _ h=>exact h
  | iface _ x _ hr=>
   refine .iface _ _ _ ?_
   cases v with
   | agg cs=>
    cases cs with
    | nil=>
     cases hr with
     | pure _ _ h=>exact h
     | agg _ _ hlen hl hr=>exact .agg _ _ hlen hl (fun j x v _ hv=>by simp at hv)
    | cons c cs=>simp[V.strip1,V.pureLeaf]at hp
   | _=>simp[V.strip1,V.pureLeaf]at hp <;> (cases hr;assumption)
 | _=>first|(cases h <;> assumption)|(exfalso;revert hp;simp[V.strip1,V.pureLeaf];done)
theorem jda {z:Value}{zs:List V}(hlen:zs.length=z.cells.size) (hc:∀ (j:Nat) (x:Value) (v:V),z.cells[j]? = some x→zs[j]? = some v→v.leaf=true∧RepP I x v) (n:Nat) (hn:n*zs.length=0∨0<zs.length) :
 jol γ I ((Array.range (n*zs.length)).map (z.cells[· % z.cells.size]!)) (jcp n zs):=by
 refine⟨by simp[jcp],fun j x v hx hv=>?_⟩
 simp only[jcp,List.getElem?_map,Option.map_eq_some_iff]at hv
 obtain⟨j',hj',rfl⟩:=hv
 have hjlt:j<n*zs.length:=by have:=(List.getElem?_eq_some_iff.1 hj').1;simpa using this
 have hjj:j'=j:=by
  rw[List.getElem?_range hjlt]at hj'
  exact(Option.some.inj hj').symm
 subst hjj
 have hpos:0<zs.length:=by rcases hn with h|h <;> omega
 have hm:j' % zs.length<zs.length:=Nat.mod_lt _ hpos
 have hm2:j' % z.cells.size<z.cells.size:=by rw[← hlen];exact hm
 have e1:x=z.cells[j' % z.cells.size]:=by
  simp[hjlt]at hx
  rw[← hx]
  simp[hm2]
 have e2:zs.getD (j' % zs.length) .undef=zs[j' % zs.length]:=by simp[List.getD,hm]
 rw[e2,e1]
 have hq:zs[j' % zs.length]? = some zs[j' % zs.length]:=List.getElem?_eq_getElem hm
 have hz:z.cells[j' % zs.length]? = some z.cells[j' % z.cells.size]:=by
  have:j' % zs.length=j' % z.cells.size:=by rw[hlen]
  rw[this]
  exact Array.getElem?_eq_getElem hm2
 obtain⟨l1,l2⟩:=hc _ _ _ hz hq
 exact⟨l1,.pure _ _ l2⟩
theorem jpk (hR:R E w0 I0 nt γ I st a w) (hd:∀d,o.dst=some d→d<nt) (hf:γ ub=none) {t e:TypeId}{ps:Array (Nat × Operand)}{l:List (Nat × Nat × A)}{zs:List V}{n s:Nat}(ho:o.op=.buildSlice t n ps)
 (hu:P.underlying t=some (.slice e)) (hs:Qe P e=some s) (hz:Yw P e=some zs) (hzs:zs.length=s) (hs0:0<s) (hns:n*s≤16777216) (hl:YZ (fun i=>some (i*s,s)) ps=some l)
 (ha:((fill (jcp n zs) (jq (eval E st.tm) l)).bind fun cs=>
  if cs.length=n*s∧(cs.map V.strip1).all V.pureLeaf=true then some { v:=V.sl (some (ub,s)) false n (cs.map V.strip1),add:=[ub] } else none)=some δ):XA P E w0 I0 nt γ I st a w o ub δ:=by
 obtain⟨cs,hcs,ha'⟩:=bind_some ha
 split at ha'
 ·rename_i hc
  obtain⟨i,z,hi,hz1,hlen,hcells⟩:=YI (I:=I) hz
  subst hzs
  obtain⟨cells',h1,h2⟩:=jdj hR (Wl hl) (jda (γ:=γ) (I:=I) hlen hcells n (.inr hs0)) hcs
  have hcap:n≤maxLen:=by
   have:n≤n*zs.length:=Nat.le_mul_of_pos_right n hs0
   simp only[maxLen];omega
  refine jms hR hd hf (b:=w.heap.size) (n:=n) (cap:=n) (sz:=zs.length) (cs:=cs.map V.strip1) (w':=w.alloc (.cells cells' e)) (del:=none) (arr:=cells') (e:=e)
   ?_ (.inl ⟨rfl,by simp⟩) ⟨rfl,rfl,rfl⟩ (fun k hk _=>heap_alloc_old _ _ _ hk) (heap_alloc_new _ _) (by rw[h2.1,hc.1]) (Nat.le_refl _) hcap ?_ (by simpa using hc.1) ?_ ha'
  ·have hsz:i.size=zs.length:=by unfold Qe at hs;rw[hi]at hs;exact Option.some.inj hs
   have hbig:¬ (n*zs.length > 16777216):=by omega
   have h1':Instr.fill (fun i=>some (i*zs.length,zs.length)) ((Array.range (n*zs.length)).map (z.cells[· % z.cells.size]!)) ((ps.map fun(p:Nat × Operand)=>(p.1,a.eval p.2)).toList)=some cells':=by
    rw[Array.toList_map];exact h1
   have hrun:(Instr.buildSlice t n (ps.map fun(p:Nat × Operand)=>(p.1,a.eval p.2))).run P w=.ok (.slice (some ⟨w.heap.size,0,none⟩) n n) (w.alloc (.cells cells' e)):=by
    unfold Instr.buildSlice
    simp only[Sem.run_bind,run_underlying hu,Result.andThen_ok,ji hs,Nat.reducePow,hbig,if_false]
    by_cases h0:n*zs.length=0
    ·have hnz:n=0:=by rcases Nat.mul_eq_zero.1 h0 with h|h <;> omega
     subst hnz
     have hm:∀f:Nat→Value,(Array.range 0).map f = #[]:=fun f=>by simp[Array.range]
     simp only[Nat.zero_mul,hm]at h1'
     simp only[Nat.zero_mul,if_true,hm,h1']
     simp[newRow]
    ·simp only[h0,if_false,Sem.run_bind,J1 hi hz1,Result.andThen_ok,Sem.run_pure,h1']
     simp[newRow]
   simp only[execOp,ho,Sem.run_bind,hrun,Result.andThen_ok,Sem.run_pure]
  ·intro j x hx
   exact absurd (World.block_lt_of_cell? _ _ (hR.imm _ _ _ hx)) (Nat.lt_irrefl _)
  ·intro j v hv
   simp only[List.getElem?_map,Option.map_eq_some_iff]at hv
   obtain⟨u,hu',rfl⟩:=hv
   have hp:u.strip1.pureLeaf=true:=List.all_eq_true.1 hc.2 _ (List.mem_map.2 ⟨u,List.mem_of_getElem? hu',rfl⟩)
   have hlt:j<cells'.size:=by have:=(List.getElem?_eq_some_iff.1 hu').1;have:=h2.1;omega
   have:=(h2.2 j _ u (Array.getElem?_eq_getElem hlt) hu').2
   exact⟨hp,_,Array.getElem?_eq_getElem hlt,Ys this hp⟩
 ·cases ha'
end
section
variable {P:Program}{E:Env}{w0 w:World}{I0:IMap}{nt:Nat}{γ:Nat→Option Place}{I:IMap}{st:St}{a:Act}{o:Oper}{ub:Nat}{δ:Delta}
theorem Xn {v:V}(h:v.pureLeaf=true):v.strip1=v:=by
 cases v <;> first|rfl|skip
 rename_i t nl n cs
 cases t with
 | none=>rfl
 | some u=>simp[V.pureLeaf]at h
theorem RepP.oneCell {x:Value}{v:V}(h:RepP I x v) (hl:v.pureLeaf=true):x.oneCell'=true :=
 (Rep.pure (γ:=fun _=>none) x v h).oneCell (by cases v <;> first|rfl|(simp[V.pureLeaf]at hl))
theorem jg6 (hR:R E w0 I0 nt γ I st a w) {X:Value}{vx:V}{sz:Nat}{ys:List V}(hr:Rep γ I X vx) (hy:jI st.ob sz vx=some ys) (hp:ys.all V.leaf=true) (hs0:0<sz) :
 (X=.slice none 0 0∧ys=[])∨∃ (ad:Addr) (m c:Nat) (news:List Value),X=.slice (some ad) m c∧m≤c∧ys.length=m*sz∧news.length=ys.length∧(∀ (j:Nat) (u:Value),news[j]? = some u→w.cell? (ad.add j)=some u) ∧
  (∀ (j:Nat) (x:Value) (v:V),news[j]? = some x→ys[j]? = some v→Rep γ I x v)∧(∀u∈news,u.oneCell'=true):=by
 have fin:∀ (ad:Addr) (m c:Nat) (f:Nat→Value),X=.slice (some ad) m c→m≤c→ys.length=m*sz→(∀j,j<ys.length→w.cell? (ad.add j)=some (f j))→(∀ (j:Nat) (v:V),ys[j]? = some v→Rep γ I (f j) v) →
  ∃ (ad:Addr) (m c:Nat) (news:List Value),X=.slice (some ad) m c∧m≤c∧ys.length=m*sz∧news.length=ys.length∧(∀ (j:Nat) (u:Value),news[j]? = some u→w.cell? (ad.add j)=some u) ∧
  (∀ (j:Nat) (x:Value) (v:V),news[j]? = some x→ys[j]? = some v→Rep γ I x v)∧(∀u∈news,u.oneCell'=true):=by
  intro ad m c f h1 h2 h3 h4 h5
  have hget:∀ (j:Nat) (u:Value),((List.range ys.length).map f)[j]? = some u→j<ys.length∧u=f j:=by
   intro j u hu
   simp only[List.getElem?_map,Option.map_eq_some_iff]at hu
   obtain⟨k,hk,rfl⟩:=hu
   have hj:j<ys.length:=by have:=(List.getElem?_eq_some_iff.1 hk).1;simpa using this
   rw[List.getElem?_range hj]at hk
   cases hk
   exact⟨hj,rfl⟩
  refine⟨ad,m,c,(List.range ys.length).map f,h1,h2,h3,by simp,fun j u hu=>?_,fun j x v hx hv=>?_,fun u hu=>?_⟩
  ·obtain⟨hj,rfl⟩:=hget j u hu;exact h4 j hj
  ·obtain⟨hj,rfl⟩:=hget j x hx;exact h5 j v hv
  ·obtain⟨j,hj,rfl⟩:=List.mem_map.1 hu
   have hj':j<ys.length:=by simpa using hj
   have hv:ys[j]? = some ys[j]:=List.getElem?_eq_getElem hj'
   exact(h5 j _ hv).oneCell (List.all_eq_true.1 hp _ (List.mem_of_getElem? hv))
 unfold jI at hy
 split at hy
 ·rename_i t nl n cs
  split at hy
  ·rename_i hlen
   cases hy
   rcases Xz hr with⟨rfl,_,_,_,rfl⟩|⟨ad,cap,xs,rfl,_,h1,h2,h3,h4,h5,h6,_⟩
   ·exact .inl ⟨rfl,rfl⟩
   ·refine .inr (fin ad n cap xs rfl h2 hlen (fun j hj=>?_) (fun j v hv=>.pure _ _ (h6 j v hv)))
    have hsp:=h1 (fun e=>by rw[e]at hj;simp at hj)
    obtain⟨b,off,sp⟩:=ad
    simp only at hsp
    subst hsp
    rw[XH]
    exact hR.imm _ _ _ (h4 j hj)
  ·cases hy
 ·rename_i l u off n sz'
  split at hy
  ·rename_i hsz
   subst hsz
   obtain⟨cs,hcs,hy⟩:=bind_some hy
   split at hy
   ·rename_i hle
    cases hy
    obtain⟨b,kb,ad,cap,hu,rfl,had,hc,hm⟩:=Xi hr
    obtain⟨arr,e,m1,m2,m4,m3⟩:=Q2 hR (jb hcs) hu
    have hlen:((cs.drop off).take (n*sz')).length=n*sz':=by simp only[List.length_take,List.length_drop];omega
    refine .inr (fin ad n cap (fun j=>arr.getD (off+j) undef) rfl hc hlen (fun j hj=>?_) (fun j v hv=>?_))
    ·have hn:0<n:=by
      rcases Nat.eq_zero_or_pos n with h|h
      ·subst h;simp at hj
      ·exact h
     have:=(had (by omega)).1
     subst this
     rw[XH]
     have hlt:off+j<arr.size:=by omega
     simp[World.cell?,m1,hlt]
    ·have hj:j<n*sz':=by have:=(List.getElem?_eq_some_iff.1 hv).1;omega
     have hlt:off+j<arr.size:=by omega
     rw[List.getElem?_take_of_lt hj,List.getElem?_drop]at hv
     have hx:arr[off+j]? = some (arr.getD (off+j) undef):=by simp[hlt]
     exact(m3 _ _ _ hx hv).2
   ·cases hy
  ·cases hy
 ·cases hy
theorem jaw {v:V}(h:v.pureLeaf=true):v.leaf=true:=by
 cases v <;> first|rfl|(simp[V.pureLeaf]at h)
theorem jzj (hR:R E w0 I0 nt γ I st a w) {X:Value}{vx:V}{sz:Nat}{ys:List V}(hr:Rep γ I X vx) (hy:jI st.ob sz vx=some ys) (hp:ys.all V.pureLeaf=true) (hs0:0<sz) :
 (X=.slice none 0 0∧ys=[])∨∃ (ad:Addr) (m c:Nat) (news:List Value),X=.slice (some ad) m c∧m≤c∧ys.length=m*sz∧news.length=ys.length∧(∀ (j:Nat) (u:Value),news[j]? = some u→w.cell? (ad.add j)=some u) ∧
  (∀ (j:Nat) (x:Value) (v:V),news[j]? = some x→ys[j]? = some v→RepP I x v)∧(∀u∈news,u.oneCell'=true):=by
 rcases jg6 hR hr hy (List.all_eq_true.2 fun v hv=>jaw (List.all_eq_true.1 hp v hv)) hs0 with h|⟨ad,m,c,news,h1,h2,h3,h4,h5,h6,h7⟩
 ·exact .inl h
 ·refine .inr ⟨ad,m,c,news,h1,h2,h3,h4,h5,fun j x v hx hv=>?_,h7⟩
  have hp':=List.all_eq_true.1 hp v (List.mem_of_getElem? hv)
  have:=Ys (h6 j x v hx hv) (by rw[Xn hp'];exact hp')
  rwa [Xn hp']at this
theorem Wo (t ty e e':TypeId) (i:TypeInfo) (ht:P.underlying t=some (.slice e)) (hi:P.info? e=some i)
 (g sLen sCap:Nat) (cur:Array Value) (hg:w.heap[g]? = some (.cells cur e' (0,0)))
 (ad:Addr) (m c:Nat) (news:List Value) (hl:news.length=m*i.size) (hnews:∀ (j:Nat) (u:Value),news[j]? = some u→w.cell? (ad.add j)=some u) (h1:∀u∈news,u.oneCell'=true)
 (hroom:sLen+m≤sCap) (hfit:sLen*i.size+news.length≤cur.size) :
 (Builtin.append_ #[t,t] ty #[.slice (some ⟨g,0,none⟩) sLen sCap,.slice (some ad) m c]).run P w =
  .ok (.slice (some ⟨g,0,none⟩) (sLen+m) sCap) (w.setRow g (cur.toList.take (sLen*i.size)++news++cur.toList.drop (sLen*i.size+news.length)).toArray):=by
 have hf:=run_firstCells_some (P:=P) w i.size m ad m c news hl hnews
 have hst:=run_storeCells_at P g (sLen*i.size) e' news 0 cur w hg (by simpa using hfit) h1
 simp only[Nat.add_zero]at hst
 simp[Builtin.append_,run_underlying ht,sizeOf,typeInfo,hi,Builtin.lenOf,hroom,hf,Addr.add_lit,hst]
theorem Wz (t ty e:TypeId) (i:TypeInfo) (ht:P.underlying t=some (.slice e)) (hi:P.info? e=some i) (ad0:Option Addr) (sLen sCap:Nat) (hc:sLen≤sCap) (X:Value)
 (hX:X=.slice none 0 0∨∃ad c,X=.slice (some ad) 0 c) :
 (Builtin.append_ #[t,t] ty #[.slice ad0 sLen sCap,X]).run P w=.ok (.slice ad0 sLen sCap) w:=by
 rcases hX with rfl|⟨ad,c,rfl⟩ <;> cases ad0 <;>
  simp[Builtin.append_,run_underlying ht,sizeOf,typeInfo,hi,Builtin.lenOf,hc,Builtin.firstCells,storeCells,loadCells,loadCellsFrom]
end
section
variable {P:Program}{E:Env}{w0 w:World}{I0:IMap}{nt:Nat}{γ:Nat→Option Place}{I:IMap}{st:St}{a:Act}{o:Oper}{ub:Nat}{δ:Delta}
theorem jc1 {cs ys:List V}{arr:Array Value}{k:Nat}(hk:cs.length=k) (h1:∀ (j:Nat) (v:V),cs[j]? = some v→v.pureLeaf=true∧∃x,arr[j]? = some x∧RepP I x v)
 (h2:∀ (j:Nat) (v:V),ys[j]? = some v→v.pureLeaf=true∧∃x,arr[k+j]? = some x∧RepP I x v) :
 ∀ (j:Nat) (v:V),(cs++ys)[j]? = some v→v.pureLeaf=true∧∃x,arr[j]? = some x∧RepP I x v:=by
 intro j v hv
 by_cases hj:j<k
 ·rw[List.getElem?_append_left (by omega)]at hv
  exact h1 j v hv
 ·rw[List.getElem?_append_right (by omega)]at hv
  have:=h2 _ v hv
  rw[hk]at this
  rwa [show k+(j - k)=j by omega]at this
theorem jjc (hR:R E w0 I0 nt γ I st a w) (hd:∀d,o.dst=some d→d<nt) (hf:γ ub=none) {t e:TypeId}{s x:Operand}{s' x':A}{i:TypeInfo}{z:Value}(ho:o.op=.call { callee:=.builtin .append,args:=#[s,x],argTypes:=#[t,t] })
 (hs:opd s=some s') (hx:opd x=some x') (hu:P.underlying t=some (.slice e)) (hi:P.info? e=some i) (hz:i.zero=some z) (hs0:0<i.size) (hzs:z.cells.size=i.size)
 (ha:(match eval E st.tm s' with
  | .sl t nl n cs=>(jI st.ob i.size (eval E st.tm x')).bind fun ys=>
   if ys=[] then (if cs.length=n*i.size then one (.sl t nl n cs) else none) else
   if cs.length=n*i.size∧0<i.size∧ys.all V.pureLeaf=true∧(n+ys.length / i.size)*i.bytes≤140737488355328∧n+ys.length / i.size≤140737488355328 then
    match t with
    | some (u,z)=>if st.tk u=true∧z=i.size then some { v:=V.sl (some (ub,i.size)) false (n+ys.length / i.size) (cs++ys),del:=some u,add:=[ub] } else none
    | none=>if nl then some { v:=V.sl (some (ub,i.size)) false (n+ys.length / i.size) (cs++ys),add:=[ub] } else none
   else none
  | _=>none)=some δ):XA P E w0 I0 nt γ I st a w o ub δ:=by
 have hrs:=jB hR hs
 have hrx:=jB hR hx
 have hexec:∀ (v:Value) (w':World),(Builtin.append_ #[t,t] o.type #[a.eval s,a.eval x]).run P w=.ok v w'→(execOp a.eval o).run P w=.ok (.value v) w':=by
  intro v w' h
  simp only[execOp,ho,resolve,Sem.run_bind,Sem.run_pure,Result.andThen_ok,invoke,builtin,List.map_toArray,List.map_cons,List.map_nil,h]
 split at ha
 ·rename_i tk nl n cs he
  obtain⟨ys,hys,ha⟩:=bind_some ha
  split at ha
  ·rename_i hnil
   subst hnil
   split at ha
   ·rename_i hlen
    -- nothing is appended
    have hX:a.eval x=.slice none 0 0∨∃ad c,a.eval x=.slice (some ad) 0 c:=by
     rcases jzj hR hrx hys rfl hs0 with⟨h,_⟩|⟨ad,m,c,news,h,_,hl,_⟩
     ·exact .inl h
     ·have:m=0:=by
       simp only[List.length_nil]at hl
       rcases Nat.mul_eq_zero.1 hl.symm with h|h <;> omega
      subst this
      exact .inr ⟨ad,c,h⟩
    rw[he]at hrs
    have hrs':=hrs
    have hS:∃ad0 cap,a.eval s=.slice ad0 n cap∧n≤cap:=by
     rcases Xz hrs with⟨h,_,_,rfl,_⟩|⟨ad,cap,xs,h,_,_,h2,_⟩
     ·exact⟨none,0,h,Nat.le_refl _⟩
     ·exact⟨some ad,cap,h,h2⟩
    obtain⟨ad0,cap,hS,hcap⟩:=hS
    refine jW hR hd (x:=a.eval s) (hexec _ _ ?_) hrs' ha
    rw[hS]
    exact Wz t o.type e i hu hi ad0 n cap hcap _ hX
   ·cases ha
  ·rename_i hne
   split at ha
   ·rename_i hc
    obtain⟨hlen,_,hp,hby,hmx⟩:=hc
    rcases jzj hR hrx hys hp hs0 with⟨_,h⟩|⟨ad,m,c,news,hX,hmc,hyl,hnl,hnews,hnr,hn1⟩
    ·exact absurd h hne
    ·have hm:ys.length / i.size=m:=by rw[hyl];exact Nat.mul_div_cancel _ hs0
     have hm0:0<m:=by
      rcases Nat.eq_zero_or_pos m with h|h
      ·subst h
       simp only[Nat.zero_mul]at hyl
       exact absurd (List.eq_nil_of_length_eq_zero hyl) hne
      ·exact h
     rw[hm]at ha hby hmx
     have hnl':news.length=m*i.size:=by omega
     have hmaxl:n+m≤maxLen:=by simp only[maxLen];omega
     have hnsz:(cs++ys).length=(n+m)*i.size:=by rw[List.length_append,hlen,hyl,Nat.add_mul]
     have hnget:∀ (j:Nat) (v:V),ys[j]? = some v→∃x,news[j]? = some x∧v.pureLeaf=true∧RepP I x v:=by
      intro j v hv
      have hj:j<news.length:=by have:=(List.getElem?_eq_some_iff.1 hv).1;omega
      exact⟨_,List.getElem?_eq_getElem hj,List.all_eq_true.1 hp _ (List.mem_of_getElem? hv),hnr j _ v (List.getElem?_eq_getElem hj) hv⟩
     have hnoI:∀j y,I w.heap.size j=some y→j<(n+m)*i.size∧False:=fun j y hy=>absurd (World.block_lt_of_cell? _ _ (hR.imm _ _ _ hy)) (Nat.lt_irrefl _)
     -- a new row
     have grown:∀ (olds:List Value) (old:Nat) (del:Option Nat),old<n+m→olds.length=n*i.size→(∀ (j:Nat) (v:V),cs[j]? = some v→v.pureLeaf=true∧∃x,olds[j]? = some x∧RepP I x v) →
      (Builtin.append_ #[t,t] o.type #[a.eval s,a.eval x]).run P w=.ok (.slice (some ⟨w.heap.size,0,none⟩) (n+m) (grownCap w (n+m) old e)) (w.drew.alloc (.cells (olds.toArray++news.toArray++Builtin.zeroCells z.cells (grownCap w (n+m) old e - (n+m))) e)) →
      some { v:=V.sl (some (ub,i.size)) false (n+m) (cs++ys),del:=del,add:=[ub] } = some δ→XA P E w0 I0 nt γ I st a w o ub δ:=by
      intro olds old del hold holdl holds hrun hδ
      have hge:=grownCap_ge w (n+m) old e
      have hcm:=grownCap_le_maxLen w (n+m) old e hmaxl
      refine jms hR hd hf (b:=w.heap.size) (n:=n+m) (cap:=grownCap w (n+m) old e) (sz:=i.size) (cs:=cs++ys) (del:=del) (e:=e) (hexec _ _ hrun) (.inl ⟨rfl,by simp⟩) ⟨rfl,rfl,rfl⟩
       (fun k hk _=>heap_alloc_old w.drew _ k hk) (heap_alloc_new w.drew _) ?_ hge hcm (fun j y hy=>(hnoI j y hy).2.elim) hnsz ?_ hδ
      ·simp only[Array.size_append,List.size_toArray,size_zeroCells,hzs,holdl,hnl',← Nat.add_mul]
       congr 1
       omega
      ·refine jc1 hlen (fun j v hv=>?_) (fun j v hv=>?_)
       ·obtain⟨p,y,hy,hr⟩:=holds j v hv
        refine⟨p,y,?_,hr⟩
        have hj:j<olds.length:=(List.getElem?_eq_some_iff.1 hy).1
        rw[Array.getElem?_append_left (by simp;omega),Array.getElem?_append_left (by simpa using hj)]
        simpa using hy
       ·obtain⟨y,hy,p,hr⟩:=hnget j v hv
        refine⟨p,y,?_,hr⟩
        have hj:j<news.length:=(List.getElem?_eq_some_iff.1 hy).1
        rw[Array.getElem?_append_left (by simp;omega),Array.getElem?_append_right (by simp;omega)]
        simp only[List.size_toArray,holdl,Nat.add_sub_cancel_left]
        simpa using hy
     rw[he]at hrs
     split at ha
     ·rename_i tu tz _
      split at ha
      ·rename_i htk
       have haF:=ha
       obtain⟨htk,hsz⟩:=htk
       subst hsz
       rcases Xz hrs with⟨_,h,_⟩|⟨ad0,cap,xs,hS,_,_,hc1,hc2,h3,h4,h5,h6⟩
       ·cases h
       ·obtain⟨hγu,had0,hlen'⟩:=h6 tu _ rfl
        obtain⟨Ω,hown⟩:=hR.own
        obtain⟨b,n',cap',sz'',k1,k2,k3,⟨arr,e',g1,g2,g3,g4⟩,k5⟩:=hown.tk tu htk
        rw[hγu]at k1
        simp only[Option.some.injEq,Place.tok.injEq]at k1
        obtain⟨hb,rfl,rfl,rfl⟩:=k1
        by_cases hroom:n+m≤cap
        ·have hfit:n*i.size+news.length≤arr.size:=by rw[hnl',← Nat.add_mul];exact Nat.le_trans (Nat.mul_le_mul_right _ hroom) g2
         have hrun:=Wo (P:=P) (w:=w) t o.type e e' i hu hi b n cap arr g1 ad m c news hnl' hnews hn1 hroom hfit
         rw[← hb]at g1 hrun k5
         rw[had0]at hS
         refine jrf hR hd hf (b:=ad0.block) (n:=n+m) (cap:=cap) (sz:=i.size) (cs:=cs++ys) (w':=w.setRow ad0.block _) (del:=some tu) (e:=e') (hexec _ _ (by rw[hS,hX];exact hrun)) (.inr ⟨tu,n,cap,i.size,htk,hγu,rfl,by simp⟩) ⟨rfl,rfl,rfl⟩
          (fun k _ hk=>setRow_other w _ k _ hk) (setRow_heap w _ arr _ e' _ g1) ?_ hroom hc2 (fun j y hy=>?_) hnsz ?_ haF
         ·simp only[List.size_toArray,List.length_append,List.length_take,List.length_drop,Array.length_toList]
          omega
         ·have hj:j<n*i.size:=by
           rcases Nat.lt_or_ge j (n*i.size) with h|h
           ·exact h
           ·rw[k5 j h]at hy;cases hy
          have hcell:=hR.imm _ _ _ hy
          simp only[World.cell?,g1,Option.isSome_none,Bool.false_eq_true,if_false]at hcell
          refine⟨by rw[Nat.add_mul];omega,?_⟩
          simp only[List.getElem?_toArray]
          rw[List.append_assoc,List.getElem?_append_left (by simp only[List.length_take,Array.length_toList];omega),List.getElem?_take_of_lt hj]
          simpa using hcell
         ·refine jc1 hlen (fun j v hv=>?_) (fun j v hv=>?_)
          ·have hj:j<cs.length:=(List.getElem?_eq_some_iff.1 hv).1
           refine⟨h4 j v hv,xs j,?_,h5 j v hv⟩
           have hcell:=hR.imm _ _ _ (h3 j hj)
           rw[had0]at hcell
           simp only[World.cell?,g1,Option.isSome_none,Bool.false_eq_true,if_false,Nat.zero_add]at hcell
           simp only[List.getElem?_toArray]
           rw[List.append_assoc,List.getElem?_append_left (by simp only[List.length_take,Array.length_toList];omega),List.getElem?_take_of_lt (by omega)]
           simpa using hcell
          ·obtain⟨y,hy,p,hr⟩:=hnget j v hv
           refine⟨p,y,?_,hr⟩
           have hj:j<news.length:=(List.getElem?_eq_some_iff.1 hy).1
           simp only[List.getElem?_toArray]
           rw[List.getElem?_append_left (by simp only[List.length_append,List.length_take,Array.length_toList];omega),List.getElem?_append_right (by simp only[List.length_take,Array.length_toList];omega)]
           have hq:n*i.size+j - (List.take (n*i.size) arr.toList).length=j:=by simp only[List.length_take,Array.length_toList];omega
           rw[hq]
           exact hy
        ·have holds:∀ (j:Nat) (v:Value),((List.range cs.length).map xs)[j]? = some v→w.cell? (ad0.add j)=some v:=by
          intro j v hv
          simp only[List.getElem?_map,Option.map_eq_some_iff]at hv
          obtain⟨k,hk,rfl⟩:=hv
          have hj:j<cs.length:=by have:=(List.getElem?_eq_some_iff.1 hk).1;simpa using this
          rw[List.getElem?_range hj]at hk
          cases hk
          rw[had0,XH,Nat.zero_add]
          have:=hR.imm _ _ _ (h3 j hj)
          rw[had0]at this
          simpa using this
         have hol:((List.range cs.length).map xs).length=n*i.size:=by simpa using hlen
         have hrun:=run_append_grow (P:=P) w t o.type e i z hu hi hz ad0 n cap _ hol holds ad m c news hnl' hnews (by omega) (by omega) (growslice_fits (by omega) hby)
         refine grown _ cap (some tu) (by omega) hol (fun j v hv=>⟨h4 j v hv,xs j,?_,h5 j v hv⟩) (by rw[hS,hX];exact hrun) haF
         have hj:j<cs.length:=(List.getElem?_eq_some_iff.1 hv).1
         simp[hj]
      ·cases ha
     ·split at ha
      ·rename_i hnil
       rcases Xz hrs with⟨hS,_,_,rfl,rfl⟩|⟨_,_,_,_,h,_⟩
       ·have h48:m*i.bytes≤281474976710656:=by simp only[Nat.zero_add]at hby;omega
        have hrun:=run_append_nil (P:=P) w t o.type e i z hu hi hz ad m c news hnl' hnews hm0 (by omega) h48
        refine grown [] 0 none (by omega) (by simp) (fun j v hv=>by simp at hv) ?_ ha
        rw[hS,hX,Nat.zero_add,hrun]
        simp
       ·subst h;cases hnil
      ·cases ha
   ·cases ha
 ·cases ha
end
section
variable {P:Program}{E:Env}{w0 w:World}{I0:IMap}{nt:Nat}{γ:Nat→Option Place}{I:IMap}{st:St}{a:Act}{o:Oper}{ub:Nat}{δ:Delta}
theorem Rep.strip1 {x:Value}{v:V}(h:Rep γ I x v):Rep γ I x v.strip1:=by
 cases v with
 | sl t nl n cs=>
  rcases Xz h with⟨rfl,rfl,rfl,rfl,rfl⟩|⟨ad,cap,xs,rfl,rfl,h1,h2,h3,h4,h5,h6,_⟩
  ·exact .pure _ _ .slnil
  ·exact .pure _ _ (.sl _ _ _ _ _ h1 h2 h3 h4 h5 h6)
 | _=>exact h
theorem Yq {xs:Array Value}{cs:List V}(f:V→V) (hf:∀x v,Rep γ I x v→Rep γ I x (f v)) (h:∀ (j:Nat) (x:Value) (v:V),xs[j]? = some x→cs[j]? = some v→Rep γ I x v) :
 ∀ (j:Nat) (x:Value) (v:V),xs[j]? = some x→(cs.map f)[j]? = some v→Rep γ I x v:=by
 intro j x v hx hv
 simp only[List.getElem?_map,Option.map_eq_some_iff]at hv
 obtain⟨u,hu,rfl⟩:=hv
 exact hf _ _ (h j x u hx hu)
theorem Rep.stripAgg {x:Value}{cs:List V}(h:Rep γ I x (.agg cs)):Rep γ I x (.agg (cs.map V.strip1)):=by
 obtain⟨xs,rfl,h1,h2,h3⟩:=Y7 h
 refine .agg _ _ (by simpa using h1) (fun j v hv=>?_) (Yq _ (fun _ _=>Rep.strip1) h3)
 simp only[List.getElem?_map,Option.map_eq_some_iff]at hv
 obtain⟨u,hu,rfl⟩:=hv
 rw[jdu]
 exact h2 j u hu
theorem Rep.strip {x:Value}{v:V}(h:Rep γ I x v):Rep γ I x v.strip:=by
 cases v with
 | sl t nl n cs=>exact h.strip1
 | agg cs=>exact h.stripAgg
 | fn f asg bs=>
  obtain⟨xs,ys,rfl,h1,h2,h3,h4⟩:=jeu h
  have hf:∀x v,Rep γ I x v→Rep γ I x (match v with|.agg cs=>V.agg (cs.map V.strip1)|c=>c.strip1):=by
   intro x v h
   split
   ·exact h.stripAgg
   ·exact h.strip1
  exact .fn _ _ _ _ _ (by simpa using h1) (by simpa using h2) (Yq _ hf h3) (Yq _ hf h4)
 | _=>exact h
def LKT:LK→TypeDesc→Prop
 | .bool,d=>d=.bool
 | .int,d=>∃k,d=.int k
 | .str,d=>d=.string
theorem jde {t:TypeId}{q:LK}(h:jtm P t=some q):∃d,P.underlying t=some d∧LKT q d:=by
 unfold jtm at h
 split at h <;> cases h
 ·exact⟨_,by assumption,rfl⟩
 ·exact⟨_,by assumption,_,rfl⟩
 ·exact⟨_,by assumption,rfl⟩
theorem ju3 {s s':ByteArray}(h:s.data.toList=s'.data.toList):s=s':=by
 cases s;cases s'
 simp only[Array.toList_inj]at h
 rw[h]
theorem Qx {q:LK}{d:TypeDesc}(hd:LKT q d) {x y:Value}{vx vy:V}{b:Bool}(hx:Rep γ I x vx) (hy:Rep γ I y vy) (h:Wq q vx vy=some b):Instr.sameNow d x y=some b:=by
 unfold Wq at h
 split at h
 ·have:=XF hx;subst this
  have:=XF hy;subst this
  cases hd
  exact h
 ·have:=ju hx;subst this
  have:=ju hy;subst this
  obtain⟨k,rfl⟩:=hd
  exact h
 ·obtain⟨s,rfl,rfl⟩:=X7 hx
  obtain⟨s',rfl,rfl⟩:=X7 hy
  cases hd
  simp only[Option.some.injEq]at h
  simp only[Instr.sameNow,Option.some.injEq]
  rw[← h,beq_toListBytes,YO,YO]
 ·cases h
theorem YV {q:LK}{d:TypeDesc}(hd:LKT q d) {k:Value}{vk:V}(hk:Rep γ I k vk):∀ (m:List MapEntry) (es:List (V × V)) (i:Nat) (r:Option (Nat × V)),m.length=es.length →
 (∀ (j:Nat) (e:MapEntry) (k v:V),m[j]? = some e→es[j]? = some (k,v)→RepP I e.key k∧Rep γ I e.val v)→findKey q vk es=some r →
 (r=none∧Instr.findNow d k m i=some none)∨∃j v e,r=some (j,v)∧m[j]? = some e∧(∃k',es[j]? = some (k',v)∧Wq q vk k'=some true)∧Instr.findNow d k m i=some (some (i+j,e.val))
 | [],[],i,r,_,_,h=>by
  simp only[findKey,Option.some.injEq]at h
  exact .inl ⟨h.symm,rfl⟩
 | [],_::_,_,_,hl,_,_=>by simp at hl
 | _::_,[],_,_,hl,_,_=>by simp at hl
 | e::m,(k',v)::es,i,r,hl,hr,h=>by
  obtain⟨r1,r2⟩:=hr 0 e k' v rfl rfl
  simp only[findKey]at h
  split at h
  ·rename_i he
   simp only[Option.some.injEq]at h
   subst h
   refine .inr ⟨0,v,e,rfl,rfl,⟨k',rfl,he⟩,?_⟩
   simp only[Instr.findNow,Qx hd hk (.pure _ _ r1) he,Nat.add_zero]
  ·rename_i he
   obtain⟨r',h1,rfl⟩:=map_some h
   rcases YV hd hk m es (i+1) r' (by simpa using hl) (fun j e k v h1 h2=>hr (j+1) e k v (by simpa using h1) (by simpa using h2)) h1 with⟨rfl,h2⟩|⟨j,v',e',rfl,h2,⟨k'',h3,h4⟩,h5⟩
   ·exact .inl ⟨rfl,by simp only[Instr.findNow,Qx hd hk (.pure _ _ r1) he,h2]⟩
   ·refine .inr ⟨j+1,v',e',rfl,by simpa using h2,⟨k'',by simpa using h3,h4⟩,?_⟩
    simp only[Instr.findNow,Qx hd hk (.pure _ _ r1) he,h5]
    rw[show i+1+j=i+(j+1) by omega]
  ·cases h
theorem JA {t:TypeId}{d:TypeDesc}{q:LK}(hu:P.underlying t=some d) (hd:LKT q d) (b:Bool) (k:Value) (n:Nat):(Instr.checkKey b (n+1) t k).run P w=.ok () w:=by
 unfold Instr.checkKey
 simp only[Sem.run_bind,run_underlying hu,Result.andThen_ok]
 cases q
 ·cases hd;rfl
 ·obtain⟨_,rfl⟩:=hd;rfl
 ·cases hd;rfl
theorem Jf {t:TypeId}{d:TypeDesc}(hu:P.underlying t=some d) {k:Value}{m:List MapEntry}{r:Option (Nat × Value)}(h:Instr.findNow d k m 0=some r):(Instr.findKey t k m).run P w=.ok r w:=by
 unfold Instr.findKey
 simp only[Sem.run_bind,run_underlying hu,Result.andThen_ok,h,Sem.run_pure]
theorem ja1 (hR:R E w0 I0 nt γ I st a w) {l u b ver:Nat}{k:Kd}{es:List (V × V)}(h:st.ob l=some ⟨u,.mp ver es⟩) (hu:γ u=some (.obj b k)) :
 ∃ (m:Array MapEntry) (clock:Nat),w.heap[b]? = some (.map m clock)∧m.size=es.length∧(∀ (j:Nat) (e:MapEntry) (k v:V),m[j]? = some e→es[j]? = some (k,v)→RepP I e.key k∧Rep γ I e.val v) ∧
  (m.toList.map (·.born)).Nodup∧(∀e∈m,e.born<clock)∧(ver<jlo→clock=m.size∧∀ (i:Nat) (e:MapEntry),m[i]? = some e→e.born=i):=by
 obtain⟨Ω,hown⟩:=hR.own
 obtain⟨b',kb',k1,k2,k3,k4,k5⟩:=hown.ob l _ h
 rw[hu]at k1
 cases k1
 obtain⟨m,clock,h1,h2,h3,h4,h5⟩:=k4
 exact⟨m,clock,h1,by rw[← h2.1,Array.length_toList],fun j e k v he hk=>h2.2 j e k v (by rw[Array.getElem?_toList];exact he) hk,h3,h4,h5⟩
theorem jlg (hR:R E w0 I0 nt γ I st a w) {l u b ver:Nat}{k:Kd}{es:List (V × V)}(h:st.ob l=some ⟨u,.mp ver es⟩) (hu:γ u=some (.obj b k)) :
 ∃ (m:Array MapEntry) (clock:Nat),w.heap[b]? = some (.map m clock)∧m.size=es.length∧(∀ (j:Nat) (e:MapEntry) (k v:V),m[j]? = some e→es[j]? = some (k,v)→RepP I e.key k∧Rep γ I e.val v) ∧
  (m.toList.map (·.born)).Nodup∧∀e∈m,e.born<clock:=by
 obtain⟨m,clock,h1,h2,h3,h4,h5,_⟩:=ja1 hR h hu
 exact⟨m,clock,h1,h2,h3,h4,h5⟩
theorem JI {b:Nat}{m:Array MapEntry}{clock:Nat}(h:w.heap[b]? = some (.map m clock)):(getObj b).run P w=.ok (.map m clock) w:=by simp[getObj,Sem.run,h]
theorem Xb {b:Nat}{m m':Array MapEntry}{clock c':Nat}(h:w.heap[b]? = some (.map m clock)):(setObj b (.map m' c')).run P w=.ok () { w with heap:=w.heap.setIfInBounds b (.map m' c') }:=by simp[setObj,Sem.run,h]
theorem jac {x:Value}{z:V}(h:Yt x=some z):RepP I x z:=by
 unfold Yt at h
 split at h
 ·rename_i cs
  obtain⟨l,hl,rfl⟩:=map_some h
  obtain⟨h1,h2⟩:=jnu (I:=I) hl
  refine .agg _ _ h1.symm (fun j v hv=>?_) (fun j x v hx hv=>(h2 j x v (by rw[Array.getElem?_toList];exact hx) hv).2)
  have hj:j<cs.toList.length:=by rw[← h1];exact(List.getElem?_eq_some_iff.1 hv).1
  exact(h2 j _ v (List.getElem?_eq_getElem hj) hv).1
 ·exact(leafOk h).1
theorem jsq (hR:R E w0 I0 nt γ I st a w) (hd:∀d,o.dst=some d→d<nt) {t kt e:TypeId}{m k:Operand}{m' k':A}{q:LK}{i:TypeInfo}{z:Value}{zv:V}{ok:Bool}(ho:o.op=.lookup t m k ok) (hm:opd m=some m') (hk:opd k=some k')
 (hu:P.underlying t=some (.map kt e)) (hq:jtm P kt=some q) (hi:P.info? e=some i) (hz:i.zero=some z) (hzv:Yt z=some zv)
 (ha:(if QB q (eval E st.tm k') then match eval E st.tm m' with
  | .nilmap=>one (if ok then .tup [zv,.bool false] else zv)
  | .map l u=>(jR st.ob l u).bind fun es=>(findKey q (eval E st.tm k') es).bind fun r=>match r with
   | some (_,v)=>one (if ok then .tup [v,.bool true] else v)
   | none=>one (if ok then .tup [zv,.bool false] else zv)
  | _=>none else none)=some δ):XA P E w0 I0 nt γ I st a w o ub δ:=by
 obtain⟨d,hud,hdd⟩:=jde hq
 have hrm:=jB hR hm
 have hrk:=jB hR hk
 have hzr:Rep γ I z zv:=.pure _ _ (jac hzv)
 have pair:∀ (x:Value) (v:V) (b:Bool),Rep γ I x v→Rep γ I (if ok then .tuple #[x,.bool b] else x) (if ok then .tup [v,.bool b] else v):=by
  intro x v b h
  cases ok
  ·exact h
  ·refine .tup _ _ rfl (fun j y u hy hu=>?_)
   match j with
   | 0=>simp at hy hu;subst hy;subst hu;exact h
   | 1=>simp at hy hu;subst hy;subst hu;exact .pure _ _ (.bool b)
   | j+2=>simp at hu
 split at ha
 ·split at ha
  ·rename_i he
   rw[he]at hrm
   have hm':=XO hrm
   refine jW hR hd (x:=if ok then .tuple #[z,.bool false] else z) ?_ (pair _ _ _ hzr) ha
   have hfk:(Instr.findKey kt (a.eval k) ([]:List MapEntry)).run P w=.ok none w:=Jf hud rfl
   simp only[execOp,ho,hm',Instr.lookup,Sem.run_bind,run_underlying hu,Result.andThen_ok,Sem.run_pure,JA hud hdd,hfk,J1 hi hz]
  ·rename_i l u he
   rw[he]at hrm
   obtain⟨b,kb,hγ,hm'⟩:=Wf hrm
   obtain⟨es,hes,ha⟩:=bind_some ha
   obtain⟨r,hr,ha⟩:=bind_some ha
   obtain⟨M,clock,h1,h2,h3,_⟩:=jlg hR (X1 hes) hγ
   have hfn:=YV hdd hrk M.toList es 0 r (by simpa using h2) (fun j e k v he hk=>h3 j e k v (by simpa using he) hk) hr
   rcases hfn with⟨rfl,hf⟩|⟨j,v,en,rfl,hen,⟨k'',hk'',_⟩,hf⟩
   ·refine jW hR hd (x:=if ok then .tuple #[z,.bool false] else z) ?_ (pair _ _ _ hzr) ha
    simp only[execOp,ho,hm',Instr.lookup,Sem.run_bind,run_underlying hu,Result.andThen_ok,Sem.run_pure,JI h1,JA hud hdd,Jf hud hf,J1 hi hz]
   ·refine jW hR hd (x:=if ok then .tuple #[en.val,.bool true] else en.val) ?_ (pair _ _ _ (h3 j en k'' v (by simpa using hen) hk'').2) ha
    simp only[execOp,ho,hm',Instr.lookup,Sem.run_bind,run_underlying hu,Result.andThen_ok,Sem.run_pure,JI h1,JA hud hdd,Jf hud hf]
  ·cases ha
 ·cases ha
end
section
variable {P:Program}{E:Env}{w0 w:World}{I0:IMap}{nt:Nat}{γ:Nat→Option Place}{I:IMap}{st:St}{a:Act}{o:Oper}{ub:Nat}{δ:Delta}
theorem J8 (w:World) (b:Nat) (x:Obj) (h:b<w.heap.size):(w.heap.setIfInBounds b x)[b]? = some x:=by simp[h]
theorem Ji (w:World) (b k:Nat) (x:Obj) (h:k≠b):(w.heap.setIfInBounds b x)[k]? = w.heap[k]?:=Array.getElem?_setIfInBounds_ne (fun e=>h e.symm)
theorem jag {M:Array MapEntry}{es:List (V × V)}(h:M.size=es.length) (h2:∀ (j:Nat) (e:MapEntry) (k v:V),M[j]? = some e→es[j]? = some (k,v)→RepP I e.key k∧Rep γ I e.val v):EntsOk γ I M.toList es :=
 ⟨by simpa using h,fun j e k v he hk=>h2 j e k v (by rw[← Array.getElem?_toList];exact he) hk⟩
theorem je8 (M:Array MapEntry) (j:Nat) (k v:Value):(M.modify j fun e=>{ e with key:=k,val:=v }).toList.map (·.born)=M.toList.map (·.born):=by
 refine List.ext_getElem? fun i=>?_
 simp only[List.getElem?_map,Array.getElem?_toList,Array.getElem?_modify]
 split
 ·cases M[i]? <;> rfl
 ·rfl
theorem jwx (hR:R E w0 I0 nt γ I st a w) (hd:∀d,o.dst=some d→d<nt) (hf:γ ub=none) {t:TypeId}{d:Nat}(ho:o.op=.makeMap t none) (ha:Jh d ub (.mp 0 []) (.map d ub)=some δ):XA P E w0 I0 nt γ I st a w o ub δ:=by
 refine Yn hR hd hf (x:=.map (some w.heap.size)) (obj:=.map #[] 0) (k:=.n 0) ?_ rfl (fun γ' h=>.map _ _ _ _ h) ?_ ha
 ·simp[execOp,ho,Instr.makeMap]
 ·exact⟨#[],0,rfl,⟨rfl,fun j e k v he=>by simp at he⟩,by simp,by simp,fun _=>⟨rfl,by simp⟩⟩
theorem jnv {q:LK}{x y:Value}{vx vy:V}(hx:Rep γ I x vx) (hy:Rep γ I y vy) (h:Wq q vx vy=some true):(Instr.keyThatStays y x).run P w=.ok x w:=by
 have hs:Instr.sameBits 10000 y x=true:=by
  unfold Wq at h
  split at h
  ·have:=XF hx;subst this
   have:=XF hy;subst this
   simp only[Option.some.injEq,beq_iff_eq]at h
   subst h
   simp[Instr.sameBits]
  ·have:=ju hx;subst this
   have:=ju hy;subst this
   split at h
   ·rename_i hk
    simp only[Option.some.injEq,beq_iff_eq]at h
    subst hk;subst h
    simp[Instr.sameBits]
   ·cases h
  ·obtain⟨s,rfl,rfl⟩:=X7 hx
   obtain⟨s',rfl,rfl⟩:=X7 hy
   simp only[Option.some.injEq,beq_iff_eq]at h
   have:=ju3 h
   subst this
   simp[Instr.sameBits,beq_toListBytes]
  ·cases h
 simp[Instr.keyThatStays,hs]
theorem jtt {q:LK}{x:Value}{v:V}(h:Rep γ I x v) (hk:QB q v=true):RepP I x v:=by
 unfold QB at hk
 split at hk <;> first|(cases hk;done)|(cases h;assumption)
theorem jgu {M:Array MapEntry}{clock:Nat}{k v:Value}(h:clock=M.size∧∀ (i:Nat) (e:MapEntry),M[i]? = some e→e.born=i) :
 clock+1=(M.push { key:=k,val:=v,born:=clock }).size∧∀ (i:Nat) (e:MapEntry),(M.push { key:=k,val:=v,born:=clock })[i]? = some e→e.born=i:=by
 refine⟨by simp[h.1],fun i e he=>?_⟩
 rw[Array.getElem?_push]at he
 split at he
 ·rename_i hj
  cases he
  exact h.1.trans hj.symm
 ·exact h.2 i e he
theorem QJ {M:Array MapEntry}{clock j:Nat}{f:MapEntry→MapEntry}(hf:∀e,(f e).born=e.born) (h:clock=M.size∧∀ (i:Nat) (e:MapEntry),M[i]? = some e→e.born=i) :
 clock=(M.modify j f).size∧∀ (i:Nat) (e:MapEntry),(M.modify j f)[i]? = some e→e.born=i:=by
 refine⟨by simp[h.1],fun i e he=>?_⟩
 rw[Array.getElem?_modify]at he
 by_cases hij:j=i
 ·rw[if_pos hij]at he
  obtain⟨e0,h0,rfl⟩:=Option.map_eq_some_iff.1 he
  rw[hf]
  exact h.2 i e0 h0
 ·rw[if_neg hij]at he
  exact h.2 i e he
theorem ji9 (hR:R E w0 I0 nt γ I st a w) (hd:∀d,o.dst=some d→d<nt) {t kt e:TypeId}{m k v:Operand}{m' k' v':A}{q:LK}(ho:o.op=.mapUpdate t m k v∨o.op=.insert t m k v) (hm:opd m=some m') (hk:opd k=some k') (hv:opd v=some v')
 (hu:P.underlying t=some (.map kt e)) (hq:jtm P kt=some q)
 (ha:(if QB q (eval E st.tm k') then match eval E st.tm m' with
  | .map l u=>if Nat.ble st.ro u then (jR st.ob l u).bind fun es=>(findKey q (eval E st.tm k') es).bind fun r=>match r with
   | some (i,_)=>some { v:=jm,obs:=[(l,⟨u,.mp (jd st.ob l+1) (es.set i (eval E st.tm k',(eval E st.tm v').strip))⟩)] }
   | none=>some { v:=jm,obs:=[(l,⟨u,.mp (jd st.ob l+1) (es++[(eval E st.tm k',(eval E st.tm v').strip)])⟩)] }
   else none
  | _=>none else none)=some δ):XA P E w0 I0 nt γ I st a w o ub δ:=by
 obtain⟨d,hud,hdd⟩:=jde hq
 have hrm:=jB hR hm
 have hrk:=jB hR hk
 have hrv:=(jB hR hv).strip
 split at ha
 ·rename_i hkey
  have hkp:=jtt hrk hkey
  split at ha
  ·rename_i l u he
   rw[he]at hrm
   obtain⟨b,kb,hγ,hm'⟩:=Wf hrm
   split at ha
   case isFalse=>cases ha
   rename_i hro
   obtain⟨es,hes,ha⟩:=bind_some ha
   obtain⟨r,hr,ha⟩:=bind_some ha
   have hob:=X1 hes
   obtain⟨M,clock,h1,h2,h3,hnd,hlt,hdn⟩:=ja1 hR hob hγ
   have hblt:b<w.heap.size:=(Array.getElem?_eq_some_iff.1 h1).1
   have hfn:=YV hdd hrk M.toList es 0 r (by simpa using h2) (fun j e k v he hk=>h3 j e k v (by simpa using he) hk) hr
   rcases hfn with⟨rfl,hf⟩|⟨j,v0,en,rfl,hen,⟨k'',hk'',heq⟩,hf⟩
   ·refine W0 hR hd hob hro (body':=.mp _ _) (x:=undef) (v:=jm) (w':={ w with heap:=w.heap.setIfInBounds b (.map (M.push { key:=a.eval k,val:=a.eval v,born:=clock }) (clock+1)) }) (.inr ⟨?_,rfl⟩) (.tup _ _ rfl (by simp)) (fun v es h=>by cases h;exact⟨_,_,rfl,Nat.lt_succ_self _⟩) ?_ ha
    ·rcases ho with ho|ho <;> simp only[execOp,ho,hm',Instr.mapUpdate,Sem.run_bind,run_underlying hu,Result.andThen_ok,Sem.run_pure,JI h1,JA hud hdd,Jf hud hf,Xb h1]
    ·intro b' k0 hb' hlt'
     rw[hγ]at hb'
     cases hb'
     refine⟨rfl,rfl,rfl,by simp,fun k hk=>Ji w b k _ hk,?_⟩
     rw[J8 w b _ hlt']
     refine⟨_,_,rfl,jag (by simp[h2]) (fun j en kk vv he hk=>?_),?_,fun e he=>?_,fun hv=>jgu (hdn (Nat.lt_of_succ_lt hv))⟩
     case refine_2=>
      rw[Array.toList_push,List.map_append,List.map_cons,List.map_nil]
      refine List.nodup_append.2 ⟨hnd,by simp,fun x hx y hy=>?_⟩
      simp only[List.mem_singleton]at hy
      subst hy
      obtain⟨e,he,rfl⟩:=List.mem_map.1 hx
      exact Nat.ne_of_lt (hlt e (by simpa using he))
     case refine_3=>
      rcases Array.mem_push.1 he with he|rfl
      ·exact Nat.lt_succ_of_lt (hlt e he)
      ·exact Nat.lt_succ_self _
     rw[Array.getElem?_push]at he
     split at he
     ·rename_i hj
      cases he
      subst hj
      rw[List.getElem?_append_right (by omega),h2]at hk
      simp at hk
      obtain⟨rfl,rfl⟩:=hk
      exact⟨hkp,hrv⟩
     ·rename_i hj
      have hj2:j<es.length:=by have:=(Array.getElem?_eq_some_iff.1 he).1;omega
      rw[List.getElem?_append_left hj2]at hk
      exact h3 j en kk vv he hk
   ·have hen':M[j]? = some en:=by simpa using hen
    have hjlt:j<M.size:=(Array.getElem?_eq_some_iff.1 hen').1
    refine W0 hR hd hob hro (body':=.mp _ _) (x:=undef) (v:=jm) (w':={ w with heap:=w.heap.setIfInBounds b (.map (M.modify j fun e=>{ e with key:=a.eval k,val:=a.eval v }) clock) }) (.inr ⟨?_,rfl⟩) (.tup _ _ rfl (by simp)) (fun v es h=>by cases h;exact⟨_,_,rfl,Nat.lt_succ_self _⟩) ?_ ha
    ·have hks:(Instr.keyThatStays en.key (a.eval k)).run P w=.ok (a.eval k) w:=jnv (γ:=γ) (I:=I) hrk (.pure _ _ (h3 j en k'' v0 hen' hk'').1) heq
     simp only[Nat.zero_add]at hf
     rcases ho with ho|ho <;> simp only[execOp,ho,hm',Instr.mapUpdate,Sem.run_bind,run_underlying hu,Result.andThen_ok,Sem.run_pure,JI h1,JA hud hdd,Jf hud hf,hen',Option.map_some,Option.getD_some,hks,Xb h1]
    ·intro b' k0 hb' hlt'
     rw[hγ]at hb'
     cases hb'
     refine⟨rfl,rfl,rfl,by simp,fun k hk=>Ji w b k _ hk,?_⟩
     rw[J8 w b _ hlt']
     refine⟨_,_,rfl,jag (by simp[h2]) (fun i en' kk vv he hk=>?_),by rw[je8];exact hnd,fun e he=>?_,fun hv=>QJ (fun _=>rfl) (hdn (Nat.lt_of_succ_lt hv))⟩
     case refine_2=>
      have:e.born∈(M.modify j fun e=>{ e with key:=a.eval k,val:=a.eval v }).toList.map (·.born):=List.mem_map.2 ⟨e,Array.mem_toList_iff.2 he,rfl⟩
      rw[je8]at this
      obtain⟨e2,he2,hb2⟩:=List.mem_map.1 this
      rw[← hb2]
      exact hlt e2 (by simpa using he2)
     rw[Array.getElem?_modify]at he
     by_cases hij:j=i
     ·subst hij
      simp only[if_true,hen',Option.map_some,Option.some.injEq]at he
      subst he
      rw[List.getElem?_set_self (by omega)]at hk
      cases hk
      exact⟨hkp,hrv⟩
     ·rw[if_neg hij]at he
      rw[List.getElem?_set_ne hij]at hk
      exact h3 i en' kk vv he hk
  ·cases ha
 ·cases ha
theorem QG {α:Type}(l:List α) (i j:Nat):(l.eraseIdx i)[j]? = if j<i then l[j]? else l[j+1]?:=by
 rw[List.getElem?_eraseIdx]
theorem jsp (hR:R E w0 I0 nt γ I st a w) (hd:∀d,o.dst=some d→d<nt) {t kt e:TypeId}{m k:Operand}{m' k':A}{q:LK}{ats:Array TypeId}(ho:o.op=.call { callee:=.builtin .delete,args:=#[m,k],argTypes:=ats }) (ht:ats[0]? = some t) (hm:opd m=some m') (hk:opd k=some k')
 (hu:P.underlying t=some (.map kt e)) (hq:jtm P kt=some q)
 (ha:(if QB q (eval E st.tm k') then match eval E st.tm m' with
  | .nilmap=>one jm
  | .map l u=>if Nat.ble st.ro u then (jR st.ob l u).bind fun es=>(findKey q (eval E st.tm k') es).bind fun r=>match r with
   | some (i,_)=>some { v:=jm,obs:=[(l,⟨u,.mp (jd st.ob l+jlo) (es.eraseIdx i)⟩)] }
   | none=>some { v:=jm,obs:=[(l,⟨u,.mp (jd st.ob l+1) es⟩)] }
   else none
  | _=>none else none)=some δ):XA P E w0 I0 nt γ I st a w o ub δ:=by
 obtain⟨d,hud,hdd⟩:=jde hq
 have hrm:=jB hR hm
 have hrk:=jB hR hk
 have hexec:∀ (w':World),(Builtin.delete_ ats o.type #[a.eval m,a.eval k]).run P w=.ok (.tuple #[]) w'→(execOp a.eval o).run P w=.ok (.value (.tuple #[])) w':=by
  intro w' h
  simp only[execOp,ho,resolve,Sem.run_bind,Sem.run_pure,Result.andThen_ok,invoke,builtin,List.map_toArray,List.map_cons,List.map_nil,h]
 split at ha
 ·split at ha
  ·rename_i he
   rw[he]at hrm
   have hm':=XO hrm
   refine jW hR hd (x:=.tuple #[]) (hexec _ ?_) (.tup _ _ rfl (by simp)) ha
   rw[hm']
   simp[Builtin.delete_,ht,run_underlying hu,JA hud hdd]
  ·rename_i l u he
   rw[he]at hrm
   obtain⟨b,kb,hγ,hm'⟩:=Wf hrm
   split at ha
   case isFalse=>cases ha
   rename_i hro
   obtain⟨es,hes,ha⟩:=bind_some ha
   obtain⟨r,hr,ha⟩:=bind_some ha
   have hob:=X1 hes
   obtain⟨M,clock,h1,h2,h3,hnd,hltc,hdn⟩:=ja1 hR hob hγ
   have hfn:=YV hdd hrk M.toList es 0 r (by simpa using h2) (fun j e k v he hk=>h3 j e k v (by simpa using he) hk) hr
   rcases hfn with⟨rfl,hf⟩|⟨j,v0,en,rfl,hen,⟨k'',hk'',heq⟩,hf⟩
   ·refine W0 hR hd hob hro (body':=.mp _ _) (x:=.tuple #[]) (v:=jm) (w':={ w with heap:=w.heap.setIfInBounds b (.map M clock) }) (.inl (hexec _ ?_)) (.tup _ _ rfl (by simp)) (fun v es h=>by cases h;exact⟨_,_,rfl,Nat.lt_succ_self _⟩) ?_ ha
    ·rw[hm']
     simp only[Builtin.delete_,ht,Sem.run_bind,run_underlying hu,Result.andThen_ok,Sem.run_pure,JI h1,JA hud hdd,Jf hud hf,Xb h1,List.getElem?_toArray,List.getElem?_cons_zero,List.getElem?_cons_succ]
    ·intro b' k0 hb' hlt
     rw[hγ]at hb'
     cases hb'
     refine⟨rfl,rfl,rfl,by simp,fun k hk=>Ji w b k _ hk,?_⟩
     rw[J8 w b _ hlt]
     exact⟨_,_,rfl,jag h2 h3,hnd,hltc,fun hv=>hdn (Nat.lt_of_succ_lt hv)⟩
   ·have hen':M[j]? = some en:=by simpa using hen
    have hjlt:j<M.size:=(Array.getElem?_eq_some_iff.1 hen').1
    refine W0 hR hd hob hro (body':=.mp _ _) (x:=.tuple #[]) (v:=jm) (w':={ w with heap:=w.heap.setIfInBounds b (.map (M.eraseIdxIfInBounds j) clock) }) (.inl (hexec _ ?_)) (.tup _ _ rfl (by simp)) (fun v es h=>by cases h;exact⟨_,_,rfl,Nat.lt_add_of_pos_right (by decide)⟩) ?_ ha
    ·rw[hm']
     simp only[Nat.zero_add]at hf
     simp only[Builtin.delete_,ht,Sem.run_bind,run_underlying hu,Result.andThen_ok,Sem.run_pure,JI h1,JA hud hdd,Jf hud hf,Xb h1,List.getElem?_toArray,List.getElem?_cons_zero,List.getElem?_cons_succ]
    ·intro b' k0 hb' hlt
     rw[hγ]at hb'
     cases hb'
     have hM:M.eraseIdxIfInBounds j=M.eraseIdx j hjlt:=by simp[Array.eraseIdxIfInBounds,hjlt]
     refine⟨rfl,rfl,rfl,by simp,fun k hk=>Ji w b k _ hk,?_⟩
     rw[J8 w b _ hlt]
     refine⟨_,_,rfl,jag (by rw[hM];simp[List.length_eraseIdx,h2];omega) (fun i en' kk vv he hk=>?_),?_,fun e he=>?_,fun hv=>absurd hv (Nat.not_lt.2 (Nat.le_add_left _ _))⟩
     case refine_2=>
      rw[hM,Array.toList_eraseIdx]
      exact((List.eraseIdx_sublist M.toList j).map _).nodup hnd
     case refine_3=>
      rw[hM]at he
      have:e∈(M.eraseIdx j hjlt).toList:=Array.mem_toList_iff.2 he
      rw[Array.toList_eraseIdx]at this
      exact hltc e (Array.mem_toList_iff.1 (List.mem_of_mem_eraseIdx this))
     rw[hM,← Array.getElem?_toList,Array.toList_eraseIdx,QG]at he
     rw[QG]at hk
     split at he
     ·rename_i hlt'
      rw[if_pos hlt']at hk
      exact h3 i en' kk vv (by simpa using he) hk
     ·rename_i hlt'
      rw[if_neg hlt']at hk
      exact h3 (i+1) en' kk vv (by simpa using he) hk
  ·cases ha
 ·cases ha
theorem jlc (hR:R E w0 I0 nt γ I st a w) (hd:∀d,o.dst=some d→d<nt) (hf:γ ub=none) {t:TypeId}{x:Operand}{x':A}{d:Nat}(ho:o.op=.range t x) (hx:opd x=some x') (hu:P.underlying t=some .string)
 (ha:(match eval E st.tm x' with
  | .str s=>Jh d ub (.siter s 0) (.iter d ub)
  | _=>none)=some δ):XA P E w0 I0 nt γ I st a w o ub δ:=by
 have hr:=jB hR hx
 split at ha
 ·rename_i s he
  rw[he]at hr
  obtain⟨bs,hx',rfl⟩:=X7 hr
  refine Yn hR hd hf (x:=.pointer (some ⟨w.heap.size,0,none⟩)) (obj:=.stringIter bs 0) (k:=.n 0) ?_ rfl (fun γ' h=>.iter _ _ _ _ h) ?_ ha
  ·simp[execOp,ho,hx',Instr.range,run_underlying hu]
  ·exact⟨bs,rfl,rfl⟩
 ·cases ha
theorem jph (hR:R E w0 I0 nt γ I st a w) (hd:∀d,o.dst=some d→d<nt) {x:Operand}{x':A}(ho:o.op=.next x true) (hx:opd x=some x')
 (ha:(match eval E st.tm x' with
  | .iter l u=>match st.ob l with
   | some ⟨u',.siter s pos⟩=>if Nat.ble st.ro u∧u'=u then
    (if pos<s.length then some { v:=.tup [.bool true,.int .i64 pos,.int .i32 ((Utf8.decode ⟨s.toArray⟩ pos).1:Nat)],obs:=[(l,⟨u,.siter s (pos+(Utf8.decode ⟨s.toArray⟩ pos).2)⟩)] }
     else one (.tup [.bool false])) else none
   | _=>none
  | _=>none)=some δ):XA P E w0 I0 nt γ I st a w o ub δ:=by
 have hr:=jB hR hx
 split at ha
 ·rename_i l u he
  rw[he]at hr
  obtain⟨b,kb,hγ,hx'⟩:=jdf hr
  split at ha
  ·rename_i u' s pos hob
   split at ha
   ·rename_i huu
    obtain⟨hro,huu⟩:=huu
    subst huu
    obtain⟨Ω,hown⟩:=hR.own
    obtain⟨b',kb',k1,k2,k3,⟨bs,hbs,hs⟩,k5⟩:=hown.ob l _ hob
    rw[hγ]at k1
    cases k1
    have hbs':(⟨s.toArray⟩:ByteArray)=bs:=by
     rw[← hs]
    have hlen:s.length=bs.size:=by rw[← hs];simp
    rw[hbs']at ha
    split at ha
    ·rename_i hpos
     have hpos':pos<bs.size:=by omega
     refine W0 hR hd hob hro (body':=.siter s (pos+(Utf8.decode bs pos).2)) (x:=.tuple #[.bool true,.int .i64 pos,.int .i32 ((Utf8.decode bs pos).1:Nat)])
      (w':={ w with heap:=w.heap.setIfInBounds b (.stringIter bs (pos+(Utf8.decode bs pos).2)) }) (.inl ?_) ?_ (fun v es h=>by cases h) ?_ ha
     ·have hg:(getObj b).run P w=.ok (.stringIter bs pos) w:=by simp[getObj,Sem.run,hbs]
      have hs2:∀x,(setObj b x).run P w=.ok () { w with heap:=w.heap.setIfInBounds b x }:=by intro x;simp[setObj,Sem.run,hbs]
      simp only[execOp,ho,hx',Instr.next,Sem.run_bind,hg,Result.andThen_ok,hpos',if_true,hs2,Sem.run_pure,goInt]
     ·refine .tup _ _ rfl (fun j y v hy hv=>?_)
      match j with
      | 0=>simp at hy hv;subst hy;subst hv;exact .pure _ _ (.bool _)
      | 1=>simp at hy hv;subst hy;subst hv;exact .pure _ _ (.int _ _)
      | 2=>simp at hy hv;subst hy;subst hv;exact .pure _ _ (.int _ _)
      | j+3=>simp at hv
     ·intro b' k0 hb' hlt
      rw[hγ]at hb'
      cases hb'
      exact⟨rfl,rfl,rfl,by simp,fun k hk=>Ji w b k _ hk,by rw[J8 w b _ hlt];exact⟨bs,rfl,hs⟩⟩
    ·rename_i hpos
     have hpos':¬ pos<bs.size:=by omega
     refine jW hR hd (x:=.tuple #[.bool false]) ?_ ?_ ha
     ·have hg:(getObj b).run P w=.ok (.stringIter bs pos) w:=by simp[getObj,Sem.run,hbs]
      simp only[execOp,ho,hx',Instr.next,Sem.run_bind,hg,Result.andThen_ok,hpos',if_false,Sem.run_pure]
     ·refine .tup _ _ rfl (fun j y v hy hv=>?_)
      match j with
      | 0=>simp at hy hv;subst hy;subst hv;exact .pure _ _ (.bool _)
      | j+1=>simp at hv
   ·cases ha
  ·cases ha
 ·cases ha
theorem jd2 (isMax:Bool):∀ (xs:List Value) (vs:List V) (x:Value) (v r:V),xs.length=vs.length→(∀ (j:Nat) (y:Value) (u:V),xs[j]? = some y→vs[j]? = some u→Rep γ I y u)→Rep γ I x v→Q6 isMax v vs=some r →
 ∃z,(xs.foldlM (if isMax then Builtin.max2 else Builtin.min2) x).run P w=.ok z w∧Rep γ I z r
 | [],[],x,v,r,_,_,hx,h=>by
  simp only[Q6,Option.some.injEq]at h
  subst h
  exact⟨x,by simp,hx⟩
 | [],_::_,_,_,_,hl,_,_,_=>by simp at hl
 | _::_,[],_,_,_,hl,_,_,_=>by simp at hl
 | y::xs,u::vs,x,v,r,hl,hr,hx,h=>by
  simp only[Q6]at h
  obtain⟨z,hz,h2⟩:=bind_some h
  have hy:=hr 0 y u rfl rfl
  unfold jho at hz
  split at hz
  ·rename_i k p k' q
   have:=ju hx;subst this
   have:=ju hy;subst this
   split at hz
   ·rename_i hk
    subst hk
    simp only[Option.some.injEq]at hz
    have hrun:((if isMax then Builtin.max2 else Builtin.min2) (.int k p) (.int k q)).run P w=.ok (.int k (if isMax then (if q > p then q else p) else (if q<p then q else p))) w:=by
     cases isMax <;> simp[Builtin.max2,Builtin.min2]
    obtain⟨z',h3,h4⟩:=jd2 isMax xs vs _ z r (by simpa using hl) (fun j y u h1 h2=>hr (j+1) y u (by simpa using h1) (by simpa using h2)) (by rw[← hz];exact .pure _ _ (.int _ _)) h2
    refine⟨z',?_,h4⟩
    rw[List.foldlM_cons,Sem.run_bind,hrun,Result.andThen_ok]
    exact h3
   ·cases hz
  ·cases hz
theorem ji8 (hR:R E w0 I0 nt γ I st a w) (hd:∀d,o.dst=some d→d<nt) {isMax:Bool}{xs:Array Operand}{xs':List A}{ats:Array TypeId}(ho:o.op=.call { callee:=.builtin (if isMax then .max else .min),args:=xs,argTypes:=ats }) (hx:opds xs=some xs')
 (ha:(match xs'.map (eval E st.tm) with
  | []=>none
  | x::r=>(Q6 isMax x r).bind one)=some δ):XA P E w0 I0 nt γ I st a w o ub δ:=by
 obtain⟨h1,h2⟩:=Wa hR hx
 split at ha
 ·cases ha
 ·rename_i v vs hvs
  obtain⟨r,hr,hδ⟩:=bind_some ha
  rw[hvs]at h1 h2
  cases hxs:(xs.map a.eval).toList with
  | nil=>
   have:(xs.map a.eval).size=0:=by rw[← Array.length_toList,hxs];rfl
   simp only[List.length_cons]at h1
   omega
  | cons x ys=>
   have hget:∀ (j:Nat),(xs.map a.eval)[j]? = (x::ys)[j]?:=fun j=>by rw[← hxs,Array.getElem?_toList]
   have hlen:ys.length=vs.length:=by
    have:(xs.map a.eval).size=(x::ys).length:=by rw[← Array.length_toList,hxs]
    simp only[List.length_cons]at this h1
    omega
   obtain⟨z,hz,hrep⟩:=jd2 (P:=P) (w:=w) (γ:=γ) (I:=I) isMax ys vs x v r hlen (fun j y u hy hu=>h2 (j+1) y u (by rw[hget];simpa using hy) (by simpa using hu)) (h2 0 x v (by rw[hget];rfl) rfl) hr
   refine jW hR hd (x:=z) ?_ hrep hδ
   cases isMax
   ·simp only[Bool.false_eq_true,if_false]at hz ho
    simp only[execOp,ho,resolve,Sem.run_bind,Sem.run_pure,Result.andThen_ok,invoke,builtin,Builtin.min_,hxs,hz]
   ·simp only[if_true]at hz ho
    simp only[execOp,ho,resolve,Sem.run_bind,Sem.run_pure,Result.andThen_ok,invoke,builtin,Builtin.max_,hxs,hz]
end
section
variable {P:Program}{E:Env}{w0 w:World}{I0:IMap}{nt:Nat}{γ:Nat→Option Place}{I:IMap}{st:St}{a:Act}{o:Oper}{ub:Nat}{δ:Delta}
theorem jnl (hR:R E w0 I0 nt γ I st a w) (hd:∀d,o.dst=some d→d<nt) {neg:Bool}{t t':TypeId}{x y:Operand}{x' y':A}(ho:o.op=.binOp (if neg then .neq else .eql) t x y t') (hx:opd x=some x') (hy:opd y=some y')
 (hk:eqK P t x y=some .ptr) {l u off l' u' off':Nat}(h1:eval E st.tm x'=.ptr l u off) (h2:eval E st.tm y'=.ptr l' u' off')
 (ha:(if (j1 st.ob l u).isSome && (j1 st.ob l' u').isSome then one (.bool (xor neg (Nat.beq l l' && Nat.beq off off'))) else none)=some δ):XA P E w0 I0 nt γ I st a w o ub δ:=by
 have hrx:=jB hR hx
 have hry:=jB hR hy
 rw[h1]at hrx
 rw[h2]at hry
 obtain⟨b,k,hu,hX⟩:=YT hrx
 obtain⟨b',k',hu',hY⟩:=YT hry
 simp only[Option.ite_none_right_eq_some,Bool.and_eq_true,Option.isSome_iff_exists]at ha
 obtain⟨⟨⟨cs,hc⟩,⟨cs',hc'⟩⟩,hδ⟩:=ha
 obtain⟨Ω,hown⟩:=hR.own
 obtain⟨c,kc,k1,k2,_⟩:=hown.ob l _ (jb hc)
 obtain⟨c',kc',q1,q2,_⟩:=hown.ob l' _ (jb hc')
 rw[hu]at k1
 rw[hu']at q1
 cases k1
 cases q1
 have hbl:(b=b') ↔ l=l':=by
  constructor
  ·intro e
   subst e
   rw[k2]at q2
   cases q2
   rfl
  ·intro e
   subst e
   have e1:=jb hc
   have e2:=jb hc'
   rw[e1]at e2
   simp only[Option.some.injEq,Obj'.mk.injEq]at e2
   obtain⟨rfl,_⟩:=e2
   rw[hu]at hu'
   cases hu'
   rfl
 have heq:(Nat.beq l l' && Nat.beq off off')=decide ((⟨b,off,none⟩:Addr)=⟨b',off',none⟩):=by
  rw[Bool.eq_iff_iff]
  have e1:∀m n:Nat,(Nat.beq m n=true) ↔ m=n:=fun m n=>⟨Nat.eq_of_beq_eq_true,fun h=>h▸Nat.beq_refl m⟩
  simp only[Bool.and_eq_true,e1,decide_eq_true_eq,Addr.mk.injEq,and_true,hbl]
 obtain⟨e,hue,n,hn,hn0⟩:=juv hk
 obtain⟨arr,_,m1,_⟩:=Q2 hR (jb hc) hu
 obtain⟨arr',_,m2,_⟩:=Q2 hR (jb hc') hu'
 have hsa:(sameAddr ⟨b,off,none⟩ ⟨b',off',none⟩).run P w=.ok (decide ((⟨b,off,none⟩:Addr)=⟨b',off',none⟩)) w:=by
  by_cases hb:b=b'
  ·subst hb
   have:((⟨b,off,none⟩:Addr) == ⟨b,off',none⟩)=decide ((⟨b,off,none⟩:Addr)=⟨b,off',none⟩):=by
    rw[Bool.eq_iff_iff];simp
   simp only[sameAddr,beq_self_eq_true,if_true,this,Sem.run_pure]
  ·have hne:(b == b')=false:=by simpa using hb
   simp[sameAddr,hne,hb,noView,viewAt,mayBeOne,stringish,World.shape?,m1,m2,World.frozen?]
 have hequal:(Op.equal t (a.eval x) (a.eval y)).run P w=.ok (Nat.beq l l' && Nat.beq off off') w:=by
  rw[hX,hY,heq]
  unfold Op.equal
  show(Op.equalIn (9999+1) t _ _).run P w=_
  unfold Op.equalIn
  simp only[Sem.run_bind,run_underlying hue,Result.andThen_ok,ji hn,hn0,ne_eq,not_false_eq_true,if_true,hsa]
 obtain⟨e1,e2⟩:=jco t (a.eval x) (a.eval y) _ (by rw[hX];simp) (by rw[hX];simp) (by rw[hX];simp) (by rw[hX];simp) hequal
 have h0:(eqGuard (if neg then .neq else .eql) t x y (a.eval x) (a.eval y)).run P w=.ok () w:=jJ _ _ _ _ _ _ (by rw[hX];simp) (by rw[hX];simp)
 refine jW hR hd (x:=.bool (xor neg (Nat.beq l l' && Nat.beq off off'))) ?_ (.pure _ _ (.bool _)) hδ
 simp only[execOp,ho,Sem.run_bind,h0,Result.andThen_ok]
 cases neg
 ·simp only[Bool.false_eq_true,if_false,e1,Result.andThen_ok,Sem.run_pure,Bool.false_xor]
 ·simp only[if_true,e2,Result.andThen_ok,Sem.run_pure,Bool.true_xor]
end
section
variable {P:Program}{E:Env}{w0 w:World}{I0:IMap}{nt:Nat}{γ:Nat→Option Place}{I:IMap}{st:St}{a:Act}{o:Oper}{ub:Nat}{δ:Delta}
theorem jsy (hR:R E w0 I0 nt γ I st a w) (hd:∀d,o.dst=some d→d<nt) {x:Operand}{xt t:TypeId}{x':A}{ok:Bool}{d:TypeDesc}{i:TypeInfo}{z:Value}{zv:V}(ho:o.op=.typeAssert x xt t ok) (hx:opd x=some x')
 (hu:P.underlying t=some d) (hni:∀m,d≠.interface m) (hi:P.info? t=some i) (hz:i.zero=some z) (hzv:Yt z=some zv)
 (ha:(match eval E st.tm x' with
  | .iface t' v=>if t'=t then one (if ok then .tup [v,.bool true] else v) else if ok then one (.tup [zv,.bool false]) else none
  | .nilif=>if ok then one (.tup [zv,.bool false]) else none
  | _=>none)=some δ):XA P E w0 I0 nt γ I st a w o ub δ:=by
 have hr:=jB hR hx
 have hzr:Rep γ I z zv:=.pure _ _ (jac hzv)
 have pair:∀ (x:Value) (v:V) (b:Bool),Rep γ I x v→Rep γ I (.tuple #[x,.bool b]) (.tup [v,.bool b]):=by
  intro x v b h
  refine .tup _ _ rfl (fun j y u hy hu=>?_)
  match j with
  | 0=>simp at hy hu;subst hy;subst hu;exact h
  | 1=>simp at hy hu;subst hy;subst hu;exact .pure _ _ (.bool b)
  | j+2=>simp at hu
 split at ha
 ·rename_i t' v he
  rw[he]at hr
  obtain⟨y,hx',hy⟩:=jbc hr
  split at ha
  ·rename_i htt
   subst htt
   cases ok
   ·refine jW hR hd (x:=y) ?_ hy ha
    simp only[execOp,ho,hx',Instr.typeAssert,Sem.run_bind,run_underlying hu,Result.andThen_ok]
    cases d <;> first|exact absurd rfl (hni _)|simp
   ·refine jW hR hd (x:=.tuple #[y,.bool true]) ?_ (pair _ _ _ hy) ha
    simp only[execOp,ho,hx',Instr.typeAssert,Sem.run_bind,run_underlying hu,Result.andThen_ok]
    cases d <;> first|exact absurd rfl (hni _)|simp
  ·rename_i htt
   cases ok
   ·cases ha
   ·refine jW hR hd (x:=.tuple #[z,.bool false]) ?_ (pair _ _ _ hzr) ha
    simp only[execOp,ho,hx',Instr.typeAssert,Sem.run_bind,run_underlying hu,Result.andThen_ok]
    cases d <;> first|exact absurd rfl (hni _)|simp[htt,J1 hi hz]
 ·rename_i he
  rw[he]at hr
  have hx':=WB hr
  cases ok
  ·cases ha
  ·refine jW hR hd (x:=.tuple #[z,.bool false]) ?_ (pair _ _ _ hzr) ha
   simp only[execOp,ho,hx',Instr.typeAssert,Sem.run_bind,run_underlying hu,Result.andThen_ok]
   cases d <;> first|exact absurd rfl (hni _)|simp[J1 hi hz]
 ·cases ha
theorem jlf (hR:R E w0 I0 nt γ I st a w) (hd:∀d,o.dst=some d→d<nt) (hf:γ ub=none) {t e:TypeId}{ps:Array (Nat × Operand)}{l:List (Nat × Nat × A)}{zs:List V}{n s:Nat}{d:Nat}(ho:o.op=.buildSlice t n ps)
 (hu:P.underlying t=some (.slice e)) (hs:Qe P e=some s) (hz:Yw P e=some zs) (hzs:zs.length=s) (hs0:0<s) (hns:n*s≤16777216) (hl:YZ (fun i=>some (i*s,s)) ps=some l)
 (ha:((fill (jcp n zs) (jq (eval E st.tm) l)).bind fun cs=>
  if cs.length=n*s∧cs.all V.leaf=true then Jh d ub (.cells cs) (.osl d ub 0 n s) else none)=some δ):XA P E w0 I0 nt γ I st a w o ub δ:=by
 obtain⟨cs,hcs,ha'⟩:=bind_some ha
 split at ha'
 ·rename_i hc
  obtain⟨i,z,hi,hz1,hlen,hcells⟩:=YI (I:=I) hz
  subst hzs
  obtain⟨cells',h1,h2⟩:=jdj hR (Wl hl) (jda (γ:=γ) (I:=I) hlen hcells n (.inr hs0)) hcs
  have hcap:n≤maxLen:=by
   have:n≤n*zs.length:=Nat.le_mul_of_pos_right n hs0
   simp only[maxLen];omega
  refine Yn hR hd hf (x:=.slice (some ⟨w.heap.size,0,none⟩) n n) (obj:=.cells cells' e) (k:=.n cells'.size) (body:=.cells cs) ?_ rfl (fun γ' h=>.osl _ _ _ _ _ _ _ _ _ h (fun _=>⟨rfl,by rw[h2.1,hc.1,Nat.zero_add];exact Nat.le_refl _⟩) (Nat.le_refl _) hcap)
   ⟨cells',e,rfl,rfl,Nat.le_of_eq h2.1.symm,h2.2⟩ ha'
  ·have hsz:i.size=zs.length:=by unfold Qe at hs;rw[hi]at hs;exact Option.some.inj hs
   have hbig:¬ (n*zs.length > 16777216):=by omega
   have h1':Instr.fill (fun i=>some (i*zs.length,zs.length)) ((Array.range (n*zs.length)).map (z.cells[· % z.cells.size]!)) ((ps.map fun(p:Nat × Operand)=>(p.1,a.eval p.2)).toList)=some cells':=by
    rw[Array.toList_map];exact h1
   have hrun:(Instr.buildSlice t n (ps.map fun(p:Nat × Operand)=>(p.1,a.eval p.2))).run P w=.ok (.slice (some ⟨w.heap.size,0,none⟩) n n) (w.alloc (.cells cells' e)):=by
    unfold Instr.buildSlice
    simp only[Sem.run_bind,run_underlying hu,Result.andThen_ok,ji hs,Nat.reducePow,hbig,if_false]
    by_cases h0:n*zs.length=0
    ·have hnz:n=0:=by rcases Nat.mul_eq_zero.1 h0 with h|h <;> omega
     subst hnz
     have hm:∀f:Nat→Value,(Array.range 0).map f = #[]:=fun f=>by simp[Array.range]
     simp only[Nat.zero_mul,hm]at h1'
     simp only[Nat.zero_mul,if_true,hm,h1']
     simp[newRow]
    ·simp only[h0,if_false,Sem.run_bind,J1 hi hz1,Result.andThen_ok,Sem.run_pure,h1']
     simp[newRow]
   simp only[execOp,ho,Sem.run_bind,hrun,Result.andThen_ok,Sem.run_pure]
 ·cases ha'
end
section
variable {P:Program}{E:Env}{w0 w:World}{I0:IMap}{nt:Nat}{γ:Nat→Option Place}{I:IMap}{st:St}{a:Act}{o:Oper}{ub:Nat}{δ:Delta}
theorem jwl {zs:List V}{n m j:Nat}{v:V}(hn:n≤m) (h:(jcp n zs)[j]? = some v):(jcp m zs)[j]? = some v:=by
 have hlt:j<n*zs.length:=by have:=(List.getElem?_eq_some_iff.1 h).1;simpa[jcp] using this
 have hle:n*zs.length≤m*zs.length:=Nat.mul_le_mul_right _ hn
 simp only[jcp,List.getElem?_map]at h ⊢
 rw[List.getElem?_range hlt]at h
 rw[List.getElem?_range (by omega)]
 exact h
theorem j14 (hR:R E w0 I0 nt γ I st a w) (hd:∀d,o.dst=some d→d<nt) (hf:γ ub=none) {t e:TypeId}{x y:Operand}{x' y':A}{i:TypeInfo}{zs:List V}{d:Nat}{m:Bool}(ho:o.op=.makeSlice t x y) (hx:opd x=some x') (hy:opd y=some y')
 (hu:P.underlying t=some (.slice e)) (hi:P.info? e=some i) (hz:Yw P e=some zs)
 (ha:(match eval E st.tm x',eval E st.tm y' with
  | .int .i64 l,.int .i64 c=>if 0≤l∧l≤c∧c*i.bytes≤140737488355328∧c≤140737488355328∧zs.length=i.size∧0<i.size then
   (if !m∧l=0 then some { v:=V.sl (some (ub,i.size)) false 0 [],add:=[ub] } else Jh d ub (.cells (jcp l.toNat zs)) (.osl d ub 0 l.toNat i.size)) else none
  | _,_=>none)=some δ):XA P E w0 I0 nt γ I st a w o ub δ:=by
 have hrx:=jB hR hx
 have hry:=jB hR hy
 split at ha
 ·rename_i l c hl hc
  rw[hl]at hrx
  rw[hc]at hry
  have hX:=ju hrx
  have hY:=ju hry
  split at ha
  ·rename_i hcond
   obtain⟨h0,hlc,hb,hcm,hzl,hs0⟩:=hcond
   obtain⟨i',z,hi',hz1,hlen,hcells⟩:=YI (I:=I) hz
   rw[hi]at hi'
   cases hi'
   have hb':(i.bytes:Int)*c≤281474976710656:=by rw[Int.mul_comm];omega
   have hrun:=run_make (P:=P) w t e i z hu hi hz1 .i64 .i64 l c h0 hlc hb' (by omega)
   have hexec:(execOp a.eval o).run P w=.ok (.value (.slice (some ⟨w.heap.size,0,none⟩) l.toNat c.toNat)) (w.alloc (.cells (madeCells z.cells (c.toNat*i.size)) e)):=by
    simp only[execOp,ho,Sem.run_bind,hX,hY,hrun,Result.andThen_ok,Sem.run_pure]
   have hmx:c.toNat≤maxLen:=by simp only[maxLen];omega
   split at ha
   ·rename_i hl0
    obtain⟨_,rfl⟩:=hl0
    refine jms hR hd hf (b:=w.heap.size) (n:=0) (cap:=c.toNat) (sz:=i.size) (cs:=[]) (w':=w.alloc _) (del:=none) (arr:=madeCells z.cells (c.toNat*i.size)) (e:=e)
     hexec (.inl ⟨rfl,by simp⟩) ⟨rfl,rfl,rfl⟩ (fun k hk _=>heap_alloc_old _ _ _ hk) (heap_alloc_new _ _) (size_madeCells _ _) (Nat.zero_le _) hmx (fun j y hy=>?_) (by simp) (fun j v hv=>by simp at hv) ha
    exact absurd (World.block_lt_of_cell? _ _ (hR.imm _ _ _ hy)) (Nat.lt_irrefl _)
   ·have hrow:=jda (γ:=γ) (I:=I) hlen hcells c.toNat (.inr (by omega))
    have hnat:l.toNat≤c.toNat:=by omega
    refine Yn hR hd hf (x:=.slice (some ⟨w.heap.size,0,none⟩) l.toNat c.toNat) (k:=.n (c.toNat*i.size)) (body:=.cells (jcp l.toNat zs)) hexec rfl
     (fun γ' h=>.osl _ _ _ _ _ _ _ _ _ h (fun _=>⟨rfl,by show 0+c.toNat*i.size≤c.toNat*i.size;omega⟩) hnat hmx) ⟨_,e,rfl,size_madeCells _ _,?_,fun j x v hx hv=>?_⟩ ha
    ·simp only[jcp,List.length_map,List.length_range,hzl]
     exact Nat.mul_le_mul_right _ hnat
    ·refine hrow.2 j x v ?_ (jwl hnat hv)
     rw[← hzl]at hx
     exact hx
  ·cases ha
 ·cases ha
end
theorem jgr:∀ (l:List UInt8) (c:UInt8),jca l c=Lib.indexByte l c
  | [],_=>rfl
  | b::l,c=>by simp only[jca,Lib.indexByte,jgr l c]
section
variable {P:Program}{E:Env}{w0 w:World}{I0:IMap}{nt:Nat}{γ:Nat→Option Place}{I:IMap}{st:St}{a:Act}{o:Oper}{ub:Nat}{δ:Delta}
theorem joe      {fn:Func} {k:ExtK} (ho:fn.origin = "") (hn:(fn.name = "internal/bytealg.CountString" ∧k = .count)∨(fn.name = "internal/bytealg.IndexByteString" ∧k = .indexByte)) :
    Extern.findNext fn=none∧Extern.find fn=some (match k with|.count=>Extern.BytealgCount.count|.indexByte=>Extern.BytealgIndexByte.indexByte):=by
  rcases hn with⟨h,rfl⟩|⟨h,rfl⟩
  · constructor
    · unfold Extern.findNext
      simp only[ho,h]
      rfl
    · unfold Extern.find
      simp only[ho,h]
      rfl
  · constructor
    · unfold Extern.findNext
      simp only[ho,h]
      rfl
    · unfold Extern.find
      simp only[ho,h]
      rfl
end
section
variable {P:Program}{E:Env}{w0 w:World}{I0:IMap}{nt:Nat}{γ:Nat→Option Place}{I:IMap}{st:St}{a:Act}{o:Oper}{ub:Nat}{δ:Delta}
theorem any_beq {l:List Nat}{k:Nat}:l.any (Nat.beq k)=true ↔ k∈l:=by
 rw[List.any_eq_true]
 constructor
 ·rintro⟨x,hx,h⟩;exact(Nat.eq_of_beq_eq_true h)▸hx
 ·intro h;exact⟨k,h,Nat.beq_refl k⟩
theorem jzx (hR:R E w0 I0 nt γ I st a w) (hd:∀d,o.dst=some d→d<nt) (hf:γ ub=none) {b d:Nat}{k:Kd}{cs:List V}{x:Value}{v:V}{w':World}{kill:List Nat}
 (hrun:(execOp a.eval o).run P w=.ok (.value x) w')
 (hb:(b=w.heap.size∧w'.heap.size=w.heap.size+1)∨(∃l0 u0 cs0 k0,st.ob l0=some ⟨u0,.cells cs0⟩∧γ u0=some (.obj b k0)∧l0∈kill∧Nat.ble st.ro u0=true∧w'.heap.size=w.heap.size))
 (hos:w'.os=w.os∧w'.tape=w.tape∧w'.output=w.output) (hk:∀k,k<w.heap.size→k≠b→w'.heap[k]? = w.heap[k]?)
 (hx:∀γ':Nat→Option Place,γ' ub=some (.obj b k)→Rep γ' I x v) (hbody:ObjOk γ I st.ob w.heap k w'.heap[b]? (.cells cs))
 (hδ:some { v:=v,obs:=[(d,⟨ub,.cells cs⟩)],kill:=kill } = some δ):XA P E w0 I0 nt γ I st a w o ub δ:=by
 simp only[Option.some.injEq]at hδ
 subst hδ
 obtain⟨Ω,ho⟩:=hR.own
 have hmγ:=WQ (f:=γ) (k:=ub) (v:=Place.obj b k) hf
 have hob:(st.app o.dst { v:=v,obs:=[(d,⟨ub,.cells cs⟩)],kill:=kill }).ob=upd (fun k=>if kill.any (Nat.beq k) then none else st.ob k) d (some ⟨ub,.cells cs⟩):=by
  simp only[St.app,JK]
 have hlive:∀l x,l≠d→(upd (fun k=>if kill.any (Nat.beq k) then none else st.ob k) d (some ⟨ub,.cells cs⟩)) l=some x→st.ob l=some x∧l ∉ kill:=by
  intro l x hld hl
  rw[J9 _ _ hld]at hl
  split at hl
  ·cases hl
  ·rename_i h;exact⟨hl,fun hm=>h (any_beq.2 hm)⟩
 have hB:w0.heap.size≤b:=by
  rcases hb with⟨h,_⟩|⟨l0,u0,cs0,k0,h1,h2,_,h4,_⟩
  ·rw[h];exact hR.fr.size
  ·obtain⟨b',k',q1,q2,q3,_⟩:=ho.ob l0 _ h1
   rw[h2]at q1
   cases q1
   exact q3 (by simpa[Nat.ble_eq] using h4)
 have hle:w.heap.size≤w'.heap.size:=by rcases hb with⟨_,h⟩|⟨_,_,_,_,_,_,_,_,h⟩ <;> omega
 have hbody':=hbody
 obtain⟨arr,e,hblk,_,_,_⟩:=hbody'
 have hlt:b<w'.heap.size:=(Array.getElem?_eq_some_iff.1 hblk).1
 have hIb:∀j,I b j=none:=by
  intro j
  rcases hb with⟨h,_⟩|⟨l0,u0,cs0,k0,h1,h2,_,h4,_⟩
  ·cases hj:I b j with
   | none=>rfl
   | some y=>exact absurd (World.block_lt_of_cell? _ _ (hR.imm _ _ _ hj)) (by rw[h];exact Nat.lt_irrefl _)
  ·obtain⟨b',k',q1,_,_,_,q5⟩:=ho.ob l0 _ h1
   rw[h2]at q1
   cases q1
   exact q5 j
 have hneb:∀b' ow,Ω b'=some ow→(∀l,ow=.ob l→l ∉ kill)→b'≠b:=by
  intro b' ow h1 h2 e
  subst e
  rcases hb with⟨h,_⟩|⟨l0,u0,cs0,k0,q1,q2,q3,_,_⟩
  ·have:=ho.lt _ _ h1;omega
  ·obtain⟨b',k',r1,r2,_⟩:=ho.ob l0 _ q1
   rw[q2]at r1
   cases r1
   rw[h1]at r2
   cases r2
   exact h2 l0 rfl q3
 have hkeep:Xr γ st.ob (upd (fun k=>if kill.any (Nat.beq k) then none else st.ob k) d (some ⟨ub,.cells cs⟩)) w.heap w'.heap:=by
  intro l2 u2 ver' es' mb mk hu2 hl2
  by_cases hld:l2=d
  ·subst hld
   simp at hl2
  ·obtain⟨hl2,hnk⟩:=hlive l2 _ hld hl2
   refine .inl ⟨hl2,fun m c hm2=>?_⟩
   obtain⟨b2,k2',q1,q2,_⟩:=ho.ob l2 _ hl2
   rw[hu2]at q1
   cases q1
   rw[hk mb (ho.lt _ _ q2) (hneb mb _ q2 (fun l h=>by cases h;exact hnk))]
   exact hm2
 refine⟨x,w',upd γ ub (some (.obj b k)),I,.inl hrun,⟨(Yi _ _ _).trans hR.sz,jcw hR hmγ _ _,?_,⟨?_,hR.gl,⟨upd Ω b (some (.ob d)),⟨?_,?_,?_⟩⟩,?_,hR.old⟩⟩,?_,hmγ,fun _ _ _ h=>h⟩
 ·exact Q0 (by rw[hR.sz];exact hd) (fun t=>(hR.tm t).mono hmγ (fun _ _ _ h=>h)) (hx _ (by simp))
 ·intro b' j y hy
  have hne:b'≠b:=fun h=>by rw[h,hIb]at hy;cases hy
  have hc:=hR.imm _ _ _ hy
  rw[World.cell?_of_block (w:=w) (w':=w') (a:=⟨b',j,none⟩) (hk b' (World.block_lt_of_cell? _ _ hc) hne)]
  exact hc
 ·intro l ob hl
  rw[hob]at hl ⊢
  by_cases hld:l=d
  ·subst hld
   simp only[Yg,Option.some.injEq]at hl
   subst hl
   exact⟨b,k,by simp,by simp,fun _=>hB,(ObjOk.keep hbody hkeep).mono hmγ (fun _ _ _ h=>h),hIb⟩
  ·obtain⟨hl,hnk⟩:=hlive l _ hld hl
   obtain⟨b',k',k1,k2,k3,k4,k5⟩:=ho.ob l ob hl
   have hne:=hneb b' _ k2 (fun l h=>by cases h;exact hnk)
   refine⟨b',k',hmγ _ _ k1,by rw[J9 _ _ hne];exact k2,k3,?_,k5⟩
   rw[hk b' (ho.lt _ _ k2) hne]
   exact(k4.keep hkeep).mono hmγ (fun _ _ _ h=>h)
 ·intro u hu
  have hu':st.tk u=true:=by simpa[St.app,XT] using hu
  obtain⟨b',n',c',s',k1,k2,k3,k4,k5⟩:=ho.tk u hu'
  have hne:=hneb b' _ k2 (fun l h=>by cases h)
  refine⟨b',n',c',s',hmγ _ _ k1,by rw[J9 _ _ hne];exact k2,k3,?_,k5⟩
  rw[hk b' (ho.lt _ _ k2) hne]
  exact k4
 ·intro b' ow hb'
  rw[j5]at hb'
  split at hb'
  ·rename_i h;subst h;exact hlt
  ·have:=ho.lt b' _ hb';omega
 ·exact Grow.frame hR.fr (T:=fun k=>k=b) ⟨hos.1,hos.2.1,hos.2.2,hle,fun k hk' hne=>hk k hk' hne,fun k hk'=>hk'▸hB⟩
 ·intro u hu
  exact J9 _ _ (fun e=>hu ⟨by omega,by omega⟩)
theorem jbi {cs ys:List V}{arr:Array Value}{k:Nat}(hk:cs.length=k) (h1:∀ (j:Nat) (x:Value) (v:V),arr[j]? = some x→cs[j]? = some v→v.leaf=true∧Rep γ I x v)
 (h2:∀ (j:Nat) (x:Value) (v:V),arr[k+j]? = some x→ys[j]? = some v→v.leaf=true∧Rep γ I x v) :
 ∀ (j:Nat) (x:Value) (v:V),arr[j]? = some x→(cs++ys)[j]? = some v→v.leaf=true∧Rep γ I x v:=by
 intro j x v hx hv
 by_cases hj:j<k
 ·rw[List.getElem?_append_left (by omega)]at hv
  exact h1 j x v hx hv
 ·rw[List.getElem?_append_right (by omega)]at hv
  refine h2 (j - cs.length) x v ?_ hv
  rw[hk,show k+(j - k)=j by omega]
  exact hx
theorem jgf (hR:R E w0 I0 nt γ I st a w) (hd:∀d,o.dst=some d→d<nt) (hf:γ ub=none) {t e:TypeId}{s x:Operand}{s' x':A}{i:TypeInfo}{z:Value}{d:Nat}(ho:o.op=.call { callee:=.builtin .append,args:=#[s,x],argTypes:=#[t,t] })
 (hs:opd s=some s') (hx:opd x=some x') (hu:P.underlying t=some (.slice e)) (hi:P.info? e=some i) (hz:i.zero=some z) (hs0:0<i.size) (hzs:z.cells.size=i.size)
 {ys:List V}(hys:jI st.ob i.size (eval E st.tm x')=some ys)
 (ha:(∃t0 n cs,eval E st.tm s'=.sl t0 true n cs∧ys≠[]∧ys.all V.leaf=true∧(ys.length / i.size)*i.bytes≤140737488355328∧ys.length / i.size≤140737488355328 ∧
  Jh d ub (.cells ys) (.osl d ub 0 (ys.length / i.size) i.size)=some δ) ∨
  ∃l u off n sz' cs,eval E st.tm s'=.osl l u off n sz'∧j1 st.ob l u=some cs ∧
   (if ys=[] then one (.osl l u off n sz') else
   if Nat.ble st.ro u=true∧sz'=i.size∧off=0∧n*i.size≤cs.length∧0<i.size∧ys.all V.leaf=true∧(n+ys.length / i.size)*i.bytes≤140737488355328∧n+ys.length / i.size≤140737488355328 then
    some { v:=V.osl d ub 0 (n+ys.length / i.size) i.size,obs:=[(d,⟨ub,.cells (cs.take (n*i.size)++ys)⟩)],kill:=[l] } else none)=some δ):XA P E w0 I0 nt γ I st a w o ub δ:=by
 have hrs:=jB hR hs
 have hrx:=jB hR hx
 have hexec:∀ (v:Value) (w':World),(Builtin.append_ #[t,t] o.type #[a.eval s,a.eval x]).run P w=.ok v w'→(execOp a.eval o).run P w=.ok (.value v) w':=by
  intro v w' h
  simp only[execOp,ho,resolve,Sem.run_bind,Sem.run_pure,Result.andThen_ok,invoke,builtin,List.map_toArray,List.map_cons,List.map_nil,h]
 -- what is appended
 have rowX:ys≠[]→ys.all V.leaf=true→∃ (ad:Addr) (m c:Nat) (news:List Value),a.eval x=.slice (some ad) m c∧m≤c∧ys.length=m*i.size∧0<m∧ys.length / i.size=m∧news.length=m*i.size ∧
  (∀ (j:Nat) (u:Value),news[j]? = some u→w.cell? (ad.add j)=some u)∧(∀ (j:Nat) (x:Value) (v:V),news[j]? = some x→ys[j]? = some v→v.leaf=true∧Rep γ I x v)∧(∀u∈news,u.oneCell'=true):=by
  intro hne hp
  rcases jg6 hR hrx hys hp hs0 with⟨_,h⟩|⟨ad,m,c,news,hX,hmc,hyl,hnl,hnews,hnr,hn1⟩
  ·exact absurd h hne
  ·have hm0:0<m:=by
    rcases Nat.eq_zero_or_pos m with h|h
    ·subst h
     simp only[Nat.zero_mul]at hyl
     exact absurd (List.eq_nil_of_length_eq_zero hyl) hne
    ·exact h
   exact⟨ad,m,c,news,hX,hmc,hyl,hm0,by rw[hyl];exact Nat.mul_div_cancel _ hs0,by omega,hnews,fun j x v hx hv=>⟨List.all_eq_true.1 hp v (List.mem_of_getElem? hv),hnr j x v hx hv⟩,hn1⟩
 -- a new row
 have grown:∀ (olds:List Value) (cs:List V) (n m old:Nat) (news:List Value) (kill:List Nat),olds.length=n*i.size→cs.length=n*i.size→news.length=m*i.size→ys.length=m*i.size→ys.length / i.size=m→n+m≤140737488355328 →
  (∀ (j:Nat) (x:Value) (v:V),olds[j]? = some x→cs[j]? = some v→v.leaf=true∧Rep γ I x v)→(∀ (j:Nat) (x:Value) (v:V),news[j]? = some x→ys[j]? = some v→v.leaf=true∧Rep γ I x v) →
  (Builtin.append_ #[t,t] o.type #[a.eval s,a.eval x]).run P w=.ok (.slice (some ⟨w.heap.size,0,none⟩) (n+m) (grownCap w (n+m) old e)) (w.drew.alloc (.cells (olds.toArray++news.toArray++Builtin.zeroCells z.cells (grownCap w (n+m) old e - (n+m))) e)) →
  some { v:=V.osl d ub 0 (n+ys.length / i.size) i.size,obs:=[(d,⟨ub,.cells (cs++ys)⟩)],kill:=kill } = some δ→XA P E w0 I0 nt γ I st a w o ub δ:=by
  intro olds cs n m old news kill holdl hcl hnl hyl hm hmx holds hnews hrun hδ
  have hge:=grownCap_ge w (n+m) old e
  have hcm:=grownCap_le_maxLen w (n+m) old e (by simp only[maxLen];omega)
  rw[hm]at hδ
  have hsz:(olds.toArray++news.toArray++Builtin.zeroCells z.cells (grownCap w (n+m) old e - (n+m))).size=grownCap w (n+m) old e*i.size:=by
   simp only[Array.size_append,List.size_toArray,size_zeroCells,hzs,holdl,hnl,← Nat.add_mul]
   congr 1
   omega
  refine jzx hR hd hf (b:=w.heap.size) (k:=.n (grownCap w (n+m) old e*i.size)) (hexec _ _ hrun) (.inl ⟨rfl,by simp⟩) ⟨rfl,rfl,rfl⟩ (fun k hk _=>heap_alloc_old w.drew _ k hk)
   (fun γ' h=>.osl _ _ _ _ _ _ _ _ _ h (fun _=>⟨rfl,by rw[Nat.zero_add];exact Nat.le_refl _⟩) hge hcm) ?_ hδ
  refine⟨_,e,heap_alloc_new w.drew _,hsz,?_,?_⟩
  ·show(cs++ys).length≤grownCap w (n+m) old e*i.size
   rw[List.length_append,hcl,hyl,← Nat.add_mul]
   exact Nat.mul_le_mul_right _ hge
  ·refine jbi hcl (fun j x v hx hv=>?_) (fun j x v hx hv=>?_)
   ·have hj:j<olds.length:=by have:=(List.getElem?_eq_some_iff.1 hv).1;omega
    rw[Array.getElem?_append_left (by simp;omega),Array.getElem?_append_left (by simpa using hj)]at hx
    exact holds j x v (by simpa using hx) hv
   ·have hj:j<news.length:=by have:=(List.getElem?_eq_some_iff.1 hv).1;omega
    rw[Array.getElem?_append_left (by simp;omega),Array.getElem?_append_right (by simp;omega)]at hx
    simp only[List.size_toArray,holdl,Nat.add_sub_cancel_left]at hx
    exact hnews j x v (by simpa using hx) hv
 rcases ha with⟨t0,n,cs,hev,hne,hp,hby,hmx,hδ⟩|⟨l,u,off,n,sz',cs,hev,hcs,ha⟩
 ·obtain⟨ad,m,c,news,hX,hmc,hyl,hm0,hm,hnl,hnews,hnr,hn1⟩:=rowX hne hp
  rw[hev]at hrs
  rw[hm]at hby hmx
  have hS:a.eval s=.slice none 0 0:=by
   rcases Xz hrs with⟨h,_⟩|⟨_,_,_,_,h,_⟩
   ·exact h
   ·cases h
  have h48:m*i.bytes≤281474976710656:=by omega
  have hrun:=run_append_nil (P:=P) w t o.type e i z hu hi hz ad m c news hnl hnews hm0 (by omega) h48
  refine grown [] [] 0 m 0 news [] (by simp) (by simp) hnl hyl hm (by omega) (fun j x v hx=>by simp at hx) hnr ?_ ?_
  ·rw[hS,hX,Nat.zero_add,hrun];simp
  ·rw[← hδ]
   simp[Jh]
 ·rw[hev]at hrs
  have hrs':=hrs
  obtain⟨b,kb,ad0,cap,hγ,hS,had,hc,hcm⟩:=Xi hrs
  split at ha
  ·rename_i hnil
   subst hnil
   have hX:a.eval x=.slice none 0 0∨∃ad c,a.eval x=.slice (some ad) 0 c:=by
    rcases jg6 hR hrx hys rfl hs0 with⟨h,_⟩|⟨ad,m,c,news,h,_,hl,_⟩
    ·exact .inl h
    ·have:m=0:=by
      simp only[List.length_nil]at hl
      rcases Nat.mul_eq_zero.1 hl.symm with h|h <;> omega
     subst this
     exact .inr ⟨ad,c,h⟩
   refine jW hR hd (x:=a.eval s) (hexec _ _ ?_) hrs' ha
   rw[hS]
   exact Wz t o.type e i hu hi (some ad0) n cap hc _ hX
  ·rename_i hne
   split at ha
   case isFalse=>cases ha
   rename_i hcond
   obtain⟨hro,hsz,hoff,hle,_,hp,hby,hmx⟩:=hcond
   subst hsz
   subst hoff
   obtain⟨ad,m,c,news,hX,hmc,hyl,hm0,hm,hnl,hnews,hnr,hn1⟩:=rowX hne hp
   have hmx':=hmx
   have hby':=hby
   rw[hm]at hby' hmx'
   have hob:=jb hcs
   obtain⟨arr,e',g1,g2,g3,g4⟩:=Q2 hR hob hγ
   have htl:(cs.take (n*i.size)).length=n*i.size:=by rw[List.length_take];omega
   have hget:∀j,j<n*i.size→arr[j]? = some (arr.getD j undef):=by
    intro j hj
    have:j<arr.size:=by omega
    simp[this]
   have had':0<n*i.size→ad0=⟨b,0,none⟩:=fun h=>(had (by
    rcases Nat.eq_zero_or_pos n with h0|h0
    ·subst h0;simp at h
    ·omega)).1
   by_cases hroom:n+m≤cap
   ·have hcap0:0<cap:=by omega
    obtain⟨hada,hfitk⟩:=had hcap0
    rw[Nat.zero_add]at hfitk
    have hfit:n*i.size+news.length≤arr.size:=by rw[hnl,g2,← Nat.add_mul];exact Nat.le_trans (Nat.mul_le_mul_right _ hroom) hfitk
    have haR:=ha
    rw[hm]at haR
    have hrun:=Wo (P:=P) (w:=w) t o.type e e' i hu hi b n cap arr g1 ad m c news hnl hnews hn1 hroom hfit
    refine jzx hR hd hf (b:=b) (k:=kb) (w':=w.setRow b _) (hexec _ _ (by rw[hS,hX,hada];exact hrun)) (.inr ⟨l,u,cs,kb,hob,hγ,List.mem_singleton.2 rfl,hro,by simp⟩) ⟨rfl,rfl,rfl⟩
     (fun k _ hk=>setRow_other w _ k _ hk) (fun γ' h=>.osl _ _ _ _ _ _ _ _ _ h (fun _=>⟨rfl,by rw[Nat.zero_add];exact hfitk⟩) hroom hcm) ?_ haR
    refine⟨_,e',setRow_heap w _ arr _ e' _ g1,?_,?_,?_⟩
    ·rw[← g2]
     simp only[List.size_toArray,List.length_append,List.length_take,List.length_drop,Array.length_toList]
     omega
    ·rw[List.length_append,htl,hyl,← Nat.add_mul]
     exact Nat.le_trans (Nat.mul_le_mul_right _ hroom) hfitk
    ·refine jbi htl (fun j x v hx hv=>?_) (fun j x v hx hv=>?_)
     ·have hj:j<n*i.size:=by have:=(List.getElem?_eq_some_iff.1 hv).1;omega
      simp only[List.getElem?_toArray]at hx
      rw[List.append_assoc,List.getElem?_append_left (by simp only[List.length_take,Array.length_toList];omega),List.getElem?_take_of_lt hj]at hx
      rw[List.getElem?_take_of_lt hj]at hv
      exact g4 j x v (by simpa using hx) hv
     ·have hj:j<news.length:=by have:=(List.getElem?_eq_some_iff.1 hv).1;omega
      simp only[List.getElem?_toArray]at hx
      rw[List.getElem?_append_left (by simp only[List.length_append,List.length_take,Array.length_toList];omega),List.getElem?_append_right (by simp only[List.length_take,Array.length_toList];omega)]at hx
      have hq:n*i.size+j - (List.take (n*i.size) arr.toList).length=j:=by simp only[List.length_take,Array.length_toList];omega
      rw[hq]at hx
      exact hnr j x v hx hv
   ·have holds:∀ (j:Nat) (v:Value),((List.range (n*i.size)).map fun j=>arr.getD j undef)[j]? = some v→w.cell? (ad0.add j)=some v:=by
     intro j v hv
     simp only[List.getElem?_map,Option.map_eq_some_iff]at hv
     obtain⟨k,hk,rfl⟩:=hv
     have hj:j<n*i.size:=by have:=(List.getElem?_eq_some_iff.1 hk).1;simpa using this
     rw[List.getElem?_range hj]at hk
     cases hk
     rw[had' (by omega),XH,Nat.zero_add]
     simp only[World.cell?,g1,Option.isSome_none,Bool.false_eq_true,if_false]
     exact hget j hj
    have hol:((List.range (n*i.size)).map fun j=>arr.getD j undef).length=n*i.size:=by simp
    have hrun:=run_append_grow (P:=P) w t o.type e i z hu hi hz ad0 n cap _ hol holds ad m c news hnl hnews (by omega) (by omega) (growslice_fits (by omega) hby')
    refine grown _ _ n m cap news [l] hol htl hnl hyl hm (by omega) (fun j x v hx hv=>?_) hnr (by rw[hS,hX];exact hrun) ha
    have hj:j<n*i.size:=by have:=(List.getElem?_eq_some_iff.1 hv).1;omega
    rw[List.getElem?_take_of_lt hj]at hv
    simp only[List.getElem?_map,List.getElem?_range hj,Option.map_some,Option.some.injEq]at hx
    subst hx
    exact g4 j _ v (hget j hj) hv
end
end Go.Pv
