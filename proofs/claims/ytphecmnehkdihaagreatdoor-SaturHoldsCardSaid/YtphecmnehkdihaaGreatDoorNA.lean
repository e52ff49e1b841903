/- The abstract interpreter: values without memory, operations, code; and the translation of the program's form into it. -/
import Derived.Calls
import Derived.LoopN
import Derived.Orders
import Derived.Laws.AppendOwn
import Derived.Laws.StructEq
import Derived.ChangeKeysEq
import Derived.Laws.Slices
import Derived.Laws.RangeString
import Derived.Laws.MakeOwn
import Derived.Lib.Bytealg
set_option maxRecDepth 100000
set_option maxHeartbeats 8000000
namespace Go.Pv
theorem zS {p:Prop} (h:p:=by simp):p:=h
theorem zO {p:Prop} (h:p:=by omega):p:=h
theorem zL {p:Prop} (h:p:=by first|omega|(simp;done)|(simp;omega)):p:=h
theorem zD {p:Prop} (h:p:=by decide):p:=h
theorem zR {n:Nat}:n≤n:=Nat.le_refl n
open Go
inductive V where
 | undef
 | bool (b:Bool)
 | int (k:IntKind) (n:Int)
 | str (s:List UInt8)
 | nilptr
 | nilmap
 | nilfn
 | nilif
 | sl (tok:Option (Nat × Nat)) (nil:Bool) (n:Nat) (cs:List V)
 | agg (cs:List V)
 | tup (vs:List V)
 | eptr (cs:List V) (off:Nat)
 | ptr (l u off:Nat)
 | osl (l u off n sz:Nat)
 | map (l u:Nat)
 | iter (l u:Nat)
 | fn (f:Fn) (first captured:List V)
 | iface (t:TypeId) (v:V)
 | yld (l u:Nat)
 deriving Inhabited
inductive Ex where
 | nrm
 | exit (id:Nat)
 | ret
 deriving Inhabited,DecidableEq
inductive LS where
 | ready|busy|done
 deriving Inhabited,DecidableEq
def V.leaf:V→Bool
 | .agg _|.tup _|.undef=>false
 | _=>true
def V.cells:V→List V
 | .agg cs=>cs
 | v=>[v]
mutual
def V.eqb:V→V→Bool
 | .undef,.undef=>true
 | .bool a,.bool b=>a == b
 | .int k a,.int k' b=>decide (k=k') && decide (a=b)
 | .str a,.str b=>decide (a=b)
 | .nilptr,.nilptr=>true
 | .nilmap,.nilmap=>true
 | .nilfn,.nilfn=>true
 | .nilif,.nilif=>true
 | .sl t nl n cs,.sl t' nl' n' cs'=>decide (t=t') && decide (nl=nl') && decide (n=n') && V.eqbs cs cs'
 | .agg cs,.agg cs'=>V.eqbs cs cs'
 | .tup cs,.tup cs'=>V.eqbs cs cs'
 | .eptr cs o,.eptr cs' o'=>V.eqbs cs cs' && decide (o=o')
 | .fn f a b,.fn f' a' b'=>decide (f=f') && V.eqbs a a' && V.eqbs b b'
 | .iface t v,.iface t' v'=>decide (t=t') && V.eqb v v'
 | .ptr a b c,.ptr a' b' c'=>decide (a=a') && decide (b=b') && decide (c=c')
 | .osl a b c d e,.osl a' b' c' d' e'=>decide (a=a') && decide (b=b') && decide (c=c') && decide (d=d') && decide (e=e')
 | .map a b,.map a' b'=>decide (a=a') && decide (b=b')
 | .iter a b,.iter a' b'=>decide (a=a') && decide (b=b')
 | .yld a b,.yld a' b'=>decide (a=a') && decide (b=b')
 | _,_=>false
def V.eqbs:List V→List V→Bool
 | [],[]=>true
 | a::l,b::m=>V.eqb a b && V.eqbs l m
 | _,_=>false
end
inductive OBody where
 | cells (cs:List V)
 | mp (ver:Nat) (es:List (V × V))
 | siter (s:List UInt8) (pos:Nat)
 | miter (l u ver:Nat) (left:List (V × V)) (last:Option (V × V))
 | nomap
 | loop (s:LS) (pend:Option Ex)
 | dfr
 deriving Inhabited
structure Obj' where
 uid:Nat
 body:OBody
 deriving Inhabited
inductive A where
 | t (n:Nat)
 | c (v:V)
 | g (n:Nat)
 deriving Inhabited
inductive LK where
 | bool|int|str
 deriving Inhabited,DecidableEq
inductive EqK where
 | bool|ptr|sl|map|fn|iface
 | struct (l:List LK)
 deriving Inhabited,DecidableEq
inductive ExtK where
 | count|indexByte
 deriving Inhabited,DecidableEq
inductive AOp where
 | mov (x:A)
 | pick (c a b:A)
 | bin (op:BinOp) (x y:A)
 | eq (neg:Bool) (k:EqK) (x y:A)
 | un (op:UnOp) (x:A)
 | alloc (zero:List V)
 | box (sz:Nat) (x:A)
 | build (zero:List V) (parts:List (Nat × Nat × A))
 | buildSl (o:Bool) (sz:Nat) (zero:List V) (parts:List (Nat × Nat × A)) (n:Nat)
 | load (g:Option Nat) (x:A)
 | store (sz:Nat) (a x:A)
 | nilCheck (x:A)
 | fieldAddr (off:Nat) (x:A)
 | idxSl (sz:Nat) (x i:A)
 | idxArr (len sz:Nat) (x i:A)
 | part (g:Option Nat) (off:Nat) (x:A)
 | idxStr (x i:A)
 | idxVal (g:Option Nat) (len sz:Nat) (x i:A)
 | slStr (x:A) (lo hi:Option A)
 | slSl (sz:Nat) (x:A) (lo hi:Option A)
 | slArr (len sz:Nat) (x:A) (lo hi:Option A)
 | lenStr (x:A)
 | lenSl (x:A)
 | lenMap (x:A)
 | append (o:Bool) (sz bytes:Nat) (s x:A)
 | extract (x:A) (i:Nat)
 | mkFn (f:Fn) (first captured:List A)
 | mkMap
 | lookup (q:LK) (zero:V) (ok:Bool) (m k:A)
 | mapSet (q:LK) (m k v:A)
 | mapDel (q:LK) (m k:A)
 | mapEnt (q:LK) (zero:V) (m k:A)
 | entSt (m i x:A)
 | range (isStr:Bool) (x:A)
 | nextStr (x:A)
 | nextMap (x:A)
 | entry (x:A)
 | iface (t:TypeId) (x:A)
 | assert (t:TypeId) (zero:V) (ok:Bool) (x:A)
 | conv (k:IntKind) (x:A)
 | convId (x:A)
 | strOfBytes (x:A)
 | strOfInt (x:A)
 | runesOfStr (x:A)
 | bytesOfStr (x:A)
 | mkSl (o:Bool) (sz bytes:Nat) (zero:List V) (l c:A)
 | minmax (isMax:Bool) (xs:List A)
 | copy (sz:Nat) (d s:A)
 | clear (sz:Nat) (zero:List V) (x:A)
 | ext (k:ExtK) (xs:List A)
 | call (f:FuncId) (xs:List A)
 | callV (f:A) (xs:List A)
 | stuck
 deriving Inhabited
def AOp.isCall:AOp→Bool
 | .call ..|.callV ..=>true
 | _=>false
def AOp.isNext:AOp→Bool
 | .nextMap _=>true
 | _=>false
structure AOpr where
 dst:Option Nat
 op:AOp
 guard:Option (Nat × Bool)
 nm:Bool
 deriving Inhabited
inductive C where
 | skip
 | region (ops:List AOpr)
 | draw (ops:List AOpr) (free:List (Nat × Nat))
 | pin (o:AOpr) (fs:List AOpr)
 | seq (a b:C)
 | cond (c:A) (a b:C)
 | block (id:Nat) (a:C)
 | loop (a:C)
 | exit (id:Nat)
 | ret
 | rangeFunc (f:A) (ps:List Nat) (asg bd:C)
 | stuck
 deriving Inhabited
inductive ARes where
 | t (n:Nat)
 | cell (n:Nat) (g:Option Nat)
 deriving Inhabited
structure AF where
 body:C
 res:List ARes
 deriving Inhabited
structure Env where
 fc:FuncId→Option AF
 fs:FuncId→Option AF
 sh:Bool→FuncId→Bool
 fz:FuncId→Bool
 tw:FuncId→Bool
 gl:Nat→Option (List V)
 srt:FuncId→Option (Option FuncId):=fun _=>none
 mn:FuncId→Bool:=fun _=>false
 nw:FuncId→Option (List V):=fun _=>none
def upd {α:Type}(f:Nat→α) (k:Nat) (v:α):Nat→α:=fun n=>cond (Nat.beq n k) v (f n)
@[simp] theorem YV {a:Type}(f:Nat→a) (k:Nat) (v:a):upd f k v k=v:=by simp[upd,Nat.beq_refl]
theorem J7 {a:Type}(f:Nat→a) {k n:Nat}(v:a) (h:n≠k):upd f k v n=f n:=by
 have:Nat.beq n k=false:=by
  cases b:Nat.beq n k with
  | false=>rfl
  | true=>exact absurd (Nat.eq_of_beq_eq_true b) h
 simp[upd,this]
theorem j2 {a:Type}(f:Nat→a) (k:Nat) (v:a) (n:Nat):upd f k v n=if n=k then v else f n:=by
 by_cases h:n=k
 ·subst h;simp
 ·rw[J7 f v h,if_neg h]
abbrev ZO:=Nat→Option Obj'
structure St where
 tm:Nat→V
 ob:ZO
 tk:Nat→Bool
 ro:Nat
 nx:Nat
 fb:Nat
 df:List (Nat × Nat)
def jq:V:=.tup []
def eval (E:Env) (tm:Nat→V):A→V
 | .t n=>tm n
 | .c v=>v
 | .g n=>match E.gl n with
  | some cs=>.eptr cs 0
  | none=>.undef
structure Delta where
 v:V
 obs:List (Nat × Obj'):=[]
 del:Option Nat:=none
 add:List Nat:=[]
 kill:List Nat:=[]
def one (v:V):Option Delta:=some { v }
def XN (op:BinOp) (k:IntKind) (x y:Int):Option V :=
 match op with
 | .add=>some (.int k (k.wrap (x+y)))
 | .sub=>some (.int k (k.wrap (x - y)))
 | .mul=>some (.int k (k.wrap (x*y)))
 | .quo=>if y=0 then none else some (.int k (k.wrap (x.tdiv y)))
 | .rem=>if y=0 then none else some (.int k (x.tmod y))
 | .and=>some (.int k (k.wrap (BitVec.ofInt k.bits x &&& BitVec.ofInt k.bits y).toNat))
 | .or=>some (.int k (k.wrap (BitVec.ofInt k.bits x ||| BitVec.ofInt k.bits y).toNat))
 | .xor=>some (.int k (k.wrap (BitVec.ofInt k.bits x ^^^ BitVec.ofInt k.bits y).toNat))
 | .andNot=>some (.int k (k.wrap (BitVec.ofInt k.bits x &&& ~~~ BitVec.ofInt k.bits y).toNat))
 | .eql=>some (.bool (x == y))
 | .neq=>some (.bool (x != y))
 | .lss=>some (.bool (x<y))
 | .leq=>some (.bool (x≤y))
 | .gtr=>some (.bool (x > y))
 | .geq=>some (.bool (x ≥ y))
 | _=>none
def Q5 (op:BinOp) (k:IntKind) (x y:Int):Option V :=
 if y<0 then none else
 match op with
 | .shl=>some (.int k (k.wrap (x*2 ^ (min y.toNat k.bits))))
 | .shr=>some (.int k (x.fdiv (2 ^ (min y.toNat k.bits))))
 | _=>none
def jid (op:BinOp) (x y:List UInt8):Option V :=
 match op with
 | .add=>if x.length+y.length≤9223372036854775807 then some (.str (x++y)) else none
 | .eql=>some (.bool (x == y))
 | .neq=>some (.bool (!(x == y)))
 | .lss=>some (.bool (Op.bytesLess x y))
 | .leq=>some (.bool (Op.bytesLess x y || x == y))
 | .gtr=>some (.bool (!(Op.bytesLess x y || x == y)))
 | .geq=>some (.bool (!(Op.bytesLess x y)))
 | _=>none
def WS:LK→V→V→Option Bool
 | .bool,.bool a,.bool b=>some (a == b)
 | .int,.int k a,.int k' b=>if k=k' then some (a == b) else none
 | .str,.str a,.str b=>some (a == b)
 | _,_,_=>none
def jr:List LK→List V→List V→Option Bool
 | [],[],[]=>some true
 | k::l,a::x,b::y=>(WS k a b).bind fun r=>(jr l x y).map fun q=>r && q
 | _,_,_=>none
def eqV:EqK→V→V→Option Bool
 | .bool,.bool a,.bool b=>some (a == b)
 | .ptr,.nilptr,.nilptr=>some true
 | .ptr,.ptr ..,.nilptr|.ptr,.nilptr,.ptr ..|.ptr,.eptr ..,.nilptr|.ptr,.nilptr,.eptr ..=>some false
 | .sl,.sl _ nl _ _,.sl _ true 0 []=>some nl
 | .map,.nilmap,.nilmap=>some true
 | .map,.map ..,.nilmap=>some false
 | .fn,.nilfn,.nilfn=>some true
 | .fn,.fn ..,.nilfn=>some false
 | .iface,.nilif,.nilif=>some true
 | .iface,.iface ..,.nilif|.iface,.nilif,.iface ..=>some false
 | .struct l,.agg a,.agg b=>jr l a b
 | _,_,_=>none
def Y5 (op:BinOp) (x y:V):Option V :=
 match x,y with
 | .int k a,.int k' b=>
  match op with
  | .shl|.shr=>Q5 op k a b
  | _=>if k=k' then XN op k a b else none
 | .str a,.str b=>jid op a b
 | _,_=>none
def unV (op:UnOp) (x:V):Option V :=
 match op,x with
 | .not,.bool b=>some (.bool (!b))
 | .neg,.int k n=>some (.int k (k.wrap (0 - n)))
 | .xor,.int k n=>XN .xor k (if k.signed then -1 else k.max) n
 | _,_=>none
def XQ (g:Option Nat) (cs:List V) (off:Nat):Option V :=
 match g with
 | some n=>if off+n≤cs.length then some (.agg ((cs.drop off).take n)) else none
 | none=>cs[off]?
def j5 (cs:List V) (off:Nat) (vs:List V):List V:=cs.take off++vs++cs.drop (off+vs.length)
def j0 (ob:ZO) (l u:Nat):Option (List V) :=
 match ob l with
 | some ⟨u',.cells cs⟩=>if u'=u then some cs else none
 | _=>none
def jg (ob:ZO) (l u:Nat):Option (List (V × V)) :=
 match ob l with
 | some ⟨u',.mp _ es⟩=>if u'=u then some es else none
 | _=>none
abbrev ju3:Nat:=1000000000000
def jl (ob:ZO) (l:Nat):Nat :=
 match ob l with
 | some ⟨_,.mp ver _⟩=>ver
 | _=>0
def jI (ob:ZO) (sz:Nat):V→Option (List V)
 | .sl _ _ n cs=>if cs.length=n*sz then some cs else none
 | .osl l u off n sz'=>if sz'=sz then (j0 ob l u).bind fun cs=>if off+n*sz≤cs.length then some ((cs.drop off).take (n*sz)) else none else none
 | _=>none
def fill (cs:List V):List (Nat × Nat × V)→Option (List V)
 | []=>some cs
 | (off,sz,v)::rest=>
  if v.cells.length=sz∧off+sz≤cs.length∧v.cells.all V.leaf=true then fill (j5 cs off v.cells) rest else none
def jx (ρ:A→V) (ps:List (Nat × Nat × A)):List (Nat × Nat × V):=ps.map fun(o,s,x)=>(o,s,ρ x)
def Jt (len cap:Nat) (lo hi:Option V):Option (Nat × Nat) :=
 let h:=match hi with
  | some (.int _ h)=>if 0≤h∧h≤cap then some h.toNat else none
  | some _=>none
  | none=>some len
 h.bind fun h=>match lo with
  | some (.int _ l)=>if 0≤l∧l≤h then some (l.toNat,h) else none
  | some _=>none
  | none=>some (0,h)
def findKey (q:LK) (k:V):List (V × V)→Option (Option (Nat × V))
 | []=>some none
 | (k',v)::es=>match WS q k k' with
  | some true=>some (some (0,v))
  | some false=>(findKey q k es).map fun r=>r.map fun(i,v)=>(i+1,v)
  | none=>none
def jau:LK→V→Bool
 | .bool,.bool _=>true
 | .int,.int _ _=>true
 | .str,.str _=>true
 | _,_=>false
def V.pureLeaf:V→Bool
 | .undef|.tup _|.ptr ..|.osl ..|.map ..|.iter ..|.agg _|.fn ..|.yld ..=>false
 | .sl t _ _ _=>t.isNone
 | .iface _ v=>match v with|.bool _|.int ..|.str _|.agg []=>true|_=>false
 | _=>true
def V.pureTop:V→Bool
 | .agg cs=>cs.all V.pureLeaf
 | .fn _ first captured=>(first++captured).all fun c=>match c with
  | .agg cs=>cs.all V.pureLeaf
  | c=>c.pureLeaf
 | v=>v.pureLeaf
def V.strip1:V→V
 | .sl _ nl n cs=>.sl none nl n cs
 | v=>v
def V.strip:V→V
 | .sl _ nl n cs=>.sl none nl n cs
 | .agg cs=>.agg (cs.map V.strip1)
 | .fn f first captured=>.fn f (first.map fun c=>match c with|.agg cs=>.agg (cs.map V.strip1)|c=>c.strip1)
  (captured.map fun c=>match c with|.agg cs=>.agg (cs.map V.strip1)|c=>c.strip1)
 | v=>v
def V.tok:V→List Nat
 | .sl (some (u,_)) _ _ _=>[u]
 | .osl _ u _ _ _=>[u]
 | _=>[]
def V.toks:V→List Nat
 | .agg cs=>cs.flatMap V.tok
 | v=>v.tok
def nodup:List Nat→Bool
 | []=>true
 | a::l=>!(l.any fun b=>Nat.beq a b) && nodup l
def JH (st:St):Nat→V→Option V
 | 0,_=>none
 | k+1,v=>match v with
  | .sl (some _) nl n cs=>some (.sl none nl n cs)
  | .osl l u off n sz=>(j0 st.ob l u).bind fun cs=>if Nat.ble st.ro u=true∧off+n*sz≤cs.length then
   (((cs.drop off).take (n*sz)).mapM (JH st k)).map fun cs'=>.sl none false n cs' else none
  | v=>if v.pureLeaf then some v else none
def jn (st:St) (keep:Bool) (i:Nat):V→Option V
 | .sl (some (u,z)) nl n cs=>some (.sl (if keep && st.tk u then some (i,z) else none) nl n cs)
 | .osl l u off n sz=>(JH st 6 (.osl l u off n sz)).bind fun v=>match v with
  | .sl _ nl n' cs=>(j0 st.ob l u).map fun cs0=>.sl (if keep && Nat.beq off 0 && Nat.blt 0 n && Nat.beq (n*sz) cs0.length then some (i,sz) else none) nl n' cs
  | _=>none
 | v=>JH st 6 v
def XV (st:St) (keep:Bool):Nat→List V→Option (List V)
 | _,[]=>some []
 | i,v::vs=>(jn st keep i v).bind fun x=>(XV st keep (i+1) vs).map (x::·)
def XS (st:St) (keep:Bool) (i:Nat):V→Option V
 | .agg cs=>(XV st keep i cs).map .agg
 | .fn f first captured=>if (V.fn f first captured).strip.pureTop then some (V.fn f first captured).strip else none
 | v=>jn st keep i v
def JJ (st:St) (keep:Bool):Nat→List V→Option (List V)
 | _,[]=>some []
 | i,v::vs=>(XS st keep i v).bind fun x=>(JJ st keep (i+16) vs).map (x::·)
def Yv (st:St) (vs:List V):Option V :=
 (JJ st (nodup (vs.flatMap V.toks)) 0 vs).bind fun l=>if nodup (l.flatMap V.toks) then (match l with
  | [v]=>some v
  | l=>some (.tup l)) else none
def Y3 (ub:Nat):V→V
 | .sl (some (i,z)) nl n cs=>.sl (some (ub+i,z)) nl n cs
 | v=>v
def jbn (ub:Nat):V→V
 | .agg cs=>.agg (cs.map (Y3 ub))
 | v=>Y3 ub v
def jbo (ub:Nat):V→V
 | .tup vs=>.tup (vs.map (jbn ub))
 | v=>jbn ub v
def toksRes:V→List Nat
 | .tup vs=>vs.flatMap V.toks
 | v=>v.toks
def Jd (d ub:Nat) (b:OBody) (v:V):Option Delta:=some { v,obs:=[(d,⟨ub,b⟩)] }
def Xg (ub:Nat) (r:V):Option Delta :=
 if (toksRes r).all (fun i=>Nat.blt i 64) then some { v:=jbo ub r,add:=(toksRes r).map (ub + ·) } else none
def jbu (call:FuncId→List V→Option V) (ub:Nat) (f:FuncId) (xs:List V):Option Delta :=
 if xs.all V.pureTop then (call f xs).bind (Xg ub) else none
def jhf (isMax:Bool):V→V→Option V
 | .int k x,.int k' y=>if k=k' then some (.int k (if isMax then (if y > x then y else x) else (if y<x then y else x))) else none
 | _,_=>none
def Wo (isMax:Bool):V→List V→Option V
 | x,[]=>some x
 | x,y::ys=>(jhf isMax x y).bind fun z=>Wo isMax z ys
def QV (n:Nat) (z:List V):List V:=(List.range (n*z.length)).map fun i=>z.getD (i % z.length) .undef
def jbp:List UInt8→UInt8→Int
 | [],_=>-1
 | b::l,c=>if b == c then 0 else if jbp l c == -1 then -1 else jbp l c+1
def j3d:ExtK→List V→Option Delta
 | .count,[.str s,.int .u8 c]=>one (.int .i64 (s.count c.toNat.toUInt8:Nat))
 | .indexByte,[.str s,.int .u8 c]=>one (.int .i64 (jbp s c.toNat.toUInt8))
 | _,_=>none
def XG (s:List UInt8):Nat→Nat→List Nat
 | 0,_=>[]
 | b+1,i=>if i<s.length then (Utf8.decode ⟨s.toArray⟩ i).1::XG s b (i+(Utf8.decode ⟨s.toArray⟩ i).2) else []
def aop (call:FuncId→List V→Option V) (ρ:A→V) (ob:ZO) (tk:Nat→Bool) (ro d ub:Nat):AOp→Option Delta
 | .mov x=>one (ρ x)
 | .pick c a b=>match ρ c with
  | .bool t=>one (cond t (ρ a) (ρ b))
  | _=>none
 | .bin op x y=>(Y5 op (ρ x) (ρ y)).bind one
 | .eq neg k x y=>match k,ρ x,ρ y with
  | .ptr,.ptr l u off,.ptr l' u' off'=>if (j0 ob l u).isSome && (j0 ob l' u').isSome then one (.bool (xor neg (Nat.beq l l' && Nat.beq off off'))) else none
  | k,a,b=>(eqV k a b).bind fun b=>one (.bool (xor neg b))
 | .un op x=>(unV op (ρ x)).bind one
 | .alloc zero=>Jd d ub (.cells zero) (.ptr d ub 0)
 | .box sz x=>if (ρ x).cells.length=sz∧(ρ x).cells.all V.leaf=true then Jd d ub (.cells (ρ x).cells) (.ptr d ub 0) else none
 | .build zero parts=>(fill zero (jx ρ parts)).bind fun cs=>one (.agg cs)
 | .buildSl o sz zero parts n=>(fill zero (jx ρ parts)).bind fun cs=>
  if o then (if cs.length=n*sz∧cs.all V.leaf=true then Jd d ub (.cells cs) (.osl d ub 0 n sz) else none) else if cs.length=n*sz∧(cs.map V.strip1).all V.pureLeaf=true then some { v:=.sl (some (ub,sz)) false n (cs.map V.strip1),add:=[ub] } else none
 | .load g x=>match ρ x with
  | .eptr cs off=>(XQ g cs off).bind one
  | .ptr l u off=>(j0 ob l u).bind fun cs=>(XQ g cs off).bind one
  | _=>none
 | .store sz a x=>match ρ a with
  | .ptr l u off=>(j0 ob l u).bind fun cs=>
   if Nat.ble ro u=true∧(ρ x).cells.length=sz∧off+sz≤cs.length∧(ρ x).cells.all V.leaf=true then
    some { v:=jq,obs:=[(l,⟨u,.cells (j5 cs off (ρ x).cells)⟩)] } else none
  | _=>none
 | .nilCheck x=>match ρ x with
  | .ptr l u o=>one (.ptr l u o)
  | .eptr cs o=>one (.eptr cs o)
  | .fn (.func f) a b=>one (.fn (.func f) a b)
  | _=>none
 | .fieldAddr off x=>match ρ x with
  | .ptr l u o=>one (.ptr l u (o+off))
  | .eptr cs o=>one (.eptr cs (o+off))
  | _=>none
 | .idxSl sz x i=>match ρ x,ρ i with
  | .sl _ _ n cs,.int _ i=>if 0≤i∧i<n∧cs.length=n*sz then one (.eptr cs (i.toNat*sz)) else none
  | .osl l u off n sz',.int _ i=>if 0≤i∧i<n∧sz'=sz then one (.ptr l u (off+i.toNat*sz)) else none
  | _,_=>none
 | .idxArr len sz x i=>match ρ x,ρ i with
  | .ptr l u off,.int _ i=>if 0≤i∧i<len then one (.ptr l u (off+i.toNat*sz)) else none
  | .eptr cs off,.int _ i=>if 0≤i∧i<len then one (.eptr cs (off+i.toNat*sz)) else none
  | _,_=>none
 | .part g off x=>match ρ x with
  | .agg cs=>(XQ g cs off).bind one
  | _=>none
 | .idxStr x i=>match ρ x,ρ i with
  | .str s,.int _ i=>if 0≤i then (s[i.toNat]?).bind fun b=>one (.int .u8 b.toNat) else none
  | _,_=>none
 | .idxVal g len sz x i=>match ρ x,ρ i with
  | .agg cs,.int _ i=>if 0≤i∧i<len then (XQ g cs (i.toNat*sz)).bind one else none
  | _,_=>none
 | .slStr x lo hi=>match ρ x with
  | .str s=>(Jt s.length s.length (lo.map ρ) (hi.map ρ)).bind fun(l,h)=>one (.str ((s.take h).drop l))
  | _=>none
 | .slSl sz x lo hi=>match ρ x with
  | .sl _ nl n cs=>if cs.length=n*sz then (Jt n n (lo.map ρ) (hi.map ρ)).bind fun(l,h)=>one (.sl none nl (h - l) ((cs.take (h*sz)).drop (l*sz))) else none
  | .osl a u off n sz'=>if sz'=sz then (Jt n n (lo.map ρ) (hi.map ρ)).bind fun(l,h)=>one (.osl a u (off+l*sz) (h - l) sz) else none
  | _=>none
 | .slArr len sz x lo hi=>match ρ x with
  | .ptr a u off=>(j0 ob a u).bind fun cs=>if off+len*sz≤cs.length then (Jt len len (lo.map ρ) (hi.map ρ)).bind fun(l,h)=>one (.osl a u (off+l*sz) (h - l) sz) else none
  | _=>none
 | .lenStr x=>match ρ x with
  | .str s=>one (.int .i64 s.length)
  | _=>none
 | .lenSl x=>match ρ x with
  | .sl _ _ n _=>one (.int .i64 n)
  | .osl _ _ _ n _=>one (.int .i64 n)
  | _=>none
 | .lenMap x=>match ρ x with
  | .nilmap=>one (.int .i64 0)
  | .map l u=>(jg ob l u).bind fun es=>one (.int .i64 es.length)
  | _=>none
 | .append o sz bytes s x=>match ρ s with
  | .sl t nl n cs=>(jI ob sz (ρ x)).bind fun ys=>
   if ys=[] then (if cs.length=n*sz then one (.sl t nl n cs) else none) else
   if o && nl then
    (if 0<sz∧ys.all V.leaf=true∧(ys.length / sz)*bytes≤140737488355328∧ys.length / sz≤140737488355328 then Jd d ub (.cells ys) (.osl d ub 0 (ys.length / sz) sz) else none) else
   if cs.length=n*sz∧0<sz∧ys.all V.pureLeaf=true∧(n+ys.length / sz)*bytes≤140737488355328∧n+ys.length / sz≤140737488355328 then
    match t with
    | some (u,z)=>if tk u=true∧z=sz then some { v:=.sl (some (ub,sz)) false (n+ys.length / sz) (cs++ys),del:=some u,add:=[ub] } else none
    | none=>if nl then some { v:=.sl (some (ub,sz)) false (n+ys.length / sz) (cs++ys),add:=[ub] } else none
   else none
  | .osl l u off n sz'=>(jI ob sz (ρ x)).bind fun ys=>(j0 ob l u).bind fun cs=>
   if ys=[] then one (.osl l u off n sz') else
   if Nat.ble ro u=true∧sz'=sz∧off=0∧n*sz≤cs.length∧0<sz∧ys.all V.leaf=true∧(n+ys.length / sz)*bytes≤140737488355328∧n+ys.length / sz≤140737488355328 then
    some { v:=.osl d ub 0 (n+ys.length / sz) sz,obs:=[(d,⟨ub,.cells (cs.take (n*sz)++ys)⟩)],kill:=[l] } else none
  | _=>none
 | .extract x i=>match ρ x with
  | .tup vs=>(vs[i]?).bind one
  | _=>none
 | .mkFn f first captured=>one (.fn f (first.map ρ) (captured.map ρ))
 | .mkMap=>Jd d ub (.mp 0 []) (.map d ub)
 | .lookup q zero ok m k=>
  let fin (r:Option (Nat × V)):Option Delta:=match r with
   | some (_,v)=>one (if ok then .tup [v,.bool true] else v)
   | none=>one (if ok then .tup [zero,.bool false] else zero)
  if jau q (ρ k) then match ρ m with
  | .nilmap=>fin none
  | .map l u=>(jg ob l u).bind fun es=>(findKey q (ρ k) es).bind fin
  | _=>none else none
 | .mapSet q m k v=>if jau q (ρ k) then match ρ m with
  | .map l u=>if Nat.ble ro u then (jg ob l u).bind fun es=>(findKey q (ρ k) es).bind fun r=>match r with
   | some (i,_)=>some { v:=jq,obs:=[(l,⟨u,.mp (jl ob l+1) (es.set i (ρ k,(ρ v).strip))⟩)] }
   | none=>some { v:=jq,obs:=[(l,⟨u,.mp (jl ob l+1) (es++[(ρ k,(ρ v).strip)])⟩)] }
   else none
  | _=>none else none
 | .mapDel q m k=>if jau q (ρ k) then match ρ m with
  | .nilmap=>one jq
  | .map l u=>if Nat.ble ro u then (jg ob l u).bind fun es=>(findKey q (ρ k) es).bind fun r=>match r with
   | some (i,_)=>some { v:=jq,obs:=[(l,⟨u,.mp (jl ob l+ju3) (es.eraseIdx i)⟩)] }
   | none=>some { v:=jq,obs:=[(l,⟨u,.mp (jl ob l+1) es⟩)] }
   else none
  | _=>none else none
 | .mapEnt q zero m k=>if jau q (ρ k) then match ρ m with
  | .map l u=>if Nat.ble ro u && Nat.blt (jl ob l) ju3 then (jg ob l u).bind fun es=>(findKey q (ρ k) es).bind fun r=>match r with
   | some (i,v)=>some { v:=.tup [v,.int .i64 i],obs:=[(l,⟨u,.mp (jl ob l+1) (es.set i (ρ k,v))⟩)] }
   | none=>some { v:=.tup [zero,.int .i64 es.length],obs:=[(l,⟨u,.mp (jl ob l+1) (es++[(ρ k,zero)])⟩)] }
   else none
  | _=>none else none
 | .entSt m i x=>match ρ m,ρ i with
  | .map l u,.int .i64 (.ofNat n)=>if Nat.ble ro u && Nat.blt (jl ob l) ju3 then (jg ob l u).bind fun es=>match es[n]? with
   | some (k,_)=>some { v:=jq,obs:=[(l,⟨u,.mp (jl ob l+1) (es.set n (k,(ρ x).strip))⟩)] }
   | none=>none
   else none
  | _,_=>none
 | .range true x=>match ρ x with
  | .str s=>Jd d ub (.siter s 0) (.iter d ub)
  | _=>none
 | .range false x=>match ρ x with
  | .nilmap=>Jd d ub .nomap (.iter d ub)
  | .map l u=>(jg ob l u).bind fun es=>Jd d ub (.miter l u (jl ob l) es none) (.iter d ub)
  | _=>none
 | .nextMap _=>none
 | .entry x=>match ρ x with
  | .iter l u=>match ob l with
   | some ⟨u',.miter l' u2 ver _ (some (k,v))⟩=>if u'=u∧(jg ob l' u2).isSome=true∧jl ob l'=ver then one (.tup [k,v]) else none
   | _=>none
  | _=>none
 | .nextStr x=>match ρ x with
  | .iter l u=>match ob l with
   | some ⟨u',.siter s pos⟩=>if Nat.ble ro u∧u'=u then
    (if pos<s.length then some { v:=.tup [.bool true,.int .i64 pos,.int .i32 ((Utf8.decode ⟨s.toArray⟩ pos).1:Nat)],obs:=[(l,⟨u,.siter s (pos+(Utf8.decode ⟨s.toArray⟩ pos).2)⟩)] }
     else one (.tup [.bool false])) else none
   | _=>none
  | _=>none
 | .iface t x=>one (.iface t (ρ x))
 | .assert t zero ok x=>match ρ x with
  | .iface t' v=>if t'=t then one (if ok then .tup [v,.bool true] else v) else if ok then one (.tup [zero,.bool false]) else none
  | .nilif=>if ok then one (.tup [zero,.bool false]) else none
  | _=>none
 | .conv k x=>match ρ x with
  | .int _ n=>one (.int k (k.wrap n))
  | _=>none
 | .convId x=>match ρ x with
  | .str s=>one (.str s)
  | _=>none
 | .strOfBytes _=>none
 | .strOfInt _=>none
 | .runesOfStr x=>match ρ x with
  | .str s=>let rs:=XG s s.length 0
   if rs.length≤70368744177664 then some { v:=.sl (some (ub,1)) false rs.length (rs.map fun r=>.int .i32 (r:Nat)),add:=[ub] } else none
  | _=>none
 | .bytesOfStr _=>none
 | .mkSl o sz bytes zero l c=>match ρ l,ρ c with
  | .int .i64 l,.int .i64 c=>if 0≤l∧l≤c∧c*bytes≤140737488355328∧c≤140737488355328∧zero.length=sz∧0<sz then
   (if !o∧l=0 then some { v:=.sl (some (ub,sz)) false 0 [],add:=[ub] } else Jd d ub (.cells (QV l.toNat zero)) (.osl d ub 0 l.toNat sz)) else none
  | _,_=>none
 | .minmax isMax xs=>match xs.map ρ with
  | []=>none
  | x::r=>(Wo isMax x r).bind one
 | .copy sz x y=>(jI ob sz (ρ y)).bind fun ys=>match ρ x with
  | .osl l u off n sz'=>if Nat.ble ro u=true∧sz'=sz∧0<sz∧ys.all V.leaf=true then (j0 ob l u).bind fun cs=>
   if off+n*sz≤cs.length then some { v:=.int .i64 (Nat.min (ys.length / sz) n:Nat),obs:=[(l,⟨u,.cells (j5 cs off (ys.take (Nat.min (ys.length / sz) n*sz)))⟩)] } else none else none
  | .sl _ _ 0 []=>one (.int .i64 0)
  | _=>none
 | .clear sz zero x=>match ρ x with
  | .osl l u off n sz'=>if Nat.ble ro u=true∧sz'=sz∧zero.length=sz then (j0 ob l u).bind fun cs=>
   if off+n*sz≤cs.length then some { v:=jq,obs:=[(l,⟨u,.cells (j5 cs off (QV n zero))⟩)] } else none else none
  | .sl _ _ 0 []=>one jq
  | _=>none
 | .ext k xs=>j3d k (xs.map ρ)
 | .call f xs=>jbu call ub f (xs.map fun x=>(ρ x).strip)
 | .callV f xs=>match ρ f with
  | .fn (.func g) first captured=>jbu call ub g ((first++xs.map ρ++captured).map V.strip)
  | _=>none
 | .stuck=>none
def ji3 (l u l' u' ver:Nat):List (V × V)→List (V × V)→List Delta
 | _,[]=>[]
 | pre,(k,v)::r=>{ v:=.tup [.bool true,k,v],obs:=[(l,⟨u,.miter l' u' ver (pre++r) (some (k,v))⟩)] }::ji3 l u l' u' ver (pre++[(k,v)]) r
def jlj (ob:ZO) (ro:Nat) (x:V):Option (List Delta) :=
 match x with
 | .iter l u=>match ob l with
  | some ⟨u0,.miter l' u' ver left _⟩=>if Nat.ble ro u=true∧u0=u∧(jg ob l' u').isSome=true∧jl ob l'=ver then (match left with
   | []=>some [{ v:=.tup [.bool false] }]
   | es=>some (ji3 l u l' u' ver [] es)) else none
  | some ⟨u0,.nomap⟩=>if u0=u then some [{ v:=.tup [.bool false] }] else none
  | _=>none
 | _=>none
def put (tm:Nat→V) (d:Option Nat) (v:V):Nat→V :=
 match d with
 | some d=>upd tm d v
 | none=>tm
def JI (ob:ZO):List (Nat × Obj')→ZO
 | []=>ob
 | (l,o)::r=>upd (JI ob r) l (some o)
def XL (tk:Nat→Bool) (b:Bool):List Nat→Nat→Bool
 | []=>tk
 | u::r=>upd (XL tk b r) u b
def St.app (st:St) (dst:Option Nat) (δ:Delta):St :=
 { st with tm:=put st.tm dst δ.v,ob:=JI (fun k=>if δ.kill.any (Nat.beq k) then none else st.ob k) δ.obs,tk:=XL (XL st.tk false δ.del.toList) true δ.add }
def wanted (o:AOpr) (tm:Nat→V):Option Bool :=
 match o.guard with
 | none=>some true
 | some (t,b)=>match tm t with
  | .bool b'=>some (b' == b)
  | .tup []=>some false
  | _=>none
def AOpr.name (o:AOpr) (fb ub:Nat):Nat:=cond o.nm (2*ub+1) (2*(fb+o.dst.getD 0))
abbrev Y:=Nat→Nat→List V→(ZO)→(Nat→Bool)→Nat→Nat→Option (V × (ZO) × (Nat→Bool) × Nat)
def noY:Y:=fun _ _ _ _ _ _ _=>none
structure Callers where
 d:FuncId→List V→Option V
 o:FuncId→List V→(ZO)→(Nat→Bool)→Nat→Nat→Option V
 s:FuncId→List V→(ZO)→(Nat→Bool)→Nat→Nat→Nat→Option (List (V × (ZO) × (Nat→Bool) × Nat))
 y:Y
def jB (E:Env) (nm:Bool) (ρ:A→V):AOp→Option (FuncId × List V)
 | .call f xs=>if !E.sh nm f && xs.all fun x=>(ρ x).strip.pureTop then none else some (f,xs.map ρ)
 | .callV f xs=>match ρ f with
  | .fn (.func g) first captured=>if !E.sh nm g && (first++xs.map ρ++captured).all fun v=>v.strip.pureTop then none else some (g,first++xs.map ρ++captured)
  | _=>none
 | _=>none
def jf (ρ:A→V):AOp→Option (Nat × Nat × List V)
 | .callV f xs=>match ρ f with
  | .yld l u=>some (l,u,xs.map ρ)
  | _=>none
 | _=>none
def AOp.next?:AOp→Option A
 | .nextMap x=>some x
 | _=>none
def AOp.far:AOp→Bool
 | .entry _|.nextMap _=>true
 | _=>false
def jbx (E:Env) (call:Callers) (o:AOpr) (st:St) (ub:Nat):Option (List (St × Nat)) :=
 match wanted o st.tm with
 | some true=>match jf (eval E st.tm) o.op with
  | some (l,u,xs)=>(call.y l u xs st.ob st.tk st.ro ub).map fun(r,ob,tk,ub')=>[({ st with tm:=put st.tm o.dst r,ob:=ob,tk:=tk },ub')]
  | none=>match jB E o.nm (eval E st.tm) o.op with
   | some (f,xs)=>if E.sh o.nm f then (call.s f xs st.ob st.tk st.ro ((st.fb+o.dst.getD 0+1)*1024) ub).map fun l=>l.map fun x=>({ st with tm:=put st.tm o.dst x.1,ob:=x.2.1,tk:=x.2.2.1 },x.2.2.2)
    else ((call.o f xs st.ob st.tk ((st.fb+o.dst.getD 0+1)*1024) ub).bind (Xg ub)).map fun δ=>[(st.app o.dst δ,ub+64)]
   | none=>match o.op.next? with
    | some x=>(jlj st.ob st.ro (eval E st.tm x)).map fun l=>l.map fun δ=>(st.app o.dst δ,ub+64)
    | none=>(aop call.d (eval E st.tm) st.ob st.tk st.ro (o.name st.fb ub) ub o.op).map fun δ=>[(st.app o.dst δ,ub+64)]
 | some false=>some [({ st with tm:=put st.tm o.dst jq },ub)]
 | none=>none
def Qc {α β:Type}(f:α→Option (List β)):List α→Option (List β)
 | []=>some []
 | [x]=>f x
 | x::y::r=>(f x).bind fun a=>(Qc f (y::r)).map (a++·)
def bindL {α β:Type}(m:Option (List α)) (f:α→Option (List β)):Option (List β):=m.bind (Qc f)
def jg9 (E:Env) (call:Callers):List AOpr→St→Nat→Option (List St)
 | [],st,ub=>some [{ st with nx:=ub }]
 | o::rest,st,ub=>bindL (jbx E call o st ub) fun x=>jg9 E call rest x.1 x.2
def lOf:V→List Nat
 | .ptr l _ _|.osl l _ _ _ _|.map l _|.iter l _=>[l]
 | _=>[]
def uOf:V→List Nat
 | .sl (some (u,_)) _ _ _=>[u]
 | _=>[]
def rdOb (ρ:A→V):AOp→List Nat
 | .load _ x|.store _ x _|.lookup _ _ _ x _|.lenMap x|.mapSet _ x _ _|.mapDel _ x _|.mapEnt _ _ x _|.entSt x _ _|.nextStr x|.range _ x|.clear _ _ x|.slArr _ _ x _ _=>lOf (ρ x)
 | .append _ _ _ x y|.eq _ _ x y|.copy _ x y=>lOf (ρ x)++lOf (ρ y)
 | _=>[]
def rdTk (ρ:A→V):AOp→List Nat
 | .append _ _ _ s _=>uOf (ρ s)
 | _=>[]
def Jm (args:List V) (ob:ZO) (tk:Nat→Bool) (ro base ub:Nat):St:={ tm:=fun n=>args.getD n jq,ob:=ob,tk:=tk,ro:=ro,nx:=ub,fb:=base,df:=[] }
def Yz (ob:ZO):V→Option V
 | .agg cs=>(cs.mapM (JH (Jm [] ob (fun _=>false) 0 0 0) 6)).map .agg
 | .fn ..=>none
 | v=>JH (Jm [] ob (fun _=>false) 0 0 0) 6 v
def V.scal:V→Bool
 | .bool _|.int _ _|.str _|.nilptr|.nilmap|.nilfn|.nilif=>true
 | .sl none nl n cs=>nl && n == 0 && cs.isEmpty
 | _=>false
def V.freeL:V→Bool
 | .sl (some _) _ _ cs=>cs.all V.scal
 | v=>v.scal
def V.freeT:V→Bool
 | .agg cs=>cs.all V.freeL
 | v=>v.freeL
def V.freeR:V→Bool
 | .tup vs=>vs.all V.freeT
 | v=>v.freeT
def jvq (ob:ZO) (tk:Nat→Bool) (ub:Nat):V→Option (V × (ZO) × (Nat→Bool) × Nat)
 | .sl (some (_,z)) false n cs=>if cs.all V.scal then some (.osl (2*ub+1) ub 0 n z,upd ob (2*ub+1) (some ⟨ub,.cells cs⟩),tk,ub+64) else none
 | r=>if r.scal then some (r,ob,tk,ub+64) else none
def QN (d ub:Nat):V→Option Delta
 | .sl (some (_,z)) false n cs=>if cs.all V.scal then some { v:=.osl d ub 0 n z,obs:=[(d,⟨ub,.cells cs⟩)] } else none
 | r=>if r.scal then some { v:=r } else none
def mkD (E:Env) (f:FuncId) (xs:List V) (d ub:Nat):Option Delta :=
 match E.nw f,xs with
 | some cs,[.sl none true 0 []]=>some { v:=.ptr d ub 0,obs:=[(d,⟨ub,.cells cs⟩)] }
 | _,_=>none
structure FP where
 ro:List Nat:=[]
 wo:List Nat:=[]
 rt:List Nat:=[]
 wt:List Nat:=[]
 all:Bool:=false
 seen:Nat→Bool:=fun _=>false
 nw:Bool:=false
def jaz (x y:List Nat):Bool:=!(x.any fun a=>y.any fun b=>Nat.beq a b)
def jay (f g:FP):Bool:=jaz f.wo g.ro && jaz f.wo g.wo && jaz f.ro g.wo && jaz f.wt g.rt && jaz f.wt g.wt && jaz f.rt g.wt && (!f.all || g.wo.all fun l=>!f.seen l) && (!g.all || f.wo.isEmpty)
def Delta.wo (δ:Delta):List Nat:=δ.kill++δ.obs.map (·.1)
def Delta.wt (δ:Delta):List Nat:=δ.del.toList++δ.add
def jb9 (ρ:A→V) (o:AOp) (δ:Delta):FP:={ ro:=rdOb ρ o,wo:=δ.wo,rt:=rdTk ρ o,wt:=δ.wt }
def Y1 (E:Env) (call:Callers):List AOpr→St→Nat→Option (List FP × St)
 | [],st,ub=>some ([],{ st with nx:=ub })
 | o::r,st,ub=>match wanted o st.tm with
  | some true=>match jB E o.nm (eval E st.tm) o.op with
   | some (f,xs)=>if E.sh o.nm f then (if E.tw f then (((xs.mapM (Yz st.ob)).bind fun a'=>call.d f a').bind (QN (o.name st.fb ub) ub)).bind fun δ=>
    (Y1 E call r (st.app o.dst δ) (ub+64)).map fun x=>({ wo:=δ.wo,all:=true,seen:=fun l=>(st.ob l).isSome,nw:=true }::x.1,x.2) else (mkD E f xs (o.name st.fb ub) ub).bind fun δ=>
    (Y1 E call r (st.app o.dst δ) (ub+64)).map fun x=>({ wo:=δ.wo,nw:=true }::x.1,x.2)) else
    ((call.o f xs st.ob st.tk ((st.fb+o.dst.getD 0+1) * 1024) (ub+64 * (r.length+1))).bind (Xg ub)).bind fun δ =>
      (Y1 E call r (st.app o.dst δ) (ub+64)).map fun x=>({ wt:=δ.wt,all:=true,seen:=fun l=>(st.ob l).isSome }::x.1,x.2)
   | none=>if o.op.far then none else
    (aop call.d (eval E st.tm) st.ob st.tk st.ro (o.name st.fb ub) ub o.op).bind fun δ=>
     (Y1 E call r (st.app o.dst δ) (ub+64)).map fun x=>(jb9 (eval E st.tm) o.op δ::x.1,x.2)
  | some false=>(Y1 E call r (st.app o.dst { v:=jq }) (ub+64)).map fun x=>({}::x.1,x.2)
  | none=>none
def XA (free:List (Nat × Nat)) (fs:List FP):Bool:=free.all fun p=>jay (fs.getD p.1 {}) (fs.getD p.2 {})
def jsp (fs:List FP):Bool:=fs.all fun f=>!f.nw
def Wm (f g:FP):Bool:=jaz f.wo g.ro && jaz f.wo g.wo && !g.all
def jsr (fs:List FP):Bool:=(List.range fs.length).all fun i=>!(fs.getD i {}).nw || (List.range fs.length).all fun j=>Nat.beq i j || Wm (fs.getD i {}) (fs.getD j {})
def Qk (fs:List FP):Bool:=jsp fs || jsr fs
def AOp.still:AOp→Bool
 | .mov _|.pick ..|.bin ..|.un ..|.eq ..|.load ..|.nilCheck _|.fieldAddr ..|.idxSl ..|.idxArr ..|.part ..|.idxVal ..|.lenStr _|.lenSl _|.lenMap _|.extract ..|.conv ..|.lookup ..|.minmax ..=>true
 | _=>false
def jcl (fs:List AOpr) (s s':St):Bool:=fs.all fun o=>match o.dst with|some d=>V.eqb (s.tm d) (s'.tm d)|none=>true
abbrev j4c:=Option (List (Ex × St))
def jao (body:St→j4c):Nat→St→j4c
 | 0,_=>none
 | n+1,st=>bindL (body st) fun x=>match x with
  | (.nrm,st')=>jao body n st'
  | (e,st')=>some [(e,st')]
def jdh (tm:Nat→V):List Nat→List V→Nat→V
 | p::ps,v::vs=>jdh (upd tm p v) ps vs
 | _,_=>tm
def QU (fa fb:St→j4c) (st:St) (ps:List Nat) (l u:Nat):Y:=fun l' u' args ob tk ro ub=>
 if l'=l∧u'=u∧args.length=ps.length∧Nat.ble ro u=true then match ob l with
 | some ⟨u1,.loop .ready none⟩=>if u1=u then match fa { tm:=jdh st.tm ps args,ob,tk,ro,nx:=ub,fb:=st.fb,df:=[] } with
  | some [(.nrm,s1)]=>match s1.ob l with
   | some ⟨u2,.loop .ready none⟩=>if u2=u then match fb { s1 with ob:=upd s1.ob l (some ⟨u,.loop .busy none⟩) } with
    | some [(e,s2)]=>match s2.ob l with
     | some ⟨u3,.loop .busy none⟩=>if u3=u then (match e with
      | .nrm=>some (.bool true,upd s2.ob l (some ⟨u,.loop .ready none⟩),s2.tk,s2.nx)
      | e=>some (.bool false,upd s2.ob l (some ⟨u,.loop .done (some e)⟩),s2.tk,s2.nx)) else none
     | _=>none
    | _=>none else none
   | _=>none
  | _=>none else none
 | _=>none else none
def only {α:Type}:Option (List α)→Option α
 | some [x]=>some x
 | _=>none
def jX (E:Env) (call:Y→Callers) (y:Y) (N:Nat):C→St→j4c
 | .skip,st=>some [(.nrm,st)]
 | .region ops,st=>(jg9 E (call y) ops st st.nx).map fun l=>l.map fun st'=>(.nrm,st')
 | .draw ops free,st=>(Y1 E (call y) ops st st.nx).bind fun x=>if XA free x.1 && Qk x.1 then some [(.nrm,x.2)] else none
 | .pin o fs,st=>bindL (jbx E (call y) o st st.nx) fun x=>(Y1 E (call y) fs x.1 x.2).bind fun p=>if jcl fs st p.2 then some [(.nrm,p.2)] else none
 | .seq a b,st=>bindL (jX E call y N a st) fun x=>match x with
  | (.nrm,st')=>jX E call y N b st'
  | (e,st')=>some [(e,st')]
 | .cond c a b,st=>match eval E st.tm c with
  | .bool true=>jX E call y N a st
  | .bool false=>jX E call y N b st
  | _=>none
 | .block id a,st=>(jX E call y N a st).map fun l=>l.map fun x=>match x with
  | (.exit i,st')=>if i=id then (.nrm,st') else (.exit i,st')
  | x=>x
 | .loop a,st=>jao (jX E call y N a) N st
 | .exit id,st=>some [(.exit id,st)]
 | .rangeFunc f ps asg bd,st=>match eval E st.tm f with
  | .fn (.func g) first captured=>
   (only ((call (QU (jX E call y N asg) (jX E call y N bd) st ps (2*st.nx+1) st.nx)).s g (first++[.yld (2*st.nx+1) st.nx]++captured)
    (upd (upd st.ob (2*st.nx+3) (some ⟨st.nx+1,.dfr⟩)) (2*st.nx+1) (some ⟨st.nx,.loop .ready none⟩)) st.tk st.ro ((st.fb+1023)*1024) (st.nx+64))).bind fun(_,ob,tk,ub)=>
     match ob (2*st.nx+1) with
     | some ⟨u,.loop s pend⟩=>if u=st.nx∧s≠.busy∧Nat.ble st.ro st.nx=true then some [(pend.getD .nrm,{ st with ob:=fun k=>if Nat.beq (2*st.nx+1) k then none else ob k,tk:=tk,nx:=ub,df:=(2*st.nx+3,st.nx+1)::st.df })] else none
     | _=>none
  | _=>none
 | .stuck,_=>none
 | .ret,st=>some [(.ret,st)]
def jp (st:St):ARes→Option V
 | .t n=>some (st.tm n)
 | .cell n g=>match st.tm n with
  | .ptr l u off=>(j0 st.ob l u).bind fun cs=>XQ g cs off
  | _=>none
def jz7 (st:St):Bool:=st.df.all (fun x=>match st.ob x.1 with|some ⟨u,.dfr⟩=>Nat.beq u x.2 && Nat.ble st.ro u|_=>false) && nodup (st.df.map (·.1))
def St.noDf (st:St):St :=
 match st.df with
 | []=>st
 | df=>{ st with ob:=fun k=>if df.any (fun x=>Nat.beq x.1 k) then none else st.ob k,df:=[] }
def ja7 (res:List ARes):Ex × St→Option V
 | (.nrm,st)|(.ret,st)=>if jz7 st then (res.mapM (jp st.noDf)).bind (Yv st.noDf) else none
 | _=>none
def QO (args:List V):St:={ tm:=fun n=>args.getD n jq,ob:=fun _=>none,tk:=fun _=>false,ro:=0,nx:=0,fb:=0,df:=[] }
def endS (res:List ARes):Ex × St→Option (V × (ZO) × (Nat→Bool) × Nat)
 | (.nrm,st)|(.ret,st)=>if st.df.isEmpty then (res.mapM (jp st)).map fun l=>(match l with | [v]=>v|l=>.tup l,st.ob,st.tk,st.nx) else none
 | _=>none
def jzm (f:Ex × St→Option V):Option (List (Ex × St))→Option V
 | some (x::xs)=>(f x).bind fun r=>if xs.all fun y=>match f y with|some r'=>V.eqb r' r|none=>false then some r else none
 | _=>none
def int64?:V→Option Int
 | .int .i64 n=>some n
 | _=>none
def j23 (x:Int):List Int→List Int
 | []=>[x]
 | y::r=>if x≤y then x::y::r else y::j23 x r
def jkz:List Int→List Int
 | []=>[]
 | x::r=>j23 x (jkz r)
def pairsI:List Int→List (Int × Int)
 | a::b::r=>(a,b)::pairsI r
 | _=>[]
def Yl:List (Int × Int)→List Int
 | []=>[]
 | p::r=>p.1::p.2::Yl r
def Wh (x y:Int × Int):Bool:=decide (x.1<y.1) || decide (x.1=y.1) && decide (x.2≤y.2)
def jzw (x:Int × Int):List (Int × Int)→List (Int × Int)
 | []=>[x]
 | y::r=>if Wh x y then x::y::r else y::jzw x r
def QP:List (Int × Int)→List (Int × Int)
 | []=>[]
 | x::r=>jzw x (QP r)
def jfb:Option FuncId→Nat
 | none=>1
 | some _=>2
def WV:Option FuncId→List Int→List Int
 | none,zs=>jkz zs
 | some _,zs=>Yl (QP (pairsI zs))
def Y2 (z:Int):Bool:=decide (-1000000000000≤z) && decide (z≤1000000000000)
def jmq:Option FuncId→List Int→Bool
 | none,_=>true
 | some _,zs=>zs.all Y2
def jig:Option FuncId→List V→Option V
 | none,[x]=>some x
 | some g,[x,.fn (.func g') [] []]=>if g=g' then some x else none
 | _,_=>none
def jou (m:Option FuncId) (ob:ZO) (tk:Nat→Bool) (ro ub:Nat) (args:List V):Option (V × (ZO) × (Nat→Bool) × Nat) :=
 match jig m args with
 | some (.osl l u off n sz)=>(j0 ob l u).bind fun cs=>if Nat.ble ro u=true∧sz=jfb m∧off+n*jfb m≤cs.length∧n≤1000000000 then
  (((cs.drop off).take (n*jfb m)).mapM int64?).bind fun zs=>if jmq m zs then some (.tup [],upd ob l (some ⟨u,.cells (j5 cs off ((WV m zs).map (.int .i64)))⟩),tk,ub) else none else none
 | some (.sl _ _ 0 [])=>some (.tup [],ob,tk,ub)
 | _=>none
def callers (E:Env):Nat→Y→Callers
 | 0,y=>{ d:=fun _ _=>none,o:=fun _ _ _ _ _ _=>none,s:=fun _ _ _ _ _ _ _=>none,y:=y }
 | n+1,y=>{
  d:=fun f args=>(E.fc f).bind fun af=>jzm (ja7 af.res) (jX E (callers E n) noY n af.body (QO args))
  o:=fun f args ob _ base ub=>if E.fz f then (args.mapM (Yz ob)).bind fun args'=>((callers E n noY).d f args').bind fun r=>if r.freeR then some r else none else
   (E.fs f).bind fun af=>jzm (ja7 af.res) (jX E (callers E n) noY n af.body (Jm args ob (fun _=>false) ub base ub))
  s:=fun f args ob tk ro base ub=>if E.tw f then (args.mapM (Yz ob)).bind fun args'=>((callers E n noY).d f args').bind fun r=>(jvq ob tk ub r).map fun x=>[x] else match E.srt f with
   | some m=>(jou m ob tk ro ub args).map fun x=>[x]
   | none=>(E.fs f).bind fun af=>(jX E (callers E n) y n af.body (Jm args ob tk ro base ub)).bind fun l=>if E.mn f then l.mapM (endS af.res) else match l with
    | [x]=>(endS af.res x).map fun r=>[r]
    | _=>none
  y:=y }
end Go.Pv
namespace Go.Pv
open Go
def jak:Value→Option V
  | .bool b=>some (.bool b)
  | .int k n=>some (.int k n)
  | .string s=>some (.str s.data.toList)
  | .pointer none=>some .nilptr
  | .slice none 0 0=>some (.sl none true 0 [])
  | .map none=>some .nilmap
  | .nilFunc=>some .nilfn
  | .nilIface=>some .nilif
  | _=>none
def Ye:Value→Option V
  | .agg cs=>(cs.toList.mapM jak).map .agg
  | v=>jak v
def opd:Operand→Option A
  | .tmp t=>some (.t t)
  | .const v=>(Ye v).map .c
  | .global g=>some (.g g)
  | .func f=>some (.c (.fn (.func f) [] []))
def opds (xs:Array Operand):Option (List A):=xs.toList.mapM opd
def WU (P:Program) (t:TypeId):Option Nat:=(P.info? t).map (·.size)
def Yo (P:Program) (t:TypeId):Option (List V):=(P.info? t).bind fun i=>i.zero.bind fun z=>z.cells.toList.mapM jak
def jav:TypeDesc→Bool
  | .struct _|.array _ _=>true
  | _=>false
def jdp (P:Program) (t:TypeId):Option (Option Nat) :=
  (P.underlying t).bind fun d=>if jav d then (WU P t).map some else some none
def jbr (P:Program) (s:TypeId) (f:Nat):Option Field :=
  match P.underlying s with
  | some (.struct fs)=>fs[f]?
  | _=>none
def jko (P:Program) (t:TypeId):Option LK :=
  match P.underlying t with
  | some .bool=>some .bool
  | some (.int _)=>some .int
  | some .string=>some .str
  | _=>none
def eqFs (rec:TypeId→Option (List LK)) (P:Program):Nat→List Field→Option (List LK)
  | _,[]=>some []
  | off,f::r=>if f.name = "_" ∨f.offset≠off then none else
    (rec f.type).bind fun l=>if WU P f.type=some l.length then (eqFs rec P (off+l.length) r).map (l++·) else none
def eqTs (P:Program):Nat→TypeId→Option (List LK)
  | 0,_=>none
  | d+1,t=>
    match P.underlying t with
    | some .bool=>some [.bool]
    | some (.int _)=>some [.int]
    | some .string=>some [.str]
    | some (.struct fs)=>if P.stoodInHeld t then none else eqFs (eqTs P d) P 0 fs.toList
    | _=>none
def eqK (P:Program) (t:TypeId) (x y:Operand):Option EqK :=
  match P.underlying t with
  | some .bool=>some .bool
  | some (.pointer e)=>match WU P e with
    | some (_+1)=>some .ptr
    | _=>none
  | some (.slice _)=>some .sl
  | some (.map _ _)=>some .map
  | some (.func ..)=>some .fn
  | some (.interface _)=>(match x,y with|.const _,_|_,.const _=>some .iface|_,_=>none)
  | some (.struct _)=>if P.eqGuardType P.depth t then none else (eqTs P 8 t).map .struct
  | some (.array n e)=>if P.eqGuardType P.depth t∨WU P e≠some 1 then none else (jko P e).map fun k=>.struct (List.replicate n k)
  | _=>none
def jnn (P:Program) (t:TypeId):Bool :=
  match P.underlying t with
  | some .string|some (.int _)=>true
  | _=>false
def YQ (place:Nat→Option (Nat × Nat)) (ps:Array (Nat × Operand)):Option (List (Nat × Nat × A)) :=
  ps.toList.mapM fun(i,x)=>(place i).bind fun(o,s)=>(opd x).map fun a=>(o,s,a)
def Yn (x:Option Operand):Option (Option A) :=
  match x with
  | none=>some none
  | some x=>(opd x).map some
def jev (P:Program) (o:Bool) (b:Builtin) (args:Array Operand) (ats:Array TypeId):Option AOp :=
  match b with
  | .len=>(opds args).bind fun l=>match l,(ats[0]?).bind P.underlying with
    | [x],some .string=>some (.lenStr x)
    | [x],some (.slice _)=>some (.lenSl x)
    | [x],some (.map _ _)=>some (.lenMap x)
    | _,_=>none
  | .append=>(opds args).bind fun l=>match l,ats.toList with
    | [s,x],[t,u]=>if t=u then match P.underlying t with
        | some (.slice e)=>(P.info? e).bind fun i=>i.zero.bind fun z=>if 0<i.size∧z.cells.size=i.size then some (.append o i.size i.bytes s x) else none
        | _=>none else none
    | _,_=>none
  | .min=>(opds args).map (.minmax false)
  | .max=>(opds args).map (.minmax true)
  | .copy=>(opds args).bind fun l=>match l,(ats[0]?).bind P.underlying with
    | [x,y],some (.slice e)=>(WU P e).map fun s=>.copy s x y
    | _,_=>none
  | .clear=>(opds args).bind fun l=>match l,(ats[0]?).bind P.underlying with
    | [x],some (.slice e)=>(WU P e).bind fun s=>(Yo P e).map fun z=>.clear s z x
    | _,_=>none
  | .delete=>(opds args).bind fun l=>match l,(ats[0]?).bind P.underlying with
    | [m,k],some (.map kt _)=>(jko P kt).map fun q=>.mapDel q m k
    | _,_=>none
  | _=>none
def jyl (P:Program) (f:FuncId):Option ExtK :=
  (P.funcs[f]?).bind fun fn=>if fn.body.isSome∨fn.origin≠ "" then none else
    if fn.name = "internal/bytealg.CountString" then some .count else if fn.name = "internal/bytealg.IndexByteString" then some .indexByte else none
def QJ (P:Program) (o:Bool) (c:Call):Option AOp :=
  match c.callee with
  | .value (.func f)=>(opds c.args).map fun l=>match jyl P f with|some k=>.ext k l|none=>.call f l
  | .value x=>(opd x).bind fun a=>(opds c.args).map (.callV a)
  | .invoke _ _=>none
  | .builtin b=>(jev P o b c.args c.argTypes).filter fun a=>!a.isCall && !a.isNext
def jl5 (P:Program) (o:Bool) (op:Op):Option AOp :=
  match op with
  | .move x|.assign x=>(opd x).map .mov
  | .pick c a b=>(opd c).bind fun c=>(opd a).bind fun a=>(opd b).map fun b=>.pick c a b
  | .alloc e=>(Yo P e).map .alloc
  | .box e x=>(WU P e).bind fun n=>(opd x).map (.box n)
  | .build t ps=>(Yo P t).bind fun z=>match P.underlying t with
    | some (.struct fs)=>(fs.toList.mapM fun f=>(P.info? f.type).map fun i=>(f.offset,i.size)).bind fun places=>(YQ (places.toArray[·]?) ps).map (.build z)
    | some (.array _ e)=>(WU P e).bind fun s=>(YQ (fun i=>some (i*s,s)) ps).map (.build z)
    | _=>none
  | .buildSlice t n ps=>match P.underlying t with
    | some (.slice e)=>(WU   P e).bind fun s=>(Yo     P e).bind fun z =>
        if z.length=s∧0<s∧n*s≤16777216 then (YQ (fun i=>some (i*s,s)) ps).map fun l=>.buildSl o s (QV n z) l n else none
    | _=>none
  | .load t x=>(jdp P t).bind fun g=>(opd x).map (.load g)
  | .store t a x=>(WU P t).bind fun s=>(opd a).bind fun a=>(opd x).map (.store s a)
  | .nilCheck x=>(opd x).map .nilCheck
  | .binOp op t x y _=>(opd x).bind fun x'=>(opd y).bind fun y'=>match op with
    | .eql=>if jnn P t then some (.bin .eql x' y') else (eqK P t x y).map fun k=>.eq false k x' y'
    | .neq=>if jnn P t then some (.bin .neq x' y') else (eqK P t x y).map fun k=>.eq true k x' y'
    | op=>some (.bin op x' y')
  | .unOp op _ x=>(opd x).map (.un op)
  | .convert s d x=>match P.underlying s,P.underlying d with
    | some (.int _),some (.int k)=>(opd x).map (.conv k)
    | some .string,some .string=>(opd x).map .convId
    | some .string,some (.slice e)=>match P.underlying e with
      | some (.int .i32)=>(opd x).map .runesOfStr
      | _=>none
    | _,_=>none
  | .makeInterface t x=>match P.underlying t with
    | some (.interface _)=>none
    | some _=>(opd x).map (.iface t)
    | none=>none
  | .makeFunc f a b=>(opds a).bind fun a=>(opds b).map (.mkFn f a)
  | .makeMap _ none=>some .mkMap
  | .makeSlice t l c=>match P.underlying t with
    | some (.slice e)=>(P.info? e).bind fun i=>(Yo P e).bind fun z=>(opd l).bind fun l=>(opd c).map fun c=>.mkSl o i.size i.bytes z l c
    | _=>none
  | .typeAssert x _ t ok=>match P.underlying t with
    | some (.interface _)=>none
    | some _=>(P.info? t).bind fun i=>i.zero.bind fun z=>(Ye z).bind fun z=>(opd x).map (.assert t z ok)
    | none=>none
  | .slice t x lo hi none=>(opd x).bind fun x=>(Yn lo).bind fun lo=>(Yn hi).bind fun hi=>match P.underlying t with
    | some .string=>some (.slStr x lo hi)
    | some (.slice e)=>(WU P e).map fun s=>.slSl s x lo hi
    | some (.array n e)=>if n≤maxLen then (WU P e).map fun s=>.slArr n s x lo hi else none
    | _=>none
  | .fieldAddr s x f=>(jbr P s f).bind fun f=>(WU P f.type).bind fun n=>if n=0 then none else (opd x).map (.fieldAddr f.offset)
  | .field s x f=>(jbr P s f).bind fun f=>(jdp P f.type).bind fun g=>(opd x).map (.part g f.offset)
  | .indexAddr t x i=>(opd x).bind fun x=>(opd i).bind fun i=>match P.underlying t with
    | some (.slice e)=>(WU P e).bind fun s=>if s=0 then none else some (.idxSl s x i)
    | some (.array n e)=>(WU P e).map fun s=>.idxArr n s x i
    | _=>none
  | .index t x i=>(opd x).bind fun x=>(opd i).bind fun i=>match P.underlying t with
    | some .string=>some (.idxStr x i)
    | some (.array n e)=>(WU P e).bind fun s=>(jdp P e).map fun g=>.idxVal g n s x i
    | _=>none
  | .lookup t m k ok=>match P.underlying t with
    | some (.map kt e)=>(jko P kt).bind fun q=>(P.info? e).bind fun i=>i.zero.bind fun z=>(Ye z).bind fun z=>(opd m).bind fun m=>(opd k).map fun k=>.lookup q z ok m k
    | _=>none
  | .mapUpdate t m k v=>match P.underlying t with
    | some (.map kt _)=>(jko P kt).bind fun q=>(opd m).bind fun m=>(opd k).bind fun k=>(opd v).map (.mapSet q m k)
    | _=>none
  | .insert t m k v=>match P.underlying t with
    | some (.map kt _)=>(jko P kt).bind fun q=>(opd m).bind fun m=>(opd k).bind fun k=>(opd v).map (.mapSet q m k)
    | _=>none
  | .mapEntry t m k=>match P.underlying t with
    | some (.map kt e)=>(jko P kt).bind fun q=>(P.info? e).bind fun i=>i.zero.bind fun z=>(Ye z).bind fun z=>(opd m).bind fun m=>(opd k).map fun k=>.mapEnt q z m k
    | _=>none
  | .entryStore _ m s x=>(opd m).bind fun m=>(opd s).bind fun s=>(opd x).map (.entSt m s)
  | .range t x=>match P.underlying t with
    | some .string=>(opd x).map (.range true)
    | some (.map _ _)=>(opd x).map (.range false)
    | _=>none
  | .next x true=>(opd x).map .nextStr
  | .entry x=>(opd x).map .entry
  | .extract x i=>(opd x).map fun x=>.extract x i
  | _=>none
def JX (P:Program) (m:Bool) (o:Oper):Option AOp :=
  match o.op with
  | .call c=>QJ P m c
  | .next x false=>(opd x).map .nextMap
  | op=>(jl5 P m op).filter fun a=>!a.isCall && !a.isNext
def JS (P:Program) (m:Bool) (ops:Array Oper) (o:Oper):Option AOpr :=
  let a:=(JX P m o).getD .stuck
  match o.guard with
    | none=>some { dst:=o.dst,op:=a,guard:=none,nm:=m }
    | some (j,b)=>((ops[j]?).bind (·.dst)).map fun t=>{ dst:=o.dst,op:=a,guard:=some (t,b),nm:=m }
def AOp.opds:AOp→List A
  | .mov x|.un _ x|.box _ x|.load _ x|.nilCheck x|.fieldAddr _ x|.part _ _ x|.lenStr x|.lenSl x|.lenMap x|.extract x _|.range _ x|.nextStr x|.nextMap x|.entry x|.iface _ x|.assert _ _ _ x
  | .conv _ x|.convId x|.strOfBytes x|.strOfInt x|.runesOfStr x|.bytesOfStr x=>[x]
  | .pick a b c=>[a,b,c]
  | .clear _ _ x=>[x]
  | .bin _ x y|.eq _ _ x y|.store _ x y|.idxSl _ x y|.idxArr _ _ x y|.idxStr x y|.idxVal _ _ _ x y|.append _ _ _ x y|.lookup _ _ _ x y|.mapDel _ x y|.mapEnt _ _ x y|.mkSl _ _ _ _ x y|.copy _ x y=>[x,y]
  | .alloc _|.mkMap|.stuck=>[]
  | .build _ ps|.buildSl _ _ _ ps _=>ps.map (·.2.2)
  | .slStr x l h|.slSl _ x l h|.slArr _ _ x l h=>x::(l.toList++h.toList)
  | .mkFn _ a b=>a++b
  | .mapSet _ m k v|.entSt m k v=>[m,k,v]
  | .minmax _ xs|.call _ xs|.ext _ xs=>xs
  | .callV f xs=>f::xs
def A.tmps:A→List Nat
  | .t n=>[n]
  | _=>[]
def AOpr.looks (o:AOpr):List Nat:=o.op.opds.flatMap A.tmps++(match o.guard with|some (t,_)=>[t]|none=>[])
def AOp.rO:AOp→Bool
  | .load ..|.store ..|.lookup ..|.lenMap ..|.mapSet ..|.mapDel ..|.mapEnt ..|.entSt ..|.nextStr ..|.append ..|.eq ..|.copy ..|.clear ..|.range ..|.nextMap ..|.entry ..|.slArr ..=>true
  | _=>false
def AOp.rA:AOp→Bool
  | .call ..|.callV ..=>true
  | _=>false
def AOp.wO:AOp→Bool
  | .alloc ..|.box ..|.mkMap|.range ..|.store ..|.mapSet ..|.mapDel ..|.mapEnt ..|.entSt ..|.nextStr ..|.append ..|.buildSl ..|.mkSl ..|.copy ..|.clear ..|.nextMap ..=>true
  | _=>false
def AOp.rT:AOp→Bool
  | .append ..=>true
  | _=>false
def AOp.wT:AOp→Bool
  | .append ..|.buildSl ..|.mkSl ..|.runesOfStr ..|.call ..|.callV ..=>true
  | _=>false
def AOp.quiet (x y:AOp):Bool :=
  !(x.wO && (y.rO || y.wO)) && !(y.wO && x.rO) && !(x.wT && (y.rT || y.wT)) && !(y.wT && x.rT) && !(x.rA && (y.wO || y.wT)) && !(y.rA && (x.wO || x.wT))
def AOpr.apart (x y:AOpr):Bool :=
  (match x.dst with
   | some d=>!(y.looks.any fun t=>Nat.beq t d) && (match y.dst with|some e=>!Nat.beq e d|none=>true)
   | none=>true) &&
  (match y.dst with
   | some d=>!(x.looks.any fun t=>Nat.beq t d)
   | none=>true)
def ahead (o:Oper) (ms:List Nat):Nat :=
  o.after.toList.foldl (fun m e=>if Region.binds .any e then m ||| (1 <<< e.on ||| ms.getD e.on 0) else m) 0
def J6:List Oper→List Nat→List Nat
  | [],ms=>ms
  | o::r,ms=>J6 r (ms++[ahead o ms])
def Xs (ops:Array Oper) (als:List AOpr):Option (List (Nat × Nat)) :=
  let ms:=J6 ops.toList []
  let n:=als.length
  let pairs:=(List.range n).flatMap fun j=>((List.range j).filter fun i=>!(ms.getD j 0).testBit i).map fun i=>(i,j)
  if ((List.range n).all fun j=>match ops[j]? with | some o=>o.after.all fun e=>!Region.binds .any e || Nat.blt e.on j | none=>true) &&
     (pairs.all fun p=>match als[p.1]?,als[p.2]? with|some x,some y=>x.apart y|_,_=>true)
  then some (pairs.filter fun p=>match als[p.1]?,als[p.2]? with|some x,some y=>!x.op.quiet y.op|_,_=>false)
  else none
def jo (ops:Array Oper) (n:Nat):Nat :=
  (List.range n).foldl (fun k j=>if (List.range j).all fun i=>((J6 ops.toList []).getD j 0).testBit i then k else j+1) 0
def jwi (ops:Array Oper) (als:List AOpr) (k c:Nat):Bool :=
  Nat.blt (c+1) k && (match als[c]? with|some o=>o.op.isCall|none=>false) && ((List.range c).all fun i=>((J6 ops.toList []).getD c 0).testBit i) &&
  ((List.range k).all fun j=>Nat.ble j c || match als[j]? with
    | some o=>o.op.still && !((J6 ops.toList []).getD j 0).testBit c && (match o.dst with
      | some d=>(List.range k).all fun i=>match als[i]? with
        | some x=>(Nat.beq i j || match x.dst with|some e=>!Nat.beq e d|none=>true) && (Nat.blt j i || !(x.looks.any fun t=>Nat.beq t d))
        | none=>true
      | none=>true)
    | none=>true)
def pinAt (ops:Array Oper) (als:List AOpr) (k:Nat):Option Nat :=
  (((List.range k).filter fun i=>match als[i]? with|some o=>o.op.isCall|none=>false).getLast?).filter (jwi ops als k)
def jsu (ops:Array Oper) (als:List AOpr) (c:Nat):Bool :=
  (match als[c]? with|some o=>o.op.isCall|none=>false) && ((List.range c).all fun i=>((J6 ops.toList []).getD c 0).testBit i) &&
  ((List.range als.length).all fun j=>Nat.ble j c || ((List.range (c+1)).all fun i=>((J6 ops.toList []).getD j 0).testBit i) && (match als[j]? with|some o=>o.op.still|none=>false)) &&
  ((als.drop (c+1)).any fun o=>match o.op with|.extract _ _=>true|_=>false)
def midAt (ops:Array Oper) (als:List AOpr):Option Nat :=
  (((List.range als.length).filter fun i=>match als[i]? with|some o=>o.op.isCall|none=>false).getLast?).filter (jsu ops als)
def jhd:AOpr:={ dst:=none,op:=.mov (.c (.tup [])),guard:=none,nm:=true }
def comp (P:Program) (m r:Bool):Code→Option C
  | .skip=>some .skip
  | .region _ ops false=>(ops.toList.mapM (JS P m ops)).map .region
  | .region _ ops true=>(ops.toList.mapM (JS P m ops)).map fun l=>match Xs ops l with
    | some free=>if m && Nat.blt (jo ops l.length) l.length && (l.drop (jo ops l.length)).any (fun o=>o.op.isCall)
      then match pinAt ops l (jo ops l.length) with
        | some c=>.seq (.draw ((l.take (jo ops l.length)).set c jhd) free) (.seq (.pin (l.getD c jhd) ((l.take (jo ops l.length)).drop (c+1))) (.region (l.drop (jo ops l.length))))
        | none=>.seq (.draw (l.take (jo ops l.length)) free) (.region (l.drop (jo ops l.length)))
      else match (if m then midAt ops l else none) with
        | some c=>.seq (.draw (l.take c) free) (.seq (.region [l.getD c jhd]) (.draw (List.replicate (c+1) jhd++l.drop (c+1)) free))
        | none=>.draw l free
    | none=>.stuck
  | .seq a b=>(comp P m r a).bind fun a=>(comp P m r b).map (.seq a)
  | .cond c a b=>(opd c).bind fun c=>(comp P m r a).bind fun a=>(comp P m r b).map (.cond c a)
  | .block id a=>(comp P m r a).map (.block id)
  | .loop a=>(comp P m r a).map .loop
  | .exit id=>some (.exit id)
  | .ret=>some .ret
  | .rangeFunc f ps a b=>cond r (some .stuck) ((opd f).bind fun f=>(comp P m true a).bind fun a=>(comp P m true b).map (.rangeFunc f ps.toList a))
  | _=>some .stuck
def YP (P:Program):ResultVar→Option ARes
  | .tmp t=>some (.t t)
  | .cell t ty=>(jdp P ty).map (.cell t)
def j3p (P:Program) (m r:Bool) (fn:Func):Option AF :=
  fn.body.bind fun c=>(comp P m r c).bind fun b=>(fn.results.toList.mapM (YP P)).map fun r=>{ body:=b,res:=r }
inductive Kd where
 | n (k:Nat)
 | lp (r:Loop)
def Kd.size:Kd→Nat
 | .n k=>k
 | .lp _=>0
inductive Place where
 | obj (b:Nat) (k:Kd)
 | tok (b n cap sz:Nat)
abbrev IMap:=Nat→Nat→Option Value
inductive RepP (I:IMap):Value→V→Prop where
 | bool (b:Bool):RepP I (.bool b) (.bool b)
 | int (k:IntKind) (n:Int):RepP I (.int k n) (.int k n)
 | str (s:ByteArray):RepP I (.string s) (.str s.data.toList)
 | nilptr:RepP I (.pointer none) .nilptr
 | nilmap:RepP I (.map none) .nilmap
 | nilfn:RepP I .nilFunc .nilfn
 | nilif:RepP I .nilIface .nilif
 | slnil:RepP I (.slice none 0 0) (.sl none true 0 [])
 | sl (a:Addr) (n cap:Nat) (cs:List V) (xs:Nat→Value) (hs:cs≠[]→a.spot=none) (hc:n≤cap) (hm:cap≤maxLen)
  (hi:∀j,j<cs.length→I a.block (a.off+j)=some (xs j)) (hl:∀ (j:Nat) (v:V),cs[j]? = some v→v.pureLeaf=true)
  (hr:∀ (j:Nat) (v:V),cs[j]? = some v→RepP I (xs j) v):RepP I (.slice (some a) n cap) (.sl none false n cs)
 | agg (xs:Array Value) (cs:List V) (hlen:xs.size=cs.length) (hl:∀ (j:Nat) (v:V),cs[j]? = some v→v.leaf=true)
  (hr:∀ (j:Nat) (x:Value) (v:V),xs[j]? = some x→cs[j]? = some v→RepP I x v):RepP I (.agg xs) (.agg cs)
 | eptr (b base off:Nat) (cs:List V) (xs:Nat→Value) (hi:∀j,j<cs.length→I b (base+j)=some (xs j))
  (hl:∀ (j:Nat) (v:V),cs[j]? = some v→v.pureLeaf=true)
  (hr:∀ (j:Nat) (v:V),cs[j]? = some v→RepP I (xs j) v):RepP I (.pointer (some ⟨b,base+off,none⟩)) (.eptr cs off)
 | fn (f:Fn) (xs ys:Array Value) (asg bs:List V) (hx:xs.size=asg.length) (hy:ys.size=bs.length)
  (hrx:∀ (j:Nat) (x:Value) (v:V),xs[j]? = some x→asg[j]? = some v→RepP I x v) (hry:∀ (j:Nat) (x:Value) (v:V),ys[j]? = some x→bs[j]? = some v→RepP I x v) :
  RepP I (.func f xs ys) (.fn f asg bs)
 | iface (t:TypeId) (x:Value) (v:V) (hr:RepP I x v):RepP I (.iface t x) (.iface t v)
inductive Rep (γ:Nat→Option Place) (I:IMap):Value→V→Prop where
 | pure (x:Value) (v:V) (h:RepP I x v):Rep γ I x v
 | undef (x:Value):Rep γ I x .undef
 | tup (xs:Array Value) (vs:List V) (hlen:xs.size=vs.length) (hr:∀ (j:Nat) (x:Value) (v:V),xs[j]? = some x→vs[j]? = some v→Rep γ I x v):Rep γ I (.tuple xs) (.tup vs)
 | agg (xs:Array Value) (cs:List V) (hlen:xs.size=cs.length) (hl:∀ (j:Nat) (v:V),cs[j]? = some v→v.leaf=true)
  (hr:∀ (j:Nat) (x:Value) (v:V),xs[j]? = some x→cs[j]? = some v→Rep γ I x v):Rep γ I (.agg xs) (.agg cs)
 | tsl (u b n cap sz:Nat) (cs:List V) (xs:Nat→Value) (hu:γ u=some (.tok b n cap sz)) (hlen:cs.length=n*sz) (hc:n≤cap) (hm:cap≤maxLen)
  (hi:∀j,j<cs.length→I b j=some (xs j)) (hl:∀ (j:Nat) (v:V),cs[j]? = some v→v.pureLeaf=true) (hr:∀ (j:Nat) (v:V),cs[j]? = some v→RepP I (xs j) v) :
  Rep γ I (.slice (some ⟨b,0,none⟩) n cap) (.sl (some (u,sz)) false n cs)
 | ptr (l u off b:Nat) (k:Kd) (hu:γ u=some (.obj b k)):Rep γ I (.pointer (some ⟨b,off,none⟩)) (.ptr l u off)
 | osl (l u off n sz cap b:Nat) (k:Kd) (a:Addr) (hu:γ u=some (.obj b k)) (ha:0<cap→a=⟨b,off,none⟩∧off+cap*sz≤k.size) (hc:n≤cap) (hm:cap≤maxLen) :
  Rep γ I (.slice (some a) n cap) (.osl l u off n sz)
 | map (l u b:Nat) (k:Kd) (hu:γ u=some (.obj b k)):Rep γ I (.map (some b)) (.map l u)
 | iter (l u b:Nat) (k:Kd) (hu:γ u=some (.obj b k)):Rep γ I (.pointer (some ⟨b,0,none⟩)) (.iter l u)
 | yld (l u b:Nat) (k:Kd) (hu:γ u=some (.obj b k)):Rep γ I (.func (.yield b) #[] #[]) (.yld l u)
 | fn (f:Fn) (xs ys:Array Value) (asg bs:List V) (hx:xs.size=asg.length) (hy:ys.size=bs.length)
  (hrx:∀ (j:Nat) (x:Value) (v:V),xs[j]? = some x→asg[j]? = some v→Rep γ I x v) (hry:∀ (j:Nat) (x:Value) (v:V),ys[j]? = some x→bs[j]? = some v→Rep γ I x v) :
  Rep γ I (.func f xs ys) (.fn f asg bs)
 | iface (t:TypeId) (x:Value) (v:V) (hr:Rep γ I x v):Rep γ I (.iface t x) (.iface t v)
theorem RepP.mono {I z:IMap}(B:∀b o x,I b o=some x→z b o=some x) {x:Value}{v:V}(h:RepP I x v):RepP z x v:=by
 induction h with
 | bool b=>exact .bool b
 | int k n=>exact .int k n
 | str s=>exact .str s
 | nilptr=>exact .nilptr
 | nilmap=>exact .nilmap
 | nilfn=>exact .nilfn
 | nilif=>exact .nilif
 | slnil=>exact .slnil
 | sl a n u cs d J M G m g y c=>exact .sl a n u cs d J M G (fun j l=>B _ _ _ (m j l)) g c
 | agg d cs i g y c=>exact .agg d cs i g c
 | eptr b e off cs d m g y c=>exact .eptr b e off cs d (fun j l=>B _ _ _ (m j l)) g c
 | fn f d D r H L K F N q p=>exact .fn f d D r H L K q p
 | iface t x v y c=>exact .iface t x v c
theorem Rep.mono {γ γ':Nat→Option Place}{I J:IMap}(d:∀u p,γ u=some p→γ' u=some p) (D:∀b o x,I b o=some x→J b o=some x) {x:Value}{v:V}(h:Rep γ I x v):Rep γ' J x v:=by
 induction h with
 | pure x v h=>exact .pure x v (h.mono D)
 | undef x=>exact .undef x
 | tup g P c q m=>exact .tup g P c m
 | agg g cs c F q m=>exact .agg g cs c F m
 | tsl u b n i y cs g e c G r N F q=>exact .tsl u b n i y cs g (d _ _ e) c G r (fun j s=>D _ _ _ (N j s)) F (fun j v s=>(q j v s).mono D)
 | ptr l u off b k e=>exact .ptr l u off b k (d _ _ e)
 | osl l u off n y i b k a e M G r=>exact .osl l u off n y i b k a (d _ _ e) M G r
 | map l u b k e=>exact .map l u b k (d _ _ e)
 | iter l u b k e=>exact .iter l u b k (d _ _ e)
 | yld l u b k e=>exact .yld l u b k (d _ _ e)
 | fn f g K H O S Q L T B z=>exact .fn f g K H O S Q B z
 | iface t x v q m=>exact .iface t x v m
theorem Rep.oneCell {γ:Nat→Option Place}{I:IMap}{x:Value}{v:V}(h:Rep γ I x v) (b:v.leaf=true):x.oneCell'=true:=by
 cases h with
 | pure x v h=>cases h <;> first|rfl|(simp[V.leaf]at b)
 | undef x=>simp[V.leaf]at b
 | tup=>simp[V.leaf]at b
 | agg=>simp[V.leaf]at b
 | _=>rfl
inductive Owner where
 | ob (l:Nat)
 | tk (u:Nat)
def EntsOk (γ:Nat→Option Place) (I:IMap) (m:List MapEntry) (es:List (V × V)):Prop :=
 m.length=es.length∧∀ (j:Nat) (e:MapEntry) (k v:V),m[j]? = some e→es[j]? = some (k,v)→RepP I e.key k∧Rep γ I e.val v
def QZ:Ex→Code
 | .nrm=>.skip
 | .exit id=>.exit id
 | .ret=>.ret
def lsOf:LS→LoopState
 | .ready=>.ready
 | .busy=>.busy
 | .done=>.done
def ObjOk (γ:Nat→Option Place) (I:IMap) (ob:ZO) (h:Array Obj) (k:Kd) (o:Option Obj):OBody→Prop
 | .cells cs=>∃arr e,o=some (.cells arr e (0,0))∧arr.size=k.size∧cs.length≤k.size∧∀ (j:Nat) (x:Value) (v:V),arr[j]? = some x→cs[j]? = some v→v.leaf=true∧Rep γ I x v
 | .mp ver es=>∃ (m:Array MapEntry) (clock:Nat),o=some (.map m clock)∧EntsOk γ I m.toList es∧(m.toList.map (·.born)).Nodup∧(∀e∈m,e.born<clock) ∧
  (ver<ju3→clock=m.size∧∀ (i:Nat) (e:MapEntry),m[i]? = some e→e.born=i)
 | .siter s pos=>∃s',o=some (.stringIter s' pos)∧s'.data.toList=s
 | .miter l u ver left last=>∃ (mb:Nat) (mk:Kd) (since:Nat) (seen:Array Nat) (stepped:Nat),o=some (.mapIter (some mb) since seen stepped)∧γ u=some (.obj mb mk) ∧
  ∀ver' es,ob l=some ⟨u,.mp ver' es⟩→ver≤ver'∧(ver'=ver→∃ (m:Array MapEntry),h[mb]? = some (.map m stepped)∧(∀e∈m,e.born<since)∧since≤stepped ∧
   EntsOk γ I (m.toList.filter fun e=>!seen.contains e.born) left ∧
   (∀k v,last=some (k,v)→∃stamp e,seen.back? = some stamp∧m.find? (fun e=>e.born == stamp)=some e∧RepP I e.key k∧Rep γ I e.val v))
 | .nomap=>∃since seen stepped,o=some (.mapIter none since seen stepped)
 | .loop s pend=>∃r:Loop,k=.lp r∧o=some (.loop { r with state:=lsOf s,pending:=pend.map QZ })
 | .dfr=>o=some (.deferred (some []))
def j4a (o:Option Obj) (n cap sz:Nat):Prop:=∃arr e,o=some (.cells arr e (0,0))∧cap*sz≤arr.size∧n≤cap∧cap≤maxLen
theorem EntsOk.mono {γ γ':Nat→Option Place}{I f:IMap}(c:∀u p,γ u=some p→γ' u=some p) (d:∀b o x,I b o=some x→f b o=some x) {m:List MapEntry}{es:List (V × V)}(h:EntsOk γ I m es):EntsOk γ' f m es :=
 ⟨h.1,fun j e k v i g=>⟨(h.2 j e k v i g).1.mono d,(h.2 j e k v i g).2.mono c d⟩⟩
theorem ObjOk.mono {γ γ':Nat→Option Place}{I K:IMap}(d:∀u p,γ u=some p→γ' u=some p) (t:∀b o x,I b o=some x→K b o=some x) {ob:ZO}{hp:Array Obj}{k:Kd}{o:Option Obj}{b:OBody}
 (h:ObjOk γ I ob hp k o b):ObjOk γ' K ob hp k o b:=by
 cases b with
 | cells cs=>obtain⟨arr,e,y,z,q,D⟩:=h;exact⟨arr,e,y,z,q,fun j x v L B=>⟨(D j x v L B).1,(D j x v L B).2.mono d t⟩⟩
 | mp G F=>obtain⟨m,c,y,z,q,D⟩:=h;exact⟨m,c,y,z.mono d t,q,D⟩
 | siter s S=>exact h
 | miter l u G left J=>
  obtain⟨Z,mk,i,r,f,y,z,q⟩:=h
  refine⟨Z,mk,i,r,f,y,d _ _ z,fun g F M=>⟨(q g F M).1,fun B=>?_⟩⟩
  obtain⟨m,X,P,k3,N,k5⟩:=(q g F M).2 B
  refine⟨m,X,P,k3,N.mono d t,fun k v U=>?_⟩
  obtain⟨n,e,T,O,q3,Q⟩:=k5 k v U
  exact⟨n,e,T,O,q3.mono t,Q.mono d t⟩
 | nomap=>exact h
 | loop s H=>exact h
 | dfr=>exact h
def Xk (γ:Nat→Option Place) (ob ob':ZO) (hp hp':Array Obj):Prop :=
 ∀l u ver' es' mb mk,γ u=some (.obj mb mk)→ob' l=some ⟨u,.mp ver' es'⟩ →
  (ob l=some ⟨u,.mp ver' es'⟩∧∀m c,hp[mb]? = some (.map m c)→hp'[mb]? = some (.map m c))∨(∃v0 es0,ob l=some ⟨u,.mp v0 es0⟩∧v0<ver')
theorem ObjOk.keep {γ:Nat→Option Place}{I:IMap}{ob ob':ZO}{hp g:Array Obj}{k:Kd}{o:Option Obj}{b:OBody}(h:ObjOk γ I ob hp k o b) (y:Xk γ ob ob' hp g):ObjOk γ I ob' g k o b:=by
 cases b with
 | miter l u J left p=>
  obtain⟨s,mk,d,f,c,z,r,j⟩:=h
  refine⟨s,mk,d,f,c,z,r,fun e F G=>?_⟩
  rcases y l u e F s mk r G with⟨i,q⟩|⟨K,x,i,q⟩
  ·refine⟨(j _ _ i).1,fun n=>?_⟩
   obtain⟨m,B,v,D,t,H⟩:=(j _ _ i).2 n
   exact⟨m,q _ _ B,v,D,t,H⟩
  ·have:=(j _ _ i).1
   exact⟨zO,fun n=>by omega⟩
 | _=>exact h
structure Own (γ:Nat→Option Place) (I:IMap) (B:Nat) (st:St) (w:World) (Ω:Nat→Option Owner):Prop where
 ob:∀l o,st.ob l=some o→∃b k,γ o.uid=some (.obj b k)∧Ω b=some (.ob l)∧(st.ro≤o.uid→B≤b)∧ObjOk γ I st.ob w.heap k w.heap[b]? o.body∧∀j,I b j=none
 tk:∀u,st.tk u=true→∃b n cap sz,γ u=some (.tok b n cap sz)∧Ω b=some (.tk u)∧B≤b∧j4a w.heap[b]? n cap sz∧∀j,n*sz≤j→I b j=none
 lt:∀b o,Ω b=some o→b<w.heap.size
structure Sh (E:Env) (w0:World) (I0:IMap) (γ:Nat→Option Place) (I:IMap) (st:St) (w:World):Prop where
 imm:∀b o x,I b o=some x→w.cell? ⟨b,o,none⟩=some x
 gl:∀g cs,E.gl g=some cs→RepP I (.pointer (some ⟨g,0,none⟩)) (.eptr cs 0)
 own:∃Ω,Own γ I w0.heap.size st w Ω
 fr:w0.grownBy w none
 old:∀b o,b<w0.heap.size→I b o=I0 b o
def DfOk (γ:Nat→Option Place):List (Nat × Nat)→List Deferred→Prop
 | [],[]=>True
 | x::l,d::ds=>(∃b k,d = { target:=.collected b,args:=#[] }∧γ x.2=some (.obj b k))∧DfOk γ l ds
 | _,_=>False
theorem DfOk.mono {γ γ':Nat→Option Place}(c:∀u p,γ u=some p→γ' u=some p):∀ {l:List (Nat × Nat)}{d:List Deferred},DfOk γ l d→DfOk γ' l d
 | [],[],_=>trivial
 | _::_,_::_,h=>⟨(let ⟨b,k,h1,h2⟩:=h.1;⟨b,k,h1,c _ _ h2⟩),DfOk.mono c h.2⟩
 | [],_::_,h=>h.elim
 | _::_,[],h=>h.elim
structure R (E:Env) (w0:World) (I0:IMap) (nt:Nat) (γ:Nat→Option Place) (I:IMap) (st:St) (a:Act) (w:World):Prop where
 sz:a.tmps.size=nt
 df:DfOk γ st.df a.defers
 tm:∀t,Rep γ I (a.tmps.getD t undef) (st.tm t)
 sh:Sh E w0 I0 γ I st w
section
variable {E:Env}{w0 w:World}{I0 I:IMap}{nt:Nat}{γ:Nat→Option Place}{st:St}{a:Act}
theorem R.imm (h:R E w0 I0 nt γ I st a w):∀b o x,I b o=some x→w.cell? ⟨b,o,none⟩=some x:=h.sh.imm
theorem R.gl (h:R E w0 I0 nt γ I st a w):∀g cs,E.gl g=some cs→RepP I (.pointer (some ⟨g,0,none⟩)) (.eptr cs 0):=h.sh.gl
theorem R.own (h:R E w0 I0 nt γ I st a w):∃b,Own γ I w0.heap.size st w b:=h.sh.own
theorem R.fr (h:R E w0 I0 nt γ I st a w):w0.grownBy w none:=h.sh.fr
theorem R.old (h:R E w0 I0 nt γ I st a w):∀b o,b<w0.heap.size→I b o=I0 b o:=h.sh.old
end
structure Grow (B:Nat) (w w':World) (T:Nat→Prop):Prop where
 os:w'.os=w.os
 tape:w'.tape=w.tape
 output:w'.output=w.output
 size:w.heap.size≤w'.heap.size
 block:∀k,k<w.heap.size→¬ T k→w'.heap[k]? = w.heap[k]?
 low:∀k,T k→B≤k
theorem Grow.frame {w0 w w':World}{T:Nat→Prop}(h:w0.grownBy w none) (g:Grow w0.heap.size w w' T):w0.grownBy w' none :=
 ⟨g.os.trans h.os,g.tape.trans h.tape,g.output.trans h.output,Nat.le_trans h.size g.size,fun k b d=>
  (g.block k (Nat.lt_of_lt_of_le b h.size) (fun c=>Nat.not_lt_of_le (g.low k c) b)).trans (h.block k b d)⟩
theorem ju {i k:Type}{f:i→Option k}:∀ {l:List i}{r:List k},l.mapM f=some r→r.length=l.length∧∀ (j:Nat) (x:i) (y:k),l[j]? = some x→r[j]? = some y→f x=some y
 | [],r,h=>by
  simp at h
  subst h
  exact⟨rfl,fun j x y c _=>by simp at c⟩
 | a::l,r,h=>by
  simp only[List.mapM_cons]at h
  cases d:f a with
  | none=>simp[d]at h
  | some b=>
   cases g:l.mapM f with
   | none=>simp[d,g]at h
   | some o=>
    simp[d,g]at h
    subst h
    obtain⟨m,n⟩:=ju g
    refine⟨by simp[m],fun j x y c e=>?_⟩
    cases j with
    | zero=>simp at c e;subst c;subst e;exact d
    | succ j=>simp at c e;exact n j x y c e
theorem jA {E:Env}{w0 w:World}{I0:IMap}{nt:Nat}{γ:Nat→Option Place}{I:IMap}{st:St}{a:Act}(h:R E w0 I0 nt γ I st a w) {x:Operand}{y:A}(b:opd x=some y):Rep γ I (a.eval x) (eval E st.tm y):=by
 have leafOk:∀v z,jak v=some z→RepP I v z∧z.leaf=true:=by
  intro v z c
  unfold jak at c
  split at c <;> simp only[Option.some.injEq,reduceCtorEq]at c <;> subst c
  ·exact⟨.bool _,rfl⟩
  ·exact⟨.int _ _,rfl⟩
  ·exact⟨.str _,rfl⟩
  ·exact⟨.nilptr,rfl⟩
  ·exact⟨.slnil,rfl⟩
  ·exact⟨.nilmap,rfl⟩
  ·exact⟨.nilfn,rfl⟩
  ·exact⟨.nilif,rfl⟩
 cases x with
 | tmp t=>simp only[opd,Option.some.injEq]at b;subst b;exact h.tm t
 | const v=>
  simp only[opd,Option.map_eq_some_iff]at b
  obtain⟨z,c,rfl⟩:=b
  simp only[Act.eval,eval]
  unfold Ye at c
  split at c
  ·rename_i cs
   simp only[Option.map_eq_some_iff]at c
   obtain⟨l,n,rfl⟩:=c
   obtain⟨e,q⟩:=ju n
   have d:∀ (j:Nat) (z:V),l[j]? = some z→∃x,cs[j]? = some x∧jak x=some z:=by
    intro j z c
    have o:j<cs.toList.length:=by rw[← e];exact(List.getElem?_eq_some_iff.1 c).1
    have b:cs.toList[j]? = some cs.toList[j]:=List.getElem?_eq_getElem o
    exact⟨_,by rw[← Array.getElem?_toList];exact b,q j _ _ b c⟩
   refine .pure _ _ (.agg cs l e.symm (fun j v k=>?_) (fun j x v b k=>?_))
   ·obtain⟨x,_,i⟩:=d j v k;exact(leafOk _ _ i).2
   ·obtain⟨r,m,i⟩:=d j v k
    rw[b]at m
    cases m
    exact(leafOk _ _ i).1
  ·exact .pure _ _ (leafOk _ _ c).1
 | global g=>
  simp only[opd,Option.some.injEq]at b
  subst b
  simp only[Act.eval,eval]
  cases p:E.gl g with
  | none=>exact .undef _
  | some cs=>exact .pure _ _ (h.gl g cs p)
 | func f=>simp only[opd,Option.some.injEq]at b;subst b;exact .pure _ _ (.fn _ _ _ _ _ rfl rfl zS zS)
section
variable {P:Program}{E:Env}{w0 w:World}{I0:IMap}{nt:Nat}{γ:Nat→Option Place}{I:IMap}{st:St}{a:Act}{o:Oper}{ub:Nat}{δ:Delta}
def X7 (P:Program) (E:Env) (w0:World) (I0:IMap) (nt:Nat) (γ:Nat→Option Place) (I:IMap) (st:St) (a:Act) (w:World) (o:Oper) (ub:Nat) (δ:Delta):Prop :=
 ∃x w' γ' I',((execOp a.eval o).run P w=.ok (.value x) w'∨((execOp a.eval o).run P w=.ok .skip w'∧x=undef)) ∧
  R E w0 I0 nt γ' I' (st.app o.dst δ) (a.put o.dst x) w'∧(∀u,¬(ub≤u∧u<ub+64)→γ' u=γ u)∧(∀u p,γ u=some p→γ' u=some p)∧(∀b o x,I b o=some x→I' b o=some x)
theorem jwf (a:Act) (dst:Option Tmp) (x:Value) (c:∀d,dst=some d→d<a.tmps.size) (t:Nat) :
 (a.put dst x).tmps.getD t undef=if dst=some t then x else a.tmps.getD t undef:=by
 cases dst with
 | none=>simp[Act.put]
 | some d=>
  have b:=c d rfl
  by_cases h:d=t
  ·subst h
   simp[Act.put,b]
  ·simp only[Act.put,Option.some.injEq,h,if_false]
   simp[Array.getElem?_setIfInBounds_ne h]
theorem YX (a:Act) (dst:Option Tmp) (x:Value):(a.put dst x).tmps.size=a.tmps.size:=by
 cases dst <;> simp[Act.put]
theorem jk7 (a:Act) (dst:Option Tmp) (x:Value):(a.put dst x).defers=a.defers:=by
 cases dst <;> rfl
theorem Wg {γ':Nat→Option Place}{c:IMap}{tm:Nat→V}{dst:Option Tmp}{x:Value}{v:V}(f:∀d,dst=some d→d<a.tmps.size)
 (h:∀t,Rep γ' c (a.tmps.getD t undef) (tm t)) (g:Rep γ' c x v):∀t,Rep γ' c ((a.put dst x).tmps.getD t undef) (put tm dst v t):=by
 intro t
 rw[jwf a dst x f t]
 cases dst with
 | none=>simpa[put] using h t
 | some d=>
  by_cases b:d=t
  ·subst b;simpa[put] using g
  ·simp only[Option.some.injEq,b,if_false,put]
   rw[J7 _ _ (fun e=>b e.symm)]
   exact h t
theorem jcc (h:R E w0 I0 nt γ I st a w) {γ':Nat→Option Place}(b:∀u p,γ u=some p→γ' u=some p) (dst:Option Tmp) (x:Value):DfOk γ' st.df (a.put dst x).defers:=by
 rw[jk7]
 exact h.df.mono b
theorem R.put (h:R E w0 I0 nt γ I st a w) {dst:Option Tmp}{x:Value}{v:V}(c:∀d,dst=some d→d<nt) (b:Rep γ I x v) :
 R E w0 I0 nt γ I { st with tm:=put st.tm dst v } (a.put dst x) w :=
 ⟨(YX a dst x).trans h.sz,jcc h (fun _ _ h=>h) dst x,Wg (by rw [h.sz];exact c ) h.tm b ,⟨h.imm,h.gl,
   (let ⟨Ω,ho⟩:=h.own;⟨Ω,⟨ho.ob,ho.tk,ho.lt⟩⟩),h.fr,h.old⟩⟩
theorem jU (g:R E w0 I0 nt γ I st a w) (e:∀d,o.dst=some d→d<nt) {x:Value}{v:V}(c:(execOp a.eval o).run P w=.ok (.value x) w)
 (f:Rep γ I x v) (b:one v=some δ):X7 P E w0 I0 nt γ I st a w o ub δ:=by
 simp only[one,Option.some.injEq]at b
 subst b
 exact⟨x,w,γ,I,.inl c,g.put e f,fun _ _=>rfl,fun _ _ h=>h,fun _ _ _ h=>h⟩
theorem W8 {c:Type}{f:Nat→Option c}{k:Nat}{v:c}(h:f k=none):∀u p,f u=some p→upd f k (some v) u=some p:=by
 intro u p b
 rw[J7 f _ (fun e=>by rw[e,h]at b;cases b)]
 exact b
theorem jgd {ob:ZO}{obj:Obj}{d:Nat}{body:OBody}(i:γ ub=none):Xk γ ob (upd ob d (some ⟨ub,body⟩)) w.heap (w.alloc obj).heap:=by
 intro l u e h j mk g b
 rw[j2]at b
 split at b
 ·simp only[Option.some.injEq,Obj'.mk.injEq]at b
  rw[← b.1,i]at g
  cases g
 ·refine .inl ⟨b,fun m c f=>?_⟩
  rw[heap_alloc_old _ _ _ (Array.getElem?_eq_some_iff.1 f).1]
  exact f
theorem juw (i:R E w0 I0 nt γ I st a w) (hd:∀d,o.dst=some d→d<nt) (S:γ ub=none) {x:Value}{v:V}{obj:Obj}{body:OBody}{d:Nat}{k:Kd}{w':World}(hw:w'=w.alloc obj)
 (hx:∀c:Nat→Option Place,c ub=some (.obj w.heap.size k)→Rep c I x v) (hb:ObjOk γ I st.ob w.heap k (some obj) body) (F:Jd d ub body v=some δ) :
 ∃c U,R E w0 I0 nt c U (st.app o.dst δ) (a.put o.dst x) w'∧(∀u,¬(ub≤u∧u<ub+64)→c u=γ u)∧(∀u p,γ u=some p→c u=some p)∧(∀b o x,I b o=some x→U b o=some x):=by
 simp only[Jd,Option.some.injEq]at F
 subst F
 subst hw
 have r:=W8 (f:=γ) (k:=ub) (v:=Place.obj w.heap.size k) S
 obtain⟨Ω,B⟩:=i.own
 have Q:(st.app o.dst { v:=v,obs:=[(d,⟨ub,body⟩)] }).ob=upd st.ob d (some ⟨ub,body⟩):=by
  simp[St.app,JI]
 have q:=jgd (w:=w) (ob:=st.ob) (obj:=obj) (d:=d) (body:=body) S
 refine⟨upd γ ub (some (.obj w.heap.size k)),I,⟨(YX _ _ _).trans i.sz,jcc i r _ _,?_,⟨?_,i.gl,?_,?_,i.old⟩⟩,?_,r,fun _ _ _ h=>h⟩
 ·exact Wg (by rw[i.sz];exact hd) (fun t=>(i.tm t).mono r (fun _ _ _ h=>h)) (hx _ zS)
 ·intro b o' x' g
  rw[World.cell?_alloc_lt]
  ·exact i.imm _ _ _ g
  ·exact World.block_lt_of_cell? _ _ (i.imm _ _ _ g)
 ·have hI:∀j,I w.heap.size j=none:=by
   intro j
   cases X:I w.heap.size j with
   | none=>rfl
   | some y=>exact absurd (World.block_lt_of_cell? _ _ (i.imm _ _ _ X)) (Nat.lt_irrefl _)
  refine⟨upd Ω w.heap.size (some (.ob d)),⟨?_,?_,?_⟩⟩
  ·intro l ob s
   rw[Q]at s ⊢
   rw[j2]at s
   split at s
   ·rename_i z
    subst z
    simp only[Option.some.injEq]at s
    subst s
    refine⟨w.heap.size,k,zS,zS,fun _=>i.fr.size,?_,hI⟩
    rw[heap_alloc_new]
    exact(hb.keep q).mono r (fun _ _ _ h=>h)
   ·rename_i z
    obtain⟨b,k',K,D,J,G,L⟩:=B.ob l ob s
    have m:=B.lt b _ D
    refine⟨b,k',r _ _ K,?_,J,?_,L⟩
    ·rw[J7 _ _ (Nat.ne_of_lt m)];exact D
    ·rw[heap_alloc_old _ _ _ m];exact(G.keep q).mono r (fun _ _ _ h=>h)
  ·intro u O
   have H:st.tk u=true:=by simpa[St.app,XL] using O
   obtain⟨b,n,N,Z,K,D,J,G,L⟩:=B.tk u H
   have m:=B.lt b _ D
   refine⟨b,n,N,Z,r _ _ K,?_,J,?_,L⟩
   ·rw[J7 _ _ (Nat.ne_of_lt m)];exact D
   ·rw[heap_alloc_old _ _ _ m];exact G
  ·intro b ow g
   rw[j2]at g
   simp only[World.size_alloc]
   split at g
   ·rename_i e;omega
   ·have:=B.lt b _ g;omega
 ·exact Grow.frame i.fr ⟨rfl,rfl,rfl,zS,fun k M _=>heap_alloc_old _ _ _ M,fun k M=>M.elim⟩ (T:=fun _=>False)
 ·intro u O
  exact J7 _ _ (fun e=>O ⟨zO,zO⟩)
theorem YZ (i:R E w0 I0 nt γ I st a w) (j:∀d,o.dst=some d→d<nt) (g:γ ub=none) {x:Value}{v:V}{obj:Obj}{body:OBody}{d:Nat}{k:Kd}{w':World}
 (c:(execOp a.eval o).run P w=.ok (.value x) w') (l:w'=w.alloc obj)
 (f:∀b:Nat→Option Place,b ub=some (.obj w.heap.size k)→Rep b I x v) (m:ObjOk γ I st.ob w.heap k (some obj) body) (e:Jd d ub body v=some δ):X7 P E w0 I0 nt γ I st a w o ub δ:=by
 obtain⟨b,n,h⟩:=juw i j g l f m e
 exact⟨x,w',b,n,.inl c,h⟩
theorem Yq (q:R E w0 I0 nt γ I st a w) (hd:∀d,o.dst=some d→d<nt) {l u:Nat}{body body':OBody}(hl:st.ob l=some ⟨u,body⟩) (J:Nat.ble st.ro u=true) {x:Value}{v:V}{w':World}
 (B:(execOp a.eval o).run P w=.ok (.value x) w'∨((execOp a.eval o).run P w=.ok .skip w'∧x=undef)) (hx:Rep γ I x v) (y:∀v es,body'=.mp v es→∃G s,body=.mp G s∧G<v)
 (hw:∀b k,γ u=some (.obj b k)→b<w.heap.size→(w'.os=w.os∧w'.tape=w.tape∧w'.output=w.output∧w'.heap.size=w.heap.size∧(∀k,k≠b→w'.heap[k]? = w.heap[k]?)∧ObjOk γ I st.ob w.heap k w'.heap[b]? body'))
 (F:some { v:=v,obs:=[(l,⟨u,body'⟩)] } = some δ):X7 P E w0 I0 nt γ I st a w o ub δ:=by
 simp only[Option.some.injEq]at F
 subst F
 obtain⟨Ω,t⟩:=q.own
 obtain⟨b,k,h1,D,h3,_,h5⟩:=t.ob l _ hl
 obtain⟨g1,g2,g3,g4,z,g6⟩:=hw b k h1 (t.lt b _ D)
 have a0:(st.app o.dst { v:=v,obs:=[(l,⟨u,body'⟩)] }).ob=upd st.ob l (some ⟨u,body'⟩):=by
  simp[St.app,JI]
 have j:Xk γ st.ob (upd st.ob l (some ⟨u,body'⟩)) w.heap w'.heap:=by
  intro U N b0 b5 mb mk Z f
  rw[j2]at f
  split at f
  ·rename_i e
   subst e
   simp only[Option.some.injEq,Obj'.mk.injEq]at f
   obtain⟨rfl,he⟩:=f
   obtain⟨G,s,rfl,hv⟩:=y _ _ he
   exact .inr ⟨G,s,hl,hv⟩
  ·rename_i g
   refine .inl ⟨f,fun m c hm=>?_⟩
   obtain⟨i,k',q1,q2,_⟩:=t.ob U _ f
   rw[Z]at q1
   cases q1
   have:mb≠b:=fun e=>by
    subst e
    rw[D]at q2
    cases q2
    exact g rfl
   rw[z mb this]
   exact hm
 refine⟨x,w',γ,I,B,⟨(YX _ _ _).trans q.sz,jcc q (fun _ _ h=>h) _ _,?_,⟨?_,q.gl,⟨Ω,⟨?_,?_,?_⟩⟩,?_,q.old⟩⟩,fun _ _=>rfl,fun _ _ h=>h,fun _ _ _ h=>h⟩
 ·exact Wg (by rw[q.sz];exact hd) q.tm hx
 ·intro i o' x' p
  have g:i≠b:=fun e=>by rw[e,h5]at p;cases p
  have:=q.imm _ _ _ p
  rw[World.cell?_of_block (w:=w) (w':=w') (a:=⟨i,o',none⟩) (z i g)]
  exact this
 ·intro U ob f
  rw[a0]at f ⊢
  rw[j2]at f
  split at f
  ·rename_i e
   subst e
   simp only[Option.some.injEq]at f
   subst f
   exact⟨b,k,h1,D,h3,g6.keep j,h5⟩
  ·rename_i e
   obtain⟨i,k',M,r,O,H,X⟩:=t.ob U ob f
   have g:i≠b:=fun K=>by
    subst K
    rw[D]at r
    cases r
    exact e rfl
   exact⟨i,k',M,r,O,by rw[z i g];exact H.keep j,X⟩
 ·intro N Z
  have L:st.tk N=true:=by simpa[St.app,XL] using Z
  obtain⟨i,n,S,sz,M,r,O,H,X⟩:=t.tk N L
  have g:i≠b:=fun K=>by subst K;rw[D]at r;cases r
  exact⟨i,n,S,sz,M,r,O,by rw[z i g];exact H,X⟩
 ·intro i ow p
  rw[g4]
  exact t.lt i ow p
 ·exact Grow.frame q.fr (T:=fun k=>k=b) ⟨g1,g2,g3,Nat.le_of_eq g4.symm,fun k _ Q=>z k Q,fun k Q=>Q▸h3 (by simpa[Nat.ble_eq] using J)⟩
end
section
variable {P:Program}{E:Env}{w0 w:World}{I0:IMap}{nt:Nat}{γ:Nat→Option Place}{I:IMap}{st:St}{a:Act}{o:Oper}{ub:Nat}{δ:Delta}
theorem Qf (tk:Nat→Bool) (b:Bool) (l:List Nat) (u:Nat):XL tk b l u=if u∈l then b else tk u:=by
 induction l with
 | nil=>simp[XL]
 | cons x l c=>
  simp only[XL,j2,c,List.mem_cons]
  by_cases h:u=x <;> simp[h]
theorem jq2 (M:R E w0 I0 nt γ I st a w) (hd:∀d,o.dst=some d→d<nt) (hf:γ ub=none) {b n cap sz:Nat}{cs:List V}{w':World}{del:Option Nat}{arr:Array Value}{e:TypeId}
 (a0:(execOp a.eval o).run P w=.ok (.value (.slice (some ⟨b,0,none⟩) n cap)) w')
 (hb:(b=w.heap.size∧w'.heap.size=w.heap.size+1)∨(∃u n0 b6 c2,st.tk u=true∧γ u=some (.tok b n0 b6 c2)∧del=some u∧w'.heap.size=w.heap.size))
 (U:w'.os=w.os∧w'.tape=w.tape∧w'.output=w.output) (hk:∀k,k<w.heap.size→k≠b→w'.heap[k]? = w.heap[k]?)
 (F:w'.heap[b]? = some (.cells arr e (0,0))) (c5:cap*sz≤arr.size) (Z:n≤cap) (hm:cap≤maxLen)
 (z:∀j x,I b j=some x→j<n*sz∧arr[j]? = some x) (b9:cs.length=n*sz)
 (s:∀ (j:Nat) (v:V),cs[j]? = some v→v.pureLeaf=true∧∃x,arr[j]? = some x∧RepP I x v)
 (b8:some { v:=V.sl (some (ub,sz)) false n cs,del:=del,add:=[ub] } = some δ):X7 P E w0 I0 nt γ I st a w o ub δ:=by
 simp only[Option.some.injEq]at b8
 subst b8
 obtain⟨Ω,L⟩:=M.own
 have q:=W8 (f:=γ) (k:=ub) (v:=Place.tok b n cap sz) hf
 let G:IMap:=fun i j=>if i=b∧j<n*sz then arr[j]? else I i j
 have hI:∀i j x,I i j=some x→G i j=some x:=by
  intro i j x K
  by_cases h:i=b
  ·subst h
   obtain⟨X,h2⟩:=z j x K
   simp only[G,X,and_self,if_true,h2]
  ·simp only[G,h,false_and,if_false,K]
 have d1:n*sz≤cap*sz:=Nat.mul_le_mul_right _ Z
 have hB:w0.heap.size≤b:=by
  rcases hb with⟨h,_⟩|⟨u,n0,c0,s0,J,hg,_,_⟩
  ·rw[h];exact M.fr.size
  ·obtain⟨i,n',c',s',N,y,k3,k4,k5⟩:=L.tk u J
   rw[hg]at N
   cases N
   exact k3
 have c8:w.heap.size≤w'.heap.size:=by rcases hb with⟨_,h⟩|⟨_,_,_,_,_,_,_,h⟩ <;> omega
 have c3:b<w'.heap.size:=(Array.getElem?_eq_some_iff.1 F).1
 -- who owns what is not b
 have H:∀i ow,Ω i=some ow→(∀u,ow=.tk u→del≠some u)→i≠b:=by
  intro i ow X h2 e
  subst e
  rcases hb with⟨h,_⟩|⟨u,n0,c0,s0,J,hg,B,_⟩
  ·have:=L.lt _ _ X;omega
  ·obtain⟨d2,n',c',s',N,y,k3,k4,k5⟩:=L.tk u J
   rw[hg]at N
   cases N
   rw[X]at y
   cases y
   exact h2 u rfl B
 refine⟨.slice (some ⟨b,0,none⟩) n cap,w',upd γ ub (some (.tok b n cap sz)),G,.inl a0,⟨(YX _ _ _).trans M.sz,jcc M q _ _,?_,⟨?_,?_,⟨upd Ω b (some (.tk ub)),⟨?_,?_,?_⟩⟩,?_,fun i j r=>?_⟩⟩,?_,q,hI⟩
 ·refine Wg (by rw[M.sz];exact hd) (fun t=>(M.tm t).mono q hI) ?_
  refine .tsl ub b n cap sz cs (fun j=>(arr[j]?).getD undef) zS b9 Z hm (fun j hj=>?_) (fun j v hv=>(s j v hv).1) (fun j v hv=>?_)
  ·have O:j<n*sz:=zO
   have:j<arr.size:=zO
   simp[G,O,this]
  ·obtain⟨_,x,K,hr⟩:=s j v hv
   simp only[K,Option.getD_some]
   exact hr.mono hI
 ·intro i j x K
  by_cases h:i=b∧j<n*sz
  ·simp only[G,h,and_self,if_true]at K
   obtain⟨rfl,_⟩:=h
   simp[World.cell?,F,K]
  ·simp only[G,h,if_false]at K
   by_cases r:i=b
   ·subst r
    obtain⟨X,_⟩:=z j x K
    exact absurd ⟨rfl,X⟩ h
   ·have Z:=M.imm _ _ _ K
    rw[World.cell?_of_block (w:=w) (w':=w') (a:=⟨i,j,none⟩) (hk i (World.block_lt_of_cell? _ _ Z) r)]
    exact Z
 ·exact fun g c7 hg=>(M.gl g c7 hg).mono hI
 ·intro l ob hl
  have b0:(st.app o.dst { v:=V.sl (some (ub,sz)) false n cs,del:=del,add:=[ub] }).ob=st.ob:=by simp[St.app,JI]
  rw[b0]at hl ⊢
  obtain⟨i,k',N,y,k3,k4,k5⟩:=L.ob l ob hl
  have p:=H i _ y (fun u h=>by cases h)
  have D:=L.lt _ _ y
  have Q:Xk γ st.ob st.ob w.heap w'.heap:=by
   intro l2 u2 d0 d4 mb mk c6 b7
   refine .inl ⟨b7,fun m c c1=>?_⟩
   obtain⟨b2,d3,q1,q2,_⟩:=L.ob l2 _ b7
   rw[c6]at q1
   cases q1
   rw[hk mb (L.lt _ _ q2) (H mb _ q2 (fun u h=>by cases h))]
   exact c1
  refine⟨i,k',q _ _ N,?_,k3,?_,fun j=>?_⟩
  ·rw[J7 _ _ p];exact y
  ·rw[hk i D p];exact(k4.keep Q).mono q hI
  ·simp only[G,p,false_and,if_false,k5]
 ·intro u J
  simp only[St.app,Qf,List.mem_singleton]at J
  by_cases b5:u=ub
  ·subst b5
   refine⟨b,n,cap,sz,zS,zS,hB,⟨arr,e,F,c5,Z,hm⟩,fun j hj=>?_⟩
   have O:¬ j<n*sz:=zO
   simp only[G,O,and_false,if_false]
   cases c4:I b j with
   | none=>rfl
   | some x=>exact absurd (z j x c4).1 O
  ·simp only[b5,if_false]at J
   split at J
   ·cases J
   ·rename_i B
    obtain⟨i,n',c',s',N,y,k3,k4,k5⟩:=L.tk u J
    have p:=H i _ y (fun u' h c9=>by cases h;simp[c9]at B)
    have D:=L.lt _ _ y
    refine⟨i,n',c',s',q _ _ N,?_,k3,?_,fun j hj=>?_⟩
    ·rw[J7 _ _ p];exact y
    ·rw[hk i D p];exact k4
    ·simp only[G,p,false_and,if_false,k5 j hj]
 ·intro i ow r
  rw[j2]at r
  split at r
  ·rename_i h;subst h;exact c3
  ·have:=L.lt i _ r;omega
 ·refine Grow.frame M.fr (T:=fun k=>k=b) ⟨U.1,U.2.1,U.2.2,c8,fun k S p=>hk k S p,fun k S=>S▸hB⟩
 ·have p:i≠b:=zO
  simp only[G,p,false_and,if_false]
  exact M.old i j r
 ·intro u J
  exact J7 _ _ (fun e=>J ⟨zO,zO⟩)
theorem jmi (z:R E w0 I0 nt γ I st a w) (D:∀d,o.dst=some d→d<nt) (y:γ ub=none) {b n cap sz:Nat}{cs:List V}{w':World}{del:Option Nat}{arr:Array Value}{e:TypeId}
 (g:(execOp a.eval o).run P w=.ok (.value (.slice (some ⟨b,0,none⟩) n cap)) w')
 (G:(b=w.heap.size∧w'.heap.size=w.heap.size+1)∨(∃u F f q,st.tk u=true∧γ u=some (.tok b F f q)∧del=some u∧w'.heap.size=w.heap.size))
 (p:w'.os=w.os∧w'.tape=w.tape∧w'.output=w.output) (B:∀k,k<w.heap.size→k≠b→w'.heap[k]? = w.heap[k]?)
 (h:w'.heap[b]? = some (.cells arr e (0,0))) (m:arr.size=cap*sz) (t:n≤cap) (s:cap≤maxLen)
 (i:∀j x,I b j=some x→j<n*sz∧arr[j]? = some x) (l:cs.length=n*sz)
 (c:∀ (j:Nat) (v:V),cs[j]? = some v→v.pureLeaf=true∧∃x,arr[j]? = some x∧RepP I x v)
 (r:some { v:=V.sl (some (ub,sz)) false n cs,del:=del,add:=[ub] } = some δ):X7 P E w0 I0 nt γ I st a w o ub δ :=
 jq2 z D y g G p B h (Nat.le_of_eq m.symm) t s i l c r
end
section
variable {γ:Nat→Option Place}{I:IMap}{x:Value}
theorem XB {b:Bool}(h:Rep γ I x (.bool b)):x=.bool b:=by
 cases h with|pure x v h=>cases h;rfl
theorem jw {k:IntKind}{n:Int}(h:Rep γ I x (.int k n)):x=.int k n:=by
 cases h with|pure x v h=>cases h;rfl
theorem X3 {l:List UInt8}(h:Rep γ I x (.str l)):∃s:ByteArray,x=.string s∧s.data.toList=l:=by
 cases h with|pure x v h=>cases h;exact⟨_,rfl,rfl⟩
theorem Xa (h:Rep γ I x .nilptr):x=.pointer none:=by
 cases h with|pure x v h=>cases h;rfl
theorem XJ (h:Rep γ I x .nilmap):x=.map none:=by
 cases h with|pure x v h=>cases h;rfl
theorem jaw (h:Rep γ I x .nilfn):x=.nilFunc:=by
 cases h with|pure x v h=>cases h;rfl
theorem Yy (h:Rep γ I x .nilif):x=.nilIface:=by
 cases h with|pure x v h=>cases h;rfl
theorem YM {l u off:Nat}(h:Rep γ I x (.ptr l u off)):∃b k,γ u=some (.obj b k)∧x=.pointer (some ⟨b,off,none⟩):=by
 cases h with
 | pure x v h=>cases h
 | ptr _ _ _ b k a=>exact⟨b,k,a,rfl⟩
theorem WL {l u:Nat}(h:Rep γ I x (.map l u)):∃b k,γ u=some (.obj b k)∧x=.map (some b):=by
 cases h with
 | pure x v h=>cases h
 | map _ _ b k a=>exact⟨b,k,a,rfl⟩
theorem jcx {l u:Nat}(h:Rep γ I x (.iter l u)):∃b k,γ u=some (.obj b k)∧x=.pointer (some ⟨b,0,none⟩):=by
 cases h with
 | pure x v h=>cases h
 | iter _ _ b k a=>exact⟨b,k,a,rfl⟩
theorem jtv {l u:Nat}(h:Rep γ I x (.yld l u)):∃b k,γ u=some (.obj b k)∧x=.func (.yield b) #[] #[]:=by
 cases h with
 | pure x v h=>cases h
 | yld _ _ b k a=>exact⟨b,k,a,rfl⟩
theorem XZ {l u off n sz:Nat}(h:Rep γ I x (.osl l u off n sz)):∃b k a c,γ u=some (.obj b k)∧x=.slice (some a) n c∧(0<c→a=⟨b,off,none⟩∧off+c*sz≤k.size)∧n≤c∧c≤maxLen:=by
 cases h with
 | pure x v h=>cases h
 | osl _ _ _ _ _ c b k a g f e d=>exact⟨b,k,a,c,g,rfl,f,e,d⟩
theorem QH {cs:List V}{off:Nat}(h:Rep γ I x (.eptr cs off)):∃b a,x=.pointer (some ⟨b,a+off,none⟩) ∧
 ∃c:Nat→Value,(∀j,j<cs.length→I b (a+j)=some (c j))∧(∀ (j:Nat) (v:V),cs[j]? = some v→v.pureLeaf=true)∧∀ (j:Nat) (v:V),cs[j]? = some v→RepP I (c j) v:=by
 cases h with
 | pure x v h=>cases h with|eptr b a off cs c f d e=>exact⟨b,a,rfl,c,f,d,e⟩
theorem j20 {vs:List V}(h:Rep γ I x (.tup vs)):∃b:Array Value,x=.tuple b∧b.size=vs.length∧∀ (j:Nat) (y:Value) (v:V),b[j]? = some y→vs[j]? = some v→Rep γ I y v:=by
 cases h with
 | pure x v h=>cases h
 | tup b vs a c=>exact⟨b,rfl,a,c⟩
theorem Xy {cs:List V}(h:Rep γ I x (.agg cs)):∃b:Array Value,x=.agg b∧b.size=cs.length∧(∀ (j:Nat) (v:V),cs[j]? = some v→v.leaf=true) ∧
 ∀ (j:Nat) (y:Value) (v:V),b[j]? = some y→cs[j]? = some v→Rep γ I y v:=by
 cases h with
 | pure x v h=>cases h with|agg b cs a c d=>exact⟨b,rfl,a,c,fun j y v f e=>.pure _ _ (d j y v f e)⟩
 | agg b cs a c d=>exact⟨b,rfl,a,c,d⟩
theorem jb7 {f:Fn}{asg bs:List V}(h:Rep γ I x (.fn f asg bs)):∃d c:Array Value,x=.func f d c∧d.size=asg.length∧c.size=bs.length ∧
 (∀ (j:Nat) (y:Value) (v:V),d[j]? = some y→asg[j]? = some v→Rep γ I y v)∧∀ (j:Nat) (y:Value) (v:V),c[j]? = some y→bs[j]? = some v→Rep γ I y v:=by
 cases h with
 | pure x v h=>cases h with|fn f d c asg bs g k e i=>exact⟨d,c,rfl,g,k,fun j y v a b=>.pure _ _ (e j y v a b),fun j y v a b=>.pure _ _ (i j y v a b)⟩
 | fn f d c asg bs g k e i=>exact⟨d,c,rfl,g,k,e,i⟩
theorem jax {t:TypeId}{v:V}(h:Rep γ I x (.iface t v)):∃y,x=.iface t y∧Rep γ I y v:=by
 cases h with
 | pure x v h=>cases h with|iface t x v a=>exact⟨x,rfl,.pure _ _ a⟩
 | iface t x v a=>exact⟨x,rfl,a⟩
theorem Xq {t:Option (Nat × Nat)}{nl:Bool}{n:Nat}{cs:List V}(h:Rep γ I x (.sl t nl n cs)) :
 (x=.slice none 0 0∧t=none∧nl=true∧n=0∧cs=[]) ∨
 ∃ (a:Addr) (cap:Nat) (xs:Nat→Value),x=.slice (some a) n cap∧nl=false∧(cs≠[]→a.spot=none)∧n≤cap∧cap≤maxLen ∧
  (∀j,j<cs.length→I a.block (a.off+j)=some (xs j))∧(∀ (j:Nat) (v:V),cs[j]? = some v→v.pureLeaf=true)∧(∀ (j:Nat) (v:V),cs[j]? = some v→RepP I (xs j) v) ∧
  (∀u c,t=some (u,c)→γ u=some (.tok a.block n cap c)∧a=⟨a.block,0,none⟩∧cs.length=n*c):=by
 cases h with
 | pure x v h=>
  cases h with
  | slnil=>exact .inl ⟨rfl,rfl,rfl,rfl,rfl⟩
  | sl a n cap cs xs o k e f i l=>exact .inr ⟨a,cap,xs,rfl,rfl,o,k,e,f,i,l,fun u c m=>by cases m⟩
 | tsl u b n cap c cs xs m d k e f i l=>
  exact .inr ⟨⟨b,0,none⟩,cap,xs,rfl,rfl,fun _=>rfl,k,e,by simpa using f,i,l,fun q p g=>by cases g;exact⟨m,rfl,d⟩⟩
theorem RepP.strip1 {v:V}(h:RepP I x v):RepP I x v.strip1:=by
 cases h <;> first|exact .slnil|(rename_i a b c d e f g;exact .sl _ _ _ _ _ d e f g ‹_› ‹_›)|(constructor <;> assumption)|(constructor)
end
section
variable {P:Program}{E:Env}{w0 w:World}{I0:IMap}{nt:Nat}{γ:Nat→Option Place}{I:IMap}{st:St}{a:Act}{o:Oper}{ub:Nat}{δ:Delta}
theorem bind_some {c d:Type}{x:Option c}{f:c→Option d}{b:d}(h:x.bind f=some b):∃y,x=some y∧f y=some b:=Option.bind_eq_some_iff.1 h
theorem map_some {c d:Type}{x:Option c}{f:c→d}{b:d}(h:x.map f=some b):∃y,x=some y∧f y=b:=Option.map_eq_some_iff.1 h
theorem jsb (b:R E w0 I0 nt γ I st a w) (e:∀d,o.dst=some d→d<nt) {x:Operand}{y:A}(g:o.op=.move x∨o.op=.assign x) (f:opd x=some y)
 (c:one (eval E st.tm y)=some δ):X7 P E w0 I0 nt γ I st a w o ub δ :=
 jU b e (x:=a.eval x) (by rcases g with h|h <;> simp only[execOp,h] <;> rfl) (jA b f) c
theorem j1q (e:R E w0 I0 nt γ I st a w) (j:∀d,o.dst=some d→d<nt) {c x y:Operand}{h i g:A}(l:o.op=.pick c x y) (m:opd c=some h) (k:opd x=some i) (p:opd y=some g)
 (f:(match eval E st.tm h with|.bool t=>one (cond t (eval E st.tm i) (eval E st.tm g))|_=>none)=some δ):X7 P E w0 I0 nt γ I st a w o ub δ:=by
 have b:=jA e m
 split at f
 ·rename_i t n
  rw[n]at b
  have:=XB b
  refine jU e j (x:=if t then a.eval x else a.eval y) ?_ ?_ f
  ·simp only[execOp,l,this,asBool,Sem.run_bind,Sem.run_pure,Result.andThen_ok]
  ·cases t
   ·exact jA e p
   ·exact jA e k
 ·cases f
theorem jG (op:BinOp) (t:TypeId) (x y:Operand) (u v:Value) (b:¬ (u=.nilIface∧v=.nilIface)) (c:∀p q,¬ (u=.agg p∧v=.agg q)):(eqGuard op t x y u v).run P w=.ok () w:=by
 unfold eqGuard
 cases u <;> cases v <;> first
  | (exact absurd ⟨rfl,rfl⟩ b)
  | (exact absurd ⟨rfl,rfl⟩ (c _ _))
  | (simp only[Sem.run_pure,ite_self])
theorem jo0 (op:BinOp) (k:IntKind) (x y:Int) {v:V}(h:XN op k x y=some v) (t:TypeId) (b:op≠.shl∧op≠.shr) :
 ∃z,(binOp op t (.int k x) (.int k y)).run P w=.ok z w∧∀γ I,Rep γ I z v:=by
 cases op <;> simp only[XN,Option.some.injEq,reduceCtorEq]at h <;>
  first
  | exact absurd rfl b.1
  | exact absurd rfl b.2
  | (subst h;exact⟨_,by simp only[binOp,Op.intArith,Op.intBits,Op.intCmp,ne_eq,not_true_eq_false,if_false];rfl,fun _ _=>.pure _ _ (by constructor)⟩)
  | (split at h <;> simp only [Option.some.injEq,reduceCtorEq] at h;subst h;rename_i c 
     exact⟨_,by simp only[binOp,Op.intDiv,ne_eq,not_true_eq_false,if_false,c];rfl,fun _ _=>.pure _ _ (by constructor)⟩)
theorem jbz (op:BinOp) (k b:IntKind) (x y:Int) {v:V}(h:Q5 op k x y=some v) (t:TypeId) :
 ∃z,(binOp op t (.int k x) (.int b y)).run P w=.ok z w∧∀γ I,Rep γ I z v:=by
 unfold Q5 at h
 split at h
 ·cases h
 ·rename_i c
  cases op <;> simp only[Option.some.injEq,reduceCtorEq]at h
  all_goals
   subst h
   exact⟨_,by simp only[binOp,Op.shift,c,if_false];rfl,fun _ _=>.pure _ _ (.int _ _)⟩
theorem YE (s:ByteArray):s.toList=s.data.toList:=by
 have b:∀ (n i:Nat) (r:List UInt8),s.size - i=n→ByteArray.toList.loop s i r=r.reverse++s.data.toList.drop i:=by
  intro n
  induction n with
  | zero=>
   intro i r h
   unfold ByteArray.toList.loop
   have:¬ i<s.size:=zO
   have c:s.data.toList.length≤i:=by simp only[Array.length_toList];exact Nat.le_of_not_lt this
   simp[this,List.drop_eq_nil_of_le c]
  | succ n e=>
   intro i r h
   unfold ByteArray.toList.loop
   have d:i<s.size:=zO
   simp only[d,if_true]
   rw[e (i+1) _ zO]
   have c:i<s.data.toList.length:=by simpa using d
   rw[List.drop_eq_getElem_cons c]
   have:s.get! i=s.data.toList[i]:=by
    simp[ByteArray.get!,d]
   simp[this]
 unfold ByteArray.toList
 rw[b s.size 0 [] zO]
 simp
theorem joz (op:BinOp) (x y:ByteArray) {v:V}(h:jid op x.data.toList y.data.toList=some v) (t:TypeId) :
 ∃z,(binOp op t (.string x) (.string y)).run P w=.ok z w∧∀γ I,Rep γ I z v:=by
 cases op <;> simp only[jid,Option.some.injEq,reduceCtorEq]at h
 case add=>
  split at h
  ·rename_i b
   simp only[Option.some.injEq]at h
   subst h
   have c:¬ (((x.size+y.size:Nat):Int) > IntKind.i64.max):=by
    simp only[Array.length_toList]at b
    have:x.size+y.size≤9223372036854775807:=b
    have d:IntKind.i64.max=9223372036854775807:=by decide
    rw[d];omega
   refine⟨.string (x++y),by simp only[binOp,Op.stringOp,c,if_false];rfl,fun _ _=>.pure _ _ ?_⟩
   have:x.data.toList++y.data.toList=(x++y).data.toList:=zS
   rw[this]
   exact .str _
  ·cases h
 all_goals
  subst h
  exact⟨_,by simp only[binOp,Op.stringOp,YE];rfl,fun _ _=>.pure _ _ (.bool _)⟩
end
section
variable {P:Program}{E:Env}{w0 w:World}{I0:IMap}{nt:Nat}{γ:Nat→Option Place}{I:IMap}{st:St}{a:Act}{o:Oper}{ub:Nat}{δ:Delta}
theorem jv7 {x y:Value}{g e v:V}(op:BinOp) (t:TypeId) (f:Rep γ I x g) (j:Rep γ I y e) (h:Y5 op g e=some v) :
 (∃z,(binOp op t x y).run P w=.ok z w∧∀γ I,Rep γ I z v)∧¬ (x=.nilIface∧y=.nilIface)∧(∀p q,¬ (x=.agg p∧y=.agg q)):=by
 unfold Y5 at h
 split at h
 ·rename_i k a i b
  have c:=jw f
  have d:=jw j
  subst c;subst d
  refine⟨?_,zS,zS⟩
  split at h
  ·exact jbz .shl k i a b h t
  ·exact jbz .shr k i a b h t
  ·rename_i c d
   split at h
   ·rename_i l
    subst l
    exact jo0 op k a b h t ⟨c,d⟩
   ·cases h
 ·rename_i a b
  obtain⟨s,rfl,rfl⟩:=X3 f
  obtain⟨m,rfl,rfl⟩:=X3 j
  exact⟨joz op s m h t,zS,zS⟩
 ·cases h
theorem jsl (b:R E w0 I0 nt γ I st a w) (p:∀d,o.dst=some d→d<nt) {op:BinOp}{t g:TypeId}{x y:Operand}{f e:A}(j:o.op=.binOp op t x y g) (i:opd x=some f) (r:opd y=some e)
 (k:(Y5 op (eval E st.tm f) (eval E st.tm e)).bind one=some δ):X7 P E w0 I0 nt γ I st a w o ub δ:=by
 obtain⟨v,m,c⟩:=bind_some k
 obtain⟨⟨z,n,q⟩,h,l⟩:=jv7 (P:=P) (w:=w) op t (jA b i) (jA b r) m
 exact jU b p (x:=z) (by simp only[execOp,j,Sem.run_bind,jG op t x y _ _ h l,Result.andThen_ok,n,Sem.run_pure]) (q γ I) c
def LKOk (P:Program) (t:TypeId):LK→Prop
 | .bool=>P.underlying t=some .bool
 | .int=>∃q,P.underlying t=some (.int q)
 | .str=>P.underlying t=some .string
theorem jfs {t:TypeId}{x y:Value}{m l:V}{b:Bool}{k:LK}(d:Nat)
 (c:LKOk P t k)
 (g:Rep γ I x m) (j:Rep γ I y l) (h:WS k m l=some b):(Op.equalIn (d+1) t x y).run P w=.ok b w:=by
 unfold WS at h
 split at h
 ·have f:=XB g
  have i:=XB j
  subst f;subst i
  simp only[Option.some.injEq]at h
  rw[← h]
  exact run_equalIn_bool' w d t _ _ c
 ·rename_i k n u p
  have f:=jw g
  have i:=jw j
  subst f;subst i
  obtain⟨q,c⟩:=c
  split at h
  ·rename_i e
   subst e
   simp only[Option.some.injEq]at h
   rw[← h]
   exact run_equalIn_int w d t k q n p c
  ·cases h
 ·obtain⟨s,rfl,rfl⟩:=X3 g
  obtain⟨r,rfl,rfl⟩:=X3 j
  simp only[Option.some.injEq]at h
  rw[run_equalIn_string w d t s r c,YE,YE,h]
 ·cases h
theorem Qa:∀ (l l':List LK) (x y:List V) (b:Bool),jr (l++l') x y=some b →
 ∃b1 b2,jr l (x.take l.length) (y.take l.length)=some b1∧jr l' (x.drop l.length) (y.drop l.length)=some b2∧b=(b1 && b2)
 | [],l',x,y,b,h=>⟨true,b,rfl,by simpa using h,zS⟩
 | k::l,l',x,y,b,h=>by
  cases x with
  | nil=>simp[jr]at h
  | cons a x=>
   cases y with
   | nil=>simp[jr]at h
   | cons c y=>
    simp only[List.cons_append,jr]at h
    obtain⟨r,m,g⟩:=bind_some h
    obtain⟨q,j,d⟩:=map_some g
    obtain⟨b1,b2,i,f,e⟩:=Qa l l' x y q j
    refine⟨r && b1,b2,?_,by simpa using f,by rw[← d,e,Bool.and_assoc]⟩
    simp only[List.length_cons,List.take_succ_cons,jr,m,Option.bind_some,i,Option.map_some]
def YR (γ:Nat→Option Place) (I:IMap) (P:Program) (t:TypeId) (x:Value) (cs:List V):Prop :=
 match P.underlying t with
 | some (.struct _)=>∃xs:Array Value,x=.agg xs∧xs.size=cs.length∧∀ (j:Nat) (y:Value) (v:V),xs[j]? = some y→cs[j]? = some v→Rep γ I y v
 | _=>∃v,cs=[v]∧Rep γ I x v
theorem YH {t:TypeId}{d:TypeDesc}(h:P.underlying t=some d):(isAgg t).run P w=.ok (jav d) w:=by
 unfold isAgg
 rw[Sem.run_bind,run_underlying h w]
 cases d <;> rfl
theorem je {t:TypeId}{n:Nat}(h:WU P t=some n):(sizeOf t).run P w=.ok n w:=by
 unfold WU at h
 obtain⟨i,b,rfl⟩:=map_some h
 simp[sizeOf,typeInfo,b]
theorem jaf {t:TypeId}{n off:Nat}{xs:Array Value}{cs:List V}(d:Nat) {l:List LK}(c:eqTs P d t=some l) (r:WU P t=some n) (z:xs.size=cs.length)
 (m:∀ (j:Nat) (y:Value) (v:V),xs[j]? = some y→cs[j]? = some v→Rep γ I y v) (k:off+n≤cs.length) (u:n=l.length) :
 ∃x,(part t xs off).run P w=.ok x w∧YR γ I P t x ((cs.drop off).take n):=by
 cases d with
 | zero=>simp[eqTs]at c
 | succ d=>
  have one:∀ (dd:TypeDesc),P.underlying t=some dd→jav dd=false→l.length=1→∃x,(part t xs off).run P w=.ok x w∧YR γ I P t x ((cs.drop off).take n):=by
   intro dd b i s
   have h:n=1:=zO
   subst h
   have e:off<xs.size:=zO
   have f:cs[off]? = some cs[off]:=List.getElem?_eq_getElem zO
   refine⟨xs[off],?_,?_⟩
   ·unfold part
    simp only[Sem.run_bind,YH b,i,Result.andThen_ok,Bool.false_eq_true,if_false,Array.getElem?_eq_getElem e,Sem.run_pure]
   ·have hd1:(cs.drop off).take 1=[cs[off]]:=by
     rw[List.drop_eq_getElem_cons zO]
     rfl
    rw[hd1]
    have:=m off _ _ (Array.getElem?_eq_getElem e) f
    unfold YR
    rw[b]
    cases dd <;> first|exact⟨_,rfl,this⟩|(simp[jav]at i)
  unfold eqTs at c
  split at c
  ·rename_i b;cases c;exact one _ b rfl rfl
  ·rename_i q b;cases c;exact one _ b rfl rfl
  ·rename_i b;cases c;exact one _ b rfl rfl
  ·rename_i fs b
   refine⟨.agg (xs.extract off (off+n)),?_,?_⟩
   ·unfold part
    simp only[Sem.run_bind,YH b,jav,Result.andThen_ok,if_true,je r,Sem.run_pure]
   ·unfold YR
    rw[b]
    refine⟨_,rfl,?_,?_⟩
    ·simp only[Array.size_extract,List.length_take,List.length_drop];omega
    ·intro j y v g f
     have p:j<n:=by
      have:=(List.getElem?_eq_some_iff.1 f).1
      simp only[List.length_take]at this
      omega
     simp only[Array.getElem?_extract]at g
     rw[List.getElem?_take_of_lt p,List.getElem?_drop]at f
     split at g
     ·exact m _ _ _ g f
     ·cases g
  ·cases c
theorem jo1:∀ (d:Nat) (t:TypeId) (l:List LK) (D:Nat) (x y:Value) (m j:List V) (b:Bool),eqTs P d t=some l→d≤D→YR γ I P t x m→YR γ I P t y j →
 jr l m j=some b→(Op.equalIn D t x y).run P w=.ok b w:=by
 intro d
 induction d with
 | zero=>intro t l D x y m j b h;simp[eqTs]at h
 | succ d ih=>
  intro t l D x y m j b n hD J H h
  obtain⟨D,rfl⟩:∃D',D=D'+1:=⟨D - 1,zO⟩
  unfold eqTs at n
  have leaf:∀ (k:LK) (dd:TypeDesc),P.underlying t=some dd→jav dd=false→l=[k]→LKOk P t k →
   (Op.equalIn (D+1) t x y).run P w=.ok b w:=by
   intro k dd g ha b7 ht
   subst b7
   have F:∃v,m=[v]∧Rep γ I x v:=by unfold YR at J;rw[g]at J;cases dd <;> first|exact J|(simp[jav]at ha)
   have z:∃v,j=[v]∧Rep γ I y v:=by unfold YR at H;rw[g]at H;cases dd <;> first|exact H|(simp[jav]at ha)
   obtain⟨v,rfl,F⟩:=F
   obtain⟨v',rfl,z⟩:=z
   simp only[jr]at h
   obtain⟨r,hr,G⟩:=bind_some h
   simp only[Option.map_some,Bool.and_true,Option.some.injEq]at G
   subst G
   exact jfs D ht F z hr
  split at n
  ·rename_i g;cases n;exact leaf .bool _ g rfl rfl g
  ·rename_i q g;cases n;exact leaf .int _ g rfl rfl ⟨q,g⟩
  ·rename_i g;cases n;exact leaf .str _ g rfl rfl g
  ·rename_i fs g
   split at n
   ·cases n
   ·rename_i b9
    unfold YR at J H
    rw[g]at J H
    obtain⟨xs,rfl,c0,b6⟩:=J
    obtain⟨ys,rfl,a0,T⟩:=H
    have hf:P.fieldsOf t=fs:=by unfold Program.fieldsOf;rw[g]
    rw[run_equalIn_struct w D t xs ys (by rw[hf];exact g) (by simpa using b9),hf]
    -- field by field
    have S:∀ (L:List Field) (off:Nat) (i:List LK) (b:Bool),eqFs (eqTs P d) P off L=some i→off+i.length≤m.length→off+i.length≤j.length→jr i (m.drop off) (j.drop off)=some b →
     (Op.eqFields D xs ys L).run P w=.ok b w:=by
     intro L
     induction L with
     | nil=>
      intro off i b B G h3 N
      simp only[eqFs,Option.some.injEq]at B
      subst B
      cases Q:m.drop off <;> cases U:j.drop off <;> simp[Q,U,jr]at N
      subst N
      rfl
     | cons f L X=>
      intro off i b B G h3 N
      simp only[eqFs]at B
      split at B
      ·cases B
      ·rename_i e
       simp only[not_or,Decidable.not_not]at e
       obtain⟨O,s,h5⟩:=bind_some B
       split at h5
       ·rename_i K
        obtain⟨Z,b8,rfl⟩:=map_some h5
        simp only[List.length_append]at G h3
        obtain⟨b1,b2,e1,e2,rfl⟩:=Qa O Z _ _ b N
        obtain⟨p,hp,c1⟩:=jaf (P:=P) (w:=w) (off:=off) d s K c0 b6 zO rfl
        obtain⟨q,hq,b5⟩:=jaf (P:=P) (w:=w) (off:=off) d s K a0 T zO rfl
        have hr:=ih f.type O D p q _ _ b1 s zO c1 b5 e1
        simp only[Op.eqFields,e.1,ne_eq,not_false_eq_true,if_true,Sem.run_bind,e.2,hp,hq,hr,Result.andThen_ok,Sem.run_ite,Sem.run_pure]
        cases b1
        ·simp
        ·simp only[Bool.not_true,Bool.false_eq_true,if_false,Bool.true_and]
         refine X (off+O.length) Z b2 b8 zO zO ?_
         simpa[List.drop_drop] using e2
       ·cases h5
    have M:∀ (i:List LK) (u v:List V) (b:Bool),jr i u v=some b→i.length=u.length∧i.length=v.length:=by
     intro i
     induction i with
     | nil=>intro u v b h;cases u <;> cases v <;> simp[jr]at h;exact⟨rfl,rfl⟩
     | cons k i b0=>
      intro u v b h
      cases u with
      | nil=>simp[jr]at h
      | cons c u=>
       cases v with
       | nil=>simp[jr]at h
       | cons c' v=>
        simp only[jr]at h
        obtain⟨r,_,G⟩:=bind_some h
        obtain⟨q,hq,_⟩:=map_some G
        have:=b0 u v q hq
        simp only[List.length_cons]
        omega
    obtain⟨O,Z⟩:=M l m j b h
    exact S fs.toList 0 l b n zO zO (by simpa using h)
  ·cases n
theorem j11 {t:TypeId}{k:LK}(h:jko P t=some k):LKOk P t k∧∃d,P.underlying t=some d∧jav d=false:=by
 unfold jko at h
 split at h
 ·rename_i b;cases h;exact⟨b,_,b,rfl⟩
 ·rename_i q b;cases h;exact⟨⟨q,b⟩,_,b,rfl⟩
 ·rename_i b;cases h;exact⟨b,_,b,rfl⟩
 ·cases h
theorem jrl {t e:TypeId}{n:Nat}{k:LK}(D:Nat) (hu:P.underlying t=some (.array n e)) (hk:jko P e=some k) (N:WU P e=some 1) {xs ys:Array Value}{l f:List V}{b:Bool}(a0:xs.size=l.length) (S:ys.size=f.length)
 (Z:∀ (j:Nat) (y:Value) (v:V),xs[j]? = some y→l[j]? = some v→Rep γ I y v) (T:∀ (j:Nat) (y:Value) (v:V),ys[j]? = some y→f[j]? = some v→Rep γ I y v) (h:jr (List.replicate n k) l f=some b) :
 (Op.equalIn (D+2) t (.agg xs) (.agg ys)).run P w=.ok b w:=by
 obtain⟨X,d,O,L⟩:=j11 hk
 have p:=N
 unfold WU at p
 obtain⟨i,G,F⟩:=map_some p
 have hc:P.cellsOf e=1:=by simp[Program.cellsOf,G,F]
 rw[run_equalIn_array w (D+1) xs ys hu G,hc,List.range_eq_range']
 have c:∀ (B:Array Value) (j:Nat) (z:Value),B[j]? = some z→(part e B (j*1)).run P w=.ok z w:=fun B j z M=>by
  unfold part
  simp only[Sem.run_bind,YH O,L,Result.andThen_ok,Bool.false_eq_true,if_false,Nat.mul_one,M,Sem.run_pure]
 have u:∀ (m off:Nat) (b:Bool),jr (List.replicate m k) (l.drop off) (f.drop off)=some b→(Op.eqItems (D+1) e 1 xs ys (List.range' off m)).run P w=.ok b w:=by
  intro m
  induction m with
  | zero=>
   intro off b h
   rw[List.replicate_zero]at h
   cases s:l.drop off <;> cases g:f.drop off <;> simp[s,g,jr]at h
   subst h
   rfl
  | succ m Q=>
   intro off b h
   rw[List.replicate_succ]at h
   by_cases x:off<l.length
   ·by_cases K:off<f.length
    ·rw[List.drop_eq_getElem_cons x,List.drop_eq_getElem_cons K]at h
     simp only[jr]at h
     obtain⟨r,hr,U⟩:=bind_some h
     obtain⟨q,hq,rfl⟩:=map_some U
     have H:xs[off]? = some xs[off]:=Array.getElem?_eq_getElem zO
     have J:ys[off]? = some ys[off]:=Array.getElem?_eq_getElem zO
     have e1:=jfs (P:=P) (w:=w) D X (Z off _ _ H (List.getElem?_eq_getElem x)) (T off _ _ J (List.getElem?_eq_getElem K)) hr
     rw[List.range'_succ]
     simp only[Op.eqItems,Sem.run_bind,c _ _ _ H,c _ _ _ J,e1,Result.andThen_ok]
     cases r
     ·rfl
     ·simpa using Q (off+1) q hq
    ·rw[List.drop_eq_getElem_cons x,List.drop_of_length_le (by omega:f.length≤off)]at h
     simp[jr]at h
   ·rw[List.drop_of_length_le (by omega:l.length≤off)]at h
    cases g:f.drop off <;> simp[jr]at h
 exact u n 0 b (by simpa using h)
theorem ok_un (h:R E w0 I0 nt γ I st a w) (j:∀d,o.dst=some d→d<nt) {op:UnOp}{t:TypeId}{x:Operand}{l:A}(i:o.op=.unOp op t x) (m:opd x=some l)
 (p:(unV op (eval E st.tm l)).bind one=some δ):X7 P E w0 I0 nt γ I st a w o ub δ:=by
 obtain⟨v,c,e⟩:=bind_some p
 have f:=jA h m
 unfold unV at c
 split at c
 ·rename_i b g
  rw[g]at f
  have:=XB f
  simp only[Option.some.injEq]at c
  subst c
  exact jU h j (x:=.bool (!b)) (by simp only[execOp,i,this,Op.unary];rfl) (.pure _ _ (.bool _)) e
 ·rename_i k n g
  rw[g]at f
  have:=jw f
  simp only[Option.some.injEq]at c
  subst c
  exact jU h j (x:=.int k (k.wrap (0 - n))) (by simp only[execOp,i,this,Op.unary,Op.intArith];rfl) (.pure _ _ (.int _ _)) e
 ·rename_i k n g
  rw[g]at f
  have:=jw f
  simp only[XN,Option.some.injEq]at c
  subst c
  exact jU h j (x:=.int k _) (by simp only[execOp,i,this,Op.unary,Op.intBits];rfl) (.pure _ _ (.int _ _)) e
 ·cases c
end
section
variable {P:Program}{E:Env}{w0 w:World}{I0:IMap}{nt:Nat}{γ:Nat→Option Place}{I:IMap}{st:St}{a:Act}{o:Oper}{ub:Nat}{δ:Delta}
theorem jb2 (t:TypeId) (x y:Value) (b:Bool) (d:∀k n,x≠.int k n) (g:∀s,x≠.string s) (c:∀k f,x≠.float k f) (e:∀k r i,x≠.complex k r i) (h:(Op.equal t x y).run P w=.ok b w) :
 (binOp .eql t x y).run P w=.ok (.bool b) w∧(binOp .neq t x y).run P w=.ok (.bool (!b)) w:=by
 constructor
 ·unfold binOp
  cases x <;> cases y <;> first|(exact absurd rfl (d _ _))|(exact absurd rfl (g _))|(exact absurd rfl (c _ _))|(exact absurd rfl (e _ _ _))|(simp only[Sem.run_bind,h,Result.andThen_ok,Sem.run_pure])
 ·unfold binOp
  cases x <;> cases y <;> first|(exact absurd rfl (d _ _))|(exact absurd rfl (g _))|(exact absurd rfl (c _ _))|(exact absurd rfl (e _ _ _))|(simp only[Sem.run_bind,h,Result.andThen_ok,Sem.run_pure])
def EqKOk (P:Program) (t:TypeId) (x y:Operand):EqK→Prop
 | .bool=>P.underlying t=some .bool
 | .ptr=>∃e,P.underlying t=some (.pointer e)∧∃n,WU P e=some n∧n≠0
 | .sl=>∃e,P.underlying t=some (.slice e)
 | .map=>∃k e,P.underlying t=some (.map k e)
 | .fn=>∃p r v,P.underlying t=some (.func p r v)
 | .iface=>(∃ms,P.underlying t=some (.interface ms))∧((∃v,x=.const v)∨∃v,y=.const v)
 | .struct l=>P.eqGuardType P.depth t=false∧((∃fs,P.underlying t=some (.struct fs))∧eqTs P 8 t=some l∨∃n e k,P.underlying t=some (.array n e)∧jko P e=some k∧WU P e=some 1∧l=List.replicate n k)
theorem jua {t:TypeId}{x y:Operand}{k:EqK}(h:eqK P t x y=some k):EqKOk P t x y k:=by
 unfold eqK at h
 split at h
 ·cases h;assumption
 ·split at h
  ·rename_i e
   cases h
   exact⟨_,by assumption,_,e,Nat.succ_ne_zero _⟩
  ·cases h
 ·cases h;exact⟨_,by assumption⟩
 ·cases h;exact⟨_,_,by assumption⟩
 ·cases h;exact⟨_,_,_,by assumption⟩
 ·split at h
  ·cases h;exact⟨⟨_,by assumption⟩,.inl ⟨_,rfl⟩⟩
  ·cases h;exact⟨⟨_,by assumption⟩,.inr ⟨_,rfl⟩⟩
  ·cases h
 ·split at h
  ·cases h
  ·rename_i b
   obtain⟨l,d,rfl⟩:=map_some h
   exact⟨by simpa using b,.inl ⟨⟨_,by assumption⟩,d⟩⟩
 ·split at h
  ·cases h
  ·rename_i b
   simp only[not_or,Decidable.not_not]at b
   obtain⟨k,c,rfl⟩:=map_some h
   exact⟨by simpa using b.1,.inr ⟨_,_,k,by assumption,c,b.2,rfl⟩⟩
 ·cases h
theorem ja {t:TypeId}{d:TypeDesc}{X Y:Value}{b:Bool}{r:Result Bool}(e:P.underlying t=some d)
 (h:(match d,X,Y with
  | .bool,.bool a,.bool b=>some (a == b)
  | .pointer _,.pointer none,.pointer b=>some b.isNone
  | .pointer _,.pointer (some _),.pointer none=>some false
  | .slice _,.slice none _ _,.slice b _ _=>some b.isNone
  | .slice _,.slice (some _) _ _,.slice none _ _=>some false
  | .map _ _,.map none,.map b=>some b.isNone
  | .map _ _,.map (some _),.map none=>some false
  | .func _ _ _,.nilFunc,.nilFunc=>some true
  | .func _ _ _,.nilFunc,.func _ _ _|.func _ _ _,.func _ _ _,.nilFunc=>some false
  | .interface _,.nilIface,.nilIface=>some true
  | .interface _,.nilIface,.iface _ _|.interface _,.iface _ _,.nilIface=>some false
  | _,_,_=>none)=some b) (c:r=.ok b w):(Op.equal t X Y).run P w=r:=by
 subst c
 unfold Op.equal
 show(Op.equalIn (9999+1) t X Y).run P w=_
 unfold Op.equalIn
 simp only[Sem.run_bind,run_underlying e,Result.andThen_ok]
 split at h <;> first|(cases h;rfl)|(simp only[Option.some.injEq]at h;subst h;rfl)|(cases h)
theorem ok_eq (H:R E w0 I0 nt γ I st a w) (T:∀d,o.dst=some d→d<nt) {neg:Bool}{t N:TypeId}{x y:Operand}{F J:A}{k:EqK}(ho:o.op=.binOp (if neg then .neq else .eql) t x y N) (hx:opd x=some F) (U:opd y=some J)
 (hk:eqK P t x y=some k) (Q:((eqV k (eval E st.tm F) (eval E st.tm J)).bind fun b=>one (.bool (xor neg b)))=some δ):X7 P E w0 I0 nt γ I st a w o ub δ:=by
 obtain⟨b,p,K⟩:=bind_some Q
 have c:=jA H hx
 have j:=jA H U
 generalize eval E st.tm F=vx at c p
 generalize eval E st.tm J=vy at j p
 generalize O:a.eval x=X at c
 generalize hY:a.eval y=Y at j
 have l:(eqGuard (if neg then .neq else .eql) t x y X Y).run P w=.ok () w→(∀k n,X≠.int k n)→(∀s,X≠.string s)→(∀k f,X≠.float k f)→(∀k r i,X≠.complex k r i)→(Op.equal t X Y).run P w=.ok b w →
  X7 P E w0 I0 nt γ I st a w o ub δ:=by
  intro h0 B D z u h5
  obtain⟨e1,e2⟩:=jb2 t X Y b B D z u h5
  refine jU H T (x:=.bool (xor neg b)) ?_ (.pure _ _ (.bool _)) K
  simp only[execOp,ho,Sem.run_bind,O,hY,h0,Result.andThen_ok]
  cases neg
  ·simp only[Bool.false_eq_true,if_false,e1,Result.andThen_ok,Sem.run_pure,Bool.false_xor]
  ·simp only[if_true,e2,Result.andThen_ok,Sem.run_pure,Bool.true_xor]
 have g:=jua hk
 unfold eqV at p
 split at p <;> first|(cases p;done)|skip
 ·have:=XB c;subst this
  have:=XB j;subst this
  cases p
  exact l (jG _ _ _ _ _ _ zS zS) zS zS zS zS (ja g rfl rfl)
 ·have:=Xa c;subst this
  have:=Xa j;subst this
  cases p
  obtain⟨e,m,_⟩:=g
  exact l (jG _ _ _ _ _ _ zS zS) zS zS zS zS (ja m rfl rfl)
 ·obtain⟨_,_,_,rfl⟩:=YM c
  have:=Xa j;subst this
  cases p
  obtain⟨e,m,_⟩:=g
  exact l (jG _ _ _ _ _ _ zS zS) zS zS zS zS (ja m rfl rfl)
 ·have:=Xa c;subst this
  obtain⟨_,_,_,rfl⟩:=YM j
  cases p
  obtain⟨e,m,_⟩:=g
  exact l (jG _ _ _ _ _ _ zS zS) zS zS zS zS (ja m rfl rfl)
 ·obtain⟨_,_,rfl,_⟩:=QH c
  have:=Xa j;subst this
  cases p
  obtain⟨e,m,_⟩:=g
  exact l (jG _ _ _ _ _ _ zS zS) zS zS zS zS (ja m rfl rfl)
 ·have:=Xa c;subst this
  obtain⟨_,_,rfl,_⟩:=QH j
  cases p
  obtain⟨e,m,_⟩:=g
  exact l (jG _ _ _ _ _ _ zS zS) zS zS zS zS (ja m rfl rfl)
 ·obtain⟨e,m⟩:=g
  rcases Xq j with⟨rfl,_⟩|⟨_,_,_,_,h,_⟩
  ·rcases Xq c with⟨rfl,_,rfl,_⟩|⟨_,_,_,rfl,rfl,_⟩
   ·cases p
    exact l (jG _ _ _ _ _ _ zS zS) zS zS zS zS (ja m rfl rfl)
   ·cases p
    exact l (jG _ _ _ _ _ _ zS zS) zS zS zS zS (ja m rfl rfl)
  ·cases h
 ·have:=XJ c;subst this
  have:=XJ j;subst this
  cases p
  obtain⟨_,_,m⟩:=g
  exact l (jG _ _ _ _ _ _ zS zS) zS zS zS zS (ja m rfl rfl)
 ·obtain⟨_,_,_,rfl⟩:=WL c
  have:=XJ j;subst this
  cases p
  obtain⟨_,_,m⟩:=g
  exact l (jG _ _ _ _ _ _ zS zS) zS zS zS zS (ja m rfl rfl)
 ·have:=jaw c;subst this
  have:=jaw j;subst this
  cases p
  obtain⟨_,_,_,m⟩:=g
  exact l (jG _ _ _ _ _ _ zS zS) zS zS zS zS (ja m rfl rfl)
 ·obtain⟨_,_,rfl,_⟩:=jb7 c
  have:=jaw j;subst this
  cases p
  obtain⟨_,_,_,m⟩:=g
  exact l (jG _ _ _ _ _ _ zS zS) zS zS zS zS (ja m rfl rfl)
 ·have:=Yy c;subst this
  have:=Yy j;subst this
  cases p
  obtain⟨⟨ms,m⟩,q⟩:=g
  refine l ?_ zS zS zS zS (ja m rfl rfl)
  unfold eqGuard
  rcases q with⟨v,rfl⟩|⟨v,rfl⟩ <;> cases neg <;> simp
 ·obtain⟨_,rfl,_⟩:=jax c
  have:=Yy j;subst this
  cases p
  obtain⟨⟨_,m⟩,_⟩:=g
  exact l (jG _ _ _ _ _ _ zS zS) zS zS zS zS (ja m rfl rfl)
 ·have:=Yy c;subst this
  obtain⟨_,rfl,_⟩:=jax j
  cases p
  obtain⟨⟨_,m⟩,_⟩:=g
  exact l (jG _ _ _ _ _ _ zS zS) zS zS zS zS (ja m rfl rfl)
 ·obtain⟨hg,g⟩:=g
  obtain⟨M,rfl,B,_,D⟩:=Xy c
  obtain⟨L,rfl,z,_,u⟩:=Xy j
  refine l (run_eqGuard_agg (P:=P) w _ t x y M L hg) zS zS zS zS ?_
  rcases g with⟨⟨fs,m⟩,Z⟩|⟨n,e,k,m,G,S,rfl⟩
  rotate_left
  ·exact jrl (γ:=γ) (I:=I) 9998 m G S B z D u p
  refine jo1 (γ:=γ) (I:=I) 8 t _ 10000 _ _ _ _ b Z zO ?_ ?_ p
  ·unfold YR;rw[m];exact⟨M,rfl,B,D⟩
  ·unfold YR;rw[m];exact⟨L,rfl,z,u⟩
end
section
variable {P:Program}{E:Env}{w0 w:World}{I0:IMap}{nt:Nat}{γ:Nat→Option Place}{I:IMap}{st:St}{a:Act}{o:Oper}{ub:Nat}{δ:Delta}
theorem J1 {t:TypeId}{i:TypeInfo}{z:Value}(hi:P.info? t=some i) (b:i.zero=some z):(zeroValue t).run P w=.ok z w:=by
 simp[zeroValue,typeInfo,hi,b]
theorem leafOk {v:Value}{z:V}(b:jak v=some z):RepP I v z∧z.leaf=true:=by
 unfold jak at b
 split at b <;> simp only[Option.some.injEq,reduceCtorEq]at b <;> subst b
 ·exact⟨.bool _,rfl⟩
 ·exact⟨.int _ _,rfl⟩
 ·exact⟨.str _,rfl⟩
 ·exact⟨.nilptr,rfl⟩
 ·exact⟨.slnil,rfl⟩
 ·exact⟨.nilmap,rfl⟩
 ·exact⟨.nilfn,rfl⟩
 ·exact⟨.nilif,rfl⟩
theorem jng {cs:List Value}{l:List V}(h:cs.mapM jak=some l):l.length=cs.length∧∀ (j:Nat) (x:Value) (v:V),cs[j]? = some x→l[j]? = some v→v.leaf=true∧RepP I x v:=by
 obtain⟨c,e⟩:=ju h
 exact⟨c,fun j x v d f=>let ⟨a,b⟩:=leafOk (I:=I) (e j x v d f);⟨b,a⟩⟩
theorem Y7 {t:TypeId}{zs:List V}(h:Yo P t=some zs):∃i z,P.info? t=some i∧i.zero=some z∧zs.length=z.cells.size∧∀ (j:Nat) (x:Value) (v:V),z.cells[j]? = some x→zs[j]? = some v→v.leaf=true∧RepP I x v:=by
 unfold Yo at h
 obtain⟨i,f,e⟩:=bind_some h
 obtain⟨z,g,b⟩:=bind_some e
 obtain⟨l,d⟩:=jng (I:=I) b
 exact⟨i,z,f,g,by simpa using l,fun j x v c k=>d j x v (by simpa using c) k⟩
theorem jew {x:Value}{v:V}(h:Rep γ I x v) (d:v.cells.all V.leaf=true):x.cells.size=v.cells.length∧∀ (j:Nat) (y:Value) (u:V),x.cells[j]? = some y→v.cells[j]? = some u→u.leaf=true∧Rep γ I y u:=by
 have one:∀ {x:Value}{v:V},v.cells=[v]→x.cells = #[x]→v.leaf=true→Rep γ I x v→x.cells.size=v.cells.length∧∀ (j:Nat) (y:Value) (u:V),x.cells[j]? = some y→v.cells[j]? = some u→u.leaf=true∧Rep γ I y u:=by
  intro x v q m d h
  rw[q,m]
  refine⟨rfl,fun j y u e c=>?_⟩
  cases j with
  | zero=>simp at e c;subst e;subst c;exact⟨d,h⟩
  | succ j=>simp at c
 cases v with
 | agg cs=>
  obtain⟨B,rfl,i,p,g⟩:=Xy h
  exact⟨i,fun j y u e c=>⟨p j u c,g j y u e c⟩⟩
 | undef=>simp[V.cells,V.leaf]at d
 | tup G=>simp[V.cells,V.leaf]at d
 | bool b=>have:=XB h;subst this;exact one rfl rfl rfl h
 | int k n=>have:=jw h;subst this;exact one rfl rfl rfl h
 | str s=>obtain⟨H,rfl,_⟩:=X3 h;exact one rfl rfl rfl h
 | nilptr=>have:=Xa h;subst this;exact one rfl rfl rfl h
 | nilmap=>have:=XJ h;subst this;exact one rfl rfl rfl h
 | nilfn=>have:=jaw h;subst this;exact one rfl rfl rfl h
 | nilif=>have:=Yy h;subst this;exact one rfl rfl rfl h
 | sl t D n cs=>rcases Xq h with⟨rfl,_⟩|⟨_,_,_,rfl,_⟩ <;> exact one rfl rfl rfl h
 | eptr cs off=>obtain⟨_,_,rfl,_⟩:=QH h;exact one rfl rfl rfl h
 | ptr l u off=>obtain⟨_,_,_,rfl⟩:=YM h;exact one rfl rfl rfl h
 | osl l u off n F=>obtain⟨_,_,_,_,_,rfl,_⟩:=XZ h;exact one rfl rfl rfl h
 | map l u=>obtain⟨_,_,_,rfl⟩:=WL h;exact one rfl rfl rfl h
 | iter l u=>obtain⟨_,_,_,rfl⟩:=jcx h;exact one rfl rfl rfl h
 | yld l u=>obtain⟨_,_,_,rfl⟩:=jtv h;exact one rfl rfl rfl h
 | fn f r z=>obtain⟨_,_,rfl,_⟩:=jb7 h;exact one rfl rfl rfl h
 | iface t v=>obtain⟨_,rfl,_⟩:=jax h;exact one rfl rfl rfl h
theorem jwx (t:R E w0 I0 nt γ I st a w) (y:∀d,o.dst=some d→d<nt) (s:γ ub=none) {e:TypeId}{zs:List V}{d:Nat}(p:o.op=.alloc e) (u:Yo P e=some zs)
 (q:Jd d ub (.cells zs) (.ptr d ub 0)=some δ):X7 P E w0 I0 nt γ I st a w o ub δ:=by
 obtain⟨i,z,r,f,c,b⟩:=Y7 (I:=I) u
 refine YZ t y s (x:=.pointer (some ⟨w.heap.size,0,none⟩)) (obj:=.cells z.cells e) (k:=.n z.cells.size) ?_ rfl (fun m h=>.ptr _ _ _ _ _ h) ?_ q
 ·simp only[execOp,p,Instr.alloc,Sem.run_bind,J1 r f,Result.andThen_ok]
  simp[newVar,newRow]
 ·exact⟨z.cells,e,rfl,rfl,Nat.le_of_eq c,fun j x v g l=>⟨(b j x v g l).1,.pure _ _ (b j x v g l).2⟩⟩
theorem ok_box (f:R E w0 I0 nt γ I st a w) (g:∀d,o.dst=some d→d<nt) (r:γ ub=none) {e:TypeId}{x:Operand}{b:A}{n d:Nat}(m:o.op=.box e x) (j:opd x=some b)
 (c:(if (eval E st.tm b).cells.length=n∧(eval E st.tm b).cells.all V.leaf=true then Jd d ub (.cells (eval E st.tm b).cells) (.ptr d ub 0) else none)=some δ):X7 P E w0 I0 nt γ I st a w o ub δ:=by
 split at c
 ·rename_i h
  have p:=jA f j
  obtain⟨i,q⟩:=jew p h.2
  refine YZ f g r (x:=.pointer (some ⟨w.heap.size,0,none⟩)) (obj:=.cells (a.eval x).cells e) (k:=.n (a.eval x).cells.size) ?_ rfl (fun l h=>.ptr _ _ _ _ _ h) ?_ c
  ·simp[execOp,m,Instr.box,newVar,newRow]
  ·exact⟨_,e,rfl,rfl,Nat.le_of_eq i.symm,q⟩
 ·cases c
theorem XC (b off n:Nat):(⟨b,off,none⟩:Addr).add n=⟨b,off+n,none⟩:=by
 unfold Addr.add
 split
 ·rename_i h;subst h;rfl
 ·rfl
def jrn (g:Option Nat) (f:Nat→Value):Value :=
 match g with
 | some n=>.agg ((List.range n).map f).toArray
 | none=>f 0
theorem Qh {t:TypeId}{g:Option Nat}(k:jdp P t=some g) {b off:Nat}(f:Nat→Value) (n:Nat) (e:n=g.getD 1) (i:∀j,j<n→w.cell? ⟨b,off+j,none⟩=some (f j)) :
 (loadVar t ⟨b,off,none⟩).run P w=.ok (jrn g f) w:=by
 unfold jdp at k
 obtain⟨d,l,h⟩:=bind_some k
 unfold loadVar
 split at h
 ·rename_i c
  obtain⟨m,p,rfl⟩:=map_some h
  simp only[Option.getD_some]at e
  subst e
  simp only[Sem.run_bind,YH l,c,Result.andThen_ok,if_true,je p]
  rw[run_loadCells w ⟨b,off,none⟩ n f (fun j q=>by rw[XC];exact i j q)]
  rfl
 ·rename_i c
  cases h
  simp only[Option.getD_none]at e
  subst e
  have:=i 0 zO
  simp only[Nat.add_zero]at this
  simp only[Sem.run_bind,YH l,c,Result.andThen_ok,Bool.false_eq_true,if_false,run_load,this,jrn]
theorem jhh {I:IMap}{g:Option Nat}{cs:List V}{off:Nat}{v:V}(hp:XQ g cs off=some v) (f:Nat→Value)
 (d:∀ (j:Nat) (u:V),j<g.getD 1→cs[off+j]? = some u→u.leaf=true∧Rep γ I (f j) u) :
 (∀j,j<g.getD 1→off+j<cs.length)∧Rep γ I (jrn g f) v:=by
 unfold XQ at hp
 cases g with
 | none=>
  simp only at hp
  have h:=(List.getElem?_eq_some_iff.1 hp).1
  refine⟨fun j b=>?_,(d 0 v zS (by simpa using hp)).2⟩
  simp only[Option.getD_none]at b
  omega
 | some n=>
  simp only at hp
  split at hp
  ·rename_i i
   simp only[Option.some.injEq]at hp
   subst hp
   refine⟨fun j b=>by simp only[Option.getD_some]at b;omega,?_⟩
   refine .agg _ _ (by simp;omega) (fun j u c=>?_) (fun j x u e c=>?_)
   ·have b:j<n:=by
     have:=(List.getElem?_eq_some_iff.1 c).1
     simp only[List.length_take]at this
     omega
    rw[List.getElem?_take_of_lt b,List.getElem?_drop]at c
    exact(d j u b c).1
   ·have b:j<n:=by
     have:=(List.getElem?_eq_some_iff.1 c).1
     simp only[List.length_take]at this
     omega
    rw[List.getElem?_take_of_lt b,List.getElem?_drop]at c
    simp[b]at e
    subst e
    exact(d j u b c).2
  ·cases hp
theorem j1t (p:R E w0 I0 nt γ I st a w) (H:∀d,o.dst=some d→d<nt) {t:TypeId}{x:Operand}{J:A}{g:Option Nat}(K:o.op=.load t x) (hx:opd x=some J) (M:jdp P t=some g)
 (m:(match eval E st.tm J with
  | .eptr cs off=>(XQ g cs off).bind one
  | .ptr l u off=>(j0 st.ob l u).bind fun cs=>(XQ g cs off).bind one
  | _=>none)=some δ):X7 P E w0 I0 nt γ I st a w o ub δ:=by
 have r:=jA p hx
 split at m
 ·rename_i cs off D
  rw[D]at r
  obtain⟨b,G,h,N,Z,h2,X⟩:=QH r
  obtain⟨v,s,i⟩:=bind_some m
  obtain⟨y,B⟩:=jhh (γ:=γ) (I:=I) s (fun j=>N (off+j)) (fun j u n k=>by
   have:=h2 _ _ k
   refine⟨?_,.pure _ _ (X _ _ k)⟩
   cases u <;> first|rfl|(simp[V.pureLeaf]at this))
  refine jU p H ?_ B i
  simp only[execOp,K,h,Instr.loadAt,Instr.sureAddr,Sem.run_bind,Sem.run_pure,Result.andThen_ok]
  rw[Qh M (fun j=>N (off+j)) _ rfl (fun j n=>by
   rw[Nat.add_assoc];exact p.imm _ _ _ (Z _ (y j n)))]
  rfl
 ·rename_i l u off D
  rw[D]at r
  obtain⟨b,kb,k,h⟩:=YM r
  obtain⟨cs,c,m⟩:=bind_some m
  obtain⟨v,s,i⟩:=bind_some m
  unfold j0 at c
  split at c
  ·rename_i u' Q F
   split at c
   ·rename_i z
    cases c
    subst z
    obtain⟨Ω,q⟩:=p.own
    obtain⟨b',U,L,k2,k3,O,k5⟩:=q.ob l _ F
    rw[k]at L
    cases L
    obtain⟨arr,e,T,m2,m4,S⟩:=O
    have f:∀j,off+j<cs.length→arr[off+j]? = some (arr.getD (off+j) undef):=by
     intro j n
     have:off+j<arr.size:=zO
     simp[this]
    obtain⟨y,B⟩:=jhh (γ:=γ) (I:=I) s (fun j=>arr.getD (off+j) undef) (fun j u n k=>S _ _ _ (f j (List.getElem?_eq_some_iff.1 k).1) k)
    refine jU p H ?_ B i
    simp only[execOp,K,h,Instr.loadAt,Instr.sureAddr,Sem.run_bind,Sem.run_pure,Result.andThen_ok]
    rw[Qh M (fun j=>arr.getD (off+j) undef) _ rfl (fun j n=>by
     simp only[World.cell?,T,Option.isSome_none,Bool.false_eq_true,if_false]
     exact f j (y j n))]
    rfl
   ·cases c
  ·cases c
 ·cases m
end
section
variable {P:Program}{E:Env}{w0 w:World}{I0:IMap}{nt:Nat}{γ:Nat→Option Place}{I:IMap}{st:St}{a:Act}{o:Oper}{ub:Nat}{δ:Delta}
theorem jY {ob:ZO}{l u:Nat}{cs:List V}(h:j0 ob l u=some cs):ob l=some ⟨u,.cells cs⟩:=by
 unfold j0 at h
 split at h
 ·rename_i e c b
  split at h
  ·rename_i d;cases h;subst d;exact b
  ·cases h
 ·cases h
theorem Jx {ob:ZO}{l u:Nat}{es:List (V × V)}(h:jg ob l u=some es):ob l=some ⟨u,.mp (jl ob l) es⟩:=by
 unfold jg at h
 split at h
 ·rename_i f e c b
  unfold jl
  rw[b]
  simp only
  split at h
  ·rename_i d;cases h;subst d;rfl
  ·cases h
 ·cases h
theorem Wj (g:R E w0 I0 nt γ I st a w) {l u b:Nat}{k:Kd}{cs:List V}(h:st.ob l=some ⟨u,.cells cs⟩) (i:γ u=some (.obj b k)) :
 ∃arr e,w.heap[b]? = some (.cells arr e (0,0))∧arr.size=k.size∧cs.length≤k.size∧∀ (j:Nat) (x:Value) (v:V),arr[j]? = some x→cs[j]? = some v→v.leaf=true∧Rep γ I x v:=by
 obtain⟨n,c⟩:=g.own
 obtain⟨r,m,d,p,q,f,s⟩:=c.ob l _ h
 rw[i]at d
 cases d
 exact f
theorem WA (cs:List V) (off:Nat) (vs:List V) (h:off+vs.length≤cs.length):(j5 cs off vs).length=cs.length:=by
 simp only[j5,List.length_append,List.length_take,List.length_drop]
 omega
theorem jba (cs:List V) (off:Nat) (vs:List V) (h:off+vs.length≤cs.length) (j:Nat) :
 (j5 cs off vs)[j]? = if off≤j∧j<off+vs.length then vs[j - off]? else cs[j]?:=by
 simp only[j5]
 by_cases b:j<off
 ·rw[List.append_assoc,List.getElem?_append_left (by simp only[List.length_take];omega),List.getElem?_take_of_lt b,if_neg zO]
 ·by_cases c:j<off+vs.length
  ·rw[List.getElem?_append_left (by simp only[List.length_append,List.length_take];omega),List.getElem?_append_right (by simp only[List.length_take];omega),if_pos zO]
   congr 1
   simp only[List.length_take]
   omega
  ·rw[List.getElem?_append_right (by simp only[List.length_append,List.length_take];omega),if_neg zO,List.getElem?_drop]
   congr 1
   simp only[List.length_append,List.length_take]
   omega
theorem jwl (D:R E w0 I0 nt γ I st a w) (hd:∀d,o.dst=some d→d<nt) {t:TypeId}{x y:Operand}{Q f:A}{n:Nat}(ho:o.op=.store t x y) (c:opd x=some Q) (hy:opd y=some f) (hn:WU P t=some n)
 (g:(match eval E st.tm Q with
  | .ptr l u off=>(j0 st.ob l u).bind fun cs=>
   if Nat.ble st.ro u=true∧(eval E st.tm f).cells.length=n∧off+n≤cs.length∧(eval E st.tm f).cells.all V.leaf=true then
    some { v:=jq,obs:=[(l,⟨u,.cells (j5 cs off (eval E st.tm f).cells)⟩)] } else none
  | _=>none)=some δ):X7 P E w0 I0 nt γ I st a w o ub δ:=by
 have m:=jA D c
 have L:=jA D hy
 split at g
 ·rename_i l u off he
  rw[he]at m
  obtain⟨b,kb,T,H⟩:=YM m
  obtain⟨cs,N,g⟩:=bind_some g
  split at g
  ·rename_i hc
   obtain⟨G,S,h2,h3⟩:=hc
   have z:=jY N
   obtain⟨arr,e,O,m2,m4,X⟩:=Wj D z T
   obtain⟨c1,K⟩:=jew L h3
   generalize hV:(a.eval y).cells=vals at c1 K
   have q:∀v∈vals.toList,v.oneCell'=true:=by
    intro v i
    obtain⟨j,B,rfl⟩:=List.mem_iff_getElem.1 i
    have M:j<vals.size:=by simpa using B
    have s:(eval E st.tm f).cells[j]? = some ((eval E st.tm f).cells[j]' zO):=List.getElem?_eq_getElem _
    obtain⟨l1,Z⟩:=K j _ _ (Array.getElem?_eq_getElem M) s
    have:=Z.oneCell l1
    simpa using this
   have U:vals.toList.length=n:=by simp;omega
   have p:=run_storeCells_at P b off e vals.toList 0 arr w O (by simp only[Nat.add_zero];omega) q
   simp only[Nat.add_zero]at p
   refine Yq D hd z G (body':=.cells (j5 cs off (eval E st.tm f).cells)) (x:=undef) (v:=jq)
    (w':=w.setRow b (arr.toList.take off++vals.toList++arr.toList.drop (off+vals.toList.length)).toArray) (.inr ⟨?_,rfl⟩) (.tup _ _ rfl zS) (fun v es h=>by cases h) ?_ g
   ·have F:(storeVar t ⟨b,off,none⟩ (a.eval y)).run P w=.ok () (w.setRow b (arr.toList.take off++vals.toList++arr.toList.drop (off+vals.toList.length)).toArray):=by
     unfold storeVar
     rw[hV]
     have J:¬ (vals.size≠n):=zO
     simp only[Sem.run_bind,je hn,Result.andThen_ok,J,if_false,p]
    simp only[execOp,ho,H,Instr.storeAt,Instr.sureAddr,Sem.run_bind,Sem.run_pure,Result.andThen_ok,F]
   ·intro b' k' r a0
    rw[T]at r
    cases r
    refine⟨rfl,rfl,rfl,zS,fun k hk=>setRow_other w b k _ hk,?_⟩
    rw[setRow_heap w b arr _ e _ O]
    refine⟨_,e,rfl,?_,by rw[WA _ _ _ zO];exact m4,?_⟩
    ·simp only[List.size_toArray,List.length_append,List.length_take,List.length_drop,Array.length_toList]
     omega
    ·intro j x v c i
     rw[jba _ _ _ zO]at i
     simp only[List.getElem?_toArray]at c
     by_cases B:off≤j∧j<off+(eval E st.tm f).cells.length
     ·rw[if_pos B]at i
      rw[List.getElem?_append_left (by simp only[List.length_append,List.length_take,Array.length_toList];omega),List.getElem?_append_right (by simp only[List.length_take,Array.length_toList];omega)]at c
      have s:j - (List.take off arr.toList).length=j - off:=by simp only[List.length_take,Array.length_toList];omega
      rw[s]at c
      exact K (j - off) x v (by simpa using c) i
     ·rw[if_neg B]at i
      refine X j x v ?_ i
      by_cases S:j<off
      ·rw[List.append_assoc,List.getElem?_append_left (by simp only[List.length_take,Array.length_toList];omega),List.getElem?_take_of_lt S]at c
       simpa using c
      ·rw[List.getElem?_append_right (by simp only[List.length_append,List.length_take,Array.length_toList];omega),List.getElem?_drop]at c
       have s:off+vals.toList.length+(j - (List.take off arr.toList++vals.toList).length)=j:=by
        simp only[List.length_append,List.length_take,Array.length_toList]
        omega
       rw[s]at c
       simpa using c
  ·cases g
 ·cases g
theorem jlf (j:R E w0 I0 nt γ I st a w) (m:∀d,o.dst=some d→d<nt) {x:Operand}{n:A}(k:o.op=.nilCheck x) (p:opd x=some n)
 (h:(match eval E st.tm n with
  | .ptr l u o=>one (.ptr l u o)
  | .eptr cs o=>one (.eptr cs o)
  | .fn (.func f) a b=>one (.fn (.func f) a b)
  | _=>none)=some δ):X7 P E w0 I0 nt γ I st a w o ub δ:=by
 have g:=jA j p
 split at h
 ·rename_i i
  rw[i]at g
  have e:=g
  obtain⟨b,_,_,c⟩:=YM e
  exact jU j m (x:=a.eval x) (by simp only[execOp,k,c,Sem.run_pure]) g h
 ·rename_i i
  rw[i]at g
  have e:=g
  obtain⟨b,_,c,_⟩:=QH e
  exact jU j m (x:=a.eval x) (by simp only[execOp,k,c,Sem.run_pure]) g h
 ·rename_i i
  rw[i]at g
  have e:=g
  obtain⟨_,_,c,_⟩:=jb7 e
  exact jU j m (x:=a.eval x) (by simp only[execOp,k,c,Sem.run_pure]) g h
 ·cases h
theorem jc4 {X:Value}{v e:V}{n:Nat}(h:Rep γ I X v) (j:(∃l u o,v=.ptr l u o∧e=.ptr l u (o+n))∨∃cs o,v=.eptr cs o∧e=.eptr cs (o+n)) :
 ∃d,X=.pointer (some d)∧d.spot=none∧Rep γ I (.pointer (some (d.add n))) e:=by
 rcases j with⟨l,u,o,rfl,rfl⟩|⟨cs,o,rfl,rfl⟩
 ·obtain⟨b,p,m,rfl⟩:=YM h
  exact⟨_,rfl,rfl,by rw[XC];exact .ptr _ _ _ _ _ m⟩
 ·obtain⟨b,c,rfl,k,g,i,f⟩:=QH h
  exact⟨_,rfl,rfl,by rw[XC,Nat.add_assoc];exact .pure _ _ (.eptr b c (o+n) cs k g i f)⟩
theorem jjd (s:R E w0 I0 nt γ I st a w) (F:∀d,o.dst=some d→d<nt) {t:TypeId}{x:Operand}{v:A}{f:Nat}{g:Field}{n:Nat}(z:o.op=.fieldAddr t x f) (y:opd x=some v) (e:jbr P t f=some g)
 (G:WU P g.type=some n) (k:n≠0)
 (i:(match eval E st.tm v with
  | .ptr l u o=>one (.ptr l u (o+g.offset))
  | .eptr cs o=>one (.eptr cs (o+g.offset))
  | _=>none)=some δ):X7 P E w0 I0 nt γ I st a w o ub δ:=by
 have j:=jA s y
 have r:∃fs,P.underlying t=some (.struct fs)∧fs[f]? = some g:=by
  unfold jbr at e
  split at e
  ·exact⟨_,by assumption,e⟩
  ·cases e
 obtain⟨fs,r,B⟩:=r
 have go:∀ (h:Addr) (p:V),a.eval x=.pointer (some h)→Rep γ I (.pointer (some (h.add g.offset))) p→one p=some δ→X7 P E w0 I0 nt γ I st a w o ub δ:=by
  intro h p c b m
  refine jU s F ?_ b m
  simp only[execOp,z,c,Instr.fieldAt,Instr.sureAddr,Sem.run_bind,run_underlying r,Result.andThen_ok,B,Sem.run_pure,fieldPlace,je G,k,if_false,Sem.run_ite]
 split at i
 ·rename_i l u D q
  rw[q]at j
  obtain⟨h,c,_,b⟩:=jc4 (n:=g.offset) j (.inl ⟨_,_,_,rfl,rfl⟩)
  exact go h _ c b i
 ·rename_i cs D q
  rw[q]at j
  obtain⟨h,c,_,b⟩:=jc4 (n:=g.offset) j (.inr ⟨_,_,rfl,rfl⟩)
  exact go h _ c b i
 ·cases i
theorem jsj (s:R E w0 I0 nt γ I st a w) (H:∀d,o.dst=some d→d<nt) {t e:TypeId}{x i:Operand}{B D:A}{len n:Nat}(G:o.op=.indexAddr t x i) (F:opd x=some B) (hi:opd i=some D) (J:P.underlying t=some (.array len e))
 (K:WU P e=some n)
 (h:(match eval E st.tm B,eval E st.tm D with
  | .ptr l u off,.int _ i=>if 0≤i∧i<len then one (.ptr l u (off+i.toNat*n)) else none
  | .eptr cs off,.int _ i=>if 0≤i∧i<len then one (.eptr cs (off+i.toNat*n)) else none
  | _,_=>none)=some δ):X7 P E w0 I0 nt γ I st a w o ub δ:=by
 have r:=jA s F
 have g:=jA s hi
 have go:∀ (k:IntKind) (j:Int) (p:Addr) (y:V),a.eval x=.pointer (some p)→a.eval i=.int k j→0≤j∧j<len→Rep γ I (.pointer (some (p.add (j.toNat*n)))) y→one y=some δ→X7 P E w0 I0 nt γ I st a w o ub δ:=by
  intro k j p y c f q b v
  refine jU s H ?_ b v
  simp only[execOp,G,c,f,Instr.indexAt,Instr.sureAddr,asIntOf,Sem.run_bind,run_underlying J,Result.andThen_ok,Sem.run_pure,q,and_self,if_true,je K]
 split at h
 ·rename_i z m
  rw[z]at r
  rw[m]at g
  have f:=jw g
  split at h
  ·rename_i q
   obtain⟨p,c,_,b⟩:=jc4 (n:=_) r (.inl ⟨_,_,_,rfl,rfl⟩)
   exact go _ _ p _ c f q b h
  ·cases h
 ·rename_i z m
  rw[z]at r
  rw[m]at g
  have f:=jw g
  split at h
  ·rename_i q
   obtain⟨p,c,_,b⟩:=jc4 (n:=_) r (.inr ⟨_,_,rfl,rfl⟩)
   exact go _ _ p _ c f q b h
  ·cases h
 ·cases h
theorem jws (H:R E w0 I0 nt γ I st a w) (T:∀d,o.dst=some d→d<nt) {t e:TypeId}{x i:Operand}{N O:A}{n:Nat}(ho:o.op=.indexAddr t x i) (hx:opd x=some N) (hi:opd i=some O) (hu:P.underlying t=some (.slice e))
 (U:WU P e=some n) (D:n≠0)
 (r:(match eval E st.tm N,eval E st.tm O with
  | .sl _ _ m cs,.int _ i=>if 0≤i∧i<m∧cs.length=m*n then one (.eptr cs (i.toNat*n)) else none
  | .osl l u off m sz',.int _ i=>if 0≤i∧i<m∧sz'=n then one (.ptr l u (off+i.toNat*n)) else none
  | _,_=>none)=some δ):X7 P E w0 I0 nt γ I st a w o ub δ:=by
 have B:=jA H hx
 have p:=jA H hi
 have go:∀ (k:IntKind) (j:Int) (v:Addr) (m q:Nat) (F:V),a.eval x=.slice (some v) m q→a.eval i=.int k j→0≤j∧j<m→Rep γ I (.pointer (some (v.add (j.toNat*n)))) F→one F=some δ→X7 P E w0 I0 nt γ I st a w o ub δ:=by
  intro k j v m q F g f s z K
  refine jU H T ?_ z K
  simp only[execOp,ho,g,f,Instr.indexAt,asIntOf,Sem.run_bind,run_underlying hu,Result.andThen_ok,Sem.run_pure,s,and_self,if_true,je U]
 split at r
 ·rename_i M y
  rw[M]at B
  rw[y]at p
  have f:=jw p
  split at r
  ·rename_i t' nl m cs k j s
   rcases Xq B with⟨_,_,_,rfl,_⟩|⟨v,q,xs,g,_,S,_,_,Z,h2,X,_⟩
   ·omega
   ·have L:cs=[]∨v.spot=none:=by
     rcases cs with _|⟨c,cs⟩
     ·exact .inl rfl
     ·exact .inr (S zS)
    refine go _ _ v _ _ _ g f ⟨s.1,s.2.1⟩ ?_ r
    rcases L with rfl|hsp
    ·have h:=s.2.2
     simp only[List.length_nil]at h
     rcases Nat.mul_eq_zero.1 h.symm with h|h
     ·omega
     ·exact absurd h D
    ·obtain⟨b,o',sp⟩:=v
     simp only at hsp
     subst hsp
     rw[XC]
     exact .pure _ _ (.eptr b o' _ cs xs Z h2 X)
  ·cases r
 ·rename_i M y
  rw[M]at B
  rw[y]at p
  have f:=jw p
  split at r
  ·rename_i s
   obtain⟨b,kb,v,q,G,g,J,Q,_⟩:=XZ B
   have:=(J zO).1
   subst this
   refine go _ _ _ _ _ _ g f ⟨s.1,s.2.1⟩ ?_ r
   rw[XC]
   exact .ptr _ _ _ _ _ G
  ·cases r
 ·cases r
end
section
variable {P:Program}{E:Env}{w0 w:World}{I0:IMap}{nt:Nat}{γ:Nat→Option Place}{I:IMap}{st:St}{a:Act}{o:Oper}{ub:Nat}{δ:Delta}
theorem jb0 {t:TypeId}{g:Option Nat}{off:Nat}{xs:Array Value}{cs:List V}{v:V}(k:jdp P t=some g) (hp:XQ g cs off=some v) (s:xs.size=cs.length)
 (n:∀ (j:Nat) (u:V),cs[j]? = some u→u.leaf=true) (l:∀ (j:Nat) (y:Value) (u:V),xs[j]? = some y→cs[j]? = some u→Rep γ I y u) :
 ∃x,(part t xs off).run P w=.ok x w∧Rep γ I x v:=by
 unfold jdp at k
 obtain⟨d,c,i⟩:=bind_some k
 unfold part
 split at i
 ·rename_i b
  obtain⟨m,r,rfl⟩:=map_some i
  simp only[XQ]at hp
  split at hp
  ·rename_i q
   cases hp
   refine⟨.agg (xs.extract off (off+m)),by simp only[Sem.run_bind,YH c,b,Result.andThen_ok,if_true,je r,Sem.run_pure],?_⟩
   refine .agg _ _ (by simp only[Array.size_extract,List.length_take,List.length_drop];omega) (fun j u c=>?_) (fun j x u f c=>?_)
   ·have h:j<m:=by
     have:=(List.getElem?_eq_some_iff.1 c).1
     simp only[List.length_take]at this
     omega
    rw[List.getElem?_take_of_lt h,List.getElem?_drop]at c
    exact n _ _ c
   ·have h:j<m:=by
     have:=(List.getElem?_eq_some_iff.1 c).1
     simp only[List.length_take]at this
     omega
    rw[List.getElem?_take_of_lt h,List.getElem?_drop]at c
    simp only[Array.getElem?_extract]at f
    split at f
    ·exact l _ _ _ f c
    ·cases f
  ·cases hp
 ·rename_i b
  cases i
  simp only[XQ]at hp
  have p:=(List.getElem?_eq_some_iff.1 hp).1
  have e:off<xs.size:=zO
  exact⟨xs[off],by simp only[Sem.run_bind,YH c,b,Result.andThen_ok,Bool.false_eq_true,if_false,Array.getElem?_eq_getElem e,Sem.run_pure],l _ _ _ (Array.getElem?_eq_getElem e) hp⟩
theorem jwt (l:R E w0 I0 nt γ I st a w) (F:∀d,o.dst=some d→d<nt) {t:TypeId}{x:Operand}{m:A}{f:Nat}{e:Field}{g:Option Nat}(s:o.op=.field t x f) (r:opd x=some m) (b:jbr P t f=some e)
 (B:jdp P e.type=some g)
 (i:(match eval E st.tm m with
  | .agg cs=>(XQ g cs e.offset).bind one
  | _=>none)=some δ):X7 P E w0 I0 nt γ I st a w o ub δ:=by
 have n:=jA l r
 have k:∃fs,P.underlying t=some (.struct fs)∧fs[f]? = some e:=by
  unfold jbr at b
  split at b
  ·exact⟨_,by assumption,b⟩
  ·cases b
 obtain⟨fs,k,z⟩:=k
 split at i
 ·rename_i cs G
  rw[G]at n
  obtain⟨J,h,q,u,p⟩:=Xy n
  obtain⟨v,D,j⟩:=bind_some i
  obtain⟨y,H,c⟩:=jb0 (P:=P) (w:=w) (γ:=γ) (I:=I) B D q u p
  refine jU l F ?_ c j
  simp only[execOp,s,h,Instr.field,asAgg,Sem.run_bind,run_underlying k,Result.andThen_ok,z,Sem.run_pure,H]
 ·cases i
theorem jsh (p:R E w0 I0 nt γ I st a w) (D:∀d,o.dst=some d→d<nt) {t e:TypeId}{x i:Operand}{r s:A}{len n:Nat}{g:Option Nat}(L:o.op=.index t x i) (K:opd x=some r) (hi:opd i=some s) (Q:P.underlying t=some (.array len e))
 (F:WU P e=some n) (N:jdp P e=some g)
 (b:(match eval E st.tm r,eval E st.tm s with
  | .agg cs,.int _ i=>if 0≤i∧i<len then (XQ g cs (i.toNat*n)).bind one else none
  | _,_=>none)=some δ):X7 P E w0 I0 nt γ I st a w o ub δ:=by
 have u:=jA p K
 have f:=jA p hi
 split at b
 ·rename_i cs k j O h
  rw[O]at u
  rw[h]at f
  have l:=jw f
  obtain⟨S,m,J,M,H⟩:=Xy u
  split at b
  ·rename_i z
   obtain⟨v,B,q⟩:=bind_some b
   obtain⟨y,G,c⟩:=jb0 (P:=P) (w:=w) (γ:=γ) (I:=I) N B J M H
   refine jU p D ?_ c q
   simp only[execOp,L,m,l,Instr.index,asIntOf,Sem.run_bind,run_underlying Q,Result.andThen_ok,Sem.run_pure,z,and_self,if_true,je F,G]
  ·cases b
 ·cases b
theorem jsi (m:R E w0 I0 nt γ I st a w) (D:∀d,o.dst=some d→d<nt) {t:TypeId}{x i:Operand}{q r:A}(z:o.op=.index t x i) (y:opd x=some q) (hi:opd i=some r) (H:P.underlying t=some .string)
 (c:(match eval E st.tm q,eval E st.tm r with
  | .str s,.int _ i=>if 0≤i then (s[i.toNat]?).bind fun b=>one (.int .u8 b.toNat) else none
  | _,_=>none)=some δ):X7 P E w0 I0 nt γ I st a w o ub δ:=by
 have u:=jA m y
 have e:=jA m hi
 split at c
 ·rename_i s k j F l
  rw[F]at u
  rw[l]at e
  have p:=jw e
  obtain⟨h,g,rfl⟩:=X3 u
  split at c
  ·rename_i B
   obtain⟨b,v,n⟩:=bind_some c
   refine jU m D (x:=.int .u8 b.toNat) ?_ (.pure _ _ (.int _ _)) n
   have f:j.toNat<h.size:=by
    have:=(List.getElem?_eq_some_iff.1 v).1
    simpa using this
   have G:h[j.toNat]? = some b:=by
    have J:=(List.getElem?_eq_some_iff.1 v).2
    rw[getElem?_pos h j.toNat f]
    congr 1
   simp only[execOp,z,g,p,Instr.index,asIntOf,Sem.run_bind,run_underlying H,Result.andThen_ok,Sem.run_pure,B,if_true,G]
  ·cases c
 ·cases c
theorem jph (h:R E w0 I0 nt γ I st a w) (r:∀d,o.dst=some d→d<nt) {x:Operand}{k:A}{i:Nat}(p:o.op=.extract x i) (n:opd x=some k)
 (e:(match eval E st.tm k with
  | .tup l=>(l[i]?).bind one
  | _=>none)=some δ):X7 P E w0 I0 nt γ I st a w o ub δ:=by
 have m:=jA h n
 split at e
 ·rename_i l s
  rw[s]at m
  obtain⟨j,c,t,q⟩:=j20 m
  obtain⟨v,g,f⟩:=bind_some e
  have b:i<j.size:=by have:=(List.getElem?_eq_some_iff.1 g).1;omega
  refine jU h r (x:=j[i]) ?_ (q i _ _ (Array.getElem?_eq_getElem b) g) f
  simp only[execOp,p,c,Instr.extract,Array.getElem?_eq_getElem b,Sem.run_bind,Sem.run_pure,Result.andThen_ok]
 ·cases e
theorem WH (f:R E w0 I0 nt γ I st a w) {xs:Array Operand}{ys:List A}(h:opds xs=some ys):(xs.map a.eval).size=(ys.map (eval E st.tm)).length ∧
 ∀ (j:Nat) (x:Value) (v:V),(xs.map a.eval)[j]? = some x→(ys.map (eval E st.tm))[j]? = some v→Rep γ I x v:=by
 obtain⟨d,e⟩:=ju h
 refine⟨by simpa using d.symm,fun j x v b c=>?_⟩
 simp only[Array.getElem?_map,List.getElem?_map,Option.map_eq_some_iff]at b c
 obtain⟨p,g,rfl⟩:=b
 obtain⟨q,i,rfl⟩:=c
 exact jA f (e j p q (by simpa using g) i)
theorem j1s (e:R E w0 I0 nt γ I st a w) (h:∀d,o.dst=some d→d<nt) {f:Fn}{xs ys:Array Operand}{c b:List A}(l:o.op=.makeFunc f xs ys) (j:opds xs=some c) (p:opds ys=some b)
 (m:one (.fn f (c.map (eval E st.tm)) (b.map (eval E st.tm)))=some δ):X7 P E w0 I0 nt γ I st a w o ub δ:=by
 obtain⟨i,n⟩:=WH e j
 obtain⟨g,k⟩:=WH e p
 exact jU e h (x:=.func f (xs.map a.eval) (ys.map a.eval)) (by simp only[execOp,l,Instr.makeFunc,Sem.run_bind,Sem.run_pure,Result.andThen_ok]) (.fn _ _ _ _ _ i g n k) m
theorem jwr (e:R E w0 I0 nt γ I st a w) (f:∀d,o.dst=some d→d<nt) {t:TypeId}{x:Operand}{c:A}{d:TypeDesc}(h:o.op=.makeInterface t x) (g:opd x=some c) (j:P.underlying t=some d) (b:∀k,d≠.interface k)
 (i:one (.iface t (eval E st.tm c))=some δ):X7 P E w0 I0 nt γ I st a w o ub δ:=by
 refine jU e f (x:=.iface t (a.eval x)) ?_ (.iface _ _ _ (jA e g)) i
 simp only[execOp,h,Instr.makeInterface,Sem.run_bind,run_underlying j,Result.andThen_ok]
 cases d <;> first|rfl|(exact absurd rfl (b _))
theorem j1v (e:R E w0 I0 nt γ I st a w) (l:∀d,o.dst=some d→d<nt) {s t:TypeId}{x:Operand}{f:A}{k q:IntKind}(i:o.op=.convert s t x) (h:opd x=some f) (j:P.underlying s=some (.int q)) (p:P.underlying t=some (.int k))
 (c:(match eval E st.tm f with
  | .int _ n=>one (.int k (k.wrap n))
  | _=>none)=some δ):X7 P E w0 I0 nt γ I st a w o ub δ:=by
 have g:=jA e h
 split at c
 ·rename_i m
  rw[m]at g
  have b:=jw g
  refine jU e l (x:=.int k _) ?_ (.pure _ _ (.int _ _)) c
  simp only[execOp,i,b,convert,Sem.run_bind,run_underlying j,run_underlying p,Result.andThen_ok,Conv.intToInt,Sem.run_pure]
 ·cases c
theorem jsk (g:R E w0 I0 nt γ I st a w) (l:∀d,o.dst=some d→d<nt) {s t:TypeId}{x:Operand}{h:A}(j:o.op=.convert s t x) (i:opd x=some h) (k:P.underlying s=some .string) (n:P.underlying t=some .string)
 (c:(match eval E st.tm h with
  | .str s=>one (.str s)
  | _=>none)=some δ):X7 P E w0 I0 nt γ I st a w o ub δ:=by
 have f:=jA g i
 split at c
 ·rename_i m
  rw[m]at f
  have e:=f
  obtain⟨p,b,rfl⟩:=X3 f
  refine jU g l (x:=a.eval x) ?_ e c
  simp only[execOp,j,b,convert,Sem.run_bind,run_underlying k,run_underlying n,Result.andThen_ok,Sem.run_pure]
 ·cases c
theorem Yr {isS:Bool}{len cap c:Nat}{lo hi:Option Value}{e g:Option V}{l h:Nat}(d:Jt len cap e g=some (l,h)) (D:cap≤c)
 (s:∀v,e=some v→∃x,lo=some x∧Rep γ I x v) (p:e=none→lo=none) (u:∀v,g=some v→∃x,hi=some x∧Rep γ I x v) (q:g=none→hi=none) :
 (Instr.sliceBounds isS len c lo hi none).run P w=.ok (l,h,c) w∧l≤h∧(h≤cap∨h=len):=by
 unfold Jt at d
 obtain⟨i,f,d⟩:=bind_some d
 have j:((hi=none∧len=i)∨∃x,hi=some x∧∀b,(Instr.sliceBound x c b).run P w=.ok i w)∧(i≤cap∨i=len):=by
  cases g with
  | none=>
   simp only[Option.some.injEq]at f
   exact⟨.inl ⟨q rfl,f⟩,.inr f.symm⟩
  | some v=>
   obtain⟨x,rfl,t⟩:=u v rfl
   cases v with
   | int k n=>
    have:=jw t
    subst this
    simp only at f
    split at f
    ·rename_i r
     simp only[Option.some.injEq]at f
     subst f
     exact⟨.inr ⟨_,rfl,fun b=>run_sliceBound w k n c b r.1 zO⟩,.inl zO⟩
    ·cases f
   | _=>simp only[reduceCtorEq]at f
 have m:((lo=none∧l=0)∨∃x,lo=some x∧∀b,(Instr.sliceBound x i b).run P w=.ok l w)∧l≤i∧i=h:=by
  cases e with
  | none=>
   simp only[Option.some.injEq,Prod.mk.injEq]at d
   obtain⟨rfl,rfl⟩:=d
   exact⟨.inl ⟨p rfl,rfl⟩,Nat.zero_le _,rfl⟩
  | some v=>
   obtain⟨x,rfl,t⟩:=s v rfl
   cases v with
   | int k n=>
    have:=jw t
    subst this
    simp only at d
    split at d
    ·rename_i r
     simp only[Option.some.injEq,Prod.mk.injEq]at d
     obtain⟨rfl,rfl⟩:=d
     exact⟨.inr ⟨_,rfl,fun b=>run_sliceBound w k n i b r.1 r.2⟩,zO,rfl⟩
    ·cases d
   | _=>simp only[reduceCtorEq]at d
 obtain⟨B,z,rfl⟩:=m
 refine⟨?_,z,j.2⟩
 unfold Instr.sliceBounds
 rcases j.1 with⟨rfl,rfl⟩|⟨x,rfl,G⟩ <;> rcases B with⟨rfl,rfl⟩|⟨y,rfl,F⟩ <;> simp[*]
end
section
variable {P:Program}{E:Env}{w0 w:World}{I0:IMap}{nt:Nat}{γ:Nat→Option Place}{I:IMap}{st:St}{a:Act}{o:Oper}{ub:Nat}{δ:Delta}
theorem Xd (d:R E w0 I0 nt γ I st a w) {x:Option Operand}{c:Option A}(h:Yn x=some c) :
 (∀v,c.map (eval E st.tm)=some v→∃y,x.map a.eval=some y∧Rep γ I y v)∧(c.map (eval E st.tm)=none→x.map a.eval=none):=by
 unfold Yn at h
 cases x with
 | none=>cases h;exact⟨fun v b=>(by cases b),fun _=>rfl⟩
 | some x=>
  obtain⟨y,e,rfl⟩:=map_some h
  refine⟨fun v b=>?_,fun b=>(by cases b)⟩
  simp only[Option.map_some,Option.some.injEq]at b
  subst b
  exact⟨_,rfl,jA d e⟩
theorem jwm (g:R E w0 I0 nt γ I st a w) (F:∀d,o.dst=some d→d<nt) {t:TypeId}{x:Operand}{m:A}{lo hi:Option Operand}{lo' e:Option A}(v:o.op=.slice t x lo hi none) (u:opd x=some m) (q:Yn lo=some lo') (z:Yn hi=some e)
 (J:P.underlying t=some .string)
 (j:(match eval E st.tm m with
  | .str s=>(Jt s.length s.length (lo'.map (eval E st.tm)) (e.map (eval E st.tm))).bind fun(l,h)=>one (.str ((s.take h).drop l))
  | _=>none)=some δ):X7 P E w0 I0 nt γ I st a w o ub δ:=by
 have n:=jA g u
 split at j
 ·rename_i s H
  rw[H]at n
  obtain⟨c,i,rfl⟩:=X3 n
  obtain⟨⟨l,h⟩,p,k⟩:=bind_some j
  have f:c.data.toList.length=c.size:=zS
  rw[f]at p
  obtain⟨D,y⟩:=Xd g q
  obtain⟨r,G⟩:=Xd g z
  obtain⟨b,B,_⟩:=Yr (P:=P) (w:=w) (γ:=γ) (I:=I) (isS:=false) p zR D y r G
  refine jU g F (x:=.string (c.extract l h)) ?_ ?_ k
  ·simp only[execOp,v,i,Instr.sliceAt,Instr.slice,Sem.run_bind,run_underlying J,Result.andThen_ok,Option.map_none,Option.isSome_none,Bool.false_eq_true,if_false,b,Sem.run_pure]
  ·have:(c.data.toList.take h).drop l=(c.extract l h).data.toList:=by
    rw[ByteArray.data_extract]
    simp[List.drop_take]
   rw[this]
   exact .pure _ _ (.str _)
 ·cases j
theorem j0w {i:Addr}{n cap sz l h:Nat}{cs:List V}{xs:Nat→Value}(x:cs.length=n*sz) (y:cs≠[]→i.spot=none) (H:n≤cap) (F:cap≤maxLen)
 (hi:∀j,j<cs.length→I i.block (i.off+j)=some (xs j)) (z:∀ (j:Nat) (v:V),cs[j]? = some v→v.pureLeaf=true) (D:∀ (j:Nat) (v:V),cs[j]? = some v→RepP I (xs j) v)
 (B:l≤h) (u:h≤n):RepP I (.slice (some (if cap=l then i else i.add (l*sz))) (h - l) (cap - l)) (.sl none false (h - l) ((cs.take (h*sz)).drop (l*sz))):=by
 have s:((cs.take (h*sz)).drop (l*sz)).length=(h - l)*sz:=by
  have:h*sz≤n*sz:=Nat.mul_le_mul_right _ u
  simp only[List.length_drop,List.length_take,Nat.sub_mul]
  omega
 have g:∀ (j:Nat) (v:V),((cs.take (h*sz)).drop (l*sz))[j]? = some v→cs[l*sz+j]? = some v:=by
  intro j v f
  rw[List.getElem?_drop,List.getElem?_take]at f
  split at f
  ·exact f
  ·cases f
 -- where nothing lies behind,there is no cell
 have d:(cs.take (h*sz)).drop (l*sz)≠[]→cap≠l∧i.spot=none:=by
  intro d
  have c:0<((cs.take (h*sz)).drop (l*sz)).length:=List.length_pos_iff.2 d
  refine⟨fun e=>?_,y (fun e=>?_)⟩
  ·have m:h - l=0:=zO
   rw[s,m,Nat.zero_mul]at c
   omega
  ·rw[e]at c
   simp at c
 refine .sl _ _ _ _ (fun j=>xs (l*sz+j)) ?_ zO zO (fun j p=>?_) (fun j v f=>z _ _ (g j v f)) (fun j v f=>D _ _ (g j v f))
 ·intro t
  obtain⟨q,k⟩:=d t
  rw[if_neg q]
  unfold Addr.add
  split
  ·exact k
  ·rfl
 ·have t:(cs.take (h*sz)).drop (l*sz)≠[]:=by
   intro e
   rw[e]at p
   simp at p
  obtain⟨q,k⟩:=d t
  rw[if_neg q]
  obtain⟨b,off,J⟩:=i
  simp only at k
  subst k
  rw[XC]
  simp only at hi ⊢
  rw[Nat.add_assoc]
  have r:l*sz+j<cs.length:=by
   have:h*sz≤n*sz:=Nat.mul_le_mul_right _ u
   have G:l*sz≤h*sz:=Nat.mul_le_mul_right _ B
   simp only[List.length_drop,List.length_take]at p
   omega
  exact hi _ r
theorem jey {len:Nat}{lo hi:Option V}{l h:Nat}(b:Jt len len lo hi=some (l,h)):h≤len:=by
 unfold Jt at b
 obtain⟨d,c,b⟩:=bind_some b
 have e:d≤len:=by
  split at c
  ·split at c
   ·rename_i f;simp only[Option.some.injEq]at c;omega
   ·cases c
  ·cases c
  ·simp only[Option.some.injEq]at c;omega
 split at b
 ·split at b
  ·simp only[Option.some.injEq,Prod.mk.injEq]at b;omega
  ·cases b
 ·cases b
 ·simp only[Option.some.injEq,Prod.mk.injEq]at b;omega
theorem j1p (v:R E w0 I0 nt γ I st a w) (K:∀d,o.dst=some d→d<nt) {t e:TypeId}{x:Operand}{x':A}{lo hi:Option Operand}{lo' p:Option A}{n:Nat}(O:o.op=.slice t x lo hi none) (hx:opd x=some x') (hl:Yn lo=some lo') (hh:Yn hi=some p)
 (hu:P.underlying t=some (.slice e)) (M:WU P e=some n)
 (j:(match eval E st.tm x' with
  | .sl _ nl m cs=>if cs.length=m*n then (Jt m m (lo'.map (eval E st.tm)) (p.map (eval E st.tm))).bind fun(l,h)=>one (.sl none nl (h - l) ((cs.take (h*n)).drop (l*n))) else none
  | .osl q u off m r=>if r=n then (Jt m m (lo'.map (eval E st.tm)) (p.map (eval E st.tm))).bind fun(l,h)=>one (.osl q u (off+l*n) (h - l) n) else none
  | _=>none)=some δ):X7 P E w0 I0 nt γ I st a w o ub δ:=by
 have H:=jA v hx
 obtain⟨U,Q⟩:=Xd v hl
 obtain⟨J,Z⟩:=Xd v hh
 split at j
 ·rename_i tk nl m cs he
  rw[he]at H
  split at j
  ·rename_i D
   obtain⟨⟨l,h⟩,s,i⟩:=bind_some j
   have y:=jey s
   rcases Xq H with⟨g,_,rfl,rfl,rfl⟩|⟨z,f,xs,g,rfl,hs,G,hm,h1,h2,h3,_⟩
   ·obtain⟨c,k,_⟩:=Yr (P:=P) (w:=w) (γ:=γ) (I:=I) (isS:=true) s zR U Q J Z
    have L:h=0:=zO
    have X:l=0:=zO
    subst L;subst X
    refine jU v K (x:=.slice none 0 0) ?_ (by simpa using Rep.pure (γ:=γ) _ _ (RepP.slnil (I:=I))) i
    simp only[execOp,O,g,Instr.sliceAt,Instr.slice,Sem.run_bind,run_underlying hu,Result.andThen_ok,Option.map_none,c,je M,Sem.run_pure,if_true]
   ·obtain⟨c,k,_⟩:=Yr (P:=P) (w:=w) (γ:=γ) (I:=I) (isS:=true) s G U Q J Z
    refine jU v K (x:=.slice (some (if f=l then z else z.add (l*n))) (h - l) (f - l)) ?_ (.pure _ _ (j0w D hs G hm h1 h2 h3 k y)) i
    simp only[execOp,O,g,Instr.sliceAt,Instr.slice,Sem.run_bind,run_underlying hu,Result.andThen_ok,Option.map_none,c,je M,Sem.run_pure]
    split <;> rfl
  ·cases j
 ·rename_i q u off m r he
  rw[he]at H
  split at j
  ·rename_i S
   subst S
   obtain⟨⟨l,h⟩,s,i⟩:=bind_some j
   have y:=jey s
   obtain⟨b,kb,z,f,N,g,T,G,hm⟩:=XZ H
   obtain⟨c,k,_⟩:=Yr (P:=P) (w:=w) (γ:=γ) (I:=I) (isS:=true) s G U Q J Z
   refine jU v K (x:=.slice (some (if f=l then z else z.add (l*r))) (h - l) (f - l)) ?_ (.osl _ _ _ _ _ _ b kb _ N (fun a0=>?_) zO zO) i
   ·simp only[execOp,O,g,Instr.sliceAt,Instr.slice,Sem.run_bind,run_underlying hu,Result.andThen_ok,Option.map_none,c,je M,Sem.run_pure]
    split <;> rfl
   ·obtain⟨F,B⟩:=T zO
    subst F
    rw[if_neg zO,XC]
    refine⟨rfl,?_⟩
    rw[Nat.add_assoc,← Nat.add_mul,show l+(f - l)=f by omega]
    exact B
  ·cases j
 ·cases j
theorem jwn (j:R E w0 I0 nt γ I st a w) (H:∀d,o.dst=some d→d<nt) {t e:TypeId}{x:Operand}{v:A}{lo hi:Option Operand}{lo' f:Option A}{len n:Nat}(Q:o.op=.slice t x lo hi none) (O:opd x=some v) (L:Yn lo=some lo') (F:Yn hi=some f)
 (Z:P.underlying t=some (.array len e)) (B:len≤maxLen) (K:WU P e=some n)
 (c:(match eval E st.tm v with
  | .ptr q u off=>(j0 st.ob q u).bind fun cs=>if off+len*n≤cs.length then (Jt len len (lo'.map (eval E st.tm)) (f.map (eval E st.tm))).bind fun(l,h)=>one (.osl q u (off+l*n) (h - l) n) else none
  | _=>none)=some δ):X7 P E w0 I0 nt γ I st a w o ub δ:=by
 have z:=jA j O
 obtain⟨T,S⟩:=Xd j L
 obtain⟨D,U⟩:=Xd j F
 split at c
 ·rename_i q u off X
  rw[X]at z
  obtain⟨b,M,g,k⟩:=YM z
  obtain⟨cs,p,c⟩:=bind_some c
  split at c
  case isFalse=>cases c
  rename_i s
  obtain⟨_,_,_,_,J,_⟩:=Wj j (jY p) g
  obtain⟨⟨l,h⟩,y,m⟩:=bind_some c
  have N:=jey y
  obtain⟨i,G,_⟩:=Yr (P:=P) (w:=w) (γ:=γ) (I:=I) (isS:=false) y zR T S D U
  refine jU j H (x:=.slice (some (if len=l then ⟨b,off,none⟩ else (⟨b,off,none⟩:Addr).add (l*n))) (h - l) (len - l)) ?_ (.osl _ _ _ _ _ _ b M _ g (fun r=>?_) zO zO) m
  ·simp only[execOp,Q,k,Instr.sliceAt,Instr.sureAddr,Sem.run_bind,run_underlying Z,Result.andThen_ok,Option.map_none,i,je K,Sem.run_pure]
  ·rw[if_neg zO,XC]
   refine⟨rfl,?_⟩
   rw[Nat.add_assoc,← Nat.add_mul,show l+(len - l)=len by omega]
   omega
 ·cases c
theorem jsf (i:R E w0 I0 nt γ I st a w) (j:∀d,o.dst=some d→d<nt) {t:TypeId}{x:Operand}{f:A}{b:Array TypeId}(m:o.op=.call { callee:=.builtin .len,args:=#[x],argTypes:=b }) (k:opd x=some f) (n:b[0]? = some t) (p:P.underlying t=some .string)
 (e:(match eval E st.tm f with
  | .str s=>one (.int .i64 s.length)
  | _=>none)=some δ):X7 P E w0 I0 nt γ I st a w o ub δ:=by
 have g:=jA i k
 split at e
 ·rename_i l
  rw[l]at g
  obtain⟨h,c,rfl⟩:=X3 g
  refine jU i j (x:=.int .i64 h.size) ?_ (by simpa using Rep.pure (γ:=γ) (I:=I) _ _ (RepP.int .i64 (h.size:Int))) e
  simp only[execOp,m,resolve,Sem.run_bind,Sem.run_pure,Result.andThen_ok,invoke,builtin,List.map_toArray,List.map_cons,List.map_nil,c,Builtin.len_,n]
  simp[run_underlying p,goInt]
 ·cases e
theorem jwq (l:R E w0 I0 nt γ I st a w) (r:∀d,o.dst=some d→d<nt) {t e:TypeId}{x:Operand}{m:A}{g:Array TypeId}(q:o.op=.call { callee:=.builtin .len,args:=#[x],argTypes:=g }) (p:opd x=some m) (s:g[0]? = some t) (u:P.underlying t=some (.slice e))
 (f:(match eval E st.tm m with
  | .sl _ _ n _=>one (.int .i64 n)
  | .osl _ _ _ n _=>one (.int .i64 n)
  | _=>none)=some δ):X7 P E w0 I0 nt γ I st a w o ub δ:=by
 have h:=jA l p
 have go:∀ (i:Option Addr) (n c:Nat),a.eval x=.slice i n c→one (.int .i64 n)=some δ→X7 P E w0 I0 nt γ I st a w o ub δ:=by
  intro i n c b j
  refine jU l r (x:=.int .i64 n) ?_ (.pure _ _ (.int _ _)) j
  simp only[execOp,q,resolve,Sem.run_bind,Sem.run_pure,Result.andThen_ok,invoke,builtin,List.map_toArray,List.map_cons,List.map_nil,b,Builtin.len_,s]
  simp[run_underlying u,goInt]
 split at f
 ·rename_i k
  rw[k]at h
  rcases Xq h with⟨b,_,_,rfl,_⟩|⟨i,c,v,b,_⟩
  ·exact go _ _ _ b f
  ·exact go _ _ _ b f
 ·rename_i k
  rw[k]at h
  obtain⟨_,_,_,_,_,b,_⟩:=XZ h
  exact go _ _ _ b f
 ·cases f
theorem jsg (j:R E w0 I0 nt γ I st a w) (B:∀d,o.dst=some d→d<nt) {t k e:TypeId}{x:Operand}{D:A}{h:Array TypeId}(G:o.op=.call { callee:=.builtin .len,args:=#[x],argTypes:=h }) (N:opd x=some D) (F:h[0]? = some t) (J:P.underlying t=some (.map k e))
 (i:(match eval E st.tm D with
  | .nilmap=>one (.int .i64 0)
  | .map l u=>(jg st.ob l u).bind fun v=>one (.int .i64 v.length)
  | _=>none)=some δ):X7 P E w0 I0 nt γ I st a w o ub δ:=by
 have n:=jA j N
 split at i
 ·rename_i y
  rw[y]at n
  have f:=XJ n
  refine jU j B (x:=.int .i64 0) ?_ (.pure _ _ (.int _ _)) i
  simp only[execOp,G,resolve,Sem.run_bind,Sem.run_pure,Result.andThen_ok,invoke,builtin,List.map_toArray,List.map_cons,List.map_nil,f,Builtin.len_,F]
  simp[run_underlying J,goInt]
 ·rename_i y
  rw[y]at n
  obtain⟨b,T,p,f⟩:=WL n
  obtain⟨v,r,s⟩:=bind_some i
  have z:=Jx r
  obtain⟨U,g⟩:=j.own
  obtain⟨Z,L,H,Q,X,K,k5⟩:=g.ob _ _ z
  rw[p]at H
  cases H
  obtain⟨m,c,M,q,S⟩:=K
  have q:m.size=v.length:=by rw[← q.1,Array.length_toList]
  refine jU j B (x:=.int .i64 m.size) ?_ (by rw[q];exact .pure _ _ (.int _ _)) s
  have O:(getObj b).run P w=.ok (.map m c) w:=by simp[getObj,Sem.run,M]
  simp only[execOp,G,resolve,Sem.run_bind,Sem.run_pure,Result.andThen_ok,invoke,builtin,List.map_toArray,List.map_cons,List.map_nil,f,Builtin.len_,F]
  simp[run_underlying J,goInt,O]
 ·cases i
end
section
variable {P:Program}{E:Env}{w0 w:World}{I0:IMap}{nt:Nat}{γ:Nat→Option Place}{I:IMap}{st:St}{a:Act}{o:Oper}{ub:Nat}{δ:Delta}
def joc (γ:Nat→Option Place) (I:IMap) (xs:Array Value) (cs:List V):Prop :=
 xs.size=cs.length∧∀ (j:Nat) (x:Value) (v:V),xs[j]? = some x→cs[j]? = some v→v.leaf=true∧Rep γ I x v
theorem jj0 (off:Nat):∀ (vs:List Value) (k:Nat) (cells:Array Value),off+k+vs.length≤cells.size →
 ((vs.zipIdx k).foldl (fun cs (c:Value × Nat)=>cs.setIfInBounds (off+c.2) c.1) cells).size=cells.size ∧
 ∀j,((vs.zipIdx k).foldl (fun cs (c:Value × Nat)=>cs.setIfInBounds (off+c.2) c.1) cells)[j]? = if off+k≤j∧j<off+k+vs.length then vs[j - (off+k)]? else cells[j]?
 | [],k,cells,_=>by
  simp only[List.zipIdx_nil,List.foldl_nil,List.length_nil,Nat.add_zero]
  refine⟨trivial,fun j=>?_⟩
  rw[if_neg zO]
 | v::vs,k,cells,h=>by
  simp only[List.length_cons]at h
  simp only[List.zipIdx_cons,List.foldl_cons]
  obtain⟨f,g⟩:=jj0 off vs (k+1) (cells.setIfInBounds (off+k) v) (by simp only[Array.size_setIfInBounds];omega)
  refine⟨by rw[f];simp,fun j=>?_⟩
  rw[g j]
  simp only[List.length_cons]
  by_cases d:j=off+k
  ·subst d
   rw[if_neg zO,if_pos zO]
   have:off+k<cells.size:=zO
   simp[this]
  ·by_cases b:off+(k+1)≤j∧j<off+(k+1)+vs.length
   ·rw[if_pos b,if_pos zO]
    have:j - (off+k)=(j - (off+(k+1)))+1:=zO
    rw[this,List.getElem?_cons_succ]
   ·rw[if_neg b,if_neg zO,Array.getElem?_setIfInBounds_ne (fun e=>d e.symm)]
theorem jcz (t:R E w0 I0 nt γ I st a w) {d:Nat→Option (Nat × Nat)}:∀ {ps:List (Nat × Operand)}{l:List (Nat × Nat × A)}{cells:Array Value}{cs e:List V},
 ps.mapM (fun(p:Nat × Operand)=>(d p.1).bind fun q=>(opd p.2).map fun a=>(q.1,q.2,a))=some l→joc γ I cells cs→fill cs (jx (eval E st.tm) l)=some e →
 ∃b,Instr.fill d cells (ps.map fun p=>(p.1,a.eval p.2))=some b∧joc γ I b e
 | [],l,cells,cs,e,h,hr,hf=>by
  simp at h
  subst h
  simp only[jx,List.map_nil,fill,Option.some.injEq]at hf
  subst hf
  exact⟨cells,rfl,hr⟩
 | p::ps,l,cells,cs,e,h,hr,hf=>by
  simp only[List.mapM_cons]at h
  cases i:d p.1 with
  | none=>simp[i]at h
  | some q=>
   cases k:opd p.2 with
   | none=>simp[i,k]at h
   | some y=>
    cases r:ps.mapM (fun(p:Nat × Operand)=>(d p.1).bind fun q=>(opd p.2).map fun a=>(q.1,q.2,a)) with
    | none=>simp[i,k,r]at h
    | some M=>
     simp[i,k,r]at h
     subst h
     simp only[jx,List.map_cons,fill]at hf
     split at hf
     ·rename_i z
      obtain⟨L,K,H⟩:=z
      obtain⟨J,F⟩:=jew (jA t k) H
      have m:(a.eval p.2).cells.size=q.2:=zO
      obtain⟨G,D⟩:=jj0 q.1 (a.eval p.2).cells.toList 0 cells (by have:=hr.1;simp only[Nat.add_zero,Array.length_toList];omega)
      have n:joc γ I ((a.eval p.2).cells.zipIdx.foldl (fun cs (c:Value × Nat)=>cs.setIfInBounds (q.1+c.2) c.1) cells) (j5 cs q.1 (eval E st.tm y).cells):=by
       rw[← Array.foldl_toList,Array.toList_zipIdx]
       refine⟨by rw[G,WA _ _ _ zO];exact hr.1,fun j x v f g=>?_⟩
       rw[D j]at f
       rw[jba _ _ _ zO]at g
       simp only[Nat.add_zero,Array.length_toList]at f
       by_cases s:q.1≤j∧j<q.1+(eval E st.tm y).cells.length
       ·rw[if_pos zO]at f
        rw[if_pos s]at g
        exact F _ x v (by simpa using f) g
       ·rw[if_neg zO]at f
        rw[if_neg s]at g
        exact hr.2 j x v f g
      obtain⟨b,u,B⟩:=jcz t r n hf
      refine⟨b,?_,B⟩
      simp only[List.map_cons,Instr.fill,i]
      rw[if_neg]
      ·exact u
      ·have:=hr.1
       simp only[m,ne_eq,not_true_eq_false,decide_false,Bool.false_or,decide_eq_true_eq,gt_iff_lt]
       omega
     ·cases hf
theorem WP {b:Nat→Option (Nat × Nat)}{ps:Array (Nat × Operand)}{l:List (Nat × Nat × A)}(h:YQ b ps=some l) :
 ps.toList.mapM (fun(p:Nat × Operand)=>(b p.1).bind fun q=>(opd p.2).map fun a=>(q.1,q.2,a))=some l:=h
theorem jm8 (M:R E w0 I0 nt γ I st a w) (Q:∀d,o.dst=some d→d<nt) {t:TypeId}{ps:Array (Nat × Operand)}{l:List (Nat × Nat × A)}{zs:List V}{g:Nat→Option (Nat × Nat)}(U:o.op=.build t ps) (O:Yo P t=some zs)
 (y:(∃fs c,P.underlying t=some (.struct fs)∧fs.toList.mapM (fun f=>(P.info? f.type).map fun i=>(f.offset,i.size))=some c∧g=(c.toArray[·]?)) ∨
  (∃n e s,P.underlying t=some (.array n e)∧WU P e=some s∧g=fun i=>some (i*s,s)))
 (T:YQ g ps=some l) (N:((fill zs (jx (eval E st.tm) l)).bind fun cs=>one (.agg cs))=some δ):X7 P E w0 I0 nt γ I st a w o ub δ:=by
 obtain⟨cs,G,F⟩:=bind_some N
 obtain⟨i,z,J,m,q,h⟩:=Y7 (I:=I) O
 obtain⟨b,L,u⟩:=jcz M (WP T) ⟨q.symm,fun j x v r k=>⟨(h j x v r k).1,.pure _ _ (h j x v r k).2⟩⟩ G
 have S:P.built t (ps.map fun(p:Nat × Operand)=>(p.1,a.eval p.2)).toList=some b:=by
  unfold Program.built
  rcases y with⟨fs,c,H,X,rfl⟩|⟨n,e,s,H,K,rfl⟩
  ·simp only[J,H,m,X,Array.toList_map]
   exact L
  ·unfold WU at K
   obtain⟨Z,B,rfl⟩:=map_some K
   simp only[J,H,m,B,Array.toList_map]
   exact L
 refine jU M Q (x:=.agg b) ?_ (.agg _ _ u.1 (fun j v k=>?_) (fun j x v r k=>(u.2 j x v r k).2)) F
 ·simp only[execOp,U,Sem.run_bind,run_build w t _ b S,Result.andThen_ok,Sem.run_pure]
 ·have D:j<b.size:=by have:=(List.getElem?_eq_some_iff.1 k).1;have:=u.1;omega
  exact(u.2 j _ v (Array.getElem?_eq_getElem D) k).1
theorem jdd (v:V):v.strip1.leaf=v.leaf:=by cases v <;> rfl
theorem Yd {x:Value}{v:V}(h:Rep γ I x v) (hp:v.strip1.pureLeaf=true):RepP I x v.strip1:=by
 cases v with
 | sl t u n cs=>
  rcases Xq h with⟨rfl,rfl,rfl,rfl,rfl⟩|⟨r,q,s,rfl,rfl,g,l,e,p,k,i,_⟩
  ·exact .slnil
  ·exact .sl _ _ _ _ _ g l e p k i
 | iface t v=>
  cases h with
  | pure _ _ h=>exact h
  | iface _ x _ d=>
   refine .iface _ _ _ ?_
   cases v with
   | agg cs=>
    cases cs with
    | nil=>
     cases d with
     | pure _ _ h=>exact h
     | agg _ _ b f d=>exact .agg _ _ b f (fun j x v _ m=>by simp at m)
    | cons c cs=>simp[V.strip1,V.pureLeaf]at hp
   | _=>simp[V.strip1,V.pureLeaf]at hp <;> (cases d;assumption)
 | _=>first|(cases h <;> assumption)|(exfalso;revert hp;simp[V.strip1,V.pureLeaf];done)
theorem jct {z:Value}{zs:List V}(c:zs.length=z.cells.size) (p:∀ (j:Nat) (x:Value) (v:V),z.cells[j]? = some x→zs[j]? = some v→v.leaf=true∧RepP I x v) (n:Nat) (B:n*zs.length=0∨0<zs.length) :
 joc γ I ((Array.range (n*zs.length)).map (z.cells[· % z.cells.size]!)) (QV n zs):=by
 refine⟨by simp[QV],fun j x v l m=>?_⟩
 simp only[QV,List.getElem?_map,Option.map_eq_some_iff]at m
 obtain⟨b,e,rfl⟩:=m
 have d:j<n*zs.length:=by have:=(List.getElem?_eq_some_iff.1 e).1;simpa using this
 have k:b=j:=by
  rw[List.getElem?_range d]at e
  exact(Option.some.inj e).symm
 subst k
 have f:0<zs.length:=by rcases B with h|h <;> omega
 have i:b % zs.length<zs.length:=Nat.mod_lt _ f
 have g:b % z.cells.size<z.cells.size:=by rw[← c];exact i
 have t:x=z.cells[b % z.cells.size]:=by
  simp[d]at l
  rw[← l]
  simp[g]
 have s:zs.getD (b % zs.length) .undef=zs[b % zs.length]:=by simp[List.getD,i]
 rw[s,t]
 have u:zs[b % zs.length]? = some zs[b % zs.length]:=List.getElem?_eq_getElem i
 have r:z.cells[b % zs.length]? = some z.cells[b % z.cells.size]:=by
  have:b % zs.length=b % z.cells.size:=by rw[c]
  rw[this]
  exact Array.getElem?_eq_getElem g
 obtain⟨y,q⟩:=p _ _ _ r u
 exact⟨y,.pure _ _ q⟩
theorem jpi (O:R E w0 I0 nt γ I st a w) (hd:∀d,o.dst=some d→d<nt) (hf:γ ub=none) {t e:TypeId}{ps:Array (Nat × Operand)}{l:List (Nat × Nat × A)}{zs:List V}{n s:Nat}(ho:o.op=.buildSlice t n ps)
 (hu:P.underlying t=some (.slice e)) (J:WU P e=some s) (hz:Yo P e=some zs) (S:zs.length=s) (B:0<s) (a0:n*s≤16777216) (hl:YQ (fun i=>some (i*s,s)) ps=some l)
 (ha:((fill (QV n zs) (jx (eval E st.tm) l)).bind fun cs=>
  if cs.length=n*s∧(cs.map V.strip1).all V.pureLeaf=true then some { v:=V.sl (some (ub,s)) false n (cs.map V.strip1),add:=[ub] } else none)=some δ):X7 P E w0 I0 nt γ I st a w o ub δ:=by
 obtain⟨cs,Q,q⟩:=bind_some ha
 split at q
 ·rename_i M
  obtain⟨i,z,U,K,G,g⟩:=Y7 (I:=I) hz
  subst S
  obtain⟨c,h1,N⟩:=jcz O (WP hl) (jct (γ:=γ) (I:=I) G g n (.inr B)) Q
  have H:n≤maxLen:=by
   have:n≤n*zs.length:=Nat.le_mul_of_pos_right n B
   simp only[maxLen];omega
  refine jmi O hd hf (b:=w.heap.size) (n:=n) (cap:=n) (sz:=zs.length) (cs:=cs.map V.strip1) (w':=w.alloc (.cells c e)) (del:=none) (arr:=c) (e:=e)
   ?_ (.inl ⟨rfl,zS⟩) ⟨rfl,rfl,rfl⟩ (fun k hk _=>heap_alloc_old _ _ _ hk) (heap_alloc_new _ _) (by rw[N.1,M.1]) zR H ?_ (by simpa using M.1) ?_ q
  ·have b0:i.size=zs.length:=by unfold WU at J;rw[U]at J;exact Option.some.inj J
   have y:¬ (n*zs.length > 16777216):=zO
   have m:Instr.fill (fun i=>some (i*zs.length,zs.length)) ((Array.range (n*zs.length)).map (z.cells[· % z.cells.size]!)) ((ps.map fun(p:Nat × Operand)=>(p.1,a.eval p.2)).toList)=some c:=by
    rw[Array.toList_map];exact h1
   have F:(Instr.buildSlice t n (ps.map fun(p:Nat × Operand)=>(p.1,a.eval p.2))).run P w=.ok (.slice (some ⟨w.heap.size,0,none⟩) n n) (w.alloc (.cells c e)):=by
    unfold Instr.buildSlice
    simp only[Sem.run_bind,run_underlying hu,Result.andThen_ok,je J,Nat.reducePow,y,if_false]
    by_cases Z:n*zs.length=0
    ·have L:n=0:=by rcases Nat.mul_eq_zero.1 Z with h|h <;> omega
     subst L
     have T:∀f:Nat→Value,(Array.range 0).map f = #[]:=fun f=>by simp[Array.range]
     simp only[Nat.zero_mul,T]at m
     simp only[Nat.zero_mul,if_true,T,m]
     simp[newRow]
    ·simp only[Z,if_false,Sem.run_bind,J1 U K,Result.andThen_ok,Sem.run_pure,m]
     simp[newRow]
   simp only[execOp,ho,Sem.run_bind,F,Result.andThen_ok,Sem.run_pure]
  ·intro j x hx
   exact absurd (World.block_lt_of_cell? _ _ (O.imm _ _ _ hx)) (Nat.lt_irrefl _)
  ·intro j v X
   simp only[List.getElem?_map,Option.map_eq_some_iff]at X
   obtain⟨u,r,rfl⟩:=X
   have hp:u.strip1.pureLeaf=true:=List.all_eq_true.1 M.2 _ (List.mem_map.2 ⟨u,List.mem_of_getElem? r,rfl⟩)
   have D:j<c.size:=by have:=(List.getElem?_eq_some_iff.1 r).1;have:=N.1;omega
   have:=(N.2 j _ u (Array.getElem?_eq_getElem D) r).2
   exact⟨hp,_,Array.getElem?_eq_getElem D,Yd this hp⟩
 ·cases q
end
section
variable {P:Program}{E:Env}{w0 w:World}{I0:IMap}{nt:Nat}{γ:Nat→Option Place}{I:IMap}{st:St}{a:Act}{o:Oper}{ub:Nat}{δ:Delta}
theorem Xf {v:V}(h:v.pureLeaf=true):v.strip1=v:=by
 cases v <;> first|rfl|skip
 rename_i t b n cs
 cases t with
 | none=>rfl
 | some u=>simp[V.pureLeaf]at h
theorem RepP.oneCell {x:Value}{v:V}(h:RepP I x v) (b:v.pureLeaf=true):x.oneCell'=true :=
 (Rep.pure (γ:=fun _=>none) x v h).oneCell (by cases v <;> first|rfl|(simp[V.pureLeaf]at b))
theorem jgy (Z:R E w0 I0 nt γ I st a w) {X:Value}{vx:V}{sz:Nat}{ys:List V}(hr:Rep γ I X vx) (p:jI st.ob sz vx=some ys) (hp:ys.all V.leaf=true) (a0:0<sz) :
 (X=.slice none 0 0∧ys=[])∨∃ (i:Addr) (m c:Nat) (d:List Value),X=.slice (some i) m c∧m≤c∧ys.length=m*sz∧d.length=ys.length∧(∀ (j:Nat) (u:Value),d[j]? = some u→w.cell? (i.add j)=some u) ∧
  (∀ (j:Nat) (x:Value) (v:V),d[j]? = some x→ys[j]? = some v→Rep γ I x v)∧(∀u∈d,u.oneCell'=true):=by
 have G:∀ (i:Addr) (m c:Nat) (f:Nat→Value),X=.slice (some i) m c→m≤c→ys.length=m*sz→(∀j,j<ys.length→w.cell? (i.add j)=some (f j))→(∀ (j:Nat) (v:V),ys[j]? = some v→Rep γ I (f j) v) →
  ∃ (i:Addr) (m c:Nat) (d:List Value),X=.slice (some i) m c∧m≤c∧ys.length=m*sz∧d.length=ys.length∧(∀ (j:Nat) (u:Value),d[j]? = some u→w.cell? (i.add j)=some u) ∧
  (∀ (j:Nat) (x:Value) (v:V),d[j]? = some x→ys[j]? = some v→Rep γ I x v)∧(∀u∈d,u.oneCell'=true):=by
  intro i m c f K N U H L
  have s:∀ (j:Nat) (u:Value),((List.range ys.length).map f)[j]? = some u→j<ys.length∧u=f j:=by
   intro j u y
   simp only[List.getElem?_map,Option.map_eq_some_iff]at y
   obtain⟨k,S,rfl⟩:=y
   have g:j<ys.length:=by have:=(List.getElem?_eq_some_iff.1 S).1;simpa using this
   rw[List.getElem?_range g]at S
   cases S
   exact⟨g,rfl⟩
  refine⟨i,m,c,(List.range ys.length).map f,K,N,U,zS,fun j u y=>?_,fun j x v J r=>?_,fun u y=>?_⟩
  ·obtain⟨g,rfl⟩:=s j u y;exact H j g
  ·obtain⟨g,rfl⟩:=s j x J;exact L j v r
  ·obtain⟨j,g,rfl⟩:=List.mem_map.1 y
   have O:j<ys.length:=by simpa using g
   have r:ys[j]? = some ys[j]:=List.getElem?_eq_getElem O
   exact(L j _ r).oneCell (List.all_eq_true.1 hp _ (List.mem_of_getElem? r))
 unfold jI at p
 split at p
 ·rename_i t nl n cs
  split at p
  ·rename_i q
   cases p
   rcases Xq hr with⟨rfl,_,_,_,rfl⟩|⟨i,B,xs,rfl,_,K,N,U,H,L,h6,_⟩
   ·exact .inl ⟨rfl,rfl⟩
   ·refine .inr (G i n B xs rfl N q (fun j g=>?_) (fun j v r=>.pure _ _ (h6 j v r)))
    have F:=K (fun e=>by rw[e]at g;simp at g)
    obtain⟨b,off,sp⟩:=i
    simp only at F
    subst F
    rw[XC]
    exact Z.imm _ _ _ (H j g)
  ·cases p
 ·rename_i l u off n D
  split at p
  ·rename_i M
   subst M
   obtain⟨cs,T,p⟩:=bind_some p
   split at p
   ·rename_i b0
    cases p
    obtain⟨b,kb,i,B,y,rfl,Q,hc,hm⟩:=XZ hr
    obtain⟨arr,e,m1,m2,m4,m3⟩:=Wj Z (jY T) y
    have q:((cs.drop off).take (n*D)).length=n*D:=by simp only[List.length_take,List.length_drop];omega
    refine .inr (G i n B (fun j=>arr.getD (off+j) undef) rfl hc q (fun j g=>?_) (fun j v r=>?_))
    ·have hn:0<n:=by
      rcases Nat.eq_zero_or_pos n with h|h
      ·subst h;simp at g
      ·exact h
     have:=(Q zO).1
     subst this
     rw[XC]
     have z:off+j<arr.size:=zO
     simp[World.cell?,m1,z]
    ·have g:j<n*D:=by have:=(List.getElem?_eq_some_iff.1 r).1;omega
     have z:off+j<arr.size:=zO
     rw[List.getElem?_take_of_lt g,List.getElem?_drop]at r
     have J:arr[off+j]? = some (arr.getD (off+j) undef):=by simp[z]
     exact(m3 _ _ _ J r).2
   ·cases p
  ·cases p
 ·cases p
theorem jag {v:V}(h:v.pureLeaf=true):v.leaf=true:=by
 cases v <;> first|rfl|(simp[V.pureLeaf]at h)
theorem jzb (s:R E w0 I0 nt γ I st a w) {X:Value}{i:V}{sz:Nat}{ys:List V}(B:Rep γ I X i) (y:jI st.ob sz i=some ys) (hp:ys.all V.pureLeaf=true) (g:0<sz) :
 (X=.slice none 0 0∧ys=[])∨∃ (e:Addr) (m c:Nat) (b:List Value),X=.slice (some e) m c∧m≤c∧ys.length=m*sz∧b.length=ys.length∧(∀ (j:Nat) (u:Value),b[j]? = some u→w.cell? (e.add j)=some u) ∧
  (∀ (j:Nat) (x:Value) (v:V),b[j]? = some x→ys[j]? = some v→RepP I x v)∧(∀u∈b,u.oneCell'=true):=by
 rcases jgy s B y (List.all_eq_true.2 fun v f=>jag (List.all_eq_true.1 hp v f)) g with h|⟨e,m,c,b,l,r,k,t,q,p,z⟩
 ·exact .inl h
 ·refine .inr ⟨e,m,c,b,l,r,k,t,q,fun j x v n f=>?_,z⟩
  have d:=List.all_eq_true.1 hp v (List.mem_of_getElem? f)
  have:=Yd (p j x v n f) (by rw[Xf d];exact d)
  rwa [Xf d]at this
theorem WR (t ty e r:TypeId) (i:TypeInfo) (z:P.underlying t=some (.slice e)) (hi:P.info? e=some i)
 (g d f:Nat) (h:Array Value) (y:w.heap[g]? = some (.cells h r (0,0)))
 (q:Addr) (m c:Nat) (b:List Value) (s:b.length=m*i.size) (l:∀ (j:Nat) (u:Value),b[j]? = some u→w.cell? (q.add j)=some u) (v:∀u∈b,u.oneCell'=true)
 (k:d+m≤f) (n:d*i.size+b.length≤h.size) :
 (Builtin.append_ #[t,t] ty #[.slice (some ⟨g,0,none⟩) d f,.slice (some q) m c]).run P w =
  .ok (.slice (some ⟨g,0,none⟩) (d+m) f) (w.setRow g (h.toList.take (d*i.size)++b++h.toList.drop (d*i.size+b.length)).toArray):=by
 have x:=run_firstCells_some (P:=P) w i.size m q m c b s l
 have p:=run_storeCells_at P g (d*i.size) r b 0 h w y (by simpa using n) v
 simp only[Nat.add_zero]at p
 simp[Builtin.append_,run_underlying z,sizeOf,typeInfo,hi,Builtin.lenOf,k,x,Addr.add_lit,p]
theorem Wf (t ty e:TypeId) (i:TypeInfo) (j:P.underlying t=some (.slice e)) (hi:P.info? e=some i) (f:Option Addr) (d b:Nat) (h:d≤b) (X:Value)
 (k:X=.slice none 0 0∨∃g c,X=.slice (some g) 0 c) :
 (Builtin.append_ #[t,t] ty #[.slice f d b,X]).run P w=.ok (.slice f d b) w:=by
 rcases k with rfl|⟨g,c,rfl⟩ <;> cases f <;>
  simp[Builtin.append_,run_underlying j,sizeOf,typeInfo,hi,Builtin.lenOf,h,Builtin.firstCells,storeCells,loadCells,loadCellsFrom]
end
section
variable {P:Program}{E:Env}{w0 w:World}{I0:IMap}{nt:Nat}{γ:Nat→Option Place}{I:IMap}{st:St}{a:Act}{o:Oper}{ub:Nat}{δ:Delta}
theorem jcg {cs ys:List V}{arr:Array Value}{k:Nat}(c:cs.length=k) (d:∀ (j:Nat) (v:V),cs[j]? = some v→v.pureLeaf=true∧∃x,arr[j]? = some x∧RepP I x v)
 (e:∀ (j:Nat) (v:V),ys[j]? = some v→v.pureLeaf=true∧∃x,arr[k+j]? = some x∧RepP I x v) :
 ∀ (j:Nat) (v:V),(cs++ys)[j]? = some v→v.pureLeaf=true∧∃x,arr[j]? = some x∧RepP I x v:=by
 intro j v b
 by_cases f:j<k
 ·rw[List.getElem?_append_left zO]at b
  exact d j v b
 ·rw[List.getElem?_append_right zO]at b
  have:=e _ v b
  rw[c]at this
  rwa [show k+(j - k)=j by omega]at this
theorem jjf (T:R E w0 I0 nt γ I st a w) (hd:∀d,o.dst=some d→d<nt) (hf:γ ub=none) {t e:TypeId}{s x:Operand}{s' x':A}{i:TypeInfo}{z:Value}(ho:o.op=.call { callee:=.builtin .append,args:=#[s,x],argTypes:=#[t,t] })
 (hs:opd s=some s') (hx:opd x=some x') (hu:P.underlying t=some (.slice e)) (hi:P.info? e=some i) (hz:i.zero=some z) (c0:0<i.size) (e2:z.cells.size=i.size)
 (r:(match eval E st.tm s' with
  | .sl t nl n cs=>(jI st.ob i.size (eval E st.tm x')).bind fun J=>
   if J=[] then (if cs.length=n*i.size then one (.sl t nl n cs) else none) else
   if cs.length=n*i.size∧0<i.size∧J.all V.pureLeaf=true∧(n+J.length / i.size)*i.bytes≤140737488355328∧n+J.length / i.size≤140737488355328 then
    match t with
    | some (u,z)=>if st.tk u=true∧z=i.size then some { v:=V.sl (some (ub,i.size)) false (n+J.length / i.size) (cs++J),del:=some u,add:=[ub] } else none
    | none=>if nl then some { v:=V.sl (some (ub,i.size)) false (n+J.length / i.size) (cs++J),add:=[ub] } else none
   else none
  | _=>none)=some δ):X7 P E w0 I0 nt γ I st a w o ub δ:=by
 have S:=jA T hs
 have c1:=jA T hx
 have N:∀ (v:Value) (w':World),(Builtin.append_ #[t,t] o.type #[a.eval s,a.eval x]).run P w=.ok v w'→(execOp a.eval o).run P w=.ok (.value v) w':=by
  intro v w' h
  simp only[execOp,ho,resolve,Sem.run_bind,Sem.run_pure,Result.andThen_ok,invoke,builtin,List.map_toArray,List.map_cons,List.map_nil,h]
 split at r
 ·rename_i tk nl n cs he
  obtain⟨J,c8,r⟩:=bind_some r
  split at r
  ·rename_i U
   subst U
   split at r
   ·rename_i G
    -- nothing is appended
    have hX:a.eval x=.slice none 0 0∨∃ad c,a.eval x=.slice (some ad) 0 c:=by
     rcases jzb T c1 c8 rfl c0 with⟨h,_⟩|⟨ad,m,c,f,h,_,hl,_⟩
     ·exact .inl h
     ·have:m=0:=by
       simp only[List.length_nil]at hl
       rcases Nat.mul_eq_zero.1 hl.symm with h|h <;> omega
      subst this
      exact .inr ⟨ad,c,h⟩
    rw[he]at S
    have c4:=S
    have hS:∃B cap,a.eval s=.slice B n cap∧n≤cap:=by
     rcases Xq S with⟨h,_,_,rfl,_⟩|⟨ad,cap,xs,h,_,_,h2,_⟩
     ·exact⟨none,0,h,zR⟩
     ·exact⟨some ad,cap,h,h2⟩
    obtain⟨B,cap,hS,d0⟩:=hS
    refine jU T hd (x:=a.eval s) (N _ _ ?_) c4 r
    rw[hS]
    exact Wf t o.type e i hu hi B n cap d0 _ hX
   ·cases r
  ·rename_i c5
   split at r
   ·rename_i hc
    obtain⟨G,_,hp,b9,d6⟩:=hc
    rcases jzb T c1 c8 hp c0 with⟨_,h⟩|⟨ad,m,c,f,hX,e8,b0,e7,O,d4,d8⟩
    ·exact absurd h c5
    ·have hm:J.length / i.size=m:=by rw[b0];exact Nat.mul_div_cancel _ c0
     have d7:0<m:=by
      rcases Nat.eq_zero_or_pos m with h|h
      ·subst h
       simp only[Nat.zero_mul]at b0
       exact absurd (List.eq_nil_of_length_eq_zero b0) c5
      ·exact h
     rw[hm]at r b9 d6
     have F:f.length=m*i.size:=zO
     have b8:n+m≤maxLen:=by simp only[maxLen];omega
     have b6:(cs++J).length=(n+m)*i.size:=by rw[List.length_append,G,b0,Nat.add_mul]
     have a0:∀ (j:Nat) (v:V),J[j]? = some v→∃x,f[j]? = some x∧v.pureLeaf=true∧RepP I x v:=by
      intro j v q
      have M:j<f.length:=by have:=(List.getElem?_eq_some_iff.1 q).1;omega
      exact⟨_,List.getElem?_eq_getElem M,List.all_eq_true.1 hp _ (List.mem_of_getElem? q),d4 j _ v (List.getElem?_eq_getElem M) q⟩
     have c9:∀j y,I w.heap.size j=some y→j<(n+m)*i.size∧False:=fun j y H=>absurd (World.block_lt_of_cell? _ _ (T.imm _ _ _ H)) (Nat.lt_irrefl _)
     -- a new row
     have X:∀ (D:List Value) (old:Nat) (del:Option Nat),old<n+m→D.length=n*i.size→(∀ (j:Nat) (v:V),cs[j]? = some v→v.pureLeaf=true∧∃x,D[j]? = some x∧RepP I x v) →
      (Builtin.append_ #[t,t] o.type #[a.eval s,a.eval x]).run P w=.ok (.slice (some ⟨w.heap.size,0,none⟩) (n+m) (grownCap w (n+m) old e)) (w.drew.alloc (.cells (D.toArray++f.toArray++Builtin.zeroCells z.cells (grownCap w (n+m) old e - (n+m))) e)) →
      some { v:=V.sl (some (ub,i.size)) false (n+m) (cs++J),del:=del,add:=[ub] } = some δ→X7 P E w0 I0 nt γ I st a w o ub δ:=by
      intro D old del e3 Z L l e1
      have d3:=grownCap_ge w (n+m) old e
      have d2:=grownCap_le_maxLen w (n+m) old e b8
      refine jmi T hd hf (b:=w.heap.size) (n:=n+m) (cap:=grownCap w (n+m) old e) (sz:=i.size) (cs:=cs++J) (del:=del) (e:=e) (N _ _ l) (.inl ⟨rfl,zS⟩) ⟨rfl,rfl,rfl⟩
       (fun k hk _=>heap_alloc_old w.drew _ k hk) (heap_alloc_new w.drew _) ?_ d3 d2 (fun j y H=>(c9 j y H).2.elim) b6 ?_ e1
      ·simp only[Array.size_append,List.size_toArray,size_zeroCells,e2,Z,F,← Nat.add_mul]
       congr 1
       omega
      ·refine jcg G (fun j v q=>?_) (fun j v q=>?_)
       ·obtain⟨p,y,H,hr⟩:=L j v q
        refine⟨p,y,?_,hr⟩
        have M:j<D.length:=(List.getElem?_eq_some_iff.1 H).1
        rw[Array.getElem?_append_left (by simp;omega),Array.getElem?_append_left (by simpa using M)]
        simpa using H
       ·obtain⟨y,H,p,hr⟩:=a0 j v q
        refine⟨p,y,?_,hr⟩
        have M:j<f.length:=(List.getElem?_eq_some_iff.1 H).1
        rw[Array.getElem?_append_left (by simp;omega),Array.getElem?_append_right (by simp;omega)]
        simp only[List.size_toArray,Z,Nat.add_sub_cancel_left]
        simpa using H
     rw[he]at S
     split at r
     ·rename_i tu tz _
      split at r
      ·rename_i b5
       have c3:=r
       obtain⟨b5,d5⟩:=b5
       subst d5
       rcases Xq S with⟨_,h,_⟩|⟨B,cap,xs,hS,_,_,e6,d1,h3,h4,h5,h6⟩
       ·cases h
       ·obtain⟨b7,Q,d9⟩:=h6 tu _ rfl
        obtain⟨Ω,c6⟩:=T.own
        obtain⟨b,n',e4,e5,k1,k2,k3,⟨arr,e',g1,g2,g3,g4⟩,k5⟩:=c6.tk tu b5
        rw[b7]at k1
        simp only[Option.some.injEq,Place.tok.injEq]at k1
        obtain⟨hb,rfl,rfl,rfl⟩:=k1
        by_cases K:n+m≤cap
        ·have c7:n*i.size+f.length≤arr.size:=by rw[F,← Nat.add_mul];exact Nat.le_trans (Nat.mul_le_mul_right _ K) g2
         have l:=WR (P:=P) (w:=w) t o.type e e' i hu hi b n cap arr g1 ad m c f F O d8 K c7
         rw[← hb]at g1 l k5
         rw[Q]at hS
         refine jq2 T hd hf (b:=B.block) (n:=n+m) (cap:=cap) (sz:=i.size) (cs:=cs++J) (w':=w.setRow B.block _) (del:=some tu) (e:=e') (N _ _ (by rw[hS,hX];exact l)) (.inr ⟨tu,n,cap,i.size,b5,b7,rfl,zS⟩) ⟨rfl,rfl,rfl⟩
          (fun k _ hk=>setRow_other w _ k _ hk) (setRow_heap w _ arr _ e' _ g1) ?_ K d1 (fun j y H=>?_) b6 ?_ c3
         ·simp only[List.size_toArray,List.length_append,List.length_take,List.length_drop,Array.length_toList]
          omega
         ·have M:j<n*i.size:=by
           rcases Nat.lt_or_ge j (n*i.size) with h|h
           ·exact h
           ·rw[k5 j h]at H;cases H
          have g:=T.imm _ _ _ H
          simp only[World.cell?,g1,Option.isSome_none,Bool.false_eq_true,if_false]at g
          refine⟨by rw[Nat.add_mul];omega,?_⟩
          simp only[List.getElem?_toArray]
          rw[List.append_assoc,List.getElem?_append_left (by simp only[List.length_take,Array.length_toList];omega),List.getElem?_take_of_lt M]
          simpa using g
         ·refine jcg G (fun j v q=>?_) (fun j v q=>?_)
          ·have M:j<cs.length:=(List.getElem?_eq_some_iff.1 q).1
           refine⟨h4 j v q,xs j,?_,h5 j v q⟩
           have g:=T.imm _ _ _ (h3 j M)
           rw[Q]at g
           simp only[World.cell?,g1,Option.isSome_none,Bool.false_eq_true,if_false,Nat.zero_add]at g
           simp only[List.getElem?_toArray]
           rw[List.append_assoc,List.getElem?_append_left (by simp only[List.length_take,Array.length_toList];omega),List.getElem?_take_of_lt zO]
           simpa using g
          ·obtain⟨y,H,p,hr⟩:=a0 j v q
           refine⟨p,y,?_,hr⟩
           have M:j<f.length:=(List.getElem?_eq_some_iff.1 H).1
           simp only[List.getElem?_toArray]
           rw[List.getElem?_append_left (by simp only[List.length_append,List.length_take,Array.length_toList];omega),List.getElem?_append_right (by simp only[List.length_take,Array.length_toList];omega)]
           have hq:n*i.size+j - (List.take (n*i.size) arr.toList).length=j:=by simp only[List.length_take,Array.length_toList];omega
           rw[hq]
           exact H
        ·have L:∀ (j:Nat) (v:Value),((List.range cs.length).map xs)[j]? = some v→w.cell? (B.add j)=some v:=by
          intro j v q
          simp only[List.getElem?_map,Option.map_eq_some_iff]at q
          obtain⟨k,hk,rfl⟩:=q
          have M:j<cs.length:=by have:=(List.getElem?_eq_some_iff.1 hk).1;simpa using this
          rw[List.getElem?_range M]at hk
          cases hk
          rw[Q,XC,Nat.zero_add]
          have:=T.imm _ _ _ (h3 j M)
          rw[Q]at this
          simpa using this
         have c2:((List.range cs.length).map xs).length=n*i.size:=by simpa using G
         have l:=run_append_grow (P:=P) w t o.type e i z hu hi hz B n cap _ c2 L ad m c f F O zO zO (growslice_fits zO b9)
         refine X _ cap (some tu) zO c2 (fun j v q=>⟨h4 j v q,xs j,?_,h5 j v q⟩) (by rw[hS,hX];exact l) c3
         have M:j<cs.length:=(List.getElem?_eq_some_iff.1 q).1
         simp[M]
      ·cases r
     ·split at r
      ·rename_i U
       rcases Xq S with⟨hS,_,_,rfl,rfl⟩|⟨_,_,_,_,h,_⟩
       ·have e0:m*i.bytes≤281474976710656:=by simp only[Nat.zero_add]at b9;omega
        have l:=run_append_nil (P:=P) w t o.type e i z hu hi hz ad m c f F O d7 zO e0
        refine X [] 0 none zO zS (fun j v q=>by simp at q) ?_ r
        rw[hS,hX,Nat.zero_add,l]
        simp
       ·subst h;cases U
      ·cases r
   ·cases r
 ·cases r
end
section
variable {P:Program}{E:Env}{w0 w:World}{I0:IMap}{nt:Nat}{γ:Nat→Option Place}{I:IMap}{st:St}{a:Act}{o:Oper}{ub:Nat}{δ:Delta}
theorem Rep.strip1 {x:Value}{v:V}(h:Rep γ I x v):Rep γ I x v.strip1:=by
 cases v with
 | sl t j n cs=>
  rcases Xq h with⟨rfl,rfl,rfl,rfl,rfl⟩|⟨k,f,l,rfl,rfl,c,i,b,d,g,e,_⟩
  ·exact .pure _ _ .slnil
  ·exact .pure _ _ (.sl _ _ _ _ _ c i b d g e)
 | _=>exact h
theorem Yc {xs:Array Value}{cs:List V}(f:V→V) (e:∀x v,Rep γ I x v→Rep γ I x (f v)) (h:∀ (j:Nat) (x:Value) (v:V),xs[j]? = some x→cs[j]? = some v→Rep γ I x v) :
 ∀ (j:Nat) (x:Value) (v:V),xs[j]? = some x→(cs.map f)[j]? = some v→Rep γ I x v:=by
 intro j x v c b
 simp only[List.getElem?_map,Option.map_eq_some_iff]at b
 obtain⟨u,d,rfl⟩:=b
 exact e _ _ (h j x u c d)
theorem Rep.stripAgg {x:Value}{cs:List V}(h:Rep γ I x (.agg cs)):Rep γ I x (.agg (cs.map V.strip1)):=by
 obtain⟨g,rfl,d,f,c⟩:=Xy h
 refine .agg _ _ (by simpa using d) (fun j v b=>?_) (Yc _ (fun _ _=>Rep.strip1) c)
 simp only[List.getElem?_map,Option.map_eq_some_iff]at b
 obtain⟨u,e,rfl⟩:=b
 rw[jdd]
 exact f j u e
theorem Rep.strip {x:Value}{v:V}(h:Rep γ I x v):Rep γ I x v.strip:=by
 cases v with
 | sl t m n cs=>exact h.strip1
 | agg cs=>exact h.stripAgg
 | fn f i l=>
  obtain⟨p,k,rfl,e,g,d,j⟩:=jb7 h
  have b:∀x v,Rep γ I x v→Rep γ I x (match v with|.agg cs=>V.agg (cs.map V.strip1)|c=>c.strip1):=by
   intro x v h
   split
   ·exact h.stripAgg
   ·exact h.strip1
  exact .fn _ _ _ _ _ (by simpa using e) (by simpa using g) (Yc _ b d) (Yc _ b j)
 | _=>exact h
def LKT:LK→TypeDesc→Prop
 | .bool,d=>d=.bool
 | .int,d=>∃k,d=.int k
 | .str,d=>d=.string
theorem jcw {t:TypeId}{q:LK}(h:jko P t=some q):∃d,P.underlying t=some d∧LKT q d:=by
 unfold jko at h
 split at h <;> cases h
 ·exact⟨_,by assumption,rfl⟩
 ·exact⟨_,by assumption,_,rfl⟩
 ·exact⟨_,by assumption,rfl⟩
theorem juo {s s':ByteArray}(h:s.data.toList=s'.data.toList):s=s':=by
 cases s;cases s'
 simp only[Array.toList_inj]at h
 rw[h]
theorem Qg {q:LK}{d:TypeDesc}(c:LKT q d) {x y:Value}{i g:V}{b:Bool}(e:Rep γ I x i) (f:Rep γ I y g) (h:WS q i g=some b):Instr.sameNow d x y=some b:=by
 unfold WS at h
 split at h
 ·have:=XB e;subst this
  have:=XB f;subst this
  cases c
  exact h
 ·have:=jw e;subst this
  have:=jw f;subst this
  obtain⟨k,rfl⟩:=c
  exact h
 ·obtain⟨s,rfl,rfl⟩:=X3 e
  obtain⟨j,rfl,rfl⟩:=X3 f
  cases c
  simp only[Option.some.injEq]at h
  simp only[Instr.sameNow,Option.some.injEq]
  rw[← h,beq_toListBytes,YE,YE]
 ·cases h
theorem YN {q:LK}{d:TypeDesc}(l:LKT q d) {k:Value}{n:V}(g:Rep γ I k n):∀ (m:List MapEntry) (es:List (V × V)) (i:Nat) (r:Option (Nat × V)),m.length=es.length →
 (∀ (j:Nat) (e:MapEntry) (k v:V),m[j]? = some e→es[j]? = some (k,v)→RepP I e.key k∧Rep γ I e.val v)→findKey q n es=some r →
 (r=none∧Instr.findNow d k m i=some none)∨∃j v e,r=some (j,v)∧m[j]? = some e∧(∃f,es[j]? = some (f,v)∧WS q n f=some true)∧Instr.findNow d k m i=some (some (i+j,e.val))
 | [],[],i,r,_,_,h=>by
  simp only[findKey,Option.some.injEq]at h
  exact .inl ⟨h.symm,rfl⟩
 | [],_::_,_,_,hl,_,_=>by simp at hl
 | _::_,[],_,_,hl,_,_=>by simp at hl
 | e::m,(f,v)::es,i,r,hl,hr,h=>by
  obtain⟨t,F⟩:=hr 0 e f v rfl rfl
  simp only[findKey]at h
  split at h
  ·rename_i c
   simp only[Option.some.injEq]at h
   subst h
   refine .inr ⟨0,v,e,rfl,rfl,⟨f,rfl,c⟩,?_⟩
   simp only[Instr.findNow,Qg l g (.pure _ _ t) c,Nat.add_zero]
  ·rename_i c
   obtain⟨D,s,rfl⟩:=map_some h
   rcases YN l g m es (i+1) D (by simpa using hl) (fun j e k v s b=>hr (j+1) e k v (by simpa using s) (by simpa using b)) s with⟨rfl,b⟩|⟨j,z,x,rfl,b,⟨p,u,B⟩,y⟩
   ·exact .inl ⟨rfl,by simp only[Instr.findNow,Qg l g (.pure _ _ t) c,b]⟩
   ·refine .inr ⟨j+1,z,x,rfl,by simpa using b,⟨p,by simpa using u,B⟩,?_⟩
    simp only[Instr.findNow,Qg l g (.pure _ _ t) c,y]
    rw[show i+1+j=i+(j+1) by omega]
  ·cases h
theorem J5 {t:TypeId}{d:TypeDesc}{q:LK}(e:P.underlying t=some d) (c:LKT q d) (b:Bool) (k:Value) (n:Nat):(Instr.checkKey b (n+1) t k).run P w=.ok () w:=by
 unfold Instr.checkKey
 simp only[Sem.run_bind,run_underlying e,Result.andThen_ok]
 cases q
 ·cases c;rfl
 ·obtain⟨_,rfl⟩:=c;rfl
 ·cases c;rfl
theorem Ja {t:TypeId}{d:TypeDesc}(b:P.underlying t=some d) {k:Value}{m:List MapEntry}{r:Option (Nat × Value)}(h:Instr.findNow d k m 0=some r):(Instr.findKey t k m).run P w=.ok r w:=by
 unfold Instr.findKey
 simp only[Sem.run_bind,run_underlying b,Result.andThen_ok,h,Sem.run_pure]
theorem jal (s:R E w0 I0 nt γ I st a w) {l u b ver:Nat}{k:Kd}{es:List (V × V)}(h:st.ob l=some ⟨u,.mp ver es⟩) (B:γ u=some (.obj b k)) :
 ∃ (m:Array MapEntry) (c:Nat),w.heap[b]? = some (.map m c)∧m.size=es.length∧(∀ (j:Nat) (e:MapEntry) (k v:V),m[j]? = some e→es[j]? = some (k,v)→RepP I e.key k∧Rep γ I e.val v) ∧
  (m.toList.map (·.born)).Nodup∧(∀e∈m,e.born<c)∧(ver<ju3→c=m.size∧∀ (i:Nat) (e:MapEntry),m[i]? = some e→e.born=i):=by
 obtain⟨D,d⟩:=s.own
 obtain⟨H,t,f,F,G,p,J⟩:=d.ob l _ h
 rw[B]at f
 cases f
 obtain⟨m,c,q,g,n,y,r⟩:=p
 exact⟨m,c,q,by rw[← g.1,Array.length_toList],fun j e k v z x=>g.2 j e k v (by rw[Array.getElem?_toList];exact z) x,n,y,r⟩
theorem jlh (n:R E w0 I0 nt γ I st a w) {l u b ver:Nat}{k:Kd}{es:List (V × V)}(h:st.ob l=some ⟨u,.mp ver es⟩) (q:γ u=some (.obj b k)) :
 ∃ (m:Array MapEntry) (c:Nat),w.heap[b]? = some (.map m c)∧m.size=es.length∧(∀ (j:Nat) (e:MapEntry) (k v:V),m[j]? = some e→es[j]? = some (k,v)→RepP I e.key k∧Rep γ I e.val v) ∧
  (m.toList.map (·.born)).Nodup∧∀e∈m,e.born<c:=by
 obtain⟨m,c,f,i,d,p,g,_⟩:=jal n h q
 exact⟨m,c,f,i,d,p,g⟩
theorem JE {b:Nat}{m:Array MapEntry}{c:Nat}(h:w.heap[b]? = some (.map m c)):(getObj b).run P w=.ok (.map m c) w:=by simp[getObj,Sem.run,h]
theorem XU {b:Nat}{m e:Array MapEntry}{c d:Nat}(h:w.heap[b]? = some (.map m c)):(setObj b (.map e d)).run P w=.ok () { w with heap:=w.heap.setIfInBounds b (.map e d) }:=by simp[setObj,Sem.run,h]
theorem Qj {x:Value}{z:V}(h:Ye x=some z):RepP I x z:=by
 unfold Ye at h
 split at h
 ·rename_i cs
  obtain⟨l,e,rfl⟩:=map_some h
  obtain⟨c,d⟩:=jng (I:=I) e
  refine .agg _ _ c.symm (fun j v b=>?_) (fun j x v f b=>(d j x v (by rw[Array.getElem?_toList];exact f) b).2)
  have g:j<cs.toList.length:=by rw[← c];exact(List.getElem?_eq_some_iff.1 b).1
  exact(d j _ v (List.getElem?_eq_getElem g) b).1
 ·exact(leafOk h).1
theorem jse (G:R E w0 I0 nt γ I st a w) (X:∀d,o.dst=some d→d<nt) {t kt e:TypeId}{m k:Operand}{m' k':A}{q:LK}{i:TypeInfo}{z:Value}{F:V}{n:Bool}(ho:o.op=.lookup t m k n) (hm:opd m=some m') (hk:opd k=some k')
 (D:P.underlying t=some (.map kt e)) (hq:jko P kt=some q) (hi:P.info? e=some i) (hz:i.zero=some z) (b6:Ye z=some F)
 (f:(if jau q (eval E st.tm k') then match eval E st.tm m' with
  | .nilmap=>one (if n then .tup [F,.bool false] else F)
  | .map l u=>(jg st.ob l u).bind fun es=>(findKey q (eval E st.tm k') es).bind fun r=>match r with
   | some (_,v)=>one (if n then .tup [v,.bool true] else v)
   | none=>one (if n then .tup [F,.bool false] else F)
  | _=>none else none)=some δ):X7 P E w0 I0 nt γ I st a w o ub δ:=by
 obtain⟨d,c,s⟩:=jcw hq
 have p:=jA G hm
 have O:=jA G hk
 have J:Rep γ I z F:=.pure _ _ (Qj b6)
 have g:∀ (x:Value) (v:V) (b:Bool),Rep γ I x v→Rep γ I (if n then .tuple #[x,.bool b] else x) (if n then .tup [v,.bool b] else v):=by
  intro x v b h
  cases n
  ·exact h
  ·refine .tup _ _ rfl (fun j y u L D=>?_)
   match j with
   | 0=>simp at L D;subst L;subst D;exact h
   | 1=>simp at L D;subst L;subst D;exact .pure _ _ (.bool b)
   | j+2=>simp at D
 split at f
 ·split at f
  ·rename_i K
   rw[K]at p
   have B:=XJ p
   refine jU G X (x:=if n then .tuple #[z,.bool false] else z) ?_ (g _ _ _ J) f
   have Z:(Instr.findKey kt (a.eval k) ([]:List MapEntry)).run P w=.ok none w:=Ja c rfl
   simp only[execOp,ho,B,Instr.lookup,Sem.run_bind,run_underlying D,Result.andThen_ok,Sem.run_pure,J5 c s,Z,J1 hi hz]
  ·rename_i l u K
   rw[K]at p
   obtain⟨b,kb,U,B⟩:=WL p
   obtain⟨es,b5,f⟩:=bind_some f
   obtain⟨r,hr,f⟩:=bind_some f
   obtain⟨M,a0,h1,h2,h3,_⟩:=jlh G (Jx b5) U
   have N:=YN s O M.toList es 0 r (by simpa using h2) (fun j e k v K hk=>h3 j e k v (by simpa using K) hk) hr
   rcases N with⟨rfl,S⟩|⟨j,v,T,rfl,b0,⟨Q,H,_⟩,S⟩
   ·refine jU G X (x:=if n then .tuple #[z,.bool false] else z) ?_ (g _ _ _ J) f
    simp only[execOp,ho,B,Instr.lookup,Sem.run_bind,run_underlying D,Result.andThen_ok,Sem.run_pure,JE h1,J5 c s,Ja c S,J1 hi hz]
   ·refine jU G X (x:=if n then .tuple #[T.val,.bool true] else T.val) ?_ (g _ _ _ (h3 j T Q v (by simpa using b0) H).2) f
    simp only[execOp,ho,B,Instr.lookup,Sem.run_bind,run_underlying D,Result.andThen_ok,Sem.run_pure,JE h1,J5 c s,Ja c S]
  ·cases f
 ·cases f
end
section
variable {P:Program}{E:Env}{w0 w:World}{I0:IMap}{nt:Nat}{γ:Nat→Option Place}{I:IMap}{st:St}{a:Act}{o:Oper}{ub:Nat}{δ:Delta}
theorem J4 (w:World) (b:Nat) (x:Obj) (h:b<w.heap.size):(w.heap.setIfInBounds b x)[b]? = some x:=by simp[h]
theorem Jg (w:World) (b k:Nat) (x:Obj) (h:k≠b):(w.heap.setIfInBounds b x)[k]? = w.heap[k]?:=Array.getElem?_setIfInBounds_ne (fun e=>h e.symm)
theorem Qq {M:Array MapEntry}{es:List (V × V)}(h:M.size=es.length) (d:∀ (j:Nat) (e:MapEntry) (k v:V),M[j]? = some e→es[j]? = some (k,v)→RepP I e.key k∧Rep γ I e.val v):EntsOk γ I M.toList es :=
 ⟨by simpa using h,fun j e k v c b=>d j e k v (by rw[← Array.getElem?_toList];exact c) b⟩
theorem jez (M:Array MapEntry) (j:Nat) (k v:Value):(M.modify j fun e=>{ e with key:=k,val:=v }).toList.map (·.born)=M.toList.map (·.born):=by
 refine List.ext_getElem? fun i=>?_
 simp only[List.getElem?_map,Array.getElem?_toList,Array.getElem?_modify]
 split
 ·cases M[i]? <;> rfl
 ·rfl
theorem jwp (m:R E w0 I0 nt γ I st a w) (b:∀d,o.dst=some d→d<nt) (l:γ ub=none) {t:TypeId}{d:Nat}(g:o.op=.makeMap t none) (i:Jd d ub (.mp 0 []) (.map d ub)=some δ):X7 P E w0 I0 nt γ I st a w o ub δ:=by
 refine YZ m b l (x:=.map (some w.heap.size)) (obj:=.map #[] 0) (k:=.n 0) ?_ rfl (fun c h=>.map _ _ _ _ h) ?_ i
 ·simp[execOp,g,Instr.makeMap]
 ·exact⟨#[],0,rfl,⟨rfl,fun j e k v f=>by simp at f⟩,zS,zS,fun _=>⟨rfl,zS⟩⟩
theorem jnh {q:LK}{x y:Value}{d e:V}(b:Rep γ I x d) (c:Rep γ I y e) (h:WS q d e=some true):(Instr.keyThatStays y x).run P w=.ok x w:=by
 have g:Instr.sameBits 10000 y x=true:=by
  unfold WS at h
  split at h
  ·have:=XB b;subst this
   have:=XB c;subst this
   simp only[Option.some.injEq,beq_iff_eq]at h
   subst h
   simp[Instr.sameBits]
  ·have:=jw b;subst this
   have:=jw c;subst this
   split at h
   ·rename_i f
    simp only[Option.some.injEq,beq_iff_eq]at h
    subst f;subst h
    simp[Instr.sameBits]
   ·cases h
  ·obtain⟨s,rfl,rfl⟩:=X3 b
   obtain⟨i,rfl,rfl⟩:=X3 c
   simp only[Option.some.injEq,beq_iff_eq]at h
   have:=juo h
   subst this
   simp[Instr.sameBits,beq_toListBytes]
  ·cases h
 simp[Instr.keyThatStays,g]
theorem js5 {q:LK}{x:Value}{v:V}(h:Rep γ I x v) (b:jau q v=true):RepP I x v:=by
 unfold jau at b
 split at b <;> first|(cases b;done)|(cases h;assumption)
theorem jgj {M:Array MapEntry}{b:Nat}{k v:Value}(h:b=M.size∧∀ (i:Nat) (e:MapEntry),M[i]? = some e→e.born=i) :
 b+1=(M.push { key:=k,val:=v,born:=b }).size∧∀ (i:Nat) (e:MapEntry),(M.push { key:=k,val:=v,born:=b })[i]? = some e→e.born=i:=by
 refine⟨by simp[h.1],fun i e c=>?_⟩
 rw[Array.getElem?_push]at c
 split at c
 ·rename_i d
  cases c
  exact h.1.trans d.symm
 ·exact h.2 i e c
theorem Wx {M:Array MapEntry}{b j:Nat}{f:MapEntry→MapEntry}(l:∀e,(f e).born=e.born) (h:b=M.size∧∀ (i:Nat) (e:MapEntry),M[i]? = some e→e.born=i) :
 b=(M.modify j f).size∧∀ (i:Nat) (e:MapEntry),(M.modify j f)[i]? = some e→e.born=i:=by
 refine⟨by simp[h.1],fun i e d=>?_⟩
 rw[Array.getElem?_modify]at d
 by_cases c:j=i
 ·rw[if_pos c]at d
  obtain⟨g,k,rfl⟩:=Option.map_eq_some_iff.1 d
  rw[l]
  exact h.2 i g k
 ·rw[if_neg c]at d
  exact h.2 i e d
theorem jjc (O:R E w0 I0 nt γ I st a w) (hd:∀d,o.dst=some d→d<nt) {t kt e:TypeId}{m k v:Operand}{m' k' v':A}{q:LK}(F:o.op=.mapUpdate t m k v∨o.op=.insert t m k v) (hm:opd m=some m') (f:opd k=some k') (hv:opd v=some v')
 (hu:P.underlying t=some (.map kt e)) (hq:jko P kt=some q)
 (p:(if jau q (eval E st.tm k') then match eval E st.tm m' with
  | .map l u=>if Nat.ble st.ro u then (jg st.ob l u).bind fun D=>(findKey q (eval E st.tm k') D).bind fun r=>match r with
   | some (i,_)=>some { v:=jq,obs:=[(l,⟨u,.mp (jl st.ob l+1) (D.set i (eval E st.tm k',(eval E st.tm v').strip))⟩)] }
   | none=>some { v:=jq,obs:=[(l,⟨u,.mp (jl st.ob l+1) (D++[(eval E st.tm k',(eval E st.tm v').strip)])⟩)] }
   else none
  | _=>none else none)=some δ):X7 P E w0 I0 nt γ I st a w o ub δ:=by
 obtain⟨d,B,H⟩:=jcw hq
 have S:=jA O hm
 have G:=jA O f
 have b0:=(jA O hv).strip
 split at p
 ·rename_i b6
  have a0:=js5 G b6
  split at p
  ·rename_i l u c
   rw[c]at S
   obtain⟨b,kb,K,b5⟩:=WL S
   split at p
   case isFalse=>cases p
   rename_i Q
   obtain⟨D,c1,p⟩:=bind_some p
   obtain⟨r,hr,p⟩:=bind_some p
   have N:=Jx c1
   obtain⟨M,g,T,h2,h3,Z,J,U⟩:=jal O N K
   have c8:b<w.heap.size:=(Array.getElem?_eq_some_iff.1 T).1
   have b7:=YN H G M.toList D 0 r (by simpa using h2) (fun j e k v c f=>h3 j e k v (by simpa using c) f) hr
   rcases b7 with⟨rfl,hf⟩|⟨j,v0,en,rfl,b9,⟨c5,X,b8⟩,hf⟩
   ·refine Yq O hd N Q (body':=.mp _ _) (x:=undef) (v:=jq) (w':={ w with heap:=w.heap.setIfInBounds b (.map (M.push { key:=a.eval k,val:=a.eval v,born:=g }) (g+1)) }) (.inr ⟨?_,rfl⟩) (.tup _ _ rfl zS) (fun v D h=>by cases h;exact⟨_,_,rfl,Nat.lt_succ_self _⟩) ?_ p
    ·rcases F with F|F <;> simp only[execOp,F,b5,Instr.mapUpdate,Sem.run_bind,run_underlying hu,Result.andThen_ok,Sem.run_pure,JE T,J5 B H,Ja B hf,XU T]
    ·intro b' k0 z s
     rw[K]at z
     cases z
     refine⟨rfl,rfl,rfl,zS,fun k f=>Jg w b k _ f,?_⟩
     rw[J4 w b _ s]
     refine⟨_,_,rfl,Qq (by simp[h2]) (fun j en kk vv c f=>?_),?_,fun e c=>?_,fun hv=>jgj (U (Nat.lt_of_succ_lt hv))⟩
     case refine_2=>
      rw[Array.toList_push,List.map_append,List.map_cons,List.map_nil]
      refine List.nodup_append.2 ⟨Z,zS,fun x hx y hy=>?_⟩
      simp only[List.mem_singleton]at hy
      subst hy
      obtain⟨e,c,rfl⟩:=List.mem_map.1 hx
      exact Nat.ne_of_lt (J e (by simpa using c))
     case refine_3=>
      rcases Array.mem_push.1 c with c|rfl
      ·exact Nat.lt_succ_of_lt (J e c)
      ·exact Nat.lt_succ_self _
     rw[Array.getElem?_push]at c
     split at c
     ·rename_i hj
      cases c
      subst hj
      rw[List.getElem?_append_right zO,h2]at f
      simp at f
      obtain⟨rfl,rfl⟩:=f
      exact⟨a0,b0⟩
     ·rename_i hj
      have c4:j<D.length:=by have:=(Array.getElem?_eq_some_iff.1 c).1;omega
      rw[List.getElem?_append_left c4]at f
      exact h3 j en kk vv c f
   ·have n:M[j]? = some en:=by simpa using b9
    have c7:j<M.size:=(Array.getElem?_eq_some_iff.1 n).1
    refine Yq O hd N Q (body':=.mp _ _) (x:=undef) (v:=jq) (w':={ w with heap:=w.heap.setIfInBounds b (.map (M.modify j fun e=>{ e with key:=a.eval k,val:=a.eval v }) g) }) (.inr ⟨?_,rfl⟩) (.tup _ _ rfl zS) (fun v D h=>by cases h;exact⟨_,_,rfl,Nat.lt_succ_self _⟩) ?_ p
    ·have c2:(Instr.keyThatStays en.key (a.eval k)).run P w=.ok (a.eval k) w:=jnh (γ:=γ) (I:=I) G (.pure _ _ (h3 j en c5 v0 n X).1) b8
     simp only[Nat.zero_add]at hf
     rcases F with F|F <;> simp only[execOp,F,b5,Instr.mapUpdate,Sem.run_bind,run_underlying hu,Result.andThen_ok,Sem.run_pure,JE T,J5 B H,Ja B hf,n,Option.map_some,Option.getD_some,c2,XU T]
    ·intro b' k0 z s
     rw[K]at z
     cases z
     refine⟨rfl,rfl,rfl,zS,fun k f=>Jg w b k _ f,?_⟩
     rw[J4 w b _ s]
     refine⟨_,_,rfl,Qq (by simp[h2]) (fun i c6 kk vv c f=>?_),by rw[jez];exact Z,fun e c=>?_,fun hv=>Wx (fun _=>rfl) (U (Nat.lt_of_succ_lt hv))⟩
     case refine_2=>
      have:e.born∈(M.modify j fun e=>{ e with key:=a.eval k,val:=a.eval v }).toList.map (·.born):=List.mem_map.2 ⟨e,Array.mem_toList_iff.2 c,rfl⟩
      rw[jez]at this
      obtain⟨e2,c3,c0⟩:=List.mem_map.1 this
      rw[← c0]
      exact J e2 (by simpa using c3)
     rw[Array.getElem?_modify]at c
     by_cases L:j=i
     ·subst L
      simp only[if_true,n,Option.map_some,Option.some.injEq]at c
      subst c
      rw[List.getElem?_set_self zO]at f
      cases f
      exact⟨a0,b0⟩
     ·rw[if_neg L]at c
      rw[List.getElem?_set_ne L]at f
      exact h3 i c6 kk vv c f
  ·cases p
 ·cases p
theorem Wu {b:Type}(l:List b) (i j:Nat):(l.eraseIdx i)[j]? = if j<i then l[j]? else l[j+1]?:=by
 rw[List.getElem?_eraseIdx]
theorem jsd (Q:R E w0 I0 nt γ I st a w) (hd:∀d,o.dst=some d→d<nt) {t kt e:TypeId}{m k:Operand}{m' k':A}{q:LK}{N:Array TypeId}(ho:o.op=.call { callee:=.builtin .delete,args:=#[m,k],argTypes:=N }) (ht:N[0]? = some t) (hm:opd m=some m') (g:opd k=some k')
 (hu:P.underlying t=some (.map kt e)) (hq:jko P kt=some q)
 (f:(if jau q (eval E st.tm k') then match eval E st.tm m' with
  | .nilmap=>one jq
  | .map l u=>if Nat.ble st.ro u then (jg st.ob l u).bind fun L=>(findKey q (eval E st.tm k') L).bind fun r=>match r with
   | some (i,_)=>some { v:=jq,obs:=[(l,⟨u,.mp (jl st.ob l+ju3) (L.eraseIdx i)⟩)] }
   | none=>some { v:=jq,obs:=[(l,⟨u,.mp (jl st.ob l+1) L⟩)] }
   else none
  | _=>none else none)=some δ):X7 P E w0 I0 nt γ I st a w o ub δ:=by
 obtain⟨d,z,F⟩:=jcw hq
 have D:=jA Q hm
 have b0:=jA Q g
 have c:∀ (w':World),(Builtin.delete_ N o.type #[a.eval m,a.eval k]).run P w=.ok (.tuple #[]) w'→(execOp a.eval o).run P w=.ok (.value (.tuple #[])) w':=by
  intro w' h
  simp only[execOp,ho,resolve,Sem.run_bind,Sem.run_pure,Result.andThen_ok,invoke,builtin,List.map_toArray,List.map_cons,List.map_nil,h]
 split at f
 ·split at f
  ·rename_i n
   rw[n]at D
   have G:=XJ D
   refine jU Q hd (x:=.tuple #[]) (c _ ?_) (.tup _ _ rfl zS) f
   rw[G]
   simp[Builtin.delete_,ht,run_underlying hu,J5 z F]
  ·rename_i l u n
   rw[n]at D
   obtain⟨b,kb,J,G⟩:=WL D
   split at f
   case isFalse=>cases f
   rename_i S
   obtain⟨L,b7,f⟩:=bind_some f
   obtain⟨r,hr,f⟩:=bind_some f
   have O:=Jx b7
   obtain⟨M,y,h1,h2,h3,U,H,b6⟩:=jal Q O J
   have a0:=YN F b0 M.toList L 0 r (by simpa using h2) (fun j e k v n g=>h3 j e k v (by simpa using n) g) hr
   rcases a0 with⟨rfl,Z⟩|⟨j,v0,en,rfl,b5,⟨b9,b8,c0⟩,Z⟩
   ·refine Yq Q hd O S (body':=.mp _ _) (x:=.tuple #[]) (v:=jq) (w':={ w with heap:=w.heap.setIfInBounds b (.map M y) }) (.inl (c _ ?_)) (.tup _ _ rfl zS) (fun v L h=>by cases h;exact⟨_,_,rfl,Nat.lt_succ_self _⟩) ?_ f
    ·rw[G]
     simp only[Builtin.delete_,ht,Sem.run_bind,run_underlying hu,Result.andThen_ok,Sem.run_pure,JE h1,J5 z F,Ja z Z,XU h1,List.getElem?_toArray,List.getElem?_cons_zero,List.getElem?_cons_succ]
    ·intro b' k0 B K
     rw[J]at B
     cases B
     refine⟨rfl,rfl,rfl,zS,fun k g=>Jg w b k _ g,?_⟩
     rw[J4 w b _ K]
     exact⟨_,_,rfl,Qq h2 h3,U,H,fun hv=>b6 (Nat.lt_of_succ_lt hv)⟩
   ·have X:M[j]? = some en:=by simpa using b5
    have s:j<M.size:=(Array.getElem?_eq_some_iff.1 X).1
    refine Yq Q hd O S (body':=.mp _ _) (x:=.tuple #[]) (v:=jq) (w':={ w with heap:=w.heap.setIfInBounds b (.map (M.eraseIdxIfInBounds j) y) }) (.inl (c _ ?_)) (.tup _ _ rfl zS) (fun v L h=>by cases h;exact⟨_,_,rfl,Nat.lt_add_of_pos_right zD⟩) ?_ f
    ·rw[G]
     simp only[Nat.zero_add]at Z
     simp only[Builtin.delete_,ht,Sem.run_bind,run_underlying hu,Result.andThen_ok,Sem.run_pure,JE h1,J5 z F,Ja z Z,XU h1,List.getElem?_toArray,List.getElem?_cons_zero,List.getElem?_cons_succ]
    ·intro b' k0 B K
     rw[J]at B
     cases B
     have hM:M.eraseIdxIfInBounds j=M.eraseIdx j s:=by simp[Array.eraseIdxIfInBounds,s]
     refine⟨rfl,rfl,rfl,zS,fun k g=>Jg w b k _ g,?_⟩
     rw[J4 w b _ K]
     refine⟨_,_,rfl,Qq (by rw[hM];simp[List.length_eraseIdx,h2];omega) (fun i T kk vv n g=>?_),?_,fun e n=>?_,fun hv=>absurd hv (Nat.not_lt.2 (Nat.le_add_left _ _))⟩
     case refine_2=>
      rw[hM,Array.toList_eraseIdx]
      exact((List.eraseIdx_sublist M.toList j).map _).nodup U
     case refine_3=>
      rw[hM]at n
      have:e∈(M.eraseIdx j s).toList:=Array.mem_toList_iff.2 n
      rw[Array.toList_eraseIdx]at this
      exact H e (Array.mem_toList_iff.1 (List.mem_of_mem_eraseIdx this))
     rw[hM,← Array.getElem?_toList,Array.toList_eraseIdx,Wu]at n
     rw[Wu]at g
     split at n
     ·rename_i p
      rw[if_pos p]at g
      exact h3 i T kk vv (by simpa using n) g
     ·rename_i p
      rw[if_neg p]at g
      exact h3 (i+1) T kk vv (by simpa using n) g
  ·cases f
 ·cases f
theorem jld (f:R E w0 I0 nt γ I st a w) (q:∀d,o.dst=some d→d<nt) (p:γ ub=none) {t:TypeId}{x:Operand}{g:A}{d:Nat}(m:o.op=.range t x) (j:opd x=some g) (u:P.underlying t=some .string)
 (c:(match eval E st.tm g with
  | .str s=>Jd d ub (.siter s 0) (.iter d ub)
  | _=>none)=some δ):X7 P E w0 I0 nt γ I st a w o ub δ:=by
 have i:=jA f j
 split at c
 ·rename_i s r
  rw[r]at i
  obtain⟨e,b,rfl⟩:=X3 i
  refine YZ f q p (x:=.pointer (some ⟨w.heap.size,0,none⟩)) (obj:=.stringIter e 0) (k:=.n 0) ?_ rfl (fun l h=>.iter _ _ _ _ h) ?_ c
  ·simp[execOp,m,b,Instr.range,run_underlying u]
  ·exact⟨e,rfl,rfl⟩
 ·cases c
theorem jpf (G:R E w0 I0 nt γ I st a w) (N:∀d,o.dst=some d→d<nt) {x:Operand}{O:A}(Q:o.op=.next x true) (hx:opd x=some O)
 (i:(match eval E st.tm O with
  | .iter l u=>match st.ob l with
   | some ⟨T,.siter s c⟩=>if Nat.ble st.ro u∧T=u then
    (if c<s.length then some { v:=.tup [.bool true,.int .i64 c,.int .i32 ((Utf8.decode ⟨s.toArray⟩ c).1:Nat)],obs:=[(l,⟨u,.siter s (c+(Utf8.decode ⟨s.toArray⟩ c).2)⟩)] }
     else one (.tup [.bool false])) else none
   | _=>none
  | _=>none)=some δ):X7 P E w0 I0 nt γ I st a w o ub δ:=by
 have U:=jA G hx
 split at i
 ·rename_i l u he
  rw[he]at U
  obtain⟨b,kb,r,t⟩:=jcx U
  split at i
  ·rename_i T s c F
   split at i
   ·rename_i p
    obtain⟨H,p⟩:=p
    subst p
    obtain⟨Ω,B⟩:=G.own
    obtain⟨b',Z,S,k2,k3,⟨f,n,J⟩,k5⟩:=B.ob l _ F
    rw[r]at S
    cases S
    have z:(⟨s.toArray⟩:ByteArray)=f:=by
     rw[← J]
    have X:s.length=f.size:=by rw[← J];simp
    rw[z]at i
    split at i
    ·rename_i q
     have e:c<f.size:=zO
     refine Yq G N F H (body':=.siter s (c+(Utf8.decode f c).2)) (x:=.tuple #[.bool true,.int .i64 c,.int .i32 ((Utf8.decode f c).1:Nat)])
      (w':={ w with heap:=w.heap.setIfInBounds b (.stringIter f (c+(Utf8.decode f c).2)) }) (.inl ?_) ?_ (fun v es h=>by cases h) ?_ i
     ·have L:(getObj b).run P w=.ok (.stringIter f c) w:=by simp[getObj,Sem.run,n]
      have M:∀x,(setObj b x).run P w=.ok () { w with heap:=w.heap.setIfInBounds b x }:=by intro x;simp[setObj,Sem.run,n]
      simp only[execOp,Q,t,Instr.next,Sem.run_bind,L,Result.andThen_ok,e,if_true,M,Sem.run_pure,goInt]
     ·refine .tup _ _ rfl (fun j y v m g=>?_)
      match j with
      | 0=>simp at m g;subst m;subst g;exact .pure _ _ (.bool _)
      | 1=>simp at m g;subst m;subst g;exact .pure _ _ (.int _ _)
      | 2=>simp at m g;subst m;subst g;exact .pure _ _ (.int _ _)
      | j+3=>simp at g
     ·intro b' k0 D K
      rw[r]at D
      cases D
      exact⟨rfl,rfl,rfl,zS,fun k hk=>Jg w b k _ hk,by rw[J4 w b _ K];exact⟨f,rfl,J⟩⟩
    ·rename_i q
     have e:¬ c<f.size:=zO
     refine jU G N (x:=.tuple #[.bool false]) ?_ ?_ i
     ·have L:(getObj b).run P w=.ok (.stringIter f c) w:=by simp[getObj,Sem.run,n]
      simp only[execOp,Q,t,Instr.next,Sem.run_bind,L,Result.andThen_ok,e,if_false,Sem.run_pure]
     ·refine .tup _ _ rfl (fun j y v m g=>?_)
      match j with
      | 0=>simp at m g;subst m;subst g;exact .pure _ _ (.bool _)
      | j+1=>simp at g
   ·cases i
  ·cases i
 ·cases i
theorem jdn (isMax:Bool):∀ (xs:List Value) (vs:List V) (x:Value) (v r:V),xs.length=vs.length→(∀ (j:Nat) (y:Value) (u:V),xs[j]? = some y→vs[j]? = some u→Rep γ I y u)→Rep γ I x v→Wo isMax v vs=some r →
 ∃z,(xs.foldlM (if isMax then Builtin.max2 else Builtin.min2) x).run P w=.ok z w∧Rep γ I z r
 | [],[],x,v,r,_,_,hx,h=>by
  simp only[Wo,Option.some.injEq]at h
  subst h
  exact⟨x,zS,hx⟩
 | [],_::_,_,_,_,hl,_,_,_=>by simp at hl
 | _::_,[],_,_,_,hl,_,_,_=>by simp at hl
 | y::xs,u::vs,x,v,r,hl,hr,hx,h=>by
  simp only[Wo]at h
  obtain⟨z,b,d⟩:=bind_some h
  have m:=hr 0 y u rfl rfl
  unfold jhf at b
  split at b
  ·rename_i k p n q
   have:=jw hx;subst this
   have:=jw m;subst this
   split at b
   ·rename_i i
    subst i
    simp only[Option.some.injEq]at b
    have c:((if isMax then Builtin.max2 else Builtin.min2) (.int k p) (.int k q)).run P w=.ok (.int k (if isMax then (if q > p then q else p) else (if q<p then q else p))) w:=by
     cases isMax <;> simp[Builtin.max2,Builtin.min2]
    obtain⟨g,e,l⟩:=jdn isMax xs vs _ z r (by simpa using hl) (fun j y u f d=>hr (j+1) y u (by simpa using f) (by simpa using d)) (by rw[← b];exact .pure _ _ (.int _ _)) d
    refine⟨g,?_,l⟩
    rw[List.foldlM_cons,Sem.run_bind,c,Result.andThen_ok]
    exact e
   ·cases b
  ·cases b
theorem jjb (t:R E w0 I0 nt γ I st a w) (F:∀d,o.dst=some d→d<nt) {isMax:Bool}{xs:Array Operand}{e:List A}{s:Array TypeId}(i:o.op=.call { callee:=.builtin (if isMax then .max else .min),args:=xs,argTypes:=s }) (D:opds xs=some e)
 (m:(match e.map (eval E st.tm) with
  | []=>none
  | x::r=>(Wo isMax x r).bind one)=some δ):X7 P E w0 I0 nt γ I st a w o ub δ:=by
 obtain⟨l,n⟩:=WH t D
 split at m
 ·cases m
 ·rename_i v B p
  obtain⟨r,G,q⟩:=bind_some m
  rw[p]at l n
  cases b:(xs.map a.eval).toList with
  | nil=>
   have:(xs.map a.eval).size=0:=by rw[← Array.length_toList,b];rfl
   simp only[List.length_cons]at l
   omega
  | cons x h=>
   have c:∀ (j:Nat),(xs.map a.eval)[j]? = (x::h)[j]?:=fun j=>by rw[← b,Array.getElem?_toList]
   have g:h.length=B.length:=by
    have:(xs.map a.eval).size=(x::h).length:=by rw[← Array.length_toList,b]
    simp only[List.length_cons]at this l
    omega
   obtain⟨z,k,f⟩:=jdn (P:=P) (w:=w) (γ:=γ) (I:=I) isMax h B x v r g (fun j y u J H=>n (j+1) y u (by rw[c];simpa using J) (by simpa using H)) (n 0 x v (by rw[c];rfl) rfl) G
   refine jU t F (x:=z) ?_ f q
   cases isMax
   ·simp only[Bool.false_eq_true,if_false]at k i
    simp only[execOp,i,resolve,Sem.run_bind,Sem.run_pure,Result.andThen_ok,invoke,builtin,Builtin.min_,b,k]
   ·simp only[if_true]at k i
    simp only[execOp,i,resolve,Sem.run_bind,Sem.run_pure,Result.andThen_ok,invoke,builtin,Builtin.max_,b,k]
end
section
variable {P:Program}{E:Env}{w0 w:World}{I0:IMap}{nt:Nat}{γ:Nat→Option Place}{I:IMap}{st:St}{a:Act}{o:Oper}{ub:Nat}{δ:Delta}
theorem jm7 (r:R E w0 I0 nt γ I st a w) (hd:∀d,o.dst=some d→d<nt) {neg:Bool}{t t':TypeId}{x y:Operand}{U y':A}(ho:o.op=.binOp (if neg then .neq else .eql) t x y t') (hx:opd x=some U) (hy:opd y=some y')
 (hk:eqK P t x y=some .ptr) {l u off l' u' f:Nat}(h1:eval E st.tm U=.ptr l u off) (h2:eval E st.tm y'=.ptr l' u' f)
 (T:(if (j0 st.ob l u).isSome && (j0 st.ob l' u').isSome then one (.bool (xor neg (Nat.beq l l' && Nat.beq off f))) else none)=some δ):X7 P E w0 I0 nt γ I st a w o ub δ:=by
 have v:=jA r hx
 have z:=jA r hy
 rw[h1]at v
 rw[h2]at z
 obtain⟨b,k,O,p⟩:=YM v
 obtain⟨s,k',g,hY⟩:=YM z
 simp only[Option.ite_none_right_eq_some,Bool.and_eq_true,Option.isSome_iff_exists]at T
 obtain⟨⟨⟨cs,L⟩,⟨b0,q⟩⟩,N⟩:=T
 obtain⟨Ω,j⟩:=r.own
 obtain⟨c,kc,Z,k2,_⟩:=j.ob l _ (jY L)
 obtain⟨c',b5,X,S,_⟩:=j.ob l' _ (jY q)
 rw[O]at Z
 rw[g]at X
 cases Z
 cases X
 have H:(b=s) ↔ l=l':=by
  constructor
  ·intro e
   subst e
   rw[k2]at S
   cases S
   rfl
  ·intro e
   subst e
   have D:=jY L
   have B:=jY q
   rw[D]at B
   simp only[Option.some.injEq,Obj'.mk.injEq]at B
   obtain⟨rfl,_⟩:=B
   rw[O]at g
   cases g
   rfl
 have F:(Nat.beq l l' && Nat.beq off f)=decide ((⟨b,off,none⟩:Addr)=⟨s,f,none⟩):=by
  rw[Bool.eq_iff_iff]
  have D:∀m n:Nat,(Nat.beq m n=true) ↔ m=n:=fun m n=>⟨Nat.eq_of_beq_eq_true,fun h=>h▸Nat.beq_refl m⟩
  simp only[Bool.and_eq_true,D,decide_eq_true_eq,Addr.mk.injEq,and_true,H]
 obtain⟨e,K,n,hn,G⟩:=jua hk
 obtain⟨arr,_,m1,_⟩:=Wj r (jY L) O
 obtain⟨a0,_,m2,_⟩:=Wj r (jY q) g
 have Q:(sameAddr ⟨b,off,none⟩ ⟨s,f,none⟩).run P w=.ok (decide ((⟨b,off,none⟩:Addr)=⟨s,f,none⟩)) w:=by
  by_cases J:b=s
  ·subst J
   have:((⟨b,off,none⟩:Addr) == ⟨b,f,none⟩)=decide ((⟨b,off,none⟩:Addr)=⟨b,f,none⟩):=by
    rw[Bool.eq_iff_iff];simp
   simp only[sameAddr,beq_self_eq_true,if_true,this,Sem.run_pure]
  ·have M:(b == s)=false:=by simpa using J
   simp[sameAddr,M,J,noView,viewAt,mayBeOne,stringish,World.shape?,m1,m2,World.frozen?]
 have i:(Op.equal t (a.eval x) (a.eval y)).run P w=.ok (Nat.beq l l' && Nat.beq off f) w:=by
  rw[p,hY,F]
  unfold Op.equal
  show(Op.equalIn (9999+1) t _ _).run P w=_
  unfold Op.equalIn
  simp only[Sem.run_bind,run_underlying K,Result.andThen_ok,je hn,G,ne_eq,not_false_eq_true,if_true,Q]
 obtain⟨D,B⟩:=jb2 t (a.eval x) (a.eval y) _ (by rw[p];simp) (by rw[p];simp) (by rw[p];simp) (by rw[p];simp) i
 have h0:(eqGuard (if neg then .neq else .eql) t x y (a.eval x) (a.eval y)).run P w=.ok () w:=jG _ _ _ _ _ _ (by rw[p];simp) (by rw[p];simp)
 refine jU r hd (x:=.bool (xor neg (Nat.beq l l' && Nat.beq off f))) ?_ (.pure _ _ (.bool _)) N
 simp only[execOp,ho,Sem.run_bind,h0,Result.andThen_ok]
 cases neg
 ·simp only[Bool.false_eq_true,if_false,D,Result.andThen_ok,Sem.run_pure,Bool.false_xor]
 ·simp only[if_true,B,Result.andThen_ok,Sem.run_pure,Bool.true_xor]
end
section
variable {P:Program}{E:Env}{w0 w:World}{I0:IMap}{nt:Nat}{γ:Nat→Option Place}{I:IMap}{st:St}{a:Act}{o:Oper}{ub:Nat}{δ:Delta}
theorem jsm (q:R E w0 I0 nt γ I st a w) (D:∀d,o.dst=some d→d<nt) {x:Operand}{N t:TypeId}{L:A}{n:Bool}{d:TypeDesc}{i:TypeInfo}{z:Value}{s:V}(B:o.op=.typeAssert x N t n) (M:opd x=some L)
 (f:P.underlying t=some d) (g:∀m,d≠.interface m) (hi:P.info? t=some i) (K:i.zero=some z) (H:Ye z=some s)
 (k:(match eval E st.tm L with
  | .iface J v=>if J=t then one (if n then .tup [v,.bool true] else v) else if n then one (.tup [s,.bool false]) else none
  | .nilif=>if n then one (.tup [s,.bool false]) else none
  | _=>none)=some δ):X7 P E w0 I0 nt γ I st a w o ub δ:=by
 have F:=jA q M
 have r:Rep γ I z s:=.pure _ _ (Qj H)
 have e:∀ (x:Value) (v:V) (b:Bool),Rep γ I x v→Rep γ I (.tuple #[x,.bool b]) (.tup [v,.bool b]):=by
  intro x v b h
  refine .tup _ _ rfl (fun j y u p f=>?_)
  match j with
  | 0=>simp at p f;subst p;subst f;exact h
  | 1=>simp at p f;subst p;subst f;exact .pure _ _ (.bool b)
  | j+2=>simp at f
 split at k
 ·rename_i J v G
  rw[G]at F
  obtain⟨y,c,p⟩:=jax F
  split at k
  ·rename_i l
   subst l
   cases n
   ·refine jU q D (x:=y) ?_ p k
    simp only[execOp,B,c,Instr.typeAssert,Sem.run_bind,run_underlying f,Result.andThen_ok]
    cases d <;> first|exact absurd rfl (g _)|simp
   ·refine jU q D (x:=.tuple #[y,.bool true]) ?_ (e _ _ _ p) k
    simp only[execOp,B,c,Instr.typeAssert,Sem.run_bind,run_underlying f,Result.andThen_ok]
    cases d <;> first|exact absurd rfl (g _)|simp
  ·rename_i l
   cases n
   ·cases k
   ·refine jU q D (x:=.tuple #[z,.bool false]) ?_ (e _ _ _ r) k
    simp only[execOp,B,c,Instr.typeAssert,Sem.run_bind,run_underlying f,Result.andThen_ok]
    cases d <;> first|exact absurd rfl (g _)|simp[l,J1 hi K]
 ·rename_i G
  rw[G]at F
  have c:=Yy F
  cases n
  ·cases k
  ·refine jU q D (x:=.tuple #[z,.bool false]) ?_ (e _ _ _ r) k
   simp only[execOp,B,c,Instr.typeAssert,Sem.run_bind,run_underlying f,Result.andThen_ok]
   cases d <;> first|exact absurd rfl (g _)|simp[J1 hi K]
 ·cases k
theorem jlg (M:R E w0 I0 nt γ I st a w) (U:∀d,o.dst=some d→d<nt) (S:γ ub=none) {t e:TypeId}{ps:Array (Nat × Operand)}{l:List (Nat × Nat × A)}{zs:List V}{n s:Nat}{d:Nat}(ho:o.op=.buildSlice t n ps)
 (hu:P.underlying t=some (.slice e)) (y:WU P e=some s) (T:Yo P e=some zs) (H:zs.length=s) (q:0<s) (N:n*s≤16777216) (X:YQ (fun i=>some (i*s,s)) ps=some l)
 (Q:((fill (QV n zs) (jx (eval E st.tm) l)).bind fun cs=>
  if cs.length=n*s∧cs.all V.leaf=true then Jd d ub (.cells cs) (.osl d ub 0 n s) else none)=some δ):X7 P E w0 I0 nt γ I st a w o ub δ:=by
 obtain⟨cs,G,j⟩:=bind_some Q
 split at j
 ·rename_i hc
  obtain⟨i,z,K,B,u,c⟩:=Y7 (I:=I) T
  subst H
  obtain⟨b,Z,F⟩:=jcz M (WP X) (jct (γ:=γ) (I:=I) u c n (.inr q)) G
  have v:n≤maxLen:=by
   have:n≤n*zs.length:=Nat.le_mul_of_pos_right n q
   simp only[maxLen];omega
  refine YZ M U S (x:=.slice (some ⟨w.heap.size,0,none⟩) n n) (obj:=.cells b e) (k:=.n b.size) (body:=.cells cs) ?_ rfl (fun O h=>.osl _ _ _ _ _ _ _ _ _ h (fun _=>⟨rfl,by rw[F.1,hc.1,Nat.zero_add];exact Nat.le_refl _⟩) zR v)
   ⟨b,e,rfl,rfl,Nat.le_of_eq F.1.symm,F.2⟩ j
  ·have a0:i.size=zs.length:=by unfold WU at y;rw[K]at y;exact Option.some.inj y
   have m:¬ (n*zs.length > 16777216):=zO
   have g:Instr.fill (fun i=>some (i*zs.length,zs.length)) ((Array.range (n*zs.length)).map (z.cells[· % z.cells.size]!)) ((ps.map fun(p:Nat × Operand)=>(p.1,a.eval p.2)).toList)=some b:=by
    rw[Array.toList_map];exact Z
   have r:(Instr.buildSlice t n (ps.map fun(p:Nat × Operand)=>(p.1,a.eval p.2))).run P w=.ok (.slice (some ⟨w.heap.size,0,none⟩) n n) (w.alloc (.cells b e)):=by
    unfold Instr.buildSlice
    simp only[Sem.run_bind,run_underlying hu,Result.andThen_ok,je y,Nat.reducePow,m,if_false]
    by_cases L:n*zs.length=0
    ·have D:n=0:=by rcases Nat.mul_eq_zero.1 L with h|h <;> omega
     subst D
     have J:∀f:Nat→Value,(Array.range 0).map f = #[]:=fun f=>by simp[Array.range]
     simp only[Nat.zero_mul,J]at g
     simp only[Nat.zero_mul,if_true,J,g]
     simp[newRow]
    ·simp only[L,if_false,Sem.run_bind,J1 K B,Result.andThen_ok,Sem.run_pure,g]
     simp[newRow]
   simp only[execOp,ho,Sem.run_bind,r,Result.andThen_ok,Sem.run_pure]
 ·cases j
end
section
variable {P:Program}{E:Env}{w0 w:World}{I0:IMap}{nt:Nat}{γ:Nat→Option Place}{I:IMap}{st:St}{a:Act}{o:Oper}{ub:Nat}{δ:Delta}
theorem jwb {zs:List V}{n m j:Nat}{v:V}(d:n≤m) (h:(QV n zs)[j]? = some v):(QV m zs)[j]? = some v:=by
 have b:j<n*zs.length:=by have:=(List.getElem?_eq_some_iff.1 h).1;simpa[QV] using this
 have c:n*zs.length≤m*zs.length:=Nat.mul_le_mul_right _ d
 simp only[QV,List.getElem?_map]at h ⊢
 rw[List.getElem?_range b]at h
 rw[List.getElem?_range zO]
 exact h
theorem j1r (G:R E w0 I0 nt γ I st a w) (X:∀d,o.dst=some d→d<nt) (U:γ ub=none) {t e:TypeId}{x y:Operand}{Z y':A}{i:TypeInfo}{zs:List V}{d:Nat}{m:Bool}(ho:o.op=.makeSlice t x y) (L:opd x=some Z) (O:opd y=some y')
 (hu:P.underlying t=some (.slice e)) (hi:P.info? e=some i) (hz:Yo P e=some zs)
 (q:(match eval E st.tm Z,eval E st.tm y' with
  | .int .i64 l,.int .i64 c=>if 0≤l∧l≤c∧c*i.bytes≤140737488355328∧c≤140737488355328∧zs.length=i.size∧0<i.size then
   (if !m∧l=0 then some { v:=V.sl (some (ub,i.size)) false 0 [],add:=[ub] } else Jd d ub (.cells (QV l.toNat zs)) (.osl d ub 0 l.toNat i.size)) else none
  | _,_=>none)=some δ):X7 P E w0 I0 nt γ I st a w o ub δ:=by
 have s:=jA G L
 have F:=jA G O
 split at q
 ·rename_i l c hl hc
  rw[hl]at s
  rw[hc]at F
  have hX:=jw s
  have hY:=jw F
  split at q
  ·rename_i r
   obtain⟨h0,T,hb,b5,H,a0⟩:=r
   obtain⟨i',z,B,N,K,p⟩:=Y7 (I:=I) hz
   rw[hi]at B
   cases B
   have S:(i.bytes:Int)*c≤281474976710656:=by rw[Int.mul_comm];omega
   have D:=run_make (P:=P) w t e i z hu hi N .i64 .i64 l c h0 T S zO
   have f:(execOp a.eval o).run P w=.ok (.value (.slice (some ⟨w.heap.size,0,none⟩) l.toNat c.toNat)) (w.alloc (.cells (madeCells z.cells (c.toNat*i.size)) e)):=by
    simp only[execOp,ho,Sem.run_bind,hX,hY,D,Result.andThen_ok,Sem.run_pure]
   have J:c.toNat≤maxLen:=by simp only[maxLen];omega
   split at q
   ·rename_i Q
    obtain⟨_,rfl⟩:=Q
    refine jmi G X U (b:=w.heap.size) (n:=0) (cap:=c.toNat) (sz:=i.size) (cs:=[]) (w':=w.alloc _) (del:=none) (arr:=madeCells z.cells (c.toNat*i.size)) (e:=e)
     f (.inl ⟨rfl,zS⟩) ⟨rfl,rfl,rfl⟩ (fun k hk _=>heap_alloc_old _ _ _ hk) (heap_alloc_new _ _) (size_madeCells _ _) (Nat.zero_le _) J (fun j y O=>?_) zS (fun j v M=>by simp at M) q
    exact absurd (World.block_lt_of_cell? _ _ (G.imm _ _ _ O)) (Nat.lt_irrefl _)
   ·have u:=jct (γ:=γ) (I:=I) K p c.toNat (.inr zO)
    have g:l.toNat≤c.toNat:=zO
    refine YZ G X U (x:=.slice (some ⟨w.heap.size,0,none⟩) l.toNat c.toNat) (k:=.n (c.toNat*i.size)) (body:=.cells (QV l.toNat zs)) f rfl
     (fun b0 h=>.osl _ _ _ _ _ _ _ _ _ h (fun _=>⟨rfl,by show 0+c.toNat*i.size≤c.toNat*i.size;omega⟩) g J) ⟨_,e,rfl,size_madeCells _ _,?_,fun j x v L M=>?_⟩ q
    ·simp only[QV,List.length_map,List.length_range,H]
     exact Nat.mul_le_mul_right _ g
    ·refine u.2 j x v ?_ (jwb g M)
     rw[← H]at L
     exact L
  ·cases q
 ·cases q
end
theorem jgf:∀ (l:List UInt8) (c:UInt8),jbp l c=Lib.indexByte l c
  | [],_=>rfl
  | b::l,c=>by simp only[jbp,Lib.indexByte,jgf l c]
section
variable {P:Program}{E:Env}{w0 w:World}{I0:IMap}{nt:Nat}{γ:Nat→Option Place}{I:IMap}{st:St}{a:Act}{o:Oper}{ub:Nat}{δ:Delta}
theorem jn2      {fn:Func} {k:ExtK} (ho:fn.origin = "") (hn:(fn.name = "internal/bytealg.CountString" ∧k = .count)∨(fn.name = "internal/bytealg.IndexByteString" ∧k = .indexByte)) :
    Extern.findNext fn=none∧Extern.find fn=some (match k with|.count=>Extern.BytealgCount.count|.indexByte=>Extern.BytealgIndexByte.indexByte):=by
  rcases hn with⟨h,rfl⟩|⟨h,rfl⟩
  · constructor
    · unfold Extern.findNext
      simp only[ho,h]
      rfl
    · unfold Extern.find
      simp only[ho,h]
      rfl
  · constructor
    · unfold Extern.findNext
      simp only[ho,h]
      rfl
    · unfold Extern.find
      simp only[ho,h]
      rfl
end
section
variable {P:Program}{E:Env}{w0 w:World}{I0:IMap}{nt:Nat}{γ:Nat→Option Place}{I:IMap}{st:St}{a:Act}{o:Oper}{ub:Nat}{δ:Delta}
theorem any_beq {l:List Nat}{k:Nat}:l.any (Nat.beq k)=true ↔ k∈l:=by
 rw[List.any_eq_true]
 constructor
 ·rintro⟨x,b,h⟩;exact(Nat.eq_of_beq_eq_true h)▸b
 ·intro h;exact⟨k,h,Nat.beq_refl k⟩
theorem jzo (F:R E w0 I0 nt γ I st a w) (hd:∀d,o.dst=some d→d<nt) (hf:γ ub=none) {b d:Nat}{k:Kd}{cs:List V}{x:Value}{v:V}{w':World}{kill:List Nat}
 (Z:(execOp a.eval o).run P w=.ok (.value x) w')
 (hb:(b=w.heap.size∧w'.heap.size=w.heap.size+1)∨(∃K U J k0,st.ob K=some ⟨U,.cells J⟩∧γ U=some (.obj b k0)∧K∈kill∧Nat.ble st.ro U=true∧w'.heap.size=w.heap.size))
 (Q:w'.os=w.os∧w'.tape=w.tape∧w'.output=w.output) (hk:∀k,k<w.heap.size→k≠b→w'.heap[k]? = w.heap[k]?)
 (hx:∀b0:Nat→Option Place,b0 ub=some (.obj b k)→Rep b0 I x v) (s:ObjOk γ I st.ob w.heap k w'.heap[b]? (.cells cs))
 (b6:some { v:=v,obs:=[(d,⟨ub,.cells cs⟩)],kill:=kill } = some δ):X7 P E w0 I0 nt γ I st a w o ub δ:=by
 simp only[Option.some.injEq]at b6
 subst b6
 obtain⟨Ω,B⟩:=F.own
 have g:=W8 (f:=γ) (k:=ub) (v:=Place.obj b k) hf
 have c2:(st.app o.dst { v:=v,obs:=[(d,⟨ub,.cells cs⟩)],kill:=kill }).ob=upd (fun k=>if kill.any (Nat.beq k) then none else st.ob k) d (some ⟨ub,.cells cs⟩):=by
  simp only[St.app,JI]
 have q:∀l x,l≠d→(upd (fun k=>if kill.any (Nat.beq k) then none else st.ob k) d (some ⟨ub,.cells cs⟩)) l=some x→st.ob l=some x∧l ∉ kill:=by
  intro l x p z
  rw[J7 _ _ p]at z
  split at z
  ·cases z
  ·rename_i h;exact⟨z,fun hm=>h (any_beq.2 hm)⟩
 have hB:w0.heap.size≤b:=by
  rcases hb with⟨h,_⟩|⟨K,U,J,k0,X,h2,_,h4,_⟩
  ·rw[h];exact F.fr.size
  ·obtain⟨i,k',H,q2,q3,_⟩:=B.ob K _ X
   rw[h2]at H
   cases H
   exact q3 (by simpa[Nat.ble_eq] using h4)
 have c1:w.heap.size≤w'.heap.size:=by rcases hb with⟨_,h⟩|⟨_,_,_,_,_,_,_,_,h⟩ <;> omega
 have L:=s
 obtain⟨arr,e,b5,_,_,_⟩:=L
 have b8:b<w'.heap.size:=(Array.getElem?_eq_some_iff.1 b5).1
 have a0:∀j,I b j=none:=by
  intro j
  rcases hb with⟨h,_⟩|⟨K,U,J,k0,X,h2,_,h4,_⟩
  ·cases hj:I b j with
   | none=>rfl
   | some y=>exact absurd (World.block_lt_of_cell? _ _ (F.imm _ _ _ hj)) (by rw[h];exact Nat.lt_irrefl _)
  ·obtain⟨i,k',H,_,_,_,q5⟩:=B.ob K _ X
   rw[h2]at H
   cases H
   exact q5 j
 have G:∀i ow,Ω i=some ow→(∀l,ow=.ob l→l ∉ kill)→i≠b:=by
  intro i ow X h2 e
  subst e
  rcases hb with⟨h,_⟩|⟨K,U,J,k0,H,q2,q3,_,_⟩
  ·have:=B.lt _ _ X;omega
  ·obtain⟨i,k',r1,r2,_⟩:=B.ob K _ H
   rw[q2]at r1
   cases r1
   rw[X]at r2
   cases r2
   exact h2 K rfl q3
 have r:Xk γ st.ob (upd (fun k=>if kill.any (Nat.beq k) then none else st.ob k) d (some ⟨ub,.cells cs⟩)) w.heap w'.heap:=by
  intro l2 u2 c3 c5 mb mk b9 D
  by_cases p:l2=d
  ·subst p
   simp at D
  ·obtain⟨D,N⟩:=q l2 _ p D
   refine .inl ⟨D,fun m c b7=>?_⟩
   obtain⟨b2,c4,H,q2,_⟩:=B.ob l2 _ D
   rw[b9]at H
   cases H
   rw[hk mb (B.lt _ _ q2) (G mb _ q2 (fun l h=>by cases h;exact N))]
   exact b7
 refine⟨x,w',upd γ ub (some (.obj b k)),I,.inl Z,⟨(YX _ _ _).trans F.sz,jcc F g _ _,?_,⟨?_,F.gl,⟨upd Ω b (some (.ob d)),⟨?_,?_,?_⟩⟩,?_,F.old⟩⟩,?_,g,fun _ _ _ h=>h⟩
 ·exact Wg (by rw[F.sz];exact hd) (fun t=>(F.tm t).mono g (fun _ _ _ h=>h)) (hx _ zS)
 ·intro i j y hy
  have n:i≠b:=fun h=>by rw[h,a0]at hy;cases hy
  have hc:=F.imm _ _ _ hy
  rw[World.cell?_of_block (w:=w) (w':=w') (a:=⟨i,j,none⟩) (hk i (World.block_lt_of_cell? _ _ hc) n)]
  exact hc
 ·intro l ob z
  rw[c2]at z ⊢
  by_cases p:l=d
  ·subst p
   simp only[YV,Option.some.injEq]at z
   subst z
   exact⟨b,k,zS,zS,fun _=>hB,(ObjOk.keep s r).mono g (fun _ _ _ h=>h),a0⟩
  ·obtain⟨z,N⟩:=q l _ p z
   obtain⟨i,k',k1,M,k3,k4,k5⟩:=B.ob l ob z
   have n:=G i _ M (fun l h=>by cases h;exact N)
   refine⟨i,k',g _ _ k1,by rw[J7 _ _ n];exact M,k3,?_,k5⟩
   rw[hk i (B.lt _ _ M) n]
   exact(k4.keep r).mono g (fun _ _ _ h=>h)
 ·intro u hu
  have c0:st.tk u=true:=by simpa[St.app,XL] using hu
  obtain⟨i,n',c',s',k1,M,k3,k4,k5⟩:=B.tk u c0
  have n:=G i _ M (fun l h=>by cases h)
  refine⟨i,n',c',s',g _ _ k1,by rw[J7 _ _ n];exact M,k3,?_,k5⟩
  rw[hk i (B.lt _ _ M) n]
  exact k4
 ·intro i ow S
  rw[j2]at S
  split at S
  ·rename_i h;subst h;exact b8
  ·have:=B.lt i _ S;omega
 ·exact Grow.frame F.fr (T:=fun k=>k=b) ⟨Q.1,Q.2.1,Q.2.2,c1,fun k O n=>hk k O n,fun k O=>O▸hB⟩
 ·intro u hu
  exact J7 _ _ (fun e=>hu ⟨zO,zO⟩)
theorem ja5 {cs ys:List V}{arr:Array Value}{k:Nat}(d:cs.length=k) (e:∀ (j:Nat) (x:Value) (v:V),arr[j]? = some x→cs[j]? = some v→v.leaf=true∧Rep γ I x v)
 (f:∀ (j:Nat) (x:Value) (v:V),arr[k+j]? = some x→ys[j]? = some v→v.leaf=true∧Rep γ I x v) :
 ∀ (j:Nat) (x:Value) (v:V),arr[j]? = some x→(cs++ys)[j]? = some v→v.leaf=true∧Rep γ I x v:=by
 intro j x v c b
 by_cases g:j<k
 ·rw[List.getElem?_append_left zO]at b
  exact e j x v c b
 ·rw[List.getElem?_append_right zO]at b
  refine f (j - cs.length) x v ?_ b
  rw[d,show k+(j - k)=j by omega]
  exact c
theorem jf3 (hR:R E w0 I0 nt γ I st a w) (hd:∀d,o.dst=some d→d<nt) (hf:γ ub=none) {t e:TypeId}{s x:Operand}{s' x':A}{i:TypeInfo}{z:Value}{d:Nat}(ho:o.op=.call { callee:=.builtin .append,args:=#[s,x],argTypes:=#[t,t] })
 (hs:opd s=some s') (p:opd x=some x') (hu:P.underlying t=some (.slice e)) (hi:P.info? e=some i) (hz:i.zero=some z) (c4:0<i.size) (e8:z.cells.size=i.size)
 {ys:List V}(d8:jI st.ob i.size (eval E st.tm x')=some ys)
 (ha:(∃t0 n cs,eval E st.tm s'=.sl t0 true n cs∧ys≠[]∧ys.all V.leaf=true∧(ys.length / i.size)*i.bytes≤140737488355328∧ys.length / i.size≤140737488355328 ∧
  Jd d ub (.cells ys) (.osl d ub 0 (ys.length / i.size) i.size)=some δ) ∨
  ∃l u off n b5 cs,eval E st.tm s'=.osl l u off n b5∧j0 st.ob l u=some cs ∧
   (if ys=[] then one (.osl l u off n b5) else
   if Nat.ble st.ro u=true∧b5=i.size∧off=0∧n*i.size≤cs.length∧0<i.size∧ys.all V.leaf=true∧(n+ys.length / i.size)*i.bytes≤140737488355328∧n+ys.length / i.size≤140737488355328 then
    some { v:=V.osl d ub 0 (n+ys.length / i.size) i.size,obs:=[(d,⟨ub,.cells (cs.take (n*i.size)++ys)⟩)],kill:=[l] } else none)=some δ):X7 P E w0 I0 nt γ I st a w o ub δ:=by
 have Q:=jA hR hs
 have c8:=jA hR p
 have J:∀ (v:Value) (w':World),(Builtin.append_ #[t,t] o.type #[a.eval s,a.eval x]).run P w=.ok v w'→(execOp a.eval o).run P w=.ok (.value v) w':=by
  intro v w' h
  simp only[execOp,ho,resolve,Sem.run_bind,Sem.run_pure,Result.andThen_ok,invoke,builtin,List.map_toArray,List.map_cons,List.map_nil,h]
 -- what is appended
 have b8:ys≠[]→ys.all V.leaf=true→∃ (N:Addr) (m c:Nat) (f:List Value),a.eval x=.slice (some N) m c∧m≤c∧ys.length=m*i.size∧0<m∧ys.length / i.size=m∧f.length=m*i.size ∧
  (∀ (j:Nat) (u:Value),f[j]? = some u→w.cell? (N.add j)=some u)∧(∀ (j:Nat) (x:Value) (v:V),f[j]? = some x→ys[j]? = some v→v.leaf=true∧Rep γ I x v)∧(∀u∈f,u.oneCell'=true):=by
  intro M hp
  rcases jgy hR c8 d8 hp c4 with⟨_,h⟩|⟨N,m,c,f,hX,c5,r,B,g,L,a0⟩
  ·exact absurd h M
  ·have Z:0<m:=by
    rcases Nat.eq_zero_or_pos m with h|h
    ·subst h
     simp only[Nat.zero_mul]at r
     exact absurd (List.eq_nil_of_length_eq_zero r) M
    ·exact h
   exact⟨N,m,c,f,hX,c5,r,Z,by rw[r];exact Nat.mul_div_cancel _ c4,zO,g,fun j x v p y=>⟨List.all_eq_true.1 hp v (List.mem_of_getElem? y),L j x v p y⟩,a0⟩
 -- a new row
 have S:∀ (D:List Value) (cs:List V) (n m old:Nat) (f:List Value) (kill:List Nat),D.length=n*i.size→cs.length=n*i.size→f.length=m*i.size→ys.length=m*i.size→ys.length / i.size=m→n+m≤140737488355328 →
  (∀ (j:Nat) (x:Value) (v:V),D[j]? = some x→cs[j]? = some v→v.leaf=true∧Rep γ I x v)→(∀ (j:Nat) (x:Value) (v:V),f[j]? = some x→ys[j]? = some v→v.leaf=true∧Rep γ I x v) →
  (Builtin.append_ #[t,t] o.type #[a.eval s,a.eval x]).run P w=.ok (.slice (some ⟨w.heap.size,0,none⟩) (n+m) (grownCap w (n+m) old e)) (w.drew.alloc (.cells (D.toArray++f.toArray++Builtin.zeroCells z.cells (grownCap w (n+m) old e - (n+m))) e)) →
  some { v:=V.osl d ub 0 (n+ys.length / i.size) i.size,obs:=[(d,⟨ub,.cells (cs++ys)⟩)],kill:=kill } = some δ→X7 P E w0 I0 nt γ I st a w o ub δ:=by
  intro D cs n m old f kill T d2 B r hm X H g q b0
  have d4:=grownCap_ge w (n+m) old e
  have c0:=grownCap_le_maxLen w (n+m) old e (by simp only[maxLen];omega)
  rw[hm]at b0
  have c3:(D.toArray++f.toArray++Builtin.zeroCells z.cells (grownCap w (n+m) old e - (n+m))).size=grownCap w (n+m) old e*i.size:=by
   simp only[Array.size_append,List.size_toArray,size_zeroCells,e8,T,B,← Nat.add_mul]
   congr 1
   omega
  refine jzo hR hd hf (b:=w.heap.size) (k:=.n (grownCap w (n+m) old e*i.size)) (J _ _ q) (.inl ⟨rfl,zS⟩) ⟨rfl,rfl,rfl⟩ (fun k hk _=>heap_alloc_old w.drew _ k hk)
   (fun e6 h=>.osl _ _ _ _ _ _ _ _ _ h (fun _=>⟨rfl,by rw[Nat.zero_add];exact Nat.le_refl _⟩) d4 c0) ?_ b0
  refine⟨_,e,heap_alloc_new w.drew _,c3,?_,?_⟩
  ·show(cs++ys).length≤grownCap w (n+m) old e*i.size
   rw[List.length_append,d2,r,← Nat.add_mul]
   exact Nat.mul_le_mul_right _ d4
  ·refine ja5 d2 (fun j x v p y=>?_) (fun j x v p y=>?_)
   ·have K:j<D.length:=by have:=(List.getElem?_eq_some_iff.1 y).1;omega
    rw[Array.getElem?_append_left (by simp;omega),Array.getElem?_append_left (by simpa using K)]at p
    exact H j x v (by simpa using p) y
   ·have K:j<f.length:=by have:=(List.getElem?_eq_some_iff.1 y).1;omega
    rw[Array.getElem?_append_left (by simp;omega),Array.getElem?_append_right (by simp;omega)]at p
    simp only[List.size_toArray,T,Nat.add_sub_cancel_left]at p
    exact g j x v (by simpa using p) y
 rcases ha with⟨t0,n,cs,c2,M,hp,c1,X,b0⟩|⟨l,u,off,n,b5,cs,c2,e5,ha⟩
 ·obtain⟨N,m,c,f,hX,c5,r,Z,hm,B,g,L,a0⟩:=b8 M hp
  rw[c2]at Q
  rw[hm]at c1 X
  have hS:a.eval s=.slice none 0 0:=by
   rcases Xq Q with⟨h,_⟩|⟨_,_,_,_,h,_⟩
   ·exact h
   ·cases h
  have e7:m*i.bytes≤281474976710656:=zO
  have q:=run_append_nil (P:=P) w t o.type e i z hu hi hz N m c f B g Z zO e7
  refine S [] [] 0 m 0 f [] zS zS B r hm zO (fun j x v p=>by simp at p) L ?_ ?_
  ·rw[hS,hX,Nat.zero_add,q];simp
  ·rw[← b0]
   simp[Jd]
 ·rw[c2]at Q
  have d3:=Q
  obtain⟨b,kb,U,O,d7,hS,e2,hc,c0⟩:=XZ Q
  split at ha
  ·rename_i d1
   subst d1
   have hX:a.eval x=.slice none 0 0∨∃N c,a.eval x=.slice (some N) 0 c:=by
    rcases jgy hR c8 d8 rfl c4 with⟨h,_⟩|⟨N,m,c,f,h,_,hl,_⟩
    ·exact .inl h
    ·have:m=0:=by
      simp only[List.length_nil]at hl
      rcases Nat.mul_eq_zero.1 hl.symm with h|h <;> omega
     subst this
     exact .inr ⟨N,c,h⟩
   refine jU hR hd (x:=a.eval s) (J _ _ ?_) d3 ha
   rw[hS]
   exact Wf t o.type e i hu hi (some U) n O hc _ hX
  ·rename_i M
   split at ha
   case isFalse=>cases ha
   rename_i c7
   obtain⟨e4,c3,d0,e9,_,hp,c1,X⟩:=c7
   subst c3
   subst d0
   obtain⟨N,m,c,f,hX,c5,r,Z,hm,B,g,L,a0⟩:=b8 M hp
   have e1:=X
   have b6:=c1
   rw[hm]at b6 e1
   have e3:=jY e5
   obtain⟨arr,e',g1,g2,g3,g4⟩:=Wj hR e3 d7
   have b9:(cs.take (n*i.size)).length=n*i.size:=by rw[List.length_take];omega
   have b7:∀j,j<n*i.size→arr[j]? = some (arr.getD j undef):=by
    intro j K
    have:j<arr.size:=zO
    simp[this]
   have d9:0<n*i.size→U=⟨b,0,none⟩:=fun h=>(e2 (by
    rcases Nat.eq_zero_or_pos n with h0|h0
    ·subst h0;simp at h
    ·omega)).1
   by_cases F:n+m≤O
   ·have c6:0<O:=zO
    obtain⟨d5,G⟩:=e2 c6
    rw[Nat.zero_add]at G
    have d6:n*i.size+f.length≤arr.size:=by rw[B,g2,← Nat.add_mul];exact Nat.le_trans (Nat.mul_le_mul_right _ F) G
    have e0:=ha
    rw[hm]at e0
    have q:=WR (P:=P) (w:=w) t o.type e e' i hu hi b n O arr g1 N m c f B g a0 F d6
    refine jzo hR hd hf (b:=b) (k:=kb) (w':=w.setRow b _) (J _ _ (by rw[hS,hX,d5];exact q)) (.inr ⟨l,u,cs,kb,e3,d7,List.mem_singleton.2 rfl,e4,zS⟩) ⟨rfl,rfl,rfl⟩
     (fun k _ hk=>setRow_other w _ k _ hk) (fun e6 h=>.osl _ _ _ _ _ _ _ _ _ h (fun _=>⟨rfl,by rw[Nat.zero_add];exact G⟩) F c0) ?_ e0
    refine⟨_,e',setRow_heap w _ arr _ e' _ g1,?_,?_,?_⟩
    ·rw[← g2]
     simp only[List.size_toArray,List.length_append,List.length_take,List.length_drop,Array.length_toList]
     omega
    ·rw[List.length_append,b9,r,← Nat.add_mul]
     exact Nat.le_trans (Nat.mul_le_mul_right _ F) G
    ·refine ja5 b9 (fun j x v p y=>?_) (fun j x v p y=>?_)
     ·have K:j<n*i.size:=by have:=(List.getElem?_eq_some_iff.1 y).1;omega
      simp only[List.getElem?_toArray]at p
      rw[List.append_assoc,List.getElem?_append_left (by simp only[List.length_take,Array.length_toList];omega),List.getElem?_take_of_lt K]at p
      rw[List.getElem?_take_of_lt K]at y
      exact g4 j x v (by simpa using p) y
     ·have K:j<f.length:=by have:=(List.getElem?_eq_some_iff.1 y).1;omega
      simp only[List.getElem?_toArray]at p
      rw[List.getElem?_append_left (by simp only[List.length_append,List.length_take,Array.length_toList];omega),List.getElem?_append_right (by simp only[List.length_take,Array.length_toList];omega)]at p
      have hq:n*i.size+j - (List.take (n*i.size) arr.toList).length=j:=by simp only[List.length_take,Array.length_toList];omega
      rw[hq]at p
      exact L j x v p y
   ·have H:∀ (j:Nat) (v:Value),((List.range (n*i.size)).map fun j=>arr.getD j undef)[j]? = some v→w.cell? (U.add j)=some v:=by
     intro j v y
     simp only[List.getElem?_map,Option.map_eq_some_iff]at y
     obtain⟨k,hk,rfl⟩:=y
     have K:j<n*i.size:=by have:=(List.getElem?_eq_some_iff.1 hk).1;simpa using this
     rw[List.getElem?_range K]at hk
     cases hk
     rw[d9 zO,XC,Nat.zero_add]
     simp only[World.cell?,g1,Option.isSome_none,Bool.false_eq_true,if_false]
     exact b7 j K
    have c9:((List.range (n*i.size)).map fun j=>arr.getD j undef).length=n*i.size:=zS
    have q:=run_append_grow (P:=P) w t o.type e i z hu hi hz U n O _ c9 H N m c f B g zO zO (growslice_fits zO b6)
    refine S _ _ n m O f [l] c9 b9 B r hm zO (fun j x v p y=>?_) L (by rw[hS,hX];exact q) ha
    have K:j<n*i.size:=by have:=(List.getElem?_eq_some_iff.1 y).1;omega
    rw[List.getElem?_take_of_lt K]at y
    simp only[List.getElem?_map,List.getElem?_range K,Option.map_some,Option.some.injEq]at p
    subst p
    exact g4 j _ v (b7 j K) y
end
end Go.Pv
