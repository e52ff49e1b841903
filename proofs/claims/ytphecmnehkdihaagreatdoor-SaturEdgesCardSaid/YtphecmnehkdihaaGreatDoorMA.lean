/- The abstract interpreter: values without memory, operations, code; and the translation of the program's form into it. -/
import Derived.Calls
import Derived.LoopN
import Derived.Orders
import Derived.Laws.AppendOwn
import Derived.Laws.StructEq
import Derived.ChangeKeysEq
import Derived.Laws.Slices
import Derived.Laws.RangeString
import Derived.Laws.MakeOwn
import Derived.Lib.Bytealg
set_option maxRecDepth 100000
set_option maxHeartbeats 8000000
namespace Go.Pv
theorem zS {p:Prop} (h:p:=by simp):p:=h
theorem zO {p:Prop} (h:p:=by omega):p:=h
theorem zL {p:Prop} (h:p:=by first|omega|(simp;done)|(simp;omega)):p:=h
theorem zD {p:Prop} (h:p:=by decide):p:=h
theorem zR {n:Nat}:n≤n:=Nat.le_refl n
open Go
inductive V where
 | undef
 | bool (b:Bool)
 | int (k:IntKind) (n:Int)
 | str (s:List UInt8)
 | nilptr
 | nilmap
 | nilfn
 | nilif
 | sl (tok:Option (Nat × Nat)) (nil:Bool) (n:Nat) (cs:List V)
 | agg (cs:List V)
 | tup (vs:List V)
 | eptr (cs:List V) (off:Nat)
 | ptr (l u off:Nat)
 | osl (l u off n sz:Nat)
 | map (l u:Nat)
 | iter (l u:Nat)
 | fn (f:Fn) (first captured:List V)
 | iface (t:TypeId) (v:V)
 | yld (l u:Nat)
 deriving Inhabited
inductive Ex where
 | nrm
 | exit (id:Nat)
 | ret
 deriving Inhabited,DecidableEq
inductive LS where
 | ready|busy|done
 deriving Inhabited,DecidableEq
def V.leaf:V→Bool
 | .agg _|.tup _|.undef=>false
 | _=>true
def V.cells:V→List V
 | .agg cs=>cs
 | v=>[v]
mutual
def V.eqb:V→V→Bool
 | .undef,.undef=>true
 | .bool a,.bool b=>a == b
 | .int k a,.int k' b=>decide (k=k') && decide (a=b)
 | .str a,.str b=>decide (a=b)
 | .nilptr,.nilptr=>true
 | .nilmap,.nilmap=>true
 | .nilfn,.nilfn=>true
 | .nilif,.nilif=>true
 | .sl t nl n cs,.sl t' nl' n' cs'=>decide (t=t') && decide (nl=nl') && decide (n=n') && V.eqbs cs cs'
 | .agg cs,.agg cs'=>V.eqbs cs cs'
 | .tup cs,.tup cs'=>V.eqbs cs cs'
 | .eptr cs o,.eptr cs' o'=>V.eqbs cs cs' && decide (o=o')
 | .fn f a b,.fn f' a' b'=>decide (f=f') && V.eqbs a a' && V.eqbs b b'
 | .iface t v,.iface t' v'=>decide (t=t') && V.eqb v v'
 | .ptr a b c,.ptr a' b' c'=>decide (a=a') && decide (b=b') && decide (c=c')
 | .osl a b c d e,.osl a' b' c' d' e'=>decide (a=a') && decide (b=b') && decide (c=c') && decide (d=d') && decide (e=e')
 | .map a b,.map a' b'=>decide (a=a') && decide (b=b')
 | .iter a b,.iter a' b'=>decide (a=a') && decide (b=b')
 | .yld a b,.yld a' b'=>decide (a=a') && decide (b=b')
 | _,_=>false
def V.eqbs:List V→List V→Bool
 | [],[]=>true
 | a::l,b::m=>V.eqb a b && V.eqbs l m
 | _,_=>false
end
inductive OBody where
 | cells (cs:List V)
 | mp (ver:Nat) (es:List (V × V))
 | siter (s:List UInt8) (pos:Nat)
 | miter (l u ver:Nat) (left:List (V × V)) (last:Option (V × V))
 | nomap
 | loop (s:LS) (pend:Option Ex)
 | dfr
 deriving Inhabited
structure Obj' where
 uid:Nat
 body:OBody
 deriving Inhabited
inductive A where
 | t (n:Nat)
 | c (v:V)
 | g (n:Nat)
 deriving Inhabited
inductive LK where
 | bool|int|str
 deriving Inhabited,DecidableEq
inductive EqK where
 | bool|ptr|sl|map|fn|iface
 | struct (l:List LK)
 deriving Inhabited,DecidableEq
inductive ExtK where
 | count|indexByte
 deriving Inhabited,DecidableEq
inductive AOp where
 | mov (x:A)
 | pick (c a b:A)
 | bin (op:BinOp) (x y:A)
 | eq (neg:Bool) (k:EqK) (x y:A)
 | un (op:UnOp) (x:A)
 | alloc (zero:List V)
 | box (sz:Nat) (x:A)
 | build (zero:List V) (parts:List (Nat × Nat × A))
 | buildSl (o:Bool) (sz:Nat) (zero:List V) (parts:List (Nat × Nat × A)) (n:Nat)
 | load (g:Option Nat) (x:A)
 | store (sz:Nat) (a x:A)
 | nilCheck (x:A)
 | fieldAddr (off:Nat) (x:A)
 | idxSl (sz:Nat) (x i:A)
 | idxArr (len sz:Nat) (x i:A)
 | part (g:Option Nat) (off:Nat) (x:A)
 | idxStr (x i:A)
 | idxVal (g:Option Nat) (len sz:Nat) (x i:A)
 | slStr (x:A) (lo hi:Option A)
 | slSl (sz:Nat) (x:A) (lo hi:Option A)
 | slArr (len sz:Nat) (x:A) (lo hi:Option A)
 | lenStr (x:A)
 | lenSl (x:A)
 | lenMap (x:A)
 | append (o:Bool) (sz bytes:Nat) (s x:A)
 | extract (x:A) (i:Nat)
 | mkFn (f:Fn) (first captured:List A)
 | mkMap
 | lookup (q:LK) (zero:V) (ok:Bool) (m k:A)
 | mapSet (q:LK) (m k v:A)
 | mapDel (q:LK) (m k:A)
 | mapEnt (q:LK) (zero:V) (m k:A)
 | entSt (m i x:A)
 | range (isStr:Bool) (x:A)
 | nextStr (x:A)
 | nextMap (x:A)
 | entry (x:A)
 | iface (t:TypeId) (x:A)
 | assert (t:TypeId) (zero:V) (ok:Bool) (x:A)
 | conv (k:IntKind) (x:A)
 | convId (x:A)
 | strOfBytes (x:A)
 | strOfInt (x:A)
 | runesOfStr (x:A)
 | bytesOfStr (x:A)
 | mkSl (o:Bool) (sz bytes:Nat) (zero:List V) (l c:A)
 | minmax (isMax:Bool) (xs:List A)
 | copy (sz:Nat) (d s:A)
 | clear (sz:Nat) (zero:List V) (x:A)
 | ext (k:ExtK) (xs:List A)
 | call (f:FuncId) (xs:List A)
 | callV (f:A) (xs:List A)
 | stuck
 deriving Inhabited
def AOp.isCall:AOp→Bool
 | .call ..|.callV ..=>true
 | _=>false
def AOp.isNext:AOp→Bool
 | .nextMap _=>true
 | _=>false
structure AOpr where
 dst:Option Nat
 op:AOp
 guard:Option (Nat × Bool)
 nm:Bool
 deriving Inhabited
inductive C where
 | skip
 | region (ops:List AOpr)
 | draw (ops:List AOpr) (free:List (Nat × Nat))
 | pin (o:AOpr) (fs:List AOpr)
 | seq (a b:C)
 | cond (c:A) (a b:C)
 | block (id:Nat) (a:C)
 | loop (a:C)
 | exit (id:Nat)
 | ret
 | rangeFunc (f:A) (ps:List Nat) (asg bd:C)
 | stuck
 deriving Inhabited
inductive ARes where
 | t (n:Nat)
 | cell (n:Nat) (g:Option Nat)
 deriving Inhabited
structure AF where
 body:C
 res:List ARes
 deriving Inhabited
structure Env where
 fc:FuncId→Option AF
 fs:FuncId→Option AF
 sh:Bool→FuncId→Bool
 fz:FuncId→Bool
 tw:FuncId→Bool
 gl:Nat→Option (List V)
 srt:FuncId→Option (Option FuncId):=fun _=>none
 mn:FuncId→Bool:=fun _=>false
 nw:FuncId→Option (List V):=fun _=>none
def upd {α:Type}(f:Nat→α) (k:Nat) (v:α):Nat→α:=fun n=>cond (Nat.beq n k) v (f n)
@[simp] theorem Yc {a:Type}(f:Nat→a) (k:Nat) (v:a):upd f k v k=v:=by simp[upd,Nat.beq_refl]
theorem J9 {a:Type}(f:Nat→a) {k n:Nat}(v:a) (h:n≠k):upd f k v n=f n:=by
 have:Nat.beq n k=false:=by
  cases b:Nat.beq n k with
  | false=>rfl
  | true=>exact absurd (Nat.eq_of_beq_eq_true b) h
 simp[upd,this]
theorem j3 {a:Type}(f:Nat→a) (k:Nat) (v:a) (n:Nat):upd f k v n=if n=k then v else f n:=by
 by_cases h:n=k
 ·subst h;simp
 ·rw[J9 f v h,if_neg h]
abbrev ZO:=Nat→Option Obj'
structure St where
 tm:Nat→V
 ob:ZO
 tk:Nat→Bool
 ro:Nat
 nx:Nat
 fb:Nat
 df:List (Nat × Nat)
def jq:V:=.tup []
def eval (E:Env) (tm:Nat→V):A→V
 | .t n=>tm n
 | .c v=>v
 | .g n=>match E.gl n with
  | some cs=>.eptr cs 0
  | none=>.undef
structure Delta where
 v:V
 obs:List (Nat × Obj'):=[]
 del:Option Nat:=none
 add:List Nat:=[]
 kill:List Nat:=[]
def one (v:V):Option Delta:=some { v }
def XU (op:BinOp) (k:IntKind) (x y:Int):Option V :=
 match op with
 | .add=>some (.int k (k.wrap (x+y)))
 | .sub=>some (.int k (k.wrap (x - y)))
 | .mul=>some (.int k (k.wrap (x*y)))
 | .quo=>if y=0 then none else some (.int k (k.wrap (x.tdiv y)))
 | .rem=>if y=0 then none else some (.int k (x.tmod y))
 | .and=>some (.int k (k.wrap (BitVec.ofInt k.bits x &&& BitVec.ofInt k.bits y).toNat))
 | .or=>some (.int k (k.wrap (BitVec.ofInt k.bits x ||| BitVec.ofInt k.bits y).toNat))
 | .xor=>some (.int k (k.wrap (BitVec.ofInt k.bits x ^^^ BitVec.ofInt k.bits y).toNat))
 | .andNot=>some (.int k (k.wrap (BitVec.ofInt k.bits x &&& ~~~ BitVec.ofInt k.bits y).toNat))
 | .eql=>some (.bool (x == y))
 | .neq=>some (.bool (x != y))
 | .lss=>some (.bool (x<y))
 | .leq=>some (.bool (x≤y))
 | .gtr=>some (.bool (x > y))
 | .geq=>some (.bool (x ≥ y))
 | _=>none
def Q7 (op:BinOp) (k:IntKind) (x y:Int):Option V :=
 if y<0 then none else
 match op with
 | .shl=>some (.int k (k.wrap (x*2 ^ (min y.toNat k.bits))))
 | .shr=>some (.int k (x.fdiv (2 ^ (min y.toNat k.bits))))
 | _=>none
def jil (op:BinOp) (x y:List UInt8):Option V :=
 match op with
 | .add=>if x.length+y.length≤9223372036854775807 then some (.str (x++y)) else none
 | .eql=>some (.bool (x == y))
 | .neq=>some (.bool (!(x == y)))
 | .lss=>some (.bool (Op.bytesLess x y))
 | .leq=>some (.bool (Op.bytesLess x y || x == y))
 | .gtr=>some (.bool (!(Op.bytesLess x y || x == y)))
 | .geq=>some (.bool (!(Op.bytesLess x y)))
 | _=>none
def YT:LK→V→V→Option Bool
 | .bool,.bool a,.bool b=>some (a == b)
 | .int,.int k a,.int k' b=>if k=k' then some (a == b) else none
 | .str,.str a,.str b=>some (a == b)
 | _,_,_=>none
def jj:List LK→List V→List V→Option Bool
 | [],[],[]=>some true
 | k::l,a::x,b::y=>(YT k a b).bind fun r=>(jj l x y).map fun q=>r && q
 | _,_,_=>none
def eqV:EqK→V→V→Option Bool
 | .bool,.bool a,.bool b=>some (a == b)
 | .ptr,.nilptr,.nilptr=>some true
 | .ptr,.ptr ..,.nilptr|.ptr,.nilptr,.ptr ..|.ptr,.eptr ..,.nilptr|.ptr,.nilptr,.eptr ..=>some false
 | .sl,.sl _ nl _ _,.sl _ true 0 []=>some nl
 | .map,.nilmap,.nilmap=>some true
 | .map,.map ..,.nilmap=>some false
 | .fn,.nilfn,.nilfn=>some true
 | .fn,.fn ..,.nilfn=>some false
 | .iface,.nilif,.nilif=>some true
 | .iface,.iface ..,.nilif|.iface,.nilif,.iface ..=>some false
 | .struct l,.agg a,.agg b=>jj l a b
 | _,_,_=>none
def Y8 (op:BinOp) (x y:V):Option V :=
 match x,y with
 | .int k a,.int k' b=>
  match op with
  | .shl|.shr=>Q7 op k a b
  | _=>if k=k' then XU op k a b else none
 | .str a,.str b=>jil op a b
 | _,_=>none
def unV (op:UnOp) (x:V):Option V :=
 match op,x with
 | .not,.bool b=>some (.bool (!b))
 | .neg,.int k n=>some (.int k (k.wrap (0 - n)))
 | .xor,.int k n=>XU .xor k (if k.signed then -1 else k.max) n
 | _,_=>none
def Xb (g:Option Nat) (cs:List V) (off:Nat):Option V :=
 match g with
 | some n=>if off+n≤cs.length then some (.agg ((cs.drop off).take n)) else none
 | none=>cs[off]?
def j2 (cs:List V) (off:Nat) (vs:List V):List V:=cs.take off++vs++cs.drop (off+vs.length)
def objCells (ob:ZO) (l u:Nat):Option (List V) :=
 match ob l with
 | some ⟨u',.cells cs⟩=>if u'=u then some cs else none
 | _=>none
def jg (ob:ZO) (l u:Nat):Option (List (V × V)) :=
 match ob l with
 | some ⟨u',.mp _ es⟩=>if u'=u then some es else none
 | _=>none
abbrev ju0:Nat:=1000000000000
def jk (ob:ZO) (l:Nat):Nat :=
 match ob l with
 | some ⟨_,.mp ver _⟩=>ver
 | _=>0
def slCells (ob:ZO) (sz:Nat):V→Option (List V)
 | .sl _ _ n cs=>if cs.length=n*sz then some cs else none
 | .osl l u off n sz'=>if sz'=sz then (objCells ob l u).bind fun cs=>if off+n*sz≤cs.length then some ((cs.drop off).take (n*sz)) else none else none
 | _=>none
def fill (cs:List V):List (Nat × Nat × V)→Option (List V)
 | []=>some cs
 | (off,sz,v)::rest=>
  if v.cells.length=sz∧off+sz≤cs.length∧v.cells.all V.leaf=true then fill (j2 cs off v.cells) rest else none
def jt (ρ:A→V) (ps:List (Nat × Nat × A)):List (Nat × Nat × V):=ps.map fun(o,s,x)=>(o,s,ρ x)
def Jx (len cap:Nat) (lo hi:Option V):Option (Nat × Nat) :=
 let h:=match hi with
  | some (.int _ h)=>if 0≤h∧h≤cap then some h.toNat else none
  | some _=>none
  | none=>some len
 h.bind fun h=>match lo with
  | some (.int _ l)=>if 0≤l∧l≤h then some (l.toNat,h) else none
  | some _=>none
  | none=>some (0,h)
def findKey (q:LK) (k:V):List (V × V)→Option (Option (Nat × V))
 | []=>some none
 | (k',v)::es=>match YT q k k' with
  | some true=>some (some (0,v))
  | some false=>(findKey q k es).map fun r=>r.map fun(i,v)=>(i+1,v)
  | none=>none
def ja4:LK→V→Bool
 | .bool,.bool _=>true
 | .int,.int _ _=>true
 | .str,.str _=>true
 | _,_=>false
def V.pureLeaf:V→Bool
 | .undef|.tup _|.ptr ..|.osl ..|.map ..|.iter ..|.agg _|.fn ..|.yld ..=>false
 | .sl t _ _ _=>t.isNone
 | .iface _ v=>match v with|.bool _|.int ..|.str _|.agg []=>true|_=>false
 | _=>true
def V.pureTop:V→Bool
 | .agg cs=>cs.all V.pureLeaf
 | .fn _ first captured=>(first++captured).all fun c=>match c with
  | .agg cs=>cs.all V.pureLeaf
  | c=>c.pureLeaf
 | v=>v.pureLeaf
def V.strip1:V→V
 | .sl _ nl n cs=>.sl none nl n cs
 | v=>v
def V.strip:V→V
 | .sl _ nl n cs=>.sl none nl n cs
 | .agg cs=>.agg (cs.map V.strip1)
 | .fn f first captured=>.fn f (first.map fun c=>match c with|.agg cs=>.agg (cs.map V.strip1)|c=>c.strip1)
  (captured.map fun c=>match c with|.agg cs=>.agg (cs.map V.strip1)|c=>c.strip1)
 | v=>v
def V.tok:V→List Nat
 | .sl (some (u,_)) _ _ _=>[u]
 | .osl _ u _ _ _=>[u]
 | _=>[]
def V.toks:V→List Nat
 | .agg cs=>cs.flatMap V.tok
 | v=>v.tok
def nodup:List Nat→Bool
 | []=>true
 | a::l=>!(l.any fun b=>Nat.beq a b) && nodup l
def JC (st:St):Nat→V→Option V
 | 0,_=>none
 | k+1,v=>match v with
  | .sl (some _) nl n cs=>some (.sl none nl n cs)
  | .osl l u off n sz=>(objCells st.ob l u).bind fun cs=>if Nat.ble st.ro u=true∧off+n*sz≤cs.length then
   (((cs.drop off).take (n*sz)).mapM (JC st k)).map fun cs'=>.sl none false n cs' else none
  | v=>if v.pureLeaf then some v else none
def ji (st:St) (keep:Bool) (i:Nat):V→Option V
 | .sl (some (u,z)) nl n cs=>some (.sl (if keep && st.tk u then some (i,z) else none) nl n cs)
 | .osl l u off n sz=>(JC st 6 (.osl l u off n sz)).bind fun v=>match v with
  | .sl _ nl n' cs=>(objCells st.ob l u).map fun cs0=>.sl (if keep && Nat.beq off 0 && Nat.blt 0 n && Nat.beq (n*sz) cs0.length then some (i,sz) else none) nl n' cs
  | _=>none
 | v=>JC st 6 v
def Xc (st:St) (keep:Bool):Nat→List V→Option (List V)
 | _,[]=>some []
 | i,v::vs=>(ji st keep i v).bind fun x=>(Xc st keep (i+1) vs).map (x::·)
def XS (st:St) (keep:Bool) (i:Nat):V→Option V
 | .agg cs=>(Xc st keep i cs).map .agg
 | .fn f first captured=>if (V.fn f first captured).strip.pureTop then some (V.fn f first captured).strip else none
 | v=>ji st keep i v
def JE (st:St) (keep:Bool):Nat→List V→Option (List V)
 | _,[]=>some []
 | i,v::vs=>(XS st keep i v).bind fun x=>(JE st keep (i+16) vs).map (x::·)
def Yg (st:St) (vs:List V):Option V :=
 (JE st (nodup (vs.flatMap V.toks)) 0 vs).bind fun l=>if nodup (l.flatMap V.toks) then (match l with
  | [v]=>some v
  | l=>some (.tup l)) else none
def Y6 (ub:Nat):V→V
 | .sl (some (i,z)) nl n cs=>.sl (some (ub+i,z)) nl n cs
 | v=>v
def jbw (ub:Nat):V→V
 | .agg cs=>.agg (cs.map (Y6 ub))
 | v=>Y6 ub v
def jbx (ub:Nat):V→V
 | .tup vs=>.tup (vs.map (jbw ub))
 | v=>jbw ub v
def toksRes:V→List Nat
 | .tup vs=>vs.flatMap V.toks
 | v=>v.toks
def Jg (d ub:Nat) (b:OBody) (v:V):Option Delta:=some { v,obs:=[(d,⟨ub,b⟩)] }
def Xa (ub:Nat) (r:V):Option Delta :=
 if (toksRes r).all (fun i=>Nat.blt i 64) then some { v:=jbx ub r,add:=(toksRes r).map (ub + ·) } else none
def jb4 (call:FuncId→List V→Option V) (ub:Nat) (f:FuncId) (xs:List V):Option Delta :=
 if xs.all V.pureTop then (call f xs).bind (Xa ub) else none
def jho (isMax:Bool):V→V→Option V
 | .int k x,.int k' y=>if k=k' then some (.int k (if isMax then (if y > x then y else x) else (if y<x then y else x))) else none
 | _,_=>none
def Wr (isMax:Bool):V→List V→Option V
 | x,[]=>some x
 | x,y::ys=>(jho isMax x y).bind fun z=>Wr isMax z ys
def QX (n:Nat) (z:List V):List V:=(List.range (n*z.length)).map fun i=>z.getD (i % z.length) .undef
def jby:List UInt8→UInt8→Int
 | [],_=>-1
 | b::l,c=>if b == c then 0 else if jby l c == -1 then -1 else jby l c+1
def j3g:ExtK→List V→Option Delta
 | .count,[.str s,.int .u8 c]=>one (.int .i64 (s.count c.toNat.toUInt8:Nat))
 | .indexByte,[.str s,.int .u8 c]=>one (.int .i64 (jby s c.toNat.toUInt8))
 | _,_=>none
def XK (s:List UInt8):Nat→Nat→List Nat
 | 0,_=>[]
 | b+1,i=>if i<s.length then (Utf8.decode ⟨s.toArray⟩ i).1::XK s b (i+(Utf8.decode ⟨s.toArray⟩ i).2) else []
def aop (call:FuncId→List V→Option V) (ρ:A→V) (ob:ZO) (tk:Nat→Bool) (ro d ub:Nat):AOp→Option Delta
 | .mov x=>one (ρ x)
 | .pick c a b=>match ρ c with
  | .bool t=>one (cond t (ρ a) (ρ b))
  | _=>none
 | .bin op x y=>(Y8 op (ρ x) (ρ y)).bind one
 | .eq neg k x y=>match k,ρ x,ρ y with
  | .ptr,.ptr l u off,.ptr l' u' off'=>if (objCells ob l u).isSome && (objCells ob l' u').isSome then one (.bool (xor neg (Nat.beq l l' && Nat.beq off off'))) else none
  | k,a,b=>(eqV k a b).bind fun b=>one (.bool (xor neg b))
 | .un op x=>(unV op (ρ x)).bind one
 | .alloc zero=>Jg d ub (.cells zero) (.ptr d ub 0)
 | .box sz x=>if (ρ x).cells.length=sz∧(ρ x).cells.all V.leaf=true then Jg d ub (.cells (ρ x).cells) (.ptr d ub 0) else none
 | .build zero parts=>(fill zero (jt ρ parts)).bind fun cs=>one (.agg cs)
 | .buildSl o sz zero parts n=>(fill zero (jt ρ parts)).bind fun cs=>
  if o then (if cs.length=n*sz∧cs.all V.leaf=true then Jg d ub (.cells cs) (.osl d ub 0 n sz) else none) else if cs.length=n*sz∧(cs.map V.strip1).all V.pureLeaf=true then some { v:=.sl (some (ub,sz)) false n (cs.map V.strip1),add:=[ub] } else none
 | .load g x=>match ρ x with
  | .eptr cs off=>(Xb g cs off).bind one
  | .ptr l u off=>(objCells ob l u).bind fun cs=>(Xb g cs off).bind one
  | _=>none
 | .store sz a x=>match ρ a with
  | .ptr l u off=>(objCells ob l u).bind fun cs=>
   if Nat.ble ro u=true∧(ρ x).cells.length=sz∧off+sz≤cs.length∧(ρ x).cells.all V.leaf=true then
    some { v:=jq,obs:=[(l,⟨u,.cells (j2 cs off (ρ x).cells)⟩)] } else none
  | _=>none
 | .nilCheck x=>match ρ x with
  | .ptr l u o=>one (.ptr l u o)
  | .eptr cs o=>one (.eptr cs o)
  | .fn (.func f) a b=>one (.fn (.func f) a b)
  | _=>none
 | .fieldAddr off x=>match ρ x with
  | .ptr l u o=>one (.ptr l u (o+off))
  | .eptr cs o=>one (.eptr cs (o+off))
  | _=>none
 | .idxSl sz x i=>match ρ x,ρ i with
  | .sl _ _ n cs,.int _ i=>if 0≤i∧i<n∧cs.length=n*sz then one (.eptr cs (i.toNat*sz)) else none
  | .osl l u off n sz',.int _ i=>if 0≤i∧i<n∧sz'=sz then one (.ptr l u (off+i.toNat*sz)) else none
  | _,_=>none
 | .idxArr len sz x i=>match ρ x,ρ i with
  | .ptr l u off,.int _ i=>if 0≤i∧i<len then one (.ptr l u (off+i.toNat*sz)) else none
  | .eptr cs off,.int _ i=>if 0≤i∧i<len then one (.eptr cs (off+i.toNat*sz)) else none
  | _,_=>none
 | .part g off x=>match ρ x with
  | .agg cs=>(Xb g cs off).bind one
  | _=>none
 | .idxStr x i=>match ρ x,ρ i with
  | .str s,.int _ i=>if 0≤i then (s[i.toNat]?).bind fun b=>one (.int .u8 b.toNat) else none
  | _,_=>none
 | .idxVal g len sz x i=>match ρ x,ρ i with
  | .agg cs,.int _ i=>if 0≤i∧i<len then (Xb g cs (i.toNat*sz)).bind one else none
  | _,_=>none
 | .slStr x lo hi=>match ρ x with
  | .str s=>(Jx s.length s.length (lo.map ρ) (hi.map ρ)).bind fun(l,h)=>one (.str ((s.take h).drop l))
  | _=>none
 | .slSl sz x lo hi=>match ρ x with
  | .sl _ nl n cs=>if cs.length=n*sz then (Jx n n (lo.map ρ) (hi.map ρ)).bind fun(l,h)=>one (.sl none nl (h - l) ((cs.take (h*sz)).drop (l*sz))) else none
  | .osl a u off n sz'=>if sz'=sz then (Jx n n (lo.map ρ) (hi.map ρ)).bind fun(l,h)=>one (.osl a u (off+l*sz) (h - l) sz) else none
  | _=>none
 | .slArr len sz x lo hi=>match ρ x with
  | .ptr a u off=>(objCells ob a u).bind fun cs=>if off+len*sz≤cs.length then (Jx len len (lo.map ρ) (hi.map ρ)).bind fun(l,h)=>one (.osl a u (off+l*sz) (h - l) sz) else none
  | _=>none
 | .lenStr x=>match ρ x with
  | .str s=>one (.int .i64 s.length)
  | _=>none
 | .lenSl x=>match ρ x with
  | .sl _ _ n _=>one (.int .i64 n)
  | .osl _ _ _ n _=>one (.int .i64 n)
  | _=>none
 | .lenMap x=>match ρ x with
  | .nilmap=>one (.int .i64 0)
  | .map l u=>(jg ob l u).bind fun es=>one (.int .i64 es.length)
  | _=>none
 | .append o sz bytes s x=>match ρ s with
  | .sl t nl n cs=>(slCells ob sz (ρ x)).bind fun ys=>
   if ys=[] then (if cs.length=n*sz then one (.sl t nl n cs) else none) else
   if o && nl then
    (if 0<sz∧ys.all V.leaf=true∧(ys.length / sz)*bytes≤140737488355328∧ys.length / sz≤140737488355328 then Jg d ub (.cells ys) (.osl d ub 0 (ys.length / sz) sz) else none) else
   if cs.length=n*sz∧0<sz∧ys.all V.pureLeaf=true∧(n+ys.length / sz)*bytes≤140737488355328∧n+ys.length / sz≤140737488355328 then
    match t with
    | some (u,z)=>if tk u=true∧z=sz then some { v:=.sl (some (ub,sz)) false (n+ys.length / sz) (cs++ys),del:=some u,add:=[ub] } else none
    | none=>if nl then some { v:=.sl (some (ub,sz)) false (n+ys.length / sz) (cs++ys),add:=[ub] } else none
   else none
  | .osl l u off n sz'=>(slCells ob sz (ρ x)).bind fun ys=>(objCells ob l u).bind fun cs=>
   if ys=[] then one (.osl l u off n sz') else
   if Nat.ble ro u=true∧sz'=sz∧off=0∧n*sz≤cs.length∧0<sz∧ys.all V.leaf=true∧(n+ys.length / sz)*bytes≤140737488355328∧n+ys.length / sz≤140737488355328 then
    some { v:=.osl d ub 0 (n+ys.length / sz) sz,obs:=[(d,⟨ub,.cells (cs.take (n*sz)++ys)⟩)],kill:=[l] } else none
  | _=>none
 | .extract x i=>match ρ x with
  | .tup vs=>(vs[i]?).bind one
  | _=>none
 | .mkFn f first captured=>one (.fn f (first.map ρ) (captured.map ρ))
 | .mkMap=>Jg d ub (.mp 0 []) (.map d ub)
 | .lookup q zero ok m k=>
  let fin (r:Option (Nat × V)):Option Delta:=match r with
   | some (_,v)=>one (if ok then .tup [v,.bool true] else v)
   | none=>one (if ok then .tup [zero,.bool false] else zero)
  if ja4 q (ρ k) then match ρ m with
  | .nilmap=>fin none
  | .map l u=>(jg ob l u).bind fun es=>(findKey q (ρ k) es).bind fin
  | _=>none else none
 | .mapSet q m k v=>if ja4 q (ρ k) then match ρ m with
  | .map l u=>if Nat.ble ro u then (jg ob l u).bind fun es=>(findKey q (ρ k) es).bind fun r=>match r with
   | some (i,_)=>some { v:=jq,obs:=[(l,⟨u,.mp (jk ob l+1) (es.set i (ρ k,(ρ v).strip))⟩)] }
   | none=>some { v:=jq,obs:=[(l,⟨u,.mp (jk ob l+1) (es++[(ρ k,(ρ v).strip)])⟩)] }
   else none
  | _=>none else none
 | .mapDel q m k=>if ja4 q (ρ k) then match ρ m with
  | .nilmap=>one jq
  | .map l u=>if Nat.ble ro u then (jg ob l u).bind fun es=>(findKey q (ρ k) es).bind fun r=>match r with
   | some (i,_)=>some { v:=jq,obs:=[(l,⟨u,.mp (jk ob l+ju0) (es.eraseIdx i)⟩)] }
   | none=>some { v:=jq,obs:=[(l,⟨u,.mp (jk ob l+1) es⟩)] }
   else none
  | _=>none else none
 | .mapEnt q zero m k=>if ja4 q (ρ k) then match ρ m with
  | .map l u=>if Nat.ble ro u && Nat.blt (jk ob l) ju0 then (jg ob l u).bind fun es=>(findKey q (ρ k) es).bind fun r=>match r with
   | some (i,v)=>some { v:=.tup [v,.int .i64 i],obs:=[(l,⟨u,.mp (jk ob l+1) (es.set i (ρ k,v))⟩)] }
   | none=>some { v:=.tup [zero,.int .i64 es.length],obs:=[(l,⟨u,.mp (jk ob l+1) (es++[(ρ k,zero)])⟩)] }
   else none
  | _=>none else none
 | .entSt m i x=>match ρ m,ρ i with
  | .map l u,.int .i64 (.ofNat n)=>if Nat.ble ro u && Nat.blt (jk ob l) ju0 then (jg ob l u).bind fun es=>match es[n]? with
   | some (k,_)=>some { v:=jq,obs:=[(l,⟨u,.mp (jk ob l+1) (es.set n (k,(ρ x).strip))⟩)] }
   | none=>none
   else none
  | _,_=>none
 | .range true x=>match ρ x with
  | .str s=>Jg d ub (.siter s 0) (.iter d ub)
  | _=>none
 | .range false x=>match ρ x with
  | .nilmap=>Jg d ub .nomap (.iter d ub)
  | .map l u=>(jg ob l u).bind fun es=>Jg d ub (.miter l u (jk ob l) es none) (.iter d ub)
  | _=>none
 | .nextMap _=>none
 | .entry x=>match ρ x with
  | .iter l u=>match ob l with
   | some ⟨u',.miter l' u2 ver _ (some (k,v))⟩=>if u'=u∧(jg ob l' u2).isSome=true∧jk ob l'=ver then one (.tup [k,v]) else none
   | _=>none
  | _=>none
 | .nextStr x=>match ρ x with
  | .iter l u=>match ob l with
   | some ⟨u',.siter s pos⟩=>if Nat.ble ro u∧u'=u then
    (if pos<s.length then some { v:=.tup [.bool true,.int .i64 pos,.int .i32 ((Utf8.decode ⟨s.toArray⟩ pos).1:Nat)],obs:=[(l,⟨u,.siter s (pos+(Utf8.decode ⟨s.toArray⟩ pos).2)⟩)] }
     else one (.tup [.bool false])) else none
   | _=>none
  | _=>none
 | .iface t x=>one (.iface t (ρ x))
 | .assert t zero ok x=>match ρ x with
  | .iface t' v=>if t'=t then one (if ok then .tup [v,.bool true] else v) else if ok then one (.tup [zero,.bool false]) else none
  | .nilif=>if ok then one (.tup [zero,.bool false]) else none
  | _=>none
 | .conv k x=>match ρ x with
  | .int _ n=>one (.int k (k.wrap n))
  | _=>none
 | .convId x=>match ρ x with
  | .str s=>one (.str s)
  | _=>none
 | .strOfBytes _=>none
 | .strOfInt _=>none
 | .runesOfStr x=>match ρ x with
  | .str s=>let rs:=XK s s.length 0
   if rs.length≤70368744177664 then some { v:=.sl (some (ub,1)) false rs.length (rs.map fun r=>.int .i32 (r:Nat)),add:=[ub] } else none
  | _=>none
 | .bytesOfStr _=>none
 | .mkSl o sz bytes zero l c=>match ρ l,ρ c with
  | .int .i64 l,.int .i64 c=>if 0≤l∧l≤c∧c*bytes≤140737488355328∧c≤140737488355328∧zero.length=sz∧0<sz then
   (if !o∧l=0 then some { v:=.sl (some (ub,sz)) false 0 [],add:=[ub] } else Jg d ub (.cells (QX l.toNat zero)) (.osl d ub 0 l.toNat sz)) else none
  | _,_=>none
 | .minmax isMax xs=>match xs.map ρ with
  | []=>none
  | x::r=>(Wr isMax x r).bind one
 | .copy sz x y=>(slCells ob sz (ρ y)).bind fun ys=>match ρ x with
  | .osl l u off n sz'=>if Nat.ble ro u=true∧sz'=sz∧0<sz∧ys.all V.leaf=true then (objCells ob l u).bind fun cs=>
   if off+n*sz≤cs.length then some { v:=.int .i64 (Nat.min (ys.length / sz) n:Nat),obs:=[(l,⟨u,.cells (j2 cs off (ys.take (Nat.min (ys.length / sz) n*sz)))⟩)] } else none else none
  | .sl _ _ 0 []=>one (.int .i64 0)
  | _=>none
 | .clear sz zero x=>match ρ x with
  | .osl l u off n sz'=>if Nat.ble ro u=true∧sz'=sz∧zero.length=sz then (objCells ob l u).bind fun cs=>
   if off+n*sz≤cs.length then some { v:=jq,obs:=[(l,⟨u,.cells (j2 cs off (QX n zero))⟩)] } else none else none
  | .sl _ _ 0 []=>one jq
  | _=>none
 | .ext k xs=>j3g k (xs.map ρ)
 | .call f xs=>jb4 call ub f (xs.map fun x=>(ρ x).strip)
 | .callV f xs=>match ρ f with
  | .fn (.func g) first captured=>jb4 call ub g ((first++xs.map ρ++captured).map V.strip)
  | _=>none
 | .stuck=>none
def jjb (l u l' u' ver:Nat):List (V × V)→List (V × V)→List Delta
 | _,[]=>[]
 | pre,(k,v)::r=>{ v:=.tup [.bool true,k,v],obs:=[(l,⟨u,.miter l' u' ver (pre++r) (some (k,v))⟩)] }::jjb l u l' u' ver (pre++[(k,v)]) r
def jlp (ob:ZO) (ro:Nat) (x:V):Option (List Delta) :=
 match x with
 | .iter l u=>match ob l with
  | some ⟨u0,.miter l' u' ver left _⟩=>if Nat.ble ro u=true∧u0=u∧(jg ob l' u').isSome=true∧jk ob l'=ver then (match left with
   | []=>some [{ v:=.tup [.bool false] }]
   | es=>some (jjb l u l' u' ver [] es)) else none
  | some ⟨u0,.nomap⟩=>if u0=u then some [{ v:=.tup [.bool false] }] else none
  | _=>none
 | _=>none
def put (tm:Nat→V) (d:Option Nat) (v:V):Nat→V :=
 match d with
 | some d=>upd tm d v
 | none=>tm
def JK (ob:ZO):List (Nat × Obj')→ZO
 | []=>ob
 | (l,o)::r=>upd (JK ob r) l (some o)
def XQ (tk:Nat→Bool) (b:Bool):List Nat→Nat→Bool
 | []=>tk
 | u::r=>upd (XQ tk b r) u b
def St.app (st:St) (dst:Option Nat) (δ:Delta):St :=
 { st with tm:=put st.tm dst δ.v,ob:=JK (fun k=>if δ.kill.any (Nat.beq k) then none else st.ob k) δ.obs,tk:=XQ (XQ st.tk false δ.del.toList) true δ.add }
def wanted (o:AOpr) (tm:Nat→V):Option Bool :=
 match o.guard with
 | none=>some true
 | some (t,b)=>match tm t with
  | .bool b'=>some (b' == b)
  | .tup []=>some false
  | _=>none
def AOpr.name (o:AOpr) (fb ub:Nat):Nat:=cond o.nm (2*ub+1) (2*(fb+o.dst.getD 0))
abbrev Y:=Nat→Nat→List V→(ZO)→(Nat→Bool)→Nat→Nat→Option (V × (ZO) × (Nat→Bool) × Nat)
def noY:Y:=fun _ _ _ _ _ _ _=>none
structure Callers where
 d:FuncId→List V→Option V
 o:FuncId→List V→(ZO)→(Nat→Bool)→Nat→Nat→Option V
 s:FuncId→List V→(ZO)→(Nat→Bool)→Nat→Nat→Nat→Option (List (V × (ZO) × (Nat→Bool) × Nat))
 y:Y
def jA (E:Env) (nm:Bool) (ρ:A→V):AOp→Option (FuncId × List V)
 | .call f xs=>if !E.sh nm f && xs.all fun x=>(ρ x).strip.pureTop then none else some (f,xs.map ρ)
 | .callV f xs=>match ρ f with
  | .fn (.func g) first captured=>if !E.sh nm g && (first++xs.map ρ++captured).all fun v=>v.strip.pureTop then none else some (g,first++xs.map ρ++captured)
  | _=>none
 | _=>none
def jf (ρ:A→V):AOp→Option (Nat × Nat × List V)
 | .callV f xs=>match ρ f with
  | .yld l u=>some (l,u,xs.map ρ)
  | _=>none
 | _=>none
def AOp.next?:AOp→Option A
 | .nextMap x=>some x
 | _=>none
def AOp.far:AOp→Bool
 | .entry _|.nextMap _=>true
 | _=>false
def jb8 (E:Env) (call:Callers) (o:AOpr) (st:St) (ub:Nat):Option (List (St × Nat)) :=
 match wanted o st.tm with
 | some true=>match jf (eval E st.tm) o.op with
  | some (l,u,xs)=>(call.y l u xs st.ob st.tk st.ro ub).map fun(r,ob,tk,ub')=>[({ st with tm:=put st.tm o.dst r,ob:=ob,tk:=tk },ub')]
  | none=>match jA E o.nm (eval E st.tm) o.op with
   | some (f,xs)=>if E.sh o.nm f then (call.s f xs st.ob st.tk st.ro ((st.fb+o.dst.getD 0+1)*1024) ub).map fun l=>l.map fun x=>({ st with tm:=put st.tm o.dst x.1,ob:=x.2.1,tk:=x.2.2.1 },x.2.2.2)
    else ((call.o f xs st.ob st.tk ((st.fb+o.dst.getD 0+1)*1024) ub).bind (Xa ub)).map fun δ=>[(st.app o.dst δ,ub+64)]
   | none=>match o.op.next? with
    | some x=>(jlp st.ob st.ro (eval E st.tm x)).map fun l=>l.map fun δ=>(st.app o.dst δ,ub+64)
    | none=>(aop call.d (eval E st.tm) st.ob st.tk st.ro (o.name st.fb ub) ub o.op).map fun δ=>[(st.app o.dst δ,ub+64)]
 | some false=>some [({ st with tm:=put st.tm o.dst jq },ub)]
 | none=>none
def Qe {α β:Type}(f:α→Option (List β)):List α→Option (List β)
 | []=>some []
 | [x]=>f x
 | x::y::r=>(f x).bind fun a=>(Qe f (y::r)).map (a++·)
def bindL {α β:Type}(m:Option (List α)) (f:α→Option (List β)):Option (List β):=m.bind (Qe f)
def jhh (E:Env) (call:Callers):List AOpr→St→Nat→Option (List St)
 | [],st,ub=>some [{ st with nx:=ub }]
 | o::rest,st,ub=>bindL (jb8 E call o st ub) fun x=>jhh E call rest x.1 x.2
def lOf:V→List Nat
 | .ptr l _ _|.osl l _ _ _ _|.map l _|.iter l _=>[l]
 | _=>[]
def uOf:V→List Nat
 | .sl (some (u,_)) _ _ _=>[u]
 | _=>[]
def rdOb (ρ:A→V):AOp→List Nat
 | .load _ x|.store _ x _|.lookup _ _ _ x _|.lenMap x|.mapSet _ x _ _|.mapDel _ x _|.mapEnt _ _ x _|.entSt x _ _|.nextStr x|.range _ x|.clear _ _ x|.slArr _ _ x _ _=>lOf (ρ x)
 | .append _ _ _ x y|.eq _ _ x y|.copy _ x y=>lOf (ρ x)++lOf (ρ y)
 | _=>[]
def rdTk (ρ:A→V):AOp→List Nat
 | .append _ _ _ s _=>uOf (ρ s)
 | _=>[]
def Jm (args:List V) (ob:ZO) (tk:Nat→Bool) (ro base ub:Nat):St:={ tm:=fun n=>args.getD n jq,ob:=ob,tk:=tk,ro:=ro,nx:=ub,fb:=base,df:=[] }
def W6 (ob:ZO):V→Option V
 | .agg cs=>(cs.mapM (JC (Jm [] ob (fun _=>false) 0 0 0) 6)).map .agg
 | .fn ..=>none
 | v=>JC (Jm [] ob (fun _=>false) 0 0 0) 6 v
def V.scal:V→Bool
 | .bool _|.int _ _|.str _|.nilptr|.nilmap|.nilfn|.nilif=>true
 | .sl none nl n cs=>nl && n == 0 && cs.isEmpty
 | _=>false
def V.freeL:V→Bool
 | .sl (some _) _ _ cs=>cs.all V.scal
 | v=>v.scal
def V.freeT:V→Bool
 | .agg cs=>cs.all V.freeL
 | v=>v.freeL
def V.freeR:V→Bool
 | .tup vs=>vs.all V.freeT
 | v=>v.freeT
def jvm (ob:ZO) (tk:Nat→Bool) (ub:Nat):V→Option (V × (ZO) × (Nat→Bool) × Nat)
 | .sl (some (_,z)) false n cs=>if cs.all V.scal then some (.osl (2*ub+1) ub 0 n z,upd ob (2*ub+1) (some ⟨ub,.cells cs⟩),tk,ub+64) else none
 | r=>if r.scal then some (r,ob,tk,ub+64) else none
def QO (d ub:Nat):V→Option Delta
 | .sl (some (_,z)) false n cs=>if cs.all V.scal then some { v:=.osl d ub 0 n z,obs:=[(d,⟨ub,.cells cs⟩)] } else none
 | r=>if r.scal then some { v:=r } else none
def mkD (E:Env) (f:FuncId) (xs:List V) (d ub:Nat):Option Delta :=
 match E.nw f,xs with
 | some cs,[.sl none true 0 []]=>some { v:=.ptr d ub 0,obs:=[(d,⟨ub,.cells cs⟩)] }
 | _,_=>none
structure FP where
 ro:List Nat:=[]
 wo:List Nat:=[]
 rt:List Nat:=[]
 wt:List Nat:=[]
 all:Bool:=false
 seen:Nat→Bool:=fun _=>false
 nw:Bool:=false
def Qv (x y:List Nat):Bool:=!(x.any fun a=>y.any fun b=>Nat.beq a b)
def QR (f g:FP):Bool:=Qv f.wo g.ro && Qv f.wo g.wo && Qv f.ro g.wo && Qv f.wt g.rt && Qv f.wt g.wt && Qv f.rt g.wt && (!f.all || g.wo.all fun l=>!f.seen l) && (!g.all || f.wo.isEmpty)
def Delta.wo (δ:Delta):List Nat:=δ.kill++δ.obs.map (·.1)
def Delta.wt (δ:Delta):List Nat:=δ.del.toList++δ.add
def jbf (ρ:A→V) (o:AOp) (δ:Delta):FP:={ ro:=rdOb ρ o,wo:=δ.wo,rt:=rdTk ρ o,wt:=δ.wt }
def Y4 (E:Env) (call:Callers):List AOpr→St→Nat→Option (List FP × St)
 | [],st,ub=>some ([],{ st with nx:=ub })
 | o::r,st,ub=>match wanted o st.tm with
  | some true=>match jA E o.nm (eval E st.tm) o.op with
   | some (f,xs)=>if E.sh o.nm f then (if E.tw f then (((xs.mapM (W6 st.ob)).bind fun a'=>call.d f a').bind (QO (o.name st.fb ub) ub)).bind fun δ=>
    (Y4 E call r (st.app o.dst δ) (ub+64)).map fun x=>({ wo:=δ.wo,all:=true,seen:=fun l=>(st.ob l).isSome,nw:=true }::x.1,x.2) else (mkD E f xs (o.name st.fb ub) ub).bind fun δ=>
    (Y4 E call r (st.app o.dst δ) (ub+64)).map fun x=>({ wo:=δ.wo,nw:=true }::x.1,x.2)) else
    ((call.o f xs st.ob st.tk ((st.fb+o.dst.getD 0+1) * 1024) (ub+64 * (r.length+1))).bind (Xa ub)).bind fun δ =>
      (Y4 E call r (st.app o.dst δ) (ub+64)).map fun x=>({ wt:=δ.wt,all:=true,seen:=fun l=>(st.ob l).isSome }::x.1,x.2)
   | none=>if o.op.far then none else
    (aop call.d (eval E st.tm) st.ob st.tk st.ro (o.name st.fb ub) ub o.op).bind fun δ=>
     (Y4 E call r (st.app o.dst δ) (ub+64)).map fun x=>(jbf (eval E st.tm) o.op δ::x.1,x.2)
  | some false=>(Y4 E call r (st.app o.dst { v:=jq }) (ub+64)).map fun x=>({}::x.1,x.2)
  | none=>none
def Jw (free:List (Nat × Nat)) (fs:List FP):Bool:=free.all fun p=>QR (fs.getD p.1 {}) (fs.getD p.2 {})
def jsn (fs:List FP):Bool:=fs.all fun f=>!f.nw
def Wp (f g:FP):Bool:=Qv f.wo g.ro && Qv f.wo g.wo && !g.all
def jsp (fs:List FP):Bool:=(List.range fs.length).all fun i=>!(fs.getD i {}).nw || (List.range fs.length).all fun j=>Nat.beq i j || Wp (fs.getD i {}) (fs.getD j {})
def Qo (fs:List FP):Bool:=jsn fs || jsp fs
def AOp.still:AOp→Bool
 | .mov _|.pick ..|.bin ..|.un ..|.eq ..|.load ..|.nilCheck _|.fieldAddr ..|.idxSl ..|.idxArr ..|.part ..|.idxVal ..|.lenStr _|.lenSl _|.lenMap _|.extract ..|.conv ..|.lookup ..|.minmax ..=>true
 | _=>false
def jcv (fs:List AOpr) (s s':St):Bool:=fs.all fun o=>match o.dst with|some d=>V.eqb (s.tm d) (s'.tm d)|none=>true
abbrev j4c:=Option (List (Ex × St))
def jay (body:St→j4c):Nat→St→j4c
 | 0,_=>none
 | n+1,st=>bindL (body st) fun x=>match x with
  | (.nrm,st')=>jay body n st'
  | (e,st')=>some [(e,st')]
def jdo (tm:Nat→V):List Nat→List V→Nat→V
 | p::ps,v::vs=>jdo (upd tm p v) ps vs
 | _,_=>tm
def QW (fa fb:St→j4c) (st:St) (ps:List Nat) (l u:Nat):Y:=fun l' u' args ob tk ro ub=>
 if l'=l∧u'=u∧args.length=ps.length∧Nat.ble ro u=true then match ob l with
 | some ⟨u1,.loop .ready none⟩=>if u1=u then match fa { tm:=jdo st.tm ps args,ob,tk,ro,nx:=ub,fb:=st.fb,df:=[] } with
  | some [(.nrm,s1)]=>match s1.ob l with
   | some ⟨u2,.loop .ready none⟩=>if u2=u then match fb { s1 with ob:=upd s1.ob l (some ⟨u,.loop .busy none⟩) } with
    | some [(e,s2)]=>match s2.ob l with
     | some ⟨u3,.loop .busy none⟩=>if u3=u then (match e with
      | .nrm=>some (.bool true,upd s2.ob l (some ⟨u,.loop .ready none⟩),s2.tk,s2.nx)
      | e=>some (.bool false,upd s2.ob l (some ⟨u,.loop .done (some e)⟩),s2.tk,s2.nx)) else none
     | _=>none
    | _=>none else none
   | _=>none
  | _=>none else none
 | _=>none else none
def only {α:Type}:Option (List α)→Option α
 | some [x]=>some x
 | _=>none
def jW (E:Env) (call:Y→Callers) (y:Y) (N:Nat):C→St→j4c
 | .skip,st=>some [(.nrm,st)]
 | .region ops,st=>(jhh E (call y) ops st st.nx).map fun l=>l.map fun st'=>(.nrm,st')
 | .draw ops free,st=>(Y4 E (call y) ops st st.nx).bind fun x=>if Jw free x.1 && Qo x.1 then some [(.nrm,x.2)] else none
 | .pin o fs,st=>bindL (jb8 E (call y) o st st.nx) fun x=>(Y4 E (call y) fs x.1 x.2).bind fun p=>if jcv fs st p.2 then some [(.nrm,p.2)] else none
 | .seq a b,st=>bindL (jW E call y N a st) fun x=>match x with
  | (.nrm,st')=>jW E call y N b st'
  | (e,st')=>some [(e,st')]
 | .cond c a b,st=>match eval E st.tm c with
  | .bool true=>jW E call y N a st
  | .bool false=>jW E call y N b st
  | _=>none
 | .block id a,st=>(jW E call y N a st).map fun l=>l.map fun x=>match x with
  | (.exit i,st')=>if i=id then (.nrm,st') else (.exit i,st')
  | x=>x
 | .loop a,st=>jay (jW E call y N a) N st
 | .exit id,st=>some [(.exit id,st)]
 | .rangeFunc f ps asg bd,st=>match eval E st.tm f with
  | .fn (.func g) first captured=>
   (only ((call (QW (jW E call y N asg) (jW E call y N bd) st ps (2*st.nx+1) st.nx)).s g (first++[.yld (2*st.nx+1) st.nx]++captured)
    (upd (upd st.ob (2*st.nx+3) (some ⟨st.nx+1,.dfr⟩)) (2*st.nx+1) (some ⟨st.nx,.loop .ready none⟩)) st.tk st.ro ((st.fb+1023)*1024) (st.nx+64))).bind fun(_,ob,tk,ub)=>
     match ob (2*st.nx+1) with
     | some ⟨u,.loop s pend⟩=>if u=st.nx∧s≠.busy∧Nat.ble st.ro st.nx=true then some [(pend.getD .nrm,{ st with ob:=fun k=>if Nat.beq (2*st.nx+1) k then none else ob k,tk:=tk,nx:=ub,df:=(2*st.nx+3,st.nx+1)::st.df })] else none
     | _=>none
  | _=>none
 | .stuck,_=>none
 | .ret,st=>some [(.ret,st)]
def jl (st:St):ARes→Option V
 | .t n=>some (st.tm n)
 | .cell n g=>match st.tm n with
  | .ptr l u off=>(objCells st.ob l u).bind fun cs=>Xb g cs off
  | _=>none
def j0b (st:St):Bool:=st.df.all (fun x=>match st.ob x.1 with|some ⟨u,.dfr⟩=>Nat.beq u x.2 && Nat.ble st.ro u|_=>false) && nodup (st.df.map (·.1))
def St.noDf (st:St):St :=
 match st.df with
 | []=>st
 | df=>{ st with ob:=fun k=>if df.any (fun x=>Nat.beq x.1 k) then none else st.ob k,df:=[] }
def ja8 (res:List ARes):Ex × St→Option V
 | (.nrm,st)|(.ret,st)=>if j0b st then (res.mapM (jl st.noDf)).bind (Yg st.noDf) else none
 | _=>none
def QP (args:List V):St:={ tm:=fun n=>args.getD n jq,ob:=fun _=>none,tk:=fun _=>false,ro:=0,nx:=0,fb:=0,df:=[] }
def endS (res:List ARes):Ex × St→Option (V × (ZO) × (Nat→Bool) × Nat)
 | (.nrm,st)|(.ret,st)=>if st.df.isEmpty then (res.mapM (jl st)).map fun l=>(match l with | [v]=>v|l=>.tup l,st.ob,st.tk,st.nx) else none
 | _=>none
def jzp (f:Ex × St→Option V):Option (List (Ex × St))→Option V
 | some (x::xs)=>(f x).bind fun r=>if xs.all fun y=>match f y with|some r'=>V.eqb r' r|none=>false then some r else none
 | _=>none
def int64?:V→Option Int
 | .int .i64 n=>some n
 | _=>none
def j26 (x:Int):List Int→List Int
 | []=>[x]
 | y::r=>if x≤y then x::y::r else y::j26 x r
def jk3:List Int→List Int
 | []=>[]
 | x::r=>j26 x (jk3 r)
def pairsI:List Int→List (Int × Int)
 | a::b::r=>(a,b)::pairsI r
 | _=>[]
def Ys:List (Int × Int)→List Int
 | []=>[]
 | p::r=>p.1::p.2::Ys r
def Wk (x y:Int × Int):Bool:=decide (x.1<y.1) || decide (x.1=y.1) && decide (x.2≤y.2)
def jzz (x:Int × Int):List (Int × Int)→List (Int × Int)
 | []=>[x]
 | y::r=>if Wk x y then x::y::r else y::jzz x r
def QQ:List (Int × Int)→List (Int × Int)
 | []=>[]
 | x::r=>jzz x (QQ r)
def jfd:Option FuncId→Nat
 | none=>1
 | some _=>2
def Wb:Option FuncId→List Int→List Int
 | none,zs=>jk3 zs
 | some _,zs=>Ys (QQ (pairsI zs))
def Y5 (z:Int):Bool:=decide (-1000000000000≤z) && decide (z≤1000000000000)
def jmv:Option FuncId→List Int→Bool
 | none,_=>true
 | some _,zs=>zs.all Y5
def jio:Option FuncId→List V→Option V
 | none,[x]=>some x
 | some g,[x,.fn (.func g') [] []]=>if g=g' then some x else none
 | _,_=>none
def jou (m:Option FuncId) (ob:ZO) (tk:Nat→Bool) (ro ub:Nat) (args:List V):Option (V × (ZO) × (Nat→Bool) × Nat) :=
 match jio m args with
 | some (.osl l u off n sz)=>(objCells ob l u).bind fun cs=>if Nat.ble ro u=true∧sz=jfd m∧off+n*jfd m≤cs.length∧n≤1000000000 then
  (((cs.drop off).take (n*jfd m)).mapM int64?).bind fun zs=>if jmv m zs then some (.tup [],upd ob l (some ⟨u,.cells (j2 cs off ((Wb m zs).map (.int .i64)))⟩),tk,ub) else none else none
 | some (.sl _ _ 0 [])=>some (.tup [],ob,tk,ub)
 | _=>none
def callers (E:Env):Nat→Y→Callers
 | 0,y=>{ d:=fun _ _=>none,o:=fun _ _ _ _ _ _=>none,s:=fun _ _ _ _ _ _ _=>none,y:=y }
 | n+1,y=>{
  d:=fun f args=>(E.fc f).bind fun af=>jzp (ja8 af.res) (jW E (callers E n) noY n af.body (QP args))
  o:=fun f args ob _ base ub=>if E.fz f then (args.mapM (W6 ob)).bind fun args'=>((callers E n noY).d f args').bind fun r=>if r.freeR then some r else none else
   (E.fs f).bind fun af=>jzp (ja8 af.res) (jW E (callers E n) noY n af.body (Jm args ob (fun _=>false) ub base ub))
  s:=fun f args ob tk ro base ub=>if E.tw f then (args.mapM (W6 ob)).bind fun args'=>((callers E n noY).d f args').bind fun r=>(jvm ob tk ub r).map fun x=>[x] else match E.srt f with
   | some m=>(jou m ob tk ro ub args).map fun x=>[x]
   | none=>(E.fs f).bind fun af=>(jW E (callers E n) y n af.body (Jm args ob tk ro base ub)).bind fun l=>if E.mn f then l.mapM (endS af.res) else match l with
    | [x]=>(endS af.res x).map fun r=>[r]
    | _=>none
  y:=y }
end Go.Pv
namespace Go.Pv
open Go
def jar:Value→Option V
  | .bool b=>some (.bool b)
  | .int k n=>some (.int k n)
  | .string s=>some (.str s.data.toList)
  | .pointer none=>some .nilptr
  | .slice none 0 0=>some (.sl none true 0 [])
  | .map none=>some .nilmap
  | .nilFunc=>some .nilfn
  | .nilIface=>some .nilif
  | _=>none
def Yn:Value→Option V
  | .agg cs=>(cs.toList.mapM jar).map .agg
  | v=>jar v
def opd:Operand→Option A
  | .tmp t=>some (.t t)
  | .const v=>(Yn v).map .c
  | .global g=>some (.g g)
  | .func f=>some (.c (.fn (.func f) [] []))
def opds (xs:Array Operand):Option (List A):=xs.toList.mapM opd
def Wa (P:Program) (t:TypeId):Option Nat:=(P.info? t).map (·.size)
def Yv (P:Program) (t:TypeId):Option (List V):=(P.info? t).bind fun i=>i.zero.bind fun z=>z.cells.toList.mapM jar
def ja5:TypeDesc→Bool
  | .struct _|.array _ _=>true
  | _=>false
def jdw (P:Program) (t:TypeId):Option (Option Nat) :=
  (P.underlying t).bind fun d=>if ja5 d then (Wa P t).map some else some none
def jb0 (P:Program) (s:TypeId) (f:Nat):Option Field :=
  match P.underlying s with
  | some (.struct fs)=>fs[f]?
  | _=>none
def jks (P:Program) (t:TypeId):Option LK :=
  match P.underlying t with
  | some .bool=>some .bool
  | some (.int _)=>some .int
  | some .string=>some .str
  | _=>none
def eqFs (rec:TypeId→Option (List LK)) (P:Program):Nat→List Field→Option (List LK)
  | _,[]=>some []
  | off,f::r=>if f.name = "_" ∨f.offset≠off then none else
    (rec f.type).bind fun l=>if Wa P f.type=some l.length then (eqFs rec P (off+l.length) r).map (l++·) else none
def eqTs (P:Program):Nat→TypeId→Option (List LK)
  | 0,_=>none
  | d+1,t=>
    match P.underlying t with
    | some .bool=>some [.bool]
    | some (.int _)=>some [.int]
    | some .string=>some [.str]
    | some (.struct fs)=>if P.stoodInHeld t then none else eqFs (eqTs P d) P 0 fs.toList
    | _=>none
def eqK (P:Program) (t:TypeId) (x y:Operand):Option EqK :=
  match P.underlying t with
  | some .bool=>some .bool
  | some (.pointer e)=>match Wa P e with
    | some (_+1)=>some .ptr
    | _=>none
  | some (.slice _)=>some .sl
  | some (.map _ _)=>some .map
  | some (.func ..)=>some .fn
  | some (.interface _)=>(match x,y with|.const _,_|_,.const _=>some .iface|_,_=>none)
  | some (.struct _)=>if P.eqGuardType P.depth t then none else (eqTs P 8 t).map .struct
  | some (.array n e)=>if P.eqGuardType P.depth t∨Wa P e≠some 1 then none else (jks P e).map fun k=>.struct (List.replicate n k)
  | _=>none
def jnq (P:Program) (t:TypeId):Bool :=
  match P.underlying t with
  | some .string|some (.int _)=>true
  | _=>false
def YW (place:Nat→Option (Nat × Nat)) (ps:Array (Nat × Operand)):Option (List (Nat × Nat × A)) :=
  ps.toList.mapM fun(i,x)=>(place i).bind fun(o,s)=>(opd x).map fun a=>(o,s,a)
def Yt (x:Option Operand):Option (Option A) :=
  match x with
  | none=>some none
  | some x=>(opd x).map some
def je0 (P:Program) (o:Bool) (b:Builtin) (args:Array Operand) (ats:Array TypeId):Option AOp :=
  match b with
  | .len=>(opds args).bind fun l=>match l,(ats[0]?).bind P.underlying with
    | [x],some .string=>some (.lenStr x)
    | [x],some (.slice _)=>some (.lenSl x)
    | [x],some (.map _ _)=>some (.lenMap x)
    | _,_=>none
  | .append=>(opds args).bind fun l=>match l,ats.toList with
    | [s,x],[t,u]=>if t=u then match P.underlying t with
        | some (.slice e)=>(P.info? e).bind fun i=>i.zero.bind fun z=>if 0<i.size∧z.cells.size=i.size then some (.append o i.size i.bytes s x) else none
        | _=>none else none
    | _,_=>none
  | .min=>(opds args).map (.minmax false)
  | .max=>(opds args).map (.minmax true)
  | .copy=>(opds args).bind fun l=>match l,(ats[0]?).bind P.underlying with
    | [x,y],some (.slice e)=>(Wa P e).map fun s=>.copy s x y
    | _,_=>none
  | .clear=>(opds args).bind fun l=>match l,(ats[0]?).bind P.underlying with
    | [x],some (.slice e)=>(Wa P e).bind fun s=>(Yv P e).map fun z=>.clear s z x
    | _,_=>none
  | .delete=>(opds args).bind fun l=>match l,(ats[0]?).bind P.underlying with
    | [m,k],some (.map kt _)=>(jks P kt).map fun q=>.mapDel q m k
    | _,_=>none
  | _=>none
def jyo (P:Program) (f:FuncId):Option ExtK :=
  (P.funcs[f]?).bind fun fn=>if fn.body.isSome∨fn.origin≠ "" then none else
    if fn.name = "internal/bytealg.CountString" then some .count else if fn.name = "internal/bytealg.IndexByteString" then some .indexByte else none
def QL (P:Program) (o:Bool) (c:Call):Option AOp :=
  match c.callee with
  | .value (.func f)=>(opds c.args).map fun l=>match jyo P f with|some k=>.ext k l|none=>.call f l
  | .value x=>(opd x).bind fun a=>(opds c.args).map (.callV a)
  | .invoke _ _=>none
  | .builtin b=>(je0 P o b c.args c.argTypes).filter fun a=>!a.isCall && !a.isNext
def jma (P:Program) (o:Bool) (op:Op):Option AOp :=
  match op with
  | .move x|.assign x=>(opd x).map .mov
  | .pick c a b=>(opd c).bind fun c=>(opd a).bind fun a=>(opd b).map fun b=>.pick c a b
  | .alloc e=>(Yv P e).map .alloc
  | .box e x=>(Wa P e).bind fun n=>(opd x).map (.box n)
  | .build t ps=>(Yv P t).bind fun z=>match P.underlying t with
    | some (.struct fs)=>(fs.toList.mapM fun f=>(P.info? f.type).map fun i=>(f.offset,i.size)).bind fun places=>(YW (places.toArray[·]?) ps).map (.build z)
    | some (.array _ e)=>(Wa P e).bind fun s=>(YW (fun i=>some (i*s,s)) ps).map (.build z)
    | _=>none
  | .buildSlice t n ps=>match P.underlying t with
    | some (.slice e)=>(Wa   P e).bind fun s=>(Yv     P e).bind fun z =>
        if z.length=s∧0<s∧n*s≤16777216 then (YW (fun i=>some (i*s,s)) ps).map fun l=>.buildSl o s (QX n z) l n else none
    | _=>none
  | .load t x=>(jdw P t).bind fun g=>(opd x).map (.load g)
  | .store t a x=>(Wa P t).bind fun s=>(opd a).bind fun a=>(opd x).map (.store s a)
  | .nilCheck x=>(opd x).map .nilCheck
  | .binOp op t x y _=>(opd x).bind fun x'=>(opd y).bind fun y'=>match op with
    | .eql=>if jnq P t then some (.bin .eql x' y') else (eqK P t x y).map fun k=>.eq false k x' y'
    | .neq=>if jnq P t then some (.bin .neq x' y') else (eqK P t x y).map fun k=>.eq true k x' y'
    | op=>some (.bin op x' y')
  | .unOp op _ x=>(opd x).map (.un op)
  | .convert s d x=>match P.underlying s,P.underlying d with
    | some (.int _),some (.int k)=>(opd x).map (.conv k)
    | some .string,some .string=>(opd x).map .convId
    | some .string,some (.slice e)=>match P.underlying e with
      | some (.int .i32)=>(opd x).map .runesOfStr
      | _=>none
    | _,_=>none
  | .makeInterface t x=>match P.underlying t with
    | some (.interface _)=>none
    | some _=>(opd x).map (.iface t)
    | none=>none
  | .makeFunc f a b=>(opds a).bind fun a=>(opds b).map (.mkFn f a)
  | .makeMap _ none=>some .mkMap
  | .makeSlice t l c=>match P.underlying t with
    | some (.slice e)=>(P.info? e).bind fun i=>(Yv P e).bind fun z=>(opd l).bind fun l=>(opd c).map fun c=>.mkSl o i.size i.bytes z l c
    | _=>none
  | .typeAssert x _ t ok=>match P.underlying t with
    | some (.interface _)=>none
    | some _=>(P.info? t).bind fun i=>i.zero.bind fun z=>(Yn z).bind fun z=>(opd x).map (.assert t z ok)
    | none=>none
  | .slice t x lo hi none=>(opd x).bind fun x=>(Yt lo).bind fun lo=>(Yt hi).bind fun hi=>match P.underlying t with
    | some .string=>some (.slStr x lo hi)
    | some (.slice e)=>(Wa P e).map fun s=>.slSl s x lo hi
    | some (.array n e)=>if n≤maxLen then (Wa P e).map fun s=>.slArr n s x lo hi else none
    | _=>none
  | .fieldAddr s x f=>(jb0 P s f).bind fun f=>(Wa P f.type).bind fun n=>if n=0 then none else (opd x).map (.fieldAddr f.offset)
  | .field s x f=>(jb0 P s f).bind fun f=>(jdw P f.type).bind fun g=>(opd x).map (.part g f.offset)
  | .indexAddr t x i=>(opd x).bind fun x=>(opd i).bind fun i=>match P.underlying t with
    | some (.slice e)=>(Wa P e).bind fun s=>if s=0 then none else some (.idxSl s x i)
    | some (.array n e)=>(Wa P e).map fun s=>.idxArr n s x i
    | _=>none
  | .index t x i=>(opd x).bind fun x=>(opd i).bind fun i=>match P.underlying t with
    | some .string=>some (.idxStr x i)
    | some (.array n e)=>(Wa P e).bind fun s=>(jdw P e).map fun g=>.idxVal g n s x i
    | _=>none
  | .lookup t m k ok=>match P.underlying t with
    | some (.map kt e)=>(jks P kt).bind fun q=>(P.info? e).bind fun i=>i.zero.bind fun z=>(Yn z).bind fun z=>(opd m).bind fun m=>(opd k).map fun k=>.lookup q z ok m k
    | _=>none
  | .mapUpdate t m k v=>match P.underlying t with
    | some (.map kt _)=>(jks P kt).bind fun q=>(opd m).bind fun m=>(opd k).bind fun k=>(opd v).map (.mapSet q m k)
    | _=>none
  | .insert t m k v=>match P.underlying t with
    | some (.map kt _)=>(jks P kt).bind fun q=>(opd m).bind fun m=>(opd k).bind fun k=>(opd v).map (.mapSet q m k)
    | _=>none
  | .mapEntry t m k=>match P.underlying t with
    | some (.map kt e)=>(jks P kt).bind fun q=>(P.info? e).bind fun i=>i.zero.bind fun z=>(Yn z).bind fun z=>(opd m).bind fun m=>(opd k).map fun k=>.mapEnt q z m k
    | _=>none
  | .entryStore _ m s x=>(opd m).bind fun m=>(opd s).bind fun s=>(opd x).map (.entSt m s)
  | .range t x=>match P.underlying t with
    | some .string=>(opd x).map (.range true)
    | some (.map _ _)=>(opd x).map (.range false)
    | _=>none
  | .next x true=>(opd x).map .nextStr
  | .entry x=>(opd x).map .entry
  | .extract x i=>(opd x).map fun x=>.extract x i
  | _=>none
def Ja (P:Program) (m:Bool) (o:Oper):Option AOp :=
  match o.op with
  | .call c=>QL P m c
  | .next x false=>(opd x).map .nextMap
  | op=>(jma P m op).filter fun a=>!a.isCall && !a.isNext
def JU (P:Program) (m:Bool) (ops:Array Oper) (o:Oper):Option AOpr :=
  let a:=(Ja P m o).getD .stuck
  match o.guard with
    | none=>some { dst:=o.dst,op:=a,guard:=none,nm:=m }
    | some (j,b)=>((ops[j]?).bind (·.dst)).map fun t=>{ dst:=o.dst,op:=a,guard:=some (t,b),nm:=m }
def AOp.opds:AOp→List A
  | .mov x|.un _ x|.box _ x|.load _ x|.nilCheck x|.fieldAddr _ x|.part _ _ x|.lenStr x|.lenSl x|.lenMap x|.extract x _|.range _ x|.nextStr x|.nextMap x|.entry x|.iface _ x|.assert _ _ _ x
  | .conv _ x|.convId x|.strOfBytes x|.strOfInt x|.runesOfStr x|.bytesOfStr x=>[x]
  | .pick a b c=>[a,b,c]
  | .clear _ _ x=>[x]
  | .bin _ x y|.eq _ _ x y|.store _ x y|.idxSl _ x y|.idxArr _ _ x y|.idxStr x y|.idxVal _ _ _ x y|.append _ _ _ x y|.lookup _ _ _ x y|.mapDel _ x y|.mapEnt _ _ x y|.mkSl _ _ _ _ x y|.copy _ x y=>[x,y]
  | .alloc _|.mkMap|.stuck=>[]
  | .build _ ps|.buildSl _ _ _ ps _=>ps.map (·.2.2)
  | .slStr x l h|.slSl _ x l h|.slArr _ _ x l h=>x::(l.toList++h.toList)
  | .mkFn _ a b=>a++b
  | .mapSet _ m k v|.entSt m k v=>[m,k,v]
  | .minmax _ xs|.call _ xs|.ext _ xs=>xs
  | .callV f xs=>f::xs
def A.tmps:A→List Nat
  | .t n=>[n]
  | _=>[]
def AOpr.looks (o:AOpr):List Nat:=o.op.opds.flatMap A.tmps++(match o.guard with|some (t,_)=>[t]|none=>[])
def AOp.rO:AOp→Bool
  | .load ..|.store ..|.lookup ..|.lenMap ..|.mapSet ..|.mapDel ..|.mapEnt ..|.entSt ..|.nextStr ..|.append ..|.eq ..|.copy ..|.clear ..|.range ..|.nextMap ..|.entry ..|.slArr ..=>true
  | _=>false
def AOp.rA:AOp→Bool
  | .call ..|.callV ..=>true
  | _=>false
def AOp.wO:AOp→Bool
  | .alloc ..|.box ..|.mkMap|.range ..|.store ..|.mapSet ..|.mapDel ..|.mapEnt ..|.entSt ..|.nextStr ..|.append ..|.buildSl ..|.mkSl ..|.copy ..|.clear ..|.nextMap ..=>true
  | _=>false
def AOp.rT:AOp→Bool
  | .append ..=>true
  | _=>false
def AOp.wT:AOp→Bool
  | .append ..|.buildSl ..|.mkSl ..|.runesOfStr ..|.call ..|.callV ..=>true
  | _=>false
def AOp.quiet (x y:AOp):Bool :=
  !(x.wO && (y.rO || y.wO)) && !(y.wO && x.rO) && !(x.wT && (y.rT || y.wT)) && !(y.wT && x.rT) && !(x.rA && (y.wO || y.wT)) && !(y.rA && (x.wO || x.wT))
def AOpr.apart (x y:AOpr):Bool :=
  (match x.dst with
   | some d=>!(y.looks.any fun t=>Nat.beq t d) && (match y.dst with|some e=>!Nat.beq e d|none=>true)
   | none=>true) &&
  (match y.dst with
   | some d=>!(x.looks.any fun t=>Nat.beq t d)
   | none=>true)
def ahead (o:Oper) (ms:List Nat):Nat :=
  o.after.toList.foldl (fun m e=>if Region.binds .any e then m ||| (1 <<< e.on ||| ms.getD e.on 0) else m) 0
def J8:List Oper→List Nat→List Nat
  | [],ms=>ms
  | o::r,ms=>J8 r (ms++[ahead o ms])
def Xv (ops:Array Oper) (als:List AOpr):Option (List (Nat × Nat)) :=
  let ms:=J8 ops.toList []
  let n:=als.length
  let pairs:=(List.range n).flatMap fun j=>((List.range j).filter fun i=>!(ms.getD j 0).testBit i).map fun i=>(i,j)
  if ((List.range n).all fun j=>match ops[j]? with | some o=>o.after.all fun e=>!Region.binds .any e || Nat.blt e.on j | none=>true) &&
     (pairs.all fun p=>match als[p.1]?,als[p.2]? with|some x,some y=>x.apart y|_,_=>true)
  then some (pairs.filter fun p=>match als[p.1]?,als[p.2]? with|some x,some y=>!x.op.quiet y.op|_,_=>false)
  else none
def jp (ops:Array Oper) (n:Nat):Nat :=
  (List.range n).foldl (fun k j=>if (List.range j).all fun i=>((J8 ops.toList []).getD j 0).testBit i then k else j+1) 0
def jwi (ops:Array Oper) (als:List AOpr) (k c:Nat):Bool :=
  Nat.blt (c+1) k && (match als[c]? with|some o=>o.op.isCall|none=>false) && ((List.range c).all fun i=>((J8 ops.toList []).getD c 0).testBit i) &&
  ((List.range k).all fun j=>Nat.ble j c || match als[j]? with
    | some o=>o.op.still && !((J8 ops.toList []).getD j 0).testBit c && (match o.dst with
      | some d=>(List.range k).all fun i=>match als[i]? with
        | some x=>(Nat.beq i j || match x.dst with|some e=>!Nat.beq e d|none=>true) && (Nat.blt j i || !(x.looks.any fun t=>Nat.beq t d))
        | none=>true
      | none=>true)
    | none=>true)
def pinAt (ops:Array Oper) (als:List AOpr) (k:Nat):Option Nat :=
  (((List.range k).filter fun i=>match als[i]? with|some o=>o.op.isCall|none=>false).getLast?).filter (jwi ops als k)
def jss (ops:Array Oper) (als:List AOpr) (c:Nat):Bool :=
  (match als[c]? with|some o=>o.op.isCall|none=>false) && ((List.range c).all fun i=>((J8 ops.toList []).getD c 0).testBit i) &&
  ((List.range als.length).all fun j=>Nat.ble j c || ((List.range (c+1)).all fun i=>((J8 ops.toList []).getD j 0).testBit i) && (match als[j]? with|some o=>o.op.still|none=>false)) &&
  ((als.drop (c+1)).any fun o=>match o.op with|.extract _ _=>true|_=>false)
def midAt (ops:Array Oper) (als:List AOpr):Option Nat :=
  (((List.range als.length).filter fun i=>match als[i]? with|some o=>o.op.isCall|none=>false).getLast?).filter (jss ops als)
def jhm:AOpr:={ dst:=none,op:=.mov (.c (.tup [])),guard:=none,nm:=true }
def comp (P:Program) (m r:Bool):Code→Option C
  | .skip=>some .skip
  | .region _ ops false=>(ops.toList.mapM (JU P m ops)).map .region
  | .region _ ops true=>(ops.toList.mapM (JU P m ops)).map fun l=>match Xv ops l with
    | some free=>if m && Nat.blt (jp ops l.length) l.length && (l.drop (jp ops l.length)).any (fun o=>o.op.isCall)
      then match pinAt ops l (jp ops l.length) with
        | some c=>.seq (.draw ((l.take (jp ops l.length)).set c jhm) free) (.seq (.pin (l.getD c jhm) ((l.take (jp ops l.length)).drop (c+1))) (.region (l.drop (jp ops l.length))))
        | none=>.seq (.draw (l.take (jp ops l.length)) free) (.region (l.drop (jp ops l.length)))
      else match (if m then midAt ops l else none) with
        | some c=>.seq (.draw (l.take c) free) (.seq (.region [l.getD c jhm]) (.draw (List.replicate (c+1) jhm++l.drop (c+1)) free))
        | none=>.draw l free
    | none=>.stuck
  | .seq a b=>(comp P m r a).bind fun a=>(comp P m r b).map (.seq a)
  | .cond c a b=>(opd c).bind fun c=>(comp P m r a).bind fun a=>(comp P m r b).map (.cond c a)
  | .block id a=>(comp P m r a).map (.block id)
  | .loop a=>(comp P m r a).map .loop
  | .exit id=>some (.exit id)
  | .ret=>some .ret
  | .rangeFunc f ps a b=>cond r (some .stuck) ((opd f).bind fun f=>(comp P m true a).bind fun a=>(comp P m true b).map (.rangeFunc f ps.toList a))
  | _=>some .stuck
def YV (P:Program):ResultVar→Option ARes
  | .tmp t=>some (.t t)
  | .cell t ty=>(jdw P ty).map (.cell t)
def j3q (P:Program) (m r:Bool) (fn:Func):Option AF :=
  fn.body.bind fun c=>(comp P m r c).bind fun b=>(fn.results.toList.mapM (YV P)).map fun r=>{ body:=b,res:=r }
inductive Kd where
 | n (k:Nat)
 | lp (r:Loop)
def Kd.size:Kd→Nat
 | .n k=>k
 | .lp _=>0
inductive Place where
 | obj (b:Nat) (k:Kd)
 | tok (b n cap sz:Nat)
abbrev IMap:=Nat→Nat→Option Value
inductive RepP (I:IMap):Value→V→Prop where
 | bool (b:Bool):RepP I (.bool b) (.bool b)
 | int (k:IntKind) (n:Int):RepP I (.int k n) (.int k n)
 | str (s:ByteArray):RepP I (.string s) (.str s.data.toList)
 | nilptr:RepP I (.pointer none) .nilptr
 | nilmap:RepP I (.map none) .nilmap
 | nilfn:RepP I .nilFunc .nilfn
 | nilif:RepP I .nilIface .nilif
 | slnil:RepP I (.slice none 0 0) (.sl none true 0 [])
 | sl (a:Addr) (n cap:Nat) (cs:List V) (xs:Nat→Value) (hs:cs≠[]→a.spot=none) (hc:n≤cap) (hm:cap≤maxLen)
  (hi:∀j,j<cs.length→I a.block (a.off+j)=some (xs j)) (hl:∀ (j:Nat) (v:V),cs[j]? = some v→v.pureLeaf=true)
  (hr:∀ (j:Nat) (v:V),cs[j]? = some v→RepP I (xs j) v):RepP I (.slice (some a) n cap) (.sl none false n cs)
 | agg (xs:Array Value) (cs:List V) (hlen:xs.size=cs.length) (hl:∀ (j:Nat) (v:V),cs[j]? = some v→v.leaf=true)
  (hr:∀ (j:Nat) (x:Value) (v:V),xs[j]? = some x→cs[j]? = some v→RepP I x v):RepP I (.agg xs) (.agg cs)
 | eptr (b base off:Nat) (cs:List V) (xs:Nat→Value) (hi:∀j,j<cs.length→I b (base+j)=some (xs j))
  (hl:∀ (j:Nat) (v:V),cs[j]? = some v→v.pureLeaf=true)
  (hr:∀ (j:Nat) (v:V),cs[j]? = some v→RepP I (xs j) v):RepP I (.pointer (some ⟨b,base+off,none⟩)) (.eptr cs off)
 | fn (f:Fn) (xs ys:Array Value) (asg bs:List V) (hx:xs.size=asg.length) (hy:ys.size=bs.length)
  (hrx:∀ (j:Nat) (x:Value) (v:V),xs[j]? = some x→asg[j]? = some v→RepP I x v) (hry:∀ (j:Nat) (x:Value) (v:V),ys[j]? = some x→bs[j]? = some v→RepP I x v) :
  RepP I (.func f xs ys) (.fn f asg bs)
 | iface (t:TypeId) (x:Value) (v:V) (hr:RepP I x v):RepP I (.iface t x) (.iface t v)
inductive Rep (γ:Nat→Option Place) (I:IMap):Value→V→Prop where
 | pure (x:Value) (v:V) (h:RepP I x v):Rep γ I x v
 | undef (x:Value):Rep γ I x .undef
 | tup (xs:Array Value) (vs:List V) (hlen:xs.size=vs.length) (hr:∀ (j:Nat) (x:Value) (v:V),xs[j]? = some x→vs[j]? = some v→Rep γ I x v):Rep γ I (.tuple xs) (.tup vs)
 | agg (xs:Array Value) (cs:List V) (hlen:xs.size=cs.length) (hl:∀ (j:Nat) (v:V),cs[j]? = some v→v.leaf=true)
  (hr:∀ (j:Nat) (x:Value) (v:V),xs[j]? = some x→cs[j]? = some v→Rep γ I x v):Rep γ I (.agg xs) (.agg cs)
 | tsl (u b n cap sz:Nat) (cs:List V) (xs:Nat→Value) (hu:γ u=some (.tok b n cap sz)) (hlen:cs.length=n*sz) (hc:n≤cap) (hm:cap≤maxLen)
  (hi:∀j,j<cs.length→I b j=some (xs j)) (hl:∀ (j:Nat) (v:V),cs[j]? = some v→v.pureLeaf=true) (hr:∀ (j:Nat) (v:V),cs[j]? = some v→RepP I (xs j) v) :
  Rep γ I (.slice (some ⟨b,0,none⟩) n cap) (.sl (some (u,sz)) false n cs)
 | ptr (l u off b:Nat) (k:Kd) (hu:γ u=some (.obj b k)):Rep γ I (.pointer (some ⟨b,off,none⟩)) (.ptr l u off)
 | osl (l u off n sz cap b:Nat) (k:Kd) (a:Addr) (hu:γ u=some (.obj b k)) (ha:0<cap→a=⟨b,off,none⟩∧off+cap*sz≤k.size) (hc:n≤cap) (hm:cap≤maxLen) :
  Rep γ I (.slice (some a) n cap) (.osl l u off n sz)
 | map (l u b:Nat) (k:Kd) (hu:γ u=some (.obj b k)):Rep γ I (.map (some b)) (.map l u)
 | iter (l u b:Nat) (k:Kd) (hu:γ u=some (.obj b k)):Rep γ I (.pointer (some ⟨b,0,none⟩)) (.iter l u)
 | yld (l u b:Nat) (k:Kd) (hu:γ u=some (.obj b k)):Rep γ I (.func (.yield b) #[] #[]) (.yld l u)
 | fn (f:Fn) (xs ys:Array Value) (asg bs:List V) (hx:xs.size=asg.length) (hy:ys.size=bs.length)
  (hrx:∀ (j:Nat) (x:Value) (v:V),xs[j]? = some x→asg[j]? = some v→Rep γ I x v) (hry:∀ (j:Nat) (x:Value) (v:V),ys[j]? = some x→bs[j]? = some v→Rep γ I x v) :
  Rep γ I (.func f xs ys) (.fn f asg bs)
 | iface (t:TypeId) (x:Value) (v:V) (hr:Rep γ I x v):Rep γ I (.iface t x) (.iface t v)
theorem RepP.mono {I z:IMap}(B:∀b o x,I b o=some x→z b o=some x) {x:Value}{v:V}(h:RepP I x v):RepP z x v:=by
 induction h with
 | bool b=>exact .bool b
 | int k n=>exact .int k n
 | str s=>exact .str s
 | nilptr=>exact .nilptr
 | nilmap=>exact .nilmap
 | nilfn=>exact .nilfn
 | nilif=>exact .nilif
 | slnil=>exact .slnil
 | sl a n q cs c K M F r e m d=>exact .sl a n q cs c K M F (fun j y=>B _ _ _ (r j y)) e d
 | agg c cs g e m d=>exact .agg c cs g e d
 | eptr b i off cs c r e m d=>exact .eptr b i off cs c (fun j y=>B _ _ _ (r j y)) e d
 | fn f c L u G D J N H p l=>exact .fn f c L u G D J p l
 | iface t x v m d=>exact .iface t x v d
theorem Rep.mono {γ γ':Nat→Option Place}{I J:IMap}(d:∀u p,γ u=some p→γ' u=some p) (G:∀b o x,I b o=some x→J b o=some x) {x:Value}{v:V}(h:Rep γ I x v):Rep γ' J x v:=by
 induction h with
 | pure x v h=>exact .pure x v (h.mono G)
 | undef x=>exact .undef x
 | tup g M c q m=>exact .tup g M c m
 | agg g cs c y q m=>exact .agg g cs c y m
 | tsl u b n i z cs g e c F s Q y q=>exact .tsl u b n i z cs g (d _ _ e) c F s (fun j H=>G _ _ _ (Q j H)) y (fun j v H=>(q j v H).mono G)
 | ptr l u off b k e=>exact .ptr l u off b k (d _ _ e)
 | osl l u off n z i b k a e K F s=>exact .osl l u off n z i b k a (d _ _ e) K F s
 | map l u b k e=>exact .map l u b k (d _ _ e)
 | iter l u b k e=>exact .iter l u b k (d _ _ e)
 | yld l u b k e=>exact .yld l u b k (d _ _ e)
 | fn f g S D N L P T O B r=>exact .fn f g S D N L P B r
 | iface t x v q m=>exact .iface t x v m
theorem Rep.oneCell {γ:Nat→Option Place}{I:IMap}{x:Value}{v:V}(h:Rep γ I x v) (b:v.leaf=true):x.oneCell'=true:=by
 cases h with
 | pure x v h=>cases h <;> first|rfl|(simp[V.leaf]at b)
 | undef x=>simp[V.leaf]at b
 | tup=>simp[V.leaf]at b
 | agg=>simp[V.leaf]at b
 | _=>rfl
inductive Owner where
 | ob (l:Nat)
 | tk (u:Nat)
def EntsOk (γ:Nat→Option Place) (I:IMap) (m:List MapEntry) (es:List (V × V)):Prop :=
 m.length=es.length∧∀ (j:Nat) (e:MapEntry) (k v:V),m[j]? = some e→es[j]? = some (k,v)→RepP I e.key k∧Rep γ I e.val v
def Qb:Ex→Code
 | .nrm=>.skip
 | .exit id=>.exit id
 | .ret=>.ret
def lsOf:LS→LoopState
 | .ready=>.ready
 | .busy=>.busy
 | .done=>.done
def ObjOk (γ:Nat→Option Place) (I:IMap) (ob:ZO) (h:Array Obj) (k:Kd) (o:Option Obj):OBody→Prop
 | .cells cs=>∃arr e,o=some (.cells arr e (0,0))∧arr.size=k.size∧cs.length≤k.size∧∀ (j:Nat) (x:Value) (v:V),arr[j]? = some x→cs[j]? = some v→v.leaf=true∧Rep γ I x v
 | .mp ver es=>∃ (m:Array MapEntry) (clock:Nat),o=some (.map m clock)∧EntsOk γ I m.toList es∧(m.toList.map (·.born)).Nodup∧(∀e∈m,e.born<clock) ∧
  (ver<ju0→clock=m.size∧∀ (i:Nat) (e:MapEntry),m[i]? = some e→e.born=i)
 | .siter s pos=>∃s',o=some (.stringIter s' pos)∧s'.data.toList=s
 | .miter l u ver left last=>∃ (mb:Nat) (mk:Kd) (since:Nat) (seen:Array Nat) (stepped:Nat),o=some (.mapIter (some mb) since seen stepped)∧γ u=some (.obj mb mk) ∧
  ∀ver' es,ob l=some ⟨u,.mp ver' es⟩→ver≤ver'∧(ver'=ver→∃ (m:Array MapEntry),h[mb]? = some (.map m stepped)∧(∀e∈m,e.born<since)∧since≤stepped ∧
   EntsOk γ I (m.toList.filter fun e=>!seen.contains e.born) left ∧
   (∀k v,last=some (k,v)→∃stamp e,seen.back? = some stamp∧m.find? (fun e=>e.born == stamp)=some e∧RepP I e.key k∧Rep γ I e.val v))
 | .nomap=>∃since seen stepped,o=some (.mapIter none since seen stepped)
 | .loop s pend=>∃r:Loop,k=.lp r∧o=some (.loop { r with state:=lsOf s,pending:=pend.map Qb })
 | .dfr=>o=some (.deferred (some []))
def j4a (o:Option Obj) (n cap sz:Nat):Prop:=∃arr e,o=some (.cells arr e (0,0))∧cap*sz≤arr.size∧n≤cap∧cap≤maxLen
theorem EntsOk.mono {γ γ':Nat→Option Place}{I d:IMap}(c:∀u p,γ u=some p→γ' u=some p) (g:∀b o x,I b o=some x→d b o=some x) {m:List MapEntry}{es:List (V × V)}(h:EntsOk γ I m es):EntsOk γ' d m es :=
 ⟨h.1,fun j e k v i f=>⟨(h.2 j e k v i f).1.mono g,(h.2 j e k v i f).2.mono c g⟩⟩
theorem ObjOk.mono {γ γ':Nat→Option Place}{I H:IMap}(f:∀u p,γ u=some p→γ' u=some p) (z:∀b o x,I b o=some x→H b o=some x) {ob:ZO}{hp:Array Obj}{k:Kd}{o:Option Obj}{b:OBody}
 (h:ObjOk γ I ob hp k o b):ObjOk γ' H ob hp k o b:=by
 cases b with
 | cells cs=>obtain⟨arr,e,r,y,q,D⟩:=h;exact⟨arr,e,r,y,q,fun j x v J B=>⟨(D j x v J B).1,(D j x v J B).2.mono f z⟩⟩
 | mp G F=>obtain⟨m,c,r,y,q,D⟩:=h;exact⟨m,c,r,y.mono f z,q,D⟩
 | siter s a0=>exact h
 | miter l u G left K=>
  obtain⟨O,mk,n,t,d,r,y,q⟩:=h
  refine⟨O,mk,n,t,d,r,f _ _ y,fun g F M=>⟨(q g F M).1,fun B=>?_⟩⟩
  obtain⟨m,U,T,S,N,Q⟩:=(q g F M).2 B
  refine⟨m,U,T,S,N.mono f z,fun k v P=>?_⟩
  obtain⟨i,e,q1,Z,q3,X⟩:=Q k v P
  exact⟨i,e,q1,Z,q3.mono z,X.mono f z⟩
 | nomap=>exact h
 | loop s L=>exact h
 | dfr=>exact h
def Xm (γ:Nat→Option Place) (ob ob':ZO) (hp hp':Array Obj):Prop :=
 ∀l u ver' es' mb mk,γ u=some (.obj mb mk)→ob' l=some ⟨u,.mp ver' es'⟩ →
  (ob l=some ⟨u,.mp ver' es'⟩∧∀m c,hp[mb]? = some (.map m c)→hp'[mb]? = some (.map m c))∨(∃v0 es0,ob l=some ⟨u,.mp v0 es0⟩∧v0<ver')
theorem ObjOk.keep {γ:Nat→Option Place}{I:IMap}{ob ob':ZO}{hp f:Array Obj}{k:Kd}{o:Option Obj}{b:OBody}(h:ObjOk γ I ob hp k o b) (G:Xm γ ob ob' hp f):ObjOk γ I ob' f k o b:=by
 cases b with
 | miter l u H left p=>
  obtain⟨n,mk,d,e,c,t,r,j⟩:=h
  refine⟨n,mk,d,e,c,t,r,fun g y z=>?_⟩
  rcases G l u g y n mk r z with⟨i,q⟩|⟨K,J,i,q⟩
  ·refine⟨(j _ _ i).1,fun s=>?_⟩
   obtain⟨m,F,D,B,v,x⟩:=(j _ _ i).2 s
   exact⟨m,q _ _ F,D,B,v,x⟩
  ·have:=(j _ _ i).1
   exact⟨zO,fun s=>by omega⟩
 | _=>exact h
structure Own (γ:Nat→Option Place) (I:IMap) (B:Nat) (st:St) (w:World) (Ω:Nat→Option Owner):Prop where
 ob:∀l o,st.ob l=some o→∃b k,γ o.uid=some (.obj b k)∧Ω b=some (.ob l)∧(st.ro≤o.uid→B≤b)∧ObjOk γ I st.ob w.heap k w.heap[b]? o.body∧∀j,I b j=none
 tk:∀u,st.tk u=true→∃b n cap sz,γ u=some (.tok b n cap sz)∧Ω b=some (.tk u)∧B≤b∧j4a w.heap[b]? n cap sz∧∀j,n*sz≤j→I b j=none
 lt:∀b o,Ω b=some o→b<w.heap.size
structure Sh (E:Env) (w0:World) (I0:IMap) (γ:Nat→Option Place) (I:IMap) (st:St) (w:World):Prop where
 imm:∀b o x,I b o=some x→w.cell? ⟨b,o,none⟩=some x
 gl:∀g cs,E.gl g=some cs→RepP I (.pointer (some ⟨g,0,none⟩)) (.eptr cs 0)
 own:∃Ω,Own γ I w0.heap.size st w Ω
 fr:w0.grownBy w none
 old:∀b o,b<w0.heap.size→I b o=I0 b o
def DfOk (γ:Nat→Option Place):List (Nat × Nat)→List Deferred→Prop
 | [],[]=>True
 | x::l,d::ds=>(∃b k,d = { target:=.collected b,args:=#[] }∧γ x.2=some (.obj b k))∧DfOk γ l ds
 | _,_=>False
theorem DfOk.mono {γ γ':Nat→Option Place}(c:∀u p,γ u=some p→γ' u=some p):∀ {l:List (Nat × Nat)}{d:List Deferred},DfOk γ l d→DfOk γ' l d
 | [],[],_=>trivial
 | _::_,_::_,h=>⟨(let ⟨b,k,h1,h2⟩:=h.1;⟨b,k,h1,c _ _ h2⟩),DfOk.mono c h.2⟩
 | [],_::_,h=>h.elim
 | _::_,[],h=>h.elim
structure R (E:Env) (w0:World) (I0:IMap) (nt:Nat) (γ:Nat→Option Place) (I:IMap) (st:St) (a:Act) (w:World):Prop where
 sz:a.tmps.size=nt
 df:DfOk γ st.df a.defers
 tm:∀t,Rep γ I (a.tmps.getD t undef) (st.tm t)
 sh:Sh E w0 I0 γ I st w
section
variable {E:Env}{w0 w:World}{I0 I:IMap}{nt:Nat}{γ:Nat→Option Place}{st:St}{a:Act}
theorem R.imm (h:R E w0 I0 nt γ I st a w):∀b o x,I b o=some x→w.cell? ⟨b,o,none⟩=some x:=h.sh.imm
theorem R.gl (h:R E w0 I0 nt γ I st a w):∀g cs,E.gl g=some cs→RepP I (.pointer (some ⟨g,0,none⟩)) (.eptr cs 0):=h.sh.gl
theorem R.own (h:R E w0 I0 nt γ I st a w):∃b,Own γ I w0.heap.size st w b:=h.sh.own
theorem R.fr (h:R E w0 I0 nt γ I st a w):w0.grownBy w none:=h.sh.fr
theorem R.old (h:R E w0 I0 nt γ I st a w):∀b o,b<w0.heap.size→I b o=I0 b o:=h.sh.old
end
structure Grow (B:Nat) (w w':World) (T:Nat→Prop):Prop where
 os:w'.os=w.os
 tape:w'.tape=w.tape
 output:w'.output=w.output
 size:w.heap.size≤w'.heap.size
 block:∀k,k<w.heap.size→¬ T k→w'.heap[k]? = w.heap[k]?
 low:∀k,T k→B≤k
theorem Grow.frame {w0 w w':World}{T:Nat→Prop}(h:w0.grownBy w none) (g:Grow w0.heap.size w w' T):w0.grownBy w' none :=
 ⟨g.os.trans h.os,g.tape.trans h.tape,g.output.trans h.output,Nat.le_trans h.size g.size,fun k b c=>
  (g.block k (Nat.lt_of_lt_of_le b h.size) (fun d=>Nat.not_lt_of_le (g.low k d) b)).trans (h.block k b c)⟩
theorem js {i k:Type}{f:i→Option k}:∀ {l:List i}{r:List k},l.mapM f=some r→r.length=l.length∧∀ (j:Nat) (x:i) (y:k),l[j]? = some x→r[j]? = some y→f x=some y
 | [],r,h=>by
  simp at h
  subst h
  exact⟨rfl,fun j x y c _=>by simp at c⟩
 | a::l,r,h=>by
  simp only[List.mapM_cons]at h
  cases d:f a with
  | none=>simp[d]at h
  | some b=>
   cases g:l.mapM f with
   | none=>simp[d,g]at h
   | some o=>
    simp[d,g]at h
    subst h
    obtain⟨m,n⟩:=js g
    refine⟨by simp[m],fun j x y c e=>?_⟩
    cases j with
    | zero=>simp at c e;subst c;subst e;exact d
    | succ j=>simp at c e;exact n j x y c e
theorem j9 {E:Env}{w0 w:World}{I0:IMap}{nt:Nat}{γ:Nat→Option Place}{I:IMap}{st:St}{a:Act}(h:R E w0 I0 nt γ I st a w) {x:Operand}{y:A}(c:opd x=some y):Rep γ I (a.eval x) (eval E st.tm y):=by
 have leafOk:∀v z,jar v=some z→RepP I v z∧z.leaf=true:=by
  intro v z b
  unfold jar at b
  split at b <;> simp only[Option.some.injEq,reduceCtorEq]at b <;> subst b
  ·exact⟨.bool _,rfl⟩
  ·exact⟨.int _ _,rfl⟩
  ·exact⟨.str _,rfl⟩
  ·exact⟨.nilptr,rfl⟩
  ·exact⟨.slnil,rfl⟩
  ·exact⟨.nilmap,rfl⟩
  ·exact⟨.nilfn,rfl⟩
  ·exact⟨.nilif,rfl⟩
 cases x with
 | tmp t=>simp only[opd,Option.some.injEq]at c;subst c;exact h.tm t
 | const v=>
  simp only[opd,Option.map_eq_some_iff]at c
  obtain⟨z,b,rfl⟩:=c
  simp only[Act.eval,eval]
  unfold Yn at b
  split at b
  ·rename_i cs
   simp only[Option.map_eq_some_iff]at b
   obtain⟨l,o,rfl⟩:=b
   obtain⟨d,n⟩:=js o
   have e:∀ (j:Nat) (z:V),l[j]? = some z→∃x,cs[j]? = some x∧jar x=some z:=by
    intro j z b
    have q:j<cs.toList.length:=by rw[← d];exact(List.getElem?_eq_some_iff.1 b).1
    have c:cs.toList[j]? = some cs.toList[j]:=List.getElem?_eq_getElem q
    exact⟨_,by rw[← Array.getElem?_toList];exact c,n j _ _ c b⟩
   refine .pure _ _ (.agg cs l d.symm (fun j v k=>?_) (fun j x v c k=>?_))
   ·obtain⟨x,_,i⟩:=e j v k;exact(leafOk _ _ i).2
   ·obtain⟨r,m,i⟩:=e j v k
    rw[c]at m
    cases m
    exact(leafOk _ _ i).1
  ·exact .pure _ _ (leafOk _ _ b).1
 | global g=>
  simp only[opd,Option.some.injEq]at c
  subst c
  simp only[Act.eval,eval]
  cases p:E.gl g with
  | none=>exact .undef _
  | some cs=>exact .pure _ _ (h.gl g cs p)
 | func f=>simp only[opd,Option.some.injEq]at c;subst c;exact .pure _ _ (.fn _ _ _ _ _ rfl rfl zS zS)
section
variable {P:Program}{E:Env}{w0 w:World}{I0:IMap}{nt:Nat}{γ:Nat→Option Place}{I:IMap}{st:St}{a:Act}{o:Oper}{ub:Nat}{δ:Delta}
def XB (P:Program) (E:Env) (w0:World) (I0:IMap) (nt:Nat) (γ:Nat→Option Place) (I:IMap) (st:St) (a:Act) (w:World) (o:Oper) (ub:Nat) (δ:Delta):Prop :=
 ∃x w' γ' I',((execOp a.eval o).run P w=.ok (.value x) w'∨((execOp a.eval o).run P w=.ok .skip w'∧x=undef)) ∧
  R E w0 I0 nt γ' I' (st.app o.dst δ) (a.put o.dst x) w'∧(∀u,¬(ub≤u∧u<ub+64)→γ' u=γ u)∧(∀u p,γ u=some p→γ' u=some p)∧(∀b o x,I b o=some x→I' b o=some x)
theorem jwd (a:Act) (dst:Option Tmp) (x:Value) (c:∀d,dst=some d→d<a.tmps.size) (t:Nat) :
 (a.put dst x).tmps.getD t undef=if dst=some t then x else a.tmps.getD t undef:=by
 cases dst with
 | none=>simp[Act.put]
 | some d=>
  have b:=c d rfl
  by_cases h:d=t
  ·subst h
   simp[Act.put,b]
  ·simp only[Act.put,Option.some.injEq,h,if_false]
   simp[Array.getElem?_setIfInBounds_ne h]
theorem Ye (a:Act) (dst:Option Tmp) (x:Value):(a.put dst x).tmps.size=a.tmps.size:=by
 cases dst <;> simp[Act.put]
theorem jld (a:Act) (dst:Option Tmp) (x:Value):(a.put dst x).defers=a.defers:=by
 cases dst <;> rfl
theorem Wj {γ':Nat→Option Place}{c:IMap}{tm:Nat→V}{dst:Option Tmp}{x:Value}{v:V}(g:∀d,dst=some d→d<a.tmps.size)
 (h:∀t,Rep γ' c (a.tmps.getD t undef) (tm t)) (f:Rep γ' c x v):∀t,Rep γ' c ((a.put dst x).tmps.getD t undef) (put tm dst v t):=by
 intro t
 rw[jwd a dst x g t]
 cases dst with
 | none=>simpa[put] using h t
 | some d=>
  by_cases b:d=t
  ·subst b;simpa[put] using f
  ·simp only[Option.some.injEq,b,if_false,put]
   rw[J9 _ _ (fun e=>b e.symm)]
   exact h t
theorem jcm (h:R E w0 I0 nt γ I st a w) {γ':Nat→Option Place}(b:∀u p,γ u=some p→γ' u=some p) (dst:Option Tmp) (x:Value):DfOk γ' st.df (a.put dst x).defers:=by
 rw[jld]
 exact h.df.mono b
theorem R.put (h:R E w0 I0 nt γ I st a w) {dst:Option Tmp}{x:Value}{v:V}(b:∀d,dst=some d→d<nt) (c:Rep γ I x v) :
 R E w0 I0 nt γ I { st with tm:=put st.tm dst v } (a.put dst x) w :=
 ⟨(Ye a dst x).trans h.sz,jcm h (fun _ _ h=>h) dst x,Wj (by rw [h.sz];exact b ) h.tm c ,⟨h.imm,h.gl,
   (let ⟨Ω,ho⟩:=h.own;⟨Ω,⟨ho.ob,ho.tk,ho.lt⟩⟩),h.fr,h.old⟩⟩
theorem jS (f:R E w0 I0 nt γ I st a w) (g:∀d,o.dst=some d→d<nt) {x:Value}{v:V}(c:(execOp a.eval o).run P w=.ok (.value x) w)
 (e:Rep γ I x v) (b:one v=some δ):XB P E w0 I0 nt γ I st a w o ub δ:=by
 simp only[one,Option.some.injEq]at b
 subst b
 exact⟨x,w,γ,I,.inl c,f.put g e,fun _ _=>rfl,fun _ _ h=>h,fun _ _ _ h=>h⟩
theorem WD {c:Type}{f:Nat→Option c}{k:Nat}{v:c}(h:f k=none):∀u p,f u=some p→upd f k (some v) u=some p:=by
 intro u p b
 rw[J9 f _ (fun e=>by rw[e,h]at b;cases b)]
 exact b
theorem jgi {ob:ZO}{obj:Obj}{d:Nat}{body:OBody}(i:γ ub=none):Xm γ ob (upd ob d (some ⟨ub,body⟩)) w.heap (w.alloc obj).heap:=by
 intro l u e h j mk g b
 rw[j3]at b
 split at b
 ·simp only[Option.some.injEq,Obj'.mk.injEq]at b
  rw[← b.1,i]at g
  cases g
 ·refine .inl ⟨b,fun m c f=>?_⟩
  rw[heap_alloc_old _ _ _ (Array.getElem?_eq_some_iff.1 f).1]
  exact f
theorem jus (i:R E w0 I0 nt γ I st a w) (Z:∀d,o.dst=some d→d<nt) (U:γ ub=none) {x:Value}{v:V}{obj:Obj}{body:OBody}{d:Nat}{k:Kd}{w':World}(hw:w'=w.alloc obj)
 (X:∀g:Nat→Option Place,g ub=some (.obj w.heap.size k)→Rep g I x v) (hb:ObjOk γ I st.ob w.heap k (some obj) body) (B:Jg d ub body v=some δ) :
 ∃g S,R E w0 I0 nt g S (st.app o.dst δ) (a.put o.dst x) w'∧(∀u,¬(ub≤u∧u<ub+64)→g u=γ u)∧(∀u p,γ u=some p→g u=some p)∧(∀b o x,I b o=some x→S b o=some x):=by
 simp only[Jg,Option.some.injEq]at B
 subst B
 subst hw
 have r:=WD (f:=γ) (k:=ub) (v:=Place.obj w.heap.size k) U
 obtain⟨Ω,z⟩:=i.own
 have J:(st.app o.dst { v:=v,obs:=[(d,⟨ub,body⟩)] }).ob=upd st.ob d (some ⟨ub,body⟩):=by
  simp[St.app,JK]
 have q:=jgi (w:=w) (ob:=st.ob) (obj:=obj) (d:=d) (body:=body) U
 refine⟨upd γ ub (some (.obj w.heap.size k)),I,⟨(Ye _ _ _).trans i.sz,jcm i r _ _,?_,⟨?_,i.gl,?_,?_,i.old⟩⟩,?_,r,fun _ _ _ h=>h⟩
 ·exact Wj (by rw[i.sz];exact Z) (fun t=>(i.tm t).mono r (fun _ _ _ h=>h)) (X _ zS)
 ·intro b o' x' c
  rw[World.cell?_alloc_lt]
  ·exact i.imm _ _ _ c
  ·exact World.block_lt_of_cell? _ _ (i.imm _ _ _ c)
 ·have hI:∀j,I w.heap.size j=none:=by
   intro j
   cases hj:I w.heap.size j with
   | none=>rfl
   | some y=>exact absurd (World.block_lt_of_cell? _ _ (i.imm _ _ _ hj)) (Nat.lt_irrefl _)
  refine⟨upd Ω w.heap.size (some (.ob d)),⟨?_,?_,?_⟩⟩
  ·intro l ob s
   rw[J]at s ⊢
   rw[j3]at s
   split at s
   ·rename_i D
    subst D
    simp only[Option.some.injEq]at s
    subst s
    refine⟨w.heap.size,k,zS,zS,fun _=>i.fr.size,?_,hI⟩
    rw[heap_alloc_new]
    exact(hb.keep q).mono r (fun _ _ _ h=>h)
   ·rename_i D
    obtain⟨b,k',G,F,N,Q,K⟩:=z.ob l ob s
    have m:=z.lt b _ F
    refine⟨b,k',r _ _ G,?_,N,?_,K⟩
    ·rw[J9 _ _ (Nat.ne_of_lt m)];exact F
    ·rw[heap_alloc_old _ _ _ m];exact(Q.keep q).mono r (fun _ _ _ h=>h)
  ·intro u O
   have L:st.tk u=true:=by simpa[St.app,XQ] using O
   obtain⟨b,n,M,sz,G,F,N,Q,K⟩:=z.tk u L
   have m:=z.lt b _ F
   refine⟨b,n,M,sz,r _ _ G,?_,N,?_,K⟩
   ·rw[J9 _ _ (Nat.ne_of_lt m)];exact F
   ·rw[heap_alloc_old _ _ _ m];exact Q
  ·intro b ow c
   rw[j3]at c
   simp only[World.size_alloc]
   split at c
   ·rename_i e;omega
   ·have:=z.lt b _ c;omega
 ·exact Grow.frame i.fr ⟨rfl,rfl,rfl,zS,fun k H _=>heap_alloc_old _ _ _ H,fun k H=>H.elim⟩ (T:=fun _=>False)
 ·intro u O
  exact J9 _ _ (fun e=>O ⟨zO,zO⟩)
theorem Yj (l:R E w0 I0 nt γ I st a w) (m:∀d,o.dst=some d→d<nt) (j:γ ub=none) {x:Value}{v:V}{obj:Obj}{body:OBody}{d:Nat}{k:Kd}{w':World}
 (c:(execOp a.eval o).run P w=.ok (.value x) w') (n:w'=w.alloc obj)
 (i:∀b:Nat→Option Place,b ub=some (.obj w.heap.size k)→Rep b I x v) (g:ObjOk γ I st.ob w.heap k (some obj) body) (e:Jg d ub body v=some δ):XB P E w0 I0 nt γ I st a w o ub δ:=by
 obtain⟨b,f,h⟩:=jus l m j n i g e
 exact⟨x,w',b,f,.inl c,h⟩
theorem Yx (q:R E w0 I0 nt γ I st a w) (hd:∀d,o.dst=some d→d<nt) {l u:Nat}{body body':OBody}(hl:st.ob l=some ⟨u,body⟩) (J:Nat.ble st.ro u=true) {x:Value}{v:V}{w':World}
 (F:(execOp a.eval o).run P w=.ok (.value x) w'∨((execOp a.eval o).run P w=.ok .skip w'∧x=undef)) (hx:Rep γ I x v) (D:∀v es,body'=.mp v es→∃G s,body=.mp G s∧G<v)
 (hw:∀b k,γ u=some (.obj b k)→b<w.heap.size→(w'.os=w.os∧w'.tape=w.tape∧w'.output=w.output∧w'.heap.size=w.heap.size∧(∀k,k≠b→w'.heap[k]? = w.heap[k]?)∧ObjOk γ I st.ob w.heap k w'.heap[b]? body'))
 (y:some { v:=v,obs:=[(l,⟨u,body'⟩)] } = some δ):XB P E w0 I0 nt γ I st a w o ub δ:=by
 simp only[Option.some.injEq]at y
 subst y
 obtain⟨Ω,t⟩:=q.own
 obtain⟨b,k,h1,z,h3,_,h5⟩:=t.ob l _ hl
 obtain⟨g1,g2,g3,g4,B,g6⟩:=hw b k h1 (t.lt b _ z)
 have O:(st.app o.dst { v:=v,obs:=[(l,⟨u,body'⟩)] }).ob=upd st.ob l (some ⟨u,body'⟩):=by
  simp[St.app,JK]
 have j:Xm γ st.ob (upd st.ob l (some ⟨u,body'⟩)) w.heap w'.heap:=by
  intro Z u' a0 b0 mb mk X f
  rw[j3]at f
  split at f
  ·rename_i e
   subst e
   simp only[Option.some.injEq,Obj'.mk.injEq]at f
   obtain⟨rfl,he⟩:=f
   obtain⟨G,s,rfl,hv⟩:=D _ _ he
   exact .inr ⟨G,s,hl,hv⟩
  ·rename_i g
   refine .inl ⟨f,fun m c hm=>?_⟩
   obtain⟨i,k',q1,q2,_⟩:=t.ob Z _ f
   rw[X]at q1
   cases q1
   have:mb≠b:=fun e=>by
    subst e
    rw[z]at q2
    cases q2
    exact g rfl
   rw[B mb this]
   exact hm
 refine⟨x,w',γ,I,F,⟨(Ye _ _ _).trans q.sz,jcm q (fun _ _ h=>h) _ _,?_,⟨?_,q.gl,⟨Ω,⟨?_,?_,?_⟩⟩,?_,q.old⟩⟩,fun _ _=>rfl,fun _ _ h=>h,fun _ _ _ h=>h⟩
 ·exact Wj (by rw[q.sz];exact hd) q.tm hx
 ·intro i o' x' p
  have g:i≠b:=fun e=>by rw[e,h5]at p;cases p
  have:=q.imm _ _ _ p
  rw[World.cell?_of_block (w:=w) (w':=w') (a:=⟨i,o',none⟩) (B i g)]
  exact this
 ·intro Z ob f
  rw[O]at f ⊢
  rw[j3]at f
  split at f
  ·rename_i e
   subst e
   simp only[Option.some.injEq]at f
   subst f
   exact⟨b,k,h1,z,h3,g6.keep j,h5⟩
  ·rename_i e
   obtain⟨i,k',Q,r,N,H,M⟩:=t.ob Z ob f
   have g:i≠b:=fun K=>by
    subst K
    rw[z]at r
    cases r
    exact e rfl
   exact⟨i,k',Q,r,N,by rw[B i g];exact H.keep j,M⟩
 ·intro u' X
  have S:st.tk u'=true:=by simpa[St.app,XQ] using X
  obtain⟨i,n,U,sz,Q,r,N,H,M⟩:=t.tk u' S
  have g:i≠b:=fun K=>by subst K;rw[z]at r;cases r
  exact⟨i,n,U,sz,Q,r,N,by rw[B i g];exact H,M⟩
 ·intro i ow p
  rw[g4]
  exact t.lt i ow p
 ·exact Grow.frame q.fr (T:=fun k=>k=b) ⟨g1,g2,g3,Nat.le_of_eq g4.symm,fun k _ L=>B k L,fun k L=>L▸h3 (by simpa[Nat.ble_eq] using J)⟩
end
section
variable {P:Program}{E:Env}{w0 w:World}{I0:IMap}{nt:Nat}{γ:Nat→Option Place}{I:IMap}{st:St}{a:Act}{o:Oper}{ub:Nat}{δ:Delta}
theorem Qj (tk:Nat→Bool) (b:Bool) (l:List Nat) (u:Nat):XQ tk b l u=if u∈l then b else tk u:=by
 induction l with
 | nil=>simp[XQ]
 | cons x l c=>
  simp only[XQ,j3,c,List.mem_cons]
  by_cases h:u=x <;> simp[h]
theorem jqz (L:R E w0 I0 nt γ I st a w) (hd:∀d,o.dst=some d→d<nt) (hf:γ ub=none) {b n cap sz:Nat}{cs:List V}{w':World}{del:Option Nat}{arr:Array Value}{e:TypeId}
 (b7:(execOp a.eval o).run P w=.ok (.value (.slice (some ⟨b,0,none⟩) n cap)) w')
 (hb:(b=w.heap.size∧w'.heap.size=w.heap.size+1)∨(∃u n0 b0 c4,st.tk u=true∧γ u=some (.tok b n0 b0 c4)∧del=some u∧w'.heap.size=w.heap.size))
 (S:w'.os=w.os∧w'.tape=w.tape∧w'.output=w.output) (hk:∀k,k<w.heap.size→k≠b→w'.heap[k]? = w.heap[k]?)
 (B:w'.heap[b]? = some (.cells arr e (0,0))) (c8:cap*sz≤arr.size) (hc:n≤cap) (hm:cap≤maxLen)
 (D:∀j x,I b j=some x→j<n*sz∧arr[j]? = some x) (b5:cs.length=n*sz)
 (s:∀ (j:Nat) (v:V),cs[j]? = some v→v.pureLeaf=true∧∃x,arr[j]? = some x∧RepP I x v)
 (a0:some { v:=V.sl (some (ub,sz)) false n cs,del:=del,add:=[ub] } = some δ):XB P E w0 I0 nt γ I st a w o ub δ:=by
 simp only[Option.some.injEq]at a0
 subst a0
 obtain⟨Ω,M⟩:=L.own
 have q:=WD (f:=γ) (k:=ub) (v:=Place.tok b n cap sz) hf
 let F:IMap:=fun i j=>if i=b∧j<n*sz then arr[j]? else I i j
 have hI:∀i j x,I i j=some x→F i j=some x:=by
  intro i j x K
  by_cases h:i=b
  ·subst h
   obtain⟨X,h2⟩:=D j x K
   simp only[F,X,and_self,if_true,h2]
  ·simp only[F,h,false_and,if_false,K]
 have d1:n*sz≤cap*sz:=Nat.mul_le_mul_right _ hc
 have hB:w0.heap.size≤b:=by
  rcases hb with⟨h,_⟩|⟨u,n0,c0,s0,z,hg,_,_⟩
  ·rw[h];exact L.fr.size
  ·obtain⟨i,n',c',s',O,H,Z,k4,k5⟩:=M.tk u z
   rw[hg]at O
   cases O
   exact Z
 have c1:w.heap.size≤w'.heap.size:=by rcases hb with⟨_,h⟩|⟨_,_,_,_,_,_,_,h⟩ <;> omega
 have c6:b<w'.heap.size:=(Array.getElem?_eq_some_iff.1 B).1
 -- who owns what is not b
 have G:∀i ow,Ω i=some ow→(∀u,ow=.tk u→del≠some u)→i≠b:=by
  intro i ow X h2 e
  subst e
  rcases hb with⟨h,_⟩|⟨u,n0,c0,s0,z,hg,y,_⟩
  ·have:=M.lt _ _ X;omega
  ·obtain⟨d3,n',c',s',O,H,Z,k4,k5⟩:=M.tk u z
   rw[hg]at O
   cases O
   rw[X]at H
   cases H
   exact h2 u rfl y
 refine⟨.slice (some ⟨b,0,none⟩) n cap,w',upd γ ub (some (.tok b n cap sz)),F,.inl b7,⟨(Ye _ _ _).trans L.sz,jcm L q _ _,?_,⟨?_,?_,⟨upd Ω b (some (.tk ub)),⟨?_,?_,?_⟩⟩,?_,fun i j r=>?_⟩⟩,?_,q,hI⟩
 ·refine Wj (by rw[L.sz];exact hd) (fun t=>(L.tm t).mono q hI) ?_
  refine .tsl ub b n cap sz cs (fun j=>(arr[j]?).getD undef) zS b5 hc hm (fun j hj=>?_) (fun j v hv=>(s j v hv).1) (fun j v hv=>?_)
  ·have N:j<n*sz:=zO
   have:j<arr.size:=zO
   simp[F,N,this]
  ·obtain⟨_,x,K,hr⟩:=s j v hv
   simp only[K,Option.getD_some]
   exact hr.mono hI
 ·intro i j x K
  by_cases h:i=b∧j<n*sz
  ·simp only[F,h,and_self,if_true]at K
   obtain⟨rfl,_⟩:=h
   simp[World.cell?,B,K]
  ·simp only[F,h,if_false]at K
   by_cases r:i=b
   ·subst r
    obtain⟨X,_⟩:=D j x K
    exact absurd ⟨rfl,X⟩ h
   ·have hc:=L.imm _ _ _ K
    rw[World.cell?_of_block (w:=w) (w':=w') (a:=⟨i,j,none⟩) (hk i (World.block_lt_of_cell? _ _ hc) r)]
    exact hc
 ·exact fun g c9 hg=>(L.gl g c9 hg).mono hI
 ·intro l ob hl
  have b9:(st.app o.dst { v:=V.sl (some (ub,sz)) false n cs,del:=del,add:=[ub] }).ob=st.ob:=by simp[St.app,JK]
  rw[b9]at hl ⊢
  obtain⟨i,k',O,H,Z,k4,k5⟩:=M.ob l ob hl
  have p:=G i _ H (fun u h=>by cases h)
  have J:=M.lt _ _ H
  have Q:Xm γ st.ob st.ob w.heap w'.heap:=by
   intro l2 u2 d0 d4 mb mk c2 b8
   refine .inl ⟨b8,fun m c c7=>?_⟩
   obtain⟨b2,d2,q1,q2,_⟩:=M.ob l2 _ b8
   rw[c2]at q1
   cases q1
   rw[hk mb (M.lt _ _ q2) (G mb _ q2 (fun u h=>by cases h))]
   exact c7
  refine⟨i,k',q _ _ O,?_,Z,?_,fun j=>?_⟩
  ·rw[J9 _ _ p];exact H
  ·rw[hk i J p];exact(k4.keep Q).mono q hI
  ·simp only[F,p,false_and,if_false,k5]
 ·intro u z
  simp only[St.app,Qj,List.mem_singleton]at z
  by_cases b6:u=ub
  ·subst b6
   refine⟨b,n,cap,sz,zS,zS,hB,⟨arr,e,B,c8,hc,hm⟩,fun j hj=>?_⟩
   have N:¬ j<n*sz:=zO
   simp only[F,N,and_false,if_false]
   cases c3:I b j with
   | none=>rfl
   | some x=>exact absurd (D j x c3).1 N
  ·simp only[b6,if_false]at z
   split at z
   ·cases z
   ·rename_i y
    obtain⟨i,n',c',s',O,H,Z,k4,k5⟩:=M.tk u z
    have p:=G i _ H (fun u' h c5=>by cases h;simp[c5]at y)
    have J:=M.lt _ _ H
    refine⟨i,n',c',s',q _ _ O,?_,Z,?_,fun j hj=>?_⟩
    ·rw[J9 _ _ p];exact H
    ·rw[hk i J p];exact k4
    ·simp only[F,p,false_and,if_false,k5 j hj]
 ·intro i ow r
  rw[j3]at r
  split at r
  ·rename_i h;subst h;exact c6
  ·have:=M.lt i _ r;omega
 ·refine Grow.frame L.fr (T:=fun k=>k=b) ⟨S.1,S.2.1,S.2.2,c1,fun k U p=>hk k U p,fun k U=>U▸hB⟩
 ·have p:i≠b:=zO
  simp only[F,p,false_and,if_false]
  exact L.old i j r
 ·intro u z
  exact J9 _ _ (fun e=>z ⟨zO,zO⟩)
theorem jmn (z:R E w0 I0 nt γ I st a w) (B:∀d,o.dst=some d→d<nt) (t:γ ub=none) {b n cap sz:Nat}{cs:List V}{w':World}{del:Option Nat}{arr:Array Value}{e:TypeId}
 (h:(execOp a.eval o).run P w=.ok (.value (.slice (some ⟨b,0,none⟩) n cap)) w')
 (s:(b=w.heap.size∧w'.heap.size=w.heap.size+1)∨(∃u G g p,st.tk u=true∧γ u=some (.tok b G g p)∧del=some u∧w'.heap.size=w.heap.size))
 (q:w'.os=w.os∧w'.tape=w.tape∧w'.output=w.output) (y:∀k,k<w.heap.size→k≠b→w'.heap[k]? = w.heap[k]?)
 (i:w'.heap[b]? = some (.cells arr e (0,0))) (r:arr.size=cap*sz) (F:n≤cap) (D:cap≤maxLen)
 (l:∀j x,I b j=some x→j<n*sz∧arr[j]? = some x) (f:cs.length=n*sz)
 (c:∀ (j:Nat) (v:V),cs[j]? = some v→v.pureLeaf=true∧∃x,arr[j]? = some x∧RepP I x v)
 (m:some { v:=V.sl (some (ub,sz)) false n cs,del:=del,add:=[ub] } = some δ):XB P E w0 I0 nt γ I st a w o ub δ :=
 jqz z B t h s q y i (Nat.le_of_eq r.symm) F D l f c m
end
section
variable {γ:Nat→Option Place}{I:IMap}{x:Value}
theorem XG {b:Bool}(h:Rep γ I x (.bool b)):x=.bool b:=by
 cases h with|pure x v h=>cases h;rfl
theorem jw {k:IntKind}{n:Int}(h:Rep γ I x (.int k n)):x=.int k n:=by
 cases h with|pure x v h=>cases h;rfl
theorem X8 {l:List UInt8}(h:Rep γ I x (.str l)):∃s:ByteArray,x=.string s∧s.data.toList=l:=by
 cases h with|pure x v h=>cases h;exact⟨_,rfl,rfl⟩
theorem Xg (h:Rep γ I x .nilptr):x=.pointer none:=by
 cases h with|pure x v h=>cases h;rfl
theorem XO (h:Rep γ I x .nilmap):x=.map none:=by
 cases h with|pure x v h=>cases h;rfl
theorem ja6 (h:Rep γ I x .nilfn):x=.nilFunc:=by
 cases h with|pure x v h=>cases h;rfl
theorem W5 (h:Rep γ I x .nilif):x=.nilIface:=by
 cases h with|pure x v h=>cases h;rfl
theorem YP {l u off:Nat}(h:Rep γ I x (.ptr l u off)):∃b k,γ u=some (.obj b k)∧x=.pointer (some ⟨b,off,none⟩):=by
 cases h with
 | pure x v h=>cases h
 | ptr _ _ _ b k a=>exact⟨b,k,a,rfl⟩
theorem WQ {l u:Nat}(h:Rep γ I x (.map l u)):∃b k,γ u=some (.obj b k)∧x=.map (some b):=by
 cases h with
 | pure x v h=>cases h
 | map _ _ b k a=>exact⟨b,k,a,rfl⟩
theorem jc5 {l u:Nat}(h:Rep γ I x (.iter l u)):∃b k,γ u=some (.obj b k)∧x=.pointer (some ⟨b,0,none⟩):=by
 cases h with
 | pure x v h=>cases h
 | iter _ _ b k a=>exact⟨b,k,a,rfl⟩
theorem jtv {l u:Nat}(h:Rep γ I x (.yld l u)):∃b k,γ u=some (.obj b k)∧x=.func (.yield b) #[] #[]:=by
 cases h with
 | pure x v h=>cases h
 | yld _ _ b k a=>exact⟨b,k,a,rfl⟩
theorem Xf {l u off n sz:Nat}(h:Rep γ I x (.osl l u off n sz)):∃b k a c,γ u=some (.obj b k)∧x=.slice (some a) n c∧(0<c→a=⟨b,off,none⟩∧off+c*sz≤k.size)∧n≤c∧c≤maxLen:=by
 cases h with
 | pure x v h=>cases h
 | osl _ _ _ _ _ c b k a f d g e=>exact⟨b,k,a,c,f,rfl,d,g,e⟩
theorem QI {cs:List V}{off:Nat}(h:Rep γ I x (.eptr cs off)):∃b a,x=.pointer (some ⟨b,a+off,none⟩) ∧
 ∃c:Nat→Value,(∀j,j<cs.length→I b (a+j)=some (c j))∧(∀ (j:Nat) (v:V),cs[j]? = some v→v.pureLeaf=true)∧∀ (j:Nat) (v:V),cs[j]? = some v→RepP I (c j) v:=by
 cases h with
 | pure x v h=>cases h with|eptr b a off cs c e d f=>exact⟨b,a,rfl,c,e,d,f⟩
theorem j23 {vs:List V}(h:Rep γ I x (.tup vs)):∃a:Array Value,x=.tuple a∧a.size=vs.length∧∀ (j:Nat) (y:Value) (v:V),a[j]? = some y→vs[j]? = some v→Rep γ I y v:=by
 cases h with
 | pure x v h=>cases h
 | tup a vs b c=>exact⟨a,rfl,b,c⟩
theorem Y2 {cs:List V}(h:Rep γ I x (.agg cs)):∃b:Array Value,x=.agg b∧b.size=cs.length∧(∀ (j:Nat) (v:V),cs[j]? = some v→v.leaf=true) ∧
 ∀ (j:Nat) (y:Value) (v:V),b[j]? = some y→cs[j]? = some v→Rep γ I y v:=by
 cases h with
 | pure x v h=>cases h with|agg b cs a c d=>exact⟨b,rfl,a,c,fun j y v f e=>.pure _ _ (d j y v f e)⟩
 | agg b cs a c d=>exact⟨b,rfl,a,c,d⟩
theorem jch {f:Fn}{asg bs:List V}(h:Rep γ I x (.fn f asg bs)):∃c d:Array Value,x=.func f c d∧c.size=asg.length∧d.size=bs.length ∧
 (∀ (j:Nat) (y:Value) (v:V),c[j]? = some y→asg[j]? = some v→Rep γ I y v)∧∀ (j:Nat) (y:Value) (v:V),d[j]? = some y→bs[j]? = some v→Rep γ I y v:=by
 cases h with
 | pure x v h=>cases h with|fn f c d asg bs g k e i=>exact⟨c,d,rfl,g,k,fun j y v a b=>.pure _ _ (e j y v a b),fun j y v a b=>.pure _ _ (i j y v a b)⟩
 | fn f c d asg bs g k e i=>exact⟨c,d,rfl,g,k,e,i⟩
theorem ja7 {t:TypeId}{v:V}(h:Rep γ I x (.iface t v)):∃y,x=.iface t y∧Rep γ I y v:=by
 cases h with
 | pure x v h=>cases h with|iface t x v a=>exact⟨x,rfl,.pure _ _ a⟩
 | iface t x v a=>exact⟨x,rfl,a⟩
theorem Xt {t:Option (Nat × Nat)}{nl:Bool}{n:Nat}{cs:List V}(h:Rep γ I x (.sl t nl n cs)) :
 (x=.slice none 0 0∧t=none∧nl=true∧n=0∧cs=[]) ∨
 ∃ (a:Addr) (cap:Nat) (xs:Nat→Value),x=.slice (some a) n cap∧nl=false∧(cs≠[]→a.spot=none)∧n≤cap∧cap≤maxLen ∧
  (∀j,j<cs.length→I a.block (a.off+j)=some (xs j))∧(∀ (j:Nat) (v:V),cs[j]? = some v→v.pureLeaf=true)∧(∀ (j:Nat) (v:V),cs[j]? = some v→RepP I (xs j) v) ∧
  (∀u c,t=some (u,c)→γ u=some (.tok a.block n cap c)∧a=⟨a.block,0,none⟩∧cs.length=n*c):=by
 cases h with
 | pure x v h=>
  cases h with
  | slnil=>exact .inl ⟨rfl,rfl,rfl,rfl,rfl⟩
  | sl a n cap cs xs p m f k g e=>exact .inr ⟨a,cap,xs,rfl,rfl,p,m,f,k,g,e,fun u c l=>by cases l⟩
 | tsl u b n cap c cs xs l d m f k g e=>
  exact .inr ⟨⟨b,0,none⟩,cap,xs,rfl,rfl,fun _=>rfl,m,f,by simpa using k,g,e,fun q o i=>by cases i;exact⟨l,rfl,d⟩⟩
theorem RepP.strip1 {v:V}(h:RepP I x v):RepP I x v.strip1:=by
 cases h <;> first|exact .slnil|(rename_i a b c d e f g;exact .sl _ _ _ _ _ d e f g ‹_› ‹_›)|(constructor <;> assumption)|(constructor)
end
section
variable {P:Program}{E:Env}{w0 w:World}{I0:IMap}{nt:Nat}{γ:Nat→Option Place}{I:IMap}{st:St}{a:Act}{o:Oper}{ub:Nat}{δ:Delta}
theorem bind_some {c d:Type}{x:Option c}{f:c→Option d}{b:d}(h:x.bind f=some b):∃y,x=some y∧f y=some b:=Option.bind_eq_some_iff.1 h
theorem map_some {c d:Type}{x:Option c}{f:c→d}{b:d}(h:x.map f=some b):∃y,x=some y∧f y=b:=Option.map_eq_some_iff.1 h
theorem jr8 (b:R E w0 I0 nt γ I st a w) (e:∀d,o.dst=some d→d<nt) {x:Operand}{y:A}(f:o.op=.move x∨o.op=.assign x) (g:opd x=some y)
 (c:one (eval E st.tm y)=some δ):XB P E w0 I0 nt γ I st a w o ub δ :=
 jS b e (x:=a.eval x) (by rcases f with h|h <;> simp only[execOp,h] <;> rfl) (j9 b g) c
theorem j1t (e:R E w0 I0 nt γ I st a w) (m:∀d,o.dst=some d→d<nt) {c x y:Operand}{i h g:A}(j:o.op=.pick c x y) (n:opd c=some i) (k:opd x=some h) (p:opd y=some g)
 (f:(match eval E st.tm i with|.bool t=>one (cond t (eval E st.tm h) (eval E st.tm g))|_=>none)=some δ):XB P E w0 I0 nt γ I st a w o ub δ:=by
 have b:=j9 e n
 split at f
 ·rename_i t l
  rw[l]at b
  have:=XG b
  refine jS e m (x:=if t then a.eval x else a.eval y) ?_ ?_ f
  ·simp only[execOp,j,this,asBool,Sem.run_bind,Sem.run_pure,Result.andThen_ok]
  ·cases t
   ·exact j9 e p
   ·exact j9 e k
 ·cases f
theorem jF (op:BinOp) (t:TypeId) (x y:Operand) (u v:Value) (b:¬ (u=.nilIface∧v=.nilIface)) (c:∀p q,¬ (u=.agg p∧v=.agg q)):(eqGuard op t x y u v).run P w=.ok () w:=by
 unfold eqGuard
 cases u <;> cases v <;> first
  | (exact absurd ⟨rfl,rfl⟩ b)
  | (exact absurd ⟨rfl,rfl⟩ (c _ _))
  | (simp only[Sem.run_pure,ite_self])
theorem jo0 (op:BinOp) (k:IntKind) (x y:Int) {v:V}(h:XU op k x y=some v) (t:TypeId) (b:op≠.shl∧op≠.shr) :
 ∃z,(binOp op t (.int k x) (.int k y)).run P w=.ok z w∧∀γ I,Rep γ I z v:=by
 cases op <;> simp only[XU,Option.some.injEq,reduceCtorEq]at h <;>
  first
  | exact absurd rfl b.1
  | exact absurd rfl b.2
  | (subst h;exact⟨_,by simp only[binOp,Op.intArith,Op.intBits,Op.intCmp,ne_eq,not_true_eq_false,if_false];rfl,fun _ _=>.pure _ _ (by constructor)⟩)
  | (split at h <;> simp only [Option.some.injEq,reduceCtorEq] at h;subst h;rename_i c 
     exact⟨_,by simp only[binOp,Op.intDiv,ne_eq,not_true_eq_false,if_false,c];rfl,fun _ _=>.pure _ _ (by constructor)⟩)
theorem jca (op:BinOp) (k b:IntKind) (x y:Int) {v:V}(h:Q7 op k x y=some v) (t:TypeId) :
 ∃z,(binOp op t (.int k x) (.int b y)).run P w=.ok z w∧∀γ I,Rep γ I z v:=by
 unfold Q7 at h
 split at h
 ·cases h
 ·rename_i c
  cases op <;> simp only[Option.some.injEq,reduceCtorEq]at h
  all_goals
   subst h
   exact⟨_,by simp only[binOp,Op.shift,c,if_false];rfl,fun _ _=>.pure _ _ (.int _ _)⟩
theorem YI (s:ByteArray):s.toList=s.data.toList:=by
 have b:∀ (n i:Nat) (r:List UInt8),s.size - i=n→ByteArray.toList.loop s i r=r.reverse++s.data.toList.drop i:=by
  intro n
  induction n with
  | zero=>
   intro i r h
   unfold ByteArray.toList.loop
   have:¬ i<s.size:=zO
   have d:s.data.toList.length≤i:=by simp only[Array.length_toList];exact Nat.le_of_not_lt this
   simp[this,List.drop_eq_nil_of_le d]
  | succ n e=>
   intro i r h
   unfold ByteArray.toList.loop
   have c:i<s.size:=zO
   simp only[c,if_true]
   rw[e (i+1) _ zO]
   have d:i<s.data.toList.length:=by simpa using c
   rw[List.drop_eq_getElem_cons d]
   have:s.get! i=s.data.toList[i]:=by
    simp[ByteArray.get!,c]
   simp[this]
 unfold ByteArray.toList
 rw[b s.size 0 [] zO]
 simp
theorem joz (op:BinOp) (x y:ByteArray) {v:V}(h:jil op x.data.toList y.data.toList=some v) (t:TypeId) :
 ∃z,(binOp op t (.string x) (.string y)).run P w=.ok z w∧∀γ I,Rep γ I z v:=by
 cases op <;> simp only[jil,Option.some.injEq,reduceCtorEq]at h
 case add=>
  split at h
  ·rename_i b
   simp only[Option.some.injEq]at h
   subst h
   have d:¬ (((x.size+y.size:Nat):Int) > IntKind.i64.max):=by
    simp only[Array.length_toList]at b
    have:x.size+y.size≤9223372036854775807:=b
    have c:IntKind.i64.max=9223372036854775807:=by decide
    rw[c];omega
   refine⟨.string (x++y),by simp only[binOp,Op.stringOp,d,if_false];rfl,fun _ _=>.pure _ _ ?_⟩
   have:x.data.toList++y.data.toList=(x++y).data.toList:=zS
   rw[this]
   exact .str _
  ·cases h
 all_goals
  subst h
  exact⟨_,by simp only[binOp,Op.stringOp,YI];rfl,fun _ _=>.pure _ _ (.bool _)⟩
end
section
variable {P:Program}{E:Env}{w0 w:World}{I0:IMap}{nt:Nat}{γ:Nat→Option Place}{I:IMap}{st:St}{a:Act}{o:Oper}{ub:Nat}{δ:Delta}
theorem jv4 {x y:Value}{f g v:V}(op:BinOp) (t:TypeId) (e:Rep γ I x f) (j:Rep γ I y g) (h:Y8 op f g=some v) :
 (∃z,(binOp op t x y).run P w=.ok z w∧∀γ I,Rep γ I z v)∧¬ (x=.nilIface∧y=.nilIface)∧(∀p q,¬ (x=.agg p∧y=.agg q)):=by
 unfold Y8 at h
 split at h
 ·rename_i k a i b
  have c:=jw e
  have d:=jw j
  subst c;subst d
  refine⟨?_,zS,zS⟩
  split at h
  ·exact jca .shl k i a b h t
  ·exact jca .shr k i a b h t
  ·rename_i c d
   split at h
   ·rename_i l
    subst l
    exact jo0 op k a b h t ⟨c,d⟩
   ·cases h
 ·rename_i a b
  obtain⟨s,rfl,rfl⟩:=X8 e
  obtain⟨m,rfl,rfl⟩:=X8 j
  exact⟨joz op s m h t,zS,zS⟩
 ·cases h
theorem jsi (c:R E w0 I0 nt γ I st a w) (m:∀d,o.dst=some d→d<nt) {op:BinOp}{t q:TypeId}{x y:Operand}{f e:A}(j:o.op=.binOp op t x y q) (k:opd x=some f) (r:opd y=some e)
 (g:(Y8 op (eval E st.tm f) (eval E st.tm e)).bind one=some δ):XB P E w0 I0 nt γ I st a w o ub δ:=by
 obtain⟨v,p,b⟩:=bind_some g
 obtain⟨⟨z,i,l⟩,h,n⟩:=jv4 (P:=P) (w:=w) op t (j9 c k) (j9 c r) p
 exact jS c m (x:=z) (by simp only[execOp,j,Sem.run_bind,jF op t x y _ _ h n,Result.andThen_ok,i,Sem.run_pure]) (l γ I) b
def LKOk (P:Program) (t:TypeId):LK→Prop
 | .bool=>P.underlying t=some .bool
 | .int=>∃q,P.underlying t=some (.int q)
 | .str=>P.underlying t=some .string
theorem jfu {t:TypeId}{x y:Value}{l m:V}{b:Bool}{k:LK}(d:Nat)
 (c:LKOk P t k)
 (g:Rep γ I x l) (j:Rep γ I y m) (h:YT k l m=some b):(Op.equalIn (d+1) t x y).run P w=.ok b w:=by
 unfold YT at h
 split at h
 ·have f:=XG g
  have i:=XG j
  subst f;subst i
  simp only[Option.some.injEq]at h
  rw[← h]
  exact run_equalIn_bool' w d t _ _ c
 ·rename_i k n u r
  have f:=jw g
  have i:=jw j
  subst f;subst i
  obtain⟨q,c⟩:=c
  split at h
  ·rename_i e
   subst e
   simp only[Option.some.injEq]at h
   rw[← h]
   exact run_equalIn_int w d t k q n r c
  ·cases h
 ·obtain⟨s,rfl,rfl⟩:=X8 g
  obtain⟨p,rfl,rfl⟩:=X8 j
  simp only[Option.some.injEq]at h
  rw[run_equalIn_string w d t s p c,YI,YI,h]
 ·cases h
theorem Qc:∀ (l l':List LK) (x y:List V) (b:Bool),jj (l++l') x y=some b →
 ∃b1 b2,jj l (x.take l.length) (y.take l.length)=some b1∧jj l' (x.drop l.length) (y.drop l.length)=some b2∧b=(b1 && b2)
 | [],l',x,y,b,h=>⟨true,b,rfl,by simpa using h,zS⟩
 | k::l,l',x,y,b,h=>by
  cases x with
  | nil=>simp[jj]at h
  | cons a x=>
   cases y with
   | nil=>simp[jj]at h
   | cons c y=>
    simp only[List.cons_append,jj]at h
    obtain⟨r,e,g⟩:=bind_some h
    obtain⟨q,m,d⟩:=map_some g
    obtain⟨b1,b2,i,j,f⟩:=Qc l l' x y q m
    refine⟨r && b1,b2,?_,by simpa using j,by rw[← d,f,Bool.and_assoc]⟩
    simp only[List.length_cons,List.take_succ_cons,jj,e,Option.bind_some,i,Option.map_some]
def YX (γ:Nat→Option Place) (I:IMap) (P:Program) (t:TypeId) (x:Value) (cs:List V):Prop :=
 match P.underlying t with
 | some (.struct _)=>∃xs:Array Value,x=.agg xs∧xs.size=cs.length∧∀ (j:Nat) (y:Value) (v:V),xs[j]? = some y→cs[j]? = some v→Rep γ I y v
 | _=>∃v,cs=[v]∧Rep γ I x v
theorem YK {t:TypeId}{d:TypeDesc}(h:P.underlying t=some d):(isAgg t).run P w=.ok (ja5 d) w:=by
 unfold isAgg
 rw[Sem.run_bind,run_underlying h w]
 cases d <;> rfl
theorem je {t:TypeId}{n:Nat}(h:Wa P t=some n):(sizeOf t).run P w=.ok n w:=by
 unfold Wa at h
 obtain⟨i,b,rfl⟩:=map_some h
 simp[sizeOf,typeInfo,b]
theorem jaj {t:TypeId}{n off:Nat}{xs:Array Value}{cs:List V}(d:Nat) {l:List LK}(c:eqTs P d t=some l) (r:Wa P t=some n) (z:xs.size=cs.length)
 (k:∀ (j:Nat) (y:Value) (v:V),xs[j]? = some y→cs[j]? = some v→Rep γ I y v) (m:off+n≤cs.length) (u:n=l.length) :
 ∃x,(part t xs off).run P w=.ok x w∧YX γ I P t x ((cs.drop off).take n):=by
 cases d with
 | zero=>simp[eqTs]at c
 | succ d=>
  have one:∀ (dd:TypeDesc),P.underlying t=some dd→ja5 dd=false→l.length=1→∃x,(part t xs off).run P w=.ok x w∧YX γ I P t x ((cs.drop off).take n):=by
   intro dd b i p
   have h:n=1:=zO
   subst h
   have e:off<xs.size:=zO
   have f:cs[off]? = some cs[off]:=List.getElem?_eq_getElem zO
   refine⟨xs[off],?_,?_⟩
   ·unfold part
    simp only[Sem.run_bind,YK b,i,Result.andThen_ok,Bool.false_eq_true,if_false,Array.getElem?_eq_getElem e,Sem.run_pure]
   ·have hd1:(cs.drop off).take 1=[cs[off]]:=by
     rw[List.drop_eq_getElem_cons zO]
     rfl
    rw[hd1]
    have:=k off _ _ (Array.getElem?_eq_getElem e) f
    unfold YX
    rw[b]
    cases dd <;> first|exact⟨_,rfl,this⟩|(simp[ja5]at i)
  unfold eqTs at c
  split at c
  ·rename_i b;cases c;exact one _ b rfl rfl
  ·rename_i q b;cases c;exact one _ b rfl rfl
  ·rename_i b;cases c;exact one _ b rfl rfl
  ·rename_i fs b
   refine⟨.agg (xs.extract off (off+n)),?_,?_⟩
   ·unfold part
    simp only[Sem.run_bind,YK b,ja5,Result.andThen_ok,if_true,je r,Sem.run_pure]
   ·unfold YX
    rw[b]
    refine⟨_,rfl,?_,?_⟩
    ·simp only[Array.size_extract,List.length_take,List.length_drop];omega
    ·intro j y v g f
     have s:j<n:=by
      have:=(List.getElem?_eq_some_iff.1 f).1
      simp only[List.length_take]at this
      omega
     simp only[Array.getElem?_extract]at g
     rw[List.getElem?_take_of_lt s,List.getElem?_drop]at f
     split at g
     ·exact k _ _ _ g f
     ·cases g
  ·cases c
theorem jo1:∀ (d:Nat) (t:TypeId) (l:List LK) (D:Nat) (x y:Value) (m n:List V) (b:Bool),eqTs P d t=some l→d≤D→YX γ I P t x m→YX γ I P t y n →
 jj l m n=some b→(Op.equalIn D t x y).run P w=.ok b w:=by
 intro d
 induction d with
 | zero=>intro t l D x y m n b h;simp[eqTs]at h
 | succ d ih=>
  intro t l D x y m n b j hD H J h
  obtain⟨D,rfl⟩:∃D',D=D'+1:=⟨D - 1,zO⟩
  unfold eqTs at j
  have leaf:∀ (k:LK) (dd:TypeDesc),P.underlying t=some dd→ja5 dd=false→l=[k]→LKOk P t k →
   (Op.equalIn (D+1) t x y).run P w=.ok b w:=by
   intro k dd g ha S ht
   subst S
   have G:∃v,m=[v]∧Rep γ I x v:=by unfold YX at H;rw[g]at H;cases dd <;> first|exact H|(simp[ja5]at ha)
   have z:∃v,n=[v]∧Rep γ I y v:=by unfold YX at J;rw[g]at J;cases dd <;> first|exact J|(simp[ja5]at ha)
   obtain⟨v,rfl,G⟩:=G
   obtain⟨v',rfl,z⟩:=z
   simp only[jj]at h
   obtain⟨r,Z,B⟩:=bind_some h
   simp only[Option.map_some,Bool.and_true,Option.some.injEq]at B
   subst B
   exact jfu D ht G z Z
  split at j
  ·rename_i g;cases j;exact leaf .bool _ g rfl rfl g
  ·rename_i q g;cases j;exact leaf .int _ g rfl rfl ⟨q,g⟩
  ·rename_i g;cases j;exact leaf .str _ g rfl rfl g
  ·rename_i fs g
   split at j
   ·cases j
   ·rename_i T
    unfold YX at H J
    rw[g]at H J
    obtain⟨xs,rfl,c0,c1⟩:=H
    obtain⟨ys,rfl,b7,Q⟩:=J
    have hf:P.fieldsOf t=fs:=by unfold Program.fieldsOf;rw[g]
    rw[run_equalIn_struct w D t xs ys (by rw[hf];exact g) (by simpa using T),hf]
    -- field by field
    have X:∀ (M:List Field) (off:Nat) (i:List LK) (b:Bool),eqFs (eqTs P d) P off M=some i→off+i.length≤m.length→off+i.length≤n.length→jj i (m.drop off) (n.drop off)=some b →
     (Op.eqFields D xs ys M).run P w=.ok b w:=by
     intro M
     induction M with
     | nil=>
      intro off i b s B h3 O
      simp only[eqFs,Option.some.injEq]at s
      subst s
      cases b6:m.drop off <;> cases a0:n.drop off <;> simp[b6,a0,jj]at O
      subst O
      rfl
     | cons f M U=>
      intro off i b s B h3 O
      simp only[eqFs]at s
      split at s
      ·cases s
      ·rename_i e
       simp only[not_or,Decidable.not_not]at e
       obtain⟨N,F,h5⟩:=bind_some s
       split at h5
       ·rename_i K
        obtain⟨l2,b5,rfl⟩:=map_some h5
        simp only[List.length_append]at B h3
        obtain⟨b1,b2,e1,e2,rfl⟩:=Qc N l2 _ _ b O
        obtain⟨p,hp,b9⟩:=jaj (P:=P) (w:=w) (off:=off) d F K c0 c1 zO rfl
        obtain⟨q,hq,b0⟩:=jaj (P:=P) (w:=w) (off:=off) d F K b7 Q zO rfl
        have Z:=ih f.type N D p q _ _ b1 F zO b9 b0 e1
        simp only[Op.eqFields,e.1,ne_eq,not_false_eq_true,if_true,Sem.run_bind,e.2,hp,hq,Z,Result.andThen_ok,Sem.run_ite,Sem.run_pure]
        cases b1
        ·simp
        ·simp only[Bool.not_true,Bool.false_eq_true,if_false,Bool.true_and]
         refine U (off+N.length) l2 b2 b5 zO zO ?_
         simpa[List.drop_drop] using e2
       ·cases h5
    have L:∀ (i:List LK) (u v:List V) (b:Bool),jj i u v=some b→i.length=u.length∧i.length=v.length:=by
     intro i
     induction i with
     | nil=>intro u v b h;cases u <;> cases v <;> simp[jj]at h;exact⟨rfl,rfl⟩
     | cons k i b8=>
      intro u v b h
      cases u with
      | nil=>simp[jj]at h
      | cons c u=>
       cases v with
       | nil=>simp[jj]at h
       | cons c' v=>
        simp only[jj]at h
        obtain⟨r,_,B⟩:=bind_some h
        obtain⟨q,hq,_⟩:=map_some B
        have:=b8 u v q hq
        simp only[List.length_cons]
        omega
    obtain⟨N,l2⟩:=L l m n b h
    exact X fs.toList 0 l b j zO zO (by simpa using h)
  ·cases j
theorem j14 {t:TypeId}{k:LK}(h:jks P t=some k):LKOk P t k∧∃d,P.underlying t=some d∧ja5 d=false:=by
 unfold jks at h
 split at h
 ·rename_i b;cases h;exact⟨b,_,b,rfl⟩
 ·rename_i q b;cases h;exact⟨⟨q,b⟩,_,b,rfl⟩
 ·rename_i b;cases h;exact⟨b,_,b,rfl⟩
 ·cases h
theorem jre {t e:TypeId}{n:Nat}{k:LK}(D:Nat) (hu:P.underlying t=some (.array n e)) (Q:jks P e=some k) (hs:Wa P e=some 1) {xs ys:Array Value}{l f:List V}{b:Bool}(a0:xs.size=l.length) (X:ys.size=f.length)
 (N:∀ (j:Nat) (y:Value) (v:V),xs[j]? = some y→l[j]? = some v→Rep γ I y v) (hy:∀ (j:Nat) (y:Value) (v:V),ys[j]? = some y→f[j]? = some v→Rep γ I y v) (h:jj (List.replicate n k) l f=some b) :
 (Op.equalIn (D+2) t (.agg xs) (.agg ys)).run P w=.ok b w:=by
 obtain⟨U,d,S,L⟩:=j14 Q
 have p:=hs
 unfold Wa at p
 obtain⟨i,K,F⟩:=map_some p
 have hc:P.cellsOf e=1:=by simp[Program.cellsOf,K,F]
 rw[run_equalIn_array w (D+1) xs ys hu K,hc,List.range_eq_range']
 have c:∀ (x:Array Value) (j:Nat) (z:Value),x[j]? = some z→(part e x (j*1)).run P w=.ok z w:=fun x j z M=>by
  unfold part
  simp only[Sem.run_bind,YK S,L,Result.andThen_ok,Bool.false_eq_true,if_false,Nat.mul_one,M,Sem.run_pure]
 have u:∀ (m off:Nat) (b:Bool),jj (List.replicate m k) (l.drop off) (f.drop off)=some b→(Op.eqItems (D+1) e 1 xs ys (List.range' off m)).run P w=.ok b w:=by
  intro m
  induction m with
  | zero=>
   intro off b h
   rw[List.replicate_zero]at h
   cases B:l.drop off <;> cases g:f.drop off <;> simp[B,g,jj]at h
   subst h
   rfl
  | succ m T=>
   intro off b h
   rw[List.replicate_succ]at h
   by_cases s:off<l.length
   ·by_cases J:off<f.length
    ·rw[List.drop_eq_getElem_cons s,List.drop_eq_getElem_cons J]at h
     simp only[jj]at h
     obtain⟨r,O,h3⟩:=bind_some h
     obtain⟨q,Z,rfl⟩:=map_some h3
     have H:xs[off]? = some xs[off]:=Array.getElem?_eq_getElem zO
     have G:ys[off]? = some ys[off]:=Array.getElem?_eq_getElem zO
     have e1:=jfu (P:=P) (w:=w) D U (N off _ _ H (List.getElem?_eq_getElem s)) (hy off _ _ G (List.getElem?_eq_getElem J)) O
     rw[List.range'_succ]
     simp only[Op.eqItems,Sem.run_bind,c _ _ _ H,c _ _ _ G,e1,Result.andThen_ok]
     cases r
     ·rfl
     ·simpa using T (off+1) q Z
    ·rw[List.drop_eq_getElem_cons s,List.drop_of_length_le (by omega:f.length≤off)]at h
     simp[jj]at h
   ·rw[List.drop_of_length_le (by omega:l.length≤off)]at h
    cases g:f.drop off <;> simp[g,jj]at h
 exact u n 0 b (by simpa using h)
theorem ok_un (h:R E w0 I0 nt γ I st a w) (j:∀d,o.dst=some d→d<nt) {op:UnOp}{t:TypeId}{x:Operand}{l:A}(i:o.op=.unOp op t x) (p:opd x=some l)
 (m:(unV op (eval E st.tm l)).bind one=some δ):XB P E w0 I0 nt γ I st a w o ub δ:=by
 obtain⟨v,c,e⟩:=bind_some m
 have f:=j9 h p
 unfold unV at c
 split at c
 ·rename_i b g
  rw[g]at f
  have:=XG f
  simp only[Option.some.injEq]at c
  subst c
  exact jS h j (x:=.bool (!b)) (by simp only[execOp,i,this,Op.unary];rfl) (.pure _ _ (.bool _)) e
 ·rename_i k n g
  rw[g]at f
  have:=jw f
  simp only[Option.some.injEq]at c
  subst c
  exact jS h j (x:=.int k (k.wrap (0 - n))) (by simp only[execOp,i,this,Op.unary,Op.intArith];rfl) (.pure _ _ (.int _ _)) e
 ·rename_i k n g
  rw[g]at f
  have:=jw f
  simp only[XU,Option.some.injEq]at c
  subst c
  exact jS h j (x:=.int k _) (by simp only[execOp,i,this,Op.unary,Op.intBits];rfl) (.pure _ _ (.int _ _)) e
 ·cases c
end
section
variable {P:Program}{E:Env}{w0 w:World}{I0:IMap}{nt:Nat}{γ:Nat→Option Place}{I:IMap}{st:St}{a:Act}{o:Oper}{ub:Nat}{δ:Delta}
theorem jcd (t:TypeId) (x y:Value) (b:Bool) (c:∀k n,x≠.int k n) (e:∀s,x≠.string s) (d:∀k f,x≠.float k f) (g:∀k r i,x≠.complex k r i) (h:(Op.equal t x y).run P w=.ok b w) :
 (binOp .eql t x y).run P w=.ok (.bool b) w∧(binOp .neq t x y).run P w=.ok (.bool (!b)) w:=by
 constructor
 ·unfold binOp
  cases x <;> cases y <;> first|(exact absurd rfl (c _ _))|(exact absurd rfl (e _))|(exact absurd rfl (d _ _))|(exact absurd rfl (g _ _ _))|(simp only[Sem.run_bind,h,Result.andThen_ok,Sem.run_pure])
 ·unfold binOp
  cases x <;> cases y <;> first|(exact absurd rfl (c _ _))|(exact absurd rfl (e _))|(exact absurd rfl (d _ _))|(exact absurd rfl (g _ _ _))|(simp only[Sem.run_bind,h,Result.andThen_ok,Sem.run_pure])
def EqKOk (P:Program) (t:TypeId) (x y:Operand):EqK→Prop
 | .bool=>P.underlying t=some .bool
 | .ptr=>∃e,P.underlying t=some (.pointer e)∧∃n,Wa P e=some n∧n≠0
 | .sl=>∃e,P.underlying t=some (.slice e)
 | .map=>∃k e,P.underlying t=some (.map k e)
 | .fn=>∃p r v,P.underlying t=some (.func p r v)
 | .iface=>(∃ms,P.underlying t=some (.interface ms))∧((∃v,x=.const v)∨∃v,y=.const v)
 | .struct l=>P.eqGuardType P.depth t=false∧((∃fs,P.underlying t=some (.struct fs))∧eqTs P 8 t=some l∨∃n e k,P.underlying t=some (.array n e)∧jks P e=some k∧Wa P e=some 1∧l=List.replicate n k)
theorem jt8 {t:TypeId}{x y:Operand}{k:EqK}(h:eqK P t x y=some k):EqKOk P t x y k:=by
 unfold eqK at h
 split at h
 ·cases h;assumption
 ·split at h
  ·rename_i d
   cases h
   exact⟨_,by assumption,_,d,Nat.succ_ne_zero _⟩
  ·cases h
 ·cases h;exact⟨_,by assumption⟩
 ·cases h;exact⟨_,_,by assumption⟩
 ·cases h;exact⟨_,_,_,by assumption⟩
 ·split at h
  ·cases h;exact⟨⟨_,by assumption⟩,.inl ⟨_,rfl⟩⟩
  ·cases h;exact⟨⟨_,by assumption⟩,.inr ⟨_,rfl⟩⟩
  ·cases h
 ·split at h
  ·cases h
  ·rename_i b
   obtain⟨l,c,rfl⟩:=map_some h
   exact⟨by simpa using b,.inl ⟨⟨_,by assumption⟩,c⟩⟩
 ·split at h
  ·cases h
  ·rename_i b
   simp only[not_or,Decidable.not_not]at b
   obtain⟨k,e,rfl⟩:=map_some h
   exact⟨by simpa using b.1,.inr ⟨_,_,k,by assumption,e,b.2,rfl⟩⟩
 ·cases h
theorem jZ {t:TypeId}{d:TypeDesc}{X Y:Value}{b:Bool}{r:Result Bool}(e:P.underlying t=some d)
 (h:(match d,X,Y with
  | .bool,.bool a,.bool b=>some (a == b)
  | .pointer _,.pointer none,.pointer b=>some b.isNone
  | .pointer _,.pointer (some _),.pointer none=>some false
  | .slice _,.slice none _ _,.slice b _ _=>some b.isNone
  | .slice _,.slice (some _) _ _,.slice none _ _=>some false
  | .map _ _,.map none,.map b=>some b.isNone
  | .map _ _,.map (some _),.map none=>some false
  | .func _ _ _,.nilFunc,.nilFunc=>some true
  | .func _ _ _,.nilFunc,.func _ _ _|.func _ _ _,.func _ _ _,.nilFunc=>some false
  | .interface _,.nilIface,.nilIface=>some true
  | .interface _,.nilIface,.iface _ _|.interface _,.iface _ _,.nilIface=>some false
  | _,_,_=>none)=some b) (c:r=.ok b w):(Op.equal t X Y).run P w=r:=by
 subst c
 unfold Op.equal
 show(Op.equalIn (9999+1) t X Y).run P w=_
 unfold Op.equalIn
 simp only[Sem.run_bind,run_underlying e,Result.andThen_ok]
 split at h <;> first|(cases h;rfl)|(simp only[Option.some.injEq]at h;subst h;rfl)|(cases h)
theorem ok_eq (K:R E w0 I0 nt γ I st a w) (U:∀d,o.dst=some d→d<nt) {neg:Bool}{t t':TypeId}{x y:Operand}{J F:A}{k:EqK}(O:o.op=.binOp (if neg then .neq else .eql) t x y t') (Q:opd x=some J) (hy:opd y=some F)
 (T:eqK P t x y=some k) (N:((eqV k (eval E st.tm J) (eval E st.tm F)).bind fun b=>one (.bool (xor neg b)))=some δ):XB P E w0 I0 nt γ I st a w o ub δ:=by
 obtain⟨b,p,H⟩:=bind_some N
 have j:=j9 K Q
 have c:=j9 K hy
 generalize eval E st.tm J=vx at j p
 generalize eval E st.tm F=vy at c p
 generalize S:a.eval x=X at j
 generalize hY:a.eval y=Y at c
 have l:(eqGuard (if neg then .neq else .eql) t x y X Y).run P w=.ok () w→(∀k n,X≠.int k n)→(∀s,X≠.string s)→(∀k f,X≠.float k f)→(∀k r i,X≠.complex k r i)→(Op.equal t X Y).run P w=.ok b w →
  XB P E w0 I0 nt γ I st a w o ub δ:=by
  intro h0 u z B D h5
  obtain⟨e1,e2⟩:=jcd t X Y b u z B D h5
  refine jS K U (x:=.bool (xor neg b)) ?_ (.pure _ _ (.bool _)) H
  simp only[execOp,O,Sem.run_bind,S,hY,h0,Result.andThen_ok]
  cases neg
  ·simp only[Bool.false_eq_true,if_false,e1,Result.andThen_ok,Sem.run_pure,Bool.false_xor]
  ·simp only[if_true,e2,Result.andThen_ok,Sem.run_pure,Bool.true_xor]
 have g:=jt8 T
 unfold eqV at p
 split at p <;> first|(cases p;done)|skip
 ·have:=XG j;subst this
  have:=XG c;subst this
  cases p
  exact l (jF _ _ _ _ _ _ zS zS) zS zS zS zS (jZ g rfl rfl)
 ·have:=Xg j;subst this
  have:=Xg c;subst this
  cases p
  obtain⟨e,m,_⟩:=g
  exact l (jF _ _ _ _ _ _ zS zS) zS zS zS zS (jZ m rfl rfl)
 ·obtain⟨_,_,_,rfl⟩:=YP j
  have:=Xg c;subst this
  cases p
  obtain⟨e,m,_⟩:=g
  exact l (jF _ _ _ _ _ _ zS zS) zS zS zS zS (jZ m rfl rfl)
 ·have:=Xg j;subst this
  obtain⟨_,_,_,rfl⟩:=YP c
  cases p
  obtain⟨e,m,_⟩:=g
  exact l (jF _ _ _ _ _ _ zS zS) zS zS zS zS (jZ m rfl rfl)
 ·obtain⟨_,_,rfl,_⟩:=QI j
  have:=Xg c;subst this
  cases p
  obtain⟨e,m,_⟩:=g
  exact l (jF _ _ _ _ _ _ zS zS) zS zS zS zS (jZ m rfl rfl)
 ·have:=Xg j;subst this
  obtain⟨_,_,rfl,_⟩:=QI c
  cases p
  obtain⟨e,m,_⟩:=g
  exact l (jF _ _ _ _ _ _ zS zS) zS zS zS zS (jZ m rfl rfl)
 ·obtain⟨e,m⟩:=g
  rcases Xt c with⟨rfl,_⟩|⟨_,_,_,_,h,_⟩
  ·rcases Xt j with⟨rfl,_,rfl,_⟩|⟨_,_,_,rfl,rfl,_⟩
   ·cases p
    exact l (jF _ _ _ _ _ _ zS zS) zS zS zS zS (jZ m rfl rfl)
   ·cases p
    exact l (jF _ _ _ _ _ _ zS zS) zS zS zS zS (jZ m rfl rfl)
  ·cases h
 ·have:=XO j;subst this
  have:=XO c;subst this
  cases p
  obtain⟨_,_,m⟩:=g
  exact l (jF _ _ _ _ _ _ zS zS) zS zS zS zS (jZ m rfl rfl)
 ·obtain⟨_,_,_,rfl⟩:=WQ j
  have:=XO c;subst this
  cases p
  obtain⟨_,_,m⟩:=g
  exact l (jF _ _ _ _ _ _ zS zS) zS zS zS zS (jZ m rfl rfl)
 ·have:=ja6 j;subst this
  have:=ja6 c;subst this
  cases p
  obtain⟨_,_,_,m⟩:=g
  exact l (jF _ _ _ _ _ _ zS zS) zS zS zS zS (jZ m rfl rfl)
 ·obtain⟨_,_,rfl,_⟩:=jch j
  have:=ja6 c;subst this
  cases p
  obtain⟨_,_,_,m⟩:=g
  exact l (jF _ _ _ _ _ _ zS zS) zS zS zS zS (jZ m rfl rfl)
 ·have:=W5 j;subst this
  have:=W5 c;subst this
  cases p
  obtain⟨⟨ms,m⟩,q⟩:=g
  refine l ?_ zS zS zS zS (jZ m rfl rfl)
  unfold eqGuard
  rcases q with⟨v,rfl⟩|⟨v,rfl⟩ <;> cases neg <;> simp
 ·obtain⟨_,rfl,_⟩:=ja7 j
  have:=W5 c;subst this
  cases p
  obtain⟨⟨_,m⟩,_⟩:=g
  exact l (jF _ _ _ _ _ _ zS zS) zS zS zS zS (jZ m rfl rfl)
 ·have:=W5 j;subst this
  obtain⟨_,rfl,_⟩:=ja7 c
  cases p
  obtain⟨⟨_,m⟩,_⟩:=g
  exact l (jF _ _ _ _ _ _ zS zS) zS zS zS zS (jZ m rfl rfl)
 ·obtain⟨hg,g⟩:=g
  obtain⟨L,rfl,u,_,z⟩:=Y2 j
  obtain⟨M,rfl,B,_,D⟩:=Y2 c
  refine l (run_eqGuard_agg (P:=P) w _ t x y L M hg) zS zS zS zS ?_
  rcases g with⟨⟨fs,m⟩,Z⟩|⟨n,e,k,m,G,hs,rfl⟩
  rotate_left
  ·exact jre (γ:=γ) (I:=I) 9998 m G hs u B z D p
  refine jo1 (γ:=γ) (I:=I) 8 t _ 10000 _ _ _ _ b Z zO ?_ ?_ p
  ·unfold YX;rw[m];exact⟨L,rfl,u,z⟩
  ·unfold YX;rw[m];exact⟨M,rfl,B,D⟩
end
section
variable {P:Program}{E:Env}{w0 w:World}{I0:IMap}{nt:Nat}{γ:Nat→Option Place}{I:IMap}{st:St}{a:Act}{o:Oper}{ub:Nat}{δ:Delta}
theorem J0 {t:TypeId}{i:TypeInfo}{z:Value}(hi:P.info? t=some i) (b:i.zero=some z):(zeroValue t).run P w=.ok z w:=by
 simp[zeroValue,typeInfo,hi,b]
theorem leafOk {v:Value}{z:V}(b:jar v=some z):RepP I v z∧z.leaf=true:=by
 unfold jar at b
 split at b <;> simp only[Option.some.injEq,reduceCtorEq]at b <;> subst b
 ·exact⟨.bool _,rfl⟩
 ·exact⟨.int _ _,rfl⟩
 ·exact⟨.str _,rfl⟩
 ·exact⟨.nilptr,rfl⟩
 ·exact⟨.slnil,rfl⟩
 ·exact⟨.nilmap,rfl⟩
 ·exact⟨.nilfn,rfl⟩
 ·exact⟨.nilif,rfl⟩
theorem jnj {cs:List Value}{l:List V}(h:cs.mapM jar=some l):l.length=cs.length∧∀ (j:Nat) (x:Value) (v:V),cs[j]? = some x→l[j]? = some v→v.leaf=true∧RepP I x v:=by
 obtain⟨c,d⟩:=js h
 exact⟨c,fun j x v f e=>let ⟨a,b⟩:=leafOk (I:=I) (d j x v f e);⟨b,a⟩⟩
theorem YA {t:TypeId}{zs:List V}(h:Yv P t=some zs):∃i z,P.info? t=some i∧i.zero=some z∧zs.length=z.cells.size∧∀ (j:Nat) (x:Value) (v:V),z.cells[j]? = some x→zs[j]? = some v→v.leaf=true∧RepP I x v:=by
 unfold Yv at h
 obtain⟨i,d,f⟩:=bind_some h
 obtain⟨z,c,b⟩:=bind_some f
 obtain⟨k,l⟩:=jnj (I:=I) b
 exact⟨i,z,d,c,by simpa using k,fun j x v e g=>l j x v (by simpa using e) g⟩
theorem je1 {x:Value}{v:V}(h:Rep γ I x v) (d:v.cells.all V.leaf=true):x.cells.size=v.cells.length∧∀ (j:Nat) (y:Value) (u:V),x.cells[j]? = some y→v.cells[j]? = some u→u.leaf=true∧Rep γ I y u:=by
 have one:∀ {x:Value}{v:V},v.cells=[v]→x.cells = #[x]→v.leaf=true→Rep γ I x v→x.cells.size=v.cells.length∧∀ (j:Nat) (y:Value) (u:V),x.cells[j]? = some y→v.cells[j]? = some u→u.leaf=true∧Rep γ I y u:=by
  intro x v r m d h
  rw[r,m]
  refine⟨rfl,fun j y u e c=>?_⟩
  cases j with
  | zero=>simp at e c;subst e;subst c;exact⟨d,h⟩
  | succ j=>simp at c
 cases v with
 | agg cs=>
  obtain⟨B,rfl,g,q,i⟩:=Y2 h
  exact⟨g,fun j y u e c=>⟨q j u c,i j y u e c⟩⟩
 | undef=>simp[V.cells,V.leaf]at d
 | tup D=>simp[V.cells,V.leaf]at d
 | bool b=>have:=XG h;subst this;exact one rfl rfl rfl h
 | int k n=>have:=jw h;subst this;exact one rfl rfl rfl h
 | str s=>obtain⟨G,rfl,_⟩:=X8 h;exact one rfl rfl rfl h
 | nilptr=>have:=Xg h;subst this;exact one rfl rfl rfl h
 | nilmap=>have:=XO h;subst this;exact one rfl rfl rfl h
 | nilfn=>have:=ja6 h;subst this;exact one rfl rfl rfl h
 | nilif=>have:=W5 h;subst this;exact one rfl rfl rfl h
 | sl t H n cs=>rcases Xt h with⟨rfl,_⟩|⟨_,_,_,rfl,_⟩ <;> exact one rfl rfl rfl h
 | eptr cs off=>obtain⟨_,_,rfl,_⟩:=QI h;exact one rfl rfl rfl h
 | ptr l u off=>obtain⟨_,_,_,rfl⟩:=YP h;exact one rfl rfl rfl h
 | osl l u off n z=>obtain⟨_,_,_,_,_,rfl,_⟩:=Xf h;exact one rfl rfl rfl h
 | map l u=>obtain⟨_,_,_,rfl⟩:=WQ h;exact one rfl rfl rfl h
 | iter l u=>obtain⟨_,_,_,rfl⟩:=jc5 h;exact one rfl rfl rfl h
 | yld l u=>obtain⟨_,_,_,rfl⟩:=jtv h;exact one rfl rfl rfl h
 | fn f p F=>obtain⟨_,_,rfl,_⟩:=jch h;exact one rfl rfl rfl h
 | iface t v=>obtain⟨_,rfl,_⟩:=ja7 h;exact one rfl rfl rfl h
theorem jwx (t:R E w0 I0 nt γ I st a w) (u:∀d,o.dst=some d→d<nt) (s:γ ub=none) {e:TypeId}{zs:List V}{d:Nat}(q:o.op=.alloc e) (p:Yv P e=some zs)
 (m:Jg d ub (.cells zs) (.ptr d ub 0)=some δ):XB P E w0 I0 nt γ I st a w o ub δ:=by
 obtain⟨i,z,r,f,c,b⟩:=YA (I:=I) p
 refine Yj t u s (x:=.pointer (some ⟨w.heap.size,0,none⟩)) (obj:=.cells z.cells e) (k:=.n z.cells.size) ?_ rfl (fun y h=>.ptr _ _ _ _ _ h) ?_ m
 ·simp only[execOp,q,Instr.alloc,Sem.run_bind,J0 r f,Result.andThen_ok]
  simp[newVar,newRow]
 ·exact⟨z.cells,e,rfl,rfl,Nat.le_of_eq c,fun j x v g l=>⟨(b j x v g l).1,.pure _ _ (b j x v g l).2⟩⟩
theorem ok_box (f:R E w0 I0 nt γ I st a w) (r:∀d,o.dst=some d→d<nt) (p:γ ub=none) {e:TypeId}{x:Operand}{b:A}{n d:Nat}(j:o.op=.box e x) (m:opd x=some b)
 (c:(if (eval E st.tm b).cells.length=n∧(eval E st.tm b).cells.all V.leaf=true then Jg d ub (.cells (eval E st.tm b).cells) (.ptr d ub 0) else none)=some δ):XB P E w0 I0 nt γ I st a w o ub δ:=by
 split at c
 ·rename_i h
  have q:=j9 f m
  obtain⟨g,l⟩:=je1 q h.2
  refine Yj f r p (x:=.pointer (some ⟨w.heap.size,0,none⟩)) (obj:=.cells (a.eval x).cells e) (k:=.n (a.eval x).cells.size) ?_ rfl (fun i h=>.ptr _ _ _ _ _ h) ?_ c
  ·simp[execOp,j,Instr.box,newVar,newRow]
  ·exact⟨_,e,rfl,rfl,Nat.le_of_eq g.symm,l⟩
 ·cases c
theorem XH (b off n:Nat):(⟨b,off,none⟩:Addr).add n=⟨b,off+n,none⟩:=by
 unfold Addr.add
 split
 ·rename_i h;subst h;rfl
 ·rfl
def jrg (g:Option Nat) (f:Nat→Value):Value :=
 match g with
 | some n=>.agg ((List.range n).map f).toArray
 | none=>f 0
theorem Ql {t:TypeId}{g:Option Nat}(l:jdw P t=some g) {b off:Nat}(f:Nat→Value) (n:Nat) (e:n=g.getD 1) (k:∀j,j<n→w.cell? ⟨b,off+j,none⟩=some (f j)) :
 (loadVar t ⟨b,off,none⟩).run P w=.ok (jrg g f) w:=by
 unfold jdw at l
 obtain⟨d,i,h⟩:=bind_some l
 unfold loadVar
 split at h
 ·rename_i c
  obtain⟨m,p,rfl⟩:=map_some h
  simp only[Option.getD_some]at e
  subst e
  simp only[Sem.run_bind,YK i,c,Result.andThen_ok,if_true,je p]
  rw[run_loadCells w ⟨b,off,none⟩ n f (fun j q=>by rw[XH];exact k j q)]
  rfl
 ·rename_i c
  cases h
  simp only[Option.getD_none]at e
  subst e
  have:=k 0 zO
  simp only[Nat.add_zero]at this
  simp only[Sem.run_bind,YK i,c,Result.andThen_ok,Bool.false_eq_true,if_false,run_load,this,jrg]
theorem jhp {I:IMap}{g:Option Nat}{cs:List V}{off:Nat}{v:V}(hp:Xb g cs off=some v) (f:Nat→Value)
 (d:∀ (j:Nat) (u:V),j<g.getD 1→cs[off+j]? = some u→u.leaf=true∧Rep γ I (f j) u) :
 (∀j,j<g.getD 1→off+j<cs.length)∧Rep γ I (jrg g f) v:=by
 unfold Xb at hp
 cases g with
 | none=>
  simp only at hp
  have i:=(List.getElem?_eq_some_iff.1 hp).1
  refine⟨fun j b=>?_,(d 0 v zS (by simpa using hp)).2⟩
  simp only[Option.getD_none]at b
  omega
 | some n=>
  simp only at hp
  split at hp
  ·rename_i h
   simp only[Option.some.injEq]at hp
   subst hp
   refine⟨fun j b=>by simp only[Option.getD_some]at b;omega,?_⟩
   refine .agg _ _ (by simp;omega) (fun j u c=>?_) (fun j x u e c=>?_)
   ·have b:j<n:=by
     have:=(List.getElem?_eq_some_iff.1 c).1
     simp only[List.length_take]at this
     omega
    rw[List.getElem?_take_of_lt b,List.getElem?_drop]at c
    exact(d j u b c).1
   ·have b:j<n:=by
     have:=(List.getElem?_eq_some_iff.1 c).1
     simp only[List.length_take]at this
     omega
    rw[List.getElem?_take_of_lt b,List.getElem?_drop]at c
    simp[b]at e
    subst e
    exact(d j u b c).2
  ·cases hp
theorem j1w (p:R E w0 I0 nt γ I st a w) (J:∀d,o.dst=some d→d<nt) {t:TypeId}{x:Operand}{M:A}{g:Option Nat}(H:o.op=.load t x) (S:opd x=some M) (K:jdw P t=some g)
 (m:(match eval E st.tm M with
  | .eptr cs off=>(Xb g cs off).bind one
  | .ptr l u off=>(objCells st.ob l u).bind fun cs=>(Xb g cs off).bind one
  | _=>none)=some δ):XB P E w0 I0 nt γ I st a w o ub δ:=by
 have r:=j9 p S
 split at m
 ·rename_i cs off s
  rw[s]at r
  obtain⟨b,N,k,G,O,U,Z⟩:=QI r
  obtain⟨v,D,h⟩:=bind_some m
  obtain⟨F,y⟩:=jhp (γ:=γ) (I:=I) D (fun j=>G (off+j)) (fun j u n i=>by
   have:=U _ _ i
   refine⟨?_,.pure _ _ (Z _ _ i)⟩
   cases u <;> first|rfl|(simp[V.pureLeaf]at this))
  refine jS p J ?_ y h
  simp only[execOp,H,k,Instr.loadAt,Instr.sureAddr,Sem.run_bind,Sem.run_pure,Result.andThen_ok]
  rw[Ql K (fun j=>G (off+j)) _ rfl (fun j n=>by
   rw[Nat.add_assoc];exact p.imm _ _ _ (O _ (F j n)))]
  rfl
 ·rename_i l u off s
  rw[s]at r
  obtain⟨b,kb,i,k⟩:=YP r
  obtain⟨cs,c,m⟩:=bind_some m
  obtain⟨v,D,h⟩:=bind_some m
  unfold objCells at c
  split at c
  ·rename_i u' a0 z
   split at c
   ·rename_i B
    cases c
    subst B
    obtain⟨Ω,q⟩:=p.own
    obtain⟨b',T,L,k2,k3,Q,k5⟩:=q.ob l _ z
    rw[i]at L
    cases L
    obtain⟨arr,e,X,m2,m4,m3⟩:=Q
    have f:∀j,off+j<cs.length→arr[off+j]? = some (arr.getD (off+j) undef):=by
     intro j n
     have:off+j<arr.size:=zO
     simp[this]
    obtain⟨F,y⟩:=jhp (γ:=γ) (I:=I) D (fun j=>arr.getD (off+j) undef) (fun j u n i=>m3 _ _ _ (f j (List.getElem?_eq_some_iff.1 i).1) i)
    refine jS p J ?_ y h
    simp only[execOp,H,k,Instr.loadAt,Instr.sureAddr,Sem.run_bind,Sem.run_pure,Result.andThen_ok]
    rw[Ql K (fun j=>arr.getD (off+j) undef) _ rfl (fun j n=>by
     simp only[World.cell?,X,Option.isSome_none,Bool.false_eq_true,if_false]
     exact f j (F j n))]
    rfl
   ·cases c
  ·cases c
 ·cases m
end
section
variable {P:Program}{E:Env}{w0 w:World}{I0:IMap}{nt:Nat}{γ:Nat→Option Place}{I:IMap}{st:St}{a:Act}{o:Oper}{ub:Nat}{δ:Delta}
theorem jX {ob:ZO}{l u:Nat}{cs:List V}(h:objCells ob l u=some cs):ob l=some ⟨u,.cells cs⟩:=by
 unfold objCells at h
 split at h
 ·rename_i e d b
  split at h
  ·rename_i c;cases h;subst c;exact b
  ·cases h
 ·cases h
theorem X2 {ob:ZO}{l u:Nat}{es:List (V × V)}(h:jg ob l u=some es):ob l=some ⟨u,.mp (jk ob l) es⟩:=by
 unfold jg at h
 split at h
 ·rename_i f c e b
  unfold jk
  rw[b]
  simp only
  split at h
  ·rename_i d;cases h;subst d;rfl
  ·cases h
 ·cases h
theorem Wm (i:R E w0 I0 nt γ I st a w) {l u b:Nat}{k:Kd}{cs:List V}(h:st.ob l=some ⟨u,.cells cs⟩) (g:γ u=some (.obj b k)) :
 ∃arr e,w.heap[b]? = some (.cells arr e (0,0))∧arr.size=k.size∧cs.length≤k.size∧∀ (j:Nat) (x:Value) (v:V),arr[j]? = some x→cs[j]? = some v→v.leaf=true∧Rep γ I x v:=by
 obtain⟨q,c⟩:=i.own
 obtain⟨p,m,d,s,r,f,n⟩:=c.ob l _ h
 rw[g]at d
 cases d
 exact f
theorem WG (cs:List V) (off:Nat) (vs:List V) (h:off+vs.length≤cs.length):(j2 cs off vs).length=cs.length:=by
 simp only[j2,List.length_append,List.length_take,List.length_drop]
 omega
theorem jbi (cs:List V) (off:Nat) (vs:List V) (h:off+vs.length≤cs.length) (j:Nat) :
 (j2 cs off vs)[j]? = if off≤j∧j<off+vs.length then vs[j - off]? else cs[j]?:=by
 simp only[j2]
 by_cases b:j<off
 ·rw[List.append_assoc,List.getElem?_append_left (by simp only[List.length_take];omega),List.getElem?_take_of_lt b,if_neg zO]
 ·by_cases c:j<off+vs.length
  ·rw[List.getElem?_append_left (by simp only[List.length_append,List.length_take];omega),List.getElem?_append_right (by simp only[List.length_take];omega),if_pos zO]
   congr 1
   simp only[List.length_take]
   omega
  ·rw[List.getElem?_append_right (by simp only[List.length_append,List.length_take];omega),if_neg zO,List.getElem?_drop]
   congr 1
   simp only[List.length_append,List.length_take]
   omega
theorem jwl (B:R E w0 I0 nt γ I st a w) (hd:∀d,o.dst=some d→d<nt) {t:TypeId}{x y:Operand}{T f:A}{n:Nat}(X:o.op=.store t x y) (c:opd x=some T) (hy:opd y=some f) (hn:Wa P t=some n)
 (g:(match eval E st.tm T with
  | .ptr l u off=>(objCells st.ob l u).bind fun cs=>
   if Nat.ble st.ro u=true∧(eval E st.tm f).cells.length=n∧off+n≤cs.length∧(eval E st.tm f).cells.all V.leaf=true then
    some { v:=jq,obs:=[(l,⟨u,.cells (j2 cs off (eval E st.tm f).cells)⟩)] } else none
  | _=>none)=some δ):XB P E w0 I0 nt γ I st a w o ub δ:=by
 have z:=j9 B c
 have H:=j9 B hy
 split at g
 ·rename_i l u off he
  rw[he]at z
  obtain⟨b,kb,U,M⟩:=YP z
  obtain⟨cs,J,g⟩:=bind_some g
  split at g
  ·rename_i hc
   obtain⟨F,O,h2,h3⟩:=hc
   have q:=jX J
   obtain⟨arr,e,Q,m2,m4,m3⟩:=Wm B q U
   obtain⟨c1,L⟩:=je1 H h3
   generalize hV:(a.eval y).cells=vals at c1 L
   have p:∀v∈vals.toList,v.oneCell'=true:=by
    intro v i
    obtain⟨j,D,rfl⟩:=List.mem_iff_getElem.1 i
    have N:j<vals.size:=by simpa using D
    have r:(eval E st.tm f).cells[j]? = some ((eval E st.tm f).cells[j]' zO):=List.getElem?_eq_getElem _
    obtain⟨Z,l2⟩:=L j _ _ (Array.getElem?_eq_getElem N) r
    have:=l2.oneCell Z
    simpa using this
   have S:vals.toList.length=n:=by simp;omega
   have m:=run_storeCells_at P b off e vals.toList 0 arr w Q (by simp only[Nat.add_zero];omega) p
   simp only[Nat.add_zero]at m
   refine Yx B hd q F (body':=.cells (j2 cs off (eval E st.tm f).cells)) (x:=undef) (v:=jq)
    (w':=w.setRow b (arr.toList.take off++vals.toList++arr.toList.drop (off+vals.toList.length)).toArray) (.inr ⟨?_,rfl⟩) (.tup _ _ rfl zS) (fun v es h=>by cases h) ?_ g
   ·have K:(storeVar t ⟨b,off,none⟩ (a.eval y)).run P w=.ok () (w.setRow b (arr.toList.take off++vals.toList++arr.toList.drop (off+vals.toList.length)).toArray):=by
     unfold storeVar
     rw[hV]
     have G:¬ (vals.size≠n):=zO
     simp only[Sem.run_bind,je hn,Result.andThen_ok,G,if_false,m]
    simp only[execOp,X,M,Instr.storeAt,Instr.sureAddr,Sem.run_bind,Sem.run_pure,Result.andThen_ok,K]
   ·intro b' k' s a0
    rw[U]at s
    cases s
    refine⟨rfl,rfl,rfl,zS,fun k hk=>setRow_other w b k _ hk,?_⟩
    rw[setRow_heap w b arr _ e _ Q]
    refine⟨_,e,rfl,?_,by rw[WG _ _ _ zO];exact m4,?_⟩
    ·simp only[List.size_toArray,List.length_append,List.length_take,List.length_drop,Array.length_toList]
     omega
    ·intro j x v c i
     rw[jbi _ _ _ zO]at i
     simp only[List.getElem?_toArray]at c
     by_cases D:off≤j∧j<off+(eval E st.tm f).cells.length
     ·rw[if_pos D]at i
      rw[List.getElem?_append_left (by simp only[List.length_append,List.length_take,Array.length_toList];omega),List.getElem?_append_right (by simp only[List.length_take,Array.length_toList];omega)]at c
      have r:j - (List.take off arr.toList).length=j - off:=by simp only[List.length_take,Array.length_toList];omega
      rw[r]at c
      exact L (j - off) x v (by simpa using c) i
     ·rw[if_neg D]at i
      refine m3 j x v ?_ i
      by_cases O:j<off
      ·rw[List.append_assoc,List.getElem?_append_left (by simp only[List.length_take,Array.length_toList];omega),List.getElem?_take_of_lt O]at c
       simpa using c
      ·rw[List.getElem?_append_right (by simp only[List.length_append,List.length_take,Array.length_toList];omega),List.getElem?_drop]at c
       have r:off+vals.toList.length+(j - (List.take off arr.toList++vals.toList).length)=j:=by
        simp only[List.length_append,List.length_take,Array.length_toList]
        omega
       rw[r]at c
       simpa using c
  ·cases g
 ·cases g
theorem jll (j:R E w0 I0 nt γ I st a w) (m:∀d,o.dst=some d→d<nt) {x:Operand}{n:A}(k:o.op=.nilCheck x) (p:opd x=some n)
 (h:(match eval E st.tm n with
  | .ptr l u o=>one (.ptr l u o)
  | .eptr cs o=>one (.eptr cs o)
  | .fn (.func f) a b=>one (.fn (.func f) a b)
  | _=>none)=some δ):XB P E w0 I0 nt γ I st a w o ub δ:=by
 have g:=j9 j p
 split at h
 ·rename_i i
  rw[i]at g
  have c:=g
  obtain⟨b,_,_,e⟩:=YP c
  exact jS j m (x:=a.eval x) (by simp only[execOp,k,e,Sem.run_pure]) g h
 ·rename_i i
  rw[i]at g
  have c:=g
  obtain⟨b,_,e,_⟩:=QI c
  exact jS j m (x:=a.eval x) (by simp only[execOp,k,e,Sem.run_pure]) g h
 ·rename_i i
  rw[i]at g
  have c:=g
  obtain⟨_,_,e,_⟩:=jch c
  exact jS j m (x:=a.eval x) (by simp only[execOp,k,e,Sem.run_pure]) g h
 ·cases h
theorem jdc {X:Value}{v d:V}{n:Nat}(h:Rep γ I X v) (m:(∃l u o,v=.ptr l u o∧d=.ptr l u (o+n))∨∃cs o,v=.eptr cs o∧d=.eptr cs (o+n)) :
 ∃e,X=.pointer (some e)∧e.spot=none∧Rep γ I (.pointer (some (e.add n))) d:=by
 rcases m with⟨l,u,o,rfl,rfl⟩|⟨cs,o,rfl,rfl⟩
 ·obtain⟨b,p,j,rfl⟩:=YP h
  exact⟨_,rfl,rfl,by rw[XH];exact .ptr _ _ _ _ _ j⟩
 ·obtain⟨b,c,rfl,g,f,k,i⟩:=QI h
  exact⟨_,rfl,rfl,by rw[XH,Nat.add_assoc];exact .pure _ _ (.eptr b c (o+n) cs g f k i)⟩
theorem jjj (v:R E w0 I0 nt γ I st a w) (F:∀d,o.dst=some d→d<nt) {t:TypeId}{x:Operand}{s:A}{f:Nat}{g:Field}{n:Nat}(y:o.op=.fieldAddr t x f) (B:opd x=some s) (e:jb0 P t f=some g)
 (z:Wa P g.type=some n) (r:n≠0)
 (i:(match eval E st.tm s with
  | .ptr l u o=>one (.ptr l u (o+g.offset))
  | .eptr cs o=>one (.eptr cs (o+g.offset))
  | _=>none)=some δ):XB P E w0 I0 nt γ I st a w o ub δ:=by
 have j:=j9 v B
 have m:∃fs,P.underlying t=some (.struct fs)∧fs[f]? = some g:=by
  unfold jb0 at e
  split at e
  ·exact⟨_,by assumption,e⟩
  ·cases e
 obtain⟨fs,m,D⟩:=m
 have go:∀ (h:Addr) (p:V),a.eval x=.pointer (some h)→Rep γ I (.pointer (some (h.add g.offset))) p→one p=some δ→XB P E w0 I0 nt γ I st a w o ub δ:=by
  intro h p c b k
  refine jS v F ?_ b k
  simp only[execOp,y,c,Instr.fieldAt,Instr.sureAddr,Sem.run_bind,run_underlying m,Result.andThen_ok,D,Sem.run_pure,fieldPlace,je z,r,if_false,Sem.run_ite]
 split at i
 ·rename_i l u G q
  rw[q]at j
  obtain⟨h,c,_,b⟩:=jdc (n:=g.offset) j (.inl ⟨_,_,_,rfl,rfl⟩)
  exact go h _ c b i
 ·rename_i cs G q
  rw[q]at j
  obtain⟨h,c,_,b⟩:=jdc (n:=g.offset) j (.inr ⟨_,_,rfl,rfl⟩)
  exact go h _ c b i
 ·cases i
theorem jsg (v:R E w0 I0 nt γ I st a w) (J:∀d,o.dst=some d→d<nt) {t e:TypeId}{x i:Operand}{B D:A}{len n:Nat}(F:o.op=.indexAddr t x i) (G:opd x=some B) (hi:opd i=some D) (K:P.underlying t=some (.array len e))
 (H:Wa P e=some n)
 (h:(match eval E st.tm B,eval E st.tm D with
  | .ptr l u off,.int _ i=>if 0≤i∧i<len then one (.ptr l u (off+i.toNat*n)) else none
  | .eptr cs off,.int _ i=>if 0≤i∧i<len then one (.eptr cs (off+i.toNat*n)) else none
  | _,_=>none)=some δ):XB P E w0 I0 nt γ I st a w o ub δ:=by
 have r:=j9 v G
 have g:=j9 v hi
 have go:∀ (k:IntKind) (j:Int) (p:Addr) (y:V),a.eval x=.pointer (some p)→a.eval i=.int k j→0≤j∧j<len→Rep γ I (.pointer (some (p.add (j.toNat*n)))) y→one y=some δ→XB P E w0 I0 nt γ I st a w o ub δ:=by
  intro k j p y f c q b s
  refine jS v J ?_ b s
  simp only[execOp,F,f,c,Instr.indexAt,Instr.sureAddr,asIntOf,Sem.run_bind,run_underlying K,Result.andThen_ok,Sem.run_pure,q,and_self,if_true,je H]
 split at h
 ·rename_i z m
  rw[z]at r
  rw[m]at g
  have c:=jw g
  split at h
  ·rename_i q
   obtain⟨p,f,_,b⟩:=jdc (n:=_) r (.inl ⟨_,_,_,rfl,rfl⟩)
   exact go _ _ p _ f c q b h
  ·cases h
 ·rename_i z m
  rw[z]at r
  rw[m]at g
  have c:=jw g
  split at h
  ·rename_i q
   obtain⟨p,f,_,b⟩:=jdc (n:=_) r (.inr ⟨_,_,rfl,rfl⟩)
   exact go _ _ p _ f c q b h
  ·cases h
 ·cases h
theorem jws (M:R E w0 I0 nt γ I st a w) (Z:∀d,o.dst=some d→d<nt) {t e:TypeId}{x i:Operand}{O Q:A}{n:Nat}(U:o.op=.indexAddr t x i) (X:opd x=some O) (hi:opd i=some Q) (hu:P.underlying t=some (.slice e))
 (hn:Wa P e=some n) (J:n≠0)
 (r:(match eval E st.tm O,eval E st.tm Q with
  | .sl _ _ m cs,.int _ i=>if 0≤i∧i<m∧cs.length=m*n then one (.eptr cs (i.toNat*n)) else none
  | .osl l u off m sz',.int _ i=>if 0≤i∧i<m∧sz'=n then one (.ptr l u (off+i.toNat*n)) else none
  | _,_=>none)=some δ):XB P E w0 I0 nt γ I st a w o ub δ:=by
 have B:=j9 M X
 have q:=j9 M hi
 have go:∀ (k:IntKind) (j:Int) (v:Addr) (m p:Nat) (G:V),a.eval x=.slice (some v) m p→a.eval i=.int k j→0≤j∧j<m→Rep γ I (.pointer (some (v.add (j.toNat*n)))) G→one G=some δ→XB P E w0 I0 nt γ I st a w o ub δ:=by
  intro k j v m p G g f s z F
  refine jS M Z ?_ z F
  simp only[execOp,U,g,f,Instr.indexAt,asIntOf,Sem.run_bind,run_underlying hu,Result.andThen_ok,Sem.run_pure,s,and_self,if_true,je hn]
 split at r
 ·rename_i H y
  rw[H]at B
  rw[y]at q
  have f:=jw q
  split at r
  ·rename_i t' nl m cs k j s
   rcases Xt B with⟨_,_,_,rfl,_⟩|⟨v,p,T,g,_,hs,_,_,S,h2,h3,_⟩
   ·omega
   ·have K:cs=[]∨v.spot=none:=by
     rcases cs with _|⟨c,cs⟩
     ·exact .inl rfl
     ·exact .inr (hs zS)
    refine go _ _ v _ _ _ g f ⟨s.1,s.2.1⟩ ?_ r
    rcases K with rfl|hsp
    ·have h:=s.2.2
     simp only[List.length_nil]at h
     rcases Nat.mul_eq_zero.1 h.symm with h|h
     ·omega
     ·exact absurd h J
    ·obtain⟨b,o',sp⟩:=v
     simp only at hsp
     subst hsp
     rw[XH]
     exact .pure _ _ (.eptr b o' _ cs T S h2 h3)
  ·cases r
 ·rename_i H y
  rw[H]at B
  rw[y]at q
  have f:=jw q
  split at r
  ·rename_i s
   obtain⟨b,kb,v,p,L,g,D,N,_⟩:=Xf B
   have:=(D zO).1
   subst this
   refine go _ _ _ _ _ _ g f ⟨s.1,s.2.1⟩ ?_ r
   rw[XH]
   exact .ptr _ _ _ _ _ L
  ·cases r
 ·cases r
end
section
variable {P:Program}{E:Env}{w0 w:World}{I0:IMap}{nt:Nat}{γ:Nat→Option Place}{I:IMap}{st:St}{a:Act}{o:Oper}{ub:Nat}{δ:Delta}
theorem jcb {t:TypeId}{g:Option Nat}{off:Nat}{xs:Array Value}{cs:List V}{v:V}(l:jdw P t=some g) (hp:Xb g cs off=some v) (s:xs.size=cs.length)
 (r:∀ (j:Nat) (u:V),cs[j]? = some u→u.leaf=true) (k:∀ (j:Nat) (y:Value) (u:V),xs[j]? = some y→cs[j]? = some u→Rep γ I y u) :
 ∃x,(part t xs off).run P w=.ok x w∧Rep γ I x v:=by
 unfold jdw at l
 obtain⟨d,c,i⟩:=bind_some l
 unfold part
 split at i
 ·rename_i b
  obtain⟨m,p,rfl⟩:=map_some i
  simp only[Xb]at hp
  split at hp
  ·rename_i n
   cases hp
   refine⟨.agg (xs.extract off (off+m)),by simp only[Sem.run_bind,YK c,b,Result.andThen_ok,if_true,je p,Sem.run_pure],?_⟩
   refine .agg _ _ (by simp only[Array.size_extract,List.length_take,List.length_drop];omega) (fun j u c=>?_) (fun j x u f c=>?_)
   ·have h:j<m:=by
     have:=(List.getElem?_eq_some_iff.1 c).1
     simp only[List.length_take]at this
     omega
    rw[List.getElem?_take_of_lt h,List.getElem?_drop]at c
    exact r _ _ c
   ·have h:j<m:=by
     have:=(List.getElem?_eq_some_iff.1 c).1
     simp only[List.length_take]at this
     omega
    rw[List.getElem?_take_of_lt h,List.getElem?_drop]at c
    simp only[Array.getElem?_extract]at f
    split at f
    ·exact k _ _ _ f c
    ·cases f
  ·cases hp
 ·rename_i b
  cases i
  simp only[Xb]at hp
  have q:=(List.getElem?_eq_some_iff.1 hp).1
  have e:off<xs.size:=zO
  exact⟨xs[off],by simp only[Sem.run_bind,YK c,b,Result.andThen_ok,Bool.false_eq_true,if_false,Array.getElem?_eq_getElem e,Sem.run_pure],k _ _ _ (Array.getElem?_eq_getElem e) hp⟩
theorem jwt (n:R E w0 I0 nt γ I st a w) (z:∀d,o.dst=some d→d<nt) {t:TypeId}{x:Operand}{l:A}{f:Nat}{e:Field}{g:Option Nat}(r:o.op=.field t x f) (s:opd x=some l) (b:jb0 P t f=some e)
 (B:jdw P e.type=some g)
 (h:(match eval E st.tm l with
  | .agg cs=>(Xb g cs e.offset).bind one
  | _=>none)=some δ):XB P E w0 I0 nt γ I st a w o ub δ:=by
 have m:=j9 n s
 have j:∃fs,P.underlying t=some (.struct fs)∧fs[f]? = some e:=by
  unfold jb0 at b
  split at b
  ·exact⟨_,by assumption,b⟩
  ·cases b
 obtain⟨fs,j,u⟩:=j
 split at h
 ·rename_i cs D
  rw[D]at m
  obtain⟨J,k,p,F,q⟩:=Y2 m
  obtain⟨v,G,i⟩:=bind_some h
  obtain⟨y,H,c⟩:=jcb (P:=P) (w:=w) (γ:=γ) (I:=I) B G p F q
  refine jS n z ?_ c i
  simp only[execOp,r,k,Instr.field,asAgg,Sem.run_bind,run_underlying j,Result.andThen_ok,u,Sem.run_pure,H]
 ·cases h
theorem jse (m:R E w0 I0 nt γ I st a w) (F:∀d,o.dst=some d→d<nt) {t e:TypeId}{x i:Operand}{s u:A}{len n:Nat}{g:Option Nat}(B:o.op=.index t x i) (D:opd x=some s) (hi:opd i=some u) (N:P.underlying t=some (.array len e))
 (M:Wa P e=some n) (G:jdw P e=some g)
 (b:(match eval E st.tm s,eval E st.tm u with
  | .agg cs,.int _ i=>if 0≤i∧i<len then (Xb g cs (i.toNat*n)).bind one else none
  | _,_=>none)=some δ):XB P E w0 I0 nt γ I st a w o ub δ:=by
 have r:=j9 m D
 have f:=j9 m hi
 split at b
 ·rename_i cs k j H l
  rw[H]at r
  rw[l]at f
  have p:=jw f
  obtain⟨S,q,z,J,L⟩:=Y2 r
  split at b
  ·rename_i O
   obtain⟨v,Q,h⟩:=bind_some b
   obtain⟨y,K,c⟩:=jcb (P:=P) (w:=w) (γ:=γ) (I:=I) G Q z J L
   refine jS m F ?_ c h
   simp only[execOp,B,q,p,Instr.index,asIntOf,Sem.run_bind,run_underlying N,Result.andThen_ok,Sem.run_pure,O,and_self,if_true,je M,K]
  ·cases b
 ·cases b
theorem jsf (h:R E w0 I0 nt γ I st a w) (D:∀d,o.dst=some d→d<nt) {t:TypeId}{x i:Operand}{q r:A}(y:o.op=.index t x i) (z:opd x=some q) (hi:opd i=some r) (B:P.underlying t=some .string)
 (c:(match eval E st.tm q,eval E st.tm r with
  | .str s,.int _ i=>if 0≤i then (s[i.toNat]?).bind fun b=>one (.int .u8 b.toNat) else none
  | _,_=>none)=some δ):XB P E w0 I0 nt γ I st a w o ub δ:=by
 have v:=j9 h z
 have e:=j9 h hi
 split at c
 ·rename_i s k j F g
  rw[F]at v
  rw[g]at e
  have l:=jw e
  obtain⟨m,p,rfl⟩:=X8 v
  split at c
  ·rename_i G
   obtain⟨b,u,f⟩:=bind_some c
   refine jS h D (x:=.int .u8 b.toNat) ?_ (.pure _ _ (.int _ _)) f
   have n:j.toNat<m.size:=by
    have:=(List.getElem?_eq_some_iff.1 u).1
    simpa using this
   have H:m[j.toNat]? = some b:=by
    have J:=(List.getElem?_eq_some_iff.1 u).2
    rw[getElem?_pos m j.toNat n]
    congr 1
   simp only[execOp,y,p,l,Instr.index,asIntOf,Sem.run_bind,run_underlying B,Result.andThen_ok,Sem.run_pure,G,if_true,H]
  ·cases c
 ·cases c
theorem jpg (l:R E w0 I0 nt γ I st a w) (q:∀d,o.dst=some d→d<nt) {x:Operand}{h:A}{i:Nat}(n:o.op=.extract x i) (p:opd x=some h)
 (c:(match eval E st.tm h with
  | .tup j=>(j[i]?).bind one
  | _=>none)=some δ):XB P E w0 I0 nt γ I st a w o ub δ:=by
 have k:=j9 l p
 split at c
 ·rename_i j r
  rw[r]at k
  obtain⟨g,f,t,s⟩:=j23 k
  obtain⟨v,m,e⟩:=bind_some c
  have b:i<g.size:=by have:=(List.getElem?_eq_some_iff.1 m).1;omega
  refine jS l q (x:=g[i]) ?_ (s i _ _ (Array.getElem?_eq_getElem b) m) e
  simp only[execOp,n,f,Instr.extract,Array.getElem?_eq_getElem b,Sem.run_bind,Sem.run_pure,Result.andThen_ok]
 ·cases c
theorem WO (f:R E w0 I0 nt γ I st a w) {xs:Array Operand}{ys:List A}(h:opds xs=some ys):(xs.map a.eval).size=(ys.map (eval E st.tm)).length ∧
 ∀ (j:Nat) (x:Value) (v:V),(xs.map a.eval)[j]? = some x→(ys.map (eval E st.tm))[j]? = some v→Rep γ I x v:=by
 obtain⟨d,g⟩:=js h
 refine⟨by simpa using d.symm,fun j x v b c=>?_⟩
 simp only[Array.getElem?_map,List.getElem?_map,Option.map_eq_some_iff]at b c
 obtain⟨p,e,rfl⟩:=b
 obtain⟨q,i,rfl⟩:=c
 exact j9 f (g j p q (by simpa using e) i)
theorem j1v (e:R E w0 I0 nt γ I st a w) (n:∀d,o.dst=some d→d<nt) {f:Fn}{xs ys:Array Operand}{b c:List A}(j:o.op=.makeFunc f xs ys) (l:opds xs=some b) (p:opds ys=some c)
 (g:one (.fn f (b.map (eval E st.tm)) (c.map (eval E st.tm)))=some δ):XB P E w0 I0 nt γ I st a w o ub δ:=by
 obtain⟨h,k⟩:=WO e l
 obtain⟨i,m⟩:=WO e p
 exact jS e n (x:=.func f (xs.map a.eval) (ys.map a.eval)) (by simp only[execOp,j,Instr.makeFunc,Sem.run_bind,Sem.run_pure,Result.andThen_ok]) (.fn _ _ _ _ _ h i k m) g
theorem jwr (e:R E w0 I0 nt γ I st a w) (h:∀d,o.dst=some d→d<nt) {t:TypeId}{x:Operand}{c:A}{d:TypeDesc}(j:o.op=.makeInterface t x) (k:opd x=some c) (i:P.underlying t=some d) (b:∀f,d≠.interface f)
 (g:one (.iface t (eval E st.tm c))=some δ):XB P E w0 I0 nt γ I st a w o ub δ:=by
 refine jS e h (x:=.iface t (a.eval x)) ?_ (.iface _ _ _ (j9 e k)) g
 simp only[execOp,j,Instr.makeInterface,Sem.run_bind,run_underlying i,Result.andThen_ok]
 cases d <;> first|rfl|(exact absurd rfl (b _))
theorem j1y (g:R E w0 I0 nt γ I st a w) (m:∀d,o.dst=some d→d<nt) {s t:TypeId}{x:Operand}{e:A}{k q:IntKind}(h:o.op=.convert s t x) (j:opd x=some e) (i:P.underlying s=some (.int q)) (l:P.underlying t=some (.int k))
 (b:(match eval E st.tm e with
  | .int _ n=>one (.int k (k.wrap n))
  | _=>none)=some δ):XB P E w0 I0 nt γ I st a w o ub δ:=by
 have f:=j9 g j
 split at b
 ·rename_i p
  rw[p]at f
  have c:=jw f
  refine jS g m (x:=.int k _) ?_ (.pure _ _ (.int _ _)) b
  simp only[execOp,h,c,convert,Sem.run_bind,run_underlying i,run_underlying l,Result.andThen_ok,Conv.intToInt,Sem.run_pure]
 ·cases b
theorem jsh (h:R E w0 I0 nt γ I st a w) (m:∀d,o.dst=some d→d<nt) {s t:TypeId}{x:Operand}{g:A}(j:o.op=.convert s t x) (k:opd x=some g) (i:P.underlying s=some .string) (l:P.underlying t=some .string)
 (b:(match eval E st.tm g with
  | .str s=>one (.str s)
  | _=>none)=some δ):XB P E w0 I0 nt γ I st a w o ub δ:=by
 have c:=j9 h k
 split at b
 ·rename_i n
  rw[n]at c
  have e:=c
  obtain⟨p,f,rfl⟩:=X8 c
  refine jS h m (x:=a.eval x) ?_ e b
  simp only[execOp,j,f,convert,Sem.run_bind,run_underlying i,run_underlying l,Result.andThen_ok,Sem.run_pure]
 ·cases b
theorem Yy {isS:Bool}{len cap c:Nat}{lo hi:Option Value}{e f:Option V}{l h:Nat}(d:Jx len cap e f=some (l,h)) (F:cap≤c)
 (u:∀v,e=some v→∃x,lo=some x∧Rep γ I x v) (q:e=none→lo=none) (s:∀v,f=some v→∃x,hi=some x∧Rep γ I x v) (p:f=none→hi=none) :
 (Instr.sliceBounds isS len c lo hi none).run P w=.ok (l,h,c) w∧l≤h∧(h≤cap∨h=len):=by
 unfold Jx at d
 obtain⟨i,g,d⟩:=bind_some d
 have j:((hi=none∧len=i)∨∃x,hi=some x∧∀b,(Instr.sliceBound x c b).run P w=.ok i w)∧(i≤cap∨i=len):=by
  cases f with
  | none=>
   simp only[Option.some.injEq]at g
   exact⟨.inl ⟨p rfl,g⟩,.inr g.symm⟩
  | some v=>
   obtain⟨x,rfl,t⟩:=s v rfl
   cases v with
   | int k n=>
    have:=jw t
    subst this
    simp only at g
    split at g
    ·rename_i r
     simp only[Option.some.injEq]at g
     subst g
     exact⟨.inr ⟨_,rfl,fun b=>run_sliceBound w k n c b r.1 zO⟩,.inl zO⟩
    ·cases g
   | _=>simp only[reduceCtorEq]at g
 have m:((lo=none∧l=0)∨∃x,lo=some x∧∀b,(Instr.sliceBound x i b).run P w=.ok l w)∧l≤i∧i=h:=by
  cases e with
  | none=>
   simp only[Option.some.injEq,Prod.mk.injEq]at d
   obtain⟨rfl,rfl⟩:=d
   exact⟨.inl ⟨q rfl,rfl⟩,Nat.zero_le _,rfl⟩
  | some v=>
   obtain⟨x,rfl,t⟩:=u v rfl
   cases v with
   | int k n=>
    have:=jw t
    subst this
    simp only at d
    split at d
    ·rename_i r
     simp only[Option.some.injEq,Prod.mk.injEq]at d
     obtain⟨rfl,rfl⟩:=d
     exact⟨.inr ⟨_,rfl,fun b=>run_sliceBound w k n i b r.1 r.2⟩,zO,rfl⟩
    ·cases d
   | _=>simp only[reduceCtorEq]at d
 obtain⟨B,z,rfl⟩:=m
 refine⟨?_,z,j.2⟩
 unfold Instr.sliceBounds
 rcases j.1 with⟨rfl,rfl⟩|⟨x,rfl,G⟩ <;> rcases B with⟨rfl,rfl⟩|⟨y,rfl,D⟩ <;> simp[*]
end
section
variable {P:Program}{E:Env}{w0 w:World}{I0:IMap}{nt:Nat}{γ:Nat→Option Place}{I:IMap}{st:St}{a:Act}{o:Oper}{ub:Nat}{δ:Delta}
theorem Xi (d:R E w0 I0 nt γ I st a w) {x:Option Operand}{c:Option A}(h:Yt x=some c) :
 (∀v,c.map (eval E st.tm)=some v→∃y,x.map a.eval=some y∧Rep γ I y v)∧(c.map (eval E st.tm)=none→x.map a.eval=none):=by
 unfold Yt at h
 cases x with
 | none=>cases h;exact⟨fun v b=>(by cases b),fun _=>rfl⟩
 | some x=>
  obtain⟨y,e,rfl⟩:=map_some h
  refine⟨fun v b=>?_,fun b=>(by cases b)⟩
  simp only[Option.map_some,Option.some.injEq]at b
  subst b
  exact⟨_,rfl,j9 d e⟩
theorem jwm (g:R E w0 I0 nt γ I st a w) (y:∀d,o.dst=some d→d<nt) {t:TypeId}{x:Operand}{m:A}{lo hi:Option Operand}{lo' c:Option A}(q:o.op=.slice t x lo hi none) (r:opd x=some m) (z:Yt lo=some lo') (J:Yt hi=some c)
 (v:P.underlying t=some .string)
 (i:(match eval E st.tm m with
  | .str s=>(Jx s.length s.length (lo'.map (eval E st.tm)) (c.map (eval E st.tm))).bind fun(l,h)=>one (.str ((s.take h).drop l))
  | _=>none)=some δ):XB P E w0 I0 nt γ I st a w o ub δ:=by
 have p:=j9 g r
 split at i
 ·rename_i s F
  rw[F]at p
  obtain⟨e,k,rfl⟩:=X8 p
  obtain⟨⟨l,h⟩,n,j⟩:=bind_some i
  have b:e.data.toList.length=e.size:=zS
  rw[b]at n
  obtain⟨u,B⟩:=Xi g z
  obtain⟨H,G⟩:=Xi g J
  obtain⟨f,D,_⟩:=Yy (P:=P) (w:=w) (γ:=γ) (I:=I) (isS:=false) n zR u B H G
  refine jS g y (x:=.string (e.extract l h)) ?_ ?_ j
  ·simp only[execOp,q,k,Instr.sliceAt,Instr.slice,Sem.run_bind,run_underlying v,Result.andThen_ok,Option.map_none,Option.isSome_none,Bool.false_eq_true,if_false,f,Sem.run_pure]
  ·have:(e.data.toList.take h).drop l=(e.extract l h).data.toList:=by
    rw[ByteArray.data_extract]
    simp[List.drop_take]
   rw[this]
   exact .pure _ _ (.str _)
 ·cases i
theorem j00 {i:Addr}{n cap sz l h:Nat}{cs:List V}{xs:Nat→Value}(x:cs.length=n*sz) (D:cs≠[]→i.spot=none) (H:n≤cap) (F:cap≤maxLen)
 (hi:∀j,j<cs.length→I i.block (i.off+j)=some (xs j)) (B:∀ (j:Nat) (v:V),cs[j]? = some v→v.pureLeaf=true) (z:∀ (j:Nat) (v:V),cs[j]? = some v→RepP I (xs j) v)
 (y:l≤h) (u:h≤n):RepP I (.slice (some (if cap=l then i else i.add (l*sz))) (h - l) (cap - l)) (.sl none false (h - l) ((cs.take (h*sz)).drop (l*sz))):=by
 have s:((cs.take (h*sz)).drop (l*sz)).length=(h - l)*sz:=by
  have:h*sz≤n*sz:=Nat.mul_le_mul_right _ u
  simp only[List.length_drop,List.length_take,Nat.sub_mul]
  omega
 have f:∀ (j:Nat) (v:V),((cs.take (h*sz)).drop (l*sz))[j]? = some v→cs[l*sz+j]? = some v:=by
  intro j v g
  rw[List.getElem?_drop,List.getElem?_take]at g
  split at g
  ·exact g
  ·cases g
 -- where nothing lies behind,there is no cell
 have d:(cs.take (h*sz)).drop (l*sz)≠[]→cap≠l∧i.spot=none:=by
  intro d
  have c:0<((cs.take (h*sz)).drop (l*sz)).length:=List.length_pos_iff.2 d
  refine⟨fun e=>?_,D (fun e=>?_)⟩
  ·have m:h - l=0:=zO
   rw[s,m,Nat.zero_mul]at c
   omega
  ·rw[e]at c
   simp at c
 refine .sl _ _ _ _ (fun j=>xs (l*sz+j)) ?_ zO zO (fun j t=>?_) (fun j v g=>B _ _ (f j v g)) (fun j v g=>z _ _ (f j v g))
 ·intro q
  obtain⟨r,k⟩:=d q
  rw[if_neg r]
  unfold Addr.add
  split
  ·exact k
  ·rfl
 ·have q:(cs.take (h*sz)).drop (l*sz)≠[]:=by
   intro e
   rw[e]at t
   simp at t
  obtain⟨r,k⟩:=d q
  rw[if_neg r]
  obtain⟨b,off,J⟩:=i
  simp only at k
  subst k
  rw[XH]
  simp only at hi ⊢
  rw[Nat.add_assoc]
  have p:l*sz+j<cs.length:=by
   have:h*sz≤n*sz:=Nat.mul_le_mul_right _ u
   have G:l*sz≤h*sz:=Nat.mul_le_mul_right _ y
   simp only[List.length_drop,List.length_take]at t
   omega
  exact hi _ p
theorem je3 {len:Nat}{lo hi:Option V}{l h:Nat}(b:Jx len len lo hi=some (l,h)):h≤len:=by
 unfold Jx at b
 obtain⟨e,c,b⟩:=bind_some b
 have d:e≤len:=by
  split at c
  ·split at c
   ·rename_i f;simp only[Option.some.injEq]at c;omega
   ·cases c
  ·cases c
  ·simp only[Option.some.injEq]at c;omega
 split at b
 ·split at b
  ·simp only[Option.some.injEq,Prod.mk.injEq]at b;omega
  ·cases b
 ·cases b
 ·simp only[Option.some.injEq,Prod.mk.injEq]at b;omega
theorem j1s (v:R E w0 I0 nt γ I st a w) (M:∀d,o.dst=some d→d<nt) {t e:TypeId}{x:Operand}{x':A}{lo hi:Option Operand}{lo' p:Option A}{n:Nat}(L:o.op=.slice t x lo hi none) (hx:opd x=some x') (hl:Yt lo=some lo') (hh:Yt hi=some p)
 (U:P.underlying t=some (.slice e)) (S:Wa P e=some n)
 (j:(match eval E st.tm x' with
  | .sl _ nl m cs=>if cs.length=m*n then (Jx m m (lo'.map (eval E st.tm)) (p.map (eval E st.tm))).bind fun(l,h)=>one (.sl none nl (h - l) ((cs.take (h*n)).drop (l*n))) else none
  | .osl q u off m k=>if k=n then (Jx m m (lo'.map (eval E st.tm)) (p.map (eval E st.tm))).bind fun(l,h)=>one (.osl q u (off+l*n) (h - l) n) else none
  | _=>none)=some δ):XB P E w0 I0 nt γ I st a w o ub δ:=by
 have G:=j9 v hx
 obtain⟨T,X⟩:=Xi v hl
 obtain⟨d1,d2⟩:=Xi v hh
 split at j
 ·rename_i tk nl m cs N
  rw[N]at G
  split at j
  ·rename_i B
   obtain⟨⟨l,h⟩,s,i⟩:=bind_some j
   have D:=je3 s
   rcases Xt G with⟨g,_,rfl,rfl,rfl⟩|⟨F,f,xs,g,rfl,hs,H,hm,h1,h2,h3,_⟩
   ·obtain⟨c,r,_⟩:=Yy (P:=P) (w:=w) (γ:=γ) (I:=I) (isS:=true) s zR T X d1 d2
    have Z:h=0:=zO
    have J:l=0:=zO
    subst Z;subst J
    refine jS v M (x:=.slice none 0 0) ?_ (by simpa using Rep.pure (γ:=γ) _ _ (RepP.slnil (I:=I))) i
    simp only[execOp,L,g,Instr.sliceAt,Instr.slice,Sem.run_bind,run_underlying U,Result.andThen_ok,Option.map_none,c,je S,Sem.run_pure,if_true]
   ·obtain⟨c,r,_⟩:=Yy (P:=P) (w:=w) (γ:=γ) (I:=I) (isS:=true) s H T X d1 d2
    refine jS v M (x:=.slice (some (if f=l then F else F.add (l*n))) (h - l) (f - l)) ?_ (.pure _ _ (j00 B hs H hm h1 h2 h3 r D)) i
    simp only[execOp,L,g,Instr.sliceAt,Instr.slice,Sem.run_bind,run_underlying U,Result.andThen_ok,Option.map_none,c,je S,Sem.run_pure]
    split <;> rfl
  ·cases j
 ·rename_i q u off m k N
  rw[N]at G
  split at j
  ·rename_i Q
   subst Q
   obtain⟨⟨l,h⟩,s,i⟩:=bind_some j
   have D:=je3 s
   obtain⟨b,kb,F,f,O,g,K,H,hm⟩:=Xf G
   obtain⟨c,r,_⟩:=Yy (P:=P) (w:=w) (γ:=γ) (I:=I) (isS:=true) s H T X d1 d2
   refine jS v M (x:=.slice (some (if f=l then F else F.add (l*k))) (h - l) (f - l)) ?_ (.osl _ _ _ _ _ _ b kb _ O (fun a0=>?_) zO zO) i
   ·simp only[execOp,L,g,Instr.sliceAt,Instr.slice,Sem.run_bind,run_underlying U,Result.andThen_ok,Option.map_none,c,je S,Sem.run_pure]
    split <;> rfl
   ·obtain⟨z,y⟩:=K zO
    subst z
    rw[if_neg zO,XH]
    refine⟨rfl,?_⟩
    rw[Nat.add_assoc,← Nat.add_mul,show l+(f - l)=f by omega]
    exact y
  ·cases j
 ·cases j
theorem jwn (g:R E w0 I0 nt γ I st a w) (H:∀d,o.dst=some d→d<nt) {t e:TypeId}{x:Operand}{z:A}{lo hi:Option Operand}{lo' i:Option A}{len n:Nat}(F:o.op=.slice t x lo hi none) (G:opd x=some z) (J:Yt lo=some lo') (Q:Yt hi=some i)
 (O:P.underlying t=some (.array len e)) (y:len≤maxLen) (M:Wa P e=some n)
 (c:(match eval E st.tm z with
  | .ptr q u off=>(objCells st.ob q u).bind fun cs=>if off+len*n≤cs.length then (Jx len len (lo'.map (eval E st.tm)) (i.map (eval E st.tm))).bind fun(l,h)=>one (.osl q u (off+l*n) (h - l) n) else none
  | _=>none)=some δ):XB P E w0 I0 nt γ I st a w o ub δ:=by
 have s:=j9 g G
 obtain⟨N,S⟩:=Xi g J
 obtain⟨X,Z⟩:=Xi g Q
 split at c
 ·rename_i q u off L
  rw[L]at s
  obtain⟨b,K,f,p⟩:=YP s
  obtain⟨cs,m,c⟩:=bind_some c
  split at c
  case isFalse=>cases c
  rename_i r
  obtain⟨_,_,_,_,D,_⟩:=Wm g (jX m) f
  obtain⟨⟨l,h⟩,B,k⟩:=bind_some c
  have U:=je3 B
  obtain⟨j,T,_⟩:=Yy (P:=P) (w:=w) (γ:=γ) (I:=I) (isS:=false) B zR N S X Z
  refine jS g H (x:=.slice (some (if len=l then ⟨b,off,none⟩ else (⟨b,off,none⟩:Addr).add (l*n))) (h - l) (len - l)) ?_ (.osl _ _ _ _ _ _ b K _ f (fun v=>?_) zO zO) k
  ·simp only[execOp,F,p,Instr.sliceAt,Instr.sureAddr,Sem.run_bind,run_underlying O,Result.andThen_ok,Option.map_none,j,je M,Sem.run_pure]
  ·rw[if_neg zO,XH]
   refine⟨rfl,?_⟩
   rw[Nat.add_assoc,← Nat.add_mul,show l+(len - l)=len by omega]
   omega
 ·cases c
theorem jsc (h:R E w0 I0 nt γ I st a w) (j:∀d,o.dst=some d→d<nt) {t:TypeId}{x:Operand}{f:A}{b:Array TypeId}(m:o.op=.call { callee:=.builtin .len,args:=#[x],argTypes:=b }) (n:opd x=some f) (p:b[0]? = some t) (l:P.underlying t=some .string)
 (c:(match eval E st.tm f with
  | .str s=>one (.int .i64 s.length)
  | _=>none)=some δ):XB P E w0 I0 nt γ I st a w o ub δ:=by
 have g:=j9 h n
 split at c
 ·rename_i k
  rw[k]at g
  obtain⟨i,e,rfl⟩:=X8 g
  refine jS h j (x:=.int .i64 i.size) ?_ (by simpa using Rep.pure (γ:=γ) (I:=I) _ _ (RepP.int .i64 (i.size:Int))) c
  simp only[execOp,m,resolve,Sem.run_bind,Sem.run_pure,Result.andThen_ok,invoke,builtin,List.map_toArray,List.map_cons,List.map_nil,e,Builtin.len_,p]
  simp[run_underlying l,goInt]
 ·cases c
theorem jwq (m:R E w0 I0 nt γ I st a w) (s:∀d,o.dst=some d→d<nt) {t e:TypeId}{x:Operand}{l:A}{g:Array TypeId}(p:o.op=.call { callee:=.builtin .len,args:=#[x],argTypes:=g }) (q:opd x=some l) (u:g[0]? = some t) (r:P.underlying t=some (.slice e))
 (f:(match eval E st.tm l with
  | .sl _ _ n _=>one (.int .i64 n)
  | .osl _ _ _ n _=>one (.int .i64 n)
  | _=>none)=some δ):XB P E w0 I0 nt γ I st a w o ub δ:=by
 have h:=j9 m q
 have go:∀ (k:Option Addr) (n c:Nat),a.eval x=.slice k n c→one (.int .i64 n)=some δ→XB P E w0 I0 nt γ I st a w o ub δ:=by
  intro k n c b i
  refine jS m s (x:=.int .i64 n) ?_ (.pure _ _ (.int _ _)) i
  simp only[execOp,p,resolve,Sem.run_bind,Sem.run_pure,Result.andThen_ok,invoke,builtin,List.map_toArray,List.map_cons,List.map_nil,b,Builtin.len_,u]
  simp[run_underlying r,goInt]
 split at f
 ·rename_i j
  rw[j]at h
  rcases Xt h with⟨b,_,_,rfl,_⟩|⟨k,c,v,b,_⟩
  ·exact go _ _ _ b f
  ·exact go _ _ _ b f
 ·rename_i j
  rw[j]at h
  obtain⟨_,_,_,_,_,b,_⟩:=Xf h
  exact go _ _ _ b f
 ·cases f
theorem jsd (n:R E w0 I0 nt γ I st a w) (D:∀d,o.dst=some d→d<nt) {t k e:TypeId}{x:Operand}{G:A}{g:Array TypeId}(B:o.op=.call { callee:=.builtin .len,args:=#[x],argTypes:=g }) (M:opd x=some G) (J:g[0]? = some t) (H:P.underlying t=some (.map k e))
 (i:(match eval E st.tm G with
  | .nilmap=>one (.int .i64 0)
  | .map l u=>(jg st.ob l u).bind fun q=>one (.int .i64 q.length)
  | _=>none)=some δ):XB P E w0 I0 nt γ I st a w o ub δ:=by
 have j:=j9 n M
 split at i
 ·rename_i r
  rw[r]at j
  have f:=XO j
  refine jS n D (x:=.int .i64 0) ?_ (.pure _ _ (.int _ _)) i
  simp only[execOp,B,resolve,Sem.run_bind,Sem.run_pure,Result.andThen_ok,invoke,builtin,List.map_toArray,List.map_cons,List.map_nil,f,Builtin.len_,J]
  simp[run_underlying H,goInt]
 ·rename_i r
  rw[r]at j
  obtain⟨b,Q,y,f⟩:=WQ j
  obtain⟨q,z,p⟩:=bind_some i
  have v:=X2 z
  obtain⟨U,h⟩:=n.own
  obtain⟨T,N,F,Z,X,K,S⟩:=h.ob _ _ v
  rw[y]at F
  cases F
  obtain⟨m,c,L,s,h3⟩:=K
  have s:m.size=q.length:=by rw[← s.1,Array.length_toList]
  refine jS n D (x:=.int .i64 m.size) ?_ (by rw[s];exact .pure _ _ (.int _ _)) p
  have O:(getObj b).run P w=.ok (.map m c) w:=by simp[getObj,Sem.run,L]
  simp only[execOp,B,resolve,Sem.run_bind,Sem.run_pure,Result.andThen_ok,invoke,builtin,List.map_toArray,List.map_cons,List.map_nil,f,Builtin.len_,J]
  simp[run_underlying H,goInt,O]
 ·cases i
end
section
variable {P:Program}{E:Env}{w0 w:World}{I0:IMap}{nt:Nat}{γ:Nat→Option Place}{I:IMap}{st:St}{a:Act}{o:Oper}{ub:Nat}{δ:Delta}
def jod (γ:Nat→Option Place) (I:IMap) (xs:Array Value) (cs:List V):Prop :=
 xs.size=cs.length∧∀ (j:Nat) (x:Value) (v:V),xs[j]? = some x→cs[j]? = some v→v.leaf=true∧Rep γ I x v
theorem jj6 (off:Nat):∀ (vs:List Value) (k:Nat) (cells:Array Value),off+k+vs.length≤cells.size →
 ((vs.zipIdx k).foldl (fun cs (c:Value × Nat)=>cs.setIfInBounds (off+c.2) c.1) cells).size=cells.size ∧
 ∀j,((vs.zipIdx k).foldl (fun cs (c:Value × Nat)=>cs.setIfInBounds (off+c.2) c.1) cells)[j]? = if off+k≤j∧j<off+k+vs.length then vs[j - (off+k)]? else cells[j]?
 | [],k,cells,_=>by
  simp only[List.zipIdx_nil,List.foldl_nil,List.length_nil,Nat.add_zero]
  refine⟨trivial,fun j=>?_⟩
  rw[if_neg zO]
 | v::vs,k,cells,h=>by
  simp only[List.length_cons]at h
  simp only[List.zipIdx_cons,List.foldl_cons]
  obtain⟨f,g⟩:=jj6 off vs (k+1) (cells.setIfInBounds (off+k) v) (by simp only[Array.size_setIfInBounds];omega)
  refine⟨by rw[f];simp,fun j=>?_⟩
  rw[g j]
  simp only[List.length_cons]
  by_cases d:j=off+k
  ·subst d
   rw[if_neg zO,if_pos zO]
   have:off+k<cells.size:=zO
   simp[this]
  ·by_cases b:off+(k+1)≤j∧j<off+(k+1)+vs.length
   ·rw[if_pos b,if_pos zO]
    have:j - (off+k)=(j - (off+(k+1)))+1:=zO
    rw[this,List.getElem?_cons_succ]
   ·rw[if_neg b,if_neg zO,Array.getElem?_setIfInBounds_ne (fun e=>d e.symm)]
theorem jc7 (s:R E w0 I0 nt γ I st a w) {d:Nat→Option (Nat × Nat)}:∀ {ps:List (Nat × Operand)}{l:List (Nat × Nat × A)}{cells:Array Value}{cs e:List V},
 ps.mapM (fun(p:Nat × Operand)=>(d p.1).bind fun q=>(opd p.2).map fun a=>(q.1,q.2,a))=some l→jod γ I cells cs→fill cs (jt (eval E st.tm) l)=some e →
 ∃b,Instr.fill d cells (ps.map fun p=>(p.1,a.eval p.2))=some b∧jod γ I b e
 | [],l,cells,cs,e,h,hr,hf=>by
  simp at h
  subst h
  simp only[jt,List.map_nil,fill,Option.some.injEq]at hf
  subst hf
  exact⟨cells,rfl,hr⟩
 | p::ps,l,cells,cs,e,h,hr,hf=>by
  simp only[List.mapM_cons]at h
  cases g:d p.1 with
  | none=>simp[g]at h
  | some q=>
   cases k:opd p.2 with
   | none=>simp[g,k]at h
   | some y=>
    cases m:ps.mapM (fun(p:Nat × Operand)=>(d p.1).bind fun q=>(opd p.2).map fun a=>(q.1,q.2,a)) with
    | none=>simp[g,k,m]at h
    | some K=>
     simp[g,k,m]at h
     subst h
     simp only[jt,List.map_cons,fill]at hf
     split at hf
     ·rename_i D
      obtain⟨J,L,F⟩:=D
      obtain⟨M,H⟩:=je1 (j9 s k) F
      have r:(a.eval p.2).cells.size=q.2:=zO
      obtain⟨z,B⟩:=jj6 q.1 (a.eval p.2).cells.toList 0 cells (by have:=hr.1;simp only[Nat.add_zero,Array.length_toList];omega)
      have n:jod γ I ((a.eval p.2).cells.zipIdx.foldl (fun cs (c:Value × Nat)=>cs.setIfInBounds (q.1+c.2) c.1) cells) (j2 cs q.1 (eval E st.tm y).cells):=by
       rw[← Array.foldl_toList,Array.toList_zipIdx]
       refine⟨by rw[z,WG _ _ _ zO];exact hr.1,fun j x v f i=>?_⟩
       rw[B j]at f
       rw[jbi _ _ _ zO]at i
       simp only[Nat.add_zero,Array.length_toList]at f
       by_cases t:q.1≤j∧j<q.1+(eval E st.tm y).cells.length
       ·rw[if_pos zO]at f
        rw[if_pos t]at i
        exact H _ x v (by simpa using f) i
       ·rw[if_neg zO]at f
        rw[if_neg t]at i
        exact hr.2 j x v f i
      obtain⟨b,u,G⟩:=jc7 s m n hf
      refine⟨b,?_,G⟩
      simp only[List.map_cons,Instr.fill,g]
      rw[if_neg]
      ·exact u
      ·have:=hr.1
       simp only[r,ne_eq,not_true_eq_false,decide_false,Bool.false_or,decide_eq_true_eq,gt_iff_lt]
       omega
     ·cases hf
theorem WU {b:Nat→Option (Nat × Nat)}{ps:Array (Nat × Operand)}{l:List (Nat × Nat × A)}(h:YW b ps=some l) :
 ps.toList.mapM (fun(p:Nat × Operand)=>(b p.1).bind fun q=>(opd p.2).map fun a=>(q.1,q.2,a))=some l:=h
theorem jne (M:R E w0 I0 nt γ I st a w) (S:∀d,o.dst=some d→d<nt) {t:TypeId}{ps:Array (Nat × Operand)}{l:List (Nat × Nat × A)}{zs:List V}{g:Nat→Option (Nat × Nat)}(Q:o.op=.build t ps) (O:Yv P t=some zs)
 (B:(∃fs c,P.underlying t=some (.struct fs)∧fs.toList.mapM (fun f=>(P.info? f.type).map fun i=>(f.offset,i.size))=some c∧g=(c.toArray[·]?)) ∨
  (∃n e s,P.underlying t=some (.array n e)∧Wa P e=some s∧g=fun i=>some (i*s,s)))
 (T:YW g ps=some l) (N:((fill zs (jt (eval E st.tm) l)).bind fun cs=>one (.agg cs))=some δ):XB P E w0 I0 nt γ I st a w o ub δ:=by
 obtain⟨cs,F,y⟩:=bind_some N
 obtain⟨i,z,L,m,q,h⟩:=YA (I:=I) O
 obtain⟨b,J,u⟩:=jc7 M (WU T) ⟨q.symm,fun j x v r k=>⟨(h j x v r k).1,.pure _ _ (h j x v r k).2⟩⟩ F
 have U:P.built t (ps.map fun(p:Nat × Operand)=>(p.1,a.eval p.2)).toList=some b:=by
  unfold Program.built
  rcases B with⟨fs,c,H,X,rfl⟩|⟨n,e,s,H,K,rfl⟩
  ·simp only[L,H,m,X,Array.toList_map]
   exact J
  ·unfold Wa at K
   obtain⟨Z,G,rfl⟩:=map_some K
   simp only[L,H,m,G,Array.toList_map]
   exact J
 refine jS M S (x:=.agg b) ?_ (.agg _ _ u.1 (fun j v k=>?_) (fun j x v r k=>(u.2 j x v r k).2)) y
 ·simp only[execOp,Q,Sem.run_bind,run_build w t _ b U,Result.andThen_ok,Sem.run_pure]
 ·have D:j<b.size:=by have:=(List.getElem?_eq_some_iff.1 k).1;have:=u.1;omega
  exact(u.2 j _ v (Array.getElem?_eq_getElem D) k).1
theorem jdl (v:V):v.strip1.leaf=v.leaf:=by cases v <;> rfl
theorem Ym {x:Value}{v:V}(h:Rep γ I x v) (hp:v.strip1.pureLeaf=true):RepP I x v.strip1:=by
 cases v with
 | sl t s n cs=>
  rcases Xt h with⟨rfl,rfl,rfl,rfl,rfl⟩|⟨u,f,r,rfl,rfl,e,m,g,p,q,k,_⟩
  ·exact .slnil
  ·exact .sl _ _ _ _ _ e m g p q k
 | iface t v=>
  cases h with
  | pure _ _ h=>exact h
  | iface _ x _ d=>
   refine .iface _ _ _ ?_
   cases v with
   | agg cs=>
    cases cs with
    | nil=>
     cases d with
     | pure _ _ h=>exact h
     | agg _ _ b i d=>exact .agg _ _ b i (fun j x v _ l=>by simp at l)
    | cons c cs=>simp[V.strip1,V.pureLeaf]at hp
   | _=>simp[V.strip1,V.pureLeaf]at hp <;> (cases d;assumption)
 | _=>first|(cases h <;> assumption)|(exfalso;revert hp;simp[V.strip1,V.pureLeaf];done)
theorem jc2 {z:Value}{zs:List V}(c:zs.length=z.cells.size) (t:∀ (j:Nat) (x:Value) (v:V),z.cells[j]? = some x→zs[j]? = some v→v.leaf=true∧RepP I x v) (n:Nat) (q:n*zs.length=0∨0<zs.length) :
 jod γ I ((Array.range (n*zs.length)).map (z.cells[· % z.cells.size]!)) (QX n zs):=by
 refine⟨by simp[QX],fun j x v l m=>?_⟩
 simp only[QX,List.getElem?_map,Option.map_eq_some_iff]at m
 obtain⟨b,e,rfl⟩:=m
 have d:j<n*zs.length:=by have:=(List.getElem?_eq_some_iff.1 e).1;simpa using this
 have k:b=j:=by
  rw[List.getElem?_range d]at e
  exact(Option.some.inj e).symm
 subst k
 have f:0<zs.length:=by rcases q with h|h <;> omega
 have i:b % zs.length<zs.length:=Nat.mod_lt _ f
 have g:b % z.cells.size<z.cells.size:=by rw[← c];exact i
 have u:x=z.cells[b % z.cells.size]:=by
  simp[d]at l
  rw[← l]
  simp[g]
 have s:zs.getD (b % zs.length) .undef=zs[b % zs.length]:=by simp[List.getD,i]
 rw[s,u]
 have B:zs[b % zs.length]? = some zs[b % zs.length]:=List.getElem?_eq_getElem i
 have p:z.cells[b % zs.length]? = some z.cells[b % z.cells.size]:=by
  have:b % zs.length=b % z.cells.size:=by rw[c]
  rw[this]
  exact Array.getElem?_eq_getElem g
 obtain⟨r,y⟩:=t _ _ _ p B
 exact⟨r,.pure _ _ y⟩
theorem jph (O:R E w0 I0 nt γ I st a w) (hd:∀d,o.dst=some d→d<nt) (hf:γ ub=none) {t e:TypeId}{ps:Array (Nat × Operand)}{l:List (Nat × Nat × A)}{zs:List V}{n s:Nat}(ho:o.op=.buildSlice t n ps)
 (hu:P.underlying t=some (.slice e)) (J:Wa P e=some s) (hz:Yv P e=some zs) (Q:zs.length=s) (y:0<s) (a0:n*s≤16777216) (hl:YW (fun i=>some (i*s,s)) ps=some l)
 (ha:((fill (QX n zs) (jt (eval E st.tm) l)).bind fun cs=>
  if cs.length=n*s∧(cs.map V.strip1).all V.pureLeaf=true then some { v:=V.sl (some (ub,s)) false n (cs.map V.strip1),add:=[ub] } else none)=some δ):XB P E w0 I0 nt γ I st a w o ub δ:=by
 obtain⟨cs,N,q⟩:=bind_some ha
 split at q
 ·rename_i S
  obtain⟨i,z,X,K,F,g⟩:=YA (I:=I) hz
  subst Q
  obtain⟨c,h1,L⟩:=jc7 O (WU hl) (jc2 (γ:=γ) (I:=I) F g n (.inr y)) N
  have D:n≤maxLen:=by
   have:n≤n*zs.length:=Nat.le_mul_of_pos_right n y
   simp only[maxLen];omega
  refine jmn O hd hf (b:=w.heap.size) (n:=n) (cap:=n) (sz:=zs.length) (cs:=cs.map V.strip1) (w':=w.alloc (.cells c e)) (del:=none) (arr:=c) (e:=e)
   ?_ (.inl ⟨rfl,zS⟩) ⟨rfl,rfl,rfl⟩ (fun k hk _=>heap_alloc_old _ _ _ hk) (heap_alloc_new _ _) (by rw[L.1,S.1]) zR D ?_ (by simpa using S.1) ?_ q
  ·have b0:i.size=zs.length:=by unfold Wa at J;rw[X]at J;exact Option.some.inj J
   have G:¬ (n*zs.length > 16777216):=zO
   have r:Instr.fill (fun i=>some (i*zs.length,zs.length)) ((Array.range (n*zs.length)).map (z.cells[· % z.cells.size]!)) ((ps.map fun(p:Nat × Operand)=>(p.1,a.eval p.2)).toList)=some c:=by
    rw[Array.toList_map];exact h1
   have H:(Instr.buildSlice t n (ps.map fun(p:Nat × Operand)=>(p.1,a.eval p.2))).run P w=.ok (.slice (some ⟨w.heap.size,0,none⟩) n n) (w.alloc (.cells c e)):=by
    unfold Instr.buildSlice
    simp only[Sem.run_bind,run_underlying hu,Result.andThen_ok,je J,Nat.reducePow,G,if_false]
    by_cases Z:n*zs.length=0
    ·have M:n=0:=by rcases Nat.mul_eq_zero.1 Z with h|h <;> omega
     subst M
     have T:∀f:Nat→Value,(Array.range 0).map f = #[]:=fun f=>by simp[Array.range]
     simp only[Nat.zero_mul,T]at r
     simp only[Nat.zero_mul,if_true,T,r]
     simp[newRow]
    ·simp only[Z,if_false,Sem.run_bind,J0 X K,Result.andThen_ok,Sem.run_pure,r]
     simp[newRow]
   simp only[execOp,ho,Sem.run_bind,H,Result.andThen_ok,Sem.run_pure]
  ·intro j x hx
   exact absurd (World.block_lt_of_cell? _ _ (O.imm _ _ _ hx)) (Nat.lt_irrefl _)
  ·intro j v hv
   simp only[List.getElem?_map,Option.map_eq_some_iff]at hv
   obtain⟨u,m,rfl⟩:=hv
   have U:u.strip1.pureLeaf=true:=List.all_eq_true.1 S.2 _ (List.mem_map.2 ⟨u,List.mem_of_getElem? m,rfl⟩)
   have B:j<c.size:=by have:=(List.getElem?_eq_some_iff.1 m).1;have:=L.1;omega
   have:=(L.2 j _ u (Array.getElem?_eq_getElem B) m).2
   exact⟨U,_,Array.getElem?_eq_getElem B,Ym this U⟩
 ·cases q
end
section
variable {P:Program}{E:Env}{w0 w:World}{I0:IMap}{nt:Nat}{γ:Nat→Option Place}{I:IMap}{st:St}{a:Act}{o:Oper}{ub:Nat}{δ:Delta}
theorem Xj {v:V}(h:v.pureLeaf=true):v.strip1=v:=by
 cases v <;> first|rfl|skip
 rename_i t b n cs
 cases t with
 | none=>rfl
 | some u=>simp[V.pureLeaf]at h
theorem RepP.oneCell {x:Value}{v:V}(h:RepP I x v) (b:v.pureLeaf=true):x.oneCell'=true :=
 (Rep.pure (γ:=fun _=>none) x v h).oneCell (by cases v <;> first|rfl|(simp[V.pureLeaf]at b))
theorem jg5 (hR:R E w0 I0 nt γ I st a w) {X:Value}{vx:V}{sz:Nat}{ys:List V}(U:Rep γ I X vx) (p:slCells st.ob sz vx=some ys) (hp:ys.all V.leaf=true) (b0:0<sz) :
 (X=.slice none 0 0∧ys=[])∨∃ (i:Addr) (m c:Nat) (d:List Value),X=.slice (some i) m c∧m≤c∧ys.length=m*sz∧d.length=ys.length∧(∀ (j:Nat) (u:Value),d[j]? = some u→w.cell? (i.add j)=some u) ∧
  (∀ (j:Nat) (x:Value) (v:V),d[j]? = some x→ys[j]? = some v→Rep γ I x v)∧(∀u∈d,u.oneCell'=true):=by
 have F:∀ (i:Addr) (m c:Nat) (f:Nat→Value),X=.slice (some i) m c→m≤c→ys.length=m*sz→(∀j,j<ys.length→w.cell? (i.add j)=some (f j))→(∀ (j:Nat) (v:V),ys[j]? = some v→Rep γ I (f j) v) →
  ∃ (i:Addr) (m c:Nat) (d:List Value),X=.slice (some i) m c∧m≤c∧ys.length=m*sz∧d.length=ys.length∧(∀ (j:Nat) (u:Value),d[j]? = some u→w.cell? (i.add j)=some u) ∧
  (∀ (j:Nat) (x:Value) (v:V),d[j]? = some x→ys[j]? = some v→Rep γ I x v)∧(∀u∈d,u.oneCell'=true):=by
  intro i m c f H M Z S N
  have s:∀ (j:Nat) (u:Value),((List.range ys.length).map f)[j]? = some u→j<ys.length∧u=f j:=by
   intro j u y
   simp only[List.getElem?_map,Option.map_eq_some_iff]at y
   obtain⟨k,L,rfl⟩:=y
   have g:j<ys.length:=by have:=(List.getElem?_eq_some_iff.1 L).1;simpa using this
   rw[List.getElem?_range g]at L
   cases L
   exact⟨g,rfl⟩
  refine⟨i,m,c,(List.range ys.length).map f,H,M,Z,zS,fun j u y=>?_,fun j x v K r=>?_,fun u y=>?_⟩
  ·obtain⟨g,rfl⟩:=s j u y;exact S j g
  ·obtain⟨g,rfl⟩:=s j x K;exact N j v r
  ·obtain⟨j,g,rfl⟩:=List.mem_map.1 y
   have T:j<ys.length:=by simpa using g
   have r:ys[j]? = some ys[j]:=List.getElem?_eq_getElem T
   exact(N j _ r).oneCell (List.all_eq_true.1 hp _ (List.mem_of_getElem? r))
 unfold slCells at p
 split at p
 ·rename_i t nl n cs
  split at p
  ·rename_i q
   cases p
   rcases Xt U with⟨rfl,_,_,_,rfl⟩|⟨i,B,xs,rfl,_,H,M,Z,S,N,h6,_⟩
   ·exact .inl ⟨rfl,rfl⟩
   ·refine .inr (F i n B xs rfl M q (fun j g=>?_) (fun j v r=>.pure _ _ (h6 j v r)))
    have G:=H (fun e=>by rw[e]at g;simp at g)
    obtain⟨b,off,sp⟩:=i
    simp only at G
    subst G
    rw[XH]
    exact hR.imm _ _ _ (S j g)
  ·cases p
 ·rename_i l u off n D
  split at p
  ·rename_i Q
   subst Q
   obtain⟨cs,O,p⟩:=bind_some p
   split at p
   ·rename_i a0
    cases p
    obtain⟨b,kb,i,B,y,rfl,J,hc,hm⟩:=Xf U
    obtain⟨arr,e,m1,m2,m4,m3⟩:=Wm hR (jX O) y
    have q:((cs.drop off).take (n*D)).length=n*D:=by simp only[List.length_take,List.length_drop];omega
    refine .inr (F i n B (fun j=>arr.getD (off+j) undef) rfl hc q (fun j g=>?_) (fun j v r=>?_))
    ·have hn:0<n:=by
      rcases Nat.eq_zero_or_pos n with h|h
      ·subst h;simp at g
      ·exact h
     have:=(J zO).1
     subst this
     rw[XH]
     have z:off+j<arr.size:=zO
     simp[World.cell?,m1,z]
    ·have g:j<n*D:=by have:=(List.getElem?_eq_some_iff.1 r).1;omega
     have z:off+j<arr.size:=zO
     rw[List.getElem?_take_of_lt g,List.getElem?_drop]at r
     have K:arr[off+j]? = some (arr.getD (off+j) undef):=by simp[z]
     exact(m3 _ _ _ K r).2
   ·cases p
  ·cases p
 ·cases p
theorem jam {v:V}(h:v.pureLeaf=true):v.leaf=true:=by
 cases v <;> first|rfl|(simp[V.pureLeaf]at h)
theorem jze (q:R E w0 I0 nt γ I st a w) {X:Value}{i:V}{sz:Nat}{ys:List V}(p:Rep γ I X i) (B:slCells st.ob sz i=some ys) (hp:ys.all V.pureLeaf=true) (g:0<sz) :
 (X=.slice none 0 0∧ys=[])∨∃ (f:Addr) (m c:Nat) (b:List Value),X=.slice (some f) m c∧m≤c∧ys.length=m*sz∧b.length=ys.length∧(∀ (j:Nat) (u:Value),b[j]? = some u→w.cell? (f.add j)=some u) ∧
  (∀ (j:Nat) (x:Value) (v:V),b[j]? = some x→ys[j]? = some v→RepP I x v)∧(∀u∈b,u.oneCell'=true):=by
 rcases jg5 q p B (List.all_eq_true.2 fun v e=>jam (List.all_eq_true.1 hp v e)) g with h|⟨f,m,c,b,k,s,l,t,y,r,z⟩
 ·exact .inl h
 ·refine .inr ⟨f,m,c,b,k,s,l,t,y,fun j x v n e=>?_,z⟩
  have d:=List.all_eq_true.1 hp v (List.mem_of_getElem? e)
  have:=Ym (r j x v n e) (by rw[Xj d];exact d)
  rwa [Xj d]at this
theorem WX (t ty e r:TypeId) (i:TypeInfo) (x:P.underlying t=some (.slice e)) (hi:P.info? e=some i)
 (g d h:Nat) (f:Array Value) (z:w.heap[g]? = some (.cells f r (0,0)))
 (q:Addr) (m c:Nat) (b:List Value) (y:b.length=m*i.size) (k:∀ (j:Nat) (u:Value),b[j]? = some u→w.cell? (q.add j)=some u) (s:∀u∈b,u.oneCell'=true)
 (l:d+m≤h) (p:d*i.size+b.length≤f.size) :
 (Builtin.append_ #[t,t] ty #[.slice (some ⟨g,0,none⟩) d h,.slice (some q) m c]).run P w =
  .ok (.slice (some ⟨g,0,none⟩) (d+m) h) (w.setRow g (f.toList.take (d*i.size)++b++f.toList.drop (d*i.size+b.length)).toArray):=by
 have v:=run_firstCells_some (P:=P) w i.size m q m c b y k
 have n:=run_storeCells_at P g (d*i.size) r b 0 f w z (by simpa using p) s
 simp only[Nat.add_zero]at n
 simp[Builtin.append_,run_underlying x,sizeOf,typeInfo,hi,Builtin.lenOf,l,v,Addr.add_lit,n]
theorem Wi (t ty e:TypeId) (i:TypeInfo) (j:P.underlying t=some (.slice e)) (hi:P.info? e=some i) (f:Option Addr) (d b:Nat) (k:d≤b) (X:Value)
 (h:X=.slice none 0 0∨∃g c,X=.slice (some g) 0 c) :
 (Builtin.append_ #[t,t] ty #[.slice f d b,X]).run P w=.ok (.slice f d b) w:=by
 rcases h with rfl|⟨g,c,rfl⟩ <;> cases f <;>
  simp[Builtin.append_,run_underlying j,sizeOf,typeInfo,hi,Builtin.lenOf,k,Builtin.firstCells,storeCells,loadCells,loadCellsFrom]
end
section
variable {P:Program}{E:Env}{w0 w:World}{I0:IMap}{nt:Nat}{γ:Nat→Option Place}{I:IMap}{st:St}{a:Act}{o:Oper}{ub:Nat}{δ:Delta}
theorem jcq {cs ys:List V}{arr:Array Value}{k:Nat}(e:cs.length=k) (c:∀ (j:Nat) (v:V),cs[j]? = some v→v.pureLeaf=true∧∃x,arr[j]? = some x∧RepP I x v)
 (d:∀ (j:Nat) (v:V),ys[j]? = some v→v.pureLeaf=true∧∃x,arr[k+j]? = some x∧RepP I x v) :
 ∀ (j:Nat) (v:V),(cs++ys)[j]? = some v→v.pureLeaf=true∧∃x,arr[j]? = some x∧RepP I x v:=by
 intro j v b
 by_cases f:j<k
 ·rw[List.getElem?_append_left zO]at b
  exact c j v b
 ·rw[List.getElem?_append_right zO]at b
  have:=d _ v b
  rw[e]at this
  rwa [show k+(j - k)=j by omega]at this
theorem jjl (T:R E w0 I0 nt γ I st a w) (hd:∀d,o.dst=some d→d<nt) (hf:γ ub=none) {t e:TypeId}{s x:Operand}{s' x':A}{i:TypeInfo}{z:Value}(ho:o.op=.call { callee:=.builtin .append,args:=#[s,x],argTypes:=#[t,t] })
 (hs:opd s=some s') (hx:opd x=some x') (hu:P.underlying t=some (.slice e)) (hi:P.info? e=some i) (hz:i.zero=some z) (c0:0<i.size) (e0:z.cells.size=i.size)
 (r:(match eval E st.tm s' with
  | .sl t nl n cs=>(slCells st.ob i.size (eval E st.tm x')).bind fun N=>
   if N=[] then (if cs.length=n*i.size then one (.sl t nl n cs) else none) else
   if cs.length=n*i.size∧0<i.size∧N.all V.pureLeaf=true∧(n+N.length / i.size)*i.bytes≤140737488355328∧n+N.length / i.size≤140737488355328 then
    match t with
    | some (u,z)=>if st.tk u=true∧z=i.size then some { v:=V.sl (some (ub,i.size)) false (n+N.length / i.size) (cs++N),del:=some u,add:=[ub] } else none
    | none=>if nl then some { v:=V.sl (some (ub,i.size)) false (n+N.length / i.size) (cs++N),add:=[ub] } else none
   else none
  | _=>none)=some δ):XB P E w0 I0 nt γ I st a w o ub δ:=by
 have S:=j9 T hs
 have c8:=j9 T hx
 have M:∀ (v:Value) (w':World),(Builtin.append_ #[t,t] o.type #[a.eval s,a.eval x]).run P w=.ok v w'→(execOp a.eval o).run P w=.ok (.value v) w':=by
  intro v w' h
  simp only[execOp,ho,resolve,Sem.run_bind,Sem.run_pure,Result.andThen_ok,invoke,builtin,List.map_toArray,List.map_cons,List.map_nil,h]
 split at r
 ·rename_i tk nl n cs he
  obtain⟨N,c2,r⟩:=bind_some r
  split at r
  ·rename_i Z
   subst Z
   split at r
   ·rename_i D
    -- nothing is appended
    have hX:a.eval x=.slice none 0 0∨∃ad c,a.eval x=.slice (some ad) 0 c:=by
     rcases jze T c8 c2 rfl c0 with⟨h,_⟩|⟨ad,m,c,f,h,_,hl,_⟩
     ·exact .inl h
     ·have:m=0:=by
       simp only[List.length_nil]at hl
       rcases Nat.mul_eq_zero.1 hl.symm with h|h <;> omega
      subst this
      exact .inr ⟨ad,c,h⟩
    rw[he]at S
    have c9:=S
    have hS:∃B cap,a.eval s=.slice B n cap∧n≤cap:=by
     rcases Xt S with⟨h,_,_,rfl,_⟩|⟨ad,cap,xs,h,_,_,h2,_⟩
     ·exact⟨none,0,h,zR⟩
     ·exact⟨some ad,cap,h,h2⟩
    obtain⟨B,cap,hS,d0⟩:=hS
    refine jS T hd (x:=a.eval s) (M _ _ ?_) c9 r
    rw[hS]
    exact Wi t o.type e i hu hi B n cap d0 _ hX
   ·cases r
  ·rename_i c4
   split at r
   ·rename_i hc
    obtain⟨D,_,hp,b8,d8⟩:=hc
    rcases jze T c8 c2 hp c0 with⟨_,h⟩|⟨ad,m,c,f,hX,e8,b0,e6,K,d3,d4⟩
    ·exact absurd h c4
    ·have hm:N.length / i.size=m:=by rw[b0];exact Nat.mul_div_cancel _ c0
     have d6:0<m:=by
      rcases Nat.eq_zero_or_pos m with h|h
      ·subst h
       simp only[Nat.zero_mul]at b0
       exact absurd (List.eq_nil_of_length_eq_zero b0) c4
      ·exact h
     rw[hm]at r b8 d8
     have G:f.length=m*i.size:=zO
     have b9:n+m≤maxLen:=by simp only[maxLen];omega
     have b6:(cs++N).length=(n+m)*i.size:=by rw[List.length_append,D,b0,Nat.add_mul]
     have X:∀ (j:Nat) (v:V),N[j]? = some v→∃x,f[j]? = some x∧v.pureLeaf=true∧RepP I x v:=by
      intro j v q
      have L:j<f.length:=by have:=(List.getElem?_eq_some_iff.1 q).1;omega
      exact⟨_,List.getElem?_eq_getElem L,List.all_eq_true.1 hp _ (List.mem_of_getElem? q),d3 j _ v (List.getElem?_eq_getElem L) q⟩
     have c3:∀j y,I w.heap.size j=some y→j<(n+m)*i.size∧False:=fun j y H=>absurd (World.block_lt_of_cell? _ _ (T.imm _ _ _ H)) (Nat.lt_irrefl _)
     -- a new row
     have U:∀ (F:List Value) (old:Nat) (del:Option Nat),old<n+m→F.length=n*i.size→(∀ (j:Nat) (v:V),cs[j]? = some v→v.pureLeaf=true∧∃x,F[j]? = some x∧RepP I x v) →
      (Builtin.append_ #[t,t] o.type #[a.eval s,a.eval x]).run P w=.ok (.slice (some ⟨w.heap.size,0,none⟩) (n+m) (grownCap w (n+m) old e)) (w.drew.alloc (.cells (F.toArray++f.toArray++Builtin.zeroCells z.cells (grownCap w (n+m) old e - (n+m))) e)) →
      some { v:=V.sl (some (ub,i.size)) false (n+m) (cs++N),del:=del,add:=[ub] } = some δ→XB P E w0 I0 nt γ I st a w o ub δ:=by
      intro F old del e4 a0 O l d1
      have d2:=grownCap_ge w (n+m) old e
      have e1:=grownCap_le_maxLen w (n+m) old e b9
      refine jmn T hd hf (b:=w.heap.size) (n:=n+m) (cap:=grownCap w (n+m) old e) (sz:=i.size) (cs:=cs++N) (del:=del) (e:=e) (M _ _ l) (.inl ⟨rfl,zS⟩) ⟨rfl,rfl,rfl⟩
       (fun k hk _=>heap_alloc_old w.drew _ k hk) (heap_alloc_new w.drew _) ?_ d2 e1 (fun j y H=>(c3 j y H).2.elim) b6 ?_ d1
      ·simp only[Array.size_append,List.size_toArray,size_zeroCells,e0,a0,G,← Nat.add_mul]
       congr 1
       omega
      ·refine jcq D (fun j v q=>?_) (fun j v q=>?_)
       ·obtain⟨p,y,H,hr⟩:=O j v q
        refine⟨p,y,?_,hr⟩
        have L:j<F.length:=(List.getElem?_eq_some_iff.1 H).1
        rw[Array.getElem?_append_left (by simp;omega),Array.getElem?_append_left (by simpa using L)]
        simpa using H
       ·obtain⟨y,H,p,hr⟩:=X j v q
        refine⟨p,y,?_,hr⟩
        have L:j<f.length:=(List.getElem?_eq_some_iff.1 H).1
        rw[Array.getElem?_append_left (by simp;omega),Array.getElem?_append_right (by simp;omega)]
        simp only[List.size_toArray,a0,Nat.add_sub_cancel_left]
        simpa using H
     rw[he]at S
     split at r
     ·rename_i tu tz _
      split at r
      ·rename_i b5
       have c6:=r
       obtain⟨b5,d9⟩:=b5
       subst d9
       rcases Xt S with⟨_,h,_⟩|⟨B,cap,xs,hS,_,_,e7,e2,h3,h4,h5,h6⟩
       ·cases h
       ·obtain⟨b7,Q,d7⟩:=h6 tu _ rfl
        obtain⟨Ω,c7⟩:=T.own
        obtain⟨b,n',e3,e5,k1,k2,k3,⟨arr,e',g1,g2,g3,g4⟩,k5⟩:=c7.tk tu b5
        rw[b7]at k1
        simp only[Option.some.injEq,Place.tok.injEq]at k1
        obtain⟨hb,rfl,rfl,rfl⟩:=k1
        by_cases J:n+m≤cap
        ·have c1:n*i.size+f.length≤arr.size:=by rw[G,← Nat.add_mul];exact Nat.le_trans (Nat.mul_le_mul_right _ J) g2
         have l:=WX (P:=P) (w:=w) t o.type e e' i hu hi b n cap arr g1 ad m c f G K d4 J c1
         rw[← hb]at g1 l k5
         rw[Q]at hS
         refine jqz T hd hf (b:=B.block) (n:=n+m) (cap:=cap) (sz:=i.size) (cs:=cs++N) (w':=w.setRow B.block _) (del:=some tu) (e:=e') (M _ _ (by rw[hS,hX];exact l)) (.inr ⟨tu,n,cap,i.size,b5,b7,rfl,zS⟩) ⟨rfl,rfl,rfl⟩
          (fun k _ hk=>setRow_other w _ k _ hk) (setRow_heap w _ arr _ e' _ g1) ?_ J e2 (fun j y H=>?_) b6 ?_ c6
         ·simp only[List.size_toArray,List.length_append,List.length_take,List.length_drop,Array.length_toList]
          omega
         ·have L:j<n*i.size:=by
           rcases Nat.lt_or_ge j (n*i.size) with h|h
           ·exact h
           ·rw[k5 j h]at H;cases H
          have g:=T.imm _ _ _ H
          simp only[World.cell?,g1,Option.isSome_none,Bool.false_eq_true,if_false]at g
          refine⟨by rw[Nat.add_mul];omega,?_⟩
          simp only[List.getElem?_toArray]
          rw[List.append_assoc,List.getElem?_append_left (by simp only[List.length_take,Array.length_toList];omega),List.getElem?_take_of_lt L]
          simpa using g
         ·refine jcq D (fun j v q=>?_) (fun j v q=>?_)
          ·have L:j<cs.length:=(List.getElem?_eq_some_iff.1 q).1
           refine⟨h4 j v q,xs j,?_,h5 j v q⟩
           have g:=T.imm _ _ _ (h3 j L)
           rw[Q]at g
           simp only[World.cell?,g1,Option.isSome_none,Bool.false_eq_true,if_false,Nat.zero_add]at g
           simp only[List.getElem?_toArray]
           rw[List.append_assoc,List.getElem?_append_left (by simp only[List.length_take,Array.length_toList];omega),List.getElem?_take_of_lt zO]
           simpa using g
          ·obtain⟨y,H,p,hr⟩:=X j v q
           refine⟨p,y,?_,hr⟩
           have L:j<f.length:=(List.getElem?_eq_some_iff.1 H).1
           simp only[List.getElem?_toArray]
           rw[List.getElem?_append_left (by simp only[List.length_append,List.length_take,Array.length_toList];omega),List.getElem?_append_right (by simp only[List.length_take,Array.length_toList];omega)]
           have hq:n*i.size+j - (List.take (n*i.size) arr.toList).length=j:=by simp only[List.length_take,Array.length_toList];omega
           rw[hq]
           exact H
        ·have O:∀ (j:Nat) (v:Value),((List.range cs.length).map xs)[j]? = some v→w.cell? (B.add j)=some v:=by
          intro j v q
          simp only[List.getElem?_map,Option.map_eq_some_iff]at q
          obtain⟨k,hk,rfl⟩:=q
          have L:j<cs.length:=by have:=(List.getElem?_eq_some_iff.1 hk).1;simpa using this
          rw[List.getElem?_range L]at hk
          cases hk
          rw[Q,XH,Nat.zero_add]
          have:=T.imm _ _ _ (h3 j L)
          rw[Q]at this
          simpa using this
         have c5:((List.range cs.length).map xs).length=n*i.size:=by simpa using D
         have l:=run_append_grow (P:=P) w t o.type e i z hu hi hz B n cap _ c5 O ad m c f G K zO zO (growslice_fits zO b8)
         refine U _ cap (some tu) zO c5 (fun j v q=>⟨h4 j v q,xs j,?_,h5 j v q⟩) (by rw[hS,hX];exact l) c6
         have L:j<cs.length:=(List.getElem?_eq_some_iff.1 q).1
         simp[L]
      ·cases r
     ·split at r
      ·rename_i Z
       rcases Xt S with⟨hS,_,_,rfl,rfl⟩|⟨_,_,_,_,h,_⟩
       ·have d5:m*i.bytes≤281474976710656:=by simp only[Nat.zero_add]at b8;omega
        have l:=run_append_nil (P:=P) w t o.type e i z hu hi hz ad m c f G K d6 zO d5
        refine U [] 0 none zO zS (fun j v q=>by simp at q) ?_ r
        rw[hS,hX,Nat.zero_add,l]
        simp
       ·subst h;cases Z
      ·cases r
   ·cases r
 ·cases r
end
section
variable {P:Program}{E:Env}{w0 w:World}{I0:IMap}{nt:Nat}{γ:Nat→Option Place}{I:IMap}{st:St}{a:Act}{o:Oper}{ub:Nat}{δ:Delta}
theorem Rep.strip1 {x:Value}{v:V}(h:Rep γ I x v):Rep γ I x v.strip1:=by
 cases v with
 | sl t k n cs=>
  rcases Xt h with⟨rfl,rfl,rfl,rfl,rfl⟩|⟨l,d,j,rfl,rfl,b,f,e,g,i,c,_⟩
  ·exact .pure _ _ .slnil
  ·exact .pure _ _ (.sl _ _ _ _ _ b f e g i c)
 | _=>exact h
theorem Yl {xs:Array Value}{cs:List V}(f:V→V) (c:∀x v,Rep γ I x v→Rep γ I x (f v)) (h:∀ (j:Nat) (x:Value) (v:V),xs[j]? = some x→cs[j]? = some v→Rep γ I x v) :
 ∀ (j:Nat) (x:Value) (v:V),xs[j]? = some x→(cs.map f)[j]? = some v→Rep γ I x v:=by
 intro j x v d b
 simp only[List.getElem?_map,Option.map_eq_some_iff]at b
 obtain⟨u,e,rfl⟩:=b
 exact c _ _ (h j x u d e)
theorem Rep.stripAgg {x:Value}{cs:List V}(h:Rep γ I x (.agg cs)):Rep γ I x (.agg (cs.map V.strip1)):=by
 obtain⟨g,rfl,c,e,d⟩:=Y2 h
 refine .agg _ _ (by simpa using c) (fun j v b=>?_) (Yl _ (fun _ _=>Rep.strip1) d)
 simp only[List.getElem?_map,Option.map_eq_some_iff]at b
 obtain⟨u,f,rfl⟩:=b
 rw[jdl]
 exact e j u f
theorem Rep.strip {x:Value}{v:V}(h:Rep γ I x v):Rep γ I x v.strip:=by
 cases v with
 | sl t p n cs=>exact h.strip1
 | agg cs=>exact h.stripAgg
 | fn f g m=>
  obtain⟨k,l,rfl,d,i,e,j⟩:=jch h
  have b:∀x v,Rep γ I x v→Rep γ I x (match v with|.agg cs=>V.agg (cs.map V.strip1)|c=>c.strip1):=by
   intro x v h
   split
   ·exact h.stripAgg
   ·exact h.strip1
  exact .fn _ _ _ _ _ (by simpa using d) (by simpa using i) (Yl _ b e) (Yl _ b j)
 | _=>exact h
def LKT:LK→TypeDesc→Prop
 | .bool,d=>d=.bool
 | .int,d=>∃k,d=.int k
 | .str,d=>d=.string
theorem jc4 {t:TypeId}{q:LK}(h:jks P t=some q):∃d,P.underlying t=some d∧LKT q d:=by
 unfold jks at h
 split at h <;> cases h
 ·exact⟨_,by assumption,rfl⟩
 ·exact⟨_,by assumption,_,rfl⟩
 ·exact⟨_,by assumption,rfl⟩
theorem jun {s s':ByteArray}(h:s.data.toList=s'.data.toList):s=s':=by
 cases s;cases s'
 simp only[Array.toList_inj]at h
 rw[h]
theorem Qk {q:LK}{d:TypeDesc}(e:LKT q d) {x y:Value}{g i:V}{b:Bool}(c:Rep γ I x g) (f:Rep γ I y i) (h:YT q g i=some b):Instr.sameNow d x y=some b:=by
 unfold YT at h
 split at h
 ·have:=XG c;subst this
  have:=XG f;subst this
  cases e
  exact h
 ·have:=jw c;subst this
  have:=jw f;subst this
  obtain⟨k,rfl⟩:=e
  exact h
 ·obtain⟨s,rfl,rfl⟩:=X8 c
  obtain⟨j,rfl,rfl⟩:=X8 f
  cases e
  simp only[Option.some.injEq]at h
  simp only[Instr.sameNow,Option.some.injEq]
  rw[← h,beq_toListBytes,YI,YI]
 ·cases h
theorem YR {q:LK}{d:TypeDesc}(l:LKT q d) {k:Value}{s:V}(g:Rep γ I k s):∀ (m:List MapEntry) (es:List (V × V)) (i:Nat) (r:Option (Nat × V)),m.length=es.length →
 (∀ (j:Nat) (e:MapEntry) (k v:V),m[j]? = some e→es[j]? = some (k,v)→RepP I e.key k∧Rep γ I e.val v)→findKey q s es=some r →
 (r=none∧Instr.findNow d k m i=some none)∨∃j v e,r=some (j,v)∧m[j]? = some e∧(∃f,es[j]? = some (f,v)∧YT q s f=some true)∧Instr.findNow d k m i=some (some (i+j,e.val))
 | [],[],i,r,_,_,h=>by
  simp only[findKey,Option.some.injEq]at h
  exact .inl ⟨h.symm,rfl⟩
 | [],_::_,_,_,hl,_,_=>by simp at hl
 | _::_,[],_,_,hl,_,_=>by simp at hl
 | e::m,(f,v)::es,i,r,hl,hr,h=>by
  obtain⟨p,F⟩:=hr 0 e f v rfl rfl
  simp only[findKey]at h
  split at h
  ·rename_i b
   simp only[Option.some.injEq]at h
   subst h
   refine .inr ⟨0,v,e,rfl,rfl,⟨f,rfl,b⟩,?_⟩
   simp only[Instr.findNow,Qk l g (.pure _ _ p) b,Nat.add_zero]
  ·rename_i b
   obtain⟨y,n,rfl⟩:=map_some h
   rcases YR l g m es (i+1) y (by simpa using hl) (fun j e k v n c=>hr (j+1) e k v (by simpa using n) (by simpa using c)) n with⟨rfl,c⟩|⟨j,x,z,rfl,c,⟨t,u,B⟩,D⟩
   ·exact .inl ⟨rfl,by simp only[Instr.findNow,Qk l g (.pure _ _ p) b,c]⟩
   ·refine .inr ⟨j+1,x,z,rfl,by simpa using c,⟨t,by simpa using u,B⟩,?_⟩
    simp only[Instr.findNow,Qk l g (.pure _ _ p) b,D]
    rw[show i+1+j=i+(j+1) by omega]
  ·cases h
theorem J7 {t:TypeId}{d:TypeDesc}{q:LK}(e:P.underlying t=some d) (c:LKT q d) (b:Bool) (k:Value) (n:Nat):(Instr.checkKey b (n+1) t k).run P w=.ok () w:=by
 unfold Instr.checkKey
 simp only[Sem.run_bind,run_underlying e,Result.andThen_ok]
 cases q
 ·cases c;rfl
 ·obtain⟨_,rfl⟩:=c;rfl
 ·cases c;rfl
theorem Je {t:TypeId}{d:TypeDesc}(b:P.underlying t=some d) {k:Value}{m:List MapEntry}{r:Option (Nat × Value)}(h:Instr.findNow d k m 0=some r):(Instr.findKey t k m).run P w=.ok r w:=by
 unfold Instr.findKey
 simp only[Sem.run_bind,run_underlying b,Result.andThen_ok,h,Sem.run_pure]
theorem jas (s:R E w0 I0 nt γ I st a w) {l u b ver:Nat}{k:Kd}{es:List (V × V)}(h:st.ob l=some ⟨u,.mp ver es⟩) (r:γ u=some (.obj b k)) :
 ∃ (m:Array MapEntry) (c:Nat),w.heap[b]? = some (.map m c)∧m.size=es.length∧(∀ (j:Nat) (e:MapEntry) (k v:V),m[j]? = some e→es[j]? = some (k,v)→RepP I e.key k∧Rep γ I e.val v) ∧
  (m.toList.map (·.born)).Nodup∧(∀e∈m,e.born<c)∧(ver<ju0→c=m.size∧∀ (i:Nat) (e:MapEntry),m[i]? = some e→e.born=i):=by
 obtain⟨G,d⟩:=s.own
 obtain⟨F,x,g,J,H,p,D⟩:=d.ob l _ h
 rw[r]at g
 cases g
 obtain⟨m,c,n,f,q,z,B⟩:=p
 exact⟨m,c,n,by rw[← f.1,Array.length_toList],fun j e k v y t=>f.2 j e k v (by rw[Array.getElem?_toList];exact y) t,q,z,B⟩
theorem jln (i:R E w0 I0 nt γ I st a w) {l u b ver:Nat}{k:Kd}{es:List (V × V)}(h:st.ob l=some ⟨u,.mp ver es⟩) (g:γ u=some (.obj b k)) :
 ∃ (m:Array MapEntry) (c:Nat),w.heap[b]? = some (.map m c)∧m.size=es.length∧(∀ (j:Nat) (e:MapEntry) (k v:V),m[j]? = some e→es[j]? = some (k,v)→RepP I e.key k∧Rep γ I e.val v) ∧
  (m.toList.map (·.born)).Nodup∧∀e∈m,e.born<c:=by
 obtain⟨m,c,d,n,f,p,q,_⟩:=jas i h g
 exact⟨m,c,d,n,f,p,q⟩
theorem JH {b:Nat}{m:Array MapEntry}{c:Nat}(h:w.heap[b]? = some (.map m c)):(getObj b).run P w=.ok (.map m c) w:=by simp[getObj,Sem.run,h]
theorem XY {b:Nat}{m e:Array MapEntry}{c d:Nat}(h:w.heap[b]? = some (.map m c)):(setObj b (.map e d)).run P w=.ok () { w with heap:=w.heap.setIfInBounds b (.map e d) }:=by simp[setObj,Sem.run,h]
theorem Qn {x:Value}{z:V}(h:Yn x=some z):RepP I x z:=by
 unfold Yn at h
 split at h
 ·rename_i cs
  obtain⟨l,e,rfl⟩:=map_some h
  obtain⟨c,d⟩:=jnj (I:=I) e
  refine .agg _ _ c.symm (fun j v b=>?_) (fun j x v g b=>(d j x v (by rw[Array.getElem?_toList];exact g) b).2)
  have f:j<cs.toList.length:=by rw[← c];exact(List.getElem?_eq_some_iff.1 b).1
  exact(d j _ v (List.getElem?_eq_getElem f) b).1
 ·exact(leafOk h).1
theorem jsb (F:R E w0 I0 nt γ I st a w) (T:∀d,o.dst=some d→d<nt) {t U e:TypeId}{m k:Operand}{m' k':A}{q:LK}{i:TypeInfo}{z:Value}{G:V}{n:Bool}(O:o.op=.lookup t m k n) (hm:opd m=some m') (S:opd k=some k')
 (s:P.underlying t=some (.map U e)) (hq:jks P U=some q) (hi:P.info? e=some i) (hz:i.zero=some z) (b7:Yn z=some G)
 (f:(if ja4 q (eval E st.tm k') then match eval E st.tm m' with
  | .nilmap=>one (if n then .tup [G,.bool false] else G)
  | .map l u=>(jg st.ob l u).bind fun Z=>(findKey q (eval E st.tm k') Z).bind fun r=>match r with
   | some (_,v)=>one (if n then .tup [v,.bool true] else v)
   | none=>one (if n then .tup [G,.bool false] else G)
  | _=>none else none)=some δ):XB P E w0 I0 nt γ I st a w o ub δ:=by
 obtain⟨d,c,p⟩:=jc4 hq
 have D:=j9 F hm
 have b0:=j9 F S
 have H:Rep γ I z G:=.pure _ _ (Qn b7)
 have g:∀ (x:Value) (v:V) (b:Bool),Rep γ I x v→Rep γ I (if n then .tuple #[x,.bool b] else x) (if n then .tup [v,.bool b] else v):=by
  intro x v b h
  cases n
  ·exact h
  ·refine .tup _ _ rfl (fun j y u L s=>?_)
   match j with
   | 0=>simp at L s;subst L;subst s;exact h
   | 1=>simp at L s;subst L;subst s;exact .pure _ _ (.bool b)
   | j+2=>simp at s
 split at f
 ·split at f
  ·rename_i J
   rw[J]at D
   have B:=XO D
   refine jS F T (x:=if n then .tuple #[z,.bool false] else z) ?_ (g _ _ _ H) f
   have X:(Instr.findKey U (a.eval k) ([]:List MapEntry)).run P w=.ok none w:=Je c rfl
   simp only[execOp,O,B,Instr.lookup,Sem.run_bind,run_underlying s,Result.andThen_ok,Sem.run_pure,J7 c p,X,J0 hi hz]
  ·rename_i l u J
   rw[J]at D
   obtain⟨b,kb,b5,B⟩:=WQ D
   obtain⟨Z,b8,f⟩:=bind_some f
   obtain⟨r,hr,f⟩:=bind_some f
   obtain⟨M,b9,h1,h2,h3,_⟩:=jln F (X2 b8) b5
   have b6:=YR p b0 M.toList Z 0 r (by simpa using h2) (fun j e k v J S=>h3 j e k v (by simpa using J) S) hr
   rcases b6 with⟨rfl,Q⟩|⟨j,v,N,rfl,c0,⟨a0,K,_⟩,Q⟩
   ·refine jS F T (x:=if n then .tuple #[z,.bool false] else z) ?_ (g _ _ _ H) f
    simp only[execOp,O,B,Instr.lookup,Sem.run_bind,run_underlying s,Result.andThen_ok,Sem.run_pure,JH h1,J7 c p,Je c Q,J0 hi hz]
   ·refine jS F T (x:=if n then .tuple #[N.val,.bool true] else N.val) ?_ (g _ _ _ (h3 j N a0 v (by simpa using c0) K).2) f
    simp only[execOp,O,B,Instr.lookup,Sem.run_bind,run_underlying s,Result.andThen_ok,Sem.run_pure,JH h1,J7 c p,Je c Q]
  ·cases f
 ·cases f
end
section
variable {P:Program}{E:Env}{w0 w:World}{I0:IMap}{nt:Nat}{γ:Nat→Option Place}{I:IMap}{st:St}{a:Act}{o:Oper}{ub:Nat}{δ:Delta}
theorem J5 (w:World) (b:Nat) (x:Obj) (h:b<w.heap.size):(w.heap.setIfInBounds b x)[b]? = some x:=by simp[h]
theorem Jh (w:World) (b k:Nat) (x:Obj) (h:k≠b):(w.heap.setIfInBounds b x)[k]? = w.heap[k]?:=Array.getElem?_setIfInBounds_ne (fun e=>h e.symm)
theorem Qt {M:Array MapEntry}{es:List (V × V)}(h:M.size=es.length) (c:∀ (j:Nat) (e:MapEntry) (k v:V),M[j]? = some e→es[j]? = some (k,v)→RepP I e.key k∧Rep γ I e.val v):EntsOk γ I M.toList es :=
 ⟨by simpa using h,fun j e k v b d=>c j e k v (by rw[← Array.getElem?_toList];exact b) d⟩
theorem je4 (M:Array MapEntry) (j:Nat) (k v:Value):(M.modify j fun e=>{ e with key:=k,val:=v }).toList.map (·.born)=M.toList.map (·.born):=by
 refine List.ext_getElem? fun i=>?_
 simp only[List.getElem?_map,Array.getElem?_toList,Array.getElem?_modify]
 split
 ·cases M[i]? <;> rfl
 ·rfl
theorem jwp (m:R E w0 I0 nt γ I st a w) (c:∀d,o.dst=some d→d<nt) (l:γ ub=none) {t:TypeId}{d:Nat}(i:o.op=.makeMap t none) (b:Jg d ub (.mp 0 []) (.map d ub)=some δ):XB P E w0 I0 nt γ I st a w o ub δ:=by
 refine Yj m c l (x:=.map (some w.heap.size)) (obj:=.map #[] 0) (k:=.n 0) ?_ rfl (fun f h=>.map _ _ _ _ h) ?_ b
 ·simp[execOp,i,Instr.makeMap]
 ·exact⟨#[],0,rfl,⟨rfl,fun j e k v g=>by simp at g⟩,zS,zS,fun _=>⟨rfl,zS⟩⟩
theorem jnk {q:LK}{x y:Value}{d e:V}(b:Rep γ I x d) (c:Rep γ I y e) (h:YT q d e=some true):(Instr.keyThatStays y x).run P w=.ok x w:=by
 have f:Instr.sameBits 10000 y x=true:=by
  unfold YT at h
  split at h
  ·have:=XG b;subst this
   have:=XG c;subst this
   simp only[Option.some.injEq,beq_iff_eq]at h
   subst h
   simp[Instr.sameBits]
  ·have:=jw b;subst this
   have:=jw c;subst this
   split at h
   ·rename_i g
    simp only[Option.some.injEq,beq_iff_eq]at h
    subst g;subst h
    simp[Instr.sameBits]
   ·cases h
  ·obtain⟨s,rfl,rfl⟩:=X8 b
   obtain⟨i,rfl,rfl⟩:=X8 c
   simp only[Option.some.injEq,beq_iff_eq]at h
   have:=jun h
   subst this
   simp[Instr.sameBits,beq_toListBytes]
  ·cases h
 simp[Instr.keyThatStays,f]
theorem js4 {q:LK}{x:Value}{v:V}(h:Rep γ I x v) (b:ja4 q v=true):RepP I x v:=by
 unfold ja4 at b
 split at b <;> first|(cases b;done)|(cases h;assumption)
theorem jgq {M:Array MapEntry}{b:Nat}{k v:Value}(h:b=M.size∧∀ (i:Nat) (e:MapEntry),M[i]? = some e→e.born=i) :
 b+1=(M.push { key:=k,val:=v,born:=b }).size∧∀ (i:Nat) (e:MapEntry),(M.push { key:=k,val:=v,born:=b })[i]? = some e→e.born=i:=by
 refine⟨by simp[h.1],fun i e c=>?_⟩
 rw[Array.getElem?_push]at c
 split at c
 ·rename_i d
  cases c
  exact h.1.trans d.symm
 ·exact h.2 i e c
theorem Q0 {M:Array MapEntry}{b j:Nat}{f:MapEntry→MapEntry}(k:∀e,(f e).born=e.born) (h:b=M.size∧∀ (i:Nat) (e:MapEntry),M[i]? = some e→e.born=i) :
 b=(M.modify j f).size∧∀ (i:Nat) (e:MapEntry),(M.modify j f)[i]? = some e→e.born=i:=by
 refine⟨by simp[h.1],fun i e c=>?_⟩
 rw[Array.getElem?_modify]at c
 by_cases d:j=i
 ·rw[if_pos d]at c
  obtain⟨l,g,rfl⟩:=Option.map_eq_some_iff.1 c
  rw[k]
  exact h.2 i l g
 ·rw[if_neg d]at c
  exact h.2 i e c
theorem jji (O:R E w0 I0 nt γ I st a w) (hd:∀d,o.dst=some d→d<nt) {t kt e:TypeId}{m k v:Operand}{m' k' v':A}{q:LK}(D:o.op=.mapUpdate t m k v∨o.op=.insert t m k v) (hm:opd m=some m') (f:opd k=some k') (Z:opd v=some v')
 (hu:P.underlying t=some (.map kt e)) (hq:jks P kt=some q)
 (p:(if ja4 q (eval E st.tm k') then match eval E st.tm m' with
  | .map l u=>if Nat.ble st.ro u then (jg st.ob l u).bind fun F=>(findKey q (eval E st.tm k') F).bind fun r=>match r with
   | some (i,_)=>some { v:=jq,obs:=[(l,⟨u,.mp (jk st.ob l+1) (F.set i (eval E st.tm k',(eval E st.tm v').strip))⟩)] }
   | none=>some { v:=jq,obs:=[(l,⟨u,.mp (jk st.ob l+1) (F++[(eval E st.tm k',(eval E st.tm v').strip)])⟩)] }
   else none
  | _=>none else none)=some δ):XB P E w0 I0 nt γ I st a w o ub δ:=by
 obtain⟨d,B,J⟩:=jc4 hq
 have b0:=j9 O hm
 have L:=j9 O f
 have b5:=(j9 O Z).strip
 split at p
 ·rename_i b8
  have b6:=js4 L b8
  split at p
  ·rename_i l u c
   rw[c]at b0
   obtain⟨b,kb,N,a0⟩:=WQ b0
   split at p
   case isFalse=>cases p
   rename_i T
   obtain⟨F,c6,p⟩:=bind_some p
   obtain⟨r,hr,p⟩:=bind_some p
   have K:=X2 c6
   obtain⟨M,g,Q,h2,h3,U,H,b7⟩:=jas O K N
   have c9:b<w.heap.size:=(Array.getElem?_eq_some_iff.1 Q).1
   have c1:=YR J L M.toList F 0 r (by simpa using h2) (fun j e k v c f=>h3 j e k v (by simpa using c) f) hr
   rcases c1 with⟨rfl,hf⟩|⟨j,v0,S,rfl,c7,⟨c4,X,b9⟩,hf⟩
   ·refine Yx O hd K T (body':=.mp _ _) (x:=undef) (v:=jq) (w':={ w with heap:=w.heap.setIfInBounds b (.map (M.push { key:=a.eval k,val:=a.eval v,born:=g }) (g+1)) }) (.inr ⟨?_,rfl⟩) (.tup _ _ rfl zS) (fun v F h=>by cases h;exact⟨_,_,rfl,Nat.lt_succ_self _⟩) ?_ p
    ·rcases D with D|D <;> simp only[execOp,D,a0,Instr.mapUpdate,Sem.run_bind,run_underlying hu,Result.andThen_ok,Sem.run_pure,JH Q,J7 B J,Je B hf,XY Q]
    ·intro b' k0 s z
     rw[N]at s
     cases s
     refine⟨rfl,rfl,rfl,zS,fun k f=>Jh w b k _ f,?_⟩
     rw[J5 w b _ z]
     refine⟨_,_,rfl,Qt (by simp[h2]) (fun j S kk vv c f=>?_),?_,fun e c=>?_,fun Z=>jgq (b7 (Nat.lt_of_succ_lt Z))⟩
     case refine_2=>
      rw[Array.toList_push,List.map_append,List.map_cons,List.map_nil]
      refine List.nodup_append.2 ⟨U,zS,fun x hx y hy=>?_⟩
      simp only[List.mem_singleton]at hy
      subst hy
      obtain⟨e,c,rfl⟩:=List.mem_map.1 hx
      exact Nat.ne_of_lt (H e (by simpa using c))
     case refine_3=>
      rcases Array.mem_push.1 c with c|rfl
      ·exact Nat.lt_succ_of_lt (H e c)
      ·exact Nat.lt_succ_self _
     rw[Array.getElem?_push]at c
     split at c
     ·rename_i hj
      cases c
      subst hj
      rw[List.getElem?_append_right zO,h2]at f
      simp at f
      obtain⟨rfl,rfl⟩:=f
      exact⟨b6,b5⟩
     ·rename_i hj
      have c8:j<F.length:=by have:=(Array.getElem?_eq_some_iff.1 c).1;omega
      rw[List.getElem?_append_left c8]at f
      exact h3 j S kk vv c f
   ·have n:M[j]? = some S:=by simpa using c7
    have d0:j<M.size:=(Array.getElem?_eq_some_iff.1 n).1
    refine Yx O hd K T (body':=.mp _ _) (x:=undef) (v:=jq) (w':={ w with heap:=w.heap.setIfInBounds b (.map (M.modify j fun e=>{ e with key:=a.eval k,val:=a.eval v }) g) }) (.inr ⟨?_,rfl⟩) (.tup _ _ rfl zS) (fun v F h=>by cases h;exact⟨_,_,rfl,Nat.lt_succ_self _⟩) ?_ p
    ·have c2:(Instr.keyThatStays S.key (a.eval k)).run P w=.ok (a.eval k) w:=jnk (γ:=γ) (I:=I) L (.pure _ _ (h3 j S c4 v0 n X).1) b9
     simp only[Nat.zero_add]at hf
     rcases D with D|D <;> simp only[execOp,D,a0,Instr.mapUpdate,Sem.run_bind,run_underlying hu,Result.andThen_ok,Sem.run_pure,JH Q,J7 B J,Je B hf,n,Option.map_some,Option.getD_some,c2,XY Q]
    ·intro b' k0 s z
     rw[N]at s
     cases s
     refine⟨rfl,rfl,rfl,zS,fun k f=>Jh w b k _ f,?_⟩
     rw[J5 w b _ z]
     refine⟨_,_,rfl,Qt (by simp[h2]) (fun i c3 kk vv c f=>?_),by rw[je4];exact U,fun e c=>?_,fun Z=>Q0 (fun _=>rfl) (b7 (Nat.lt_of_succ_lt Z))⟩
     case refine_2=>
      have:e.born∈(M.modify j fun e=>{ e with key:=a.eval k,val:=a.eval v }).toList.map (·.born):=List.mem_map.2 ⟨e,Array.mem_toList_iff.2 c,rfl⟩
      rw[je4]at this
      obtain⟨e2,c0,c5⟩:=List.mem_map.1 this
      rw[← c5]
      exact H e2 (by simpa using c0)
     rw[Array.getElem?_modify]at c
     by_cases G:j=i
     ·subst G
      simp only[if_true,n,Option.map_some,Option.some.injEq]at c
      subst c
      rw[List.getElem?_set_self zO]at f
      cases f
      exact⟨b6,b5⟩
     ·rw[if_neg G]at c
      rw[List.getElem?_set_ne G]at f
      exact h3 i c3 kk vv c f
  ·cases p
 ·cases p
theorem Wx {b:Type}(l:List b) (i j:Nat):(l.eraseIdx i)[j]? = if j<i then l[j]? else l[j+1]?:=by
 rw[List.getElem?_eraseIdx]
theorem jsa (Q:R E w0 I0 nt γ I st a w) (hd:∀d,o.dst=some d→d<nt) {t kt e:TypeId}{m k:Operand}{m' k':A}{q:LK}{O:Array TypeId}(ho:o.op=.call { callee:=.builtin .delete,args:=#[m,k],argTypes:=O }) (ht:O[0]? = some t) (hm:opd m=some m') (g:opd k=some k')
 (hu:P.underlying t=some (.map kt e)) (hq:jks P kt=some q)
 (f:(if ja4 q (eval E st.tm k') then match eval E st.tm m' with
  | .nilmap=>one jq
  | .map l u=>if Nat.ble st.ro u then (jg st.ob l u).bind fun K=>(findKey q (eval E st.tm k') K).bind fun r=>match r with
   | some (i,_)=>some { v:=jq,obs:=[(l,⟨u,.mp (jk st.ob l+ju0) (K.eraseIdx i)⟩)] }
   | none=>some { v:=jq,obs:=[(l,⟨u,.mp (jk st.ob l+1) K⟩)] }
   else none
  | _=>none else none)=some δ):XB P E w0 I0 nt γ I st a w o ub δ:=by
 obtain⟨d,p,D⟩:=jc4 hq
 have G:=j9 Q hm
 have b0:=j9 Q g
 have c:∀ (w':World),(Builtin.delete_ O o.type #[a.eval m,a.eval k]).run P w=.ok (.tuple #[]) w'→(execOp a.eval o).run P w=.ok (.value (.tuple #[])) w':=by
  intro w' h
  simp only[execOp,ho,resolve,Sem.run_bind,Sem.run_pure,Result.andThen_ok,invoke,builtin,List.map_toArray,List.map_cons,List.map_nil,h]
 split at f
 ·split at f
  ·rename_i n
   rw[n]at G
   have F:=XO G
   refine jS Q hd (x:=.tuple #[]) (c _ ?_) (.tup _ _ rfl zS) f
   rw[F]
   simp[Builtin.delete_,ht,run_underlying hu,J7 p D]
  ·rename_i l u n
   rw[n]at G
   obtain⟨b,kb,N,F⟩:=WQ G
   split at f
   case isFalse=>cases f
   rename_i S
   obtain⟨K,b6,f⟩:=bind_some f
   obtain⟨r,hr,f⟩:=bind_some f
   have L:=X2 b6
   obtain⟨M,B,Z,h2,h3,T,H,a0⟩:=jas Q L N
   have b5:=YR D b0 M.toList K 0 r (by simpa using h2) (fun j e k v n g=>h3 j e k v (by simpa using n) g) hr
   rcases b5 with⟨rfl,hf⟩|⟨j,v0,en,rfl,b7,⟨c0,b8,b9⟩,hf⟩
   ·refine Yx Q hd L S (body':=.mp _ _) (x:=.tuple #[]) (v:=jq) (w':={ w with heap:=w.heap.setIfInBounds b (.map M B) }) (.inl (c _ ?_)) (.tup _ _ rfl zS) (fun v K h=>by cases h;exact⟨_,_,rfl,Nat.lt_succ_self _⟩) ?_ f
    ·rw[F]
     simp only[Builtin.delete_,ht,Sem.run_bind,run_underlying hu,Result.andThen_ok,Sem.run_pure,JH Z,J7 p D,Je p hf,XY Z,List.getElem?_toArray,List.getElem?_cons_zero,List.getElem?_cons_succ]
    ·intro b' k0 y J
     rw[N]at y
     cases y
     refine⟨rfl,rfl,rfl,zS,fun k g=>Jh w b k _ g,?_⟩
     rw[J5 w b _ J]
     exact⟨_,_,rfl,Qt h2 h3,T,H,fun hv=>a0 (Nat.lt_of_succ_lt hv)⟩
   ·have U:M[j]? = some en:=by simpa using b7
    have z:j<M.size:=(Array.getElem?_eq_some_iff.1 U).1
    refine Yx Q hd L S (body':=.mp _ _) (x:=.tuple #[]) (v:=jq) (w':={ w with heap:=w.heap.setIfInBounds b (.map (M.eraseIdxIfInBounds j) B) }) (.inl (c _ ?_)) (.tup _ _ rfl zS) (fun v K h=>by cases h;exact⟨_,_,rfl,Nat.lt_add_of_pos_right zD⟩) ?_ f
    ·rw[F]
     simp only[Nat.zero_add]at hf
     simp only[Builtin.delete_,ht,Sem.run_bind,run_underlying hu,Result.andThen_ok,Sem.run_pure,JH Z,J7 p D,Je p hf,XY Z,List.getElem?_toArray,List.getElem?_cons_zero,List.getElem?_cons_succ]
    ·intro b' k0 y J
     rw[N]at y
     cases y
     have hM:M.eraseIdxIfInBounds j=M.eraseIdx j z:=by simp[Array.eraseIdxIfInBounds,z]
     refine⟨rfl,rfl,rfl,zS,fun k g=>Jh w b k _ g,?_⟩
     rw[J5 w b _ J]
     refine⟨_,_,rfl,Qt (by rw[hM];simp[List.length_eraseIdx,h2];omega) (fun i X kk vv n g=>?_),?_,fun e n=>?_,fun hv=>absurd hv (Nat.not_lt.2 (Nat.le_add_left _ _))⟩
     case refine_2=>
      rw[hM,Array.toList_eraseIdx]
      exact((List.eraseIdx_sublist M.toList j).map _).nodup T
     case refine_3=>
      rw[hM]at n
      have:e∈(M.eraseIdx j z).toList:=Array.mem_toList_iff.2 n
      rw[Array.toList_eraseIdx]at this
      exact H e (Array.mem_toList_iff.1 (List.mem_of_mem_eraseIdx this))
     rw[hM,← Array.getElem?_toList,Array.toList_eraseIdx,Wx]at n
     rw[Wx]at g
     split at n
     ·rename_i s
      rw[if_pos s]at g
      exact h3 i X kk vv (by simpa using n) g
     ·rename_i s
      rw[if_neg s]at g
      exact h3 (i+1) X kk vv (by simpa using n) g
  ·cases f
 ·cases f
theorem jlj (g:R E w0 I0 nt γ I st a w) (q:∀d,o.dst=some d→d<nt) (m:γ ub=none) {t:TypeId}{x:Operand}{e:A}{d:Nat}(j:o.op=.range t x) (l:opd x=some e) (p:P.underlying t=some .string)
 (b:(match eval E st.tm e with
  | .str s=>Jg d ub (.siter s 0) (.iter d ub)
  | _=>none)=some δ):XB P E w0 I0 nt γ I st a w o ub δ:=by
 have f:=j9 g l
 split at b
 ·rename_i s r
  rw[r]at f
  obtain⟨i,c,rfl⟩:=X8 f
  refine Yj g q m (x:=.pointer (some ⟨w.heap.size,0,none⟩)) (obj:=.stringIter i 0) (k:=.n 0) ?_ rfl (fun u h=>.iter _ _ _ _ h) ?_ b
  ·simp[execOp,j,c,Instr.range,run_underlying p]
  ·exact⟨i,rfl,rfl⟩
 ·cases b
theorem jpe (G:R E w0 I0 nt γ I st a w) (Q:∀d,o.dst=some d→d<nt) {x:Operand}{U:A}(N:o.op=.next x true) (Z:opd x=some U)
 (i:(match eval E st.tm U with
  | .iter l u=>match st.ob l with
   | some ⟨X,.siter s c⟩=>if Nat.ble st.ro u∧X=u then
    (if c<s.length then some { v:=.tup [.bool true,.int .i64 c,.int .i32 ((Utf8.decode ⟨s.toArray⟩ c).1:Nat)],obs:=[(l,⟨u,.siter s (c+(Utf8.decode ⟨s.toArray⟩ c).2)⟩)] }
     else one (.tup [.bool false])) else none
   | _=>none
  | _=>none)=some δ):XB P E w0 I0 nt γ I st a w o ub δ:=by
 have O:=j9 G Z
 split at i
 ·rename_i l u he
  rw[he]at O
  obtain⟨b,kb,z,F⟩:=jc5 O
  split at i
  ·rename_i X s c t
   split at i
   ·rename_i p
    obtain⟨H,p⟩:=p
    subst p
    obtain⟨Ω,D⟩:=G.own
    obtain⟨b',a0,S,k2,k3,⟨f,n,M⟩,k5⟩:=D.ob l _ t
    rw[z]at S
    cases S
    have r:(⟨s.toArray⟩:ByteArray)=f:=by
     rw[← M]
    have T:s.length=f.size:=by rw[← M];simp
    rw[r]at i
    split at i
    ·rename_i q
     have e:c<f.size:=zO
     refine Yx G Q t H (body':=.siter s (c+(Utf8.decode f c).2)) (x:=.tuple #[.bool true,.int .i64 c,.int .i32 ((Utf8.decode f c).1:Nat)])
      (w':={ w with heap:=w.heap.setIfInBounds b (.stringIter f (c+(Utf8.decode f c).2)) }) (.inl ?_) ?_ (fun v es h=>by cases h) ?_ i
     ·have K:(getObj b).run P w=.ok (.stringIter f c) w:=by simp[getObj,Sem.run,n]
      have L:∀x,(setObj b x).run P w=.ok () { w with heap:=w.heap.setIfInBounds b x }:=by intro x;simp[setObj,Sem.run,n]
      simp only[execOp,N,F,Instr.next,Sem.run_bind,K,Result.andThen_ok,e,if_true,L,Sem.run_pure,goInt]
     ·refine .tup _ _ rfl (fun j y v m g=>?_)
      match j with
      | 0=>simp at m g;subst m;subst g;exact .pure _ _ (.bool _)
      | 1=>simp at m g;subst m;subst g;exact .pure _ _ (.int _ _)
      | 2=>simp at m g;subst m;subst g;exact .pure _ _ (.int _ _)
      | j+3=>simp at g
     ·intro b' k0 B J
      rw[z]at B
      cases B
      exact⟨rfl,rfl,rfl,zS,fun k hk=>Jh w b k _ hk,by rw[J5 w b _ J];exact⟨f,rfl,M⟩⟩
    ·rename_i q
     have e:¬ c<f.size:=zO
     refine jS G Q (x:=.tuple #[.bool false]) ?_ ?_ i
     ·have K:(getObj b).run P w=.ok (.stringIter f c) w:=by simp[getObj,Sem.run,n]
      simp only[execOp,N,F,Instr.next,Sem.run_bind,K,Result.andThen_ok,e,if_false,Sem.run_pure]
     ·refine .tup _ _ rfl (fun j y v m g=>?_)
      match j with
      | 0=>simp at m g;subst m;subst g;exact .pure _ _ (.bool _)
      | j+1=>simp at g
   ·cases i
  ·cases i
 ·cases i
theorem jdu (isMax:Bool):∀ (xs:List Value) (vs:List V) (x:Value) (v r:V),xs.length=vs.length→(∀ (j:Nat) (y:Value) (u:V),xs[j]? = some y→vs[j]? = some u→Rep γ I y u)→Rep γ I x v→Wr isMax v vs=some r →
 ∃z,(xs.foldlM (if isMax then Builtin.max2 else Builtin.min2) x).run P w=.ok z w∧Rep γ I z r
 | [],[],x,v,r,_,_,hx,h=>by
  simp only[Wr,Option.some.injEq]at h
  subst h
  exact⟨x,zS,hx⟩
 | [],_::_,_,_,_,hl,_,_,_=>by simp at hl
 | _::_,[],_,_,_,hl,_,_,_=>by simp at hl
 | y::xs,u::vs,x,v,r,hl,hr,hx,h=>by
  simp only[Wr]at h
  obtain⟨z,b,d⟩:=bind_some h
  have m:=hr 0 y u rfl rfl
  unfold jho at b
  split at b
  ·rename_i k p n q
   have:=jw hx;subst this
   have:=jw m;subst this
   split at b
   ·rename_i g
    subst g
    simp only[Option.some.injEq]at b
    have c:((if isMax then Builtin.max2 else Builtin.min2) (.int k p) (.int k q)).run P w=.ok (.int k (if isMax then (if q > p then q else p) else (if q<p then q else p))) w:=by
     cases isMax <;> simp[Builtin.max2,Builtin.min2]
    obtain⟨i,f,l⟩:=jdu isMax xs vs _ z r (by simpa using hl) (fun j y u e d=>hr (j+1) y u (by simpa using e) (by simpa using d)) (by rw[← b];exact .pure _ _ (.int _ _)) d
    refine⟨i,?_,l⟩
    rw[List.foldlM_cons,Sem.run_bind,c,Result.andThen_ok]
    exact f
   ·cases b
  ·cases b
theorem jjh (B:R E w0 I0 nt γ I st a w) (G:∀d,o.dst=some d→d<nt) {isMax:Bool}{xs:Array Operand}{f:List A}{s:Array TypeId}(i:o.op=.call { callee:=.builtin (if isMax then .max else .min),args:=xs,argTypes:=s }) (D:opds xs=some f)
 (l:(match f.map (eval E st.tm) with
  | []=>none
  | x::r=>(Wr isMax x r).bind one)=some δ):XB P E w0 I0 nt γ I st a w o ub δ:=by
 obtain⟨m,q⟩:=WO B D
 split at l
 ·cases l
 ·rename_i v t p
  obtain⟨r,F,n⟩:=bind_some l
  rw[p]at m q
  cases b:(xs.map a.eval).toList with
  | nil=>
   have:(xs.map a.eval).size=0:=by rw[← Array.length_toList,b];rfl
   simp only[List.length_cons]at m
   omega
  | cons x k=>
   have c:∀ (j:Nat),(xs.map a.eval)[j]? = (x::k)[j]?:=fun j=>by rw[← b,Array.getElem?_toList]
   have e:k.length=t.length:=by
    have:(xs.map a.eval).size=(x::k).length:=by rw[← Array.length_toList,b]
    simp only[List.length_cons]at this m
    omega
   obtain⟨z,h,g⟩:=jdu (P:=P) (w:=w) (γ:=γ) (I:=I) isMax k t x v r e (fun j y u J H=>q (j+1) y u (by rw[c];simpa using J) (by simpa using H)) (q 0 x v (by rw[c];rfl) rfl) F
   refine jS B G (x:=z) ?_ g n
   cases isMax
   ·simp only[Bool.false_eq_true,if_false]at h i
    simp only[execOp,i,resolve,Sem.run_bind,Sem.run_pure,Result.andThen_ok,invoke,builtin,Builtin.min_,b,h]
   ·simp only[if_true]at h i
    simp only[execOp,i,resolve,Sem.run_bind,Sem.run_pure,Result.andThen_ok,invoke,builtin,Builtin.max_,b,h]
end
section
variable {P:Program}{E:Env}{w0 w:World}{I0:IMap}{nt:Nat}{γ:Nat→Option Place}{I:IMap}{st:St}{a:Act}{o:Oper}{ub:Nat}{δ:Delta}
theorem jnd (s:R E w0 I0 nt γ I st a w) (hd:∀d,o.dst=some d→d<nt) {neg:Bool}{t t':TypeId}{x y:Operand}{X S:A}(ho:o.op=.binOp (if neg then .neq else .eql) t x y t') (hx:opd x=some X) (hy:opd y=some S)
 (hk:eqK P t x y=some .ptr) {l u off l' u' f:Nat}(h1:eval E st.tm X=.ptr l u off) (h2:eval E st.tm S=.ptr l' u' f)
 (T:(if (objCells st.ob l u).isSome && (objCells st.ob l' u').isSome then one (.bool (xor neg (Nat.beq l l' && Nat.beq off f))) else none)=some δ):XB P E w0 I0 nt γ I st a w o ub δ:=by
 have D:=j9 s hx
 have v:=j9 s hy
 rw[h1]at D
 rw[h2]at v
 obtain⟨b,k,N,p⟩:=YP D
 obtain⟨r,k',g,hY⟩:=YP v
 simp only[Option.ite_none_right_eq_some,Bool.and_eq_true,Option.isSome_iff_exists]at T
 obtain⟨⟨⟨cs,O⟩,⟨b5,q⟩⟩,G⟩:=T
 obtain⟨Ω,j⟩:=s.own
 obtain⟨c,kc,U,k2,_⟩:=j.ob l _ (jX O)
 obtain⟨c',b0,q1,Z,_⟩:=j.ob l' _ (jX q)
 rw[N]at U
 rw[g]at q1
 cases U
 cases q1
 have M:(b=r) ↔ l=l':=by
  constructor
  ·intro e
   subst e
   rw[k2]at Z
   cases Z
   rfl
  ·intro e
   subst e
   have B:=jX O
   have z:=jX q
   rw[B]at z
   simp only[Option.some.injEq,Obj'.mk.injEq]at z
   obtain⟨rfl,_⟩:=z
   rw[N]at g
   cases g
   rfl
 have H:(Nat.beq l l' && Nat.beq off f)=decide ((⟨b,off,none⟩:Addr)=⟨r,f,none⟩):=by
  rw[Bool.eq_iff_iff]
  have B:∀m n:Nat,(Nat.beq m n=true) ↔ m=n:=fun m n=>⟨Nat.eq_of_beq_eq_true,fun h=>h▸Nat.beq_refl m⟩
  simp only[Bool.and_eq_true,B,decide_eq_true_eq,Addr.mk.injEq,and_true,M]
 obtain⟨e,F,n,hn,J⟩:=jt8 hk
 obtain⟨arr,_,m1,_⟩:=Wm s (jX O) N
 obtain⟨a0,_,m2,_⟩:=Wm s (jX q) g
 have Q:(sameAddr ⟨b,off,none⟩ ⟨r,f,none⟩).run P w=.ok (decide ((⟨b,off,none⟩:Addr)=⟨r,f,none⟩)) w:=by
  by_cases L:b=r
  ·subst L
   have:((⟨b,off,none⟩:Addr) == ⟨b,f,none⟩)=decide ((⟨b,off,none⟩:Addr)=⟨b,f,none⟩):=by
    rw[Bool.eq_iff_iff];simp
   simp only[sameAddr,beq_self_eq_true,if_true,this,Sem.run_pure]
  ·have K:(b == r)=false:=by simpa using L
   simp[sameAddr,K,L,noView,viewAt,mayBeOne,stringish,World.shape?,m1,m2,World.frozen?]
 have i:(Op.equal t (a.eval x) (a.eval y)).run P w=.ok (Nat.beq l l' && Nat.beq off f) w:=by
  rw[p,hY,H]
  unfold Op.equal
  show(Op.equalIn (9999+1) t _ _).run P w=_
  unfold Op.equalIn
  simp only[Sem.run_bind,run_underlying F,Result.andThen_ok,je hn,J,ne_eq,not_false_eq_true,if_true,Q]
 obtain⟨B,z⟩:=jcd t (a.eval x) (a.eval y) _ (by rw[p];simp) (by rw[p];simp) (by rw[p];simp) (by rw[p];simp) i
 have h0:(eqGuard (if neg then .neq else .eql) t x y (a.eval x) (a.eval y)).run P w=.ok () w:=jF _ _ _ _ _ _ (by rw[p];simp) (by rw[p];simp)
 refine jS s hd (x:=.bool (xor neg (Nat.beq l l' && Nat.beq off f))) ?_ (.pure _ _ (.bool _)) G
 simp only[execOp,ho,Sem.run_bind,h0,Result.andThen_ok]
 cases neg
 ·simp only[Bool.false_eq_true,if_false,B,Result.andThen_ok,Sem.run_pure,Bool.false_xor]
 ·simp only[if_true,z,Result.andThen_ok,Sem.run_pure,Bool.true_xor]
end
section
variable {P:Program}{E:Env}{w0 w:World}{I0:IMap}{nt:Nat}{γ:Nat→Option Place}{I:IMap}{st:St}{a:Act}{o:Oper}{ub:Nat}{δ:Delta}
theorem jsj (q:R E w0 I0 nt γ I st a w) (D:∀d,o.dst=some d→d<nt) {x:Operand}{N t:TypeId}{J:A}{l:Bool}{d:TypeDesc}{i:TypeInfo}{z:Value}{F:V}(s:o.op=.typeAssert x N t l) (M:opd x=some J)
 (f:P.underlying t=some d) (k:∀m,d≠.interface m) (hi:P.info? t=some i) (K:i.zero=some z) (G:Yn z=some F)
 (g:(match eval E st.tm J with
  | .iface L v=>if L=t then one (if l then .tup [v,.bool true] else v) else if l then one (.tup [F,.bool false]) else none
  | .nilif=>if l then one (.tup [F,.bool false]) else none
  | _=>none)=some δ):XB P E w0 I0 nt γ I st a w o ub δ:=by
 have B:=j9 q M
 have r:Rep γ I z F:=.pure _ _ (Qn G)
 have c:∀ (x:Value) (v:V) (b:Bool),Rep γ I x v→Rep γ I (.tuple #[x,.bool b]) (.tup [v,.bool b]):=by
  intro x v b h
  refine .tup _ _ rfl (fun j y u p f=>?_)
  match j with
  | 0=>simp at p f;subst p;subst f;exact h
  | 1=>simp at p f;subst p;subst f;exact .pure _ _ (.bool b)
  | j+2=>simp at f
 split at g
 ·rename_i L v H
  rw[H]at B
  obtain⟨y,e,p⟩:=ja7 B
  split at g
  ·rename_i n
   subst n
   cases l
   ·refine jS q D (x:=y) ?_ p g
    simp only[execOp,s,e,Instr.typeAssert,Sem.run_bind,run_underlying f,Result.andThen_ok]
    cases d <;> first|exact absurd rfl (k _)|simp
   ·refine jS q D (x:=.tuple #[y,.bool true]) ?_ (c _ _ _ p) g
    simp only[execOp,s,e,Instr.typeAssert,Sem.run_bind,run_underlying f,Result.andThen_ok]
    cases d <;> first|exact absurd rfl (k _)|simp
  ·rename_i n
   cases l
   ·cases g
   ·refine jS q D (x:=.tuple #[z,.bool false]) ?_ (c _ _ _ r) g
    simp only[execOp,s,e,Instr.typeAssert,Sem.run_bind,run_underlying f,Result.andThen_ok]
    cases d <;> first|exact absurd rfl (k _)|simp[n,J0 hi K]
 ·rename_i H
  rw[H]at B
  have e:=W5 B
  cases l
  ·cases g
  ·refine jS q D (x:=.tuple #[z,.bool false]) ?_ (c _ _ _ r) g
   simp only[execOp,s,e,Instr.typeAssert,Sem.run_bind,run_underlying f,Result.andThen_ok]
   cases d <;> first|exact absurd rfl (k _)|simp[J0 hi K]
 ·cases g
theorem jlm (L:R E w0 I0 nt γ I st a w) (X:∀d,o.dst=some d→d<nt) (T:γ ub=none) {t e:TypeId}{ps:Array (Nat × Operand)}{l:List (Nat × Nat × A)}{zs:List V}{n s:Nat}{d:Nat}(S:o.op=.buildSlice t n ps)
 (hu:P.underlying t=some (.slice e)) (y:Wa P e=some s) (Q:Yv P e=some zs) (H:zs.length=s) (m:0<s) (U:n*s≤16777216) (Z:YW (fun i=>some (i*s,s)) ps=some l)
 (N:((fill (QX n zs) (jt (eval E st.tm) l)).bind fun cs=>
  if cs.length=n*s∧cs.all V.leaf=true then Jg d ub (.cells cs) (.osl d ub 0 n s) else none)=some δ):XB P E w0 I0 nt γ I st a w o ub δ:=by
 obtain⟨cs,G,g⟩:=bind_some N
 split at g
 ·rename_i hc
  obtain⟨i,z,K,B,r,c⟩:=YA (I:=I) Q
  subst H
  obtain⟨b,O,D⟩:=jc7 L (WU Z) (jc2 (γ:=γ) (I:=I) r c n (.inr m)) G
  have q:n≤maxLen:=by
   have:n≤n*zs.length:=Nat.le_mul_of_pos_right n m
   simp only[maxLen];omega
  refine Yj L X T (x:=.slice (some ⟨w.heap.size,0,none⟩) n n) (obj:=.cells b e) (k:=.n b.size) (body:=.cells cs) ?_ rfl (fun b0 h=>.osl _ _ _ _ _ _ _ _ _ h (fun _=>⟨rfl,by rw[D.1,hc.1,Nat.zero_add];exact Nat.le_refl _⟩) zR q)
   ⟨b,e,rfl,rfl,Nat.le_of_eq D.1.symm,D.2⟩ g
  ·have a0:i.size=zs.length:=by unfold Wa at y;rw[K]at y;exact Option.some.inj y
   have u:¬ (n*zs.length > 16777216):=zO
   have j:Instr.fill (fun i=>some (i*zs.length,zs.length)) ((Array.range (n*zs.length)).map (z.cells[· % z.cells.size]!)) ((ps.map fun(p:Nat × Operand)=>(p.1,a.eval p.2)).toList)=some b:=by
    rw[Array.toList_map];exact O
   have v:(Instr.buildSlice t n (ps.map fun(p:Nat × Operand)=>(p.1,a.eval p.2))).run P w=.ok (.slice (some ⟨w.heap.size,0,none⟩) n n) (w.alloc (.cells b e)):=by
    unfold Instr.buildSlice
    simp only[Sem.run_bind,run_underlying hu,Result.andThen_ok,je y,Nat.reducePow,u,if_false]
    by_cases M:n*zs.length=0
    ·have F:n=0:=by rcases Nat.mul_eq_zero.1 M with h|h <;> omega
     subst F
     have J:∀f:Nat→Value,(Array.range 0).map f = #[]:=fun f=>by simp[Array.range]
     simp only[Nat.zero_mul,J]at j
     simp only[Nat.zero_mul,if_true,J,j]
     simp[newRow]
    ·simp only[M,if_false,Sem.run_bind,J0 K B,Result.andThen_ok,Sem.run_pure,j]
     simp[newRow]
   simp only[execOp,S,Sem.run_bind,v,Result.andThen_ok,Sem.run_pure]
 ·cases g
end
section
variable {P:Program}{E:Env}{w0 w:World}{I0:IMap}{nt:Nat}{γ:Nat→Option Place}{I:IMap}{st:St}{a:Act}{o:Oper}{ub:Nat}{δ:Delta}
theorem jv8 {zs:List V}{n m j:Nat}{v:V}(d:n≤m) (h:(QX n zs)[j]? = some v):(QX m zs)[j]? = some v:=by
 have b:j<n*zs.length:=by have:=(List.getElem?_eq_some_iff.1 h).1;simpa[QX] using this
 have c:n*zs.length≤m*zs.length:=Nat.mul_le_mul_right _ d
 simp only[QX,List.getElem?_map]at h ⊢
 rw[List.getElem?_range b]at h
 rw[List.getElem?_range zO]
 exact h
theorem j1u (G:R E w0 I0 nt γ I st a w) (Z:∀d,o.dst=some d→d<nt) (X:γ ub=none) {t e:TypeId}{x y:Operand}{x' U:A}{i:TypeInfo}{zs:List V}{d:Nat}{m:Bool}(ho:o.op=.makeSlice t x y) (L:opd x=some x') (Q:opd y=some U)
 (hu:P.underlying t=some (.slice e)) (hi:P.info? e=some i) (hz:Yv P e=some zs)
 (q:(match eval E st.tm x',eval E st.tm U with
  | .int .i64 l,.int .i64 c=>if 0≤l∧l≤c∧c*i.bytes≤140737488355328∧c≤140737488355328∧zs.length=i.size∧0<i.size then
   (if !m∧l=0 then some { v:=V.sl (some (ub,i.size)) false 0 [],add:=[ub] } else Jg d ub (.cells (QX l.toNat zs)) (.osl d ub 0 l.toNat i.size)) else none
  | _,_=>none)=some δ):XB P E w0 I0 nt γ I st a w o ub δ:=by
 have K:=j9 G L
 have u:=j9 G Q
 split at q
 ·rename_i l c hl hc
  rw[hl]at K
  rw[hc]at u
  have hX:=jw K
  have hY:=jw u
  split at q
  ·rename_i r
   obtain⟨h0,N,hb,b0,s,a0⟩:=r
   obtain⟨i',z,H,O,D,p⟩:=YA (I:=I) hz
   rw[hi]at H
   cases H
   have S:(i.bytes:Int)*c≤281474976710656:=by rw[Int.mul_comm];omega
   have J:=run_make (P:=P) w t e i z hu hi O .i64 .i64 l c h0 N S zO
   have f:(execOp a.eval o).run P w=.ok (.value (.slice (some ⟨w.heap.size,0,none⟩) l.toNat c.toNat)) (w.alloc (.cells (madeCells z.cells (c.toNat*i.size)) e)):=by
    simp only[execOp,ho,Sem.run_bind,hX,hY,J,Result.andThen_ok,Sem.run_pure]
   have B:c.toNat≤maxLen:=by simp only[maxLen];omega
   split at q
   ·rename_i M
    obtain⟨_,rfl⟩:=M
    refine jmn G Z X (b:=w.heap.size) (n:=0) (cap:=c.toNat) (sz:=i.size) (cs:=[]) (w':=w.alloc _) (del:=none) (arr:=madeCells z.cells (c.toNat*i.size)) (e:=e)
     f (.inl ⟨rfl,zS⟩) ⟨rfl,rfl,rfl⟩ (fun k hk _=>heap_alloc_old _ _ _ hk) (heap_alloc_new _ _) (size_madeCells _ _) (Nat.zero_le _) B (fun j y Q=>?_) zS (fun j v T=>by simp at T) q
    exact absurd (World.block_lt_of_cell? _ _ (G.imm _ _ _ Q)) (Nat.lt_irrefl _)
   ·have F:=jc2 (γ:=γ) (I:=I) D p c.toNat (.inr zO)
    have g:l.toNat≤c.toNat:=zO
    refine Yj G Z X (x:=.slice (some ⟨w.heap.size,0,none⟩) l.toNat c.toNat) (k:=.n (c.toNat*i.size)) (body:=.cells (QX l.toNat zs)) f rfl
     (fun b5 h=>.osl _ _ _ _ _ _ _ _ _ h (fun _=>⟨rfl,by show 0+c.toNat*i.size≤c.toNat*i.size;omega⟩) g B) ⟨_,e,rfl,size_madeCells _ _,?_,fun j x v L T=>?_⟩ q
    ·simp only[QX,List.length_map,List.length_range,s]
     exact Nat.mul_le_mul_right _ g
    ·refine F.2 j x v ?_ (jv8 g T)
     rw[← s]at L
     exact L
  ·cases q
 ·cases q
end
theorem jgl:∀ (l:List UInt8) (c:UInt8),jby l c=Lib.indexByte l c
  | [],_=>rfl
  | b::l,c=>by simp only[jby,Lib.indexByte,jgl l c]
section
variable {P:Program}{E:Env}{w0 w:World}{I0:IMap}{nt:Nat}{γ:Nat→Option Place}{I:IMap}{st:St}{a:Act}{o:Oper}{ub:Nat}{δ:Delta}
theorem jn5      {fn:Func} {k:ExtK} (ho:fn.origin = "") (hn:(fn.name = "internal/bytealg.CountString" ∧k = .count)∨(fn.name = "internal/bytealg.IndexByteString" ∧k = .indexByte)) :
    Extern.findNext fn=none∧Extern.find fn=some (match k with|.count=>Extern.BytealgCount.count|.indexByte=>Extern.BytealgIndexByte.indexByte):=by
  rcases hn with⟨h,rfl⟩|⟨h,rfl⟩
  · constructor
    · unfold Extern.findNext
      simp only[ho,h]
      rfl
    · unfold Extern.find
      simp only[ho,h]
      rfl
  · constructor
    · unfold Extern.findNext
      simp only[ho,h]
      rfl
    · unfold Extern.find
      simp only[ho,h]
      rfl
end
section
variable {P:Program}{E:Env}{w0 w:World}{I0:IMap}{nt:Nat}{γ:Nat→Option Place}{I:IMap}{st:St}{a:Act}{o:Oper}{ub:Nat}{δ:Delta}
theorem any_beq {l:List Nat}{k:Nat}:l.any (Nat.beq k)=true ↔ k∈l:=by
 rw[List.any_eq_true]
 constructor
 ·rintro⟨x,b,h⟩;exact(Nat.eq_of_beq_eq_true h)▸b
 ·intro h;exact⟨k,h,Nat.beq_refl k⟩
theorem jzr (s:R E w0 I0 nt γ I st a w) (hd:∀d,o.dst=some d→d<nt) (hf:γ ub=none) {b d:Nat}{k:Kd}{cs:List V}{x:Value}{v:V}{w':World}{kill:List Nat}
 (b5:(execOp a.eval o).run P w=.ok (.value x) w')
 (hb:(b=w.heap.size∧w'.heap.size=w.heap.size+1)∨(∃K X J k0,st.ob K=some ⟨X,.cells J⟩∧γ X=some (.obj b k0)∧K∈kill∧Nat.ble st.ro X=true∧w'.heap.size=w.heap.size))
 (Q:w'.os=w.os∧w'.tape=w.tape∧w'.output=w.output) (hk:∀k,k<w.heap.size→k≠b→w'.heap[k]? = w.heap[k]?)
 (hx:∀b0:Nat→Option Place,b0 ub=some (.obj b k)→Rep b0 I x v) (r:ObjOk γ I st.ob w.heap k w'.heap[b]? (.cells cs))
 (Z:some { v:=v,obs:=[(d,⟨ub,.cells cs⟩)],kill:=kill } = some δ):XB P E w0 I0 nt γ I st a w o ub δ:=by
 simp only[Option.some.injEq]at Z
 subst Z
 obtain⟨Ω,z⟩:=s.own
 have g:=WD (f:=γ) (k:=ub) (v:=Place.obj b k) hf
 have c0:(st.app o.dst { v:=v,obs:=[(d,⟨ub,.cells cs⟩)],kill:=kill }).ob=upd (fun k=>if kill.any (Nat.beq k) then none else st.ob k) d (some ⟨ub,.cells cs⟩):=by
  simp only[St.app,JK]
 have q:∀l x,l≠d→(upd (fun k=>if kill.any (Nat.beq k) then none else st.ob k) d (some ⟨ub,.cells cs⟩)) l=some x→st.ob l=some x∧l ∉ kill:=by
  intro l x p D
  rw[J9 _ _ p]at D
  split at D
  ·cases D
  ·rename_i h;exact⟨D,fun hm=>h (any_beq.2 hm)⟩
 have hB:w0.heap.size≤b:=by
  rcases hb with⟨h,_⟩|⟨K,X,J,k0,U,h2,_,h4,_⟩
  ·rw[h];exact s.fr.size
  ·obtain⟨i,k',H,q2,q3,_⟩:=z.ob K _ U
   rw[h2]at H
   cases H
   exact q3 (by simpa[Nat.ble_eq] using h4)
 have b7:w.heap.size≤w'.heap.size:=by rcases hb with⟨_,h⟩|⟨_,_,_,_,_,_,_,_,h⟩ <;> omega
 have L:=r
 obtain⟨arr,e,b6,_,_,_⟩:=L
 have b9:b<w'.heap.size:=(Array.getElem?_eq_some_iff.1 b6).1
 have a0:∀j,I b j=none:=by
  intro j
  rcases hb with⟨h,_⟩|⟨K,X,J,k0,U,h2,_,h4,_⟩
  ·cases hj:I b j with
   | none=>rfl
   | some y=>exact absurd (World.block_lt_of_cell? _ _ (s.imm _ _ _ hj)) (by rw[h];exact Nat.lt_irrefl _)
  ·obtain⟨i,k',H,_,_,_,q5⟩:=z.ob K _ U
   rw[h2]at H
   cases H
   exact q5 j
 have G:∀i ow,Ω i=some ow→(∀l,ow=.ob l→l ∉ kill)→i≠b:=by
  intro i ow U h2 e
  subst e
  rcases hb with⟨h,_⟩|⟨K,X,J,k0,H,q2,q3,_,_⟩
  ·have:=z.lt _ _ U;omega
  ·obtain⟨i,k',r1,r2,_⟩:=z.ob K _ H
   rw[q2]at r1
   cases r1
   rw[U]at r2
   cases r2
   exact h2 K rfl q3
 have F:Xm γ st.ob (upd (fun k=>if kill.any (Nat.beq k) then none else st.ob k) d (some ⟨ub,.cells cs⟩)) w.heap w'.heap:=by
  intro l2 u2 c3 c5 mb mk b8 B
  by_cases p:l2=d
  ·subst p
   simp at B
  ·obtain⟨B,M⟩:=q l2 _ p B
   refine .inl ⟨B,fun m c c1=>?_⟩
   obtain⟨b2,c4,H,q2,_⟩:=z.ob l2 _ B
   rw[b8]at H
   cases H
   rw[hk mb (z.lt _ _ q2) (G mb _ q2 (fun l h=>by cases h;exact M))]
   exact c1
 refine⟨x,w',upd γ ub (some (.obj b k)),I,.inl b5,⟨(Ye _ _ _).trans s.sz,jcm s g _ _,?_,⟨?_,s.gl,⟨upd Ω b (some (.ob d)),⟨?_,?_,?_⟩⟩,?_,s.old⟩⟩,?_,g,fun _ _ _ h=>h⟩
 ·exact Wj (by rw[s.sz];exact hd) (fun t=>(s.tm t).mono g (fun _ _ _ h=>h)) (hx _ zS)
 ·intro i j y hy
  have n:i≠b:=fun h=>by rw[h,a0]at hy;cases hy
  have hc:=s.imm _ _ _ hy
  rw[World.cell?_of_block (w:=w) (w':=w') (a:=⟨i,j,none⟩) (hk i (World.block_lt_of_cell? _ _ hc) n)]
  exact hc
 ·intro l ob D
  rw[c0]at D ⊢
  by_cases p:l=d
  ·subst p
   simp only[Yc,Option.some.injEq]at D
   subst D
   exact⟨b,k,zS,zS,fun _=>hB,(ObjOk.keep r F).mono g (fun _ _ _ h=>h),a0⟩
  ·obtain⟨D,M⟩:=q l _ p D
   obtain⟨i,k',k1,O,k3,k4,k5⟩:=z.ob l ob D
   have n:=G i _ O (fun l h=>by cases h;exact M)
   refine⟨i,k',g _ _ k1,by rw[J9 _ _ n];exact O,k3,?_,k5⟩
   rw[hk i (z.lt _ _ O) n]
   exact(k4.keep F).mono g (fun _ _ _ h=>h)
 ·intro u hu
  have c2:st.tk u=true:=by simpa[St.app,XQ] using hu
  obtain⟨i,n',c',s',k1,O,k3,k4,k5⟩:=z.tk u c2
  have n:=G i _ O (fun l h=>by cases h)
  refine⟨i,n',c',s',g _ _ k1,by rw[J9 _ _ n];exact O,k3,?_,k5⟩
  rw[hk i (z.lt _ _ O) n]
  exact k4
 ·intro i ow N
  rw[j3]at N
  split at N
  ·rename_i h;subst h;exact b9
  ·have:=z.lt i _ N;omega
 ·exact Grow.frame s.fr (T:=fun k=>k=b) ⟨Q.1,Q.2.1,Q.2.2,b7,fun k S n=>hk k S n,fun k S=>S▸hB⟩
 ·intro u hu
  exact J9 _ _ (fun e=>hu ⟨zO,zO⟩)
theorem jbc {cs ys:List V}{arr:Array Value}{k:Nat}(f:cs.length=k) (d:∀ (j:Nat) (x:Value) (v:V),arr[j]? = some x→cs[j]? = some v→v.leaf=true∧Rep γ I x v)
 (e:∀ (j:Nat) (x:Value) (v:V),arr[k+j]? = some x→ys[j]? = some v→v.leaf=true∧Rep γ I x v) :
 ∀ (j:Nat) (x:Value) (v:V),arr[j]? = some x→(cs++ys)[j]? = some v→v.leaf=true∧Rep γ I x v:=by
 intro j x v c b
 by_cases g:j<k
 ·rw[List.getElem?_append_left zO]at b
  exact d j x v c b
 ·rw[List.getElem?_append_right zO]at b
  refine e (j - cs.length) x v ?_ b
  rw[f,show k+(j - k)=j by omega]
  exact c
theorem jf7 (hR:R E w0 I0 nt γ I st a w) (hd:∀d,o.dst=some d→d<nt) (hf:γ ub=none) {t e:TypeId}{s x:Operand}{s' x':A}{i:TypeInfo}{z:Value}{d:Nat}(ho:o.op=.call { callee:=.builtin .append,args:=#[s,x],argTypes:=#[t,t] })
 (hs:opd s=some s') (p:opd x=some x') (hu:P.underlying t=some (.slice e)) (hi:P.info? e=some i) (hz:i.zero=some z) (c1:0<i.size) (e8:z.cells.size=i.size)
 {ys:List V}(d4:slCells st.ob i.size (eval E st.tm x')=some ys)
 (ha:(∃t0 n cs,eval E st.tm s'=.sl t0 true n cs∧ys≠[]∧ys.all V.leaf=true∧(ys.length / i.size)*i.bytes≤140737488355328∧ys.length / i.size≤140737488355328 ∧
  Jg d ub (.cells ys) (.osl d ub 0 (ys.length / i.size) i.size)=some δ) ∨
  ∃l u off n Z cs,eval E st.tm s'=.osl l u off n Z∧objCells st.ob l u=some cs ∧
   (if ys=[] then one (.osl l u off n Z) else
   if Nat.ble st.ro u=true∧Z=i.size∧off=0∧n*i.size≤cs.length∧0<i.size∧ys.all V.leaf=true∧(n+ys.length / i.size)*i.bytes≤140737488355328∧n+ys.length / i.size≤140737488355328 then
    some { v:=V.osl d ub 0 (n+ys.length / i.size) i.size,obs:=[(d,⟨ub,.cells (cs.take (n*i.size)++ys)⟩)],kill:=[l] } else none)=some δ):XB P E w0 I0 nt γ I st a w o ub δ:=by
 have S:=j9 hR hs
 have d8:=j9 hR p
 have H:∀ (v:Value) (w':World),(Builtin.append_ #[t,t] o.type #[a.eval s,a.eval x]).run P w=.ok v w'→(execOp a.eval o).run P w=.ok (.value v) w':=by
  intro v w' h
  simp only[execOp,ho,resolve,Sem.run_bind,Sem.run_pure,Result.andThen_ok,invoke,builtin,List.map_toArray,List.map_cons,List.map_nil,h]
 -- what is appended
 have b6:ys≠[]→ys.all V.leaf=true→∃ (O:Addr) (m c:Nat) (f:List Value),a.eval x=.slice (some O) m c∧m≤c∧ys.length=m*i.size∧0<m∧ys.length / i.size=m∧f.length=m*i.size ∧
  (∀ (j:Nat) (u:Value),f[j]? = some u→w.cell? (O.add j)=some u)∧(∀ (j:Nat) (x:Value) (v:V),f[j]? = some x→ys[j]? = some v→v.leaf=true∧Rep γ I x v)∧(∀u∈f,u.oneCell'=true):=by
  intro L hp
  rcases jg5 hR d8 d4 hp c1 with⟨_,h⟩|⟨O,m,c,f,hX,c2,q,B,g,M,a0⟩
  ·exact absurd h L
  ·have b0:0<m:=by
    rcases Nat.eq_zero_or_pos m with h|h
    ·subst h
     simp only[Nat.zero_mul]at q
     exact absurd (List.eq_nil_of_length_eq_zero q) L
    ·exact h
   exact⟨O,m,c,f,hX,c2,q,b0,by rw[q];exact Nat.mul_div_cancel _ c1,zO,g,fun j x v p y=>⟨List.all_eq_true.1 hp v (List.mem_of_getElem? y),M j x v p y⟩,a0⟩
 -- a new row
 have Q:∀ (D:List Value) (cs:List V) (n m old:Nat) (f:List Value) (kill:List Nat),D.length=n*i.size→cs.length=n*i.size→f.length=m*i.size→ys.length=m*i.size→ys.length / i.size=m→n+m≤140737488355328 →
  (∀ (j:Nat) (x:Value) (v:V),D[j]? = some x→cs[j]? = some v→v.leaf=true∧Rep γ I x v)→(∀ (j:Nat) (x:Value) (v:V),f[j]? = some x→ys[j]? = some v→v.leaf=true∧Rep γ I x v) →
  (Builtin.append_ #[t,t] o.type #[a.eval s,a.eval x]).run P w=.ok (.slice (some ⟨w.heap.size,0,none⟩) (n+m) (grownCap w (n+m) old e)) (w.drew.alloc (.cells (D.toArray++f.toArray++Builtin.zeroCells z.cells (grownCap w (n+m) old e - (n+m))) e)) →
  some { v:=V.osl d ub 0 (n+ys.length / i.size) i.size,obs:=[(d,⟨ub,.cells (cs++ys)⟩)],kill:=kill } = some δ→XB P E w0 I0 nt γ I st a w o ub δ:=by
  intro D cs n m old f kill T c9 B q hm b5 J g r U
  have d2:=grownCap_ge w (n+m) old e
  have c6:=grownCap_le_maxLen w (n+m) old e (by simp only[maxLen];omega)
  rw[hm]at U
  have c5:(D.toArray++f.toArray++Builtin.zeroCells z.cells (grownCap w (n+m) old e - (n+m))).size=grownCap w (n+m) old e*i.size:=by
   simp only[Array.size_append,List.size_toArray,size_zeroCells,e8,T,B,← Nat.add_mul]
   congr 1
   omega
  refine jzr hR hd hf (b:=w.heap.size) (k:=.n (grownCap w (n+m) old e*i.size)) (H _ _ r) (.inl ⟨rfl,zS⟩) ⟨rfl,rfl,rfl⟩ (fun k hk _=>heap_alloc_old w.drew _ k hk)
   (fun e6 h=>.osl _ _ _ _ _ _ _ _ _ h (fun _=>⟨rfl,by rw[Nat.zero_add];exact Nat.le_refl _⟩) d2 c6) ?_ U
  refine⟨_,e,heap_alloc_new w.drew _,c5,?_,?_⟩
  ·show(cs++ys).length≤grownCap w (n+m) old e*i.size
   rw[List.length_append,c9,q,← Nat.add_mul]
   exact Nat.mul_le_mul_right _ d2
  ·refine jbc c9 (fun j x v p y=>?_) (fun j x v p y=>?_)
   ·have K:j<D.length:=by have:=(List.getElem?_eq_some_iff.1 y).1;omega
    rw[Array.getElem?_append_left (by simp;omega),Array.getElem?_append_left (by simpa using K)]at p
    exact J j x v (by simpa using p) y
   ·have K:j<f.length:=by have:=(List.getElem?_eq_some_iff.1 y).1;omega
    rw[Array.getElem?_append_left (by simp;omega),Array.getElem?_append_right (by simp;omega)]at p
    simp only[List.size_toArray,T,Nat.add_sub_cancel_left]at p
    exact g j x v (by simpa using p) y
 rcases ha with⟨t0,n,cs,c4,L,hp,b9,b5,U⟩|⟨l,u,off,n,Z,cs,c4,e5,ha⟩
 ·obtain⟨O,m,c,f,hX,c2,q,b0,hm,B,g,M,a0⟩:=b6 L hp
  rw[c4]at S
  rw[hm]at b9 b5
  have hS:a.eval s=.slice none 0 0:=by
   rcases Xt S with⟨h,_⟩|⟨_,_,_,_,h,_⟩
   ·exact h
   ·cases h
  have e7:m*i.bytes≤281474976710656:=zO
  have r:=run_append_nil (P:=P) w t o.type e i z hu hi hz O m c f B g b0 zO e7
  refine Q [] [] 0 m 0 f [] zS zS B q hm zO (fun j x v p=>by simp at p) M ?_ ?_
  ·rw[hS,hX,Nat.zero_add,r];simp
  ·rw[← U]
   simp[Jg]
 ·rw[c4]at S
  have d9:=S
  obtain⟨b,kb,X,N,e1,hS,c8,hc,c6⟩:=Xf S
  split at ha
  ·rename_i d6
   subst d6
   have hX:a.eval x=.slice none 0 0∨∃O c,a.eval x=.slice (some O) 0 c:=by
    rcases jg5 hR d8 d4 rfl c1 with⟨h,_⟩|⟨O,m,c,f,h,_,hl,_⟩
    ·exact .inl h
    ·have:m=0:=by
      simp only[List.length_nil]at hl
      rcases Nat.mul_eq_zero.1 hl.symm with h|h <;> omega
     subst this
     exact .inr ⟨O,c,h⟩
   refine jS hR hd (x:=a.eval s) (H _ _ ?_) d9 ha
   rw[hS]
   exact Wi t o.type e i hu hi (some X) n N hc _ hX
  ·rename_i L
   split at ha
   case isFalse=>cases ha
   rename_i c3
   obtain⟨e4,c5,d7,e9,_,hp,b9,b5⟩:=c3
   subst c5
   subst d7
   obtain⟨O,m,c,f,hX,c2,q,b0,hm,B,g,M,a0⟩:=b6 L hp
   have e2:=b5
   have b8:=b9
   rw[hm]at b8 e2
   have e0:=jX e5
   obtain⟨arr,e',g1,g2,g3,g4⟩:=Wm hR e0 e1
   have c0:(cs.take (n*i.size)).length=n*i.size:=by rw[List.length_take];omega
   have b7:∀j,j<n*i.size→arr[j]? = some (arr.getD j undef):=by
    intro j K
    have:j<arr.size:=zO
    simp[this]
   have d3:0<n*i.size→X=⟨b,0,none⟩:=fun h=>(c8 (by
    rcases Nat.eq_zero_or_pos n with h0|h0
    ·subst h0;simp at h
    ·omega)).1
   by_cases F:n+m≤N
   ·have c7:0<N:=zO
    obtain⟨e3,G⟩:=c8 c7
    rw[Nat.zero_add]at G
    have d1:n*i.size+f.length≤arr.size:=by rw[B,g2,← Nat.add_mul];exact Nat.le_trans (Nat.mul_le_mul_right _ F) G
    have d0:=ha
    rw[hm]at d0
    have r:=WX (P:=P) (w:=w) t o.type e e' i hu hi b n N arr g1 O m c f B g a0 F d1
    refine jzr hR hd hf (b:=b) (k:=kb) (w':=w.setRow b _) (H _ _ (by rw[hS,hX,e3];exact r)) (.inr ⟨l,u,cs,kb,e0,e1,List.mem_singleton.2 rfl,e4,zS⟩) ⟨rfl,rfl,rfl⟩
     (fun k _ hk=>setRow_other w _ k _ hk) (fun e6 h=>.osl _ _ _ _ _ _ _ _ _ h (fun _=>⟨rfl,by rw[Nat.zero_add];exact G⟩) F c6) ?_ d0
    refine⟨_,e',setRow_heap w _ arr _ e' _ g1,?_,?_,?_⟩
    ·rw[← g2]
     simp only[List.size_toArray,List.length_append,List.length_take,List.length_drop,Array.length_toList]
     omega
    ·rw[List.length_append,c0,q,← Nat.add_mul]
     exact Nat.le_trans (Nat.mul_le_mul_right _ F) G
    ·refine jbc c0 (fun j x v p y=>?_) (fun j x v p y=>?_)
     ·have K:j<n*i.size:=by have:=(List.getElem?_eq_some_iff.1 y).1;omega
      simp only[List.getElem?_toArray]at p
      rw[List.append_assoc,List.getElem?_append_left (by simp only[List.length_take,Array.length_toList];omega),List.getElem?_take_of_lt K]at p
      rw[List.getElem?_take_of_lt K]at y
      exact g4 j x v (by simpa using p) y
     ·have K:j<f.length:=by have:=(List.getElem?_eq_some_iff.1 y).1;omega
      simp only[List.getElem?_toArray]at p
      rw[List.getElem?_append_left (by simp only[List.length_append,List.length_take,Array.length_toList];omega),List.getElem?_append_right (by simp only[List.length_take,Array.length_toList];omega)]at p
      have hq:n*i.size+j - (List.take (n*i.size) arr.toList).length=j:=by simp only[List.length_take,Array.length_toList];omega
      rw[hq]at p
      exact M j x v p y
   ·have J:∀ (j:Nat) (v:Value),((List.range (n*i.size)).map fun j=>arr.getD j undef)[j]? = some v→w.cell? (X.add j)=some v:=by
     intro j v y
     simp only[List.getElem?_map,Option.map_eq_some_iff]at y
     obtain⟨k,hk,rfl⟩:=y
     have K:j<n*i.size:=by have:=(List.getElem?_eq_some_iff.1 hk).1;simpa using this
     rw[List.getElem?_range K]at hk
     cases hk
     rw[d3 zO,XH,Nat.zero_add]
     simp only[World.cell?,g1,Option.isSome_none,Bool.false_eq_true,if_false]
     exact b7 j K
    have d5:((List.range (n*i.size)).map fun j=>arr.getD j undef).length=n*i.size:=zS
    have r:=run_append_grow (P:=P) w t o.type e i z hu hi hz X n N _ d5 J O m c f B g zO zO (growslice_fits zO b8)
    refine Q _ _ n m N f [l] d5 c0 B q hm zO (fun j x v p y=>?_) M (by rw[hS,hX];exact r) ha
    have K:j<n*i.size:=by have:=(List.getElem?_eq_some_iff.1 y).1;omega
    rw[List.getElem?_take_of_lt K]at y
    simp only[List.getElem?_map,List.getElem?_range K,Option.map_some,Option.some.injEq]at p
    subst p
    exact g4 j _ v (b7 j K) y
end
end Go.Pv
